import PyProof.Rows.All
import Wide.All
import OpenK.AllK
import Wide.FinOn
import HandS.ForMost
import HandS.Conv
import HandS.Walk
import HandS.IsInst
import HandS.Deep
import HandS.Wide
import KE.GoesMore
import KE.GoesEnum
import HandS.Zip
import HandS.Style
import HandS.SortRule
import HandS.SortInts
import HandS.Star
import HandS.More
import KE.KDictCopyH
import KE.KDictPairs
import PySem.Challenge.RW_firmframes_k14_whole_free_rods_and_ranks
set_option Elab.async false
set_option linter.all false
set_option maxRecDepth 100000
/-! DL1: data without addresses over the hand layer. -/
namespace DL
open PySem PySem.Spec PyProof.Rows L2

/-- a value: tuples, and lists and dicts that nobody changes any more, by what they hold -/
inductive D where
  | non | bl (b : Bool) | int (i : Int) | str (x : Str)
  | tup (xs : List D) | lst (xs : List D) | dct (ks : List Key) (vs : List D)
  | ref (a : Addr) | ty (n : String)

/-- what stands at an address that may be changed -/
inductive DO where
  | lst (xs : List D) | dK (kvs : List (Key × D)) | dT (kvs : List (List Key × D)) | src | scr (xs : List D) | lkK (kvs : List (Key × D)) (h : HO) | lkT (kvs : List (List Key × D)) (h : HO)
abbrev DHp := Addr → Option DO
abbrev DK := D → DHp → Prop

mutual
/-- v is d, by the frozen things T -/
def RepV (T : Hp) : D → V → Prop
  | .non, v => v = .non
  | .bl b, v => v = .bl b
  | .int i, v => v = .int i
  | .str x, v => v = .str x
  | .ref a, v => v = .ref a
  | .ty n, v => v = .ty n
  | .tup ds, v => ∃ p vs, v = .ref p ∧ T p = some (.tup vs) ∧ RepL T ds vs
  | .lst ds, v => ∃ p vs, v = .ref p ∧ T p = some (.lst vs) ∧ RepL T ds vs
  | .dct ks ds, v => ∃ p kvs, v = .ref p ∧ T p = some (.dK kvs) ∧ kvs.map (·.1) = ks ∧ RepL T ds (kvs.map (·.2))
def RepL (T : Hp) : List D → List V → Prop
  | [], vs => vs = []
  | d :: ds, vs => ∃ v r, vs = v :: r ∧ RepV T d v ∧ RepL T ds r
end

theorem Rd.up {T T' : Hp} {p : Addr} {u : HO} (s : Same T T') (h : Rd T p u) : Rd T' p u := by
  rcases h with h | ⟨o, h⟩
  · exact .inl (s _ _ h)
  · exact .inr ⟨o, s _ _ h⟩
mutual
theorem RepV.up {T T' : Hp} (s : Same T T') : ∀ (d : D) (v : V), RepV T d v → RepV T' d v
  | .non, _, h => h
  | .bl _, _, h => h
  | .int _, _, h => h
  | .str _, _, h => h
  | .ref _, _, h => h
  | .ty _, _, h => h
  | .tup ds, _, ⟨p, vs, e, t, r⟩ => ⟨p, vs, e, s _ _ t, RepL.up s ds vs r⟩
  | .lst ds, _, ⟨p, vs, e, t, r⟩ => ⟨p, vs, e, s _ _ t, RepL.up s ds vs r⟩
  | .dct ks ds, _, ⟨p, kvs, e, t, k, r⟩ => ⟨p, kvs, e, s _ _ t, k, RepL.up s ds _ r⟩
theorem RepL.up {T T' : Hp} (s : Same T T') : ∀ (ds : List D) (vs : List V), RepL T ds vs → RepL T' ds vs
  | [], _, h => h
  | d :: ds, _, ⟨v, r, e, h1, h2⟩ => ⟨v, r, e, RepV.up s d v h1, RepL.up s ds r h2⟩
end
/-- T but for a thing that is being made at p -/
def But (p : Addr) (T T' : Hp) : Prop := (∃ ob u, T p = some (.frz ob u)) ∧ ∀ q, q ≠ p → T' q = T q
theorem But.at {T T' : Hp} {p : Addr} (b : But p T T') {q : Addr} {o : HO} (e : T q = some o) (n : ∀ ob u, o ≠ .frz ob u) : T' q = some o := by
  obtain ⟨⟨ob, u, h⟩, b⟩ := b
  rw [b q (fun z => by subst z; rw [h] at e; cases e; exact n _ _ rfl)]
  exact e
mutual
theorem RepV.but {T T' : Hp} {p : Addr} (b : But p T T') : ∀ (d : D) (v : V), RepV T d v → RepV T' d v
  | .non, _, h => h
  | .bl _, _, h => h
  | .int _, _, h => h
  | .str _, _, h => h
  | .ref _, _, h => h
  | .ty _, _, h => h
  | .tup ds, _, ⟨p, vs, e, t, r⟩ => ⟨p, vs, e, b.at t (fun _ _ z => by cases z), RepL.but b ds vs r⟩
  | .lst ds, _, ⟨p, vs, e, t, r⟩ => ⟨p, vs, e, b.at t (fun _ _ z => by cases z), RepL.but b ds vs r⟩
  | .dct ks ds, _, ⟨p, kvs, e, t, k, r⟩ => ⟨p, kvs, e, b.at t (fun _ _ z => by cases z), k, RepL.but b ds _ r⟩
theorem RepL.but {T T' : Hp} {p : Addr} (b : But p T T') : ∀ (ds : List D) (vs : List V), RepL T ds vs → RepL T' ds vs
  | [], _, h => h
  | d :: ds, _, ⟨v, r, e, h1, h2⟩ => ⟨v, r, e, RepV.but b d v h1, RepL.but b ds r h2⟩
end
theorem But.upd {T : Hp} {p : Addr} {ob : Obj} {u : HO} (h : T p = some (.frz ob u)) (o : HO) : But p T (upd T p o) := ⟨⟨ob, u, h⟩, fun q n => upd_ne n⟩
theorem RepL.nil {T : Hp} : RepL T [] [] := rfl
theorem RepL.cons {T : Hp} {d : D} {ds : List D} {v : V} {vs : List V} (h : RepV T d v) (r : RepL T ds vs) : RepL T (d :: ds) (v :: vs) := ⟨v, vs, rfl, h, r⟩
theorem RepL.length {T : Hp} : ∀ {ds : List D} {vs : List V}, RepL T ds vs → vs.length = ds.length
  | [], _, h => by cases (show _ = [] from h); rfl
  | d :: ds, _, ⟨v, r, e, _, h2⟩ => by subst e; simp [RepL.length h2]
theorem RepL.append {T : Hp} : ∀ {ds es : List D} {vs ws : List V}, RepL T ds vs → RepL T es ws → RepL T (ds ++ es) (vs ++ ws)
  | [], _, _, _, h, r => by cases (show _ = [] from h); exact r
  | d :: ds, _, _, _, ⟨v, q, e, h1, h2⟩, r => by subst e; exact .cons h1 (RepL.append h2 r)
theorem RepL.get {T : Hp} : ∀ {ds : List D} {vs : List V} {i : Nat} {d : D}, RepL T ds vs → ds[i]? = some d → ∃ v, vs[i]? = some v ∧ RepV T d v
  | [], _, _, _, _, e => by simp at e
  | d :: ds, _, 0, _, ⟨v, r, e, h1, _⟩, q => by subst e; simp at q; subst q; exact ⟨v, by simp, h1⟩
  | d :: ds, _, i + 1, x, ⟨v, r, e, _, h2⟩, q => by
    subst e
    obtain ⟨w, a, b⟩ := RepL.get (i := i) (d := x) h2 (by simpa using q)
    exact ⟨w, by simpa using a, b⟩
theorem RepL.take {T : Hp} : ∀ {ds : List D} {vs : List V} (n : Nat), RepL T ds vs → RepL T (ds.take n) (vs.take n)
  | _, _, 0, _ => by simp only [List.take_zero]; exact .nil
  | [], _, _ + 1, h => by cases (show _ = [] from h); exact .nil
  | d :: ds, _, n + 1, ⟨v, r, e, h1, h2⟩ => by subst e; exact .cons h1 (RepL.take n h2)
theorem RepL.drop {T : Hp} : ∀ {ds : List D} {vs : List V} (n : Nat), RepL T ds vs → RepL T (ds.drop n) (vs.drop n)
  | _, _, 0, h => h
  | [], _, _ + 1, h => by cases (show _ = [] from h); exact .nil
  | d :: ds, _, n + 1, ⟨v, r, e, h1, h2⟩ => by subst e; exact RepL.drop n h2
theorem RepL.set {T : Hp} {d : D} {v : V} (h : RepV T d v) : ∀ {ds : List D} {vs : List V} (n : Nat), RepL T ds vs → RepL T (ds.set n d) (vs.set n v)
  | [], _, _, r => by cases (show _ = [] from r); exact .nil
  | _ :: _, _, 0, ⟨w, r, e, h1, h2⟩ => by subst e; exact .cons h h2
  | _ :: _, _, n + 1, ⟨w, r, e, h1, h2⟩ => by subst e; exact .cons h1 (RepL.set h n h2)
theorem RepL.dropLast {T : Hp} {ds : List D} {vs : List V} (h : RepL T ds vs) : RepL T ds.dropLast vs.dropLast := by
  rw [List.dropLast_eq_take, List.dropLast_eq_take, h.length]
  exact h.take _
theorem RepL.eraseIdx {T : Hp} : ∀ {ds : List D} {vs : List V} (n : Nat), RepL T ds vs → RepL T (ds.eraseIdx n) (vs.eraseIdx n)
  | [], _, _, r => by cases (show _ = [] from r); exact .nil
  | _ :: _, _, 0, ⟨w, r, e, h1, h2⟩ => by subst e; exact h2
  | _ :: _, _, n + 1, ⟨w, r, e, h1, h2⟩ => by subst e; exact .cons h1 (RepL.eraseIdx n h2)
theorem RepL.reverse {T : Hp} : ∀ {ds : List D} {vs : List V}, RepL T ds vs → RepL T ds.reverse vs.reverse
  | [], _, h => by cases (show _ = [] from h); exact .nil
  | d :: ds, _, ⟨v, r, e, h1, h2⟩ => by
    subst e
    rw [List.reverse_cons, List.reverse_cons]
    exact (RepL.reverse h2).append (.cons h1 .nil)
theorem RepL.ints {T : Hp} : ∀ (ns : List Int), RepL T (ns.map D.int) (ns.map V.int)
  | [] => .nil
  | _ :: ns => .cons rfl (RepL.ints ns)
theorem RepL.ints_inv {T : Hp} : ∀ {ns : List Int} {vs : List V}, RepL T (ns.map D.int) vs → vs = ns.map V.int
  | [], _, h => h
  | n :: ns, _, ⟨v, r, e, h1, h2⟩ => by
    subst e
    rw [show v = V.int n from h1, RepL.ints_inv h2]
    rfl
theorem RepL.bls_inv {T : Hp} : ∀ {ns : List Bool} {vs : List V}, RepL T (ns.map D.bl) vs → vs = ns.map V.bl
  | [], _, h => h
  | n :: ns, _, ⟨v, r, e, h1, h2⟩ => by
    subst e
    rw [show v = V.bl n from h1, RepL.bls_inv h2]
    rfl

def KVR (T : Hp) {κ : Type} (xs : List (κ × D)) (ys : List (κ × V)) : Prop := ys.map (·.1) = xs.map (·.1) ∧ RepL T (xs.map (·.2)) (ys.map (·.2))
/-- the object o stands for x -/
def RepO (T : Hp) : DO → HO → Prop
  | .lst ds, o => ∃ vs, o = .lst vs ∧ RepL T ds vs
  | .dK xs, o => ∃ ys, o = .dK ys ∧ KVR T xs ys
  | .dT xs, o => ∃ ys, o = .dT ys ∧ KVR T xs ys
  | .src, _ => False
  | .scr ds, o => ∃ ob vs, o = .frz ob (.lst vs) ∧ RepL T ds vs
  | .lkK xs h, o => o = h ∧ ∃ ob ys, h = .frz ob (.dK ys) ∧ KVR T xs ys
  | .lkT xs h, o => o = h ∧ ∃ ob ys, h = .frz ob (.dT ys) ∧ KVR T xs ys
theorem KVR.up {T T' : Hp} {κ : Type} {xs : List (κ × D)} {ys : List (κ × V)} (s : Same T T') (h : KVR T xs ys) : KVR T' xs ys := ⟨h.1, RepL.up s _ _ h.2⟩
theorem RepO.up {T T' : Hp} (s : Same T T') : ∀ {x : DO} {o : HO}, RepO T x o → RepO T' x o
  | .lst _, _, ⟨vs, e, r⟩ => ⟨vs, e, RepL.up s _ _ r⟩
  | .dK _, _, ⟨vs, e, r⟩ => ⟨vs, e, r.up s⟩
  | .dT _, _, ⟨vs, e, r⟩ => ⟨vs, e, r.up s⟩
  | .src, _, h => h.elim
  | .scr _, _, ⟨ob, vs, e, r⟩ => ⟨ob, vs, e, RepL.up s _ _ r⟩
  | .lkK _ _, _, ⟨e0, ob, vs, e, r⟩ => ⟨e0, ob, vs, e, r.up s⟩
  | .lkT _ _, _, ⟨e0, ob, vs, e, r⟩ => ⟨e0, ob, vs, e, r.up s⟩

/-- a source of draws: its dict, and its list of cells at c -/
def SrcAt (H : Hp) (a c : Addr) : Prop := ∃ (cells : List Int) (left mixed turn : Int), 0 ≤ left ∧ 0 ≤ mixed ∧ mixed < 2147483648 ∧ 0 ≤ turn ∧ (∀ x ∈ cells, 0 ≤ x) ∧ H c = some (.lst (cells.map V.int)) ∧
  H a = some (.dK [(.inr "cells", .ref c), (.inr "left", .int left), (.inr "mixed", .int mixed), (.inr "turn", .int turn)])

/-- locked: a thing that is being made, that nobody reads -/
def unfrz : HO → HO
  | .frz _ (.lst vs) => .lst vs
  | o => o
def Sb (T H : Hp) : Prop := ∀ p o, T p = some o → H p = some (unfrz o)
theorem Sb.free {T H : Hp} {p : Addr} (s : Sb T H) (h : H p = none) : T p = none := by
  cases e : T p with
  | none => rfl
  | some o => rw [s p o e] at h; cases h
/-- the heap H: T frozen, HD what may be changed, C the lists of cells of the sources -/
structure AbsC (T : Hp) (DH : DHp) (C : Addr → Option Addr) (H : Hp) : Prop where
  sub : Sb T H
  obj : ∀ a x, DH a = some x → T a = none ∧ (x = .src → ∃ c, C a = some c) ∧ (x ≠ .src → ∃ o, H a = some o ∧ RepO T x o)
  own : ∀ a c, C a = some c → DH a = some .src ∧ DH c = none ∧ T c = none ∧ SrcAt H a c ∧ ∀ b, C b = some c → b = a
def Abs (T : Hp) (DH : DHp) (H : Hp) : Prop := ∃ C, AbsC T DH C H
/-- the slots -/
abbrev DSt := List (Option D)
def RepS (T : Hp) (τ : DSt) (σ : L2.St) : Prop := τ.length = σ.length ∧ ∀ (i : Nat) (d : D), τ[i]? = some (some d) → ∃ v, σ[i]? = some (some v) ∧ RepV T d v
theorem RepS.up {T T' : Hp} {τ : DSt} {σ : L2.St} (s : Same T T') (h : RepS T τ σ) : RepS T' τ σ := ⟨h.1, fun i d e => let ⟨v, a, b⟩ := h.2 i d e; ⟨v, a, RepV.up s d v b⟩⟩
theorem RepS.set {T : Hp} {τ : DSt} {σ : L2.St} {d : D} {v : V} (h : RepS T τ σ) (r : RepV T d v) (i : Nat) : RepS T (τ.set i (some d)) (σ.set i (some v)) := by
  refine ⟨by simp [h.1], fun j e q => ?_⟩
  by_cases hj : i = j
  · subst hj
    by_cases hl : i < τ.length
    · rw [List.getElem?_set_self hl] at q
      cases q
      exact ⟨v, by rw [List.getElem?_set_self (by rw [← h.1]; exact hl)], r⟩
    · rw [List.getElem?_eq_none (by simpa using hl)] at q; cases q
  · rw [List.getElem?_set_ne hj] at q
    obtain ⟨w, a, b⟩ := h.2 j e q
    exact ⟨w, by rw [List.getElem?_set_ne hj]; exact a, b⟩

section
variable {T T' : Hp} {DH DH' : DHp} {H H' : Hp} {C : Addr → Option Addr} {a p : Addr}
theorem Abs.sub (A : Abs T DH H) : Sb T H := let ⟨_, h⟩ := A; h.sub
theorem Abs.free (A : Abs T DH H) (h : H p = none) : T p = none ∧ DH p = none := by
  obtain ⟨C, A⟩ := A
  refine ⟨A.sub.free h, ?_⟩
  cases e : DH p with
  | none => rfl
  | some x =>
    obtain ⟨_, h1, h2⟩ := A.obj p x e
    by_cases hx : x = .src
    · obtain ⟨c, hc⟩ := h1 hx
      obtain ⟨_, _, _, ⟨_, _, _, _, _, _, _, _, _, _, z⟩, _⟩ := A.own p c hc
      rw [h] at z; cases z
    · obtain ⟨o, z, _⟩ := h2 hx
      rw [h] at z; cases z
theorem Abs.lst (A : Abs T DH H) {ds : List D} (h : DH a = some (.lst ds)) : ∃ vs, H a = some (.lst vs) ∧ RepL T ds vs := by
  obtain ⟨C, A⟩ := A
  obtain ⟨_, _, h2⟩ := A.obj a _ h
  obtain ⟨o, e, vs, rfl, r⟩ := h2 (by simp)
  exact ⟨vs, e, r⟩
theorem Abs.dK (A : Abs T DH H) {xs : List (Key × D)} (h : DH a = some (.dK xs)) : ∃ ys, H a = some (.dK ys) ∧ KVR T xs ys := by
  obtain ⟨C, A⟩ := A
  obtain ⟨_, _, h2⟩ := A.obj a _ h
  obtain ⟨o, e, vs, rfl, r⟩ := h2 (by simp)
  exact ⟨vs, e, r⟩
theorem Abs.dT (A : Abs T DH H) {xs : List (List Key × D)} (h : DH a = some (.dT xs)) : ∃ ys, H a = some (.dT ys) ∧ KVR T xs ys := by
  obtain ⟨C, A⟩ := A
  obtain ⟨_, _, h2⟩ := A.obj a _ h
  obtain ⟨o, e, vs, rfl, r⟩ := h2 (by simp)
  exact ⟨vs, e, r⟩
theorem Abs.scr (A : Abs T DH H) {ds : List D} (h : DH a = some (.scr ds)) : ∃ ob vs, H a = some (.frz ob (.lst vs)) ∧ RepL T ds vs := by
  obtain ⟨C, A⟩ := A
  obtain ⟨_, _, h2⟩ := A.obj a _ h
  obtain ⟨o, e, ob, vs, rfl, r⟩ := h2 (by simp)
  exact ⟨ob, vs, e, r⟩
theorem Abs.lkK (A : Abs T DH H) {xs : List (Key × D)} {h : HO} (e : DH a = some (.lkK xs h)) : H a = some h ∧ ∃ ob ys, h = .frz ob (.dK ys) ∧ KVR T xs ys := by
  obtain ⟨C, A⟩ := A
  obtain ⟨_, _, h2⟩ := A.obj a _ e
  obtain ⟨o, e1, rfl, r⟩ := h2 (by simp)
  exact ⟨e1, r⟩
theorem Abs.lkT (A : Abs T DH H) {xs : List (List Key × D)} {h : HO} (e : DH a = some (.lkT xs h)) : H a = some h ∧ ∃ ob ys, h = .frz ob (.dT ys) ∧ KVR T xs ys := by
  obtain ⟨C, A⟩ := A
  obtain ⟨_, _, h2⟩ := A.obj a _ e
  obtain ⟨o, e1, rfl, r⟩ := h2 (by simp)
  exact ⟨e1, r⟩
theorem SrcAt.frame {c : Addr} (h : SrcAt H a c) (e1 : H' a = H a) (e2 : H' c = H c) : SrcAt H' a c := by
  obtain ⟨cells, l, m, t, h0, h1, h2, h3, h4, h5, h6⟩ := h
  exact ⟨cells, l, m, t, h0, h1, h2, h3, h4, e2.trans h5, e1.trans h6⟩
theorem SrcAt.ne {c : Addr} (h : SrcAt H a c) : a ≠ c := by
  obtain ⟨cells, l, m, t, h0, h1, h2, h3, h4, h5, h6⟩ := h
  rintro rfl
  rw [h5] at h6; cases h6
theorem SrcAt.there {c : Addr} (h : SrcAt H a c) : H a ≠ none ∧ H c ≠ none := by
  obtain ⟨cells, l, m, t, h0, h1, h2, h3, h4, h5, h6⟩ := h
  exact ⟨by rw [h6]; simp, by rw [h5]; simp⟩
/-- a new object, not told of -/
theorem Abs.hid {o : HO} (A : Abs T DH H) (h : H p = none) : Abs T DH (upd H p o) := by
  have hn := A.free h
  obtain ⟨C, A⟩ := A
  refine ⟨C, fun b u e => ?_, fun b x e => ?_, fun b c e => ?_⟩
  · rw [upd_ne (ne_of_none (A.sub b u e) h)]; exact A.sub b u e
  · obtain ⟨h1, h2, h3⟩ := A.obj b x e
    refine ⟨h1, h2, fun hx => ?_⟩
    obtain ⟨u, z, r⟩ := h3 hx
    exact ⟨u, by rw [upd_ne (ne_of_none z h)]; exact z, r⟩
  · obtain ⟨h1, h2, h3, h4, h5⟩ := A.own b c e
    have n1 : b ≠ p := fun q => by subst q; exact h4.there.1 h
    have n2 : c ≠ p := fun q => by subst q; exact h4.there.2 h
    exact ⟨h1, h2, h3, h4.frame (upd_ne n1) (upd_ne n2), h5⟩
/-- a new frozen object -/
theorem Abs.frz {o : HO} (A : Abs T DH H) (h : H p = none) : Same T (upd T p o) ∧ Abs (upd T p o) DH (upd H p (unfrz o)) := by
  have hn := A.free h
  have hs : Same T (upd T p o) := fun b u e => by rw [upd_ne (ne_of_none e hn.1)]; exact e
  refine ⟨hs, ?_⟩
  obtain ⟨C, A⟩ := A
  refine ⟨C, fun b u e => ?_, fun b x e => ?_, fun b c e => ?_⟩
  · by_cases q : b = p
    · subst q; rw [upd_same] at e ⊢; cases e; rfl
    · rw [upd_ne q] at e ⊢; exact A.sub b u e
  · obtain ⟨h1, h2, h3⟩ := A.obj b x e
    have nb : b ≠ p := fun q => by subst q; rw [hn.2] at e; cases e
    refine ⟨by rw [upd_ne nb]; exact h1, h2, fun hx => ?_⟩
    obtain ⟨u, z, r⟩ := h3 hx
    exact ⟨u, by rw [upd_ne nb]; exact z, r.up hs⟩
  · obtain ⟨h1, h2, h3, h4, h5⟩ := A.own b c e
    have n1 : b ≠ p := fun q => by subst q; exact h4.there.1 h
    have n2 : c ≠ p := fun q => by subst q; exact h4.there.2 h
    exact ⟨h1, h2, by rw [upd_ne n2]; exact h3, h4.frame (upd_ne n1) (upd_ne n2), h5⟩
def dupd (H : DHp) (a : Addr) (o : DO) : DHp := fun b => if b = a then some o else H b
theorem dupd_same {H : DHp} {a : Addr} {o : DO} : dupd H a o a = some o := by unfold dupd; rw [if_pos rfl]
theorem dupd_ne {H : DHp} {a b : Addr} {o : DO} (h : b ≠ a) : dupd H a o b = H b := by unfold dupd; rw [if_neg h]
theorem dupd_dupd {H : DHp} {a : Addr} {o u : DO} : dupd (dupd H a o) a u = dupd H a u := by
  funext b; unfold dupd; split <;> rfl
theorem dupd_swap {H : DHp} {a b : Addr} {o u : DO} (h : a ≠ b) : dupd (dupd H a o) b u = dupd (dupd H b u) a o := by
  funext c; unfold dupd
  by_cases h1 : c = b
  · rw [if_pos h1, if_neg (fun e => h (e.symm.trans h1)), if_pos h1]
  · rw [if_neg h1, if_neg h1]
theorem dupd_none {H : DHp} {a b : Addr} {o : DO} : dupd H a o b = none ↔ b ≠ a ∧ H b = none := by
  unfold dupd
  by_cases h : b = a
  · rw [if_pos h]; simp [h]
  · rw [if_neg h]; simp [h]
/-- a new object that may be changed -/
theorem Abs.new {o : HO} {x : DO} (A : Abs T DH H) (h : H p = none) (r : RepO T x o) : Abs T (dupd DH p x) (upd H p o) := by
  have hn := A.free h
  have hx : x ≠ .src := fun e => by subst e; exact r
  have B := A.hid (o := o) h
  obtain ⟨C, A⟩ := A
  have hC : C p = none := by
    cases e : C p with
    | none => rfl
    | some c => rw [(A.own p c e).1] at hn; exact absurd hn.2 (by simp)
  refine ⟨C, ?_, fun b y e => ?_, fun b c e => ?_⟩
  · exact B.sub
  · by_cases q : b = p
    · subst q
      rw [dupd_same] at e; cases e
      exact ⟨hn.1, fun z => absurd z hx, fun _ => ⟨o, upd_same, r⟩⟩
    · rw [dupd_ne q] at e
      obtain ⟨h1, h2, h3⟩ := A.obj b y e
      refine ⟨h1, h2, fun hx => ?_⟩
      obtain ⟨u, z, r⟩ := h3 hx
      exact ⟨u, by rw [upd_ne q]; exact z, r⟩
  · obtain ⟨h1, h2, h3, h4, h5⟩ := A.own b c e
    have n1 : b ≠ p := fun q => by subst q; exact h4.there.1 h
    have n2 : c ≠ p := fun q => by subst q; exact h4.there.2 h
    exact ⟨by rw [dupd_ne n1]; exact h1, by rw [dupd_ne n2]; exact h2, h3, h4.frame (upd_ne n1) (upd_ne n2), h5⟩
/-- an object changed -/
theorem Abs.put {o : HO} {x y : DO} (A : Abs T DH H) (h : DH p = some y) (hy : y ≠ .src) (r : RepO T x o) : Abs T (dupd DH p x) (upd H p o) := by
  have hx : x ≠ .src := fun e => by subst e; exact r
  obtain ⟨C, A⟩ := A
  obtain ⟨hT, _, _⟩ := A.obj p y h
  refine ⟨C, fun b u e => ?_, fun b z e => ?_, fun b c e => ?_⟩
  · rw [upd_ne (fun q => by subst q; rw [hT] at e; cases e)]; exact A.sub b u e
  · by_cases q : b = p
    · subst q
      rw [dupd_same] at e; cases e
      exact ⟨hT, fun z => absurd z hx, fun _ => ⟨o, upd_same, r⟩⟩
    · rw [dupd_ne q] at e
      obtain ⟨h1, h2, h3⟩ := A.obj b z e
      refine ⟨h1, h2, fun hx => ?_⟩
      obtain ⟨u, z, r⟩ := h3 hx
      exact ⟨u, by rw [upd_ne q]; exact z, r⟩
  · obtain ⟨h1, h2, h3, h4, h5⟩ := A.own b c e
    have n1 : b ≠ p := fun q => by subst q; rw [h1] at h; cases h; exact hy rfl
    have n2 : c ≠ p := fun q => by subst q; rw [h2] at h; cases h
    exact ⟨by rw [dupd_ne n1]; exact h1, by rw [dupd_ne n2]; exact h2, h3, h4.frame (upd_ne n1) (upd_ne n2), h5⟩
def DSub (H H' : DHp) : Prop := ∀ b o, H b = some o → H' b = some o
theorem DSub.refl (H : DHp) : DSub H H := fun _ _ h => h
theorem DSub.trans {H H1 H2 : DHp} (a : DSub H H1) (b : DSub H1 H2) : DSub H H2 := fun c o h => b c o (a c o h)
theorem DSub.new {H H1 : DHp} {p : Addr} {x : DO} (s : DSub H H1) (h : H p = none) : DSub H (dupd H1 p x) := fun b o e => by
  rw [dupd_ne (fun q => by subst q; rw [h] at e; cases e)]; exact s b o e
open Classical in
/-- forgetting -/
theorem Abs.drop (A : Abs T DH' H) (s : DSub DH DH') : Abs T DH H := by
  obtain ⟨C, A⟩ := A
  refine ⟨fun a => if DH a = some .src then C a else none, A.sub, fun b x e => ?_, fun b c e => ?_⟩
  · obtain ⟨h1, h2, h3⟩ := A.obj b x (s b x e)
    refine ⟨h1, fun hx => ?_, h3⟩
    subst hx
    rw [if_pos e]
    exact h2 rfl
  · by_cases hb : DH b = some .src
    · rw [if_pos hb] at e
      obtain ⟨h1, h2, h3, h4, h5⟩ := A.own b c e
      refine ⟨hb, ?_, h3, h4, fun d hd => ?_⟩
      · cases q : DH c with
        | none => rfl
        | some u => rw [s c u q] at h2; cases h2
      · by_cases hdd : DH d = some .src
        · rw [if_pos hdd] at hd; exact h5 d hd
        · rw [if_neg hdd] at hd; cases hd
    · rw [if_neg hb] at e; cases e
def derase (H : DHp) (a : Addr) : DHp := fun b => if b = a then none else H b
theorem derase_sub {H : DHp} {a : Addr} : DSub (derase H a) H := fun b o e => by
  unfold derase at e
  split at e
  · cases e
  · exact e
theorem derase_dupd {H : DHp} {a : Addr} {x : DO} (h : H a = none) : derase (dupd H a x) a = H := by
  funext b; unfold derase dupd
  by_cases e : b = a
  · rw [if_pos e, e, h]
  · rw [if_neg e, if_neg e]
/-- a list is frozen -/
theorem Abs.freeze {ds : List D} (A : Abs T DH H) (h : DH p = some (.lst ds)) : ∃ T', Same T T' ∧ Abs T' (derase DH p) H ∧ RepV T' (.lst ds) (.ref p) := by
  obtain ⟨vs, hv, r⟩ := A.lst h
  have B := A.drop (derase_sub (H := DH) (a := p))
  obtain ⟨C0, A⟩ := A
  obtain ⟨hT, _, _⟩ := A.obj p _ h
  have hs : Same T (upd T p (.lst vs)) := fun b u e => by rw [upd_ne (ne_of_none e hT)]; exact e
  refine ⟨upd T p (.lst vs), hs, ?_, p, vs, rfl, upd_same, RepL.up hs _ _ r⟩
  obtain ⟨C, B⟩ := B
  refine ⟨C0, fun b u e => ?_, fun b x e => ?_, fun b c e => ?_⟩
  · by_cases q : b = p
    · subst q; rw [upd_same] at e; cases e; exact hv
    · rw [upd_ne q] at e; exact A.sub b u e
  · have nb : b ≠ p := fun q => by subst q; unfold derase at e; rw [if_pos rfl] at e; cases e
    obtain ⟨h1, h2, h3⟩ := A.obj b x (derase_sub b x e)
    refine ⟨by rw [upd_ne nb]; exact h1, h2, fun hx => ?_⟩
    obtain ⟨u, z, r⟩ := h3 hx
    exact ⟨u, z, r.up hs⟩
  · obtain ⟨h1, h2, h3, h4, h5⟩ := A.own b c e
    have n1 : b ≠ p := fun q => by subst q; rw [h1] at h; cases h
    have n2 : c ≠ p := fun q => by subst q; rw [h2] at h; cases h
    refine ⟨?_, ?_, by rw [upd_ne n2]; exact h3, h4, h5⟩
    · unfold derase; rw [if_neg n1]; exact h1
    · unfold derase; rw [if_neg n2]; exact h2
/-- what a source holds, as data -/
def srcD (c : Addr) (l m t : Int) : DO := .dK [(.inr "cells", .ref c), (.inr "left", .int l), (.inr "mixed", .int m), (.inr "turn", .int t)]
def SrcOk (cells : List Int) (l m t : Int) : Prop := 0 ≤ l ∧ 0 ≤ m ∧ m < 2147483648 ∧ 0 ≤ t ∧ ∀ x ∈ cells, 0 ≤ x
/-- a source, opened -/
theorem Abs.openS (A : Abs T DH H) (h : DH a = some .src) : ∃ c cells l m t, SrcOk cells l m t ∧ c ≠ a ∧ DH c = none ∧ Abs T (dupd (dupd DH a (srcD c l m t)) c (.lst (cells.map D.int))) H := by
  obtain ⟨C, A⟩ := A
  obtain ⟨hTa, ho, _⟩ := A.obj a _ h
  obtain ⟨c, hc⟩ := ho rfl
  obtain ⟨h1, h2, h3, h4, h5⟩ := A.own a c hc
  have hne := h4.ne
  obtain ⟨cells, l, m, t, c0, c1, c2, c3, c4, c5, c6⟩ := h4
  refine ⟨c, cells, l, m, t, ⟨c0, c1, c2, c3, c4⟩, hne.symm, h2, fun b => if b = a then none else C b, A.sub, fun b x e => ?_, fun b d e => ?_⟩
  · by_cases q : b = c
    · subst q
      rw [dupd_same] at e; cases e
      exact ⟨h3, fun z => (by cases z), fun _ => ⟨_, c5, _, rfl, RepL.ints _⟩⟩
    · rw [dupd_ne q] at e
      by_cases q2 : b = a
      · subst q2
        rw [dupd_same] at e; cases e
        exact ⟨hTa, fun z => (by cases z), fun _ => ⟨_, c6, _, rfl, rfl, .cons rfl (.cons rfl (.cons rfl (.cons rfl .nil)))⟩⟩
      · rw [dupd_ne q2] at e
        obtain ⟨k1, k2, k3⟩ := A.obj b x e
        exact ⟨k1, fun hx => by rw [if_neg q2]; exact k2 hx, k3⟩
  · by_cases q : b = a
    · rw [if_pos q] at e; cases e
    · rw [if_neg q] at e
      obtain ⟨k1, k2, k3, k4, k5⟩ := A.own b d e
      have nbc : b ≠ c := fun z => by subst z; rw [h2] at k1; cases k1
      have ndc : d ≠ c := fun z => by subst z; exact q (h5 b e)
      have nda : d ≠ a := fun z => by subst z; rw [k2] at h; cases h
      refine ⟨by rw [dupd_ne nbc, dupd_ne q]; exact k1, by rw [dupd_ne ndc, dupd_ne nda]; exact k2, k3, k4, fun z hz => ?_⟩
      by_cases q3 : z = a
      · rw [if_pos q3] at hz; cases hz
      · rw [if_neg q3] at hz; exact k5 z hz
/-- a source, shut -/
theorem Abs.shutS {c : Addr} {cells : List Int} {l m t : Int} (A : Abs T DH H) (ha : DH a = some (srcD c l m t)) (hc : DH c = some (.lst (cells.map D.int))) (ok : SrcOk cells l m t) : Abs T (dupd (derase DH c) a .src) H := by
  obtain ⟨vs, v1, v2⟩ := A.lst hc
  obtain ⟨ys, y1, y2, y3⟩ := A.dK ha
  have e1 := RepL.ints_inv v2
  subst e1
  have hne : a ≠ c := fun z => by subst z; rw [ha] at hc; cases hc
  have ey : ys = [(.inr "cells", .ref c), (.inr "left", .int l), (.inr "mixed", .int m), (.inr "turn", .int t)] := by
    obtain ⟨w1, r1, q1, p1, w2, r2, q2, p2, w3, r3, q3, p3, w4, r4, q4, p4, q5⟩ := y3
    have p1 : w1 = .ref c := p1
    have p2 : w2 = .int l := p2
    have p3 : w3 = .int m := p3
    have p4 : w4 = .int t := p4
    have q5 : r4 = [] := q5
    subst p1 p2 p3 p4 q5 q4 q3 q2
    have z : ys = (ys.map (·.1)).zip (ys.map (·.2)) := by
      rw [List.zip_map']
      simp
    rw [z, y2, q1]
    rfl
  subst ey
  obtain ⟨C, A⟩ := A
  have hTa := (A.obj a _ ha).1
  have hTc := (A.obj c _ hc).1
  have hCn : ∀ b d, C b = some d → d ≠ c ∧ d ≠ a ∧ b ≠ a ∧ b ≠ c := fun b d e => by
    obtain ⟨k1, k2, _⟩ := A.own b d e
    refine ⟨fun z => ?_, fun z => ?_, fun z => ?_, fun z => ?_⟩
    · subst z; rw [k2] at hc; cases hc
    · subst z; rw [k2] at ha; cases ha
    · subst z; rw [k1] at ha; cases ha
    · subst z; rw [k1] at hc; cases hc
  obtain ⟨o0, o1, o2, o3, o4⟩ := ok
  refine ⟨fun b => if b = a then some c else C b, A.sub, fun b x e => ?_, fun b d e => ?_⟩
  · by_cases q : b = a
    · subst q
      rw [dupd_same] at e; cases e
      exact ⟨hTa, fun _ => ⟨c, if_pos rfl⟩, fun z => absurd rfl z⟩
    · rw [dupd_ne q] at e
      obtain ⟨k1, k2, k3⟩ := A.obj b x (derase_sub b x e)
      exact ⟨k1, fun hx => by rw [if_neg q]; exact k2 hx, k3⟩
  · by_cases q : b = a
    · subst q
      rw [if_pos rfl] at e; cases e
      refine ⟨dupd_same, by rw [dupd_ne hne.symm]; unfold derase; rw [if_pos rfl], hTc, ⟨cells, l, m, t, o0, o1, o2, o3, o4, v1, y1⟩, fun z hz => ?_⟩
      by_cases q : z = b
      · exact q
      · rw [if_neg q] at hz; exact absurd rfl (hCn z c hz).1
    · rw [if_neg q] at e
      obtain ⟨k1, k2, k3, k4, k5⟩ := A.own b d e
      obtain ⟨n1, n2, n3, n4⟩ := hCn b d e
      refine ⟨?_, ?_, k3, k4, fun z hz => ?_⟩
      · rw [dupd_ne q]; unfold derase; rw [if_neg n4]; exact k1
      · rw [dupd_ne n2]; unfold derase; rw [if_neg n1]; exact k2
      · by_cases q : z = a
        · subst q; rw [if_pos rfl] at hz; cases hz; exact absurd rfl n1
        · rw [if_neg q] at hz; exact k5 z hz
end
end DL

/-! DL2: readings over data; expressions, tests, calls, statements. -/
namespace DL
open PySem PySem.Spec PyProof.Rows L2

abbrev DE := DSt → DHp → DK → Prop
abbrev DT := DSt → DHp → (Bool → DHp → Prop) → Prop
abbrev DA := DSt → DHp → (List D → DHp → Prop) → Prop
structure DEnds where
  nx : DSt → DHp → Prop
  rt : DK
  bk : DSt → DHp → Prop := fun _ _ => False
  ct : DSt → DHp → Prop := fun _ _ => False
abbrev DS := DEnds → DSt → DHp → Prop
abbrev DR2 := D → D → DHp → DK → Prop
abbrev DRC := List D → DHp → DK → Prop

/-! ### how a wish over data stands for one over values -/
def Up (T : Hp) (R : DK) (Q : VK) : Prop := ∀ T' DH H d v, Same T T' → Abs T' DH H → RepV T' d v → R d DH → Q v H
def UpB (T : Hp) (R : Bool → DHp → Prop) (Q : Bool → Hp → Prop) : Prop := ∀ T' DH H b, Same T T' → Abs T' DH H → R b DH → Q b H
def UpL (T : Hp) (R : List D → DHp → Prop) (Q : List V → Hp → Prop) : Prop := ∀ T' DH H ds vs, Same T T' → Abs T' DH H → RepL T' ds vs → R ds DH → Q vs H
def UpS (T : Hp) (R : DSt → DHp → Prop) (Q : L2.St → Hp → Prop) : Prop := ∀ T' DH H τ σ, Same T T' → Abs T' DH H → RepS T' τ σ → R τ DH → Q σ H
structure UpE (T : Hp) (R : DEnds) (Q : Ends) : Prop where
  nx : UpS T R.nx Q.nx
  rt : Up T R.rt Q.rt
  bk : UpS T R.bk Q.bk
  ct : UpS T R.ct Q.ct
theorem Up.up {T T' : Hp} {R : DK} {Q : VK} (u : Up T R Q) (s : Same T T') : Up T' R Q := fun T2 DH H d v s2 => u T2 DH H d v (s.trans s2)
theorem UpB.up {T T' : Hp} {R : Bool → DHp → Prop} {Q : Bool → Hp → Prop} (u : UpB T R Q) (s : Same T T') : UpB T' R Q := fun T2 DH H d s2 => u T2 DH H d (s.trans s2)
theorem UpL.up {T T' : Hp} {R : List D → DHp → Prop} {Q : List V → Hp → Prop} (u : UpL T R Q) (s : Same T T') : UpL T' R Q := fun T2 DH H d v s2 => u T2 DH H d v (s.trans s2)
theorem UpS.up {T T' : Hp} {R : DSt → DHp → Prop} {Q : L2.St → Hp → Prop} (u : UpS T R Q) (s : Same T T') : UpS T' R Q := fun T2 DH H d v s2 => u T2 DH H d v (s.trans s2)
theorem UpE.up {T T' : Hp} {R : DEnds} {Q : Ends} (u : UpE T R Q) (s : Same T T') : UpE T' R Q := ⟨u.nx.up s, u.rt.up s, u.bk.up s, u.ct.up s⟩

def lo (t : DE) : TE := fun σ H Q => ∃ T DH τ R, Abs T DH H ∧ RepS T τ σ ∧ t τ DH R ∧ Up T R Q
def loT (t : DT) : TT := fun σ H Q => ∃ T DH τ R, Abs T DH H ∧ RepS T τ σ ∧ t τ DH R ∧ UpB T R Q
def loA (t : DA) : TA := fun σ H Q => ∃ T DH τ R, Abs T DH H ∧ RepS T τ σ ∧ t τ DH R ∧ UpL T R Q
def loS (t : DS) : TS := fun E σ H => ∃ T DH τ R, Abs T DH H ∧ RepS T τ σ ∧ t R τ DH ∧ UpE T R E
def lo2 (r : DR2) : R2 := fun v u H Q => ∃ T DH x y R, Abs T DH H ∧ RepV T x v ∧ RepV T y u ∧ r x y DH R ∧ Up T R Q
def lo1 (r : D → DHp → DK → Prop) : V → Hp → VK → Prop := fun v H Q => ∃ T DH x R, Abs T DH H ∧ RepV T x v ∧ r x DH R ∧ Up T R Q
def loC (r : DRC) : List V → Hp → VK → Prop := fun vs H Q => ∃ T DH ds R, Abs T DH H ∧ RepL T ds vs ∧ r ds DH R ∧ Up T R Q

structure QE (X : Cx) (e : Expr) (t : DE) : Prop where
  run : PE X e (lo t)
structure QT (X : Cx) (e : Expr) (t : DT) : Prop where
  run : PT X e (loT t)
structure QW (X : Cx) (e : Expr) (t : DT) : Prop where
  run : PW X e (loT t)
structure QA (X : Cx) (es : List Expr) (t : DA) : Prop where
  run : PA X es (loA t)
structure QS (X : Cx) (st : Stmt) (t : DS) : Prop where
  run : PS X st (loS t)
structure QSs (X : Cx) (st : List Stmt) (t : DS) : Prop where
  run : PSs X st (loS t)

theorem peW {X : Cx} {e : Expr} {t t' : TE} (h : PE X e t) (w : ∀ σ H Q, t' σ H Q → t σ H Q) : PE X e t' := ⟨fun pins s σ H Q I q => h.run pins s σ H Q I (w σ H Q q)⟩
theorem ptW {X : Cx} {e : Expr} {t t' : TT} (h : PT X e t) (w : ∀ σ H Q, t' σ H Q → t σ H Q) : PT X e t' := ⟨fun pins s σ H Q I q => h.run pins s σ H Q I (w σ H Q q)⟩
theorem pwW {X : Cx} {e : Expr} {t t' : TT} (h : PW X e t) (w : ∀ σ H Q, t' σ H Q → t σ H Q) : PW X e t' := ⟨fun wh pins s σ H Q I q => h.run wh pins s σ H Q I (w σ H Q q)⟩
theorem paW {X : Cx} {e : List Expr} {t t' : TA} (h : PA X e t) (w : ∀ σ H Q, t' σ H Q → t σ H Q) : PA X e t' := ⟨fun pos pins s σ H Q I q => h.run pos pins s σ H Q I (w σ H Q q)⟩
theorem psW {X : Cx} {e : Stmt} {t t' : TS} (h : PS X e t) (w : ∀ E σ H, t' E σ H → t E σ H) : PS X e t' := ⟨fun pins s σ H Q I q => h.run pins s σ H Q I (w Q σ H q)⟩
theorem pssW {X : Cx} {e : List Stmt} {t t' : TS} (h : PSs X e t) (w : ∀ E σ H, t' E σ H → t E σ H) : PSs X e t' := ⟨fun pins s σ H Q I q => h.run pins s σ H Q I (w Q σ H q)⟩
theorem oprW {X : Cx} {f : Value → Value → Sem Value} {r r' : R2} (h : OpR X f r) (w : ∀ x y H Q, r' x y H Q → r x y H Q) : OpR X f r' := fun pins s σ H x y v u Q I rx ry q => h pins s σ H x y v u Q I rx ry (w x y H Q q)
theorem unrW {X : Cx} {f : Value → Sem Value} {r r' : V → Hp → VK → Prop} (h : UnR X f r) (w : ∀ x H Q, r' x H Q → r x H Q) : UnR X f r' := fun pins s σ H x v Q I rx q => h pins s σ H x v Q I rx (w x H Q q)
theorem crW {X : Cx} {f : Value} {r r' : List V → Hp → VK → Prop} (h : CallR X f r) (w : ∀ x H Q, r' x H Q → r x H Q) : CallR X f r' := fun pins s σ H x v Q I rx q => h pins s σ H x v Q I rx (w x H Q q)

/-! ### names, constants -/
def dVar (i : Nat) : DE := fun τ H Q => match τ[i]? with
  | some (some d) => Q d H
  | _ => False
def dC (d : D) : DE := fun _ H Q => Q d H
section
variable {X : Cx} {a b c e : Expr} {es : List Expr} {ta tb tc te : DE} {pos : Pos}
theorem qv (i : Nat) {x : Str} {pos : Pos} (hN : X.N[i]? = some x := by rfl) (hv : Vis X.env.scope x := by first | exact Or.inl rfl | exact Or.inr (Or.inl rfl) | exact Or.inr (Or.inr rfl)) (hd : (x == ("__debug__" : Str)) = false := by decide)
    (hcd : (x == ("__classdict__" : Str)) = false := by decide) : QE X (.Name x pos) (dVar i) := by
  refine ⟨peW (pe_var hN hv hd hcd) fun σ H Q ⟨T, DH, τ, R, A, S, h, u⟩ => ?_⟩
  unfold dVar at h
  split at h
  · rename_i d e
    obtain ⟨v, ev, r⟩ := S.2 i d e
    exact ⟨v, ev, u T DH H d v (Same.refl _) A r h⟩
  · exact h.elim
theorem qe_int {i j pos} : QE X (.Constant (.int i) j pos) (dC (.int i)) := ⟨peW pe_int fun _ H _ ⟨T, DH, _, _, A, _, h, u⟩ => u T DH H (.int i) _ (Same.refl _) A rfl h⟩
theorem qe_bl {i j pos} : QE X (.Constant (.bool i) j pos) (dC (.bl i)) := ⟨peW pe_bl fun _ H _ ⟨T, DH, _, _, A, _, h, u⟩ => u T DH H (.bl i) _ (Same.refl _) A rfl h⟩
theorem qe_non {j pos} : QE X (.Constant .none j pos) (dC .non) := ⟨peW pe_non fun _ H _ ⟨T, DH, _, _, A, _, h, u⟩ => u T DH H .non _ (Same.refl _) A rfl h⟩
theorem qe_str {i j pos} : QE X (.Constant (.str i) j pos) (dC (.str i)) := ⟨peW pe_str fun _ H _ ⟨T, DH, _, _, A, _, h, u⟩ => u T DH H (.str i) _ (Same.refl _) A rfl h⟩
theorem qe_glob {x : Str} {d : D} {v : V} {u : Value} {pos : Pos} (hg : Gl X x) (hm : X.mg x = some u) (r : RelV v u) (hr : ∀ T, RepV T d v) (hd : (x == ("__debug__" : Str)) = false := by decide) : QE X (.Name x pos) (dC d) :=
  ⟨peW (pe_glob hg hm r hd) fun _ H _ ⟨T, DH, _, _, A, _, h, u⟩ => u T DH H _ _ (Same.refl _) A (hr T) h⟩
theorem qe_bltn {x : Str} {d : D} {v : V} {u : Value} {pos : Pos} (hg : Gl X x) (hm : X.mg x = none) (hv : bootBuiltins x = some u) (r : RelV v u) (hr : ∀ T, RepV T d v) (hn : x ≠ "__name__" := by decide) (hd : (x == ("__debug__" : Str)) = false := by decide) : QE X (.Name x pos) (dC d) :=
  ⟨peW (pe_bltn hg hm hv r hn hd) fun _ H _ ⟨T, DH, _, _, A, _, h, u⟩ => u T DH H _ _ (Same.refl _) A (hr T) h⟩

/-! ### two expressions in a row; operators -/
theorem lo_two {ta tb : DE} {T : Hp} {DH : DHp} {τ : DSt} {σ : L2.St} {H : Hp} {R : D → D → DHp → Prop} {Q : V → V → Hp → Prop} (A : Abs T DH H) (S : RepS T τ σ) (h : ta τ DH fun x H1 => tb τ H1 fun y H2 => R x y H2)
    (k : ∀ T' DH' H' x y v u, Same T T' → Abs T' DH' H' → RepV T' x v → RepV T' y u → R x y DH' → Q v u H') : lo ta σ H fun v H1 => lo tb σ H1 fun u H2 => Q v u H2 := by
  refine ⟨T, DH, τ, _, A, S, h, fun T1 DH1 H1 x v s1 A1 r1 h1 => ⟨T1, DH1, τ, _, A1, S.up s1, h1, fun T2 DH2 H2 y u s2 A2 r2 h2 => ?_⟩⟩
  exact k T2 DH2 H2 x y v u (s1.trans s2) A2 (r1.up s2) r2 h2
def dOp (r : DR2) (ta tb : DE) : DE := fun τ H Q => ta τ H fun x H1 => tb τ H1 fun y H2 => r x y H2 Q
def dUn (r : D → DHp → DK → Prop) (ta : DE) : DE := fun τ H Q => ta τ H fun x H1 => r x H1 Q
theorem lo_op {r : DR2} : ∀ σ H Q, lo (dOp r ta tb) σ H Q → tOp (lo2 r) (lo ta) (lo tb) σ H Q := fun σ H Q ⟨T, DH, τ, R, A, S, h, u⟩ =>
  lo_two (Q := fun v w H2 => lo2 r v w H2 Q) A S h fun T' DH' H' x y v w s A' r1 r2 h' => ⟨T', DH', x, y, R, A', r1, r2, h', u.up s⟩
theorem qe_op {op : Operator} {r : DR2} (ho : OpR X (binaryOp op) (lo2 r)) (ha : QE X a ta) (hb : QE X b tb) : QE X (.BinOp a op b pos) (dOp r ta tb) := ⟨peW (pe_op ho ha.run hb.run) lo_op⟩
theorem qe_un {op : UnaryOp} {r : D → DHp → DK → Prop} (ho : UnR X (unaryOp op) (lo1 r)) (ha : QE X a ta) : QE X (.UnaryOp op a pos) (dUn r ta) :=
  ⟨peW (pe_un ho ha.run) fun σ H Q ⟨T, DH, τ, R, A, S, h, u⟩ => ⟨T, DH, τ, _, A, S, h, fun T1 DH1 H1 x v s1 A1 r1 h1 => ⟨T1, DH1, x, R, A1, r1, h1, u.up s1⟩⟩⟩
theorem qe_cmp {op : CmpOp} {r : DR2} (ho : OpR X (compareOp op) (lo2 r)) (ha : QE X a ta) (hb : QE X b tb) (hm : behindInMarks op b = false := by first | exact nomark _ | with_unfolding_all rfl) : QE X (.Compare a [op] [b] pos) (dOp r ta tb) := ⟨peW (pe_cmpR ho ha.run hb.run hm) lo_op⟩
/-- as a test -/
def dB (t : DE) : DT := fun τ H Q => t τ H fun x H1 => match x with
  | .bl k => Q k H1
  | _ => False
theorem lo_test {t : DE} : ∀ σ H Q, loT (dB t) σ H Q → tTest (lo t) σ H Q := fun σ H Q ⟨T, DH, τ, R, A, S, h, u⟩ => ⟨T, DH, τ, _, A, S, h, fun T1 DH1 H1 x v s1 A1 r1 h1 => by
  cases x with
  | bl k => exact ⟨k, r1, u T1 DH1 H1 k s1 A1 h1⟩
  | _ => exact h1.elim⟩
theorem ttW {t t' : TE} (w : ∀ σ H Q, t' σ H Q → t σ H Q) : ∀ σ H Q, tTest t' σ H Q → tTest t σ H Q := fun σ H Q h => w σ H _ h
theorem qt_cmp {op : CmpOp} {r : DR2} (ho : OpR X (compareOp op) (lo2 r)) (ha : QE X a ta) (hb : QE X b tb) (hm : behindInMarks op b = false := by first | exact nomark _ | with_unfolding_all rfl) : QT X (.Compare a [op] [b] pos) (dB (dOp r ta tb)) :=
  ⟨ptW (pt_cmpR ho ha.run hb.run hm) fun σ H Q h => ttW lo_op σ H Q (lo_test σ H Q h)⟩
theorem qt_val {t : DE} (h : QE X e t) (he : ∀ whole, isTrue e X.env whole = (do let v ← whole; standAt e.pos; holding [v] (truthy v)) := by intro _; rfl) : QT X e (dB t) := ⟨ptW (pt_val h.run he) lo_test⟩
/-- a op b op' c -/
def dChain (r r' : DR2) (ta tb tc : DE) : DE := fun τ H Q => ta τ H fun x H1 => tb τ H1 fun y H2 => r x y H2 fun z H3 => match z with
  | .bl true => tc τ H3 fun w H4 => r' y w H4 Q
  | .bl false => Q (.bl false) H3
  | _ => False
theorem lo_chain {r r' : DR2} : ∀ σ H Q, lo (dChain r r' ta tb tc) σ H Q → tChain (lo2 r) (lo2 r') (lo ta) (lo tb) (lo tc) σ H Q := fun σ H Q ⟨T, DH, τ, R, A, S, h, u⟩ => by
  refine lo_two (Q := fun v w H2 => lo2 r v w H2 fun z H3 => ∃ k, z = .bl k ∧ (if k = true then lo tc σ H3 fun w' H4 => lo2 r' w w' H4 Q else Q (.bl false) H3)) A S h fun T' DH' H' x y v w s A' r1 r2 h' => ?_
  refine ⟨T', DH', x, y, _, A', r1, r2, h', fun T1 DH1 H1 z vz s1 A1 rz h1 => ?_⟩
  cases z with
  | bl k =>
    refine ⟨k, rz, ?_⟩
    cases k with
    | true =>
      rw [if_pos rfl]
      exact ⟨T1, DH1, τ, _, A1, S.up (s.trans s1), h1, fun T2 DH2 H2 z2 v2 s2 A2 rz2 h2 => ⟨T2, DH2, y, z2, R, A2, (r2.up s1).up s2, rz2, h2, u.up ((s.trans s1).trans s2)⟩⟩
    | false =>
      rw [if_neg Bool.false_ne_true]
      exact u T1 DH1 H1 (.bl false) _ (s.trans s1) A1 rfl h1
  | _ => exact h1.elim
theorem qe_chain {op op' : CmpOp} {r r' : DR2} (ho : OpR X (compareOp op) (lo2 r)) (ho' : OpR X (compareOp op') (lo2 r')) (ha : QE X a ta) (hb : QE X b tb) (hc : QE X c tc)
    (hm : lastMarks [op, op'] [b, c] = false := by with_unfolding_all rfl) : QE X (.Compare a [op, op'] [b, c] pos) (dChain r r' ta tb tc) := ⟨peW (pe_chain ho ho' ha.run hb.run hc.run hm) lo_chain⟩
theorem qt_chain {op op' : CmpOp} {r r' : DR2} (ho : OpR X (compareOp op) (lo2 r)) (ho' : OpR X (compareOp op') (lo2 r')) (ha : QE X a ta) (hb : QE X b tb) (hc : QE X c tc)
    (hm : lastMarks [op, op'] [b, c] = false := by with_unfolding_all rfl) : QT X (.Compare a [op, op'] [b, c] pos) (dB (dChain r r' ta tb tc)) :=
  ⟨ptW (pt_chain ho ho' ha.run hb.run hc.run hm) fun σ H Q h => ttW lo_chain σ H Q (lo_test σ H Q h)⟩

/-! ### and, or, not, if -/
variable {tA tB : DT} {rest : List Expr}
def dAnd (t u : DT) : DT := fun τ H Q => t τ H fun c H1 => if c = true then u τ H1 Q else Q false H1
def dOr (t u : DT) : DT := fun τ H Q => t τ H fun c H1 => if c = true then Q true H1 else u τ H1 Q
def dNot (t : DT) : DT := fun τ H Q => t τ H fun c H1 => Q (!c) H1
theorem qw_and1 (ha : QT X a tA) : QW X (.BoolOp .And [a] pos) tA := ⟨pw_and1 ha.run⟩
theorem qw_or1 (ha : QT X a tA) : QW X (.BoolOp .Or [a] pos) tA := ⟨pw_or1 ha.run⟩
theorem qw_and (ha : QT X a tA) (hb : QW X (.BoolOp .And (b :: rest) pos) tB) : QW X (.BoolOp .And (a :: b :: rest) pos) (dAnd tA tB) :=
  ⟨pwW (pw_and ha.run hb.run) fun σ H Q ⟨T, DH, τ, R, A, S, h, u⟩ => ⟨T, DH, τ, _, A, S, h, fun T1 DH1 H1 k s1 A1 h1 => by
    cases k with
    | true => rw [if_pos rfl] at h1 ⊢; exact ⟨T1, DH1, τ, R, A1, S.up s1, h1, u.up s1⟩
    | false => rw [if_neg Bool.false_ne_true] at h1 ⊢; exact u T1 DH1 H1 _ s1 A1 h1⟩⟩
theorem qw_or (ha : QT X a tA) (hb : QW X (.BoolOp .Or (b :: rest) pos) tB) : QW X (.BoolOp .Or (a :: b :: rest) pos) (dOr tA tB) :=
  ⟨pwW (pw_or ha.run hb.run) fun σ H Q ⟨T, DH, τ, R, A, S, h, u⟩ => ⟨T, DH, τ, _, A, S, h, fun T1 DH1 H1 k s1 A1 h1 => by
    cases k with
    | false => rw [if_neg Bool.false_ne_true] at h1 ⊢; exact ⟨T1, DH1, τ, R, A1, S.up s1, h1, u.up s1⟩
    | true => rw [if_pos rfl] at h1 ⊢; exact u T1 DH1 H1 _ s1 A1 h1⟩⟩
theorem QW.qt (h : QW X e tA) : QT X e tA := ⟨h.run.pt⟩
theorem qt_not (ha : QT X a tA) : QT X (.UnaryOp .Not a pos) (dNot tA) := ⟨ptW (pt_not ha.run) fun σ H Q ⟨T, DH, τ, R, A, S, h, u⟩ => ⟨T, DH, τ, _, A, S, h, fun T1 DH1 H1 k s1 A1 h1 => u T1 DH1 H1 _ s1 A1 h1⟩⟩
/-- a value as a truth -/
def asB (x : D) (k : Bool → Prop) : Prop := match x with
  | .bl b => k b
  | _ => False
def dAndV (ta tb : DE) : DE := fun τ H Q => ta τ H fun x H1 => asB x fun c => if c = true then tb τ H1 Q else Q (.bl false) H1
def dOrV (ta tb : DE) : DE := fun τ H Q => ta τ H fun x H1 => asB x fun c => if c = true then Q (.bl true) H1 else tb τ H1 Q
def dNotV (ta : DE) : DE := fun τ H Q => ta τ H fun x H1 => asB x fun c => Q (.bl (!c)) H1
theorem asB_of {T : Hp} {x : D} {v : V} {k : Bool → Prop} (r : RepV T x v) (h : asB x k) : ∃ c, v = .bl c ∧ k c := by
  cases x with
  | bl b => exact ⟨b, r, h⟩
  | _ => exact (show False from h).elim
theorem qe_one {op} (h : QE X a ta) : QE X (.BoolOp op [a] pos) ta := ⟨pe_one h.run⟩
theorem qe_and (ha : QE X a ta) (hb : QE X (.BoolOp .And (b :: rest) pos) tb) : QE X (.BoolOp .And (a :: b :: rest) pos) (dAndV ta tb) :=
  ⟨peW (pe_and ha.run hb.run) fun σ H Q ⟨T, DH, τ, R, A, S, h, u⟩ => ⟨T, DH, τ, _, A, S, h, fun T1 DH1 H1 x v s1 A1 r1 h1 => by
    obtain ⟨c, rfl, h1⟩ := asB_of r1 h1
    refine ⟨c, rfl, ?_⟩
    cases c with
    | true => rw [if_pos rfl] at h1 ⊢; exact ⟨T1, DH1, τ, R, A1, S.up s1, h1, u.up s1⟩
    | false => rw [if_neg Bool.false_ne_true] at h1 ⊢; exact u T1 DH1 H1 (.bl false) _ s1 A1 rfl h1⟩⟩
theorem qe_or (ha : QE X a ta) (hb : QE X (.BoolOp .Or (b :: rest) pos) tb) : QE X (.BoolOp .Or (a :: b :: rest) pos) (dOrV ta tb) :=
  ⟨peW (pe_or ha.run hb.run) fun σ H Q ⟨T, DH, τ, R, A, S, h, u⟩ => ⟨T, DH, τ, _, A, S, h, fun T1 DH1 H1 x v s1 A1 r1 h1 => by
    obtain ⟨c, rfl, h1⟩ := asB_of r1 h1
    refine ⟨c, rfl, ?_⟩
    cases c with
    | false => rw [if_neg Bool.false_ne_true] at h1 ⊢; exact ⟨T1, DH1, τ, R, A1, S.up s1, h1, u.up s1⟩
    | true => rw [if_pos rfl] at h1 ⊢; exact u T1 DH1 H1 (.bl true) _ s1 A1 rfl h1⟩⟩
theorem qe_not (ha : QE X a ta) : QE X (.UnaryOp .Not a pos) (dNotV ta) :=
  ⟨peW (pe_not ha.run) fun σ H Q ⟨T, DH, τ, R, A, S, h, u⟩ => ⟨T, DH, τ, _, A, S, h, fun T1 DH1 H1 x v s1 A1 r1 h1 => by
    obtain ⟨c, rfl, h1⟩ := asB_of r1 h1
    exact ⟨c, rfl, u T1 DH1 H1 (.bl (!c)) _ s1 A1 rfl h1⟩⟩⟩
def dIf (t : DT) (ta tb : DE) : DE := fun τ H Q => t τ H fun c H1 => if c = true then ta τ H1 Q else tb τ H1 Q
theorem qe_if (hc : QT X c tA) (ha : QE X a ta) (hb : QE X b tb) : QE X (.IfExp c a b pos) (dIf tA ta tb) :=
  ⟨peW (pe_ifExp hc.run ha.run hb.run) fun σ H Q ⟨T, DH, τ, R, A, S, h, u⟩ => ⟨T, DH, τ, _, A, S, h, fun T1 DH1 H1 k s1 A1 h1 => by
    cases k with
    | true => rw [if_pos rfl] at h1 ⊢; exact ⟨T1, DH1, τ, R, A1, S.up s1, h1, u.up s1⟩
    | false => rw [if_neg Bool.false_ne_true] at h1 ⊢; exact ⟨T1, DH1, τ, R, A1, S.up s1, h1, u.up s1⟩⟩⟩

/-! ### arguments, displays, calls -/
variable {t : DA}
def dNil : DA := fun _ H Q => Q [] H
def dCons (ta : DE) (tr : DA) : DA := fun τ H Q => ta τ H fun x H1 => tr τ H1 fun xs H2 => Q (x :: xs) H2
theorem qa_nil : QA X [] dNil := ⟨paW pa_nil fun _ H _ ⟨T, DH, _, _, A, _, h, u⟩ => u T DH H _ _ (Same.refl _) A .nil h⟩
theorem qa_cons (ha : QE X e te) (hr : QA X es t) (hs : starEach (e :: es) X.env = (false, eval e X.env) :: starEach es X.env := by rfl) : QA X (e :: es) (dCons te t) :=
  ⟨paW (pa_cons ha.run hr.run hs) fun σ H Q ⟨T, DH, τ, R, A, S, h, u⟩ => ⟨T, DH, τ, _, A, S, h, fun T1 DH1 H1 x v s1 A1 r1 h1 =>
    ⟨T1, DH1, τ, _, A1, S.up s1, h1, fun T2 DH2 H2 xs vs s2 A2 r2 h2 => u T2 DH2 H2 _ _ (s1.trans s2) A2 (.cons (r1.up s2) r2) h2⟩⟩⟩
def dTup (t : DA) : DE := fun τ H Q => t τ H fun xs H1 => xs.length ≤ sizeLine ∧ Q (.tup xs) H1
def dLst (t : DA) : DE := fun τ H Q => t τ H fun xs H1 => xs.length ≤ sizeLine ∧ Q (.lst xs) H1
def dLstM (t : DA) : DE := fun τ H Q => t τ H fun xs H1 => xs.length ≤ sizeLine ∧ ∀ p, H1 p = none → Q (.ref p) (dupd H1 p (.lst xs))
theorem fin_tup {T : Hp} {DH : DHp} {H : Hp} {R : DK} {Q : VK} {xs : List D} {vs : List V} {p : Addr} (A : Abs T DH H) (r : RepL T xs vs) (u : Up T R Q) (h : R (.tup xs) DH) (hp : H p = none) : Q (.ref p) (upd H p (.tup vs)) := by
  obtain ⟨s, A1⟩ := A.frz (o := .tup vs) hp
  exact u _ DH _ (.tup xs) _ s A1 ⟨p, vs, rfl, upd_same, RepL.up s _ _ r⟩ h
theorem fin_lst {T : Hp} {DH : DHp} {H : Hp} {R : DK} {Q : VK} {xs : List D} {vs : List V} {p : Addr} (A : Abs T DH H) (r : RepL T xs vs) (u : Up T R Q) (h : R (.lst xs) DH) (hp : H p = none) : Q (.ref p) (upd H p (.lst vs)) := by
  obtain ⟨s, A1⟩ := A.frz (o := .lst vs) hp
  exact u _ DH _ (.lst xs) _ s A1 ⟨p, vs, rfl, upd_same, RepL.up s _ _ r⟩ h
theorem fin_lstM {T : Hp} {DH : DHp} {H : Hp} {R : DK} {Q : VK} {xs : List D} {vs : List V} {p : Addr} (A : Abs T DH H) (r : RepL T xs vs) (u : Up T R Q) (h : ∀ p, DH p = none → R (.ref p) (dupd DH p (.lst xs))) (hp : H p = none) : Q (.ref p) (upd H p (.lst vs)) :=
  u _ _ _ (.ref p) _ (Same.refl _) (A.new (x := .lst xs) hp ⟨vs, rfl, r⟩) rfl (h p (A.free hp).2)
theorem qe_tup {x1} (h : QA X es t) : QE X (.Tuple es x1 pos) (dTup t) :=
  ⟨peW (pe_tup h.run) fun σ H Q ⟨T, DH, τ, R, A, S, h, u⟩ => ⟨T, DH, τ, _, A, S, h, fun T1 DH1 H1 xs vs s1 A1 r1 h1 => ⟨by rw [r1.length]; exact h1.1, fun p hp => fin_tup A1 r1 (u.up s1) h1.2 hp⟩⟩⟩
theorem qe_lst (h : QA X es t) : QE X (.List es pos) (dLst t) :=
  ⟨peW (pe_lst h.run) fun σ H Q ⟨T, DH, τ, R, A, S, h, u⟩ => ⟨T, DH, τ, _, A, S, h, fun T1 DH1 H1 xs vs s1 A1 r1 h1 => ⟨by rw [r1.length]; exact h1.1, fun p hp => fin_lst A1 r1 (u.up s1) h1.2 hp⟩⟩⟩
theorem qe_lstM (h : QA X es t) : QE X (.List es pos) (dLstM t) :=
  ⟨peW (pe_lst h.run) fun σ H Q ⟨T, DH, τ, R, A, S, h, u⟩ => ⟨T, DH, τ, _, A, S, h, fun T1 DH1 H1 xs vs s1 A1 r1 h1 => ⟨by rw [r1.length]; exact h1.1, fun p hp => fin_lstM A1 r1 (u.up s1) h1.2 hp⟩⟩⟩
/-- a list may be frozen as soon as it is told -/
def dFrz (t : DE) : DE := fun τ H Q => t τ H fun x H1 => match x with
  | .ref p => match H1 p with
    | some (.lst xs) => Q (.lst xs) (derase H1 p)
    | _ => False
  | x => Q x H1
theorem qe_frz (h : QE X e te) : QE X e (dFrz te) :=
  ⟨peW h.run fun σ H Q ⟨T, DH, τ, R, A, S, h, u⟩ => ⟨T, DH, τ, _, A, S, h, fun T1 DH1 H1 x v s1 A1 r1 h1 => by
    cases x with
    | ref p =>
      simp only at h1
      split at h1
      · rename_i xs e
        obtain ⟨T2, s2, A2, r2⟩ := A1.freeze e
        cases (show v = .ref p from r1)
        exact u T2 _ H1 _ _ (s1.trans s2) A2 r2 h1
      · exact h1.elim
    | _ => exact u T1 DH1 H1 _ _ s1 A1 r1 h1⟩⟩

/-- a def's promise over data -/
abbrev DSp := List D → DHp → DK → Prop
def loP (sp : DSp) : Sp := fun vs H Q _ => ∃ T DH ds R, Abs T DH H ∧ RepL T ds vs ∧ sp ds DH R ∧ Up T R Q
def dCB (r : DRC) (t : DA) : DE := fun τ H Q => t τ H fun vs H1 => r vs H1 Q
theorem lo_cb {r : DRC} : ∀ σ H Q, lo (dCB r t) σ H Q → tCB (loC r) (loA t) σ H Q := fun σ H Q ⟨T, DH, τ, R, A, S, h, u⟩ =>
  ⟨T, DH, τ, _, A, S, h, fun T1 DH1 H1 xs vs s1 A1 r1 h1 => ⟨T1, DH1, xs, R, A1, r1, h1, u.up s1⟩⟩
section
variable {CX : CXT} {k : Nat} {f C : Addr} {fd : FuncData} {ps : List Str} {sp : DSp} {x m : Str} {p apos : Pos} {o : Expr} {id : String} {r : DRC}
theorem qe_call {E : XK} (F : FnOk X.prog X.w X.K X.mg X.base CX k f fd ps (loP sp)) (hr : Room k X.A) (hg : Gl X x) (hm : X.mg x = some (.ref f)) (hk : PySem.W.keepIn X.K (.ref f) = true) (hb : Binds X.K fd ps []) (hx : Passes CX X E)
    (ha : QA X (e :: es) t) (hdb : (x == ("__debug__" : Str)) = false := by decide) (he : starEach (e :: es) X.env = (false, eval e X.env) :: starEach es X.env := by rfl) (hpl : (backTo pos (starEach es X.env)).any (·.1) = false := by rfl) :
    QE X (.Call (.Name x p) (e :: es) [] pos) (dCB sp t) :=
  ⟨peW (pe_call F hr hg hm hk hb .nil hx ha.run hdb he hpl) fun σ H Q h => by
    obtain ⟨T, DH, τ, R, A, S, h, u⟩ := h
    exact ⟨T, DH, τ, _, A, S, h, fun T1 DH1 H1 xs vs s1 A1 r1 h1 => ⟨T1, DH1, xs, R, A1, by rw [List.append_nil]; exact r1, h1, u.up s1⟩⟩⟩
theorem qe_callB (hc : CallR X (.builtin id) (loC r)) (hg : Gl X x) (hm : X.mg x = none) (hv : bootBuiltins x = some (.builtin id)) (ha : QA X (e :: es) t) (hn : x ≠ "__name__" := by decide) (hdb : (x == ("__debug__" : Str)) = false := by decide)
    (he : starEach (e :: es) X.env = (false, eval e X.env) :: starEach es X.env := by rfl) (hpl : (backTo pos (starEach es X.env)).any (·.1) = false := by rfl) : QE X (.Call (.Name x p) (e :: es) [] pos) (dCB r t) := ⟨peW (pe_callB hc hg hm hv ha.run hn hdb he hpl) lo_cb⟩
theorem qe_callTy (hc : CallR X (.type id) (loC r)) (hg : Gl X x) (hm : X.mg x = none) (hv : bootBuiltins x = some (.type id)) (ha : QA X (e :: es) t) (hn : x ≠ "__name__" := by decide) (hdb : (x == ("__debug__" : Str)) = false := by decide)
    (he : starEach (e :: es) X.env = (false, eval e X.env) :: starEach es X.env := by rfl) (hpl : (backTo pos (starEach es X.env)).any (·.1) = false := by rfl) : QE X (.Call (.Name x p) (e :: es) [] pos) (dCB r t) := ⟨peW (pe_callTy hc hg hm hv ha.run hn hdb he hpl) lo_cb⟩
end

/-! ### statements -/
variable {st : Stmt} {sts : List Stmt} {ts us : DS}
def dNext : DS := fun E τ H => E.nx τ H
def dSeq (t u : DS) : DS := fun E τ H => t { E with nx := u E } τ H
theorem qss_nil : QSs X [] dNext := ⟨pssW pss_nil fun _ σ H ⟨T, DH, τ, _, A, S, h, u⟩ => u.nx T DH H τ σ (Same.refl _) A S h⟩
theorem loS_seq : ∀ E σ H, loS (dSeq ts us) E σ H → tSeq (loS ts) (loS us) E σ H := fun E σ H ⟨T, DH, τ, R, A, S, h, u⟩ =>
  ⟨T, DH, τ, _, A, S, h, ⟨fun T1 DH1 H1 τ1 σ1 s1 A1 S1 h1 => ⟨T1, DH1, τ1, R, A1, S1, h1, u.up s1⟩, u.rt, u.bk, u.ct⟩⟩
theorem qss_cons (h1 : QS X st ts) (h2 : QSs X sts us) : QSs X (st :: sts) (dSeq ts us) := ⟨pssW (pss_cons h1.run h2.run) loS_seq⟩
theorem qss_one (h1 : QS X st ts) : QSs X [st] ts := ⟨pss_one h1.run⟩
def dBreak : DS := fun E τ H => E.bk τ H
def dCont : DS := fun E τ H => E.ct τ H
theorem qs_pass : QS X (.Pass pos) dNext := ⟨psW ps_pass fun _ σ H ⟨T, DH, τ, _, A, S, h, u⟩ => u.nx T DH H τ σ (Same.refl _) A S h⟩
theorem qs_break : QS X (.Break pos) dBreak := ⟨psW ps_break fun _ σ H ⟨T, DH, τ, _, A, S, h, u⟩ => u.bk T DH H τ σ (Same.refl _) A S h⟩
theorem qs_cont : QS X (.Continue pos) dCont := ⟨psW ps_continue fun _ σ H ⟨T, DH, τ, _, A, S, h, u⟩ => u.ct T DH H τ σ (Same.refl _) A S h⟩
def dDrop (te : DE) : DS := fun E τ H => te τ H fun _ H1 => E.nx τ H1
theorem qs_expr (he : QE X e te) (hs : swapsWith e none pos.line X.env = pure false := by rfl) : QS X (.Expr e pos) (dDrop te) :=
  ⟨psW (ps_expr he.run hs) fun E σ H ⟨T, DH, τ, R, A, S, h, u⟩ => ⟨T, DH, τ, _, A, S, h, fun T1 DH1 H1 x v s1 A1 r1 h1 => u.nx T1 DH1 H1 τ σ s1 A1 (S.up s1) h1⟩⟩
def dRet (te : DE) : DS := fun E τ H => te τ H E.rt
theorem qs_ret (he : QE X e te) : QS X (.Return (some e) pos) (dRet te) := ⟨psW (ps_ret he.run) fun E σ H ⟨T, DH, τ, R, A, S, h, u⟩ => ⟨T, DH, τ, _, A, S, h, u.rt⟩⟩
def dRetN : DS := fun E _ H => E.rt .non H
theorem qs_retN : QS X (.Return none pos) dRetN := ⟨psW ps_retN fun E σ H ⟨T, DH, τ, R, A, S, h, u⟩ => u.rt T DH H .non _ (Same.refl _) A rfl h⟩
def dIfS (c : DT) (t u : DS) : DS := fun E τ H => c τ H fun b H1 => if b = true then t E τ H1 else u E τ H1
theorem qs_if {sa sb : List Stmt} (hc : QT X c tA) (ha : QSs X sa ts) (hb : QSs X sb us) : QS X (.If c sa sb pos) (dIfS tA ts us) :=
  ⟨psW (ps_if hc.run ha.run hb.run) fun E σ H ⟨T, DH, τ, R, A, S, h, u⟩ => ⟨T, DH, τ, _, A, S, h, fun T1 DH1 H1 k s1 A1 h1 => by
    cases k with
    | true => rw [if_pos rfl] at h1 ⊢; exact ⟨T1, DH1, τ, R, A1, S.up s1, h1, u.up s1⟩
    | false => rw [if_neg Bool.false_ne_true] at h1 ⊢; exact ⟨T1, DH1, τ, R, A1, S.up s1, h1, u.up s1⟩⟩⟩
def dNever : DS := fun _ _ _ => False
theorem qs_never : QS X st dNever := ⟨psW ps_never fun _ _ _ ⟨_, _, _, _, _, _, h, _⟩ => h⟩
theorem qss_never : QSs X sts dNever := ⟨pssW pss_never fun _ _ _ ⟨_, _, _, _, _, _, h, _⟩ => h⟩

/-! ### targets: the slots at ix may change, no others -/
abbrev DG := D → DSt → DHp → (DSt → DHp → Prop) → Prop
abbrev DGs := List D → DSt → DHp → (DSt → DHp → Prop) → Prop
def Far (ix : List Nat) (σ σ' : L2.St) : Prop := σ'.length = σ.length ∧ ∀ i, i ∉ ix → σ'[i]? = σ[i]?
theorem Far.refl (ix : List Nat) (σ : L2.St) : Far ix σ σ := ⟨rfl, fun _ _ => rfl⟩
theorem Far.trans {ix jx : List Nat} {σ σ1 σ2 : L2.St} (a : Far ix σ σ1) (b : Far jx σ1 σ2) : Far (ix ++ jx) σ σ2 :=
  ⟨b.1.trans a.1, fun i h => (b.2 i fun z => h (List.mem_append_right _ z)).trans (a.2 i fun z => h (List.mem_append_left _ z))⟩
def loG (ix : List Nat) (t : DG) : TG := fun v σ H Q => ∃ T DH τ d R, Abs T DH H ∧ RepS T τ σ ∧ RepV T d v ∧ t d τ DH R ∧ UpS T R (fun σ' H' => Far ix σ σ' → Q σ' H')
def loGs (ix : List Nat) (t : DGs) : TGs := fun vs σ H Q => ∃ T DH τ ds R, Abs T DH H ∧ RepS T τ σ ∧ RepL T ds vs ∧ t ds τ DH R ∧ UpS T R (fun σ' H' => Far ix σ σ' → Q σ' H')
structure QG (X : Cx) (e : Expr) (ix : List Nat) (t : DG) : Prop where
  run : PG X e (loG ix t)
structure QGs (X : Cx) (es : List Expr) (ix : List Nat) (t : DGs) : Prop where
  run : PGs X es (loGs ix t)
theorem pgW {t t' : TG} (h : PG X e t) (w : ∀ v σ H Q, t' v σ H Q → t v σ H Q) : PG X e t' := ⟨fun pins s σ H v u Q I r q => h.run pins s σ H v u Q I r (w v σ H Q q)⟩
theorem pgsW {t t' : TGs} (h : PGs X es t) (w : ∀ v σ H Q, t' v σ H Q → t v σ H Q) : PGs X es t' := ⟨fun pins s σ H v u Q I r q => h.run pins s σ H v u Q I r (w v σ H Q q)⟩
def gN (i : Nat) : DG := fun d τ H Q => Q (τ.set i (some d)) H
theorem qg_name {i : Nat} {x : Str} {pos : Pos} (hN : X.N.Nodup) (hi : X.N[i]? = some x := by rfl) (hx : Loc X.env.scope x := by first | exact Or.inl rfl | exact Or.inr rfl) (hf : X.fn x = true ∨ X.env.scope.names.lookup x = some .local := by first | exact .inl rfl | exact .inr rfl | assumption) :
    QG X (.Name x pos) [i] (gN i) := ⟨pgW (pg_name hN hi hx hf) fun v σ H Q ⟨T, DH, τ, d, R, A, S, r, h, u⟩ => u T DH H _ _ (Same.refl _) A (S.set r i) h
      ⟨by simp, fun j hj => by rw [List.getElem?_set_ne (fun z => hj (by simp [z]))]⟩⟩
def gNilD : DGs := fun ds τ H Q => match ds with
  | [] => Q τ H
  | _ => False
def gConsD (t : DG) (u : DGs) : DGs := fun ds τ H Q => match ds with
  | d :: r => t d τ H fun τ1 H1 => u r τ1 H1 Q
  | _ => False
theorem qgs_nil : QGs X [] [] gNilD := ⟨pgsW pgs_nil fun vs σ H Q ⟨T, DH, τ, ds, R, A, S, r, h, u⟩ => by
  cases ds with
  | nil => exact ⟨r, u T DH H _ _ (Same.refl _) A S h (Far.refl _ _)⟩
  | cons d ds => exact (show False from h).elim⟩
theorem qgs_cons {ix jx : List Nat} {tg : DG} {tgs : DGs} (h1 : QG X e ix tg) (h2 : QGs X es jx tgs) (hs : (assignEach (e :: es) X.env).map (·.2) = assign e X.env :: (assignEach es X.env).map (·.2) := by rfl) : QGs X (e :: es) (ix ++ jx) (gConsD tg tgs) :=
  ⟨pgsW (pgs_cons h1.run h2.run hs) fun vs σ H Q ⟨T, DH, τ, ds, R, A, S, r, h, u⟩ => by
    cases ds with
    | nil => exact (show False from h).elim
    | cons d ds =>
      obtain ⟨v, w, rfl, r1, r2⟩ := r
      refine ⟨v, w, rfl, T, DH, τ, d, _, A, S, r1, h, fun T1 DH1 H1 τ1 σ1 s1 A1 S1 q1 f1 => ?_⟩
      exact ⟨T1, DH1, τ1, ds, R, A1, S1, RepL.up s1 _ _ r2, q1, fun T2 DH2 H2 τ2 σ2 s2 A2 S2 q2 f2 => u T2 DH2 H2 τ2 σ2 (s1.trans s2) A2 S2 q2 (f1.trans f2)⟩⟩
def gT (n : Nat) (t : DGs) : DG := fun d τ H Q => match d with
  | .tup xs => xs.length = n ∧ t xs τ H Q
  | _ => False
theorem qg_tup {k : Nat} {ix : List Nat} {tgs : DGs} {n : Nat} (hc : X.calm = true) (h : QGs X es ix tgs) (hn : (assignEach es X.env).length = n := by rfl) (hst : (assignEach es X.env).findIdx? (·.1) = none := by rfl) : QG X (.Tuple es k pos) ix (gT n tgs) :=
  ⟨pgW (pg_tup hc h.run hn hst) fun v σ H Q ⟨T, DH, τ, d, R, A, S, r, h, u⟩ => by
    cases d with
    | tup xs =>
      obtain ⟨p, vs, rfl, e, r⟩ := r
      exact ⟨p, vs, rfl, .inl (.inl (A.sub _ _ e)), by rw [r.length]; exact h.1, T, DH, τ, xs, R, A, S, r, h.2, u⟩
    | _ => exact (show False from h).elim⟩
def dAsg (te : DE) (g : DG) : DS := fun E τ H => te τ H fun x H1 => g x τ H1 E.nx
theorem loS_asg {ix : List Nat} {g : DG} : ∀ E σ H, loS (dAsg te g) E σ H → tAsg (lo te) (loG ix g) E σ H := fun E σ H ⟨T, DH, τ, R, A, S, h, u⟩ =>
  ⟨T, DH, τ, _, A, S, h, fun T1 DH1 H1 x v s1 A1 r1 h1 => ⟨T1, DH1, τ, x, _, A1, S.up s1, r1, h1, fun T2 DH2 H2 τ2 σ2 s2 A2 S2 h2 _ => u.nx T2 DH2 H2 τ2 σ2 (s1.trans s2) A2 S2 h2⟩⟩
theorem qs_asg {tg : Expr} {ix : List Nat} {g : DG} (he : QE X e te) (hg : QG X tg ix g) (hs : swapsWithSole [tg] e pos.line X.env = pure false := by rfl) (hw : swappedStores [tg] e X.env = pure none := by rfl)
    (h1 : (assignEach [tg] X.env).map (·.2) = [assign tg X.env] := by rfl) : QS X (.Assign [tg] e pos) (dAsg te g) := ⟨psW (ps_asg he.run hg.run hs hw h1) loS_asg⟩
/-- name = value -/
theorem qs_set {i : Nat} {x : Str} {pos' : Pos} (hN : X.N.Nodup) (he : QE X e te) (hi : X.N[i]? = some x := by rfl) (hx : Loc X.env.scope x := by first | exact Or.inl rfl | exact Or.inr rfl) (hs : swapsWith e (some (.Name x pos')) pos.line X.env = pure false := by rfl)
    (hf : X.fn x = true ∨ X.env.scope.names.lookup x = some .local := by first | exact .inl rfl | exact .inr rfl | assumption) : QS X (.Assign [.Name x pos'] e pos) (dAsg te (gN i)) :=
  ⟨psW (ps_set hN hi hx he.run hs hf) fun E σ H ⟨T, DH, τ, R, A, S, h, u⟩ => ⟨T, DH, τ, _, A, S, h, fun T1 DH1 H1 x v s1 A1 r1 h1 => u.nx T1 DH1 H1 _ _ s1 A1 ((S.up s1).set r1 i) h1⟩⟩
/-- a, b = x, y, both sides written: stored from the right -/
def dPar (i j : Nat) (t : DA) : DS := fun E τ H => t τ H fun ds H1 => match ds with
  | [v, w] => E.nx ((τ.set i (some v)).set j (some w)) H1
  | _ => False
theorem qs_par {i j : Nat} {x y : Str} {px py pt : Pos} {kt k2 pt2} (hc : X.calm = true) (hN : X.N.Nodup) (ha : QA X [a, b] t) (hi : X.N[i]? = some x := by rfl) (hj : X.N[j]? = some y := by rfl) (hij : i ≠ j := by decide)
    (hx : X.env.scope.names.lookup x = some .local := by rfl) (hy : X.env.scope.names.lookup y = some .local := by rfl)
    (hw : swappedStores [.Tuple [.Name x px, .Name y py] kt pt] (.Tuple [a, b] k2 pt2) X.env = pure (some [x, y]) := by rfl)
    (hs : swapsWithSole [.Tuple [.Name x px, .Name y py] kt pt] (.Tuple [a, b] k2 pt2) pos.line X.env = pure false := by rfl) :
    QS X (.Assign [.Tuple [.Name x px, .Name y py] kt pt] (.Tuple [a, b] k2 pt2) pos) (dPar i j t) :=
  ⟨psW (ps_par hc hN hi hj hij hx hy ha.run hw hs) fun E σ H ⟨T, DH, τ, R, A, S, h, u⟩ => ⟨T, DH, τ, _, A, S, h, fun T1 DH1 H1 ds vs s1 A1 r1 h1 => by
    match ds, r1, h1 with
    | [d, e], ⟨v, _, e1, rv, w, _, e2, rw', e3⟩, h1 =>
      have e3 : _ = [] := e3
      subst e3 e2 e1
      exact ⟨v, w, rfl, u.nx T1 DH1 H1 _ _ s1 A1 (((S.up s1).set rv i).set rw' j) h1⟩
    | [], _, h1 => exact h1.elim
    | [_], _, h1 => exact h1.elim
    | _ :: _ :: _ :: _, _, h1 => exact h1.elim⟩⟩
end
end DL

/-! DL3: operators, comparisons, calls of built-ins, subscripts and slices, over data. -/
namespace DL
open PySem PySem.Spec PyProof.Rows L2

/-! ### what a value is as plain data -/
mutual
def D.py : D → PyData
  | .non => .none
  | .bl b => .bool b
  | .int i => .int i
  | .str x => .str x
  | .tup xs => .tuple (pyL xs)
  | .lst xs => .list (pyL xs)
  | .dct _ _ => .dict []
  | .ref _ => .none
  | .ty _ => .none
def pyL : List D → List PyData
  | [] => []
  | x :: xs => x.py :: pyL xs
end
mutual
/-- plain data, no dict in it -/
def D.plain : D → Bool
  | .non | .bl _ | .int _ => true
  | .str x => PyData.strOk x
  | .tup xs | .lst xs => plainL xs
  | .dct _ _ | .ref _ | .ty _ => false
def plainL : List D → Bool
  | [] => true
  | x :: xs => x.plain && plainL xs
end
mutual
def D.dep : D → Nat
  | .tup xs | .lst xs => depL xs + 1
  | .dct _ _ => 1
  | _ => 0
def depL : List D → Nat
  | [] => 0
  | x :: xs => max x.dep (depL xs)
end
mutual
/-- == -/
def D.eq : D → D → Bool
  | .non, y => match y with | .non => true | _ => false
  | .bl a, y => match y with | .bl b => a == b | .int j => (if a then 1 else 0) == j | _ => false
  | .int i, y => match y with | .bl b => i == (if b then 1 else 0) | .int j => i == j | _ => false
  | .str a, y => match y with | .str b => a == b | _ => false
  | .tup xs, y => match y with | .tup ys => eqL xs ys | _ => false
  | .lst xs, y => match y with | .lst ys => eqL xs ys | _ => false
  | .dct _ _, _ => false
  | .ref _, _ => false
  | .ty _, _ => false
def eqL : List D → List D → Bool
  | [], ys => match ys with | [] => true | _ => false
  | x :: xs, ys => match ys with | [] => false | y :: ys => D.eq x y && eqL xs ys
end
mutual
theorem eq_py : ∀ (x y : D), x.plain = true → y.plain = true → PyData.eqv x.py y.py = D.eq x y
  | .non, y, _, h => by cases y <;> simp_all [D.py, D.eq, PyData.eqv, D.plain]
  | .bl a, y, _, h => by cases y <;> simp_all [D.py, D.eq, PyData.eqv, D.plain]
  | .int a, y, _, h => by cases y <;> simp_all [D.py, D.eq, PyData.eqv, D.plain]
  | .str a, y, _, h => by cases y <;> simp_all [D.py, D.eq, PyData.eqv, D.plain]
  | .tup xs, y, g, h => by
    cases y with
    | tup ys =>
      simp only [D.plain] at g h
      simp only [D.py, D.eq, PyData.eqv, eqL_py xs ys g h]
    | _ => simp_all [D.py, D.eq, PyData.eqv, D.plain]
  | .lst xs, y, g, h => by
    cases y with
    | lst ys =>
      simp only [D.plain] at g h
      simp only [D.py, D.eq, PyData.eqv, eqL_py xs ys g h]
    | _ => simp_all [D.py, D.eq, PyData.eqv, D.plain]
  | .dct _ _, _, g, _ => by simp [D.plain] at g
  | .ref _, _, g, _ => by simp [D.plain] at g
  | .ty _, _, g, _ => by simp [D.plain] at g
theorem eqL_py : ∀ (xs ys : List D), plainL xs = true → plainL ys = true → PyData.eqvAll (pyL xs) (pyL ys) = eqL xs ys
  | [], ys, _, _ => by cases ys <;> simp [pyL, eqL, PyData.eqvAll]
  | x :: xs, ys, g, h => by
    cases ys with
    | nil => simp [pyL, eqL, PyData.eqvAll]
    | cons y ys =>
      simp only [plainL, Bool.and_eq_true] at g h
      simp only [pyL, eqL, PyData.eqvAll, eq_py x y g.1 h.1, eqL_py xs ys g.2 h.2]
end
mutual
theorem plain_lay : ∀ x : D, x.plain = true → x.py.canLay0 = true ∧ x.py.depth = x.dep
  | .non, _ => ⟨by simp [D.py, PyData.canLay0], by simp [D.py, PyData.depth, D.dep]⟩
  | .bl _, _ => ⟨by simp [D.py, PyData.canLay0], by simp [D.py, PyData.depth, D.dep]⟩
  | .int _, _ => ⟨by simp [D.py, PyData.canLay0], by simp [D.py, PyData.depth, D.dep]⟩
  | .str _, h => ⟨by simpa [D.py, PyData.canLay0, D.plain] using h, by simp [D.py, PyData.depth, D.dep]⟩
  | .tup xs, h => by
    have := plainL_lay xs (by simpa [D.plain] using h)
    exact ⟨by simpa [D.py, PyData.canLay0] using this.1, by simp [D.py, PyData.depth, D.dep, this.2]⟩
  | .lst xs, h => by
    have := plainL_lay xs (by simpa [D.plain] using h)
    exact ⟨by simpa [D.py, PyData.canLay0] using this.1, by simp [D.py, PyData.depth, D.dep, this.2]⟩
  | .dct _ _, h => by simp [D.plain] at h
  | .ref _, h => by simp [D.plain] at h
  | .ty _, h => by simp [D.plain] at h
theorem plainL_lay : ∀ xs : List D, plainL xs = true → PyData.canLayAll0 (pyL xs) = true ∧ PyData.depthAll (pyL xs) = depL xs
  | [], _ => ⟨by simp [pyL, PyData.canLayAll0], by simp [pyL, PyData.depthAll, depL]⟩
  | x :: xs, h => by
    simp only [plainL, Bool.and_eq_true] at h
    have h1 := plain_lay x h.1
    have h2 := plainL_lay xs h.2
    exact ⟨by simp [pyL, PyData.canLayAll0, h1.1, h2.1], by simp [pyL, PyData.depthAll, depL, h1.2, h2.2]⟩
end
mutual
theorem rep_dp {K : PySem.W.Frag} {T H : Hp} (s : Sb T H) : ∀ (d : D) (v : V), d.plain = true → RepV T d v → Dp K H v d.py
  | .non, _, _, r => by cases (show _ = V.non from r); simp only [D.py]; exact .non
  | .bl b, _, _, r => by cases (show _ = V.bl b from r); simp only [D.py]; exact .bl b
  | .int b, _, _, r => by cases (show _ = V.int b from r); simp only [D.py]; exact .int b
  | .str b, _, _, r => by cases (show _ = V.str b from r); simp only [D.py]; exact .str b
  | .tup xs, _, g, ⟨p, vs, e, t, r⟩ => by
    subst e
    simp only [D.py]
    exact .tup (SqT.of (s _ _ t)) (rep_dpL s xs vs (by simpa [D.plain] using g) r)
  | .lst xs, _, g, ⟨p, vs, e, t, r⟩ => by
    subst e
    simp only [D.py]
    exact .lst (SqL.of (s _ _ t)) (rep_dpL s xs vs (by simpa [D.plain] using g) r)
  | .dct _ _, _, g, _ => by simp [D.plain] at g
  | .ref _, _, g, _ => by simp [D.plain] at g
  | .ty _, _, g, _ => by simp [D.plain] at g
theorem rep_dpL {K : PySem.W.Frag} {T H : Hp} (s : Sb T H) : ∀ (ds : List D) (vs : List V), plainL ds = true → RepL T ds vs → DpAll K H vs (pyL ds)
  | [], _, _, r => by cases (show _ = [] from r); simp only [pyL]; exact .nil
  | d :: ds, _, g, ⟨v, q, e, r1, r2⟩ => by
    subst e
    simp only [plainL, Bool.and_eq_true] at g
    simp only [pyL]
    exact .cons (rep_dp s d v g.1 r1) (rep_dpL s ds q g.2 r2)
end

/-! ### what a name of a list shows -/
/-- a list that may be changed, as the data it holds now -/
def peek (H : DHp) (d : D) : D := match d with
  | .ref p => match H p with
    | some (.lst xs) => .lst xs
    | _ => d
  | d => d
def listOf (H : DHp) (d : D) : Option (List D) := match peek H d with
  | .lst xs => some xs
  | _ => none
def seqOf (H : DHp) (d : D) : Option (List D) := match peek H d with
  | .lst xs => some xs
  | .tup xs => some xs
  | _ => none
theorem peek_ref {H : DHp} {p : Addr} {xs : List D} (h : H p = some (.lst xs)) : peek H (.ref p) = .lst xs := by simp [peek, h]

section
variable {X : Cx} {T : Hp} {DH : DHp} {H : Hp}
theorem listOf_rep {K : PySem.W.Frag} (A : Abs T DH H) {d : D} {v : V} {xs : List D} (r : RepV T d v) (h : listOf DH d = some xs) : ∃ p vs, v = .ref p ∧ H p = some (.lst vs) ∧ RepL T xs vs := by
  cases d with
  | lst ys =>
    cases (show some ys = some xs from h)
    obtain ⟨p, vs, e, t, q⟩ := r
    exact ⟨p, vs, e, A.sub _ _ t, q⟩
  | ref p =>
    unfold listOf peek at h
    cases e : DH p with
    | none => simp [e] at h
    | some o =>
      cases o with
      | lst ys =>
        simp only [e] at h
        cases h
        obtain ⟨vs, q1, q2⟩ := A.lst e
        exact ⟨p, vs, r, q1, q2⟩
      | _ => simp [e] at h
  | _ => simp [listOf, peek] at h
theorem seqOf_rep {K : PySem.W.Frag} (A : Abs T DH H) {d : D} {v : V} {xs : List D} (r : RepV T d v) (h : seqOf DH d = some xs) : ∃ p vs, v = .ref p ∧ (SqL K H p vs ∨ SqT K H p vs) ∧ RepL T xs vs := by
  by_cases q : ∃ ys, d = .tup ys
  · obtain ⟨ys, rfl⟩ := q
    cases (show some ys = some xs from h)
    obtain ⟨p, vs, e, t, q⟩ := r
    exact ⟨p, vs, e, .inr (SqT.of (A.sub _ _ t)), q⟩
  · have h' : listOf DH d = some xs := by
      unfold seqOf at h
      unfold listOf
      split at h
      · rename_i e; rw [e]; exact h
      · rename_i ys e
        exfalso
        cases d with
        | tup zs => exact q ⟨zs, rfl⟩
        | ref p =>
          unfold peek at e
          simp only at e
          split at e <;> cases e
        | _ => simp [peek] at e
      · cases h
    obtain ⟨p, vs, e, t, r⟩ := listOf_rep (K := K) A r h'
    exact ⟨p, vs, e, .inl (SqL.of t), r⟩
theorem peek_dp {K : PySem.W.Frag} (A : Abs T DH H) {d : D} {v : V} (r : RepV T d v) (g : (peek DH d).plain = true) : Dp K H v (peek DH d).py := by
  cases d with
  | ref p =>
    unfold peek at g ⊢
    cases e : DH p with
    | none => simp [e, D.plain] at g
    | some o =>
      cases o with
      | lst ys =>
        simp only [e] at g ⊢
        obtain ⟨vs, q1, q2⟩ := A.lst e
        cases (show v = .ref p from r)
        simp only [D.py]
        exact .lst (SqL.of q1) (rep_dpL A.sub ys vs (by simpa [D.plain] using g) q2)
      | _ => simp [e, D.plain] at g
  | _ => exact rep_dp A.sub _ _ g r

/-! ### numbers -/
theorem Up.at {R : DK} {Q : VK} (u : Up T R Q) (A : Abs T DH H) {d : D} {v : V} (r : RepV T d v) (h : R d DH) : Q v H := u T DH H d v (Same.refl _) A r h
theorem Up.int {R : DK} {Q : VK} (u : Up T R Q) (A : Abs T DH H) {i : Int} (h : R (.int i) DH) : Q (.int i) H := u.at A (d := .int i) rfl h
theorem Up.bl {R : DK} {Q : VK} (u : Up T R Q) (A : Abs T DH H) {i : Bool} (h : R (.bl i) DH) : Q (.bl i) H := u.at A (d := .bl i) rfl h
theorem Up.str {R : DK} {Q : VK} (u : Up T R Q) (A : Abs T DH H) {i : Str} (h : R (.str i) DH) : Q (.str i) H := u.at A (d := .str i) rfl h
def rIntD (C : Int → Int → Prop) (g : Int → Int → D) : DR2 := fun x y H Q => match x, y with
  | .int i, .int j => C i j ∧ Q (g i j) H
  | _, _ => False
theorem intD_of {C : Int → Int → Prop} {g : Int → Int → D} {gv : Int → Int → V} {x y : D} {v u : V} {R : DK} {Q : VK} (A : Abs T DH H) (r1 : RepV T x v) (r2 : RepV T y u) (h : rIntD C g x y DH R) (w : Up T R Q) (hg : ∀ i j, RepV T (g i j) (gv i j)) : rI C gv v u H Q := by
  unfold rIntD at h
  split at h
  · rename_i i j
    exact ⟨i, j, r1, r2, h.1, w.at A (hg i j) h.2⟩
  · exact h.elim
theorem oi {f : Value → Value → Sem Value} {C : Int → Int → Prop} {g : Int → Int → Int} (o : OpR X f (rI C fun i j => .int (g i j))) : OpR X f (lo2 (rIntD C fun i j => .int (g i j))) :=
  oprW o fun v u H Q ⟨T, DH, x, y, R, A, r1, r2, h, w⟩ => intD_of A r1 r2 h w fun _ _ => rfl
theorem oi0 {f : Value → Value → Sem Value} {g : Int → Int → Int} (o : OpR X f (rI0 fun i j => .int (g i j))) : OpR X f (lo2 (rIntD (fun _ _ => True) fun i j => .int (g i j))) :=
  oprW o fun v u H Q ⟨T, DH, x, y, R, A, r1, r2, h, w⟩ => let ⟨i, j, a, b, _, q⟩ := intD_of (gv := fun i j => .int (g i j)) A r1 r2 h w fun _ _ => rfl; ⟨i, j, a, b, q⟩
theorem ob0 {f : Value → Value → Sem Value} {g : Int → Int → Bool} (o : OpR X f (rI0 fun i j => .bl (g i j))) : OpR X f (lo2 (rIntD (fun _ _ => True) fun i j => .bl (g i j))) :=
  oprW o fun v u H Q ⟨T, DH, x, y, R, A, r1, r2, h, w⟩ => let ⟨i, j, a, b, _, q⟩ := intD_of (gv := fun i j => .bl (g i j)) A r1 r2 h w fun _ _ => rfl; ⟨i, j, a, b, q⟩
def CMulD (i j : Int) : Prop := CMul i j ∨ CMulW i j
theorem od_mulI : OpR X (binaryOp .Mult) (lo2 (rIntD CMulD fun i j => .int (i * j))) := oi (opI fun i j _ _ _ _ _ hc q => mul_int q (by rcases hc with h | h; exact h.ok; exact h.ok))
theorem od_sub : OpR X (binaryOp .Sub) (lo2 (rIntD (fun _ _ => True) fun i j => .int (i - j))) := oi0 op_sub
theorem od_fdiv : OpR X (binaryOp .FloorDiv) (lo2 (rIntD (fun i j => 0 < j ∧ j.natAbs.log2 < 9000) fun i j => .int (i / j))) := oi op_fdivW
theorem od_mod : OpR X (binaryOp .Mod) (lo2 (rIntD (fun _ j => 0 < j) fun i j => .int (i % j))) := oi op_mod
/-- a power: the second one small -/
theorem od_pow : OpR X (binaryOp .Pow) (lo2 (rIntD (fun i j => 0 ≤ j ∧ (Builtin.Int.intBits i : Int) * j ≤ 2 ^ 27) fun i j => .int (i ^ j.toNat))) := oi (opI fun i j _ _ _ _ _ hc q => pow_int hc.1 hc.2 q)
theorem od_lt : OpR X (compareOp .Lt) (lo2 (rIntD (fun _ _ => True) fun i j => .bl (decide (i < j)))) := ob0 op_lt
theorem od_le : OpR X (compareOp .LtE) (lo2 (rIntD (fun _ _ => True) fun i j => .bl (decide (i ≤ j)))) := ob0 op_le
theorem od_gt : OpR X (compareOp .Gt) (lo2 (rIntD (fun _ _ => True) fun i j => .bl (decide (j < i)))) := ob0 op_gt
theorem od_ge : OpR X (compareOp .GtE) (lo2 (rIntD (fun _ _ => True) fun i j => .bl (decide (j ≤ i)))) := ob0 op_ge
def rNegD : D → DHp → DK → Prop := fun x H Q => match x with
  | .int i => Q (.int (-i)) H
  | _ => False
theorem ud_neg : UnR X (unaryOp .USub) (lo1 rNegD) := unrW un_neg fun v H Q ⟨T, DH, x, R, A, r, h, w⟩ => by
  cases x with
  | int i => exact ⟨i, r, w.int A h⟩
  | _ => exact h.elim

/-! ### ==, !=, in, is None -/
/-- two values that == may tell -/
def eqOk (x y : D) : Prop := x.plain = true ∧ y.plain = true ∧ (x.dep ≤ 60 ∨ y.dep ≤ 60)
def rEqD (neg : Bool) : DR2 := fun x y H Q => eqOk (peek H x) (peek H y) ∧ Q (.bl (if neg then !(D.eq (peek H x) (peek H y)) else D.eq (peek H x) (peek H y))) H
theorem eqOk.room {x y : D} (h : eqOk x y) {A : Around} (hu : A.units + 64 < cLine) : x.py.canLay0 = true ∧ y.py.canLay0 = true ∧ A.units + min x.py.depth y.py.depth < cLine := by
  obtain ⟨h1, h2, h3⟩ := h
  obtain ⟨a1, a2⟩ := plain_lay x h1
  obtain ⟨b1, b2⟩ := plain_lay y h2
  refine ⟨a1, b1, ?_⟩
  rw [a2, b2]
  omega
theorem od_eq (hu : X.A.units + 64 < cLine) : OpR X (compareOp .Eq) (lo2 (rEqD false)) := by
  intro pins s σ H v u vv uu Q I rv ru ⟨T, DH, x, y, R, A, r1, r2, h, w⟩
  obtain ⟨ok, h⟩ := h
  obtain ⟨as, q1⟩ := Dp.reads I _ v vv (peek_dp A r1 ok.1) rv
  obtain ⟨bs, q2⟩ := Dp.reads I _ u uu (peek_dp A r2 ok.2.1) ru
  obtain ⟨z1, z2, z3⟩ := ok.room hu
  refine SeqAt.compareEq_reads q1 q2 z1 z2 z3 ?_
  rw [eq_py _ _ ok.1 ok.2.1]
  exact ⟨.bl _, H, I, rfl, w.bl A h⟩
theorem od_ne (hu : X.A.units + 64 < cLine) : OpR X (compareOp .NotEq) (lo2 (rEqD true)) := by
  intro pins s σ H v u vv uu Q I rv ru ⟨T, DH, x, y, R, A, r1, r2, h, w⟩
  obtain ⟨ok, h⟩ := h
  obtain ⟨as, q1⟩ := Dp.reads I _ v vv (peek_dp A r1 ok.1) rv
  obtain ⟨bs, q2⟩ := Dp.reads I _ u uu (peek_dp A r2 ok.2.1) ru
  obtain ⟨z1, z2, z3⟩ := ok.room hu
  refine SeqAt.compareNe_reads q1 q2 z1 z2 z3 ?_
  rw [eq_py _ _ ok.1 ok.2.1]
  exact ⟨.bl _, H, I, rfl, w.bl A h⟩
def memD (x : D) (ys : List D) : Bool := ys.any fun y => D.eq y x
theorem any_py : ∀ (ys : List D) (x : D), plainL ys = true → x.plain = true → (pyL ys).any (fun y => PyData.eqv y x.py) = memD x ys
  | [], _, _, _ => by simp [pyL, memD]
  | y :: ys, x, g, h => by
    simp only [plainL, Bool.and_eq_true] at g
    have ih := any_py ys x g.2 h
    unfold memD at ih ⊢
    simp only [pyL, List.any_cons, eq_py y x g.1 h, ih]
def inOk (x : D) (ys : List D) : Prop := x.plain = true ∧ plainL ys = true ∧ (x.dep ≤ 60 ∨ depL ys ≤ 60)
def rInD (neg : Bool) : DR2 := fun x y H Q => match seqOf H y with
  | some ys => inOk (peek H x) ys ∧ Q (.bl (if neg then !memD (peek H x) ys else memD (peek H x) ys)) H
  | none => False
theorem in_two {K : PySem.W.Frag} (A : Abs T DH H) {d : D} {v : V} {xs : List D} (r : RepV T d v) (h : seqOf DH d = some xs) (g : plainL xs = true) : Dp K H v (.list (pyL xs)) ∨ Dp K H v (.tuple (pyL xs)) := by
  obtain ⟨p, vs, rfl, e, q⟩ := seqOf_rep (K := K) A r h
  rcases e with e | e
  · exact .inl (.lst e (rep_dpL A.sub xs vs g q))
  · exact .inr (.tup e (rep_dpL A.sub xs vs g q))
theorem od_in (hu : X.A.units + 65 < cLine) : OpR X (compareOp .In) (lo2 (rInD false)) := by
  intro pins s σ H v u vv uu Q I rv ru ⟨T, DH, x, y, R, A, r1, r2, h, w⟩
  unfold rInD at h
  split at h
  · rename_i ys e
    obtain ⟨⟨o1, o2, o3⟩, h⟩ := h
    obtain ⟨as, q1⟩ := Dp.reads I _ v vv (peek_dp A r1 o1) rv
    obtain ⟨c1, c2⟩ := plain_lay _ o1
    obtain ⟨c3, c4⟩ := plainL_lay _ o2
    have hr : X.A.units + 1 + min (PyData.depthAll (pyL ys)) (peek DH x).py.depth < cLine := by rw [c2, c4]; omega
    have fin : EP X pins σ Q (.bool ((pyL ys).any fun z => PyData.eqv z (peek DH x).py)) s := by
      rw [any_py ys _ o2 o1]
      exact ⟨.bl _, H, I, rfl, w.bl A h⟩
    rcases in_two (K := X.K) A r2 e o2 with z | z
    · obtain ⟨bs, q2⟩ := Dp.reads I _ u uu z ru
      exact SeqAt.in_list_reads q2 q1 c3 c1 hr fin
    · obtain ⟨bs, q2⟩ := Dp.reads I _ u uu z ru
      exact SeqAt.in_tuple_reads q2 q1 c3 c1 hr fin
  · exact h.elim
theorem od_notin (hu : X.A.units + 65 < cLine) : OpR X (compareOp .NotIn) (lo2 (rInD true)) := by
  intro pins s σ H v u vv uu Q I rv ru ⟨T, DH, x, y, R, A, r1, r2, h, w⟩
  unfold rInD at h
  split at h
  · rename_i ys e
    obtain ⟨⟨o1, o2, o3⟩, h⟩ := h
    obtain ⟨as, q1⟩ := Dp.reads I _ v vv (peek_dp A r1 o1) rv
    obtain ⟨c1, c2⟩ := plain_lay _ o1
    obtain ⟨c3, c4⟩ := plainL_lay _ o2
    have hr : X.A.units + 1 + min (PyData.depthAll (pyL ys)) (peek DH x).py.depth < cLine := by rw [c2, c4]; omega
    have fin : EP X pins σ Q (.bool (!(pyL ys).any fun z => PyData.eqv z (peek DH x).py)) s := by
      rw [any_py ys _ o2 o1]
      exact ⟨.bl _, H, I, rfl, w.bl A h⟩
    rcases in_two (K := X.K) A r2 e o2 with z | z
    · obtain ⟨bs, q2⟩ := Dp.reads I _ u uu z ru
      exact SeqAt.notIn_list_reads q2 q1 c3 c1 hr fin
    · obtain ⟨bs, q2⟩ := Dp.reads I _ u uu z ru
      exact SeqAt.notIn_tuple_reads q2 q1 c3 c1 hr fin
  · exact h.elim
/-- is None -/
def isNon : D → Bool
  | .non => true
  | _ => false
theorem isNon_rep {d : D} {v : V} (r : RepV T d v) : decide (v = .non) = isNon d := by
  cases d with
  | non => cases (show v = .non from r); rfl
  | bl b => cases (show v = .bl b from r); rfl
  | int b => cases (show v = .int b from r); rfl
  | str b => cases (show v = .str b from r); rfl
  | ref b => cases (show v = .ref b from r); rfl
  | ty b => cases (show v = .ty b from r); rfl
  | tup xs => obtain ⟨p, vs, rfl, _⟩ := r; rfl
  | lst xs => obtain ⟨p, vs, rfl, _⟩ := r; rfl
  | dct ks xs => obtain ⟨p, vs, rfl, _⟩ := r; rfl
def rIsN (neg : Bool) : DR2 := fun x y H Q => match y with
  | .non => Q (.bl (if neg then !isNon x else isNon x)) H
  | _ => False
theorem od_is : OpR X (compareOp .Is) (lo2 (rIsN false)) := oprW op_isN fun v u H Q ⟨T, DH, x, y, R, A, r1, r2, h, w⟩ => by
  cases y with
  | non => exact ⟨r2, by rw [isNon_rep r1]; exact w.bl A h⟩
  | _ => exact h.elim
theorem od_isnot : OpR X (compareOp .IsNot) (lo2 (rIsN true)) := oprW op_notN fun v u H Q ⟨T, DH, x, y, R, A, r1, r2, h, w⟩ => by
  cases y with
  | non => exact ⟨r2, by rw [isNon_rep r1]; exact w.bl A h⟩
  | _ => exact h.elim

/-! ### + of sequences -/
/-- () + t gives t -/
theorem cat_nilT {t b : Addr} {ws : List Value} {prog : Program} {w : World} {A : Around} {E : Value → Shared → Prop} {s : Shared} {Q : Value → Shared → Prop} (ht : IsTup s.heap t #[]) (hb : IsTup s.heap b ws.toArray) (h : Q (.ref b) s) :
    wpAny (model prog w) A (binaryOp .Add (.ref t) (.ref b)) Q E s := by
  obtain ⟨⟨cls, dd, data, sl⟩, ho, hc, n, hd⟩ := id ht
  obtain ⟨⟨cls2, dd2, data2, sl2⟩, ho2, hc2, n2, hd2⟩ := id hb
  simp only at hc hd hc2 hd2
  subst hc hd hc2 hd2
  exact concat_meets ⟨_, ho, rfl⟩ ⟨_, ho2, rfl⟩ noFill_tuple_add seq_tuple_add PySem.F.slot_tuple_add PySem.F.entry_tuple_add (PySem.F.args_tuple_add_2 _ _) (.of_wp fun prog w A R s h => by
      obtain ⟨hp, g, d, tk, os⟩ := s
      obtain ⟨h1, h2, h⟩ := h
      have f2 := AutoSeq1.sub_tuple_tuple
      wp_walk using AutoSeq1.wpAny_loadPart' h1, AutoSeq1.wpAny_loadPart' h2
      exact ⟨_, rfl, h⟩ : Meets (Builtin.«tuple.__add__» ⟨[.ref t, .ref b], []⟩) (fun _ R s => s.heap.get? t = some { cls := .type "tuple", dict := dd, data := .seq #[] n, slots := sl } ∧ s.heap.get? b = some { cls := .type "tuple", dict := dd2, data := .seq ws.toArray n2, slots := sl2 } ∧ R (.ok (.ret (Value.ref b))) s)) ⟨ho, ho2, h⟩
end
end DL

/-! DL4: + and * of sequences, subscripts, slices, calls of built-ins, over data. -/
namespace DL
open PySem PySem.Spec PyProof.Rows L2
section
variable {X : Cx} {T : Hp} {DH : DHp} {H : Hp}

/-! ### + -/
theorem op_catN : OpR X (binaryOp .Add) (fun x y H Q => ∃ a b ys, x = .ref a ∧ y = .ref b ∧ SqT X.K H a [] ∧ SqT X.K H b ys ∧ Q (.ref b) H) := by
  intro pins s σ H x y v u Q I rx ry h
  obtain ⟨a, b, ys, rfl, rfl, ha, hb, q⟩ := h
  cases rx
  cases ry
  obtain ⟨its, r1, p1, _⟩ := I.tuple ha
  obtain ⟨its2, r2, p2, _⟩ := I.tuple hb
  cases r1
  exact cat_nilT p1 p2 ⟨.ref b, H, I, rfl, q⟩
def rAddD : DR2 := fun x y H Q => match peek H x, peek H y with
  | .int i, .int j => Q (.int (i + j)) H
  | .tup xs, .tup ys => xs.length + ys.length ≤ sizeLine ∧ Q (.tup (xs ++ ys)) H
  | .lst xs, .lst ys => xs.length + ys.length ≤ sizeLine ∧ Q (.lst (xs ++ ys)) H
  | .str x, .str y => x.length + y.length ≤ sizeLine ∧ Q (.str (x ++ y)) H
  | _, _ => False
theorem peek_cases (DH : DHp) (d : D) : peek DH d = d ∨ ∃ p xs, d = .ref p ∧ DH p = some (.lst xs) ∧ peek DH d = .lst xs := by
  cases d with
  | ref p =>
    unfold peek
    cases e : DH p with
    | none => exact .inl (by simp [e])
    | some o =>
      cases o with
      | lst ys => exact .inr ⟨p, ys, rfl, e, by simp [e]⟩
      | _ => exact .inl (by simp [e])
  | _ => exact .inl rfl
theorem peek_rep (A : Abs T DH H) {d : D} {v : V} (r : RepV T d v) : (∃ xs vs p, peek DH d = .lst xs ∧ v = .ref p ∧ H p = some (.lst vs) ∧ RepL T xs vs) ∨ (peek DH d = d ∧ ∀ xs, d ≠ .lst xs) := by
  rcases peek_cases DH d with e | ⟨p, xs, rfl, e1, e2⟩
  · by_cases q : ∃ xs, d = .lst xs
    · obtain ⟨xs, rfl⟩ := q
      obtain ⟨p, vs, rfl, t, q⟩ := r
      exact .inl ⟨xs, vs, p, e, rfl, A.sub _ _ t, q⟩
    · exact .inr ⟨e, fun xs z => q ⟨xs, z⟩⟩
  · obtain ⟨vs, q1, q2⟩ := A.lst e1
    exact .inl ⟨xs, vs, p, e2, r, q1, q2⟩
theorem od_add : OpR X (binaryOp .Add) (lo2 rAddD) := by
  refine oprW (OpR.or (op_add (X := X)) (OpR.or (op_catT (X := X)) (OpR.or (op_catN (X := X)) (OpR.or (op_cat (X := X)) (op_add_str (X := X)))))) fun v u H Q ⟨T, DH, x, y, R, A, r1, r2, h, w⟩ => ?_
  unfold rAddD at h
  rcases peek_rep A r1 with ⟨xs, vs, p, e1, rfl, g1, q1⟩ | ⟨e1, n1⟩
  · rcases peek_rep A r2 with ⟨ys, ws, b, e2, rfl, g2, q2⟩ | ⟨e2, n2⟩
    · rw [e1, e2] at h
      refine .inr (.inr (.inr (.inl ⟨p, b, vs, ws, rfl, rfl, g1, g2, by rw [q1.length, q2.length]; exact h.1, fun z hz => fin_lst A (q1.append q2) w h.2 hz⟩)))
    · rw [e1, e2] at h
      cases y <;> first | exact (show False from h).elim | exact absurd rfl (n2 _)
  · rw [e1] at h
    rcases peek_rep A r2 with ⟨ys, ws, b, e2, rfl, g2, q2⟩ | ⟨e2, n2⟩
    · rw [e2] at h
      cases x <;> first | exact (show False from h).elim | exact absurd rfl (n1 _)
    · rw [e2] at h
      cases x with
      | int i =>
        cases y with
        | int j => exact .inl ⟨i, j, r1, r2, w.int A h⟩
        | _ => exact (show False from h).elim
      | str i =>
        cases y with
        | str j => exact .inr (.inr (.inr (.inr ⟨i, j, r1, r2, h.1, w.str A h.2⟩)))
        | _ => exact (show False from h).elim
      | tup xs =>
        cases y with
        | tup ys =>
          obtain ⟨p, vs, rfl, t1, q1⟩ := r1
          obtain ⟨b, ws, rfl, t2, q2⟩ := r2
          have g1 : SqT X.K H p vs := SqT.of (A.sub _ _ t1)
          have g2 : SqT X.K H b ws := SqT.of (A.sub _ _ t2)
          have l1 := q1.length
          have l2 := q2.length
          by_cases hx : vs = []
          · subst hx
            have ex : xs = [] := List.eq_nil_of_length_eq_zero l1.symm
            subst ex
            exact .inr (.inr (.inl ⟨p, b, ws, rfl, rfl, g1, g2, w.at A (d := .tup ys) ⟨b, ws, rfl, t2, q2⟩ h.2⟩))
          · refine .inr (.inl ⟨p, b, vs, ws, rfl, rfl, g1, g2, hx, by rw [l1, l2]; exact h.1, fun z => ?_, fun _ z hz => fin_tup A (q1.append q2) w h.2 hz⟩)
            subst z
            have ey : ys = [] := List.eq_nil_of_length_eq_zero l2.symm
            subst ey
            exact w.at A (d := .tup xs) ⟨p, vs, rfl, t1, q1⟩ (by have := h.2; rwa [List.append_nil] at this)
        | _ => exact (show False from h).elim
      | lst xs => exact absurd rfl (n1 _)
      | _ => exact (show False from h).elim

/-! ### * -/
theorem RepL.rep {xs : List D} {vs : List V} (h : RepL T xs vs) : ∀ n : Nat, RepL T (List.replicate n xs).flatten (List.replicate n vs).flatten
  | 0 => .nil
  | n + 1 => by
    rw [List.replicate_succ, List.replicate_succ, List.flatten_cons, List.flatten_cons]
    exact h.append (RepL.rep h n)
def rMulD : DR2 := fun x y H Q => match peek H x, y with
  | .int i, .int j => CMulD i j ∧ Q (.int (i * j)) H
  | .lst xs, .int k => (-(2 ^ 63) ≤ k ∧ k < 2 ^ 63 ∧ xs.length * k.toNat ≤ sizeLine) ∧ Q (.lst (List.replicate k.toNat xs).flatten) H
  | _, _ => False
theorem od_mul : OpR X (binaryOp .Mult) (lo2 rMulD) := by
  refine oprW (OpR.or (od_mulI (X := X)) (op_rep (X := X))) fun v u H Q ⟨T, DH, x, y, R, A, r1, r2, h, w⟩ => ?_
  unfold rMulD at h
  rcases peek_rep A r1 with ⟨xs, vs, p, e1, rfl, g1, q1⟩ | ⟨e1, n1⟩
  · rw [e1] at h
    cases y with
    | int k =>
      obtain ⟨⟨h1, h2, h3⟩, h⟩ := h
      exact .inr ⟨p, k, vs, rfl, r2, g1, h1, h2, by rw [q1.length]; exact h3, fun z hz => fin_lst A (q1.rep _) w h hz⟩
    | _ => exact (show False from h).elim
  · rw [e1] at h
    cases x with
    | int i =>
      cases y with
      | int j => exact .inl ⟨T, DH, .int i, .int j, R, A, r1, r2, h, w⟩
      | _ => exact (show False from h).elim
    | lst xs => exact absurd rfl (n1 _)
    | _ => exact (show False from h).elim

/-! ### a[i] -/
theorem RepL.atI {xs : List D} {vs : List V} (h : RepL T xs vs) {i : Int} {d : D} (e : atI xs i = some d) : ∃ v, L2.atI vs i = some v ∧ RepV T d v := by
  unfold L2.atI at e ⊢
  rw [h.length]
  cases q : ixN xs.length i with
  | none => rw [q] at e; simp at e
  | some j =>
    rw [q] at e
    simp only [Option.bind_some] at e ⊢
    exact h.get e
def rIxD : DR2 := fun x y H Q => match seqOf H x, y with
  | some xs, .int i => (match atI xs i with | some d => Q d H | none => False)
  | _, _ => False
theorem ixrW {r r' : R2} (h : IxR X r) (w : ∀ x y H Q, r' x y H Q → r x y H Q) : IxR X r' := fun value slice pins s σ H x y v u Q I rx ry q hs => h value slice pins s σ H x y v u Q I rx ry (w x y H Q q) hs
theorem xd_seq : IxR X (lo2 rIxD) := ixrW (IxR.or (ix_list (X := X)) (ix_tup (X := X))) fun v u H Q ⟨T, DH, x, y, R, A, r1, r2, h, w⟩ => by
  unfold rIxD at h
  split at h
  · rename_i xs i e
    split at h
    · rename_i d ed
      obtain ⟨p, vs, rfl, g, q⟩ := seqOf_rep (K := X.K) A r1 e
      obtain ⟨z, ez, rz⟩ := q.atI ed
      rcases g with g | g
      · exact .inl ⟨p, vs, i, z, rfl, r2, g, ez, w.at A rz h⟩
      · exact .inr ⟨p, vs, i, z, rfl, r2, g, ez, w.at A rz h⟩
    · exact h.elim
  · exact h.elim
variable {a b c e : Expr} {es : List Expr} {ta tb tc te : DE} {pos : Pos}
theorem qe_ix (ha : QE X a ta) (hb : QE X b tb) (hs : PlainIx b := by exact fun _ _ => rfl) : QE X (.Subscript a b pos) (dOp rIxD ta tb) := ⟨peW (pe_ix xd_seq ha.run hb.run hs) lo_op⟩

/-! ### a[i:j] -/
abbrev DO' := DSt → DHp → (Option Int → DHp → Prop) → Prop
def UpO (T : Hp) (R : Option Int → DHp → Prop) (Q : Option Int → Hp → Prop) : Prop := ∀ T' DH H d, Same T T' → Abs T' DH H → R d DH → Q d H
def loO (t : DO') : TO := fun σ H Q => ∃ T DH τ R, Abs T DH H ∧ RepS T τ σ ∧ t τ DH R ∧ UpO T R Q
structure QO (X : Cx) (e : Option Expr) (t : DO') : Prop where
  run : PO X e (loO t)
theorem poW {e : Option Expr} {t t' : TO} (h : PO X e t) (w : ∀ σ H Q, t' σ H Q → t σ H Q) : PO X e t' := ⟨fun pins s σ H Q I q => h.run pins s σ H Q I (w σ H Q q)⟩
def dNoPart : DO' := fun _ H Q => Q none H
def dPart (t : DE) : DO' := fun τ H Q => t τ H fun x H1 => match x with
  | .int i => Q (some i) H1
  | _ => False
theorem qo_none : QO X none dNoPart := ⟨poW po_none fun _ H _ ⟨T, DH, _, _, A, _, h, u⟩ => u T DH H none (Same.refl _) A h⟩
theorem qo_some (h : QE X e te) : QO X (some e) (dPart te) := ⟨poW (po_some h.run) fun σ H Q ⟨T, DH, τ, R, A, S, h, u⟩ => ⟨T, DH, τ, _, A, S, h, fun T1 DH1 H1 x v s1 A1 r1 h1 => by
  cases x with
  | int i => exact ⟨i, r1, u T1 DH1 H1 _ s1 A1 h1⟩
  | _ => exact (show False from h1).elim⟩⟩
def cutD (xs : List D) (lo hi : Option Int) : List D := (xs.drop (HT.sIx xs.length 0 lo)).take (HT.sIx xs.length xs.length hi - HT.sIx xs.length 0 lo)
theorem RepL.cut {xs : List D} {vs : List V} (h : RepL T xs vs) (lo hi : Option Int) : RepL T (cutD xs lo hi) (cutV vs lo hi) := by
  unfold cutD cutV
  rw [h.length]
  exact (h.drop _).take _
def loSl (r : D → Option Int → Option Int → DHp → DK → Prop) : V → Option Int → Option Int → Hp → VK → Prop := fun v l u H Q => ∃ T DH x R, Abs T DH H ∧ RepV T x v ∧ r x l u DH R ∧ Up T R Q
def dSl (r : D → Option Int → Option Int → DHp → DK → Prop) (te : DE) (tl th : DO') : DE := fun τ H Q => te τ H fun x H1 => tl τ H1 fun l H2 => th τ H2 fun u H3 => r x l u H3 Q
theorem qe_slice {r : D → Option Int → Option Int → DHp → DK → Prop} {l u : Option Expr} {tl th : DO'} {p2 : Pos} (hr : SlR X (loSl r)) (he : QE X e te) (hl : QO X l tl) (hu : QO X u th) : QE X (.Subscript e (.Slice l u none p2) pos) (dSl r te tl th) :=
  ⟨peW (pe_slice hr he.run hl.run hu.run) fun σ H Q ⟨T, DH, τ, R, A, S, h, w⟩ => ⟨T, DH, τ, _, A, S, h, fun T1 DH1 H1 x v s1 A1 r1 h1 =>
    ⟨T1, DH1, τ, _, A1, S.up s1, h1, fun T2 DH2 H2 l s2 A2 h2 => ⟨T2, DH2, τ, _, A2, S.up (s1.trans s2), h2, fun T3 DH3 H3 u s3 A3 h3 => ⟨T3, DH3, x, R, A3, (r1.up s2).up s3, h3, w.up ((s1.trans s2).trans s3)⟩⟩⟩⟩⟩
theorem slrW {r r' : V → Option Int → Option Int → Hp → VK → Prop} (h : SlR X r) (w : ∀ x l u H Q, r' x l u H Q → r x l u H Q) : SlR X r' := fun pins s σ H x v vl vu lo hi sl Q I rx hs pl pu q => h pins s σ H x v vl vu lo hi sl Q I rx hs pl pu (w x lo hi H Q q)
/-- the whole of a tuple is itself -/
theorem getItem_tuple_whole {prog : Program} {w : World} {A : Around} {E : Value → Shared → Prop} {s : Shared} {t sl : Addr} {items : Array Value} {vl vu : Value} {lo hi : Option Int} {Q : Value → Shared → Prop} (ht : IsTup s.heap t items) (hs : s.heap.IsSliceOf sl vl vu .none) (pl : IsPart vl lo) (pu : IsPart vu hi)
    (hw : HT.sIx items.size 0 lo = 0 ∧ HT.sIx items.size items.size hi = items.size) (h : Q (.ref t) s) (hsz : items.size ≤ sizeLine) : wpAny (model prog w) A (getItem (.ref t) (.ref sl)) Q E s := by
  obtain ⟨os, hos, hcs, hds⟩ := id hs
  have hTs : s.TypeIs (.ref sl) "slice" := ⟨os, hos, hcs⟩
  obtain ⟨ot, hot, hct, _⟩ := id ht
  unfold getItem
  try with_reducible refine wpAny_holding ?_
  first | refine wpAny_bind (wpAny_pure ?_) | skip
  refine wpAny_bind (wpAny_sequenceKey ht.typeIs (by decide) ?_)
  refine wpAny_bind (wpAny_callSpecial?_slot (name := Str.ofString "__getitem__") ht.typeIs PyProof.Rows.slot_tuple_getitem
    (wpAny_call_entry PyProof.Rows.slot_tuple_getitem ht.typeIs entry_tuple_getitem ?_ (args_tuple_getitem _ _)))
  show wpAny _ _ (Builtin.Tuple.tupleItemsOf (.ref t) >>= _) _ _ s
  refine wpAny_bind (tupleItemsOf_ ht ?_)
  refine wpAny_bind (wpAny_typeOf hTs ?_)
  rw [if_pos (by decide)]
  refine wpAny_bind (HT.sliceApplied_gen hs pl pu ?_)
  have hyes : ((((HT.sIx items.size 0 lo : Nat) : Int) == 0 && (1 : Int) == 1 && (HT.sIx items.size items.size hi - HT.sIx items.size 0 lo) == items.size) = true) := by
    rw [hw.1, hw.2]
    simp
  show wpAny _ _ (if (((HT.sIx items.size 0 lo : Nat) : Int) == 0 && (1 : Int) == 1 && (HT.sIx items.size items.size hi - HT.sIx items.size 0 lo) == items.size) = true then _ else _) _ _ s
  rw [if_pos hyes]
  refine wpAny_bind (m := Builtin.Tuple.tupleIsExact (.ref t)) ?_
  unfold Builtin.Tuple.tupleIsExact
  refine wpAny_bind (wpAny_typeOf ht.typeIs (wpAny_pure ?_))
  rw [if_pos (by decide)]
  refine wpAny_bind (wpAny_rule ?_)
  exact wpAny_bind (m := ret (.ref t)) (wpAny_pure (wpAny_pure ⟨_, rfl, wpAny_pure h⟩))
/-- t[::-1] -/
theorem rev_pick (items : Array Value) : ((List.range items.size).filterMap fun (k : Nat) => items[(((items.size : Int) - 1) + (k : Int) * (-1)).toNat]?).toArray = items.toList.reverse.toArray := by
  have e : (List.range items.size).filterMap (fun (k : Nat) => items[(((items.size : Int) - 1) + (k : Int) * (-1)).toNat]?) = ((List.range items.size).map fun k => items.size - 1 - k).filterMap (items[·]?) := by
    rw [List.filterMap_map]
    have gen : ∀ (l : List Nat), (∀ k ∈ l, k < items.size) → l.filterMap (fun (k : Nat) => items[(((items.size : Int) - 1) + (k : Int) * (-1)).toNat]?) = l.filterMap ((items[·]?) ∘ fun k => items.size - 1 - k) := by
      intro l
      induction l with
      | nil => intro _; rfl
      | cons k l ih =>
        intro hl
        have h1 : (((items.size : Int) - 1) + (k : Int) * (-1)).toNat = items.size - 1 - k := by
          have := hl k List.mem_cons_self
          omega
        simp only [List.filterMap_cons, Function.comp, h1]
        rw [ih fun z hz => hl z (List.mem_cons_of_mem _ hz)]
    exact gen _ fun k hk => List.mem_range.mp hk
  rw [e, PySem.W.krv_range, List.filterMap_reverse, PySem.W.krv_all]
theorem getItem_tuple_rev {prog : Program} {w : World} {A : Around} {E : Value → Shared → Prop} {s : Shared} {t sl : Addr} {items : Array Value} {vl vu vs : Value} {Q : Value → Shared → Prop} (ht : IsTup s.heap t items) (hs : s.heap.IsSliceOf sl vl vu vs) (pl : IsPart vl none) (pu : IsPart vu none) (ps : IsPart vs (some (-1)))
    (h : Q (.ref s.heap.objs.size) { s with heap := s.heap.push { cls := .type "tuple", data := .seq items.toList.reverse.toArray } }) (hsz : items.size ≤ sizeLine) : wpAny (model prog w) A (getItem (.ref t) (.ref sl)) Q E s := by
  obtain ⟨os, hos, hcs, hds⟩ := id hs
  have hTs : s.TypeIs (.ref sl) "slice" := ⟨os, hos, hcs⟩
  have htake : sizeOk (.seq items.toList.reverse.toArray) := by
    show items.toList.reverse.toArray.size ≤ sizeLine
    simpa using hsz
  unfold getItem
  try with_reducible refine wpAny_holding ?_
  first | refine wpAny_bind (wpAny_pure ?_) | skip
  refine wpAny_bind (wpAny_sequenceKey ht.typeIs (by decide) ?_)
  refine wpAny_bind (wpAny_callSpecial?_slot (name := Str.ofString "__getitem__") ht.typeIs PyProof.Rows.slot_tuple_getitem
    (wpAny_call_entry PyProof.Rows.slot_tuple_getitem ht.typeIs entry_tuple_getitem ?_ (args_tuple_getitem _ _)))
  show wpAny _ _ (Builtin.Tuple.tupleItemsOf (.ref t) >>= _) _ _ s
  refine wpAny_bind (tupleItemsOf_ ht ?_)
  refine wpAny_bind (wpAny_typeOf hTs ?_)
  rw [if_pos (by decide)]
  refine wpAny_bind ?_
  · unfold Builtin.Slice.sliceApplied Builtin.Slice.sliceFields
    refine wpAny_bind (wpAny_bind (wpAny_field hos hds (x := vl) rfl (wpAny_bind (wpAny_field hos hds (x := vu) rfl (wpAny_bind (wpAny_field hos hds (x := vs) rfl (wpAny_pure ?_)))))))
    refine wpAny_bind (HT.slicePart_ ps ?_)
    show wpAny _ _ (if ((-1 : Int) == 0) = true then _ else _) _ _ s
    rw [if_neg (by decide)]
    refine wpAny_bind (HT.slicePart_ pl (wpAny_bind (HT.slicePart_ pu (wpAny_bind (wpAny_pure ?_)))))
    show wpAny _ _ (match Builtin.Slice.sliceAdjust none none (-1) ((items.size : Nat) : Int) with | (lo, hi) => pure (lo, (-1 : Int), Builtin.Slice.slicePlaces lo hi (-1))) _ _ s
    have e1 : Builtin.Slice.sliceAdjust none none (-1) ((items.size : Nat) : Int) = ((items.size : Int) - 1, -1) := by
      unfold Builtin.Slice.sliceAdjust
      simp
    rw [e1]
    have e2 : Builtin.Slice.slicePlaces ((items.size : Int) - 1) (-1) (-1) = items.size := by
      unfold Builtin.Slice.slicePlaces
      rw [if_neg (by decide)]
      by_cases hz : ((items.size : Int) - 1) > -1
      · rw [if_pos hz]
        rw [show (- -1 : Int) = 1 by decide, Int.ediv_one]
        omega
      · rw [if_neg hz]
        omega
    show wpAny _ _ (pure (((items.size : Int) - 1), (-1 : Int), Builtin.Slice.slicePlaces ((items.size : Int) - 1) (-1) (-1))) _ _ s
    rw [e2]
    refine wpAny_pure ?_
    show wpAny _ _ (if ((((items.size : Int) - 1) == 0 && (-1 : Int) == 1 && items.size == items.size) = true) then _ else _) _ _ s
    rw [if_neg (by simp)]
    rw [rev_pick]
    first
    | exact wpAny_bind (m := Builtin.Tuple.tupleExact _) (wpAny_newObj_type (wpAny_pure ⟨_, rfl, wpAny_pure h⟩) htake)
    | exact wpAny_bind (m := Builtin.Tuple.tupleExact _) (wpAny_newObj_type (wpAny_bind (wpAny_pure (wpAny_pure ⟨_, rfl, wpAny_pure h⟩))) htake)
    | exact wpAny_bind (wpAny_bind (m := Builtin.Tuple.tupleExact _) (wpAny_newObj_type (wpAny_pure (wpAny_pure ⟨_, rfl, wpAny_pure h⟩)) htake))
    | exact wpAny_bind (wpAny_bind (m := Builtin.Tuple.tupleExact _) (wpAny_newObj_type (wpAny_pure ⟨_, rfl, wpAny_pure h⟩) htake))
def tRevT (K : PySem.W.Frag) (te : TE) : TE := fun σ H Q => te σ H fun x H1 => ∃ a xs, x = .ref a ∧ ((SqL K H1 a xs ∧ ∀ p, H1 p = none → Q (.ref p) (upd H1 p (.lst xs.reverse))) ∨ (SqT K H1 a xs ∧ ∀ p, H1 p = none → Q (.ref p) (upd H1 p (.tup xs.reverse))))
theorem pe_rev {k : Nat} {p1 p2 p3 : Pos} {tv : TE} (he : PE X e tv) : PE X (.Subscript e (.Slice none none (some (.UnaryOp .USub (.Constant (.int 1) k p1) p2)) p3) pos) (tRevT X.K tv) := by
  refine ⟨fun pins s σ H Q I h => ?_⟩
  refine Subscript_ (thn (he.run pins s σ H _ I h) fun v s1 ⟨x, H1, I1, r1, q1⟩ => ?_)
  obtain ⟨a, xs, ex, q⟩ := q1
  subst ex
  cases r1
  have hst : PO X (some (.UnaryOp .USub (.Constant (.int 1) k p1) p2)) (tPart (tUn (rU fun i => .int (-i)) (tC (.int 1)))) := po_some (pe_un un_neg pe_int)
  refine wpAny_Slice (thn (po_none.run pins s1 σ H1 (fun o H2 => o = none ∧ H2 = H1) I1 ⟨rfl, rfl⟩) fun vl s2 ⟨l, H2, I2, pl, el, e2⟩ => ?_)
  subst el e2
  refine thn (po_none.run pins s2 σ H2 (fun o H3 => o = none ∧ H3 = H2) I2 ⟨rfl, rfl⟩) fun vu s3 ⟨u, H3, I3, pu, eu, e3⟩ => ?_
  subst eu e3
  refine thn (hst.run pins s3 σ H3 (fun o H4 => o = some (-1) ∧ H4 = H3) I3 ⟨1, rfl, -1, rfl, rfl, rfl⟩) fun vs s4 ⟨o, H4, I4, ps, eo, e4⟩ => ?_
  subst eo e4
  have I5 : Inv X pins σ H4 { s4 with heap := s4.heap.push { cls := .type "slice", data := .fields #[vl, vu, vs] } } := I4.kept (t' := s4.toks) fun b ob q => Heap.get?_push_of_some _ q
  show wpAny (model X.prog X.w) X.A (subscriptTail e (.Slice none none (some (.UnaryOp .USub (.Constant (.int 1) k p1) p2)) p3) (.ref a) (.ref s4.heap.objs.size)) (EP X pins σ Q) X.xe { s4 with heap := s4.heap.push { cls := .type "slice", data := .fields #[vl, vu, vs] } }
  rcases q with ⟨hx, q⟩ | ⟨hx, q⟩
  · obtain ⟨its, r, ht, hz⟩ := I5.list hx
    have hlen := r.length
    refine tail_any (ops := [.ref a, .ref s4.heap.objs.size]) ht.isList.typeIs (PySem.slot_list_getitem.lookup) ?_ (by with_unfolding_all rfl)
    refine wpAny_getItem_list_slice ht.isList (Heap.IsSliceOf.new _ vl vu vs) pl pu ps (by decide) ?_ (by rw [List.size_toArray]; omega)
    rw [PySem.W.krv_pick]
    refine ⟨.ref _, _, I5.laid (t' := s4.toks) (o := .lst xs.reverse) (fun b ob q => Heap.get?_push_of_some _ q) (Nat.le_refl _) ?_, rfl, q _ (I5.hok.fresh (Nat.le_refl _))⟩
    exact ⟨by rw [List.length_reverse]; exact hz, _, 0, r.reverse, Heap.get?_push_size _ rfl⟩
  · obtain ⟨its, r, ht, hz⟩ := I5.tuple hx
    have hlen := r.length
    refine tail_any (ops := [.ref a, .ref s4.heap.objs.size]) ht.typeIs (PyProof.Rows.slot_tuple_getitem.lookup) ?_ (by with_unfolding_all rfl)
    refine getItem_tuple_rev ht (Heap.IsSliceOf.new _ vl vu vs) pl pu ps ?_ (by rw [List.size_toArray]; omega)
    refine ⟨.ref _, _, I5.laid (t' := s4.toks) (o := .tup xs.reverse) (fun b ob q => Heap.get?_push_of_some _ q) (Nat.le_refl _) ?_, rfl, q _ (I5.hok.fresh (Nat.le_refl _))⟩
    exact ⟨by rw [List.length_reverse]; exact hz, _, r.reverse, IsTup.new _ _⟩
def dRev (mu : Bool) (te : DE) : DE := fun τ H Q => te τ H fun x H1 => match peek H1 x with
  | .tup xs => Q (.tup xs.reverse) H1
  | .lst xs => if mu = true then ∀ p, H1 p = none → Q (.ref p) (dupd H1 p (.lst xs.reverse)) else Q (.lst xs.reverse) H1
  | _ => False
theorem qe_rev {mu : Bool} {k : Nat} {p1 p2 p3 : Pos} (he : QE X e te) : QE X (.Subscript e (.Slice none none (some (.UnaryOp .USub (.Constant (.int 1) k p1) p2)) p3) pos) (dRev mu te) :=
  ⟨peW (pe_rev he.run) fun σ H Q ⟨T, DH, τ, R, A, S, h, u⟩ => ⟨T, DH, τ, _, A, S, h, fun T1 DH1 H1 x v s1 A1 r1 h1 => by
    rcases peek_rep A1 r1 with ⟨xs, vs, p, e1, rfl, g1, q1⟩ | ⟨e1, n1⟩
    · rw [e1] at h1
      refine ⟨p, vs, rfl, .inl ⟨SqL.of g1, fun z hz => ?_⟩⟩
      cases mu with
      | true => exact fin_lstM A1 q1.reverse (u.up s1) h1 hz
      | false => exact fin_lst A1 q1.reverse (u.up s1) h1 hz
    · rw [e1] at h1
      cases x with
      | tup xs =>
        obtain ⟨p, vs, rfl, t, q⟩ := r1
        exact ⟨p, vs, rfl, .inr ⟨SqT.of (A1.sub _ _ t), fun z hz => fin_tup A1 q.reverse (u.up s1) h1 hz⟩⟩
      | lst xs => exact absurd rfl (n1 _)
      | _ => exact (show False from h1).elim⟩⟩
/-- a slice; a list's may be changed afterwards where mu says so -/
theorem sl_tupW : SlR X (fun x lo hi H Q => ∃ a xs, x = .ref a ∧ SqT X.K H a xs ∧ (HT.sIx xs.length 0 lo = 0 ∧ HT.sIx xs.length xs.length hi = xs.length) ∧ Q (.ref a) H) := by
  intro pins s σ H x v vl vu lo hi sl Q I rx hs pl pu h
  obtain ⟨a, xs, rfl, hx, hw, q⟩ := h
  cases rx
  obtain ⟨its, r, ht, hz⟩ := I.tuple hx
  have hlen : its.toArray.size = xs.length := by rw [List.size_toArray]; exact r.length.symm
  exact ⟨"tuple", _, PyProof.Rows.slot_tuple_getitem.lookup, ht.typeIs, getItem_tuple_whole ht hs pl pu (by rw [hlen]; exact hw) ⟨.ref a, H, I, rfl, q⟩ (by rw [hlen]; exact hz)⟩
def rSlD (mu : Bool) : D → Option Int → Option Int → DHp → DK → Prop := fun x lo hi H Q => match peek H x with
  | .tup xs => Q (.tup (cutD xs lo hi)) H
  | .lst xs => if mu = true then ∀ p, H p = none → Q (.ref p) (dupd H p (.lst (cutD xs lo hi))) else Q (.lst (cutD xs lo hi)) H
  | _ => False
theorem sd_seq {mu : Bool} : SlR X (loSl (rSlD mu)) := slrW (SlR.or (sl_list (X := X)) (SlR.or (sl_tup (X := X)) (sl_tupW (X := X)))) fun v lo hi H Q ⟨T, DH, x, R, A, r1, h, w⟩ => by
  unfold rSlD at h
  rcases peek_rep A r1 with ⟨xs, vs, p, e1, rfl, g1, q1⟩ | ⟨e1, n1⟩
  · rw [e1] at h
    refine .inl ⟨p, vs, rfl, SqL.of g1, fun z hz => ?_⟩
    cases mu with
    | true => exact fin_lstM A (q1.cut lo hi) w h hz
    | false => exact fin_lst A (q1.cut lo hi) w h hz
  · rw [e1] at h
    cases x with
    | tup xs =>
      have r1' := r1
      obtain ⟨p, vs, rfl, t, q⟩ := r1
      by_cases hw : HT.sIx vs.length 0 lo = 0 ∧ HT.sIx vs.length vs.length hi = vs.length
      · refine .inr (.inr ⟨p, vs, rfl, SqT.of (A.sub _ _ t), hw, ?_⟩)
        have e : cutD xs lo hi = xs := by
          unfold cutD
          rw [q.length] at hw
          rw [hw.1, hw.2]
          simp
        have h2 : R (.tup (cutD xs lo hi)) DH := h
        rw [e] at h2
        exact w.at A r1' h2
      · exact .inr (.inl ⟨p, vs, rfl, SqT.of (A.sub _ _ t), hw, fun z hz => fin_tup A (q.cut lo hi) w h hz⟩)
    | lst xs => exact absurd rfl (n1 _)
    | _ => exact (show False from h).elim

/-! ### calls of built-ins -/
theorem RepL.one {d : D} {vs : List V} (r : RepL T [d] vs) : ∃ v, vs = [v] ∧ RepV T d v := by
  obtain ⟨v, w, rfl, h1, h2⟩ := r
  cases (show w = [] from h2)
  exact ⟨v, rfl, h1⟩
theorem RepL.two {d e : D} {vs : List V} (r : RepL T [d, e] vs) : ∃ v w, vs = [v, w] ∧ RepV T d v ∧ RepV T e w := by
  obtain ⟨v, w, rfl, h1, h2⟩ := r
  obtain ⟨u, rfl, h3⟩ := RepL.one h2
  exact ⟨v, u, rfl, h1, h3⟩
def rLenD : DRC := fun ds H Q => match ds with
  | [d] => (match peek H d with
    | .str x => x.length ≤ sizeLine ∧ Q (.int x.length) H
    | .tup xs => Q (.int xs.length) H
    | .lst xs => Q (.int xs.length) H
    | .ref p => (match H p with | some (.dK kvs) => Q (.int kvs.length) H | _ => False)
    | _ => False)
  | _ => False
theorem cd_len : CallR X (.builtin "len") (loC rLenD) := crW (CallR.or (call_len_seq (X := X)) (CallR.or (call_len_str (X := X)) (call_lenD (X := X)))) fun vs H Q ⟨T, DH, ds, R, A, r, h, w⟩ => by
  match ds, r, h with
  | [d], r, h =>
    obtain ⟨v, rfl, rr⟩ := r.one
    unfold rLenD at h
    simp only at h
    rcases peek_rep A rr with ⟨xs, vs, p, e1, rfl, g1, q1⟩ | ⟨e1, n1⟩
    · rw [e1] at h
      exact .inl ⟨p, vs, rfl, .inl (SqL.of g1), by rw [q1.length]; exact w.int A h⟩
    · rw [e1] at h
      cases d with
      | str x => exact .inr (.inl ⟨x, by rw [show v = .str x from rr], h.1, w.int A h.2⟩)
      | tup xs =>
        obtain ⟨p, vs, rfl, t, q⟩ := rr
        exact .inl ⟨p, vs, rfl, .inr (SqT.of (A.sub _ _ t)), by rw [q.length]; exact w.int A h⟩
      | lst xs => exact absurd rfl (n1 _)
      | ref p =>
        simp only at h
        split at h
        · rename_i kvs e
          obtain ⟨ys, g, k1, k2⟩ := A.dK e
          have : ys.length = kvs.length := by have := congrArg List.length k1; simpa using this
          exact .inr (.inr ⟨p, ys, by rw [show v = .ref p from rr], g, by rw [this]; exact w.int A h⟩)
        · exact h.elim
      | _ => exact (show False from h).elim
  | [], _, h => exact (show False from h).elim
  | _ :: _ :: _, _, h => exact (show False from h).elim
/-- tuple(x), list(x) of a list or a tuple -/
def rTupD : DRC := fun ds H Q => match ds with
  | [d] => (match seqOf H d with | some xs => Q (.tup xs) H | none => False)
  | _ => False
theorem cd_tuple : CallR X (.type "tuple") (loC rTupD) := crW (call_tuple_of (X := X)) fun vs H Q ⟨T, DH, ds, R, A, r, h, w⟩ => by
  match ds, r, h with
  | [d], r, h =>
    obtain ⟨v, rfl, rr⟩ := r.one
    unfold rTupD at h
    simp only at h
    rcases peek_rep A rr with ⟨xs, vs, p, e1, rfl, g1, q1⟩ | ⟨e1, n1⟩
    · rw [show seqOf DH d = some xs by unfold seqOf; rw [e1]] at h
      exact ⟨p, vs, rfl, .inl ⟨SqL.of g1, fun z hz => fin_tup A q1 w h hz⟩⟩
    · cases d with
      | tup xs =>
        have r' := rr
        obtain ⟨p, vs, rfl, t, q⟩ := rr
        exact ⟨p, vs, rfl, .inr ⟨SqT.of (A.sub _ _ t), w.at A r' h⟩⟩
      | lst xs => exact absurd rfl (n1 _)
      | _ => rw [show seqOf DH _ = none by unfold seqOf; rw [e1]] at h; exact h.elim
  | [], _, h => exact (show False from h).elim
  | _ :: _ :: _, _, h => exact (show False from h).elim
def rLstD (mu : Bool) : DRC := fun ds H Q => match ds with
  | [d] => (match seqOf H d with | some xs => if mu = true then ∀ p, H p = none → Q (.ref p) (dupd H p (.lst xs)) else Q (.lst xs) H | none => False)
  | _ => False
theorem cd_list {mu : Bool} : CallR X (.type "list") (loC (rLstD mu)) := crW (call_list_of (X := X)) fun vs H Q ⟨T, DH, ds, R, A, r, h, w⟩ => by
  match ds, r, h with
  | [d], r, h =>
    obtain ⟨v, rfl, rr⟩ := r.one
    unfold rLstD at h
    simp only at h
    split at h
    · rename_i xs e
      obtain ⟨p, vs, rfl, g, q⟩ := seqOf_rep (K := X.K) A rr e
      refine ⟨p, vs, rfl, g, fun z hz => ?_⟩
      cases mu with
      | true => exact fin_lstM A q w h hz
      | false => exact fin_lst A q w h hz
    · exact h.elim
  | [], _, h => exact (show False from h).elim
  | _ :: _ :: _, _, h => exact (show False from h).elim
def rI1 (g : Int → D) : DRC := fun ds H Q => match ds with
  | [.int i] => Q (g i) H
  | _ => False
def rI2 (g : Int → Int → D) : DRC := fun ds H Q => match ds with
  | [.int i, .int j] => Q (g i j) H
  | _ => False
theorem i1_of {g : Int → D} {ds : List D} {vs : List V} {R : DK} (r : RepL T ds vs) (h : rI1 g ds DH R) : ∃ i, vs = [.int i] ∧ R (g i) DH := by
  unfold rI1 at h
  split at h
  · obtain ⟨v, rfl, rr⟩ := r.one
    exact ⟨_, by rw [show v = .int _ from rr], h⟩
  · exact h.elim
theorem i2_of {g : Int → Int → D} {ds : List D} {vs : List V} {R : DK} (r : RepL T ds vs) (h : rI2 g ds DH R) : ∃ i j, vs = [.int i, .int j] ∧ R (g i j) DH := by
  unfold rI2 at h
  split at h
  · obtain ⟨v, w, rfl, r1, r2⟩ := r.two
    exact ⟨_, _, by rw [show v = .int _ from r1, show w = .int _ from r2], h⟩
  · exact h.elim
theorem cd_abs : CallR X (.builtin "abs") (loC (rI1 fun i => .int (if i < 0 then -i else i))) := crW (call_abs (X := X)) fun vs H Q ⟨T, DH, ds, R, A, r, h, w⟩ => let ⟨i, e, h⟩ := i1_of r h; ⟨i, e, w.int A h⟩
theorem cd_max2 (hc : X.calm = true) : CallR X (.builtin "max") (loC (rI2 fun i j => .int (if j > i then j else i))) := crW (call_max2 hc) fun vs H Q ⟨T, DH, ds, R, A, r, h, w⟩ => let ⟨i, j, e, h⟩ := i2_of r h; ⟨i, j, e, w.int A h⟩
theorem cd_min2 (hc : X.calm = true) : CallR X (.builtin "min") (loC (rI2 fun i j => .int (if j < i then j else i))) := crW (call_min2 hc) fun vs H Q ⟨T, DH, ds, R, A, r, h, w⟩ => let ⟨i, j, e, h⟩ := i2_of r h; ⟨i, j, e, w.int A h⟩
def rIntCD : DRC := fun ds H Q => match ds with
  | [.int i] => Q (.int i) H
  | [.bl b] => Q (.int (if b then 1 else 0)) H
  | _ => False
theorem cd_int : CallR X (.type "int") (loC rIntCD) := crW (call_int1 (X := X)) fun vs H Q ⟨T, DH, ds, R, A, r, h, w⟩ => by
  unfold rIntCD at h
  split at h
  · obtain ⟨v, rfl, rr⟩ := r.one
    exact .inl ⟨_, by rw [show v = .int _ from rr], w.int A h⟩
  · obtain ⟨v, rfl, rr⟩ := r.one
    exact .inr ⟨_, by rw [show v = .bl _ from rr], w.int A h⟩
  · exact h.elim
/-- a list of numbers, of truths -/
def ints? : List D → Option (List Int)
  | [] => some []
  | .int i :: r => (ints? r).map (i :: ·)
  | _ => none
def bls? : List D → Option (List Bool)
  | [] => some []
  | .bl i :: r => (bls? r).map (i :: ·)
  | _ => none
theorem ints_map : ∀ ns : List Int, ints? (ns.map D.int) = some ns
  | [] => rfl
  | n :: ns => by simp [ints?, ints_map ns]
theorem bls_map : ∀ ns : List Bool, bls? (ns.map D.bl) = some ns
  | [] => rfl
  | n :: ns => by simp [bls?, bls_map ns]
theorem ints_of : ∀ {ds : List D} {ns : List Int}, ints? ds = some ns → ds = ns.map D.int
  | [], _, h => by cases h; rfl
  | .int i :: r, ns, h => by
    simp only [ints?, Option.map_eq_some_iff] at h
    obtain ⟨ms, h1, rfl⟩ := h
    rw [ints_of h1]
    rfl
  | .non :: _, _, h => by simp [ints?] at h
  | .bl _ :: _, _, h => by simp [ints?] at h
  | .str _ :: _, _, h => by simp [ints?] at h
  | .tup _ :: _, _, h => by simp [ints?] at h
  | .lst _ :: _, _, h => by simp [ints?] at h
  | .dct _ _ :: _, _, h => by simp [ints?] at h
  | .ref _ :: _, _, h => by simp [ints?] at h
  | .ty _ :: _, _, h => by simp [ints?] at h
theorem bls_of : ∀ {ds : List D} {ns : List Bool}, bls? ds = some ns → ds = ns.map D.bl
  | [], _, h => by cases h; rfl
  | .bl i :: r, ns, h => by
    simp only [bls?, Option.map_eq_some_iff] at h
    obtain ⟨ms, h1, rfl⟩ := h
    rw [bls_of h1]
    rfl
  | .non :: _, _, h => by simp [bls?] at h
  | .int _ :: _, _, h => by simp [bls?] at h
  | .str _ :: _, _, h => by simp [bls?] at h
  | .tup _ :: _, _, h => by simp [bls?] at h
  | .lst _ :: _, _, h => by simp [bls?] at h
  | .dct _ _ :: _, _, h => by simp [bls?] at h
  | .ref _ :: _, _, h => by simp [bls?] at h
  | .ty _ :: _, _, h => by simp [bls?] at h
def rSumD : DRC := fun ds H Q => match ds with
  | [d] => (match (listOf H d).bind ints? with | some ns => Q (.int ns.sum) H | none => False)
  | _ => False
theorem intsL {K : PySem.W.Frag} {d : D} {v : V} {ns : List Int} (A : Abs T DH H) (r : RepV T d v) (e : (listOf DH d).bind ints? = some ns) : ∃ p, v = .ref p ∧ H p = some (.lst (ns.map V.int)) := by
  cases q : listOf DH d with
  | none => rw [q] at e; cases e
  | some xs =>
    rw [q] at e
    have e : ints? xs = some ns := e
    obtain ⟨p, vs, rfl, g, q⟩ := listOf_rep (K := K) A r q
    rw [ints_of e] at q
    rw [RepL.ints_inv q] at g
    exact ⟨p, rfl, g⟩
theorem blsL {K : PySem.W.Frag} {d : D} {v : V} {ns : List Bool} (A : Abs T DH H) (r : RepV T d v) (e : (listOf DH d).bind bls? = some ns) : ∃ p, v = .ref p ∧ H p = some (.lst (ns.map V.bl)) := by
  cases q : listOf DH d with
  | none => rw [q] at e; cases e
  | some xs =>
    rw [q] at e
    have e : bls? xs = some ns := e
    obtain ⟨p, vs, rfl, g, q⟩ := listOf_rep (K := K) A r q
    rw [bls_of e] at q
    rw [RepL.bls_inv q] at g
    exact ⟨p, rfl, g⟩
theorem cd_sum (hc : X.calm = true) : CallR X (.builtin "sum") (loC rSumD) := crW (cr_sum hc) fun vs H Q ⟨T, DH, ds, R, A, r, h, w⟩ => by
  match ds, r, h with
  | [d], r, h =>
    obtain ⟨v, rfl, rr⟩ := r.one
    unfold rSumD at h
    simp only at h
    split at h
    · rename_i ns e
      obtain ⟨p, rfl, g⟩ := intsL (K := X.K) A rr e
      exact ⟨p, ns, rfl, SqL.of g, w.int A h⟩
    · exact h.elim
  | [], _, h => exact (show False from h).elim
  | _ :: _ :: _, _, h => exact (show False from h).elim
def rAllD (all : Bool) : DRC := fun ds H Q => match ds with
  | [d] => (match (listOf H d).bind bls? with | some ns => Q (.bl (if all then ns.all id else ns.any id)) H | none => False)
  | _ => False
theorem cd_all (hc : X.calm = true) : CallR X (.builtin "all") (loC (rAllD true)) := crW (cr_all hc) fun vs H Q ⟨T, DH, ds, R, A, r, h, w⟩ => by
  match ds, r, h with
  | [d], r, h =>
    obtain ⟨v, rfl, rr⟩ := r.one
    unfold rAllD at h
    simp only at h
    split at h
    · rename_i ns e
      obtain ⟨p, rfl, g⟩ := blsL (K := X.K) A rr e
      exact ⟨p, ns, rfl, SqL.of g, w.bl A h⟩
    · exact h.elim
  | [], _, h => exact (show False from h).elim
  | _ :: _ :: _, _, h => exact (show False from h).elim
theorem cd_any (hc : X.calm = true) : CallR X (.builtin "any") (loC (rAllD false)) := crW (cr_any hc) fun vs H Q ⟨T, DH, ds, R, A, r, h, w⟩ => by
  match ds, r, h with
  | [d], r, h =>
    obtain ⟨v, rfl, rr⟩ := r.one
    unfold rAllD at h
    simp only at h
    split at h
    · rename_i ns e
      obtain ⟨p, rfl, g⟩ := blsL (K := X.K) A rr e
      exact ⟨p, ns, rfl, SqL.of g, w.bl A h⟩
    · exact h.elim
  | [], _, h => exact (show False from h).elim
  | _ :: _ :: _, _, h => exact (show False from h).elim
/-- isinstance of a built-in class -/
def tyOf (H : DHp) : D → String
  | .non => "NoneType"
  | .bl _ => "bool"
  | .int _ => "int"
  | .str _ => "str"
  | .tup _ => "tuple"
  | .lst _ => "list"
  | .dct _ _ => "dict"
  | .ref p => (match H p with | some (.lst _) => "list" | some (.dK _) => "dict" | some (.dT _) => "dict" | _ => "")
  | .ty _ => ""
def isTy (t n : String) : Bool := t == n || (t == "bool" && n == "int")
def rIsiD : DRC := fun ds H Q => match ds with
  | [d, .ty n] => (tyOf H d ≠ "" ∧ (["int", "bool", "str", "tuple", "list", "dict"] : List String).contains n = true) ∧ Q (.bl (isTy (tyOf H d) n)) H
  | _ => False
theorem kit_all : ∀ t ∈ (["NoneType", "bool", "int", "str", "tuple", "list", "dict"] : List String), ∀ n ∈ (["int", "bool", "str", "tuple", "list", "dict"] : List String), kitB t n = some (isTy t n) := by decide +kernel
theorem tyOf_rep {K : PySem.W.Frag} (A : Abs T DH H) {d : D} {v : V} (r : RepV T d v) (h : tyOf DH d ≠ "") : TyX K H v (.type (tyOf DH d)) ∧ tyOf DH d ∈ (["NoneType", "bool", "int", "str", "tuple", "list", "dict"] : List String) := by
  cases d with
  | non => cases (show v = .non from r); exact ⟨.base .non, by simp [tyOf]⟩
  | bl b => cases (show v = .bl b from r); exact ⟨.base (.bl b), by simp [tyOf]⟩
  | int b => cases (show v = .int b from r); exact ⟨.base (.int b), by simp [tyOf]⟩
  | str b => cases (show v = .str b from r); exact ⟨.base (.str b), by simp [tyOf]⟩
  | tup xs => obtain ⟨p, vs, rfl, t, _⟩ := r; exact ⟨.base (.tup (A.sub _ _ t)), by simp [tyOf]⟩
  | lst xs => obtain ⟨p, vs, rfl, t, _⟩ := r; exact ⟨.base (.lst (A.sub _ _ t)), by simp [tyOf]⟩
  | dct ks xs => obtain ⟨p, vs, rfl, t, _⟩ := r; exact ⟨.base (.dK (A.sub _ _ t)), by simp [tyOf]⟩
  | ref p =>
    cases (show v = .ref p from r)
    cases e : DH p with
    | none => exact absurd (by simp [tyOf, e]) h
    | some o =>
      cases o with
      | lst xs =>
        obtain ⟨vs, g, _⟩ := A.lst e
        rw [show tyOf DH (.ref p) = "list" by simp [tyOf, e]]
        exact ⟨.base (.lst g), by simp⟩
      | dK xs =>
        obtain ⟨vs, g, _⟩ := A.dK e
        rw [show tyOf DH (.ref p) = "dict" by simp [tyOf, e]]
        exact ⟨.base (.dK g), by simp⟩
      | dT xs =>
        obtain ⟨vs, g, _⟩ := A.dT e
        rw [show tyOf DH (.ref p) = "dict" by simp [tyOf, e]]
        exact ⟨.base (.dT g), by simp⟩
      | src => exact absurd (by simp [tyOf, e]) h
      | scr xs => exact absurd (by simp [tyOf, e]) h
      | lkK xs u => exact absurd (by simp [tyOf, e]) h
      | lkT xs u => exact absurd (by simp [tyOf, e]) h
  | ty n => exact absurd rfl h
theorem cd_isi : CallR X (.builtin "isinstance") (loC rIsiD) := crW (call_isi (X := X)) fun vs H Q ⟨T, DH, ds, R, A, r, h, w⟩ => by
  unfold rIsiD at h
  split at h
  · rename_i d n
    obtain ⟨⟨h1, h2⟩, h3⟩ := h
    obtain ⟨v, u, rfl, r1, r2⟩ := r.two
    cases (show u = .ty n from r2)
    obtain ⟨t1, t2⟩ := tyOf_rep (K := X.K) A r1 h1
    exact ⟨v, .ty n, _, _, _, rfl, .ty n, t1, kit_ty (kit_all _ t2 n (by simpa using h2)), w.bl A h3⟩
  · exact h.elim
end
end DL

/-! DL5: loops, comprehensions, bodies of defs, over data. -/
namespace DL
open PySem PySem.Spec PyProof.Rows L2

/-! ### what is walked -/
/-- J walks the items xs, as long as ok holds -/
structure Wk (J : It) (T : Hp) (xs : List D) (ok : DHp → Prop) : Prop where
  goes : ∀ i T' DH H, Same T T' → Abs T' DH H → ok DH → i < xs.length → J.go i H
  stops : ∀ T' DH H, Same T T' → Abs T' DH H → ok DH → J.stop xs.length H
  yields : ∀ i T' DH H x H' d, Same T T' → Abs T' DH H → ok DH → xs[i]? = some d → J.yld i H x H' → ∃ T2, Same T' T2 ∧ Abs T2 DH H' ∧ RepV T2 d x
theorem Wk.up {J : It} {T T' : Hp} {xs : List D} {ok : DHp → Prop} (w : Wk J T xs ok) (s : Same T T') : Wk J T' xs ok :=
  ⟨fun i T2 DH H s2 => w.goes i T2 DH H (s.trans s2), fun T2 DH H s2 => w.stops T2 DH H (s.trans s2), fun i T2 DH H x H' d s2 => w.yields i T2 DH H x H' d (s.trans s2)⟩
abbrev DI := DSt → DHp → (List D → (DHp → Prop) → DHp → Prop) → Prop
def loI (t : DI) : TI := fun σ H R => ∃ T DH τ RD, Abs T DH H ∧ RepS T τ σ ∧ t τ DH RD ∧ ∀ T' DH' H' xs ok J, Same T T' → Abs T' DH' H' → Wk J T' xs ok → RD xs ok DH' → R J H'
structure QI (X : Cx) (tg iter : Expr) (t : DI) : Prop where
  run : PI X tg iter (loI t)
theorem piW {X : Cx} {tg e : Expr} {t t' : TI} (h : PI X tg e t) (w : ∀ σ H R, t' σ H R → t σ H R) : PI X tg e t' := ⟨fun pins s σ H R I q => h.run pins s σ H R I (w σ H R q)⟩
abbrev okT : DHp → Prop := fun _ => True

section
variable {X : Cx} {tg e a b : Expr} {te ta tb : DE} {t : DA} {p pos : Pos}
/-- a list or a tuple, whichever it is -/
def iLT (K : PySem.W.Frag) (tl : TE) : TI := fun σ H R => tl σ H fun x H1 => ∃ a, x = .ref a ∧ (((∃ xs, SqL K H1 a xs) ∧ R (Itl K a) H1) ∨ ((∃ xs, SqT K H1 a xs) ∧ R (Itt K a) H1))
theorem pi_lt {l : Expr} {tl : TE} (hl : PE X l tl) : PI X tg l (iLT X.K tl) := by
  refine ⟨fun pins s σ H R I h => ?_⟩
  refine thn (hl.run pins s σ H _ I h) fun v s1 ⟨x, H1, I1, r1, q1⟩ => ?_
  obtain ⟨a, e, q⟩ := q1
  subst e
  cases r1
  have fin : ∀ (h' : Heap), FpOk X pins H1 s1.heap.objs.size := fun _ => I1.fpOk (Nat.le_refl _) (I1.hok.fresh (Nat.le_refl _))
  rcases q with ⟨⟨xs, hq⟩, q⟩ | ⟨⟨xs, hq⟩, q⟩
  · obtain ⟨its, rv, pl, hz⟩ := I1.list hq
    refine wpAny_pyIter_list pl.isList ⟨s1.heap.objs.size, [s1.heap.objs.size], _, _, H1, rfl, I1.kept (t' := s1.toks) fun b o e => Heap.get?_push_of_some _ e, turn_list a _, ⟨_, Heap.get?_push_size _ rfl, rfl, rfl⟩, fun b hb => ?_, q⟩
    rw [show b = s1.heap.objs.size by simpa using hb]
    exact fin s1.heap
  · obtain ⟨its, rv, pl, hz⟩ := I1.tuple hq
    refine wpAny_pyIter_tuple (show s1.heap.IsTuple a its.toArray from pl) ⟨s1.heap.objs.size, [s1.heap.objs.size], _, _, H1, rfl, I1.kept (t' := s1.toks) fun b o e => Heap.get?_push_of_some _ e, turn_tuple a _, ⟨_, Heap.get?_push_size _ rfl, rfl, rfl⟩, fun b hb => ?_, q⟩
    rw [show b = s1.heap.objs.size by simpa using hb]
    exact fin s1.heap
/-- what is walked, and what must hold of the heap at each turn -/
def walkD (H : DHp) (d : D) (k : List D → (DHp → Prop) → Prop) : Prop := match d with
  | .tup xs => k xs okT
  | .lst xs => k xs okT
  | .ref p => (match H p with
    | some (.lst xs) => k xs fun H' => H' p = some (.lst xs)
    | some (.scr xs) => k xs fun H' => H' p = some (.scr xs)
    | _ => False)
  | _ => False
def dISeq (te : DE) : DI := fun τ H R => te τ H fun x H1 => walkD H1 x fun xs ok => R xs ok H1
theorem wk_list {K : PySem.W.Frag} {T : Hp} {p : Addr} {vs : List V} {xs : List D} {ok : DHp → Prop} (r : RepL T xs vs) (h : ∀ T' DH H, Same T T' → Abs T' DH H → ok DH → SqL K H p vs) : Wk (Itl K p) T xs ok := by
  have hl := r.length
  refine ⟨fun i T' DH H s A o hi => ?_, fun T' DH H s A o => ⟨vs, h T' DH H s A o, by rw [hl]; exact Nat.le_refl _⟩, fun i T' DH H x H' d s A o ed y => ?_⟩
  · exact ⟨vs, vs[i]'(by rw [hl]; exact hi), h T' DH H s A o, by simp [hl, hi]⟩
  · obtain ⟨rfl, y⟩ := y
    obtain ⟨v, e1, r1⟩ := r.get ed
    have := y vs (h T' DH _ s A o)
    rw [e1] at this
    cases this
    exact ⟨T', Same.refl _, A, r1.up s⟩
theorem wk_tup {K : PySem.W.Frag} {T : Hp} {p : Addr} {vs : List V} {xs : List D} {ok : DHp → Prop} (r : RepL T xs vs) (h : ∀ T' DH H, Same T T' → Abs T' DH H → ok DH → SqT K H p vs) : Wk (Itt K p) T xs ok := by
  have hl := r.length
  refine ⟨fun i T' DH H s A o hi => ?_, fun T' DH H s A o => ⟨vs, h T' DH H s A o, by rw [hl]; exact Nat.le_refl _⟩, fun i T' DH H x H' d s A o ed y => ?_⟩
  · exact ⟨vs, vs[i]'(by rw [hl]; exact hi), h T' DH H s A o, by simp [hl, hi]⟩
  · obtain ⟨rfl, y⟩ := y
    obtain ⟨v, e1, r1⟩ := r.get ed
    have := y vs (h T' DH _ s A o)
    rw [e1] at this
    cases this
    exact ⟨T', Same.refl _, A, r1.up s⟩
theorem ok_of_eq {T' : Hp} {DH : DHp} {H : Hp} {p : Addr} {T : Hp} {vs : List V} {xs : List D} (r : RepL T xs vs) (A : Abs T DH H) (hp : H p = some (.lst vs)) : True := trivial
/-- two readings of one list of data are one where they are read at the same address -/
theorem qi_seq (he : QE X e te) : QI X tg e (dISeq te) := ⟨piW (pi_lt he.run) fun σ H R ⟨T, DH, τ, RD, A, S, h, u⟩ => ⟨T, DH, τ, _, A, S, h, fun T1 DH1 H1 x v s1 A1 r1 h1 => by
  unfold walkD at h1
  cases x with
  | tup xs =>
    obtain ⟨p, vs, rfl, t, q⟩ := r1
    exact ⟨p, rfl, .inr ⟨⟨vs, SqT.of (A1.sub _ _ t)⟩, u T1 DH1 H1 xs _ _ s1 A1 (wk_tup q fun T' DH' H' s A o => SqT.of (A.sub _ _ (s _ _ t))) h1⟩⟩
  | lst xs =>
    obtain ⟨p, vs, rfl, t, q⟩ := r1
    exact ⟨p, rfl, .inl ⟨⟨vs, SqL.of (A1.sub _ _ t)⟩, u T1 DH1 H1 xs _ _ s1 A1 (wk_list q fun T' DH' H' s A o => SqL.of (A.sub _ _ (s _ _ t))) h1⟩⟩
  | ref p =>
    cases (show v = .ref p from r1)
    simp only at h1
    split at h1
    · rename_i xs e
      obtain ⟨vs, g, q⟩ := A1.lst e
      refine ⟨p, rfl, .inl ⟨⟨vs, SqL.of g⟩, u T1 DH1 H1 xs _ _ s1 A1 ?_ h1⟩⟩
      have hl := q.length
      refine ⟨fun i T' DH H s A o hi => ?_, fun T' DH H s A o => ?_, fun i T' DH H x H' d s A o ed y => ?_⟩
      · obtain ⟨ws, g', q'⟩ := A.lst o
        exact ⟨ws, ws[i]'(by rw [q'.length]; exact hi), SqL.of g', by simp [q'.length, hi]⟩
      · obtain ⟨ws, g', q'⟩ := A.lst o
        exact ⟨ws, SqL.of g', by rw [q'.length]; exact Nat.le_refl _⟩
      · obtain ⟨ws, g', q'⟩ := A.lst o
        obtain ⟨rfl, y⟩ := y
        obtain ⟨v, e1, r1⟩ := q'.get ed
        have := y ws (SqL.of g')
        rw [e1] at this
        cases this
        exact ⟨T', Same.refl _, A, r1⟩
    · rename_i xs e
      obtain ⟨ob, vs, g, q⟩ := A1.scr e
      refine ⟨p, rfl, .inl ⟨⟨vs, .inl (.inr ⟨ob, g⟩)⟩, u T1 DH1 H1 xs _ _ s1 A1 ?_ h1⟩⟩
      refine ⟨fun i T' DH H s A o hi => ?_, fun T' DH H s A o => ?_, fun i T' DH H x H' d s A o ed y => ?_⟩
      · obtain ⟨ob', ws, g', q'⟩ := A.scr o
        exact ⟨ws, ws[i]'(by rw [q'.length]; exact hi), .inl (.inr ⟨ob', g'⟩), by simp [q'.length, hi]⟩
      · obtain ⟨ob', ws, g', q'⟩ := A.scr o
        exact ⟨ws, .inl (.inr ⟨ob', g'⟩), by rw [q'.length]; exact Nat.le_refl _⟩
      · obtain ⟨ob', ws, g', q'⟩ := A.scr o
        obtain ⟨rfl, y⟩ := y
        obtain ⟨v, e1, r1⟩ := q'.get ed
        have := y ws (.inl (.inr ⟨ob', g'⟩))
        rw [e1] at this
        cases this
        exact ⟨T', Same.refl _, A, r1⟩
    · exact h1.elim
  | _ => exact h1.elim⟩⟩
/-- lo, lo + 1, .. -/
def rgD (lo : Int) (n : Nat) : List D := (List.range n).map fun i => .int (lo + (i : Nat))
theorem rgD_get {lo : Int} {n i : Nat} {d : D} (h : (rgD lo n)[i]? = some d) : i < n ∧ d = .int (lo + (i : Nat)) := by
  unfold rgD at h
  rw [List.getElem?_map] at h
  by_cases hi : i < n
  · rw [List.getElem?_range hi] at h
    cases h
    exact ⟨hi, rfl⟩
  · rw [List.getElem?_eq_none (by simpa using hi)] at h
    cases h
theorem wk_range {lo : Int} {n : Nat} {T : Hp} : Wk (Itr lo n) T (rgD lo n) okT := by
  refine ⟨fun i T' DH H s A o hi => (by simpa [rgD] using hi : i < n), fun T' DH H s A o => (by simp [rgD] : n ≤ (rgD lo n).length), fun i T' DH H x H' d s A o ed y => ?_⟩
  obtain ⟨hi, rfl⟩ := rgD_get ed
  obtain ⟨rfl, rfl⟩ := y
  exact ⟨T', Same.refl _, A, rfl⟩
def dIRg1 (t : DA) : DI := fun τ H R => t τ H fun ds H1 => match ds with
  | [.int j] => (-(2 ^ 62) ≤ j ∧ j < 2 ^ 62) ∧ R (rgD 0 j.toNat) okT H1
  | _ => False
def dIRg2 (t : DA) : DI := fun τ H R => t τ H fun ds H1 => match ds with
  | [.int i, .int j] => (-(2 ^ 62) ≤ i ∧ i < 2 ^ 62 ∧ -(2 ^ 62) ≤ j ∧ j < 2 ^ 62) ∧ R (rgD i (j - i).toNat) okT H1
  | _ => False
theorem qi_range1 (hg : Gl X "range") (hm : X.mg "range" = none) (ha : QA X [a] t) (hs : starEach [a] X.env = [(false, eval a X.env)] := by rfl) : QI X tg (.Call (.Name "range" p) [a] [] pos) (dIRg1 t) :=
  ⟨piW (pi_range1 hg hm ha.run hs) fun σ H R ⟨T, DH, τ, RD, A, S, h, u⟩ => ⟨T, DH, τ, _, A, S, h, fun T1 DH1 H1 xs vs s1 A1 r1 h1 => by
    split at h1
    · rename_i j
      obtain ⟨v, rfl, r⟩ := r1.one
      exact ⟨j, by rw [show v = .int j from r], h1.1.1, h1.1.2, u T1 DH1 H1 _ _ _ s1 A1 wk_range h1.2⟩
    · exact h1.elim⟩⟩
theorem qi_range2 (hg : Gl X "range") (hm : X.mg "range" = none) (ha : QA X [a, b] t) (hs : starEach [a, b] X.env = [(false, eval a X.env), (false, eval b X.env)] := by rfl) (hs2 : starEach [b] X.env = [(false, eval b X.env)] := by rfl) :
    QI X tg (.Call (.Name "range" p) [a, b] [] pos) (dIRg2 t) :=
  ⟨piW (pi_range2 hg hm ha.run hs hs2) fun σ H R ⟨T, DH, τ, RD, A, S, h, u⟩ => ⟨T, DH, τ, _, A, S, h, fun T1 DH1 H1 xs vs s1 A1 r1 h1 => by
    split at h1
    · rename_i i j
      obtain ⟨v, w, rfl, ra, rb⟩ := r1.two
      exact ⟨i, j, by rw [show v = .int i from ra, show w = .int j from rb], h1.1, u T1 DH1 H1 _ _ _ s1 A1 wk_range h1.2⟩
    · exact h1.elim⟩⟩

/-! ### for -/
def dForL (ok : DHp → Prop) (g : DG) (tb : DS) : List D → DEnds → DSt → DHp → Prop
  | [], E, τ, H => ok H ∧ E.nx τ H
  | x :: r, E, τ, H => ok H ∧ g x τ H fun τ1 H1 => tb { E with nx := dForL ok g tb r E, ct := dForL ok g tb r E, bk := E.nx } τ1 H1
def dFor (ti : DI) (g : DG) (tb : DS) : DS := fun E τ H => ti τ H fun xs ok H1 => dForL ok g tb xs E τ H1
theorem dFor_ok {ok : DHp → Prop} {g : DG} {tb : DS} {xs : List D} {E : DEnds} {τ : DSt} {H : DHp} (h : dForL ok g tb xs E τ H) : ok H := by
  cases xs <;> exact h.1
theorem qs_for {iter : Expr} {body : List Stmt} {ix : List Nat} {ti : DI} {g : DG} {tb : DS} (hp : PassesOwn (model X.prog X.w) X.A X.env X.xe) (hc : X.calm = true) (hi : QI X tg iter ti) (hg : QG X tg ix g) (hb : QSs X body tb)
    (hs : ∀ x, foldedSetIterable iter X.env x = pure x := by intro _; rfl) : QS X (.For tg iter body [] pos) (dFor ti g tb) :=
  ⟨psW (ps_for hp hc hi.run hg.run hb.run hs) fun E σ H ⟨T, DH, τ, R, A, S, h, u⟩ => ⟨T, DH, τ, _, A, S, h, fun T1 DH1 H1 xs ok J s1 A1 wk h1 => by
    refine ⟨fun i m σ' H' => ∃ T2 DH2 τ2, Same T1 T2 ∧ Abs T2 DH2 H' ∧ RepS T2 τ2 σ' ∧ i ≤ xs.length ∧ m = xs.length - i ∧ dForL ok g tb (xs.drop i) R τ2 DH2, ⟨_, T1, DH1, τ, Same.refl _, A1, S.up s1, Nat.zero_le _, rfl, h1⟩, fun i m σ' H' w => ?_⟩
    obtain ⟨T2, DH2, τ2, s2, A2, S2, hi, rfl, h2⟩ := w
    by_cases hlt : i < xs.length
    · rw [List.drop_eq_getElem_cons hlt] at h2
      refine .inr ⟨wk.goes i T2 DH2 H' s2 A2 h2.1 hlt, fun σ3 H3 => ∃ T3 DH3 τ3, Same T1 T3 ∧ Abs T3 DH3 H3 ∧ RepS T3 τ3 σ3 ∧ dForL ok g tb (xs.drop (i + 1)) R τ3 DH3, fun σ3 H3 n => ?_, fun x H3 y => ?_⟩
      · obtain ⟨T3, DH3, τ3, s3, A3, S3, h3⟩ := n
        exact ⟨xs.length - (i + 1), by omega, T3, DH3, τ3, s3, A3, S3, by omega, rfl, h3⟩
      · obtain ⟨T3, s3, A3, r3⟩ := wk.yields i T2 DH2 H' x H3 xs[i] s2 A2 h2.1 (by simp [hlt]) y
        refine ⟨T3, DH2, τ2, xs[i], _, A3, S2.up s3, r3, h2.2, fun T4 DH4 H4 τ4 σ4 s4 A4 S4 h4 _ => ⟨T4, DH4, τ4, _, A4, S4, h4, ?_⟩⟩
        have s14 : Same T1 T4 := s2.trans (s3.trans s4)
        have ss : Same T T4 := s1.trans s14
        exact ⟨fun T5 DH5 H5 τ5 σ5 s5 A5 S5 h5 => ⟨T5, DH5, τ5, s14.trans s5, A5, S5, h5⟩, (u.up ss).rt, (u.up ss).nx, fun T5 DH5 H5 τ5 σ5 s5 A5 S5 h5 => ⟨T5, DH5, τ5, s14.trans s5, A5, S5, h5⟩⟩
    · have e : i = xs.length := by omega
      subst e
      rw [List.drop_length] at h2
      exact .inl ⟨wk.stops T2 DH2 H' s2 A2 h2.1, u.nx T2 DH2 H' τ2 σ' (s1.trans s2) A2 S2 h2.2⟩⟩⟩

/-! ### while -/
def dWhile (c : DT) (tb : DS) : DS := fun E τ H => ∃ W : Nat → DSt → DHp → Prop, (∃ m, W m τ H) ∧ ∀ m τ H, W m τ H →
  c τ H fun b H1 => if b = true then tb { E with nx := fun τ' H' => ∃ m', m' < m ∧ W m' τ' H', ct := fun τ' H' => ∃ m', m' < m ∧ W m' τ' H', bk := E.nx } τ H1 else E.nx τ H1
theorem qs_while {c : Expr} {body : List Stmt} {tc : DT} {tb : DS} (hp : PassesOwn (model X.prog X.w) X.A X.env X.xe) (hc : QT X c tc) (hb : QSs X body tb) : QS X (.While c body [] pos) (dWhile tc tb) :=
  ⟨psW (ps_while hp hc.run hb.run) fun E σ H ⟨T, DH, τ, R, A, S, h, u⟩ => by
    obtain ⟨W, ⟨m0, w0⟩, turn⟩ := h
    refine ⟨fun m σ' H' => ∃ T2 DH2 τ2, Same T T2 ∧ Abs T2 DH2 H' ∧ RepS T2 τ2 σ' ∧ W m τ2 DH2, ⟨m0, T, DH, τ, Same.refl _, A, S, w0⟩, fun m σ' H' w => ?_⟩
    obtain ⟨T2, DH2, τ2, s2, A2, S2, w2⟩ := w
    refine ⟨T2, DH2, τ2, _, A2, S2, turn m τ2 DH2 w2, fun T3 DH3 H3 b s3 A3 h3 => ?_⟩
    cases b with
    | true =>
      rw [if_pos rfl] at h3 ⊢
      refine ⟨fun σ4 H4 => ∃ T4 DH4 τ4, Same T T4 ∧ Abs T4 DH4 H4 ∧ RepS T4 τ4 σ4 ∧ ∃ m', m' < m ∧ W m' τ4 DH4, fun σ4 H4 n => ?_, T3, DH3, τ2, _, A3, S2.up s3, h3, ?_⟩
      · obtain ⟨T4, DH4, τ4, s4, A4, S4, m', hm, w4⟩ := n
        exact ⟨m', hm, T4, DH4, τ4, s4, A4, S4, w4⟩
      · have ss := s2.trans s3
        exact ⟨fun T5 DH5 H5 τ5 σ5 s5 A5 S5 h5 => ⟨T5, DH5, τ5, ss.trans s5, A5, S5, h5⟩, (u.up ss).rt, (u.up ss).nx, fun T5 DH5 H5 τ5 σ5 s5 A5 S5 h5 => ⟨T5, DH5, τ5, ss.trans s5, A5, S5, h5⟩⟩
    | false =>
      rw [if_neg Bool.false_ne_true] at h3 ⊢
      exact u.nx T3 DH3 H3 τ2 σ' (s2.trans s3) A3 (S2.up s3) h3⟩

/-! ### comprehensions -/
def dwipe (τ : DSt) : List Nat → DSt
  | [] => τ
  | v :: vs => (dwipe τ vs).set v none
theorem dwipe_length (τ : DSt) : ∀ vs : List Nat, (dwipe τ vs).length = τ.length
  | [] => rfl
  | v :: vs => by unfold dwipe; rw [List.length_set, dwipe_length τ vs]
theorem RepS.wipe {T : Hp} {τ : DSt} {σ : L2.St} (h : RepS T τ σ) : ∀ vs : List Nat, RepS T (dwipe τ vs) (L2.wipe σ vs)
  | [] => h
  | v :: vs => by
    have ih := RepS.wipe h vs
    unfold dwipe L2.wipe
    refine ⟨by simp [ih.1], fun i d e => ?_⟩
    by_cases hi : v = i
    · subst hi
      by_cases hv : v < (dwipe τ vs).length
      · rw [List.getElem?_set_self hv] at e; cases e
      · rw [List.getElem?_eq_none (by simpa using hv)] at e; cases e
    · rw [List.getElem?_set_ne hi] at e
      obtain ⟨w, a, b⟩ := ih.2 i d e
      exact ⟨w, by rw [List.getElem?_set_ne hi]; exact a, b⟩
theorem wipe_at (σ : L2.St) : ∀ (vs : List Nat) (i : Nat), (L2.wipe σ vs)[i]? = if i ∈ vs ∧ i < σ.length then some none else σ[i]?
  | [], i => by simp [L2.wipe]
  | v :: vs, i => by
    have ih := wipe_at σ vs i
    unfold L2.wipe
    by_cases hi : v = i
    · subst hi
      by_cases hv : v < σ.length
      · rw [List.getElem?_set_self (by rw [L2.wipe_length]; exact hv)]
        simp [hv]
      · rw [List.getElem?_eq_none (by rw [List.length_set, L2.wipe_length]; omega), List.getElem?_eq_none (by omega)]
        simp [hv]
    · rw [List.getElem?_set_ne hi, ih]
      simp [Ne.symm hi]
theorem wipe_far {ix vs : List Nat} {σ σ' : L2.St} (f : Far ix (L2.wipe σ vs) σ') (h : ∀ i ∈ ix, i ∈ vs) : L2.wipe σ' vs = L2.wipe σ vs := by
  have hl : σ'.length = σ.length := by rw [f.1, L2.wipe_length]
  apply List.ext_getElem?
  intro i
  rw [wipe_at, wipe_at, hl]
  by_cases hi : i ∈ vs
  · by_cases hz : i < σ.length
    · rw [if_pos ⟨hi, hz⟩, if_pos ⟨hi, hz⟩]
    · rw [if_neg (fun q => hz q.2), if_neg (fun q => hz q.2), List.getElem?_eq_none (by omega), List.getElem?_eq_none (by omega)]
  · rw [if_neg (fun q => hi q.1), if_neg (fun q => hi q.1), f.2 i (fun q => hi (h i q)), wipe_at, if_neg (fun q => hi q.1)]
/-- the turns of a comprehension: acc is what was made so far -/
def dCompL (ok : DHp → Prop) (g : DG) (tt : DT) (te : DE) (τ : DSt) : List D → List D → DHp → (List D → DHp → Prop) → Prop
  | [], acc, H, K => ok H ∧ K acc H
  | x :: r, acc, H, K => ok H ∧ g x τ H fun τ2 H2 => tt τ2 H2 fun b H3 => if b = true then te τ2 H3 fun y H4 => dCompL ok g tt te τ r (acc ++ [y]) H4 K else dCompL ok g tt te τ r acc H3 K
def dLc (mu : Bool) (ti : DI) (g : DG) (tt : DT) (te : DE) (vs : List Nat) : DE := fun τ H Q => ti τ H fun xs ok H1 => xs.length ≤ sizeLine ∧ dCompL ok g tt te (dwipe τ vs) xs [] H1 fun acc H2 =>
  if mu = true then ∀ p, H2 p = none → Q (.ref p) (dupd H2 p (.lst acc)) else Q (.lst acc) H2
structure QTs (X : Cx) (ifs : List Expr) (t : DT) : Prop where
  run : PTs X ifs (loT t)
theorem ptsW {ifs : List Expr} {t t' : TT} (h : PTs X ifs t) (w : ∀ σ H Q, t' σ H Q → t σ H Q) : PTs X ifs t' := ⟨fun pins s σ H Q I q => h.run pins s σ H Q I (w σ H Q q)⟩
def dYes : DT := fun _ H Q => Q true H
theorem qts_nil : QTs X [] dYes := ⟨ptsW pts_nil fun _ H _ ⟨T, DH, _, _, A, _, h, u⟩ => u T DH H true (Same.refl _) A h⟩
theorem qts_one {c : Expr} {t : DT} (h : QT X c t) : QTs X [c] t := ⟨pts_one h.run⟩
theorem RepS.but {T T' : Hp} {p : Addr} (b : But p T T') {τ : DSt} {σ : L2.St} (r : RepS T τ σ) : RepS T' τ σ :=
  ⟨r.1, fun i d e => let ⟨v, a, c⟩ := r.2 i d e; ⟨v, a, RepV.but b d v c⟩⟩
theorem KVR.but {T T' : Hp} {p : Addr} (b : But p T T') {κ : Type} {xs : List (κ × D)} {ys : List (κ × V)} (r : KVR T xs ys) : KVR T' xs ys := ⟨r.1, RepL.but b _ _ r.2⟩
theorem RepO.but {T T' : Hp} {p : Addr} (b : But p T T') : ∀ {x : DO} {o : HO}, RepO T x o → RepO T' x o
  | .lst _, _, ⟨vs, e, r⟩ => ⟨vs, e, RepL.but b _ _ r⟩
  | .dK _, _, ⟨vs, e, r⟩ => ⟨vs, e, r.but b⟩
  | .dT _, _, ⟨vs, e, r⟩ => ⟨vs, e, r.but b⟩
  | .src, _, h => h.elim
  | .scr _, _, ⟨ob, vs, e, r⟩ => ⟨ob, vs, e, RepL.but b _ _ r⟩
  | .lkK _ _, _, ⟨e0, ob, vs, e, r⟩ => ⟨e0, ob, vs, e, r.but b⟩
  | .lkT _ _, _, ⟨e0, ob, vs, e, r⟩ => ⟨e0, ob, vs, e, r.but b⟩
/-- the thing that is being made at p is changed, or told at last -/
theorem Abs.mod {T : Hp} {DH : DHp} {H : Hp} {p : Addr} {ob : Obj} {u o : HO} (A : Abs T DH H) (h : T p = some (.frz ob u)) : Abs (upd T p o) DH (upd H p (unfrz o)) := by
  have bt := But.upd h o
  obtain ⟨C, A⟩ := A
  have hd : DH p = none := by
    cases e : DH p with
    | none => rfl
    | some x => rw [(A.obj p x e).1] at h; cases h
  refine ⟨C, fun b z e => ?_, fun b x e => ?_, fun b c e => ?_⟩
  · by_cases q : b = p
    · subst q; rw [upd_same] at e ⊢; cases e; rfl
    · rw [upd_ne q] at e ⊢; exact A.sub b z e
  · have nb : b ≠ p := fun q => by subst q; rw [hd] at e; cases e
    obtain ⟨h1, h2, h3⟩ := A.obj b x e
    refine ⟨by rw [upd_ne nb]; exact h1, h2, fun hx => ?_⟩
    obtain ⟨z, g, r⟩ := h3 hx
    exact ⟨z, by rw [upd_ne nb]; exact g, r.but bt⟩
  · obtain ⟨h1, h2, h3, h4, h5⟩ := A.own b c e
    have n1 : b ≠ p := fun q => by subst q; rw [hd] at h1; cases h1
    have n2 : c ≠ p := fun q => by subst q; rw [h3] at h; cases h
    exact ⟨h1, h2, by rw [upd_ne n2]; exact h3, h4.frame (upd_ne n1) (upd_ne n2), h5⟩
theorem upd_id {H : Hp} {p : Addr} {o : HO} (h : H p = some o) : upd H p o = H := by
  funext b
  by_cases q : b = p
  · subst q; rw [upd_same, h]
  · rw [upd_ne q]
theorem sameMod {T T1 : Hp} {p : Addr} {o : HO} (s : Same T T1) (h : T p = none) : Same T (upd T1 p o) := fun b u e => by
  rw [upd_ne (ne_of_none e h)]; exact s b u e
/-- told at last: frozen -/
theorem Abs.toldF {T : Hp} {DH : DHp} {H : Hp} {p : Addr} {ob : Obj} {vs : List V} (A : Abs T DH H) (h : T p = some (.frz ob (.lst vs))) : Abs (upd T p (.lst vs)) DH H := by
  have B := A.mod (o := .lst vs) h
  have e : H p = some (.lst vs) := A.sub p _ h
  rw [show unfrz (.lst vs) = .lst vs from rfl, upd_id e] at B
  exact B
/-- told at last: free to be changed -/
theorem Abs.toldM {T : Hp} {DH : DHp} {H : Hp} {p : Addr} {ob : Obj} {vs : List V} {acc : List D} (A : Abs T DH H) (h : T p = some (.frz ob (.lst vs))) (r : RepL T acc vs) :
    Abs (fun q => if q = p then none else T q) (dupd DH p (.lst acc)) H ∧ DH p = none := by
  have bt : But p T (fun q => if q = p then none else T q) := ⟨⟨ob, _, h⟩, fun q n => if_neg n⟩
  have e : H p = some (.lst vs) := A.sub p _ h
  obtain ⟨C, A⟩ := A
  have hd : DH p = none := by
    cases e : DH p with
    | none => rfl
    | some x => rw [(A.obj p x e).1] at h; cases h
  refine ⟨⟨C, fun b z q => ?_, fun b x q => ?_, fun b c q => ?_⟩, hd⟩
  · by_cases n : b = p
    · rw [if_pos n] at q; cases q
    · rw [if_neg n] at q; exact A.sub b z q
  · by_cases n : b = p
    · subst n
      rw [dupd_same] at q; cases q
      exact ⟨if_pos rfl, fun z => (by cases z), fun _ => ⟨_, e, vs, rfl, RepL.but bt _ _ r⟩⟩
    · rw [dupd_ne n] at q
      obtain ⟨h1, h2, h3⟩ := A.obj b x q
      refine ⟨by rw [if_neg n]; exact h1, h2, fun hx => ?_⟩
      obtain ⟨z, g, r⟩ := h3 hx
      exact ⟨z, g, r.but bt⟩
  · obtain ⟨h1, h2, h3, h4, h5⟩ := A.own b c q
    have n1 : b ≠ p := fun q => by subst q; rw [hd] at h1; cases h1
    have n2 : c ≠ p := fun q => by subst q; rw [h3] at h; cases h
    exact ⟨by rw [dupd_ne n1]; exact h1, by rw [dupd_ne n2]; exact h2, by rw [if_neg n2]; exact h3, h4, h5⟩
theorem dComp_len {ok : DHp → Prop} {g : DG} {tt : DT} {te : DE} {τ : DSt} {H : DHp} {K : List D → DHp → Prop} : ∀ {xs acc : List D}, dCompL ok g tt te τ xs acc H K → ok H
  | [], _, h => h.1
  | _ :: _, _, h => h.1
/-- the turns, told to the layer beneath -/
theorem lc_lo {mu : Bool} {ix vs : List Nat} {ti : DI} {g : DG} {tt : DT} {te : DE} (hx : ∀ i ∈ ix, i ∈ vs) : ∀ σ H Q, lo (dLc mu ti g tt te vs) σ H Q → tLc (loI ti) (loG ix g) (loT tt) (lo te) vs σ H Q := fun σ H Q ⟨T, DH, τ, R, A, S, h, u⟩ => by
  refine ⟨T, DH, τ, _, A, S, h, fun T1 DH1 H1 xs ok J s1 A1 wk h1 => fun D hD => ?_⟩
  obtain ⟨hlen, h1⟩ := h1
  have hT1 : T1 D = none := (A1.free hD).1
  have ob : Obj := default
  obtain ⟨s2, A2⟩ := A1.frz (o := .frz ob (.lst [])) hD
  have A2 : Abs (upd T1 D (.frz ob (.lst []))) DH1 (upd H1 D (.lst [])) := A2
  have S1 := (S.up s1).wipe vs
  refine ⟨fun i m H' => ∃ T' DH' acc ws, Same T1 T' ∧ T' D = some (.frz ob (.lst ws)) ∧ RepL T' acc ws ∧ Abs T' DH' H' ∧ i ≤ xs.length ∧ m = xs.length - i ∧ acc.length ≤ i ∧ dCompL ok g tt te (dwipe τ vs) (xs.drop i) acc DH' (fun acc H2 => if mu = true then ∀ p, H2 p = none → R (.ref p) (dupd H2 p (.lst acc)) else R (.lst acc) H2),
    ⟨_, _, DH1, [], [], s2, upd_same, .nil, A2, Nat.zero_le _, rfl, Nat.le_refl _, h1⟩, fun i m H' w => ?_⟩
  obtain ⟨T', DH', acc, ws, s3, eD, rw', A3, hi, rfl, hacc, h3⟩ := w
  by_cases hlt : i < xs.length
  · rw [List.drop_eq_getElem_cons hlt] at h3
    refine .inr ⟨wk.goes i T' DH' H' s3 A3 h3.1 hlt, fun H4 => ∃ T4 DH4 acc ws, Same T1 T4 ∧ T4 D = some (.frz ob (.lst ws)) ∧ RepL T4 acc ws ∧ Abs T4 DH4 H4 ∧ acc.length ≤ i + 1 ∧ dCompL ok g tt te (dwipe τ vs) (xs.drop (i + 1)) acc DH4 (fun acc H2 => if mu = true then ∀ p, H2 p = none → R (.ref p) (dupd H2 p (.lst acc)) else R (.lst acc) H2), fun H4 n => ?_, fun x H4 y => ?_⟩
    · obtain ⟨T4, DH4, acc, ws, a1, a2, a3, a4, a5, a6⟩ := n
      exact ⟨xs.length - (i + 1), by omega, T4, DH4, acc, ws, a1, a2, a3, a4, by omega, rfl, a5, a6⟩
    · obtain ⟨T4, s4, A4, r4⟩ := wk.yields i T' DH' H' x H4 xs[i] s3 A3 h3.1 (by simp [hlt]) y
      refine ⟨T4, DH', dwipe τ vs, xs[i], _, A4, S1.up (s3.trans s4), r4, h3.2, fun T5 DH5 H5 τ5 σ5 s5 A5 S5 h5 far => ⟨wipe_far far hx, T5, DH5, τ5, _, A5, S5, h5, fun T6 DH6 H6 b s6 A6 h6 => ?_⟩⟩
      have s46 := s4.trans (s5.trans s6)
      cases b with
      | true =>
        dsimp only
        rw [if_pos rfl] at h6 ⊢
        refine ⟨T6, DH6, τ5, _, A6, S5.up s6, h6, fun T7 DH7 H7 d v s7 A7 r7 h7 => ?_⟩
        have e7 : T7 D = some (.frz ob (.lst ws)) := s7 _ _ (s46 _ _ eD)
        have eH : H7 D = some (.lst ws) := A7.sub D _ e7
        have r8 := RepL.up (s46.trans s7) _ _ rw'
        have bt := But.upd e7 (.frz ob (.lst (ws ++ [v])))
        refine ⟨ws, eH, by rw [r8.length]; omega, upd T7 D (.frz ob (.lst (ws ++ [v]))), DH7, acc ++ [d], ws ++ [v], sameMod (s3.trans (s46.trans s7)) hT1, upd_same, RepL.but bt _ _ (r8.append (.cons r7 .nil)), A7.mod e7, by simp; omega, h7⟩
      | false =>
        dsimp only
        rw [if_neg Bool.false_ne_true] at h6 ⊢
        exact ⟨T6, DH6, acc, ws, s3.trans s46, s46 _ _ eD, RepL.up s46 _ _ rw', A6, by omega, h6⟩
  · have e : i = xs.length := by omega
    subst e
    rw [List.drop_length] at h3
    refine .inl ⟨wk.stops T' DH' H' s3 A3 h3.1, ?_⟩
    have h4 := h3.2
    cases mu with
    | true =>
      rw [if_pos rfl] at h4
      obtain ⟨A5, n⟩ := A3.toldM eD rw'
      refine u _ _ H' (.ref D) _ (s1.trans (fun b z q => ?_)) A5 rfl (h4 D n)
      rw [if_neg (ne_of_none q hT1)]
      exact s3 b z q
    | false =>
      rw [if_neg Bool.false_ne_true] at h4
      have bt := But.upd eD (.lst ws)
      exact u _ _ H' (.lst acc) _ (s1.trans (sameMod s3 hT1)) (A3.toldF eD) ⟨D, ws, rfl, upd_same, RepL.but bt _ _ rw'⟩ h4
theorem qe_lc {mu : Bool} {elt iter : Expr} {ifs : List Expr} {scope : Scope} {own : List (Str × Nat)} {ix : List Nat} {ti : DI} {g : DG} {tt : DT} (hc : X.calm = true) (hN : X.N.Nodup) (hi : QI X tg iter ti) (ok : BlkOk X.N X.env.scope scope own)
    (hg : ∀ (s : Shared) (H : Hp) (C : Addr) (cl : List (Str × Addr)) (fp : List Addr), QG (X.blk s H scope (compEnvC scope cl C X.env) fp) tg ix g) (ht : ∀ (s : Shared) (H : Hp) (C : Addr) (cl : List (Str × Addr)) (fp : List Addr), QTs (X.blk s H scope (compEnvC scope cl C X.env) fp) ifs tt)
    (he : ∀ (s : Shared) (H : Hp) (C : Addr) (cl : List (Str × Addr)) (fp : List Addr), QE (X.blk s H scope (compEnvC scope cl C X.env) fp) elt te) (hx : ∀ i ∈ ix, i ∈ own.map (·.2) := by decide) (hs : ∀ x, foldedSetIterable iter X.env x = pure x := by intro _; rfl) :
    QE X (.ListComp elt [⟨tg, iter, ifs, 0⟩] scope pos) (dLc mu ti g tt te (own.map (·.2))) :=
  ⟨peW (pe_lc hc hN hi.run ok (fun s H C cl fp => (hg s H C cl fp).run) (fun s H C cl fp => (ht s H C cl fp).run) (fun s H C cl fp => (he s H C cl fp).run) hs) (lc_lo hx)⟩
theorem qs_setLc {mu : Bool} {i : Nat} {y : Str} {py spos : Pos} {elt iter : Expr} {ifs : List Expr} {scope : Scope} {own : List (Str × Nat)} {ix : List Nat} {ti : DI} {g : DG} {tt : DT} (hc : X.calm = true) (hN : X.N.Nodup) (hi : QI X tg iter ti) (ok : BlkOk X.N X.env.scope scope own)
    (hg : ∀ (s : Shared) (H : Hp) (C : Addr) (cl : List (Str × Addr)) (fp : List Addr), QG (X.blk s H scope (compEnvC scope cl C X.env) fp) tg ix g) (ht : ∀ (s : Shared) (H : Hp) (C : Addr) (cl : List (Str × Addr)) (fp : List Addr), QTs (X.blk s H scope (compEnvC scope cl C X.env) fp) ifs tt)
    (he : ∀ (s : Shared) (H : Hp) (C : Addr) (cl : List (Str × Addr)) (fp : List Addr), QE (X.blk s H scope (compEnvC scope cl C X.env) fp) elt te) (hy : X.N[i]? = some y := by rfl) (hyl : X.env.scope.names.lookup y = some .local := by rfl)
    (hsw : swapsWith (.ListComp elt [⟨tg, iter, ifs, 0⟩] scope pos) (some (.Name y py)) spos.line X.env = pure true := by exact sw_true rfl rfl rfl (by decide +kernel)) (hx : ∀ i ∈ ix, i ∈ own.map (·.2) := by decide) (hs : ∀ x, foldedSetIterable iter X.env x = pure x := by intro _; rfl) :
    QS X (.Assign [.Name y py] (.ListComp elt [⟨tg, iter, ifs, 0⟩] scope pos) spos) (dAsg (dLc mu ti g tt te (own.map (·.2))) (gN i)) :=
  ⟨psW (ps_setLc hc hN hy hyl hsw hi.run ok (fun s H C cl fp => (hg s H C cl fp).run) (fun s H C cl fp => (ht s H C cl fp).run) (fun s H C cl fp => (he s H C cl fp).run) hs) fun E σ H ⟨T, DH, τ, R, A, S, h, u⟩ => by
    show tLc _ _ _ _ _ σ H (fun x H1 => L2.gName i x σ H1 E.nx)
    exact lc_lo hx σ H _ ⟨T, DH, τ, _, A, S, h, fun T1 DH1 H1 x v s1 A1 r1 h1 => u.nx T1 DH1 H1 _ _ s1 A1 ((S.up s1).set r1 i) h1⟩⟩

/-! ### the body of a def -/
def dstart (N : List Str) (ds : List D) : DSt := ds.map some ++ List.replicate (N.length - ds.length) none
theorem start_rep {N : List Str} {T : Hp} {ds : List D} {vs : List V} (r : RepL T ds vs) : RepS T (dstart N ds) (L2.start N vs) := by
  unfold dstart L2.start
  refine ⟨by simp [r.length], fun i d e => ?_⟩
  by_cases hi : i < ds.length
  · rw [List.getElem?_append_left (by simpa using hi), List.getElem?_map] at e
    cases q : ds[i]? with
    | none => rw [q] at e; cases e
    | some d' =>
      rw [q] at e; cases e
      obtain ⟨v, e1, r1⟩ := r.get q
      exact ⟨v, by rw [List.getElem?_append_left (by simp [r.length, hi]), List.getElem?_map, e1]; rfl, r1⟩
  · rw [List.getElem?_append_right (by simpa using hi), List.getElem?_replicate] at e
    split at e <;> cases e
/-- what a body is to reach: what it made is forgotten -/
def bodyE (Q : DK) : DEnds := { nx := fun _ H => ∃ H2, DSub H2 H ∧ Q .non H2, rt := fun d H => ∃ H2, DSub H2 H ∧ Q d H2 }
end
section
variable {P : Program} {w : World} {K : PySem.W.Frag} {mg : Str → Option Value} {base : Heap}
/-- a def's promise by its body, over data -/
theorem dok {x qual : Str} {st : Stmt} {f : Addr} {fd : FuncData} {N ps : List Str} {k : Nat} {sp : DSp} (F : Fun K x qual st f fd) (S : FnScope N ps (defScope st)) (len : ∀ ds H Q, sp ds H Q → ds.length = ps.length)
    (hbody : ∀ (cdv : Value) (A : Around) (outer : List Env) (s : Shared) (H : Hp) (ds : List D) (DH : DHp) (Q : DK), Room k (A.deeper (envOfC qual (defScope st) s.heap.objs.size f cdv)) → sp ds DH Q →
      ∃ t, QSs (cxOf CX0 P w K mg base N qual (defScope st) f cdv A outer s H E0).nox (defBody st) t ∧ t (bodyE Q) (dstart N ds) DH) : FnOk P w K mg base CX0 (k + 1) f fd ps (loP sp) := by
  refine F.ok S (fun vs H Q E h => ?_) fun cdv A outer s H vs Q E hr h => ?_
  · obtain ⟨T, DH, ds, R, A, r, h, u⟩ := h
    rw [r.length]
    exact len _ _ _ h
  · obtain ⟨T, DH, ds, R, AA, r, h, u⟩ := h
    obtain ⟨t, ht, hq⟩ := hbody cdv A outer s H ds DH R hr h
    refine ⟨_, ht.run, T, DH, dstart N ds, _, AA, start_rep r, hq, ⟨fun T1 DH1 H1 τ1 σ1 s1 A1 S1 h1 => ?_, fun T1 DH1 H1 d v s1 A1 r1 h1 => ?_, fun _ _ _ _ _ _ _ _ h1 => h1, fun _ _ _ _ _ _ _ _ h1 => h1⟩⟩
    · obtain ⟨H2, hs, h1⟩ := h1
      exact u T1 H2 H1 .non _ s1 (A1.drop hs) rfl h1
    · obtain ⟨H2, hs, h1⟩ := h1
      exact u T1 H2 H1 d v s1 (A1.drop hs) r1 h1
end
end DL

/-! DL6: dicts, methods of lists, enumerate of a tuple, the text of a value, over data. -/
namespace DL
open PySem PySem.Spec PyProof.Rows L2

/-! ### dicts -/
section
variable {κ : Type} [DecidableEq κ]
def dval (kvs : List (κ × D)) (k : κ) : Option D := (kvs.find? fun kv => decide (kv.1 = k)).map (·.2)
def dput (kvs : List (κ × D)) (k : κ) (v : D) : List (κ × D) :=
  if (kvs.any fun kv => decide (kv.1 = k)) = true then kvs.map (fun kv => if kv.1 = k then (kv.1, v) else kv) else kvs ++ [(k, v)]
theorem KVR.cons_inv {T : Hp} {x : κ × D} {xs : List (κ × D)} {ys : List (κ × V)} (h : KVR T (x :: xs) ys) : ∃ v r, ys = (x.1, v) :: r ∧ RepV T x.2 v ∧ KVR T xs r := by
  obtain ⟨h1, v, r, h2, h3, h4⟩ := h
  cases ys with
  | nil => cases h2
  | cons y ys =>
    simp only [List.map_cons, List.cons.injEq] at h1 h2
    exact ⟨y.2, ys, by rw [← h1.1], h2.1 ▸ h3, h1.2, by rw [h2.2]; exact h4⟩
theorem KVR.cons {T : Hp} {x : κ × D} {v : V} {xs : List (κ × D)} {ys : List (κ × V)} (h : RepV T x.2 v) (r : KVR T xs ys) : KVR T (x :: xs) ((x.1, v) :: ys) := ⟨by simp [r.1], .cons h r.2⟩
theorem KVR.val {T : Hp} (k : κ) : ∀ {xs : List (κ × D)} {ys : List (κ × V)}, KVR T xs ys → (dval xs k = none ∧ valV ys k = none) ∨ ∃ d v, dval xs k = some d ∧ valV ys k = some v ∧ RepV T d v
  | [], ys, h => by
    have : ys = [] := by have := h.1; simpa using this
    subst this
    exact .inl ⟨rfl, rfl⟩
  | x :: xs, ys, h => by
    obtain ⟨v, r, rfl, h1, h2⟩ := h.cons_inv
    by_cases e : x.1 = k
    · exact .inr ⟨x.2, v, by simp [dval, List.find?_cons, e], by simp [valV, List.find?_cons, e], h1⟩
    · have ih := KVR.val k h2
      simpa [dval, valV, List.find?_cons, e] using ih
theorem KVR.any {T : Hp} (k : κ) {xs : List (κ × D)} {ys : List (κ × V)} (h : KVR T xs ys) : (ys.any fun kv => decide (kv.1 = k)) = xs.any fun kv => decide (kv.1 = k) := by
  have a : ∀ {β : Type} (l : List (κ × β)), (l.any fun kv => decide (kv.1 = k)) = (l.map (·.1)).any fun z => decide (z = k) := by
    intro β l
    rw [List.any_map]
    rfl
  rw [a, a, h.1]
theorem KVR.map {T : Hp} (k : κ) {d : D} {v : V} (r : RepV T d v) : ∀ {xs : List (κ × D)} {ys : List (κ × V)}, KVR T xs ys → KVR T (xs.map fun kv => if kv.1 = k then (kv.1, d) else kv) (ys.map fun kv => if kv.1 = k then (kv.1, v) else kv)
  | [], ys, h => by
    have : ys = [] := by have := h.1; simpa using this
    subst this
    exact h
  | x :: xs, ys, h => by
    obtain ⟨w, q, rfl, h1, h2⟩ := h.cons_inv
    have ih := KVR.map k r h2
    rw [List.map_cons, List.map_cons]
    by_cases e : x.1 = k
    · rw [if_pos e, if_pos e]
      exact KVR.cons (x := (x.1, d)) r ih
    · rw [if_neg e, if_neg e]
      exact KVR.cons (x := x) h1 ih
theorem KVR.put {T : Hp} (k : κ) {d : D} {v : V} (r : RepV T d v) {xs : List (κ × D)} {ys : List (κ × V)} (h : KVR T xs ys) : KVR T (dput xs k d) (putK ys k v) := by
  unfold dput putK
  rw [h.any]
  split
  · exact h.map k r
  · exact ⟨by simp [h.1], by rw [List.map_append, List.map_append]; exact h.2.append (.cons r .nil)⟩
theorem KVR.length {T : Hp} {xs : List (κ × D)} {ys : List (κ × V)} (h : KVR T xs ys) : ys.length = xs.length := by have := congrArg List.length h.1; simpa using this
end
/-- a value as a key -/
def keyD : D → Option Key
  | .int i => some (.inl i)
  | .str x => some (.inr x)
  | _ => none
def keyT : D → Option (List Key)
  | .tup xs => xs.mapM keyD
  | _ => none
theorem keyD_rep {T : Hp} {d : D} {v : V} {k : Key} (r : RepV T d v) (h : keyD d = some k) : v = kV k := by
  cases d with
  | int i => cases h; exact r
  | str i => cases h; exact r
  | _ => cases h
theorem keysD_rep {T : Hp} : ∀ {ds : List D} {vs : List V} {ks : List Key}, RepL T ds vs → ds.mapM keyD = some ks → vs = ks.map kV
  | [], vs, ks, r, h => by
    cases (show vs = [] from r)
    simp at h
    subst h
    rfl
  | d :: ds, vs, ks, r, h => by
    obtain ⟨v, q, rfl, h1, h2⟩ := r
    rw [List.mapM_cons] at h
    cases e : keyD d with
    | none => rw [e] at h; cases h
    | some k =>
      rw [e] at h
      cases e2 : ds.mapM keyD with
      | none => rw [e2] at h; cases h
      | some js =>
        rw [e2] at h
        cases h
        rw [keyD_rep h1 e, keysD_rep h2 e2]
        rfl
/-- d[k] -/
def lookD (H : DHp) (x y : D) (K : Option D → Prop) : Prop := match x with
  | .ref p => (match H p with
    | some (.dK kvs) => (match keyD y with | some k => K (dval kvs k) | none => False)
    | some (.dT kvs) => (match keyT y with | some k => K (dval kvs k) | none => False)
    | some (.lkK kvs _) => (match keyD y with | some k => K (dval kvs k) | none => False)
    | some (.lkT kvs _) => (match keyT y with | some k => K (dval kvs k) | none => False)
    | _ => False)
  | _ => False
section
variable {X : Cx} {T : Hp} {DH : DHp} {H : Hp} {a b c e : Expr} {es : List Expr} {ta tb tc te : DE} {t : DA} {pos apos cpos : Pos}
theorem look_rep (A : Abs T DH H) {x y : D} {v u : V} {K : Option D → Prop} (r1 : RepV T x v) (r2 : RepV T y u) (h : lookD DH x y K) : ∃ p o d, v = .ref p ∧ DGet H p u o ∧ K d ∧ ((d = none ∧ o = none) ∨ ∃ z w, d = some z ∧ o = some w ∧ RepV T z w) := by
  cases x with
  | ref p =>
    cases (show v = .ref p from r1)
    unfold lookD at h
    simp only at h
    split at h
    · rename_i kvs e1
      split at h
      · rename_i k e2
        obtain ⟨ys, g, q⟩ := A.dK e1
        have eu := keyD_rep r2 e2
        subst eu
        refine ⟨p, valV ys k, _, rfl, DGet.k g, h, ?_⟩
        rcases q.val k with ⟨q1, q2⟩ | ⟨d, v, q1, q2, q3⟩
        · exact .inl ⟨q1, q2⟩
        · exact .inr ⟨d, v, q1, q2, q3⟩
      · exact h.elim
    · rename_i kvs e1
      split at h
      · rename_i k e2
        obtain ⟨ys, g, q⟩ := A.dT e1
        cases y with
        | tup xs =>
          obtain ⟨b, ws, rfl, tb, rw'⟩ := r2
          have ek := keysD_rep rw' e2
          subst ek
          refine ⟨p, valV ys k, _, rfl, DGet.t g (A.sub _ _ tb), h, ?_⟩
          rcases q.val k with ⟨q1, q2⟩ | ⟨d, v, q1, q2, q3⟩
          · exact .inl ⟨q1, q2⟩
          · exact .inr ⟨d, v, q1, q2, q3⟩
        | _ => cases e2
      · exact h.elim
    · rename_i kvs u e1
      split at h
      · rename_i k e2
        obtain ⟨g, ob, ys, rfl, q⟩ := A.lkK e1
        have eu := keyD_rep r2 e2
        subst eu
        refine ⟨p, valV ys k, _, rfl, .inl ⟨ys, k, .inr ⟨ob, g⟩, rfl, rfl⟩, h, ?_⟩
        rcases q.val k with ⟨q1, q2⟩ | ⟨d, v, q1, q2, q3⟩
        · exact .inl ⟨q1, q2⟩
        · exact .inr ⟨d, v, q1, q2, q3⟩
      · exact h.elim
    · rename_i kvs u e1
      split at h
      · rename_i k e2
        obtain ⟨g, ob, ys, rfl, q⟩ := A.lkT e1
        cases y with
        | tup xs =>
          obtain ⟨b, ws, rfl, tb, rw'⟩ := r2
          have ek := keysD_rep rw' e2
          subst ek
          refine ⟨p, valV ys k, _, rfl, .inr ⟨ys, k, b, .inr ⟨ob, g⟩, rfl, A.sub _ _ tb, rfl⟩, h, ?_⟩
          rcases q.val k with ⟨q1, q2⟩ | ⟨d, v, q1, q2, q3⟩
          · exact .inl ⟨q1, q2⟩
          · exact .inr ⟨d, v, q1, q2, q3⟩
        | _ => cases e2
      · exact h.elim
    · exact h.elim
  | _ => exact (show False from h).elim
def dGet (td ty : DE) : DE := fun τ H Q => td τ H fun x H1 => ty τ H1 fun y H2 => lookD H2 x y fun o => match o with
  | some d => Q d H2
  | none => False
theorem qe_dget (hu : X.A.units + 1 < cLine) (ha : QE X a ta) (hb : QE X b tb) (hs : NoSl b := by exact fun _ _ => rfl) : QE X (.Subscript a b pos) (dGet ta tb) :=
  ⟨peW (pe_dget hu ha.run hb.run hs) fun σ H Q ⟨T, DH, τ, R, A, S, h, u⟩ => by
    refine lo_two (Q := fun v w H2 => ∃ a z, v = .ref a ∧ DGet H2 a w (some z) ∧ Q z H2) A S h fun T' DH' H' x y v w s A' r1 r2 h' => ?_
    obtain ⟨p, o, d, rfl, g, k, q⟩ := look_rep A' r1 r2 h'
    rcases q with ⟨rfl, rfl⟩ | ⟨z, w', rfl, rfl, q⟩
    · exact k.elim
    · exact ⟨p, w', rfl, g, u T' DH' H' z w' s A' q k⟩⟩
def dIn (neg : Bool) (ty td : DE) : DE := fun τ H Q => ty τ H fun y H1 => td τ H1 fun x H2 => lookD H2 x y fun o => Q (.bl (if neg then !o.isSome else o.isSome)) H2
theorem loIn {neg : Bool} {f : Option V → Bool} (hf : ∀ o : Option V, f o = if neg then !o.isSome else o.isSome) : ∀ σ H Q, lo (dIn neg ta tb) σ H Q → lo ta σ H fun y H1 => lo tb σ H1 fun x H2 => ∃ a o, x = .ref a ∧ DGet H2 a y o ∧ Q (.bl (f o)) H2 := fun σ H Q ⟨T, DH, τ, R, A, S, h, u⟩ => by
  refine lo_two (Q := fun w v H2 => ∃ a o, v = .ref a ∧ DGet H2 a w o ∧ Q (.bl (f o)) H2) A S h fun T' DH' H' y x w v s A' r2 r1 h' => ?_
  obtain ⟨p, o, d, rfl, g, k, q⟩ := look_rep A' r1 r2 h'
  refine ⟨p, o, rfl, g, ?_⟩
  have e : o.isSome = d.isSome := by
    rcases q with ⟨rfl, rfl⟩ | ⟨z, w', rfl, rfl, _⟩ <;> rfl
  rw [hf, e]
  exact u T' DH' H' _ _ s A' (show RepV T' (.bl _) (.bl _) from rfl) k
theorem qe_din (hu : X.A.units + 1 < cLine) (ha : QE X a ta) (hb : QE X b tb) (hm : behindInMarks .In b = false := by first | rfl | with_unfolding_all rfl) : QE X (.Compare a [.In] [b] pos) (dIn false ta tb) := ⟨peW (pe_cmp (pc_din hu ha.run hb.run) hm) fun σ H Q h => loIn (neg := false) (f := fun o => o.isSome) (fun _ => rfl) σ H Q h⟩
theorem qe_dnotin (hu : X.A.units + 1 < cLine) (ha : QE X a ta) (hb : QE X b tb) (hm : behindInMarks .NotIn b = false := by first | rfl | with_unfolding_all rfl) : QE X (.Compare a [.NotIn] [b] pos) (dIn true ta tb) := ⟨peW (pe_cmp (pc_dnotin hu ha.run hb.run) hm) fun σ H Q h => loIn (neg := true) (f := fun o => !o.isSome) (fun _ => rfl) σ H Q h⟩
theorem qt_din (hu : X.A.units + 1 < cLine) (ha : QE X a ta) (hb : QE X b tb) (hm : behindInMarks .In b = false := by first | rfl | with_unfolding_all rfl) : QT X (.Compare a [.In] [b] pos) (dB (dIn false ta tb)) :=
  ⟨ptW (pt_cmp (pc_din hu ha.run hb.run) hm) fun σ H Q h => loIn (neg := false) (f := fun o => o.isSome) (fun _ => rfl) σ H _ (lo_test σ H Q h)⟩
theorem qt_dnotin (hu : X.A.units + 1 < cLine) (ha : QE X a ta) (hb : QE X b tb) (hm : behindInMarks .NotIn b = false := by first | rfl | with_unfolding_all rfl) : QT X (.Compare a [.NotIn] [b] pos) (dB (dIn true ta tb)) :=
  ⟨ptW (pt_cmp (pc_dnotin hu ha.run hb.run) hm) fun σ H Q h => loIn (neg := true) (f := fun o => !o.isSome) (fun _ => rfl) σ H _ (lo_test σ H Q h)⟩
/-- d[k] = v -/
def storeD (H : DHp) (x y v : D) (K : DHp → Prop) : Prop := match x with
  | .ref p => (match H p with
    | some (.dK kvs) => (match keyD y with | some k => kvs.length < sizeLine ∧ K (dupd H p (.dK (dput kvs k v))) | none => False)
    | some (.dT kvs) => (match keyT y with | some k => kvs.length < sizeLine ∧ K (dupd H p (.dT (dput kvs k v))) | none => False)
    | some (.lst xs) => (match y with | .int i => (match ixN xs.length i with | some j => K (dupd H p (.lst (xs.set j v))) | none => False) | _ => False)
    | _ => False)
  | _ => False
theorem store_rep (A : Abs T DH H) {x y z : D} {v u w : V} {K : DHp → Prop} (r1 : RepV T x v) (r2 : RepV T y u) (r3 : RepV T z w) (h : storeD DH x y z K) : ∃ p, v = .ref p ∧ ((∃ H' DH', DPut H p u w H' ∧ Abs T DH' H' ∧ K DH') ∨ ∃ vs i j DH', u = .int i ∧ H p = some (.lst vs) ∧ ixN vs.length i = some j ∧ Abs T DH' (upd H p (.lst (vs.set j w))) ∧ K DH') := by
  cases x with
  | ref p =>
    cases (show v = .ref p from r1)
    unfold storeD at h
    simp only at h
    refine ⟨p, rfl, ?_⟩
    split at h
    · rename_i kvs e1
      split at h
      · rename_i k e2
        obtain ⟨ys, g, q⟩ := A.dK e1
        have eu := keyD_rep r2 e2
        subst eu
        exact .inl ⟨_, _, DPut.k g (by rw [q.length]; exact h.1), A.put (x := .dK (dput kvs k z)) e1 (by simp) ⟨_, rfl, q.put k r3⟩, h.2⟩
      · exact h.elim
    · rename_i kvs e1
      split at h
      · rename_i k e2
        obtain ⟨ys, g, q⟩ := A.dT e1
        cases y with
        | tup xs =>
          obtain ⟨b, ws, rfl, tb, rw'⟩ := r2
          have ek := keysD_rep rw' e2
          subst ek
          exact .inl ⟨_, _, .inr ⟨ys, k, b, g, rfl, A.sub _ _ tb, by rw [q.length]; exact h.1, rfl⟩, A.put (x := .dT (dput kvs k z)) e1 (by simp) ⟨_, rfl, q.put k r3⟩, h.2⟩
        | _ => cases e2
      · exact h.elim
    · rename_i xs e1
      split at h
      · rename_i i
        split at h
        · rename_i j ej
          obtain ⟨vs, g, q⟩ := A.lst e1
          exact .inr ⟨vs, i, j, _, r2, g, by rw [q.length]; exact ej, A.put (x := .lst (xs.set j z)) e1 (by simp) ⟨_, rfl, q.set r3 j⟩, h⟩
        · exact h.elim
      · exact h.elim
    · exact h.elim
  | _ => exact (show False from h).elim
theorem ps_any (hu : X.A.units + 1 < cLine) {o i value : Expr} {td ty tv : TE} {pos' : Pos} (ho : PE X o td) (hi : PE X i ty) (hv : PE X value tv) (hs : swapsWith value (some (.Subscript o i pos')) pos.line X.env = pure false) :
    PS X (.Assign [.Subscript o i pos'] value pos) (fun D σ H => tv σ H fun v H1 => td σ H1 fun x H2 => ty σ H2 fun y H3 => ∃ a, x = .ref a ∧ ((∃ H4, DPut H3 a y v H4 ∧ D.nx σ H4) ∨ ∃ xs k j, y = .int k ∧ H3 a = some (.lst xs) ∧ ixN xs.length k = some j ∧ D.nx σ (upd H3 a (.lst (xs.set j v))))) := by
  refine ⟨fun pins s σ H D I h => ?_⟩
  refine wpAny_Assign_Subscript (thn (hv.run pins s σ H _ I h) fun r s1 ⟨v, H1, I1, rv, q1⟩ => thn (ho.run pins s1 σ H1 _ I1 q1) fun u s2 ⟨x, H2, I2, rx, q2⟩ => thn (hi.run pins s2 σ H2 _ I2 q2) fun iv s3 ⟨y, H3, I3, ry, a, ex, q3⟩ => ?_) hs
  subst ex
  rcases q3 with ⟨H4, g, q3⟩ | ⟨xs, k, j, ey, g, ej, q3⟩
  · obtain rfl : u = Value.ref a := rx
    exact d_setItem hu I3 g ry rv fun s4 I4 => ⟨σ, H4, I4, q3⟩
  · exact thn (set_list pins s3 σ H3 (.ref a) y v u iv r (fun H4 => D.nx σ H4) I3 rx ry rv ⟨a, xs, k, j, rfl, ey, g, ej, q3⟩) fun _ s4 ⟨H4, I4, q4⟩ => ⟨σ, H4, I4, q4⟩
def dStore (td ty tv : DE) : DS := fun E τ H => tv τ H fun v H1 => td τ H1 fun x H2 => ty τ H2 fun y H3 => storeD H3 x y v (E.nx τ)
theorem qs_store {o i value : Expr} {td ty tv : DE} {pos' : Pos} (hu : X.A.units + 1 < cLine) (ho : QE X o td) (hi : QE X i ty) (hv : QE X value tv) (hs : swapsWith value (some (.Subscript o i pos')) pos.line X.env = pure false := by rfl) : QS X (.Assign [.Subscript o i pos'] value pos) (dStore td ty tv) :=
  ⟨psW (ps_any hu ho.run hi.run hv.run hs) fun E σ H ⟨T, DH, τ, R, A, S, h, u⟩ => ⟨T, DH, τ, _, A, S, h, fun T1 DH1 H1 z w s1 A1 r1 h1 => by
    refine lo_two (Q := fun x y H3 => ∃ a, x = .ref a ∧ ((∃ H4, DPut H3 a y w H4 ∧ E.nx σ H4) ∨ ∃ xs k j, y = .int k ∧ H3 a = some (.lst xs) ∧ ixN xs.length k = some j ∧ E.nx σ (upd H3 a (.lst (xs.set j w))))) A1 (S.up s1) h1 fun T' DH' H' x y v u' s A' r2 r3 h' => ?_
    obtain ⟨p, rfl, q⟩ := store_rep A' r2 r3 (r1.up s) h'
    have ss := s1.trans s
    rcases q with ⟨H4, DH4, g, A4, k⟩ | ⟨vs, i, j, DH4, rfl, g, ej, A4, k⟩
    · exact ⟨p, rfl, .inl ⟨H4, g, u.nx T' DH4 H4 τ σ ss A4 (S.up ss) k⟩⟩
    · exact ⟨p, rfl, .inr ⟨vs, i, j, rfl, g, ej, u.nx T' DH4 _ τ σ ss A4 (S.up ss) k⟩⟩⟩⟩
/-- {}, free to be filled -/
def dNewK : DE := fun _ H Q => ∀ p, H p = none → Q (.ref p) (dupd H p (.dK []))
def dNewT : DE := fun _ H Q => ∀ p, H p = none → Q (.ref p) (dupd H p (.dT []))
theorem qe_newK : QE X (.Dict [] [] pos) dNewK := ⟨peW pe_dnewK fun σ H Q ⟨T, DH, τ, R, A, S, h, u⟩ => fun p hp => u T _ _ (.ref p) _ (Same.refl _) (A.new (x := .dK []) hp ⟨[], rfl, rfl, .nil⟩) rfl (h p (A.free hp).2)⟩
theorem qe_newT : QE X (.Dict [] [] pos) dNewT := ⟨peW pe_dnewT fun σ H Q ⟨T, DH, τ, R, A, S, h, u⟩ => fun p hp => u T _ _ (.ref p) _ (Same.refl _) (A.new (x := .dT []) hp ⟨[], rfl, rfl, .nil⟩) rfl (h p (A.free hp).2)⟩
/-- {k: v, ..} -/
def dPairs : List (DE × DE) → DSt → DHp → (List (D × D) → DHp → Prop) → Prop
  | [], _, H, Q => Q [] H
  | (tk, tv) :: r, τ, H, Q => tk τ H fun k H1 => tv τ H1 fun v H2 => dPairs r τ H2 fun ps H3 => Q ((k, v) :: ps) H3
def keysOf : List (D × D) → Option (List (Key × D))
  | [] => some []
  | (k, v) :: r => (keyD k).bind fun k' => (keysOf r).map fun r' => (k', v) :: r'
structure QPs (X : Cx) (pos : Pos) (ks : List (Option Expr)) (vs : List Expr) (trs : List (DE × DE)) : Prop where
  run : PPs X pos ks vs (trs.map fun p => (lo p.1, lo p.2))
theorem qps_nil : QPs X pos [] [] [] := ⟨pps_nil⟩
theorem qps_cons {k v : Expr} {ks : List (Option Expr)} {vs : List Expr} {tk tv : DE} {trs : List (DE × DE)} (hk : QE X k tk) (hv : QE X v tv) (hr : QPs X pos ks vs trs) : QPs X pos (some k :: ks) (v :: vs) ((tk, tv) :: trs) := ⟨pps_cons hk.run hv.run hr.run⟩
def dDisp (trs : List (DE × DE)) : DE := fun τ H Q => ∀ p, H p = none → dPairs trs τ (dupd H p (.dK [])) fun ps H2 => H2 p = some (.dK []) ∧ match keysOf ps with
  | some kvs => (kvs.map (·.1)).Nodup ∧ kvs.length ≤ 15 ∧ Q (.ref p) (dupd H2 p (.dK kvs))
  | none => False
def RepPs (T : Hp) : List (D × D) → List (V × V) → Prop
  | [], ws => ws = []
  | (k, v) :: r, ws => ∃ a b q, ws = (a, b) :: q ∧ RepV T k a ∧ RepV T v b ∧ RepPs T r q
theorem RepPs.up {T T' : Hp} (s : Same T T') : ∀ (ps : List (D × D)) (ws : List (V × V)), RepPs T ps ws → RepPs T' ps ws
  | [], _, h => h
  | (k, v) :: r, _, ⟨a, b, q, e, h1, h2, h3⟩ => ⟨a, b, q, e, h1.up s, h2.up s, RepPs.up s r q h3⟩
theorem lo_pairs : ∀ (trs : List (DE × DE)) (T : Hp) (DH : DHp) (τ : DSt) (σ : L2.St) (H : Hp) (R : List (D × D) → DHp → Prop) (Q : List (V × V) → Hp → Prop), Abs T DH H → RepS T τ σ → dPairs trs τ DH R →
    (∀ T' DH' H' ps ws, Same T T' → Abs T' DH' H' → RepPs T' ps ws → R ps DH' → Q ws H') → tPairs (trs.map fun p => (lo p.1, lo p.2)) σ H Q
  | [], T, DH, τ, σ, H, R, Q, A, S, h, u => u T DH H [] [] (Same.refl _) A rfl h
  | (tk, tv) :: r, T, DH, τ, σ, H, R, Q, A, S, h, u =>
    ⟨T, DH, τ, _, A, S, h, fun T1 DH1 H1 k a s1 A1 r1 h1 => ⟨T1, DH1, τ, _, A1, S.up s1, h1, fun T2 DH2 H2 v b s2 A2 r2 h2 =>
      lo_pairs r T2 DH2 τ σ H2 _ _ A2 (S.up (s1.trans s2)) h2 fun T3 DH3 H3 ps ws s3 A3 r3 h3 => u T3 DH3 H3 ((k, v) :: ps) _ (s1.trans (s2.trans s3)) A3 ⟨a, b, ws, rfl, r1.up (s2.trans s3), r2.up s3, r3⟩ h3⟩⟩
theorem keysOf_rep {T : Hp} : ∀ {ps : List (D × D)} {ws : List (V × V)} {kvs : List (Key × D)}, RepPs T ps ws → keysOf ps = some kvs → ∃ ys : List (Key × V), ws = ys.map (fun kv => (kV kv.1, kv.2)) ∧ KVR T kvs ys
  | [], _, kvs, h, e => by
    cases (show _ = [] from h)
    cases e
    exact ⟨[], rfl, rfl, .nil⟩
  | (k, v) :: r, _, kvs, ⟨a, b, q, rfl, h1, h2, h3⟩, e => by
    unfold keysOf at e
    cases e1 : keyD k with
    | none => rw [e1] at e; cases e
    | some k' =>
      rw [e1] at e
      cases e2 : keysOf r with
      | none => rw [e2] at e; cases e
      | some r' =>
        rw [e2] at e
        cases e
        obtain ⟨ys, rfl, q2⟩ := keysOf_rep h3 e2
        exact ⟨(k', b) :: ys, by rw [List.map_cons, keyD_rep h1 e1], KVR.cons (x := (k', v)) h2 q2⟩
theorem merge_fresh : ∀ (ys acc : List (Key × V)), (acc.map (·.1) ++ ys.map (·.1)).Nodup → mergeK acc ys = acc ++ ys
  | [], acc, _ => by simp [mergeK]
  | y :: ys, acc, h => by
    have hn : (acc.any fun kv => decide (kv.1 = y.1)) = false := by
      rw [List.any_eq_false]
      intro z hz q
      have q : z.1 = y.1 := by simpa using q
      rw [List.map_cons, List.nodup_append] at h
      exact h.2.2 z.1 (List.mem_map_of_mem hz) y.1 List.mem_cons_self q
    have ih := merge_fresh ys (acc ++ [y]) (by simpa [List.append_assoc] using h)
    unfold mergeK at ih ⊢
    rw [List.foldl_cons]
    have e : putK acc y.1 y.2 = acc ++ [y] := by
      unfold putK
      rw [hn]
      rfl
    rw [e, ih]
    simp
theorem qe_disp {ks : List (Option Expr)} {vs : List Expr} {trs : List (DE × DE)} (h : QPs X pos ks vs trs) (hall : ks.all (·.isSome) = true := by rfl) (hl : ks.length = vs.length := by rfl) (h0 : ks ≠ [] := by exact fun z => by cases z) (h15 : ks.length ≤ 15 := by decide) : QE X (.Dict ks vs pos) (dDisp trs) :=
  ⟨peW (pe_disp h.run hall hl h0 h15) fun σ H Q ⟨T, DH, τ, R, A, S, h, u⟩ => fun p hp => by
    have A1 := A.new (x := .dK []) hp ⟨[], rfl, rfl, .nil⟩
    refine lo_pairs trs T _ τ σ _ _ _ A1 S (h p (A.free hp).2) fun T' DH' H' ps ws s' A' rp q => ?_
    obtain ⟨q1, q2⟩ := q
    split at q2
    · rename_i kvs e
      obtain ⟨ys, rfl, k2⟩ := keysOf_rep rp e
      obtain ⟨zs, g, z1, z2⟩ := A'.dK q1
      have ez : zs = [] := by simpa using z1
      subst ez
      refine ⟨g, ys, rfl, by rw [k2.length]; exact q2.2.1, ?_⟩
      rw [merge_fresh ys [] (by rw [List.map_nil, List.nil_append, k2.1]; exact q2.1), List.nil_append]
      exact u T' _ _ (.ref p) _ s' (A'.put (x := .dK kvs) q1 (by simp) ⟨ys, rfl, k2⟩) rfl q2.2.2
    · exact q2.elim⟩

/-! ### methods of lists -/
def loM (r : D → List D → DHp → DK → Prop) : V → List V → Hp → VK → Prop := fun v vs H Q => ∃ T DH x ds R, Abs T DH H ∧ RepV T x v ∧ RepL T ds vs ∧ r x ds DH R ∧ Up T R Q
theorem mtrW {id : String} {r r' : V → List V → Hp → VK → Prop} (h : MtR X id r) (w : ∀ x xs H Q, r' x xs H Q → r x xs H Q) : MtR X id r' := fun pins s σ H x xs v us Q I rx rs q => h pins s σ H x xs v us Q I rx rs (w x xs H Q q)
/-- the value is of the type -/
def ofTy (T : String) (H : DHp) (x : D) : Prop := match x with
  | .str _ => T = "str"
  | .lst _ => T = "list"
  | .ref p => (match H p with
    | some (.lst _) => T = "list"
    | some (.dK _) => T = "dict"
    | some (.dT _) => T = "dict"
    | _ => False)
  | _ => False
theorem ofTy_rep {K : PySem.W.Frag} (A : Abs T DH H) {ty : String} {x : D} {v : V} (r : RepV T x v) (h : ofTy ty DH x) : tyV K ty v H := by
  cases x with
  | str y => cases (show v = .str y from r); exact h
  | lst xs =>
    obtain ⟨p, vs, rfl, t, _⟩ := r
    exact .inl ⟨h, vs, SqL.of (A.sub _ _ t)⟩
  | ref p =>
    cases (show v = .ref p from r)
    unfold ofTy at h
    simp only at h
    split at h
    · rename_i xs e
      obtain ⟨vs, g, _⟩ := A.lst e
      exact .inl ⟨h, vs, SqL.of g⟩
    · rename_i xs e
      obtain ⟨vs, g, _⟩ := A.dK e
      exact .inr (.inr (.inl ⟨h, .inl ⟨vs, g⟩⟩))
    · rename_i xs e
      obtain ⟨vs, g, _⟩ := A.dT e
      exact .inr (.inr (.inl ⟨h, .inr ⟨vs, g⟩⟩))
    · exact h.elim
  | _ => exact (show False from h).elim
def dBM0 (ty : String) (r : D → List D → DHp → DK → Prop) (to : DE) : DE := fun τ H Q => to τ H fun x H1 => ofTy ty H1 x ∧ r x [] H1 Q
def dBM (ty : String) (r : D → List D → DHp → DK → Prop) (to : DE) (t : DA) : DE := fun τ H Q => to τ H fun x H1 => ofTy ty H1 x ∧ t τ H1 fun xs H2 => r x xs H2 Q
variable {o : Expr} {to : DE} {name : Str} {id ty : String} {r : D → List D → DHp → DK → Prop}
theorem qe_bm0 (pa : PlainAttrs ty) (slot : Slot ty name id) (hty : typeOf (.builtin id) = pure (.type "method_descriptor")) (hm : MtR X id (loM r)) (ho : QE X o to)
    (hbase : attributeBase o name X.env (eval o X.env) = eval o X.env := by rfl) (hline : (apos.endLine == cpos.line) = true := by rfl) : QE X (.Call (.Attribute o name apos) [] [] cpos) (dBM0 ty r to) :=
  ⟨peW (pe_bm0 pa slot hty hm ho.run hbase hline) fun σ H Q ⟨T, DH, τ, R, A, S, h, u⟩ => ⟨T, DH, τ, _, A, S, h, fun T1 DH1 H1 x v s1 A1 r1 h1 => ⟨ofTy_rep A1 r1 h1.1, T1, DH1, x, [], R, A1, r1, .nil, h1.2, u.up s1⟩⟩⟩
theorem qe_bm (pa : PlainAttrs ty) (slot : Slot ty name id) (hty : typeOf (.builtin id) = pure (.type "method_descriptor")) (hm : MtR X id (loM r)) (ho : QE X o to) (ha : QA X (e :: es) t)
    (hbase : attributeBase o name X.env (eval o X.env) = eval o X.env := by rfl)
    (hfew : ((backTo cpos (starEach (e :: es) X.env)).all (fun x => !x.1) && (backToKw cpos (keywordEach [] X.env)).all (fun x => x.1.isSome) && decide ((e :: es).length + ([] : List Keyword).length + (if ([] : List Keyword).isEmpty then 0 else 1) < 30)) = true := by rfl)
    (hline : (apos.endLine == cpos.line) = true := by rfl) (hs : starEach (e :: es) X.env = (false, eval e X.env) :: starEach es X.env := by rfl) (hplain : (backTo cpos (starEach es X.env)).any (·.1) = false := by rfl) :
    QE X (.Call (.Attribute o name apos) (e :: es) [] cpos) (dBM ty r to t) :=
  ⟨peW (pe_bm pa slot hty hm ho.run ha.run hbase hfew hline hs hplain) fun σ H Q ⟨T, DH, τ, R, A, S, h, u⟩ => ⟨T, DH, τ, _, A, S, h, fun T1 DH1 H1 x v s1 A1 r1 h1 => ⟨ofTy_rep A1 r1 h1.1, T1, DH1, τ, _, A1, S.up s1, h1.2, fun T2 DH2 H2 xs vs s2 A2 r2 h2 => ⟨T2, DH2, x, xs, R, A2, r1.up s2, r2, h2, u.up (s1.trans s2)⟩⟩⟩⟩
/-- a list that may be changed -/
def onLst (H : DHp) (x : D) (k : Addr → List D → Prop) : Prop := match x with
  | .ref p => (match H p with | some (.lst xs) => k p xs | _ => False)
  | _ => False
theorem onLst_rep (A : Abs T DH H) {x : D} {v : V} {k : Addr → List D → Prop} (r : RepV T x v) (h : onLst DH x k) : ∃ p xs vs, x = .ref p ∧ v = .ref p ∧ DH p = some (.lst xs) ∧ H p = some (.lst vs) ∧ RepL T xs vs ∧ k p xs := by
  cases x with
  | ref p =>
    unfold onLst at h
    simp only at h
    split at h
    · rename_i xs e
      obtain ⟨vs, g, q⟩ := A.lst e
      exact ⟨p, xs, vs, rfl, r, e, g, q, h⟩
    · exact h.elim
  | _ => exact (show False from h).elim
def mAppend : D → List D → DHp → DK → Prop := fun x ds H Q => onLst H x fun p xs => match ds with
  | [d] => xs.length < sizeLine ∧ Q .non (dupd H p (.lst (xs ++ [d])))
  | _ => False
theorem md_append : MtR X "list.append" (loM mAppend) := mtrW (mt_append (X := X)) fun v vs H Q ⟨T, DH, x, ds, R, A, r1, r2, h, w⟩ => by
  obtain ⟨p, xs, us, rfl, rfl, e, g, q, h⟩ := onLst_rep A r1 h
  split at h
  · obtain ⟨u, rfl, ru⟩ := r2.one
    exact ⟨p, us, u, rfl, rfl, g, by rw [q.length]; exact h.1, w T _ _ .non _ (Same.refl _) (A.put (x := .lst (xs ++ [_])) e (by simp) ⟨_, rfl, q.append (.cons ru .nil)⟩) rfl h.2⟩
  · exact h.elim
def mPop : D → List D → DHp → DK → Prop := fun x ds H Q => onLst H x fun p xs => match ds with
  | [] => (match xs[xs.length - 1]? with | some d => Q d (dupd H p (.lst xs.dropLast)) | none => False)
  | [.int i] => (-(2 ^ 63) ≤ i ∧ i < 2 ^ 63) ∧ (match ixN xs.length i with | some j => (match xs[j]? with | some d => Q d (dupd H p (.lst (xs.eraseIdx j))) | none => False) | none => False)
  | _ => False
theorem md_pop : MtR X "list.pop" (loM mPop) := mtrW (MtR.or (mt_pop (X := X)) (mt_popAt (X := X))) fun v vs H Q ⟨T, DH, x, ds, R, A, r1, r2, h, w⟩ => by
  obtain ⟨p, xs, us, rfl, rfl, e, g, q, h⟩ := onLst_rep A r1 h
  split at h
  · split at h
    · rename_i d ed
      obtain ⟨u, eu, ru⟩ := q.get ed
      cases (show vs = [] from r2)
      exact .inl ⟨p, us, u, rfl, rfl, g, by rw [q.length]; exact eu, w T _ _ d _ (Same.refl _) (A.put (x := .lst xs.dropLast) e (by simp) ⟨_, rfl, q.dropLast⟩) ru h⟩
    · exact h.elim
  · rename_i i _
    obtain ⟨hb, h⟩ := h
    split at h
    · rename_i j ej
      split at h
      · rename_i d ed
        obtain ⟨u, eu, ru⟩ := q.get ed
        obtain ⟨z, rfl, rz⟩ := r2.one
        cases (show z = .int i from rz)
        have ej' : ixN us.length i = some j := by rw [q.length]; exact ej
        exact .inr ⟨p, us, i, j, u, rfl, rfl, g, hb.1, hb.2, (ixN_seq ej').1, eu, w T _ _ d _ (Same.refl _) (A.put (x := .lst (xs.eraseIdx j)) e (by simp) ⟨_, rfl, q.eraseIdx j⟩) ru h⟩
      · exact h.elim
    · exact h.elim
  · exact h.elim
end
end DL

/-! DL7: the text of a value; defs that ask for it; the end of a law; the script. -/
namespace DL
open PySem PySem.Spec PyProof.Rows L2

/-! ### repr -/
/-- a value whose text may be told -/
def showOk (d : D) : Prop := d.plain = true ∧ d.dep ≤ 60 ∧ d.py.showable = true ∧ d.py.shown.length ≤ sizeLine
def rReprD : DRC := fun ds H Q => match ds with
  | [d] => showOk (peek H d) ∧ Q (.str (peek H d).py.shown) H
  | _ => False
section
variable {X : Cx} {T : Hp} {DH : DHp} {H : Hp} {a b c e : Expr} {es : List Expr} {ta tb tc te : DE} {t : DA} {pos : Pos}
theorem cd_repr (hg : X.A.guards = some []) (hu : X.A.units + 64 < cLine) : CallR X (.builtin "repr") (loC rReprD) := by
  intro pins s σ H xs us Q I rv ⟨T, DH, ds, R, A, r, h, w⟩
  match ds, r, h with
  | [d], r, h =>
    obtain ⟨v, rfl, rr⟩ := r.one
    obtain ⟨u, rfl, ru⟩ := vals1 rv
    obtain ⟨⟨h1, h2, h3, h4⟩, h5⟩ := h
    have hd := peek_dp (K := X.K) A rr h1
    obtain ⟨as, rd⟩ := Dp.reads I _ v u hd ru
    obtain ⟨l1, l2⟩ := plain_lay _ h1
    have hnd := PyData.hasDict_of_canLay _ l1
    have fin : ∀ (h' : Heap) (tk : Tok) (tk' : Nat), (∀ b o, s.heap.get? b = some o → h'.get? b = some o) → EP X pins σ Q (.str (peek DH d).py.shown tk) { s with heap := h', toks := tk' } := fun h' tk tk' k =>
      ⟨.str _, H, I.kept k, ⟨_, rfl⟩, w.str A h5⟩
    generalize hp : (peek DH d).py = pd at *
    cases pd with
    | none =>
      cases rd
      exact PySem.P.repr_of_none (fin s.heap _ _ fun _ _ e => e)
    | bool k =>
      cases rd
      have := fin s.heap s.toks (s.toks + 1) fun _ _ e => e
      refine PySem.P.repr_of_bool ?_
      cases k <;> exact this
    | int i =>
      cases rd
      exact PySem.P.repr_of_int (by simpa [PyData.showable] using h3) (fin s.heap _ _ fun _ _ e => e)
    | str z =>
      cases rd
      exact PySem.P.repr_of_str (fin s.heap _ _ fun _ _ e => e) h4
    | list zs =>
      cases rd with
      | list a1 a2 a3 a4 =>
        exact repr_of_reads' (.list a1 a2 a3 a4) h3 (PyData.noDict_hsm hnd) hg (by rw [l2]; omega) (fun _ _ e => e) (fun h' u tk k => fin h' u tk k) h4
    | tuple zs =>
      cases rd with
      | tuple a1 a2 a3 a4 =>
        exact repr_of_reads' (.tuple a1 a2 a3 a4) h3 (PyData.noDict_hsm hnd) hg (by rw [l2]; omega) (fun _ _ e => e) (fun h' u tk k => fin h' u tk k) h4
    | dict kvs => simp [PyData.canLay0] at l1
  | [], _, h => exact (show False from h).elim
  | _ :: _ :: _, _, h => exact (show False from h).elim
/-- != of two texts -/
def rNeS : DR2 := fun x y H Q => match x, y with
  | .str a, .str b => Q (.bl (!(a == b))) H
  | _, _ => False
theorem od_neS : OpR X (compareOp .NotEq) (lo2 rNeS) := oprW (op_ne (X := X)) fun v u H Q ⟨T, DH, x, y, R, A, r1, r2, h, w⟩ => by
  unfold rNeS at h
  split at h
  · rename_i a b
    cases (show v = .str a from r1)
    cases (show u = .str b from r2)
    refine ⟨rfl, ?_⟩
    rw [dec_str]
    exact w.bl A h
  · exact h.elim
def rEqS : DR2 := fun x y H Q => match x, y with
  | .str a, .str b => Q (.bl (a == b)) H
  | _, _ => False
theorem od_eqS : OpR X (compareOp .Eq) (lo2 rEqS) := oprW (op_eq (X := X)) fun v u H Q ⟨T, DH, x, y, R, A, r1, r2, h, w⟩ => by
  unfold rEqS at h
  split at h
  · rename_i a b
    cases (show v = .str a from r1)
    cases (show u = .str b from r2)
    refine ⟨rfl, ?_⟩
    rw [dec_str]
    exact w.bl A h
  · exact h.elim

/-! ### the script -/
/-- a list of the written part -/
def KL (K : PySem.W.Frag) (a : Addr) (xs : List V) : Prop := ∃ (o : Obj) (its : Array Value) (n : Nat), K.lookup a = some o ∧ o.cls = .type "list" ∧ o.dict = none ∧ o.data = .seq its n ∧ its.size ≤ sizeLine ∧ Vals xs its.toList
def ScrAt (K : PySem.W.Frag) (DH : DHp) (a : Addr) (ns : List Int) : Prop := DH a = some (.scr (ns.map D.int)) ∨ KL K a (ns.map V.int)
theorem ScrAt.seq {K : PySem.W.Frag} {ns : List Int} {p : Addr} (A : Abs T DH H) (h : ScrAt K DH p ns) : SqL K H p (ns.map V.int) := by
  rcases h with h | h
  · obtain ⟨ob, vs, g, q⟩ := A.scr h
    rw [RepL.ints_inv q] at g
    exact .inl (.inr ⟨ob, g⟩)
  · exact .inr h
def dIScr (K : PySem.W.Frag) (te : DE) : DI := fun τ H R => te τ H fun x H1 => ∃ p ns, x = .ref p ∧ ScrAt K H1 p ns ∧ R (ns.map D.int) (fun H' => ScrAt K H' p ns) H1
theorem qi_scr {tg : Expr} (he : QE X e te) : QI X tg e (dIScr X.K te) := ⟨piW (pi_list he.run) fun σ H R ⟨T, DH, τ, RD, A, S, h, u⟩ => ⟨T, DH, τ, _, A, S, h, fun T1 DH1 H1 x v s1 A1 r1 h1 => by
  obtain ⟨p, ns, rfl, hs, h1⟩ := h1
  refine ⟨p, r1, ⟨_, hs.seq A1⟩, u T1 DH1 H1 _ _ _ s1 A1 (wk_list (RepL.ints ns) fun T' DH' H' s A' o => ScrAt.seq A' o) h1⟩⟩⟩
end

/-! ### defs that ask for the text of a value: nothing is being told around them -/
structure FnG (P : Program) (w : World) (K : PySem.W.Frag) (mg : Str → Option Value) (base : Heap) (k : Nat) (f : Addr) (ps : List Str) (fd : FuncData) (sp : Sp) : Prop where
  many : ∀ vs H Q E, sp vs H Q E → vs.length = ps.length
  goes : ∀ (A : Around) (outer : List Env) (s : Shared) (H : Hp) (args : Args) (us : List Value) (vs : List V) (Q : VK) (E : XK), A.guards = some [] → Room k A → Env0 P w K mg base A outer s H →
    BindsTo s fd args (ps.zip us) → Vals vs us → sp vs H Q E → codeAny (model P w) A (.call (.ref f) args) (CR CX0 outer P w H s Q E) s
section
variable {P : Program} {w : World} {K : PySem.W.Frag} {mg : Str → Option Value} {base : Heap}
theorem FnG.of {k : Nat} {f : Addr} {fd : FuncData} {ps : List Str} {sp : Sp} (F : FnOk P w K mg base CX0 k f fd ps sp) : FnG P w K mg base k f ps fd sp :=
  ⟨F.len, fun A outer s H args us vs Q E _ hr e0 hb r h => F.run A outer s H args us vs Q E hr e0 hb r h⟩
/-- by its body -/
theorem gok {x qual : Str} {st : Stmt} {f : Addr} {fd : FuncData} {N ps : List Str} {k : Nat} {sp : DSp} (F : Fun K x qual st f fd) (S : FnScope N ps (defScope st)) (len : ∀ ds H Q, sp ds H Q → ds.length = ps.length)
    (hbody : ∀ (cdv : Value) (A : Around) (outer : List Env) (s : Shared) (H : Hp) (ds : List D) (DH : DHp) (Q : DK), A.guards = some [] → Room k (A.deeper (envOfC qual (defScope st) s.heap.objs.size f cdv)) → sp ds DH Q →
      ∃ t, QSs (cxOf CX0 P w K mg base N qual (defScope st) f cdv A outer s H E0).nox (defBody st) t ∧ t (bodyE Q) (dstart N ds) DH) : FnG P w K mg base (k + 1) f ps fd (loP sp) := by
  have lenV : ∀ vs H Q E, loP sp vs H Q E → vs.length = ps.length := fun vs H Q E ⟨T, DH, ds, R, A, r, h, u⟩ => by rw [r.length]; exact len _ _ _ h
  refine ⟨lenV, fun A outer s H args us vs Q E hgd hr e0 hb r hsp => ?_⟩
  obtain ⟨oc, od, kV, doc, pm, an, cdv, ct, osl, rfl, lk, hcd⟩ := F.ex
  have many := lenV _ _ _ _ hsp
  have inBase : ∀ b o, base.get? b = some o → s.heap.get? b = some o := fun b o e => (e0.bs b o e).1
  have KX := e0.mod.kin.keeps inBase
  refine codeAny_call_function hr.depth (KX _ _ lk) rfl S.co S.gen rfl (PySem.W.codeRec_of KX hcd) (hb _ _ _ _ (wpAny_newFunctionEnv_cells S.kind (fun y hy => ?_) fun env he s1 x => ?_))
  · obtain ⟨n, z⟩ := y
    rcases S.par n (List.of_mem_zip hy).1 with q | q
    · exact .inl q
    · exact .inr ⟨q, PySem.W.cellsFrom_some _ _ _ (.inl q)⟩
  · subst he
    refine ⟨(e0.mod.nolimit.keeps inBase).keeps x.toInCall.keep, codeAny_func ?_⟩
    have I0 := inv_start (CX := CX0) (mg := mg) (cd := cdv) (f := f) (qual := qual) (E := E) S hr.hd e0 many r x
    obtain ⟨T, DH, ds, R, AA, rr, h, u⟩ := hsp
    obtain ⟨t, ht, hq⟩ := hbody cdv A outer s H ds DH R hgd (hr.deeper _) h
    have body := ht.run.nox.run [] s1 (L2.start N vs) H { nx := fun _ H' => Q .non H', rt := Q } I0 ⟨T, DH, dstart N ds, bodyE R, AA, start_rep rr, hq, ⟨fun T1 DH1 H1 τ1 σ1 q1 A1 S1 h1 => ?_, fun T1 DH1 H1 d v q1 A1 r1 h1 => ?_, fun _ _ _ _ _ _ _ _ h1 => h1, fun _ _ _ _ _ _ _ _ h1 => h1⟩⟩
    · refine wpAny_mono body (fun fl s' hs => ?_) fun e s' hs => hs
      cases fl with
      | ret z =>
        obtain ⟨v, σ', H', J, rv, q⟩ := hs
        exact ⟨v, H', J.os, J.bare, J.base, J.hok, rv, q⟩
      | next =>
        obtain ⟨σ', H', J, q⟩ := hs
        exact ⟨.non, H', J.os, J.bare, J.base, J.hok, rfl, q⟩
      | brk => exact (show False from hs.elim fun _ z => z.elim fun _ z => z.2).elim
      | cont => exact (show False from hs.elim fun _ z => z.elim fun _ z => z.2).elim
    · obtain ⟨H2, hs, h1⟩ := h1
      exact u T1 H2 H1 .non _ q1 (A1.drop hs) rfl h1
    · obtain ⟨H2, hs, h1⟩ := h1
      exact u T1 H2 H1 d v q1 (A1.drop hs) r1 h1
/-- its call -/
theorem qe_callG {X : Cx} {e : Expr} {es : List Expr} {t : DA} {x : Str} {p pos : Pos} {k : Nat} {f : Addr} {fd : FuncData} {ps : List Str} {sp : DSp} (F : FnG X.prog X.w X.K X.mg X.base k f ps fd (loP sp)) (hgd : X.A.guards = some []) (hr : Room k X.A) (hg : Gl X x) (hm : X.mg x = some (.ref f)) (hk : PySem.W.keepIn X.K (.ref f) = true) (hb : Binds X.K fd ps [])
    (ha : QA X (e :: es) t) (hdb : (x == ("__debug__" : Str)) = false := by decide) (he : starEach (e :: es) X.env = (false, eval e X.env) :: starEach es X.env := by rfl) (hpl : (backTo pos (starEach es X.env)).any (·.1) = false := by rfl) :
    QE X (.Call (.Name x p) (e :: es) [] pos) (dCB sp t) := by
  have raw : PE X (.Call (.Name x p) (e :: es) [] pos) (tCall (loP sp) [] E0 (loA t)) := by
    refine ⟨fun pins s σ H Q I h => wpAny_Call_Name_kw (ld_glob I hg hm (PySem.W.callWith_K (h₀ := X.base) I.ok.mod.kin hk (thn (ha.run.run pos pins s σ H _ I h) fun us s1 ⟨vs, H1, I1, r, q⟩ => ⟨I1.kIn, ?_⟩) he hpl) hdb)⟩
    have q : loP sp (vs ++ []) H1 Q E0 := q
    rw [List.append_nil] at q
    have hl : (us ++ []).length = ps.length := by rw [List.append_nil, ← r.length]; exact F.many _ _ _ _ q
    have hb2 := hb s1 us I1.kIn hl
    rw [List.append_nil] at hb2
    refine wpAny_call (codeAny_mono (F.goes X.A X.stack s1 H1 _ us vs Q E0 hgd hr I1.env0 hb2 r q) fun r' s' hq => ?_)
    cases r' with
    | error e => exact (show False from hq).elim
    | ok fl =>
      cases fl with
      | ret u => exact I1.after hq
      | next => exact (show False from hq).elim
      | brk => exact (show False from hq).elim
      | cont => exact (show False from hq).elim
  exact ⟨peW raw fun σ H Q ⟨T, DH, τ, R, A, S, h, u⟩ => ⟨T, DH, τ, _, A, S, h, fun T1 DH1 H1 xs vs s1 A1 r1 h1 => ⟨T1, DH1, xs, R, A1, by rw [List.append_nil]; exact r1, h1, u.up s1⟩⟩⟩

/-! ### the end of a law -/
/-- what a law promises -/
def spLaw (K : PySem.W.Frag) : DSp := fun ds DH Q => ∃ a ns, ds = [.ref a] ∧ ns.length ≤ 63 ∧ ScrAt K DH a ns ∧ ∀ DH', Q (.bl true) DH'
theorem spLaw_at {K : PySem.W.Frag} {H : Hp} {a : Addr} {ns : List Int} (hl : ns.length ≤ 63) (hO : Only H) (hS : SqL K H a (ns.map V.int)) : loP (spLaw K) [.ref a] H (fun v _ => v = .bl true) E0 := by
  have u : Up (fun _ => none) (fun d _ => d = .bl true) (fun v _ => v = V.bl true) := fun T' DH H' d v _ _ r e => by subst e; exact r
  rcases hS with hS | hS
  · have hf : ∃ o, H a = some (.frz o (.lst (ns.map V.int))) := by
      rcases hO a with z | ⟨o, xs, z⟩
      · rcases hS with q | ⟨o, q⟩ <;> (rw [z] at q; cases q)
      · rcases hS with q | ⟨o', q⟩
        · rw [z] at q; cases q
        · exact ⟨o', q⟩
    obtain ⟨o, hf⟩ := hf
    refine ⟨fun _ => none, fun b => if b = a then some (.scr (ns.map D.int)) else none, [.ref a], _, ⟨fun _ => none, fun _ _ e => (by cases e), fun b x e => ?_, fun _ _ e => (by cases e)⟩, .cons rfl .nil, ⟨a, ns, rfl, hl, .inl (if_pos rfl), fun _ => rfl⟩, u⟩
    by_cases q : b = a
    · rw [if_pos q] at e; cases e; subst q
      exact ⟨rfl, fun z => (by cases z), fun _ => ⟨_, hf, o, _, rfl, RepL.ints _⟩⟩
    · rw [if_neg q] at e; cases e
  · exact ⟨fun _ => none, fun _ => none, [.ref a], _, ⟨fun _ => none, fun _ _ e => (by cases e), fun _ _ e => (by cases e), fun _ _ e => (by cases e)⟩, .cons rfl .nil, ⟨a, ns, rfl, hl, .inr hS, fun _ => rfl⟩, u⟩
/-- the law's own call, behind the top -/
theorem law_runs {mb : Str → Option Value} {k : Nat} {fa a : Addr} {fd : FuncData} {x : Str} {s₁ : Shared} {vs : List Value} {ns : List Int} (KX : K.In s₁.heap) (hns : s₁.heap.Ns mainGlobals mg) (hb : s₁.heap.Ns builtinsNs mb) (hbb : ∀ x : Str, x ≠ "__name__" → mb x = bootBuiltins x) (hlim : s₁.heap.NoLimit) (hg : s₁.gens = #[])
    (ha : s₁.heap.get? a = some { cls := .type "list", data := .seq vs.toArray }) (hi : IntsAre vs ns) (hl : ns.length ≤ 63) (hr : Room k callerA) (F : ∀ base : Heap, K.In base → base.Ns mainGlobals mg → FnG P w K mg base k fa [x] fd (loP (spLaw K))) (hbind : ∀ (s : Shared) (u : Value), BindsTo s fd ⟨[u], []⟩ [(x, u)]) :
    codeAny (model P w) callerA (.call (.ref fa) ⟨[.ref a], []⟩) (fun r s' => r = .ok (.ret (.bool true)) ∧ OldK s₁.heap s'.heap ∧ s'.os = s₁.os ∧ AllBare s'.gens) s₁ := by
  have rv := vals_ints hi
  have hlen := hi.length
  have z63 : ns.length ≤ sizeLine := by rw [sizeLine_eq]; omega
  have main : ∀ H : Hp, Only H → SqL K H a (ns.map V.int) → HOk P w H s₁.heap → (∀ b, H b ≠ none → b = a) → (H a ≠ none → K.lookup a = none) → codeAny (model P w) callerA (.call (.ref fa) ⟨[.ref a], []⟩) (fun r s' => r = .ok (.ret (.bool true)) ∧ OldK s₁.heap s'.heap ∧ s'.os = s₁.os ∧ AllBare s'.gens) s₁ := by
    intro H hO hS hok only notK
    have isA : ∀ {b : Addr} {u : HO}, H b = some u → b = a := fun {b u} q => only b (by rw [q]; simp)
    have ofDict : ∀ {b : Addr} {o : Obj} {es : Array DictEntry} {ep : Nat}, s₁.heap.get? b = some o → o.data = .dict es ep → H b = none := fun {b o es ep} e d => by
      cases q : H b with
      | none => rfl
      | some u => rw [isA q, ha] at e; cases e; cases (show Data.seq vs.toArray _ = Data.dict es ep from d)
    have ofNs : ∀ {b : Addr} {m : Str → Option Value}, s₁.heap.Ns b m → (hidT s₁.heap H).Ns b m := fun {b m} z => by
      obtain ⟨o, es, ep, e, d, r⟩ := z
      exact ⟨o, es, ep, hidT_get e (ofDict e d), d, r⟩
    have KB : K.In (hidT s₁.heap H) := fun b o e => hidT_get (KX b o e) (by
      cases q : H b with
      | none => rfl
      | some u =>
        have eb := isA q
        subst eb
        rw [notK (by rw [q]; simp)] at e; cases e)
    obtain ⟨mc, c1, c2⟩ := hlim
    have e0 : Env0 P w K mg (hidT s₁.heap H) callerA [] s₁ H := ⟨rfl, ⟨KB, ofNs hns, ⟨mb, ofNs hb, hbb⟩, mc, ofNs c1, c2⟩, fun b o e => of_hidT e, Nat.le_of_eq (hidT_size _ _), trivial, fun b hb => absurd (show b ∈ ([] : List Addr) from hb) (by simp), hok, .of_eq hg⟩
    refine codeAny_mono ((F _ KB (ofNs hns)).goes callerA [] s₁ H ⟨[.ref a], []⟩ [.ref a] [.ref a] _ _ rfl hr e0 (hbind s₁ (.ref a)) (.cons rfl .nil) (spLaw_at hl hO hS)) fun r s' h => ?_
    cases r with
    | error e => exact (show False from h).elim
    | ok fl =>
      cases fl with
      | next => exact (show False from h).elim
      | brk => exact (show False from h).elim
      | cont => exact (show False from h).elim
      | ret u =>
        obtain ⟨v, H', os, bare, un, hok', r', q⟩ := h
        have q' : v = .bl true := q
        subst q'
        obtain rfl : u = Value.bool true := r'
        refine ⟨rfl, OldK.of_keep fun b o e => ?_, os, bare⟩
        cases q : H b with
        | none => exact un.keep b o e q (by simp [frs]) (by simp)
        | some u =>
          rcases hO b with z | ⟨ob, xs, z⟩
          · rw [q] at z; cases z
          · have f1 := (hok b _ z).1
            have f2 := (hok' b _ (un.frzs b ob _ z)).1
            rw [e] at f1; cases f1
            exact f2
  cases hk : K.lookup a with
  | some o =>
    have e := KX a o hk
    rw [ha] at e
    cases e
    exact main (fun _ => none) (fun _ => .inl rfl) (.inr ⟨_, vs.toArray, _, hk, rfl, rfl, rfl, by rw [List.size_toArray, hlen]; exact z63, by simpa using rv⟩) (fun b u z => (by cases z)) (fun b z => absurd rfl z) fun z => absurd rfl z
  | none =>
    have at' : ∀ {b : Addr} {u : HO}, (if b = a then some (HO.frz { cls := .type "list", data := .seq vs.toArray } (.lst (ns.map V.int))) else none) = some u → b = a ∧ u = .frz { cls := .type "list", data := .seq vs.toArray } (.lst (ns.map V.int)) := fun {b u} z => by
      by_cases q : b = a
      · rw [if_pos q] at z; cases z; exact ⟨q, rfl⟩
      · rw [if_neg q] at z; cases z
    refine main (fun b => if b = a then some (.frz { cls := .type "list", data := .seq vs.toArray } (.lst (ns.map V.int))) else none) (fun b => ?_) (.inl (.inr ⟨_, if_pos rfl⟩)) (fun b u z => ?_) (fun b z => ?_) fun _ => hk
    · by_cases q : b = a
      · exact .inr ⟨_, _, if_pos q⟩
      · exact .inl (if_neg q)
    · obtain ⟨rfl, rfl⟩ := at' z
      exact ⟨ha, by rw [List.length_map]; exact z63, vs, _, rv, ha⟩
    · by_cases q : b = a
      · exact q
      · exact absurd (if_neg q) z
/-- what k_head leaves -/
theorem law_end {l : PySem.W.OpenLaw} {k : Nat} {q : Program} {loose : List Str} {XP : (Str → Option Value) → Heap → Prop} {YP : World → Heap → Prop} {d : DefRec} {K : Params → PySem.W.Frag} {x : Str} (hn : l.most = some 63) (hdf : d.params.defaults = []) (hr : Room k callerA)
    (hY : ∀ (w : World) (h : Heap), YP w h → (K w.params).In h) (F : ∀ (w : World) (mg : Str → Option Value) (fa : Addr) (h : Heap), (K w.params).In h → h.Ns mainGlobals mg → mg d.name = some (.ref fa) →
      ∃ fd : FuncData, (∀ (s : Shared) (u : Value), BindsTo s fd ⟨[u], []⟩ [(x, u)]) ∧ ∀ base : Heap, (K w.params).In base → base.Ns mainGlobals mg → FnG l.prog w (K w.params) mg base k fa [x] fd (loP (spLaw (K w.params)))) :
    PySem.W.WalkO q loose XP YP l.row.toRowW d [] (fun f vs => PySem.call f vs) := by
  refine Att.attach_call hn hdf fun w s₀ s₁ mg mb fa o pm cd doc a vs ns G Y ho hd hcd hmg hobj hints hlen hg => ?_
  obtain ⟨fd, hb, hF⟩ := F w mg fa _ (hY w _ Y) G.T.g hmg
  exact law_runs (hY w _ Y) G.T.g G.T.b G.T.builtins G.T.nolimit hg hobj hints hlen hr hF hb
end
end DL

/-! DL8: enumerate and zip over data; names of readings; promises of defs at a top. -/
namespace DL
open PySem PySem.Spec PyProof.Rows L2

/-! ### enumerate of a tuple -/
set_option maxHeartbeats 1000000 in
theorem en_meets {v : Value} {ob : Obj} {Z : Heap → Prop} (B : Begins v ob Z) :
    Meets (Builtin.«enumerate.__new__» ⟨[.type "enumerate", v], []⟩) (fun _ R s =>
      Z s.heap ∧ R (.ok (.ret (.ref (s.heap.push ob).objs.size)))
        { s with heap := (s.heap.push ob).push { cls := .type "enumerate", data := .fields #[.none, .bool false, .ref s.heap.objs.size, rawInt 0, .none, .none] } }) :=
  .of_wp fun prog w A R s h => by
    obtain ⟨hp, gn, dd, tk, os⟩ := s
    obtain ⟨hz, h⟩ := h
    have isub := sub_enumerate
    have go : ∀ {A' : Around} {E : Value → Shared → Prop} {Q : Value → Shared → Prop}, Q (.ref hp.objs.size) ⟨hp.push ob, gn, dd, tk, os⟩ →
        wpAny (model prog w) A' (pyIter v) Q E ⟨hp, gn, dd, tk, os⟩ := fun q => B.iter prog w _ _ ⟨hp, gn, dd, tk, os⟩ _ hz q
    wp_walk using go
    refine wpAny_stack_any fun _ => wpAny_pure ?_
    split
    · rename_i kk _ _ _ _ _
      cases (kk == Value.type "enumerate") <;>
      · wp_walk using go
        exact ⟨_, rfl, h⟩
    · wp_walk using go
      exact ⟨_, rfl, h⟩
section
variable {prog : Program} {w : World} {A : Around} {E : Value → Shared → Prop} {s : Shared}
theorem en_new {v : Value} {ob : Obj} {Z : Heap → Prop} {Q : Value → Shared → Prop} (B : Begins v ob Z) (hz : Z s.heap)
    (k : ∀ hx, IsEnum hx (s.heap.objs.size + 1) s.heap.objs.size 0 .none → hx.get? s.heap.objs.size = some ob →
      (∀ b o, s.heap.get? b = some o → hx.get? b = some o) → Q (.ref (s.heap.objs.size + 1)) { s with heap := hx }) :
    wpAny (model prog w) A (call (.type "enumerate") [v]) Q E s := by
  refine callType_new F.called_enumerate (by decide) (F.typeCall_enumerate_1 _) (F.newCall_enumerate_1 _) (fun obj => F.args_object_init_2 obj _)
    F.entry_enumerate_new (en_meets B) ⟨hz, ?_⟩
  have sz : (s.heap.push ob).objs.size = s.heap.objs.size + 1 := Heap.size_push ..
  show _ ∧ _
  rw [sz]
  have made : IsEnum ((s.heap.push ob).push { cls := .type "enumerate", data := .fields #[.none, .bool false, .ref s.heap.objs.size, rawInt 0, .none, .none] })
      (s.heap.objs.size + 1) s.heap.objs.size 0 .none := by
    have z := Heap.get?_push_size (s.heap.push ob) (o := { cls := .type "enumerate", data := .fields #[.none, .bool false, .ref s.heap.objs.size, rawInt 0, .none, .none] }) rfl
    rw [sz] at z
    exact z
  exact ⟨⟨_, made, rfl⟩, k _ made (Heap.get?_push_of_some _ (Heap.get?_push_size _ B.free)) fun b o z => Heap.get?_push_of_some _ (Heap.get?_push_of_some _ z)⟩
end
/-- the tuple at a, each item in a new pair with its index -/
def ItnT (K : PySem.W.Frag) (a : Addr) : It where
  go i H := ∃ (xs : List V) (x : V), SqT K H a xs ∧ xs[i]? = some x
  yld i H v H' := ∃ q x, v = .ref q ∧ H q = none ∧ H' = upd H q (.tup [.int (i : Nat), x]) ∧ ∀ xs, SqT K H a xs → xs[i]? = some x
  stop i H := ∃ xs : List V, SqT K H a xs ∧ xs.length = i
theorem turn_enT {P : Program} {w : World} {K : PySem.W.Frag} {tgs : List Expr} {kk : Nat} {tpos : Pos} {a e it : Addr} (ne : e ≠ it) (na : e ≠ a) (nt : a ≠ it) :
    Turn P w K (.Tuple tgs kk tpos) (ItnT K a) [e, it] e (fun i h => (∃ old, IsEnum h e it ((i : Nat) : Int) old) ∧ h.IsTupleIter it a i) where
  mem := by simp
  obj := fun i h ⟨⟨_, he⟩, o, ho, _, hd⟩ b hb => by
    rcases (by simpa using hb : b = e ∨ b = it) with rfl | rfl
    · exact ⟨_, he, fun v q => nomatch q⟩
    · exact ⟨o, ho, fun v q => by rw [hd] at q; cases q⟩
  keep := fun i h h' ⟨⟨old, he⟩, ht⟩ k => ⟨⟨old, k e (by simp) _ he⟩, ht.at fun o q => k it (by simp) o q⟩
  item := by
    rintro X rfl rfl rfl hc i pins s σ H E I hf ⟨⟨old, he⟩, ht⟩ ⟨xs, x, hq, hx⟩
    obtain ⟨its, rv, p, hz⟩ := I.tuple hq
    obtain ⟨u, hu, ru⟩ := rv.get hx
    have le : e < s.heap.objs.size := Heap.lt_size he
    have li : it < s.heap.objs.size := by obtain ⟨_, q, _⟩ := ht; exact Heap.lt_size q
    have hlt : i < its.toArray.size := by
      have := (List.getElem?_eq_some_iff.mp hu).1
      simpa using this
    refine wpAny_pyNext_enum_itemD (D := Draws.tuple (A := X.A.in1) (show X.A.in1.handled = none from I.ok.hd hc) it a nt its.toArray) he ⟨ht, show s.heap.IsTuple a its.toArray from p⟩ hlt ne (by simp [ne, na]) fun y hy tk py out st hT hsz hk => ?_
    have ey : y = u := by
      have py' : its.toArray[i]? = some y := py
      rw [List.getElem?_toArray, hu] at py'
      exact (Option.some.inj py').symm
    subst ey
    refine ⟨_, rfl, wpAny_letOwnedTupleGo_enum (s := { s with heap := hy, toks := tk + 1 }) out fun h2 he2 sb => ?_⟩
    have hT2 : h2.get? s.heap.objs.size = some { cls := .type "tuple", data := .seq #[.int i tk, y] } := (sb.2 _ (Nat.ne_of_gt le)).trans hT
    have new : ObjOk X.prog X.w (upd H s.heap.objs.size (.tup [.int (i : Nat), x])) h2 s.heap.objs.size (.tup [.int (i : Nat), x]) :=
      ⟨by show 2 ≤ sizeLine; decide, [.int i tk, y], .cons ⟨_, rfl⟩ (.cons ru .nil), ⟨_, hT2, rfl, _, rfl⟩⟩
    have J : Inv X pins σ (upd H s.heap.objs.size (.tup [.int (i : Nat), x])) { s with heap := h2, toks := tk + 1 } :=
      I.turnedNew (ch := [e, it]) (fun b ob hb q => (sb.2 b (fun z => hb (by simp [z]))).trans (hk b ob (fun z => hb (by simp [z])) (fun z => hb (by simp [z])) q)) hf (Nat.le_refl _) new
    refine ⟨.ref s.heap.objs.size, _, J, rfl, ⟨_, x, rfl, I.hok.fresh (Nat.le_refl _), rfl, fun ys hy => by rw [I.tuple_inj hy hq]; exact hx⟩, ⟨⟨y, ?_⟩, ?_⟩, fun b hb => ?_⟩
    · have e1 : ((i + 1 : Nat) : Int) = (i : Int) + 1 := by omega
      rw [e1]
      exact he2
    · exact st.1.at fun o q => (sb.2 it (Ne.symm ne)).trans q
    · have lb : b < s.heap.objs.size := by
        rcases (by simpa using hb : b = e ∨ b = it) with rfl | rfl
        · exact le
        · exact li
      rw [upd_ne (Nat.ne_of_lt lb)]
      exact (hf b hb).1
  done := by
    rintro X rfl rfl rfl hc i pins s σ H E I hf ⟨⟨old, he⟩, ht⟩ ⟨xs, hq, hx⟩
    obtain ⟨its, rv, p, hz⟩ := I.tuple hq
    have hl := rv.length
    obtain ⟨f0, f1, f2, f3, f4, f5⟩ := hf it (by simp)
    have hn : its.toArray.size = i := by simp; omega
    refine wpAny_pyNext_enum_endD (D := Draws.tuple (A := X.A.in1) (show X.A.in1.handled = none from I.ok.hd hc) it a nt its.toArray) he ⟨by rw [hn]; exact ht, show s.heap.IsTuple a its.toArray from p⟩ fun hx eb => ?_
    exact ⟨rfl, I.turned (t' := s.toks) (fun b o hb q => eb b o hb q) f0 f1 f3 f4 f5⟩
  self := fun A i s Q E ⟨⟨_, he⟩, _⟩ h => wpAny_pyIter_enum he h
def iEnA (K : PySem.W.Frag) (ta : TA) : TI := fun σ H R => ta σ H fun vs H1 => ∃ a xs, vs = [.ref a] ∧ ((SqL K H1 a xs ∧ R (Ite K a) H1) ∨ (SqT K H1 a xs ∧ R (ItnT K a) H1))
theorem pi_enA {X : Cx} {e : Expr} {ta : TA} {p pos tpos : Pos} {tgs : List Expr} {kk : Nat} (hg : Gl X "enumerate") (hm : X.mg "enumerate" = none) (ha : PA X [e] ta) (one : starEach [e] X.env = [(false, eval e X.env)] := by rfl) :
    PI X (.Tuple tgs kk tpos) (.Call (.Name "enumerate" p) [e] [] pos) (iEnA X.K ta) := by
  refine ⟨fun pins s σ H R I h => Call_ (ld_blt I hg hm boot_enumerate (PyProof.Rows.callWith_type1 (thn (ha.run pos pins s σ H _ I h) fun us s1 ⟨vs, H1, J, r, q⟩ => ?_) one rfl))⟩
  obtain ⟨a, xs, rfl, q⟩ := q
  cases r with
  | cons r rr =>
    cases rr
    cases r
    have two : ∀ b, b ∈ [s1.heap.objs.size + 1, s1.heap.objs.size] → FpOk X pins H1 b := fun b hb => by
      have hle : s1.heap.objs.size ≤ b := by
        rcases (by simpa using hb : b = s1.heap.objs.size + 1 ∨ b = s1.heap.objs.size) with rfl | rfl
        · exact Nat.le_add_right _ _
        · exact Nat.le_refl _
      exact J.fpOk hle (J.hok.fresh hle)
    rcases q with ⟨hq, q⟩ | ⟨hq, q⟩
    · obtain ⟨its, rv, pl, _⟩ := J.list hq
      refine call_enumerate_list pl.isList fun hx he hit hsz hk => wpAny_pyIter_enum he ?_
      exact ⟨s1.heap.objs.size + 1, _, _, _, H1, rfl, J.kept (t' := s1.toks) hk, turn_enum a (s1.heap.objs.size + 1) s1.heap.objs.size, ⟨⟨.none, he⟩, hit, Nat.succ_ne_self _⟩, two, q⟩
    · obtain ⟨its, rv, pl, _⟩ := J.tuple hq
      have la : a < s1.heap.objs.size := by obtain ⟨_, z, _⟩ := id pl; exact Heap.lt_size z
      refine en_new (begins_tuple a its.toArray) (show s1.heap.IsTuple a its.toArray from pl) fun hx he hit hk => wpAny_pyIter_enum he ?_
      exact ⟨s1.heap.objs.size + 1, _, _, _, H1, rfl, J.kept (t' := s1.toks) hk, turn_enT (a := a) (Nat.succ_ne_self _) (Nat.ne_of_gt (Nat.lt_succ_of_lt la)) (Nat.ne_of_lt la), ⟨⟨.none, he⟩, ⟨_, hit, rfl, rfl⟩⟩, two, q⟩

/-! ### over data -/
def enumD : Int → List D → List D
  | _, [] => []
  | i, x :: r => .tup [.int i, x] :: enumD (i + 1) r
theorem enumD_length : ∀ (i : Int) (xs : List D), (enumD i xs).length = xs.length
  | _, [] => rfl
  | i, _ :: r => by simp [enumD, enumD_length]
theorem enumD_get : ∀ (k : Int) (xs : List D) (i : Nat) (d : D), (enumD k xs)[i]? = some d → ∃ x, xs[i]? = some x ∧ d = .tup [.int (k + (i : Nat)), x]
  | _, [], _, _, h => by simp [enumD] at h
  | k, x :: r, 0, d, h => by
    simp [enumD] at h
    exact ⟨x, by simp, by rw [← h]; simp⟩
  | k, x :: r, i + 1, d, h => by
    obtain ⟨y, e, q⟩ := enumD_get (k + 1) r i d (by simpa [enumD] using h)
    refine ⟨y, by simpa using e, ?_⟩
    rw [q, show k + 1 + ((i : Nat) : Int) = k + ((i + 1 : Nat) : Int) by omega]
/-- a walk that puts each item into a pair with its index -/
theorem wk_pairs {J : It} {T : Hp} {p : Addr} {xs : List D} {ok : DHp → Prop} {S : Hp → List V → Prop} (rd : ∀ T' DH H, Same T T' → Abs T' DH H → ok DH → ∃ vs, S H vs ∧ RepL T' xs vs)
    (go : ∀ i H vs x, S H vs → vs[i]? = some x → J.go i H) (stop : ∀ H vs, S H vs → J.stop vs.length H) (yld : ∀ i H x H', J.yld i H x H' → ∃ q y, x = .ref q ∧ H q = none ∧ H' = upd H q (.tup [.int (i : Nat), y]) ∧ ∀ vs, S H vs → vs[i]? = some y) :
    Wk J T (enumD 0 xs) ok := by
  refine ⟨fun i T' DH H s A o hi => ?_, fun T' DH H s A o => ?_, fun i T' DH H x H' d s A o ed y => ?_⟩
  · obtain ⟨vs, hS, r⟩ := rd T' DH H s A o
    rw [enumD_length] at hi
    exact go i H vs (vs[i]'(by rw [r.length]; exact hi)) hS (by simp [r.length, hi])
  · obtain ⟨vs, hS, r⟩ := rd T' DH H s A o
    rw [enumD_length, ← r.length]
    exact stop H vs hS
  · obtain ⟨vs, hS, r⟩ := rd T' DH H s A o
    obtain ⟨z, ez, rfl⟩ := enumD_get 0 xs i d ed
    obtain ⟨q, v, rfl, hq, rfl, hy⟩ := yld i H x H' y
    obtain ⟨v', ev, rv⟩ := r.get ez
    rw [hy vs hS] at ev
    cases ev
    obtain ⟨s2, A2⟩ := A.frz (o := .tup [.int (i : Nat), v]) hq
    exact ⟨_, s2, A2, q, _, rfl, upd_same, .cons (by rw [Int.zero_add]; rfl) (.cons (RepV.up s2 _ _ rv) .nil)⟩
section
variable {X : Cx} {a b e : Expr} {t : DA} {p pos tpos : Pos} {tgs : List Expr} {kk : Nat}
def dIEnum (t : DA) : DI := fun τ H R => t τ H fun ds H1 => match ds with
  | [d] => walkD H1 d fun xs ok => R (enumD 0 xs) ok H1
  | _ => False
/-- the readings of what walkD finds -/
theorem walkD_rep {K : PySem.W.Frag} {T : Hp} {DH : DHp} {H : Hp} {d : D} {v : V} {k : List D → (DHp → Prop) → Prop} (A : Abs T DH H) (r : RepV T d v) (h : walkD DH d k) :
    ∃ p xs ok, v = .ref p ∧ k xs ok ∧ ((∀ T' DH' H', Same T T' → Abs T' DH' H' → ok DH' → ∃ vs, SqL K H' p vs ∧ RepL T' xs vs) ∧ ok DH ∨ (∀ T' DH' H', Same T T' → Abs T' DH' H' → ok DH' → ∃ vs, SqT K H' p vs ∧ RepL T' xs vs) ∧ ok DH) := by
  unfold walkD at h
  cases d with
  | tup xs =>
    obtain ⟨p, vs, rfl, t, q⟩ := r
    exact ⟨p, xs, _, rfl, h, .inr ⟨fun T' DH' H' s A' _ => ⟨vs, SqT.of (A'.sub _ _ (s _ _ t)), RepL.up s _ _ q⟩, trivial⟩⟩
  | lst xs =>
    obtain ⟨p, vs, rfl, t, q⟩ := r
    exact ⟨p, xs, _, rfl, h, .inl ⟨fun T' DH' H' s A' _ => ⟨vs, SqL.of (A'.sub _ _ (s _ _ t)), RepL.up s _ _ q⟩, trivial⟩⟩
  | ref p =>
    cases (show v = .ref p from r)
    simp only at h
    split at h
    · rename_i xs e
      exact ⟨p, xs, _, rfl, h, .inl ⟨fun T' DH' H' s A' o => let ⟨ws, g, q⟩ := A'.lst o; ⟨ws, SqL.of g, q⟩, e⟩⟩
    · rename_i xs e
      exact ⟨p, xs, _, rfl, h, .inl ⟨fun T' DH' H' s A' o => let ⟨ob, ws, g, q⟩ := A'.scr o; ⟨ws, .inl (.inr ⟨ob, g⟩), q⟩, e⟩⟩
    · exact h.elim
  | _ => exact h.elim
theorem qi_enum (hg : Gl X "enumerate") (hm : X.mg "enumerate" = none) (ha : QA X [e] t) (one : starEach [e] X.env = [(false, eval e X.env)] := by rfl) : QI X (.Tuple tgs kk tpos) (.Call (.Name "enumerate" p) [e] [] pos) (dIEnum t) :=
  ⟨piW (pi_enA hg hm ha.run one) fun σ H R ⟨T, DH, τ, RD, A, S, h, u⟩ => ⟨T, DH, τ, _, A, S, h, fun T1 DH1 H1 ds vs s1 A1 r1 h1 => by
    match ds, r1, h1 with
    | [], _, h1 => exact h1.elim
    | [d], r1, h1 =>
      obtain ⟨v, rfl, r⟩ := r1.one
      obtain ⟨p, xs, ok, rfl, h2, z⟩ := walkD_rep (K := X.K) A1 r h1
      rcases z with ⟨z, o⟩ | ⟨z, o⟩
      · obtain ⟨vs, hv, _⟩ := z T1 DH1 H1 (Same.refl _) A1 o
        refine ⟨p, vs, rfl, .inl ⟨hv, u T1 DH1 H1 _ ok _ s1 A1 (wk_pairs (p := p) (S := fun H vs => SqL X.K H p vs) z ?_ ?_ ?_) h2⟩⟩
        · exact fun i H vs x hS hx => ⟨vs, x, hS, hx⟩
        · exact fun H vs hS => ⟨vs, hS, Nat.le_refl _⟩
        · exact fun i H x H' y => y
      · obtain ⟨vs, hv, _⟩ := z T1 DH1 H1 (Same.refl _) A1 o
        refine ⟨p, vs, rfl, .inr ⟨hv, u T1 DH1 H1 _ ok _ s1 A1 (wk_pairs (p := p) (S := fun H vs => SqT X.K H p vs) z ?_ ?_ ?_) h2⟩⟩
        · exact fun i H vs x hS hx => ⟨vs, x, hS, hx⟩
        · exact fun H vs hS => ⟨vs, hS, rfl⟩
        · exact fun i H x H' y => y
    | _ :: _ :: _, _, h1 => exact h1.elim⟩⟩
def zipD (xs ys : List D) : List D := List.zipWith (fun x y => .tup [x, y]) xs ys
theorem zipD_get {xs ys : List D} {i : Nat} {d : D} (h : (zipD xs ys)[i]? = some d) : ∃ x y, xs[i]? = some x ∧ ys[i]? = some y ∧ d = .tup [x, y] := by
  unfold zipD at h
  rw [List.getElem?_zipWith] at h
  cases e1 : xs[i]? with
  | none => rw [e1] at h; simp at h
  | some x =>
    cases e2 : ys[i]? with
    | none => rw [e1, e2] at h; simp at h
    | some y => rw [e1, e2] at h; simp at h; exact ⟨x, y, rfl, rfl, h.symm⟩
theorem wk_zip {J : It} {T : Hp} {xs ys : List D} {ok ok' : DHp → Prop} {S S' : Hp → List V → Prop} (rd : ∀ T' DH H, Same T T' → Abs T' DH H → ok DH → ∃ vs, S H vs ∧ RepL T' xs vs) (rd' : ∀ T' DH H, Same T T' → Abs T' DH H → ok' DH → ∃ vs, S' H vs ∧ RepL T' ys vs)
    (go : ∀ i H vs ws x y, S H vs → S' H ws → vs[i]? = some x → ws[i]? = some y → J.go i H) (stop : ∀ i H vs ws, S H vs → S' H ws → vs.length ≤ i ∨ ws.length ≤ i → J.stop i H)
    (yld : ∀ i H x H', J.yld i H x H' → ∃ q y z, x = .ref q ∧ H q = none ∧ H' = upd H q (.tup [y, z]) ∧ (∀ vs, S H vs → vs[i]? = some y) ∧ ∀ vs, S' H vs → vs[i]? = some z) : Wk J T (zipD xs ys) (fun DH => ok DH ∧ ok' DH) := by
  have zl : (zipD xs ys).length = min xs.length ys.length := by unfold zipD; simp
  refine ⟨fun i T' DH H s A o hi => ?_, fun T' DH H s A o => ?_, fun i T' DH H x H' d s A o ed y => ?_⟩
  · obtain ⟨vs, hS, r⟩ := rd T' DH H s A o.1
    obtain ⟨ws, hS', r'⟩ := rd' T' DH H s A o.2
    rw [zl] at hi
    exact go i H vs ws (vs[i]'(by rw [r.length]; omega)) (ws[i]'(by rw [r'.length]; omega)) hS hS' (by simp) (by simp)
  · obtain ⟨vs, hS, r⟩ := rd T' DH H s A o.1
    obtain ⟨ws, hS', r'⟩ := rd' T' DH H s A o.2
    have l1 := r.length
    have l2 := r'.length
    exact stop _ H vs ws hS hS' (by rw [zl]; omega)
  · obtain ⟨vs, hS, r⟩ := rd T' DH H s A o.1
    obtain ⟨ws, hS', r'⟩ := rd' T' DH H s A o.2
    obtain ⟨y', z', e1, e2, rfl⟩ := zipD_get ed
    obtain ⟨q, v, w, rfl, hq, rfl, hy, hz⟩ := yld i H x H' y
    obtain ⟨v', ev, rv⟩ := r.get e1
    obtain ⟨w', ew, rw'⟩ := r'.get e2
    rw [hy vs hS] at ev
    rw [hz ws hS'] at ew
    cases ev
    cases ew
    obtain ⟨s2, A2⟩ := A.frz (o := .tup [v, w]) hq
    exact ⟨_, s2, A2, q, _, rfl, upd_same, .cons (RepV.up s2 _ _ rv) (.cons (RepV.up s2 _ _ rw') .nil)⟩
/-- both are lists, or both are tuples -/
def kindD (H : DHp) : D → Bool
  | .tup _ => true
  | _ => false
def dIZip (t : DA) : DI := fun τ H R => t τ H fun ds H1 => match ds with
  | [d, e] => kindD H1 d = kindD H1 e ∧ walkD H1 d fun xs ok => walkD H1 e fun ys ok' => R (zipD xs ys) (fun DH => ok DH ∧ ok' DH) H1
  | _ => False
theorem walkD_k {K : PySem.W.Frag} {T : Hp} {DH : DHp} {H : Hp} {d : D} {v : V} {k : List D → (DHp → Prop) → Prop} (A : Abs T DH H) (r : RepV T d v) (h : walkD DH d k) :
    ∃ p xs ok, v = .ref p ∧ k xs ok ∧ ok DH ∧ ∀ T' DH' H', Same T T' → Abs T' DH' H' → ok DH' → ∃ vs, (if kindD DH d = true then SqT K H' p vs else SqL K H' p vs) ∧ RepL T' xs vs := by
  unfold walkD at h
  cases d with
  | tup xs =>
    obtain ⟨p, vs, rfl, t, q⟩ := r
    exact ⟨p, xs, _, rfl, h, trivial, fun T' DH' H' s A' _ => ⟨vs, by simpa [kindD] using SqT.of (A'.sub _ _ (s _ _ t)), RepL.up s _ _ q⟩⟩
  | lst xs =>
    obtain ⟨p, vs, rfl, t, q⟩ := r
    exact ⟨p, xs, _, rfl, h, trivial, fun T' DH' H' s A' _ => ⟨vs, by simpa [kindD] using SqL.of (A'.sub _ _ (s _ _ t)), RepL.up s _ _ q⟩⟩
  | ref p =>
    cases (show v = .ref p from r)
    simp only at h
    split at h
    · rename_i xs e
      exact ⟨p, xs, _, rfl, h, e, fun T' DH' H' s A' o => let ⟨ws, g, q⟩ := A'.lst o; ⟨ws, by simpa [kindD] using SqL.of g, q⟩⟩
    · rename_i xs e
      exact ⟨p, xs, _, rfl, h, e, fun T' DH' H' s A' o => let ⟨ob, ws, g, q⟩ := A'.scr o; ⟨ws, by simpa [kindD] using (show SqL K H' p ws from .inl (.inr ⟨ob, g⟩)), q⟩⟩
    · exact h.elim
  | _ => exact h.elim
theorem qi_zip (hg : Gl X "zip") (hm : X.mg "zip" = none) (ha : QA X [a, b] t) (hs : starEach [a, b] X.env = (false, eval a X.env) :: starEach [b] X.env := by rfl) (hpl : (backTo pos (starEach [b] X.env)).any (·.1) = false := by rfl) :
    QI X (.Tuple tgs kk tpos) (.Call (.Name "zip" p) [a, b] [] pos) (dIZip t) :=
  ⟨piW (RZ.pi_zipA hg hm ha.run hs hpl) fun σ H R ⟨T, DH, τ, RD, A, S, h, u⟩ => ⟨T, DH, τ, _, A, S, h, fun T1 DH1 H1 ds vs s1 A1 r1 h1 => by
    match ds, r1, h1 with
    | [], _, h1 => exact h1.elim
    | [_], _, h1 => exact h1.elim
    | [d, e], r1, h1 =>
      obtain ⟨v, w, rfl, r, r'⟩ := r1.two
      obtain ⟨hk, h1⟩ := h1
      obtain ⟨p, xs, ok, rfl, h2, o, z⟩ := walkD_k (K := X.K) A1 r h1
      obtain ⟨p', ys, ok', rfl, h3, o', z'⟩ := walkD_k (K := X.K) A1 r' h2
      rw [hk] at z
      cases hd : kindD DH1 e with
      | true =>
        simp only [hd, if_true] at z z'
        obtain ⟨vs, hv, _⟩ := z T1 DH1 H1 (Same.refl _) A1 o
        obtain ⟨ws, hw, _⟩ := z' T1 DH1 H1 (Same.refl _) A1 o'
        refine ⟨p, p', vs, ws, rfl, .inr ⟨hv, hw, u T1 DH1 H1 _ _ _ s1 A1 (wk_zip (S := fun H vs => SqT X.K H p vs) (S' := fun H vs => SqT X.K H p' vs) z z' ?_ ?_ ?_) h3⟩⟩
        · exact fun i H vs ws x y hS hS' hx hy => ⟨vs, ws, x, y, hS, hS', hx, hy⟩
        · exact fun i H vs ws hS hS' hi => ⟨vs, ws, hS, hS', hi⟩
        · exact fun i H x H' y => y
      | false =>
        simp only [hd, Bool.false_eq_true, if_false] at z z'
        obtain ⟨vs, hv, _⟩ := z T1 DH1 H1 (Same.refl _) A1 o
        obtain ⟨ws, hw, _⟩ := z' T1 DH1 H1 (Same.refl _) A1 o'
        refine ⟨p, p', vs, ws, rfl, .inl ⟨hv, hw, u T1 DH1 H1 _ _ _ s1 A1 (wk_zip (S := fun H vs => SqL X.K H p vs) (S' := fun H vs => SqL X.K H p' vs) z z' ?_ ?_ ?_) h3⟩⟩
        · exact fun i H vs ws x y hS hS' hx hy => ⟨vs, ws, x, y, hS, hS', hx, hy⟩
        · exact fun i H vs ws hS hS' hi => ⟨vs, ws, hS, hS', hi⟩
        · exact fun i H x H' y => y
    | _ :: _ :: _ :: _, _, h1 => exact h1.elim⟩⟩

/-! ### three at once -/
def dPar3 (i j l : Nat) (t : DA) : DS := fun E τ H => t τ H fun ds H1 => match ds with
  | [u, v, w] => E.nx (((τ.set i (some u)).set j (some v)).set l (some w)) H1
  | _ => False
theorem qs_par3 {c : Expr} {i j l : Nat} {x y z : Str} {px py pz pt : Pos} {kt k2 pt2} (hc : X.calm = true) (hN : X.N.Nodup) (ha : QA X [a, b, c] t) (hi : X.N[i]? = some x := by rfl) (hj : X.N[j]? = some y := by rfl) (hl : X.N[l]? = some z := by rfl) (hij : i ≠ j := by decide) (hil : i ≠ l := by decide) (hjl : j ≠ l := by decide)
    (hx : X.env.scope.names.lookup x = some .local := by rfl) (hy : X.env.scope.names.lookup y = some .local := by rfl) (hz : X.env.scope.names.lookup z = some .local := by rfl)
    (hw : swappedStores [.Tuple [.Name x px, .Name y py, .Name z pz] kt pt] (.Tuple [a, b, c] k2 pt2) X.env = pure (some [x, y, z]) := by rfl)
    (hs : swapsWithSole [.Tuple [.Name x px, .Name y py, .Name z pz] kt pt] (.Tuple [a, b, c] k2 pt2) pos.line X.env = pure false := by rfl) :
    QS X (.Assign [.Tuple [.Name x px, .Name y py, .Name z pz] kt pt] (.Tuple [a, b, c] k2 pt2) pos) (dPar3 i j l t) :=
  ⟨psW (ps_par3 hc hN hi hj hl hij hil hjl hx hy hz ha.run hw hs) fun E σ H ⟨T, DH, τ, R, A, S, h, u⟩ => ⟨T, DH, τ, _, A, S, h, fun T1 DH1 H1 ds vs s1 A1 r1 h1 => by
    match ds, r1, h1 with
    | [d, e, f], ⟨v, _, e1, rv, w, _, e2, rw', g, _, e3, rg, e4⟩, h1 =>
      have e4 : _ = [] := e4
      subst e4 e3 e2 e1
      exact ⟨v, w, g, rfl, u.nx T1 DH1 H1 _ _ s1 A1 ((((S.up s1).set rv i).set rw' j).set rg l) h1⟩
    | [], _, h1 => exact h1.elim
    | [_], _, h1 => exact h1.elim
    | [_, _], _, h1 => exact h1.elim
    | _ :: _ :: _ :: _ :: _, _, h1 => exact h1.elim⟩⟩
end

/-! ### names -/
abbrev rFdiv : DR2 := rIntD (fun i j => 0 < j ∧ j.natAbs.log2 < 9000) fun i j => .int (i / j)
abbrev rMod : DR2 := rIntD (fun _ j => 0 < j) fun i j => .int (i % j)
abbrev rPow : DR2 := rIntD (fun i j => 0 ≤ j ∧ (Builtin.Int.intBits i : Int) * j ≤ 2 ^ 27) fun i j => .int (i ^ j.toNat)
abbrev rAbsD : DRC := rI1 fun i => .int (if i < 0 then -i else i)
abbrev rMax2 : DRC := rI2 fun i j => .int (if j > i then j else i)
abbrev rMin2 : DRC := rI2 fun i j => .int (if j < i then j else i)
/-- the built-in names are not the program's own -/
structure Bl (mg : Str → Option Value) : Prop where
  all : mg "all" = none
  any : mg "any" = none
  abs : mg "abs" = none
  bool : mg "bool" = none
  dict : mg "dict" = none
  enumerate : mg "enumerate" = none
  int : mg "int" = none
  isinstance : mg "isinstance" = none
  len : mg "len" = none
  list : mg "list" = none
  max : mg "max" = none
  min : mg "min" = none
  range : mg "range" = none
  repr : mg "repr" = none
  set : mg "set" = none
  sorted : mg "sorted" = none
  str : mg "str" = none
  sum : mg "sum" = none
  tuple : mg "tuple" = none
  zip : mg "zip" = none
theorem room64 {k : Nat} {A : Around} (h : Room k A) : A.units + 64 < cLine := h.units
theorem room65 {k : Nat} {A : Around} (h : Room k A) : A.units + 65 < cLine := by have := h.un; omega
/-- the def x stands at the top, and keeps its promise -/
def Has (P : Program) (w : World) (K : PySem.W.Frag) (mg : Str → Option Value) (base : Heap) (k : Nat) (x : Str) (sp : DSp) : Prop :=
  ∃ f fd ps, FnOk P w K mg base CX0 k f fd ps (loP sp) ∧ mg x = some (.ref f) ∧ PySem.W.keepIn K (.ref f) = true ∧ Binds K fd ps []
def HasG (P : Program) (w : World) (K : PySem.W.Frag) (mg : Str → Option Value) (base : Heap) (k : Nat) (x : Str) (sp : DSp) : Prop :=
  ∃ f fd ps, FnG P w K mg base k f ps fd (loP sp) ∧ mg x = some (.ref f) ∧ PySem.W.keepIn K (.ref f) = true ∧ Binds K fd ps []
section
variable {X : Cx} {e : Expr} {es : List Expr} {t : DA} {x : Str} {p pos : Pos} {k : Nat} {sp : DSp}
theorem qe_own (F : Has X.prog X.w X.K X.mg X.base k x sp) (hr : Room k X.A) (hg : Gl X x) (ha : QA X (e :: es) t) (hdb : (x == ("__debug__" : Str)) = false := by decide) (he : starEach (e :: es) X.env = (false, eval e X.env) :: starEach es X.env := by rfl)
    (hpl : (backTo pos (starEach es X.env)).any (·.1) = false := by rfl) : QE X (.Call (.Name x p) (e :: es) [] pos) (dCB sp t) := by
  obtain ⟨f, fd, ps, F, hm, hk, hb⟩ := F
  exact qe_call F hr hg hm hk hb pass0 ha hdb he hpl
theorem qe_ownG (F : HasG X.prog X.w X.K X.mg X.base k x sp) (hgd : X.A.guards = some []) (hr : Room k X.A) (hg : Gl X x) (ha : QA X (e :: es) t) (hdb : (x == ("__debug__" : Str)) = false := by decide) (he : starEach (e :: es) X.env = (false, eval e X.env) :: starEach es X.env := by rfl)
    (hpl : (backTo pos (starEach es X.env)).any (·.1) = false := by rfl) : QE X (.Call (.Name x p) (e :: es) [] pos) (dCB sp t) := by
  obtain ⟨f, fd, ps, F, hm, hk, hb⟩ := F
  exact qe_callG F hgd hr hg hm hk hb ha hdb he hpl
end
section
variable {P : Program} {w : World} {K : PySem.W.Frag} {mg : Str → Option Value} {base : Heap} {x : Str} {k : Nat} {sp sp' : DSp}
/-- a weaker promise -/
theorem Has.imp (h : Has P w K mg base k x sp) (i : ∀ ds DH Q, sp' ds DH Q → sp ds DH Q) : Has P w K mg base k x sp' := by
  obtain ⟨f, fd, ps, F, r⟩ := h
  exact ⟨f, fd, ps, F.imp fun vs H Q E ⟨T, DH, ds, R, A, r, h, u⟩ => ⟨T, DH, ds, R, A, r, i _ _ _ h, u⟩, r⟩
end
end DL

/-! DL9: how readings are told: d_simp. -/
namespace DL
open PySem PySem.Spec PyProof.Rows L2

theorem peek_int {H : DHp} {i : Int} : peek H (.int i) = .int i := rfl
theorem peek_bl {H : DHp} {i : Bool} : peek H (.bl i) = .bl i := rfl
theorem peek_non {H : DHp} : peek H .non = .non := rfl
theorem peek_str {H : DHp} {x : Str} : peek H (.str x) = .str x := rfl
theorem peek_tup {H : DHp} {xs : List D} : peek H (.tup xs) = .tup xs := rfl
theorem peek_lst {H : DHp} {xs : List D} : peek H (.lst xs) = .lst xs := rfl
theorem seqOf_tup {H : DHp} {xs : List D} : seqOf H (.tup xs) = some xs := rfl
theorem seqOf_lst {H : DHp} {xs : List D} : seqOf H (.lst xs) = some xs := rfl
theorem seqOf_ref {H : DHp} {p : Addr} {xs : List D} (h : H p = some (.lst xs)) : seqOf H (.ref p) = some xs := by simp [seqOf, peek_ref h]
theorem listOf_lst {H : DHp} {xs : List D} : listOf H (.lst xs) = some xs := rfl
theorem listOf_ref {H : DHp} {p : Addr} {xs : List D} (h : H p = some (.lst xs)) : listOf H (.ref p) = some xs := by simp [listOf, peek_ref h]
theorem dupd_ne' {H : DHp} {a b : Addr} {o : DO} (h : a ≠ b) : dupd H a o b = H b := dupd_ne (Ne.symm h)
/-- the i-th slot -/
theorem slot0 {α : Type} {x : α} {r : List α} : (x :: r)[0]? = some x := rfl
theorem slotS {α : Type} {x : α} {r : List α} {i : Nat} : (x :: r)[i + 1]? = r[i]? := rfl
theorem atI_nat {α : Type} (xs : List α) (i : Nat) : atI xs (i : Int) = xs[i]? := by
  unfold atI ixN
  by_cases h : i < xs.length
  · rw [if_pos (by omega), if_pos (by omega)]
    simp
  · rw [if_pos (by omega), if_neg (by omega), List.getElem?_eq_none (by omega)]
    rfl
theorem atI0 {α : Type} {x : α} {r : List α} : atI (x :: r) 0 = some x := atI_nat (x :: r) 0
theorem atI1 {α : Type} {x y : α} {r : List α} : atI (x :: y :: r) 1 = some y := atI_nat (x :: y :: r) 1
theorem atI2 {α : Type} {x y z : α} {r : List α} : atI (x :: y :: z :: r) 2 = some z := atI_nat (x :: y :: z :: r) 2
theorem atI3 {α : Type} {x y z u : α} {r : List α} : atI (x :: y :: z :: u :: r) 3 = some u := atI_nat (x :: y :: z :: u :: r) 3
theorem atI4 {α : Type} {x y z u v : α} {r : List α} : atI (x :: y :: z :: u :: v :: r) 4 = some v := atI_nat (x :: y :: z :: u :: v :: r) 4
theorem atI5 {α : Type} {x y z u v w : α} {r : List α} : atI (x :: y :: z :: u :: v :: w :: r) 5 = some w := atI_nat (x :: y :: z :: u :: v :: w :: r) 5
theorem mulD_l {i j : Int} (h0 : -(2 ^ 64) < i) (h1 : i < 2 ^ 64) : CMulD i j := .inl (.inl ⟨h0, h1⟩)
theorem mulD_r {i j : Int} (h0 : -(2 ^ 64) < j) (h1 : j < 2 ^ 64) : CMulD i j := .inl (.inr ⟨h0, h1⟩)
theorem size_le {n : Nat} (h : n ≤ 1000) : n ≤ sizeLine := Nat.le_of_lt (small1000 h)

/-! ### comprehensions and loops by what holds at each turn -/
section
variable {ok : DHp → Prop} {g : DG} {tt : DT} {te : DE} {tb : DS} {τ : DSt} {H : DHp} {K : List D → DHp → Prop} {E : DEnds}
theorem comp_inv (I : List D → List D → DHp → Prop) (fin : ∀ acc H, I [] acc H → ok H ∧ K acc H)
    (turn : ∀ x r acc H, I (x :: r) acc H → ok H ∧ ∀ (Q : DK) (Z : DHp → Prop), (∀ y H', I r (acc ++ [y]) H' → Q y H') → (∀ H', I r acc H' → Z H') → g x τ H fun τ2 H2 => tt τ2 H2 fun b H3 => if b = true then te τ2 H3 Q else Z H3) :
    ∀ (xs acc : List D) (H : DHp), I xs acc H → dCompL ok g tt te τ xs acc H K
  | [], acc, H, h => fin acc H h
  | x :: r, acc, H, h => ⟨(turn x r acc H h).1, (turn x r acc H h).2 _ _ (fun y H' z => comp_inv I fin turn r _ H' z) fun H' z => comp_inv I fin turn r _ H' z⟩
theorem comp_map (f : D → D) (hok : ok H) : ∀ (xs acc : List D), (∀ x ∈ xs, ∀ Q : DK, Q (f x) H → g x τ H fun τ2 H2 => te τ2 H2 Q) → K (acc ++ xs.map f) H → dCompL ok g dYes te τ xs acc H K
  | [], acc, _, k => ⟨hok, by simpa using k⟩
  | x :: r, acc, h, k => ⟨hok, h x (by simp) _ (comp_map f hok r (acc ++ [f x]) (fun y hy => h y (by simp [hy])) (by simpa using k))⟩
theorem comp_filter (p : D → Bool) (f : D → D) (hok : ok H) : ∀ (xs acc : List D), (∀ x ∈ xs, ∀ (Q : DK) (Z : DHp → Prop), (p x = true → Q (f x) H) → (p x = false → Z H) → g x τ H fun τ2 H2 => tt τ2 H2 fun b H3 => if b = true then te τ2 H3 Q else Z H3) →
    K (acc ++ (xs.filter p).map f) H → dCompL ok g tt te τ xs acc H K
  | [], acc, _, k => ⟨hok, by simpa using k⟩
  | x :: r, acc, h, k => ⟨hok, h x (by simp) _ _ (fun e => comp_filter p f hok r (acc ++ [f x]) (fun y hy => h y (by simp [hy])) (by simpa [List.filter_cons, e] using k)) fun e => comp_filter p f hok r acc (fun y hy => h y (by simp [hy])) (by simpa [List.filter_cons, e] using k)⟩
/-- some of the items, whichever -/
theorem comp_some (hok : ok H) (f : D → D) : ∀ (xs acc : List D), (∀ x ∈ xs, ∀ (Q : DK) (Z : DHp → Prop), Q (f x) H → Z H → g x τ H fun τ2 H2 => tt τ2 H2 fun b H3 => if b = true then te τ2 H3 Q else Z H3) →
    (∀ ys : List D, ys.Sublist xs → K (acc ++ ys.map f) H) → dCompL ok g tt te τ xs acc H K
  | [], acc, _, k => ⟨hok, by simpa using k [] (List.Sublist.refl _)⟩
  | x :: r, acc, h, k => ⟨hok, h x (by simp) _ _ (comp_some hok f r (acc ++ [f x]) (fun y hy => h y (by simp [hy])) fun ys hy => by simpa using k (x :: ys) (hy.cons₂ x)) (comp_some hok f r acc (fun y hy => h y (by simp [hy])) fun ys hy => k ys (hy.cons x))⟩
/-- each item by one of what is allowed for it -/
inductive Each {α β : Type} (R : α → β → Prop) : List α → List β → Prop where
  | nil : Each R [] []
  | cons {x : α} {y : β} {xs : List α} {ys : List β} (h : R x y) (r : Each R xs ys) : Each R (x :: xs) (y :: ys)
theorem Each.length {α β : Type} {R : α → β → Prop} : ∀ {xs : List α} {ys : List β}, Each R xs ys → ys.length = xs.length
  | _, _, .nil => rfl
  | _, _, .cons _ r => by simp [Each.length r]
theorem Each.all {α β : Type} {R : α → β → Prop} {P : β → Prop} : ∀ {xs : List α} {ys : List β}, Each R xs ys → (∀ x ∈ xs, ∀ y, R x y → P y) → ∀ y ∈ ys, P y
  | _, _, .nil, _, y, hy => by simp at hy
  | _, _, .cons (x := x) h r, f, y, hy => by
    rcases List.mem_cons.mp hy with rfl | hy
    · exact f x (by simp) _ h
    · exact Each.all r (fun x hx => f x (by simp [hx])) y hy
theorem comp_each (R : D → D → Prop) (hok : ok H) : ∀ (xs acc : List D), (∀ x ∈ xs, ∀ Q : DK, (∀ y, R x y → Q y H) → g x τ H fun τ2 H2 => te τ2 H2 Q) → (∀ ys : List D, Each R xs ys → K (acc ++ ys) H) → dCompL ok g dYes te τ xs acc H K
  | [], acc, _, k => ⟨hok, by simpa using k [] .nil⟩
  | x :: r, acc, h, k => ⟨hok, h x (by simp) _ fun y hy => comp_each R hok r (acc ++ [y]) (fun y hy => h y (by simp [hy])) fun ys z => by simpa using k (y :: ys) (.cons hy z)⟩
theorem for_inv (I : List D → DSt → DHp → Prop) (fin : ∀ τ H, I [] τ H → ok H ∧ E.nx τ H)
    (turn : ∀ x r τ H, I (x :: r) τ H → ok H ∧ ∀ E' : DEnds, E'.rt = E.rt → E'.bk = E.nx → (∀ τ' H', I r τ' H' → E'.nx τ' H') → (∀ τ' H', I r τ' H' → E'.ct τ' H') → g x τ H fun τ1 H1 => tb E' τ1 H1) :
    ∀ (xs : List D) (τ : DSt) (H : DHp), I xs τ H → dForL ok g tb xs E τ H
  | [], τ, H, h => fin τ H h
  | x :: r, τ, H, h => ⟨(turn x r τ H h).1, (turn x r τ H h).2 { E with nx := dForL ok g tb r E, ct := dForL ok g tb r E, bk := E.nx } rfl rfl (fun τ' H' z => for_inv I fin turn r τ' H' z) fun τ' H' z => for_inv I fin turn r τ' H' z⟩
end

/-! ### each reading at all its arguments (printed by eqs.py) -/
theorem dVar_e (i : Nat) (τ : DSt) (H : DHp) (Q : DK) : dVar i τ H Q = (match τ[i]? with
  | some (some d) => Q d H
  | _ => False) := (rfl)
theorem dC_e (d : D) (z0 : DSt) (H : DHp) (Q : DK) : dC d z0 H Q = (Q d H) := (rfl)
theorem dOp_e (r : DR2) (ta tb : DE) (τ : DSt) (H : DHp) (Q : DK) : dOp r ta tb τ H Q = (ta τ H fun x H1 => tb τ H1 fun y H2 => r x y H2 Q) := (rfl)
theorem dUn_e (r : D → DHp → DK → Prop) (ta : DE) (τ : DSt) (H : DHp) (Q : DK) : dUn r ta τ H Q = (ta τ H fun x H1 => r x H1 Q) := (rfl)
theorem dB_e (t : DE) (τ : DSt) (H : DHp) (Q : Bool → DHp → Prop) : dB t τ H Q = (t τ H fun x H1 => match x with
  | .bl k => Q k H1
  | _ => False) := (rfl)
theorem dChain_e (r r' : DR2) (ta tb tc : DE) (τ : DSt) (H : DHp) (Q : DK) : dChain r r' ta tb tc τ H Q = (ta τ H fun x H1 => tb τ H1 fun y H2 => r x y H2 fun z H3 => match z with
  | .bl true => tc τ H3 fun w H4 => r' y w H4 Q
  | .bl false => Q (.bl false) H3
  | _ => False) := (rfl)
theorem dAnd_e (t u : DT) (τ : DSt) (H : DHp) (Q : Bool → DHp → Prop) : dAnd t u τ H Q = (t τ H fun c H1 => if c = true then u τ H1 Q else Q false H1) := (rfl)
theorem dOr_e (t u : DT) (τ : DSt) (H : DHp) (Q : Bool → DHp → Prop) : dOr t u τ H Q = (t τ H fun c H1 => if c = true then Q true H1 else u τ H1 Q) := (rfl)
theorem dNot_e (t : DT) (τ : DSt) (H : DHp) (Q : Bool → DHp → Prop) : dNot t τ H Q = (t τ H fun c H1 => Q (!c) H1) := (rfl)
theorem dAndV_e (ta tb : DE) (τ : DSt) (H : DHp) (Q : DK) : dAndV ta tb τ H Q = (ta τ H fun x H1 => asB x fun c => if c = true then tb τ H1 Q else Q (.bl false) H1) := (rfl)
theorem dOrV_e (ta tb : DE) (τ : DSt) (H : DHp) (Q : DK) : dOrV ta tb τ H Q = (ta τ H fun x H1 => asB x fun c => if c = true then Q (.bl true) H1 else tb τ H1 Q) := (rfl)
theorem dNotV_e (ta : DE) (τ : DSt) (H : DHp) (Q : DK) : dNotV ta τ H Q = (ta τ H fun x H1 => asB x fun c => Q (.bl (!c)) H1) := (rfl)
theorem dIf_e (t : DT) (ta tb : DE) (τ : DSt) (H : DHp) (Q : DK) : dIf t ta tb τ H Q = (t τ H fun c H1 => if c = true then ta τ H1 Q else tb τ H1 Q) := (rfl)
theorem dNil_e  (z0 : DSt) (H : DHp) (Q : List D → DHp → Prop) : dNil z0 H Q = (Q [] H) := (rfl)
theorem dCons_e (ta : DE) (tr : DA) (τ : DSt) (H : DHp) (Q : List D → DHp → Prop) : dCons ta tr τ H Q = (ta τ H fun x H1 => tr τ H1 fun xs H2 => Q (x :: xs) H2) := (rfl)
theorem dTup_e (t : DA) (τ : DSt) (H : DHp) (Q : DK) : dTup t τ H Q = (t τ H fun xs H1 => xs.length ≤ sizeLine ∧ Q (.tup xs) H1) := (rfl)
theorem dLst_e (t : DA) (τ : DSt) (H : DHp) (Q : DK) : dLst t τ H Q = (t τ H fun xs H1 => xs.length ≤ sizeLine ∧ Q (.lst xs) H1) := (rfl)
theorem dCB_e (r : DRC) (t : DA) (τ : DSt) (H : DHp) (Q : DK) : dCB r t τ H Q = (t τ H fun vs H1 => r vs H1 Q) := (rfl)
theorem dNext_e  (E : DEnds) (τ : DSt) (H : DHp) : dNext E τ H = (E.nx τ H) := (rfl)
theorem dSeq_e (t u : DS) (E : DEnds) (τ : DSt) (H : DHp) : dSeq t u E τ H = (t { E with nx := u E } τ H) := (rfl)
theorem dCont_e  (E : DEnds) (τ : DSt) (H : DHp) : dCont E τ H = (E.ct τ H) := (rfl)
theorem dBreak_e  (E : DEnds) (τ : DSt) (H : DHp) : dBreak E τ H = (E.bk τ H) := (rfl)
theorem dDrop_e (te : DE) (E : DEnds) (τ : DSt) (H : DHp) : dDrop te E τ H = (te τ H fun _ H1 => E.nx τ H1) := (rfl)
theorem dRet_e (te : DE) (E : DEnds) (τ : DSt) (H : DHp) : dRet te E τ H = (te τ H E.rt) := (rfl)
theorem dRetN_e  (E : DEnds) (z1 : DSt) (H : DHp) : dRetN E z1 H = (E.rt .non H) := (rfl)
theorem dIfS_e (c : DT) (t u : DS) (E : DEnds) (τ : DSt) (H : DHp) : dIfS c t u E τ H = (c τ H fun b H1 => if b = true then t E τ H1 else u E τ H1) := (rfl)
theorem gN_e (i : Nat) (d : D) (τ : DSt) (H : DHp) (Q : DSt → DHp → Prop) : gN i d τ H Q = (Q (τ.set i (some d)) H) := (rfl)
theorem gNilD_e  (ds : List D) (τ : DSt) (H : DHp) (Q : DSt → DHp → Prop) : gNilD ds τ H Q = (match ds with
  | [] => Q τ H
  | _ => False) := (rfl)
theorem gConsD_e (t : DG) (u : DGs) (ds : List D) (τ : DSt) (H : DHp) (Q : DSt → DHp → Prop) : gConsD t u ds τ H Q = (match ds with
  | d :: r => t d τ H fun τ1 H1 => u r τ1 H1 Q
  | _ => False) := (rfl)
theorem gT_e (n : Nat) (t : DGs) (d : D) (τ : DSt) (H : DHp) (Q : DSt → DHp → Prop) : gT n t d τ H Q = (match d with
  | .tup xs => xs.length = n ∧ t xs τ H Q
  | _ => False) := (rfl)
theorem dAsg_e (te : DE) (g : DG) (E : DEnds) (τ : DSt) (H : DHp) : dAsg te g E τ H = (te τ H fun x H1 => g x τ H1 E.nx) := (rfl)
theorem dPar_e (i j : Nat) (t : DA) (E : DEnds) (τ : DSt) (H : DHp) : dPar i j t E τ H = (t τ H fun ds H1 => match ds with
  | [v, w] => E.nx ((τ.set i (some v)).set j (some w)) H1
  | _ => False) := (rfl)
theorem dPar3_e (i j l : Nat) (t : DA) (E : DEnds) (τ : DSt) (H : DHp) : dPar3 i j l t E τ H = (t τ H fun ds H1 => match ds with
  | [u, v, w] => E.nx (((τ.set i (some u)).set j (some v)).set l (some w)) H1
  | _ => False) := (rfl)
theorem dYes_e  (z0 : DSt) (H : DHp) (Q : Bool → DHp → Prop) : dYes z0 H Q = (Q true H) := (rfl)
theorem dFor_e (ti : DI) (g : DG) (tb : DS) (E : DEnds) (τ : DSt) (H : DHp) : dFor ti g tb E τ H = (ti τ H fun xs ok H1 => dForL ok g tb xs E τ H1) := (rfl)
theorem dLc_e (mu : Bool) (ti : DI) (g : DG) (tt : DT) (te : DE) (vs : List Nat) (τ : DSt) (H : DHp) (Q : DK) : dLc mu ti g tt te vs τ H Q = (ti τ H fun xs ok H1 => xs.length ≤ sizeLine ∧ dCompL ok g tt te (dwipe τ vs) xs [] H1 fun acc H2 =>
  if mu = true then ∀ p, H2 p = none → Q (.ref p) (dupd H2 p (.lst acc)) else Q (.lst acc) H2) := (rfl)
theorem dISeq_e (te : DE) (τ : DSt) (H : DHp) (R : List D → (DHp → Prop) → DHp → Prop) : dISeq te τ H R = (te τ H fun x H1 => walkD H1 x fun xs ok => R xs ok H1) := (rfl)
theorem dIRg1_e (t : DA) (τ : DSt) (H : DHp) (R : List D → (DHp → Prop) → DHp → Prop) : dIRg1 t τ H R = (t τ H fun ds H1 => match ds with
  | [.int j] => (-(2 ^ 62) ≤ j ∧ j < 2 ^ 62) ∧ R (rgD 0 j.toNat) okT H1
  | _ => False) := (rfl)
theorem dIRg2_e (t : DA) (τ : DSt) (H : DHp) (R : List D → (DHp → Prop) → DHp → Prop) : dIRg2 t τ H R = (t τ H fun ds H1 => match ds with
  | [.int i, .int j] => (-(2 ^ 62) ≤ i ∧ i < 2 ^ 62 ∧ -(2 ^ 62) ≤ j ∧ j < 2 ^ 62) ∧ R (rgD i (j - i).toNat) okT H1
  | _ => False) := (rfl)
theorem dIEnum_e (t : DA) (τ : DSt) (H : DHp) (R : List D → (DHp → Prop) → DHp → Prop) : dIEnum t τ H R = (t τ H fun ds H1 => match ds with
  | [d] => walkD H1 d fun xs ok => R (enumD 0 xs) ok H1
  | _ => False) := (rfl)
theorem dIZip_e (t : DA) (τ : DSt) (H : DHp) (R : List D → (DHp → Prop) → DHp → Prop) : dIZip t τ H R = (t τ H fun ds H1 => match ds with
  | [d, e] => kindD H1 d = kindD H1 e ∧ walkD H1 d fun xs ok => walkD H1 e fun ys ok' => R (zipD xs ys) (fun DH => ok DH ∧ ok' DH) H1
  | _ => False) := (rfl)
theorem dIScr_e (K : PySem.W.Frag) (te : DE) (τ : DSt) (H : DHp) (R : List D → (DHp → Prop) → DHp → Prop) : dIScr K te τ H R = (te τ H fun x H1 => ∃ p ns, x = .ref p ∧ ScrAt K H1 p ns ∧ R (ns.map D.int) (fun H' => ScrAt K H' p ns) H1) := (rfl)
theorem rIntD_e (C : Int → Int → Prop) (g : Int → Int → D) (x : D) (y : D) (H : DHp) (Q : DK) : rIntD C g x y H Q = (match x, y with
  | .int i, .int j => C i j ∧ Q (g i j) H
  | _, _ => False) := (rfl)
theorem rNegD_e  (x : D) (H : DHp) (Q : DK) : rNegD x H Q = (match x with
  | .int i => Q (.int (-i)) H
  | _ => False) := (rfl)
theorem rEqD_e (neg : Bool) (x : D) (y : D) (H : DHp) (Q : DK) : rEqD neg x y H Q = (eqOk (peek H x) (peek H y) ∧ Q (.bl (if neg then !(D.eq (peek H x) (peek H y)) else D.eq (peek H x) (peek H y))) H) := (rfl)
theorem rAddD_e  (x : D) (y : D) (H : DHp) (Q : DK) : rAddD x y H Q = (match peek H x, peek H y with
  | .int i, .int j => Q (.int (i + j)) H
  | .tup xs, .tup ys => xs.length + ys.length ≤ sizeLine ∧ Q (.tup (xs ++ ys)) H
  | .lst xs, .lst ys => xs.length + ys.length ≤ sizeLine ∧ Q (.lst (xs ++ ys)) H
  | .str x, .str y => x.length + y.length ≤ sizeLine ∧ Q (.str (x ++ y)) H
  | _, _ => False) := (rfl)
theorem rMulD_e  (x : D) (y : D) (H : DHp) (Q : DK) : rMulD x y H Q = (match peek H x, y with
  | .int i, .int j => CMulD i j ∧ Q (.int (i * j)) H
  | .lst xs, .int k => (-(2 ^ 63) ≤ k ∧ k < 2 ^ 63 ∧ xs.length * k.toNat ≤ sizeLine) ∧ Q (.lst (List.replicate k.toNat xs).flatten) H
  | _, _ => False) := (rfl)
theorem rIxD_e  (x : D) (y : D) (H : DHp) (Q : DK) : rIxD x y H Q = (match seqOf H x, y with
  | some xs, .int i => (match atI xs i with | some d => Q d H | none => False)
  | _, _ => False) := (rfl)
theorem rI1_e (g : Int → D) (ds : List D) (H : DHp) (Q : DK) : rI1 g ds H Q = (match ds with
  | [.int i] => Q (g i) H
  | _ => False) := (rfl)
theorem rI2_e (g : Int → Int → D) (ds : List D) (H : DHp) (Q : DK) : rI2 g ds H Q = (match ds with
  | [.int i, .int j] => Q (g i j) H
  | _ => False) := (rfl)
theorem rIntCD_e  (ds : List D) (H : DHp) (Q : DK) : rIntCD ds H Q = (match ds with
  | [.int i] => Q (.int i) H
  | [.bl b] => Q (.int (if b then 1 else 0)) H
  | _ => False) := (rfl)
theorem rSumD_e  (ds : List D) (H : DHp) (Q : DK) : rSumD ds H Q = (match ds with
  | [d] => (match (listOf H d).bind ints? with | some ns => Q (.int ns.sum) H | none => False)
  | _ => False) := (rfl)
theorem rAllD_e (all : Bool) (ds : List D) (H : DHp) (Q : DK) : rAllD all ds H Q = (match ds with
  | [d] => (match (listOf H d).bind bls? with | some ns => Q (.bl (if all then ns.all id else ns.any id)) H | none => False)
  | _ => False) := (rfl)
theorem rIsiD_e  (ds : List D) (H : DHp) (Q : DK) : rIsiD ds H Q = (match ds with
  | [d, .ty n] => (tyOf H d ≠ "" ∧ (["int", "bool", "str", "tuple", "list", "dict"] : List String).contains n = true) ∧ Q (.bl (isTy (tyOf H d) n)) H
  | _ => False) := (rfl)
theorem rLenD_e  (ds : List D) (H : DHp) (Q : DK) : rLenD ds H Q = (match ds with
  | [d] => (match peek H d with
    | .str x => x.length ≤ sizeLine ∧ Q (.int x.length) H
    | .tup xs => Q (.int xs.length) H
    | .lst xs => Q (.int xs.length) H
    | .ref p => (match H p with | some (.dK kvs) => Q (.int kvs.length) H | _ => False)
    | _ => False)
  | _ => False) := (rfl)
theorem rTupD_e  (ds : List D) (H : DHp) (Q : DK) : rTupD ds H Q = (match ds with
  | [d] => (match seqOf H d with | some xs => Q (.tup xs) H | none => False)
  | _ => False) := (rfl)
theorem rLstD_e (mu : Bool) (ds : List D) (H : DHp) (Q : DK) : rLstD mu ds H Q = (match ds with
  | [d] => (match seqOf H d with | some xs => if mu = true then ∀ p, H p = none → Q (.ref p) (dupd H p (.lst xs)) else Q (.lst xs) H | none => False)
  | _ => False) := (rfl)
theorem rIsN_e (neg : Bool) (x : D) (y : D) (H : DHp) (Q : DK) : rIsN neg x y H Q = (match y with
  | .non => Q (.bl (if neg then !isNon x else isNon x)) H
  | _ => False) := (rfl)
theorem rSlD_e (mu : Bool) (x : D) (lo : Option Int) (hi : Option Int) (H : DHp) (Q : DK) : rSlD mu x lo hi H Q = (match peek H x with
  | .tup xs => Q (.tup (cutD xs lo hi)) H
  | .lst xs => if mu = true then ∀ p, H p = none → Q (.ref p) (dupd H p (.lst (cutD xs lo hi))) else Q (.lst (cutD xs lo hi)) H
  | _ => False) := (rfl)
theorem dSl_e (r : D → Option Int → Option Int → DHp → DK → Prop) (te : DE) (tl th : DO') (τ : DSt) (H : DHp) (Q : DK) : dSl r te tl th τ H Q = (te τ H fun x H1 => tl τ H1 fun l H2 => th τ H2 fun u H3 => r x l u H3 Q) := (rfl)
theorem dNoPart_e  (z0 : DSt) (H : DHp) (Q : Option Int → DHp → Prop) : dNoPart z0 H Q = (Q none H) := (rfl)
theorem dPart_e (t : DE) (τ : DSt) (H : DHp) (Q : Option Int → DHp → Prop) : dPart t τ H Q = (t τ H fun x H1 => match x with
  | .int i => Q (some i) H1
  | _ => False) := (rfl)
theorem dRev_e (mu : Bool) (te : DE) (τ : DSt) (H : DHp) (Q : DK) : dRev mu te τ H Q = (te τ H fun x H1 => match peek H1 x with
  | .tup xs => Q (.tup xs.reverse) H1
  | .lst xs => if mu = true then ∀ p, H1 p = none → Q (.ref p) (dupd H1 p (.lst xs.reverse)) else Q (.lst xs.reverse) H1
  | _ => False) := (rfl)
theorem dGet_e (td ty : DE) (τ : DSt) (H : DHp) (Q : DK) : dGet td ty τ H Q = (td τ H fun x H1 => ty τ H1 fun y H2 => lookD H2 x y fun o => match o with
  | some d => Q d H2
  | none => False) := (rfl)
theorem dIn_e (neg : Bool) (ty td : DE) (τ : DSt) (H : DHp) (Q : DK) : dIn neg ty td τ H Q = (ty τ H fun y H1 => td τ H1 fun x H2 => lookD H2 x y fun o => Q (.bl (if neg then !o.isSome else o.isSome)) H2) := (rfl)
theorem dStore_e (td ty tv : DE) (E : DEnds) (τ : DSt) (H : DHp) : dStore td ty tv E τ H = (tv τ H fun v H1 => td τ H1 fun x H2 => ty τ H2 fun y H3 => storeD H3 x y v (E.nx τ)) := (rfl)
theorem dBM0_e (ty : String) (r : D → List D → DHp → DK → Prop) (to : DE) (τ : DSt) (H : DHp) (Q : DK) : dBM0 ty r to τ H Q = (to τ H fun x H1 => ofTy ty H1 x ∧ r x [] H1 Q) := (rfl)
theorem dBM_e (ty : String) (r : D → List D → DHp → DK → Prop) (to : DE) (t : DA) (τ : DSt) (H : DHp) (Q : DK) : dBM ty r to t τ H Q = (to τ H fun x H1 => ofTy ty H1 x ∧ t τ H1 fun xs H2 => r x xs H2 Q) := (rfl)
theorem dDisp_e (trs : List (DE × DE)) (τ : DSt) (H : DHp) (Q : DK) : dDisp trs τ H Q = (∀ p, H p = none → dPairs trs τ (dupd H p (.dK [])) fun ps H2 => H2 p = some (.dK []) ∧ match keysOf ps with
  | some kvs => (kvs.map (·.1)).Nodup ∧ kvs.length ≤ 15 ∧ Q (.ref p) (dupd H2 p (.dK kvs))
  | none => False) := (rfl)
theorem mAppend_e  (x : D) (ds : List D) (H : DHp) (Q : DK) : mAppend x ds H Q = (onLst H x fun p xs => match ds with
  | [d] => xs.length < sizeLine ∧ Q .non (dupd H p (.lst (xs ++ [d])))
  | _ => False) := (rfl)
theorem mPop_e  (x : D) (ds : List D) (H : DHp) (Q : DK) : mPop x ds H Q = (onLst H x fun p xs => match ds with
  | [] => (match xs[xs.length - 1]? with | some d => Q d (dupd H p (.lst xs.dropLast)) | none => False)
  | [.int i] => (-(2 ^ 63) ≤ i ∧ i < 2 ^ 63) ∧ (match ixN xs.length i with | some j => (match xs[j]? with | some d => Q d (dupd H p (.lst (xs.eraseIdx j))) | none => False) | none => False)
  | _ => False) := (rfl)
theorem dNewK_e  (z0 : DSt) (H : DHp) (Q : DK) : dNewK z0 H Q = (∀ p, H p = none → Q (.ref p) (dupd H p (.dK []))) := (rfl)
theorem dNewT_e  (z0 : DSt) (H : DHp) (Q : DK) : dNewT z0 H Q = (∀ p, H p = none → Q (.ref p) (dupd H p (.dT []))) := (rfl)
theorem dLstM_e (t : DA) (τ : DSt) (H : DHp) (Q : DK) : dLstM t τ H Q = (t τ H fun xs H1 => xs.length ≤ sizeLine ∧ ∀ p, H1 p = none → Q (.ref p) (dupd H1 p (.lst xs))) := (rfl)
theorem dFrz_e (t : DE) (τ : DSt) (H : DHp) (Q : DK) : dFrz t τ H Q = (t τ H fun x H1 => match x with
  | .ref p => match H1 p with
    | some (.lst xs) => Q (.lst xs) (derase H1 p)
    | _ => False
  | x => Q x H1) := (rfl)
theorem rReprD_e  (ds : List D) (H : DHp) (Q : DK) : rReprD ds H Q = (match ds with
  | [d] => showOk (peek H d) ∧ Q (.str (peek H d).py.shown) H
  | _ => False) := (rfl)
theorem rNeS_e  (x : D) (y : D) (H : DHp) (Q : DK) : rNeS x y H Q = (match x, y with
  | .str a, .str b => Q (.bl (!(a == b))) H
  | _, _ => False) := (rfl)
theorem rEqS_e  (x : D) (y : D) (H : DHp) (Q : DK) : rEqS x y H Q = (match x, y with
  | .str a, .str b => Q (.bl (a == b)) H
  | _, _ => False) := (rfl)
theorem asB_e (x : D) (k : Bool → Prop)  : asB x k = (match x with
  | .bl b => k b
  | _ => False) := (rfl)
theorem walkD_e (H : DHp) (d : D) (k : List D → (DHp → Prop) → Prop)  : walkD H d k = (match d with
  | .tup xs => k xs okT
  | .lst xs => k xs okT
  | .ref p => (match H p with
    | some (.lst xs) => k xs fun H' => H' p = some (.lst xs)
    | some (.scr xs) => k xs fun H' => H' p = some (.scr xs)
    | _ => False)
  | _ => False) := (rfl)
theorem lookD_e (H : DHp) (x y : D) (K : Option D → Prop)  : lookD H x y K = (match x with
  | .ref p => (match H p with
    | some (.dK kvs) => (match keyD y with | some k => K (dval kvs k) | none => False)
    | some (.dT kvs) => (match keyT y with | some k => K (dval kvs k) | none => False)
    | some (.lkK kvs _) => (match keyD y with | some k => K (dval kvs k) | none => False)
    | some (.lkT kvs _) => (match keyT y with | some k => K (dval kvs k) | none => False)
    | _ => False)
  | _ => False) := (rfl)
theorem storeD_e (H : DHp) (x y v : D) (K : DHp → Prop)  : storeD H x y v K = (match x with
  | .ref p => (match H p with
    | some (.dK kvs) => (match keyD y with | some k => kvs.length < sizeLine ∧ K (dupd H p (.dK (dput kvs k v))) | none => False)
    | some (.dT kvs) => (match keyT y with | some k => kvs.length < sizeLine ∧ K (dupd H p (.dT (dput kvs k v))) | none => False)
    | some (.lst xs) => (match y with | .int i => (match ixN xs.length i with | some j => K (dupd H p (.lst (xs.set j v))) | none => False) | _ => False)
    | _ => False)
  | _ => False) := (rfl)
theorem ofTy_e (T : String) (H : DHp) (x : D)  : ofTy T H x = (match x with
  | .str _ => T = "str"
  | .lst _ => T = "list"
  | .ref p => (match H p with
    | some (.lst _) => T = "list"
    | some (.dK _) => T = "dict"
    | some (.dT _) => T = "dict"
    | _ => False)
  | _ => False) := (rfl)
theorem onLst_e (H : DHp) (x : D) (k : Addr → List D → Prop)  : onLst H x k = (match x with
  | .ref p => (match H p with | some (.lst xs) => k p xs | _ => False)
  | _ => False) := (rfl)

theorem rEq_intF (i j : Int) (H : DHp) (Q : DK) : rEqD false (.int i) (.int j) H Q = Q (.bl (decide (i = j))) H := by
  have e : D.eq (.int i) (.int j) = decide (i = j) := by simp only [D.eq]; exact Bool.beq_eq_decide_eq i j
  refine propext ⟨fun h => e ▸ h.2, fun h => ⟨⟨rfl, rfl, .inl (Nat.zero_le _)⟩, ?_⟩⟩
  show Q (.bl (D.eq (.int i) (.int j))) H
  rw [e]
  exact h
theorem rEq_intT (i j : Int) (H : DHp) (Q : DK) : rEqD true (.int i) (.int j) H Q = Q (.bl (!decide (i = j))) H := by
  have e : D.eq (.int i) (.int j) = decide (i = j) := by simp only [D.eq]; exact Bool.beq_eq_decide_eq i j
  refine propext ⟨fun h => e ▸ h.2, fun h => ⟨⟨rfl, rfl, .inl (Nat.zero_le _)⟩, ?_⟩⟩
  show Q (.bl (!D.eq (.int i) (.int j))) H
  rw [e]
  exact h

/-! ### one statement, then the rest; while -/
theorem seq_step {t u : DS} {E : DEnds} {τ : DSt} {H : DHp} (P : DSt → DHp → Prop) (h : ∀ E' : DEnds, E'.rt = E.rt → E'.bk = E.bk → E'.ct = E.ct → (∀ τ H, P τ H → E'.nx τ H) → t E' τ H) (k : ∀ τ H, P τ H → u E τ H) : dSeq t u E τ H :=
  h { E with nx := u E } rfl rfl rfl k
theorem while_inv {c : DT} {tb : DS} {E : DEnds} {τ : DSt} {H : DHp} (W : Nat → DSt → DHp → Prop) {m : Nat} (h0 : W m τ H)
    (turn : ∀ m τ H, W m τ H → ∀ (E' : DEnds), E'.rt = E.rt → E'.bk = E.nx → (∀ m' τ' H', m' < m → W m' τ' H' → E'.nx τ' H') → (∀ m' τ' H', m' < m → W m' τ' H' → E'.ct τ' H') → c τ H fun b H1 => if b = true then tb E' τ H1 else E.nx τ H1) : dWhile c tb E τ H :=
  ⟨W, ⟨m, h0⟩, fun m τ H w => turn m τ H w { E with nx := fun τ' H' => ∃ m', m' < m ∧ W m' τ' H', ct := fun τ' H' => ∃ m', m' < m ∧ W m' τ' H', bk := E.nx } rfl rfl (fun m' _ _ hm z => ⟨m', hm, z⟩) fun m' _ _ hm z => ⟨m', hm, z⟩⟩
end DL

/-! DL10: sorted, max and min of a list, list(range(..)), over data. -/
namespace DL
open PySem PySem.Spec PyProof.Rows L2

/-! ### pairs of whole numbers -/
def pairs? : List D → Option (List (Int × Int))
  | [] => some []
  | .tup [.int a, .int b] :: r => (pairs? r).map ((a, b) :: ·)
  | _ => none
theorem pairs_of : ∀ {ds : List D} {ps : List (Int × Int)}, pairs? ds = some ps → ds = ps.map fun p => .tup [.int p.1, .int p.2]
  | [], ps, h => by cases h; rfl
  | d :: r, ps, h => by
    unfold pairs? at h
    split at h
    · rename_i e; cases e
    · rename_i a b r' e
      cases e
      cases q : pairs? r with
      | none => rw [q] at h; cases h
      | some qs =>
        rw [q] at h
        cases h
        rw [pairs_of q]
        rfl
    · cases h
theorem pairs_map : ∀ ps : List (Int × Int), pairs? (ps.map fun p => .tup [.int p.1, .int p.2]) = some ps
  | [] => rfl
  | p :: r => by simp [pairs?, pairs_map r]
/-- before, by the first number, then by the second -/
def lexLe (p q : Int × Int) : Prop := p.1 < q.1 ∨ (p.1 = q.1 ∧ p.2 ≤ q.2)
def tellL (mu : Bool) (xs : List D) (H : DHp) (Q : DK) : Prop := if mu = true then ∀ p, H p = none → Q (.ref p) (dupd H p (.lst xs)) else Q (.lst xs) H
def rSortD (mu : Bool) : DRC := fun ds H Q => match ds with
  | [d] => (match listOf H d with
    | some xs => (match ints? xs with
      | some ns => ∀ ns' : List Int, ns'.Perm ns → ns'.Pairwise (· ≤ ·) → tellL mu (ns'.map D.int) H Q
      | none => (match pairs? xs with
        | some ps => ∀ qs : List (Int × Int), qs.Perm ps → qs.Pairwise lexLe → tellL mu (qs.map fun p => .tup [.int p.1, .int p.2]) H Q
        | none => False))
    | none => False)
  | _ => False
section
variable {X : Cx} {T : Hp} {DH : DHp} {H : Hp} {a b c e : Expr} {es : List Expr} {ta tb tc te : DE} {t : DA} {pos : Pos}
theorem tell_fin {mu : Bool} {R : DK} {Q : VK} {xs : List D} {vs : List V} {p : Addr} (A : Abs T DH H) (r : RepL T xs vs) (u : Up T R Q) (h : tellL mu xs DH R) (hp : H p = none) : Q (.ref p) (upd H p (.lst vs)) := by
  unfold tellL at h
  cases mu with
  | true => rw [if_pos rfl] at h; exact fin_lstM A r u h hp
  | false => rw [if_neg Bool.false_ne_true] at h; exact fin_lst A r u h hp
/-- the two numbers of a pair, as it stands -/
noncomputable def keyV (H : Hp) (v : V) : Int × Int := open Classical in if h : ∃ (t : Addr) (i j : Int), v = .ref t ∧ H t = some (.tup [.int i, .int j]) then (h.choose_spec.choose, h.choose_spec.choose_spec.choose) else (0, 0)
theorem keyV_at {H : Hp} {t : Addr} {i j : Int} (h : H t = some (.tup [.int i, .int j])) : keyV H (.ref t) = (i, j) := by
  unfold keyV
  have ex : ∃ (t' : Addr) (i j : Int), (V.ref t) = .ref t' ∧ H t' = some (.tup [.int i, .int j]) := ⟨t, i, j, rfl, h⟩
  rw [dif_pos ex]
  have sp := ex.choose_spec.choose_spec.choose_spec
  have e1 : t = ex.choose := by injection sp.1
  have e3 : H ex.choose = some (.tup [.int i, .int j]) := by rw [← e1]; exact h
  have e2 := sp.2.symm.trans e3
  injection e2 with e2
  injection e2 with e2
  injection e2 with x1 e2
  injection e2 with x2 e2
  injection x1 with x1
  injection x2 with x2
  exact Prod.ext x1 x2
theorem pairs_rep : ∀ {ps : List (Int × Int)} {vs : List V}, RepL T (ps.map fun p => .tup [.int p.1, .int p.2]) vs → ∀ v ∈ vs, ∃ t i j, v = V.ref t ∧ T t = some (.tup [.int i, .int j])
  | [], vs, r, v, hv => by cases (show vs = [] from r); cases hv
  | p :: ps, vs, ⟨w, r, e, ⟨t, us, ew, et, eu⟩, r2⟩, v, hv => by
    subst e
    rcases List.mem_cons.mp hv with rfl | hv
    · obtain ⟨x, y, rfl, rx, ry⟩ := RepL.two eu
      exact ⟨t, p.1, p.2, ew, by rw [et]; rw [show x = .int p.1 from rx, show y = .int p.2 from ry]⟩
    · exact pairs_rep r2 v hv
theorem pairs_keys (sb : Sb T H) : ∀ {ps : List (Int × Int)} {vs : List V}, RepL T (ps.map fun p => .tup [.int p.1, .int p.2]) vs → vs.map (keyV H) = ps
  | [], vs, r => by cases (show vs = [] from r); rfl
  | p :: ps, vs, ⟨w, r, e, ⟨t, us, ew, et, eu⟩, r2⟩ => by
    subst e
    obtain ⟨x, y, rfl, rx, ry⟩ := RepL.two eu
    rw [show x = .int p.1 from rx, show y = .int p.2 from ry] at et
    rw [List.map_cons, pairs_keys sb r2, ew, keyV_at (sb _ _ et)]
theorem pairs_back (sb : Sb T H) : ∀ {vs : List V}, (∀ v ∈ vs, ∃ t i j, v = V.ref t ∧ T t = some (.tup [.int i, .int j])) → RepL T ((vs.map (keyV H)).map fun p => .tup [.int p.1, .int p.2]) vs
  | [], _ => .nil
  | v :: vs, h => by
    obtain ⟨t, i, j, rfl, et⟩ := h v (by simp)
    refine .cons ⟨t, _, rfl, et, ?_⟩ (pairs_back sb fun w hw => h w (by simp [hw]))
    rw [keyV_at (sb _ _ et)]
    exact .cons rfl (.cons rfl .nil)
theorem ints_none {vs : List V} : True := trivial
theorem cd_sorted {mu : Bool} : CallR X (.builtin "sorted") (loC (rSortD mu)) := crW (CallR.or (cr_sortedI (X := X)) (cr_sortedPO (X := X))) fun vs H Q ⟨T, DH, ds, R, A, r, h, w⟩ => by
  unfold rSortD at h
  split at h
  · rename_i d
    obtain ⟨v, rfl, rv⟩ := r.one
    split at h
    · rename_i xs el
      obtain ⟨p, us, rfl, hp, ru⟩ := listOf_rep (K := X.K) A rv el
      split at h
      · rename_i ns ei
        have e1 := ints_of ei
        subst e1
        have e2 := RepL.ints_inv ru
        subst e2
        exact .inl ⟨p, ns, rfl, SqL.of hp, fun ns' q h1 h2 h3 => tell_fin A (RepL.ints ns') w (h ns' h1 h2) h3⟩
      · split at h
        · rename_i ps ep
          have e1 := pairs_of ep
          subst e1
          refine .inr ⟨p, us, keyV H, rfl, SqL.of hp, fun x hx => ?_, fun ys q h1 h2 h3 => ?_⟩
          · obtain ⟨t, i, j, rfl, et⟩ := pairs_rep ru x hx
            exact ⟨t, rfl, by rw [keyV_at (A.sub _ _ et)]; exact A.sub _ _ et⟩
          · have hy : ∀ v ∈ ys, ∃ t i j, v = V.ref t ∧ T t = some (.tup [.int i, .int j]) := fun v hv => pairs_rep ru v (h2.perm.mem_iff.mp hv)
            refine tell_fin A (pairs_back A.sub hy) w (h _ ?_ ?_) h3
            · have := h2.perm.map (keyV H)
              rw [pairs_keys A.sub ru] at this
              exact this
            · refine List.pairwise_map.mpr (h1.imp fun {x y} z => ?_)
              have := SrtO.lexB_no.mp z
              unfold lexLe
              omega
        · exact h.elim
    · exact h.elim
  · exact h.elim
def rMaxL : DRC := fun ds H Q => match ds with
  | [d] => (match (listOf H d).bind ints? with | some ns => 0 < ns.length ∧ ∀ m, m ∈ ns → (∀ y, y ∈ ns → y ≤ m) → Q (.int m) H | none => False)
  | _ => False
def rMinL : DRC := fun ds H Q => match ds with
  | [d] => (match (listOf H d).bind ints? with | some ns => 0 < ns.length ∧ ∀ m, m ∈ ns → (∀ y, y ∈ ns → m ≤ y) → Q (.int m) H | none => False)
  | _ => False
theorem cd_max1 (hc : X.calm = true) : CallR X (.builtin "max") (loC rMaxL) := crW (cr_max hc) fun vs H Q ⟨T, DH, ds, R, A, r, h, w⟩ => by
  unfold rMaxL at h
  split at h
  · obtain ⟨v, rfl, rv⟩ := r.one
    split at h
    · rename_i ns e
      obtain ⟨p, rfl, hp⟩ := intsL (K := X.K) A rv e
      exact ⟨p, ns, rfl, SqL.of hp, h.1, fun m h1 h2 => w.int A (h.2 m h1 h2)⟩
    · exact h.elim
  · exact h.elim
theorem cd_min1 (hc : X.calm = true) : CallR X (.builtin "min") (loC rMinL) := crW (cr_min hc) fun vs H Q ⟨T, DH, ds, R, A, r, h, w⟩ => by
  unfold rMinL at h
  split at h
  · obtain ⟨v, rfl, rv⟩ := r.one
    split at h
    · rename_i ns e
      obtain ⟨p, rfl, hp⟩ := intsL (K := X.K) A rv e
      exact ⟨p, ns, rfl, SqL.of hp, h.1, fun m h1 h2 => w.int A (h.2 m h1 h2)⟩
    · exact h.elim
  · exact h.elim
/-! ### list(range(..)) -/
theorem rg_rep (lo hi : Int) : RepL T (rgD lo (hi - lo).toNat) (rgV lo hi) := by
  have e1 : rgD lo (hi - lo).toNat = ((List.range (hi - lo).toNat).map fun i => lo + (i : Nat)).map D.int := by unfold rgD; rw [List.map_map]; rfl
  have e2 : rgV lo hi = ((List.range (hi - lo).toNat).map fun i => lo + (i : Nat)).map V.int := by unfold rgV; rw [List.map_map]; rfl
  rw [e1, e2]
  exact RepL.ints _
def dLstRg1 (mu : Bool) (ta : DE) : DE := fun τ H Q => ta τ H fun x H1 => match x with
  | .int n => (0 ≤ n ∧ n ≤ 1000000) ∧ tellL mu (rgD 0 n.toNat) H1 Q
  | _ => False
def dLstRg2 (mu : Bool) (ta tb : DE) : DE := fun τ H Q => ta τ H fun x H1 => tb τ H1 fun y H2 => match x, y with
  | .int m, .int n => (0 ≤ m ∧ m ≤ 1000000 ∧ 0 ≤ n ∧ n ≤ 1000000) ∧ tellL mu (rgD m (n - m).toNat) H2 Q
  | _, _ => False
theorem qe_listRg1 {mu : Bool} {p p2 pos2 : Pos} (hc : X.calm = true) (hg : Gl X "list") (hm : X.mg "list" = none) (hg2 : Gl X "range") (hm2 : X.mg "range" = none) (ha : QE X a ta) (na : starEach [a] X.env = (false, eval a X.env) :: starEach [] X.env := by rfl)
    (nb : starEach [.Call (.Name "range" p2) [a] [] pos2] X.env = (false, eval (.Call (.Name "range" p2) [a] [] pos2) X.env) :: starEach [] X.env := by rfl) : QE X (.Call (.Name "list" p) [.Call (.Name "range" p2) [a] [] pos2] [] pos) (dLstRg1 mu ta) :=
  ⟨peW (pe_listRg hc hg hm (prg_1 hg2 hm2 ha.run na) nb) fun σ H Q ⟨T, DH, τ, R, A, S, h, u⟩ => ⟨T, DH, τ, _, A, S, h, fun T1 DH1 H1 x v s1 A1 r1 h1 => by
    split at h1
    · rename_i n
      refine ⟨n, r1, RgOk.of_le (by decide) (by omega) (by decide) h1.1.1, fun q hq => tell_fin A1 ?_ (u.up s1) h1.2 hq⟩
      have := rg_rep (T := T1) 0 n
      rwa [Int.sub_zero] at this
    · exact h1.elim⟩⟩
theorem qe_listRg2 {mu : Bool} {p p2 pos2 : Pos} (hc : X.calm = true) (hg : Gl X "list") (hm : X.mg "list" = none) (hg2 : Gl X "range") (hm2 : X.mg "range" = none) (ha : QE X a ta) (hb : QE X b tb) (na : starEach [a, b] X.env = (false, eval a X.env) :: starEach [b] X.env := by rfl)
    (nb : starEach [b] X.env = (false, eval b X.env) :: starEach [] X.env := by rfl) (hp : (backTo pos2 (starEach [b] X.env)).any (·.1) = false := by rfl)
    (nc : starEach [.Call (.Name "range" p2) [a, b] [] pos2] X.env = (false, eval (.Call (.Name "range" p2) [a, b] [] pos2) X.env) :: starEach [] X.env := by rfl) : QE X (.Call (.Name "list" p) [.Call (.Name "range" p2) [a, b] [] pos2] [] pos) (dLstRg2 mu ta tb) :=
  ⟨peW (pe_listRg hc hg hm (prg_2 hg2 hm2 ha.run hb.run na nb hp) nc) fun σ H Q ⟨T, DH, τ, R, A, S, h, u⟩ => ⟨T, DH, τ, _, A, S, h, fun T1 DH1 H1 x v s1 A1 r1 h1 => ⟨T1, DH1, τ, _, A1, S.up s1, h1, fun T2 DH2 H2 y z s2 A2 r2 h2 => by
    split at h2
    · rename_i m n
      refine ⟨m, n, r1.up s2, r2, RgOk.of_le h2.1.1 (by omega) (by omega) h2.1.2.2.1, fun q hq => tell_fin A2 (rg_rep m n) (u.up (s1.trans s2)) h2.2 hq⟩
    · exact h2.elim⟩⟩⟩
end
theorem tell_F (xs : List D) (H : DHp) (Q : DK) : tellL false xs H Q = Q (.lst xs) H := (rfl)
theorem tell_T (xs : List D) (H : DHp) (Q : DK) : tellL true xs H Q = ∀ p, H p = none → Q (.ref p) (dupd H p (.lst xs)) := (rfl)
theorem dLstRg1_e (mu : Bool) (ta : DE) (τ : DSt) (H : DHp) (Q : DK) : dLstRg1 mu ta τ H Q = (ta τ H fun x H1 => match x with
  | .int n => (0 ≤ n ∧ n ≤ 1000000) ∧ tellL mu (rgD 0 n.toNat) H1 Q
  | _ => False) := (rfl)
theorem dLstRg2_e (mu : Bool) (ta tb : DE) (τ : DSt) (H : DHp) (Q : DK) : dLstRg2 mu ta tb τ H Q = (ta τ H fun x H1 => tb τ H1 fun y H2 => match x, y with
  | .int m, .int n => (0 ≤ m ∧ m ≤ 1000000 ∧ 0 ≤ n ∧ n ≤ 1000000) ∧ tellL mu (rgD m (n - m).toNat) H2 Q
  | _, _ => False) := (rfl)
theorem rSortD_e (mu : Bool) (ds : List D) (H : DHp) (Q : DK) : rSortD mu ds H Q = (match ds with
  | [d] => (match listOf H d with
    | some xs => (match ints? xs with
      | some ns => ∀ ns' : List Int, ns'.Perm ns → ns'.Pairwise (· ≤ ·) → tellL mu (ns'.map D.int) H Q
      | none => (match pairs? xs with
        | some ps => ∀ qs : List (Int × Int), qs.Perm ps → qs.Pairwise lexLe → tellL mu (qs.map fun p => .tup [.int p.1, .int p.2]) H Q
        | none => False))
    | none => False)
  | _ => False) := (rfl)
theorem rMaxL_e (ds : List D) (H : DHp) (Q : DK) : rMaxL ds H Q = (match ds with
  | [d] => (match (listOf H d).bind ints? with | some ns => 0 < ns.length ∧ ∀ m, m ∈ ns → (∀ y, y ∈ ns → y ≤ m) → Q (.int m) H | none => False)
  | _ => False) := (rfl)
theorem rMinL_e (ds : List D) (H : DHp) (Q : DK) : rMinL ds H Q = (match ds with
  | [d] => (match (listOf H d).bind ints? with | some ns => 0 < ns.length ∧ ∀ m, m ∈ ns → (∀ y, y ∈ ns → m ≤ y) → Q (.int m) H | none => False)
  | _ => False) := (rfl)
end DL

/-! DL11: starred items of a display. -/
namespace DL
open PySem PySem.Spec PyProof.Rows L2
section
variable {X : Cx} {e : Expr} {es : List Expr} {te : DE} {t : DA} {p : Pos}
def dStar (te : DE) (t : DA) : DA := fun τ H Q => te τ H fun x H1 => match seqOf H1 x with
  | some xs => t τ H1 fun ys H2 => Q (xs ++ ys) H2
  | none => False
theorem qa_star (he : QE X e te) (hr : QA X es t) (hs : starEach (.Starred e p :: es) X.env = (true, eval e X.env) :: starEach es X.env := by rfl) : QA X (.Starred e p :: es) (dStar te t) :=
  ⟨paW (StX.pa_star he.run hr.run hs) fun σ H Q ⟨T, DH, τ, R, A, S, h, u⟩ => ⟨T, DH, τ, _, A, S, h, fun T1 DH1 H1 x v s1 A1 r1 h1 => by
    split at h1
    · rename_i xs el
      obtain ⟨q, vs, rfl, hq, rr⟩ := seqOf_rep (K := X.K) A1 r1 el
      exact ⟨q, vs, rfl, hq.symm, T1, DH1, τ, _, A1, S.up s1, h1, fun T2 DH2 H2 ys ws s2 A2 r2 h2 => u T2 DH2 H2 _ _ (s1.trans s2) A2 ((RepL.up s2 _ _ rr).append r2) h2⟩
    · exact h1.elim⟩⟩
end
theorem dStar_e (te : DE) (t : DA) (τ : DSt) (H : DHp) (Q : List D → DHp → Prop) : dStar te t τ H Q = (te τ H fun x H1 => match seqOf H1 x with
  | some xs => t τ H1 fun ys H2 => Q (xs ++ ys) H2
  | none => False) := (rfl)
end DL

/-! TL1: the typed layer: values by encoders, expressions that tell a value and leave the data heap as it is. -/
namespace DL
open PySem PySem.Spec PyProof.Rows L2

/-! ### encoders -/
abbrev eI : Int → D := D.int
abbrev eB : Bool → D := D.bl
abbrev eS : Str → D := D.str
abbrev eD : D → D := fun d => d
abbrev eU : Unit → D := fun _ => .non
def eT {α : Type} (e : α → D) (xs : List α) : D := .tup (xs.map e)
def eL {α : Type} (e : α → D) (xs : List α) : D := .lst (xs.map e)
def eTup {α : Type} (l : α → List D) (a : α) : D := .tup (l a)
def c1 {α : Type} (e : α → D) (a : α) : List D := [e a]
def cc {α β : Type} (e : α → D) (l : β → List D) (p : α × β) : List D := e p.1 :: l p.2
def eO {α : Type} (e : α → D) : Option α → D
  | none => .non
  | some a => e a
abbrev eR : Int × Int → D := eTup (cc eI (c1 eI))
abbrev eF : Int × List (Int × Int) → D := eTup (cc eI (c1 (eT eR)))

class Gd {α : Type} (e : α → D) where
  dp : Nat
  plain : ∀ a, (e a).plain = true
  dep : ∀ a, (e a).dep ≤ dp
  inj : ∀ a b, D.eq (e a) (e b) = true → a = b
  refl : ∀ a, D.eq (e a) (e a) = true
class GdL {α : Type} (l : α → List D) where
  dp : Nat
  plain : ∀ a, plainL (l a) = true
  dep : ∀ a, depL (l a) ≤ dp
  inj : ∀ a b, eqL (l a) (l b) = true → a = b
  refl : ∀ a, eqL (l a) (l a) = true
/-- never None -/
class NN {α : Type} (e : α → D) : Prop where
  nn : ∀ a, isNon (e a) = false
instance : Gd eI := ⟨0, fun _ => rfl, fun _ => Nat.le_refl _, fun a b h => by simpa [D.eq] using h, fun a => by simp [D.eq]⟩
instance : Gd eB := ⟨0, fun _ => rfl, fun _ => Nat.le_refl _, fun a b h => by simpa [D.eq] using h, fun a => by simp [D.eq]⟩
instance : Gd eU := ⟨0, fun _ => rfl, fun _ => Nat.le_refl _, fun a b h => rfl, fun a => by simp [D.eq]⟩
instance : NN eI := ⟨fun _ => rfl⟩
instance : NN eB := ⟨fun _ => rfl⟩
instance {α : Type} {e : α → D} : NN (eT e) := ⟨fun _ => rfl⟩
instance {α : Type} {e : α → D} : NN (eL e) := ⟨fun _ => rfl⟩
instance {α : Type} {l : α → List D} : NN (eTup l) := ⟨fun _ => rfl⟩
section
variable {α β : Type} {e : α → D}
theorem plainL_map [Gd e] : ∀ xs : List α, plainL (xs.map e) = true
  | [] => rfl
  | x :: xs => by simp [plainL, Gd.plain x, plainL_map xs]
theorem depL_map [g : Gd e] : ∀ xs : List α, depL (xs.map e) ≤ g.dp
  | [] => Nat.zero_le _
  | x :: xs => by
    have h1 := g.dep x
    have h2 := depL_map (g := g) xs
    simp only [List.map_cons, depL]
    omega
theorem eqL_inj [g : Gd e] : ∀ xs ys : List α, eqL (xs.map e) (ys.map e) = true → xs = ys
  | [], [], _ => rfl
  | [], y :: ys, h => by simp [eqL] at h
  | x :: xs, [], h => by simp [eqL] at h
  | x :: xs, y :: ys, h => by
    simp only [List.map_cons, eqL, Bool.and_eq_true] at h
    rw [g.inj x y h.1, eqL_inj xs ys h.2]
theorem eqL_refl [g : Gd e] : ∀ xs : List α, eqL (xs.map e) (xs.map e) = true
  | [] => rfl
  | x :: xs => by simp only [List.map_cons, eqL, g.refl x, eqL_refl xs, Bool.and_self]
instance gdT [g : Gd e] : Gd (eT e) := ⟨g.dp + 1, fun xs => plainL_map xs, fun xs => Nat.succ_le_succ (depL_map xs), fun xs ys h => eqL_inj xs ys h, fun xs => eqL_refl xs⟩
instance gdLs [g : Gd e] : Gd (eL e) := ⟨g.dp + 1, fun xs => plainL_map xs, fun xs => Nat.succ_le_succ (depL_map xs), fun xs ys h => eqL_inj xs ys h, fun xs => eqL_refl xs⟩
instance gdTup {l : α → List D} [g : GdL l] : Gd (eTup l) := ⟨g.dp + 1, fun a => g.plain a, fun a => Nat.succ_le_succ (g.dep a), fun a b h => g.inj a b h, fun a => g.refl a⟩
instance gdC1 [g : Gd e] : GdL (c1 e) := ⟨g.dp, fun a => by simp [c1, plainL, g.plain a], fun a => by have := g.dep a; simp only [c1, depL]; omega, fun a b h => by simp only [c1, eqL, Bool.and_true] at h; exact g.inj a b h, fun a => by simp only [c1, eqL, g.refl a, Bool.and_self]⟩
instance gdCC {l : β → List D} [g : Gd e] [g2 : GdL l] : GdL (cc e l) := ⟨max g.dp g2.dp, fun a => by simp [cc, plainL, g.plain a.1, g2.plain a.2], fun a => by have := g.dep a.1; have := g2.dep a.2; simp only [cc, depL]; omega, fun a b h => by
  simp only [cc, eqL, Bool.and_eq_true] at h
  exact Prod.ext (g.inj _ _ h.1) (g2.inj _ _ h.2), fun a => by simp only [cc, eqL, g.refl a.1, g2.refl a.2, Bool.and_self]⟩
theorem nonL_eq {x : D} (h : isNon x = false) : D.eq .non x = false ∧ D.eq x .non = false := by
  cases x <;> first | (cases h; done) | (constructor <;> simp [D.eq])
instance gdO [g : Gd e] [n : NN e] : Gd (eO e) := ⟨g.dp, fun a => by cases a with | none => rfl | some a => exact g.plain a, fun a => by cases a with | none => exact Nat.zero_le _ | some a => exact g.dep a, fun a b h => by
  cases a with
  | none => cases b with
    | none => rfl
    | some b => simp only [eO] at h; rw [(nonL_eq (n.nn b)).1] at h; cases h
  | some a => cases b with
    | none => simp only [eO] at h; rw [(nonL_eq (n.nn a)).2] at h; cases h
    | some b => exact congrArg some (g.inj a b h), fun a => by cases a with | none => rfl | some a => exact g.refl a⟩
theorem eq_dec [g : Gd e] [DecidableEq α] (x y : α) : D.eq (e x) (e y) = decide (x = y) := by
  by_cases h : x = y
  · subst h; rw [g.refl]; simp
  · rw [decide_eq_false h]
    cases q : D.eq (e x) (e y) with
    | false => rfl
    | true => exact absurd (g.inj x y q) h
theorem mem_dec [g : Gd e] [DecidableEq α] (x : α) (xs : List α) : memD (e x) (xs.map e) = decide (x ∈ xs) := by
  induction xs with
  | nil => rfl
  | cons y ys ih =>
    unfold memD at ih ⊢
    simp only [List.map_cons, List.any_cons, ih, eq_dec y x, List.mem_cons, Bool.decide_or]
    congr 1
    exact decide_eq_decide.mpr eq_comm
theorem peek_plain {d : D} (h : d.plain = true) (H : DHp) : peek H d = d := by
  cases d <;> first | rfl | cases h
theorem peek_gd [g : Gd e] (H : DHp) (x : α) : peek H (e x) = e x := peek_plain (g.plain x) H
theorem isNon_O [n : NN e] (x : Option α) : isNon (eO e x) = x.isNone := by
  cases x with
  | none => rfl
  | some a => exact n.nn a
end

/-! ### typed functions -/
def rng (a b : Int) : List Int := (List.range (b - a).toNat).map fun i => a + (i : Nat)
theorem mem_rng {a b i : Int} : i ∈ rng a b ↔ a ≤ i ∧ i < b := by
  unfold rng
  simp only [List.mem_map, List.mem_range]
  constructor
  · rintro ⟨k, h, rfl⟩; omega
  · rintro ⟨h1, h2⟩; exact ⟨(i - a).toNat, by omega, by omega⟩
theorem rng_length (a b : Int) : (rng a b).length = (b - a).toNat := by simp [rng]
theorem rng_map (a b : Int) : rgD a (b - a).toNat = (rng a b).map eI := by unfold rng rgD; rw [List.map_map]; rfl
theorem rng_map0 (b : Int) : rgD 0 b.toNat = (rng 0 b).map eI := by have := rng_map 0 b; rwa [Int.sub_zero] at this
def enumF {α : Type} : Int → List α → List (Int × α)
  | _, [] => []
  | i, x :: xs => (i, x) :: enumF (i + 1) xs
theorem enum_map {α : Type} {e : α → D} : ∀ (i : Int) (xs : List α), enumD i (xs.map e) = (enumF i xs).map (eTup (cc eI (c1 e)))
  | _, [] => rfl
  | i, x :: xs => by simp only [List.map_cons, enumD, enumF, enum_map (i + 1) xs]; rfl
theorem zip_map {α β : Type} {e : α → D} {f : β → D} : ∀ (xs : List α) (ys : List β), zipD (xs.map e) (ys.map f) = (xs.zip ys).map (eTup (cc e (c1 f)))
  | [], _ => by simp [zipD]
  | _ :: _, [] => by simp [zipD]
  | x :: xs, y :: ys => by
    have := zip_map (e := e) (f := f) xs ys
    unfold zipD at this ⊢
    simp only [List.map_cons, List.zipWith_cons_cons, List.zip_cons_cons, this]; rfl
def ix {α : Type} [Inhabited α] (xs : List α) (i : Int) : α := (atI xs i).getD default
def inIx {α : Type} (xs : List α) (i : Int) : Prop := -(xs.length : Int) ≤ i ∧ i < xs.length
theorem atI_map {α : Type} (e : α → D) (xs : List α) (i : Int) : atI (xs.map e) i = (atI xs i).map e := by
  unfold atI
  simp only [List.length_map]
  cases ixN xs.length i with
  | none => rfl
  | some k => simp
theorem atI_in {α : Type} [Inhabited α] {xs : List α} {i : Int} (h : inIx xs i) : atI xs i = some (ix xs i) := by
  obtain ⟨h1, h2⟩ := h
  unfold ix atI ixN
  by_cases hi : 0 ≤ i
  · rw [if_pos hi, if_pos (by omega)]
    simp only [Option.bind_some]
    rw [List.getElem?_eq_getElem (by omega)]
    rfl
  · rw [if_neg hi, if_pos (by omega)]
    simp only [Option.bind_some]
    rw [List.getElem?_eq_getElem (by omega)]
    rfl
def cut {α : Type} (xs : List α) (lo hi : Option Int) : List α := (xs.drop (HT.sIx xs.length 0 lo)).take (HT.sIx xs.length xs.length hi - HT.sIx xs.length 0 lo)
theorem cut_map {α : Type} (e : α → D) (xs : List α) (lo hi : Option Int) : cutD (xs.map e) lo hi = (cut xs lo hi).map e := by
  unfold cutD cut
  simp only [List.length_map, List.map_take, List.map_drop]

/-! ### expressions that tell a value -/
section
variable {τ : DSt} {H : DHp}
def Ev (te : DE) (τ : DSt) (H : DHp) (d : D) : Prop := ∀ Q : DK, Q d H → te τ H Q
def EvT (t : DT) (τ : DSt) (H : DHp) (b : Bool) : Prop := ∀ Q : Bool → DHp → Prop, Q b H → t τ H Q
def EvA (t : DA) (τ : DSt) (H : DHp) (ds : List D) : Prop := ∀ Q : List D → DHp → Prop, Q ds H → t τ H Q
def EvI (t : DI) (τ : DSt) (H : DHp) (xs : List D) (ok : DHp → Prop) : Prop := ok H ∧ ∀ R : List D → (DHp → Prop) → DHp → Prop, R xs ok H → t τ H R
def EvO (t : DO') (τ : DSt) (H : DHp) (o : Option Int) : Prop := ∀ Q : Option Int → DHp → Prop, Q o H → t τ H Q
/-- a rule of two operands -/
def Rv2 (r : DR2) (x y : D) (H : DHp) (d : D) : Prop := ∀ Q : DK, Q d H → r x y H Q
def RvC (r : DRC) (ds : List D) (H : DHp) (d : D) : Prop := ∀ Q : DK, Q d H → r ds H Q
theorem Ev.to {te : DE} {d d' : D} (h : Ev te τ H d) (e : d = d') : Ev te τ H d' := e ▸ h
theorem ev_var {i : Nat} {d : D} (h : τ[i]? = some (some d)) : Ev (dVar i) τ H d := fun Q q => by rw [dVar_e, h]; exact q
theorem ev_c {d : D} : Ev (dC d) τ H d := fun Q q => q
theorem ev_op {r : DR2} {ta tb : DE} {x y d : D} (ha : Ev ta τ H x) (hb : Ev tb τ H y) (hr : Rv2 r x y H d) : Ev (dOp r ta tb) τ H d := fun Q q => ha _ (hb _ (hr Q q))
theorem ev_cb {r : DRC} {t : DA} {ds : List D} {d : D} (ha : EvA t τ H ds) (hr : RvC r ds H d) : Ev (dCB r t) τ H d := fun Q q => ha _ (hr Q q)
theorem ev_neg {ta : DE} {i : Int} (ha : Ev ta τ H (.int i)) : Ev (dUn rNegD ta) τ H (.int (-i)) := fun Q q => ha _ q
theorem ea_nil : EvA dNil τ H [] := fun Q q => q
theorem ea_cons {te : DE} {t : DA} {d : D} {ds : List D} (h : Ev te τ H d) (r : EvA t τ H ds) : EvA (dCons te t) τ H (d :: ds) := fun Q q => h _ (r _ q)
theorem ea_star {te : DE} {t : DA} {d : D} {xs ds : List D} (h : Ev te τ H d) (s : seqOf H d = some xs) (r : EvA t τ H ds) : EvA (dStar te t) τ H (xs ++ ds) := fun Q q => h _ (by
  show (match seqOf H d with | some xs => _ | none => False)
  rw [s]
  exact r _ q)
theorem ev_tup {t : DA} {ds : List D} (h : EvA t τ H ds) (hl : ds.length ≤ sizeLine) : Ev (dTup t) τ H (.tup ds) := fun Q q => h _ ⟨hl, q⟩
theorem ev_lst {t : DA} {ds : List D} (h : EvA t τ H ds) (hl : ds.length ≤ sizeLine) : Ev (dLst t) τ H (.lst ds) := fun Q q => h _ ⟨hl, q⟩
/- tests -/
theorem et_b {te : DE} {b : Bool} (h : Ev te τ H (.bl b)) : EvT (dB te) τ H b := fun Q q => h _ q
theorem et_and {t u : DT} {a b : Bool} (h1 : EvT t τ H a) (h2 : a = true → EvT u τ H b) : EvT (dAnd t u) τ H (a && b) := fun Q q => h1 _ (by
  cases a with
  | true => exact h2 rfl _ q
  | false => exact q)
theorem et_or {t u : DT} {a b : Bool} (h1 : EvT t τ H a) (h2 : a = false → EvT u τ H b) : EvT (dOr t u) τ H (a || b) := fun Q q => h1 _ (by
  cases a with
  | true => exact q
  | false => exact h2 rfl _ q)
theorem et_not {t : DT} {a : Bool} (h1 : EvT t τ H a) : EvT (dNot t) τ H (!a) := fun Q q => h1 _ q
theorem ev_andV {t u : DE} {a b : Bool} (h1 : Ev t τ H (.bl a)) (h2 : a = true → Ev u τ H (.bl b)) : Ev (dAndV t u) τ H (.bl (a && b)) := fun Q q => h1 _ (by
  cases a with
  | true => exact h2 rfl _ q
  | false => exact q)
theorem ev_orV {t u : DE} {a b : Bool} (h1 : Ev t τ H (.bl a)) (h2 : a = false → Ev u τ H (.bl b)) : Ev (dOrV t u) τ H (.bl (a || b)) := fun Q q => h1 _ (by
  cases a with
  | true => exact q
  | false => exact h2 rfl _ q)
theorem ev_notV {t : DE} {a : Bool} (h1 : Ev t τ H (.bl a)) : Ev (dNotV t) τ H (.bl (!a)) := fun Q q => h1 _ q
theorem ev_if {α : Type} (e : α → D) {c : DT} {ta tb : DE} {b : Bool} {x y : α} (hc : EvT c τ H b) (h1 : b = true → Ev ta τ H (e x)) (h2 : b = false → Ev tb τ H (e y)) : Ev (dIf c ta tb) τ H (e (if b = true then x else y)) := fun Q q => hc _ (by
  cases b with
  | true => exact h1 rfl _ q
  | false => exact h2 rfl _ q)
theorem ev_chain {r r' : DR2} {ta tb tc : DE} {x y z : D} {a b : Bool} (ha : Ev ta τ H x) (hb : Ev tb τ H y) (h1 : Rv2 r x y H (.bl a)) (h2 : a = true → Ev tc τ H z) (h3 : a = true → Rv2 r' y z H (.bl b)) : Ev (dChain r r' ta tb tc) τ H (.bl (a && b)) := fun Q q => ha _ (hb _ (h1 _ (by
  cases a with
  | true => exact h2 rfl _ (h3 rfl _ q)
  | false => exact q)))
/- operators -/
theorem r_add {i j : Int} : Rv2 rAddD (.int i) (.int j) H (.int (i + j)) := fun Q q => q
theorem r_sub {i j : Int} : Rv2 (rIntD (fun _ _ => True) fun i j => .int (i - j)) (.int i) (.int j) H (.int (i - j)) := fun Q q => ⟨trivial, q⟩
theorem r_mul {i j : Int} (h : CMulD i j) : Rv2 rMulD (.int i) (.int j) H (.int (i * j)) := fun Q q => ⟨h, q⟩
theorem r_fdiv {i j : Int} (h : 0 < j) (h2 : j < 2 ^ 64) : Rv2 rFdiv (.int i) (.int j) H (.int (i / j)) := fun Q q => ⟨⟨h, by
  have : j.natAbs.log2 < 64 := (Nat.log2_lt (by omega)).2 (by omega)
  omega⟩, q⟩
theorem r_mod {i j : Int} (h : 0 < j) : Rv2 rMod (.int i) (.int j) H (.int (i % j)) := fun Q q => ⟨h, q⟩
theorem r_pow {i j : Int} (h : 0 ≤ j ∧ (Builtin.Int.intBits i : Int) * j ≤ 2 ^ 27) : Rv2 rPow (.int i) (.int j) H (.int (i ^ j.toNat)) := fun Q q => ⟨h, q⟩
theorem r_lt {i j : Int} : Rv2 (rIntD (fun _ _ => True) fun i j => .bl (decide (i < j))) (.int i) (.int j) H (.bl (decide (i < j))) := fun Q q => ⟨trivial, q⟩
theorem r_le {i j : Int} : Rv2 (rIntD (fun _ _ => True) fun i j => .bl (decide (i ≤ j))) (.int i) (.int j) H (.bl (decide (i ≤ j))) := fun Q q => ⟨trivial, q⟩
theorem r_gt {i j : Int} : Rv2 (rIntD (fun _ _ => True) fun i j => .bl (decide (j < i))) (.int i) (.int j) H (.bl (decide (j < i))) := fun Q q => ⟨trivial, q⟩
theorem r_ge {i j : Int} : Rv2 (rIntD (fun _ _ => True) fun i j => .bl (decide (j ≤ i))) (.int i) (.int j) H (.bl (decide (j ≤ i))) := fun Q q => ⟨trivial, q⟩
theorem r_catT {α : Type} {e : α → D} {xs ys : List α} (h : xs.length + ys.length ≤ sizeLine) : Rv2 rAddD (eT e xs) (eT e ys) H (eT e (xs ++ ys)) := fun Q q => by
  show (xs.map e).length + (ys.map e).length ≤ sizeLine ∧ _
  rw [List.length_map, List.length_map]
  refine ⟨h, ?_⟩
  rw [← List.map_append]
  exact q
theorem r_catL {α : Type} {e : α → D} {xs ys : List α} {x y : D} (h : xs.length + ys.length ≤ sizeLine) (px : peek H x = eL e xs) (py : peek H y = eL e ys) : Rv2 rAddD x y H (eL e (xs ++ ys)) := fun Q q => by
  rw [rAddD_e, px, py]
  show (xs.map e).length + (ys.map e).length ≤ sizeLine ∧ _
  rw [List.length_map, List.length_map]
  refine ⟨h, ?_⟩
  rw [← List.map_append]
  exact q
theorem r_rep {α : Type} {e : α → D} {xs : List α} {x : D} {k : Int} (h : xs.length * k.toNat ≤ sizeLine) (h2 : k < 2 ^ 63) (h3 : -(2 ^ 63) ≤ k) (px : peek H x = eL e xs) : Rv2 rMulD x (.int k) H (eL e (List.replicate k.toNat xs).flatten) := fun Q q => by
  rw [rMulD_e, px]
  refine ⟨⟨h3, h2, by rw [List.length_map]; exact h⟩, ?_⟩
  have e : (List.replicate k.toNat (xs.map e)).flatten = ((List.replicate k.toNat xs).flatten).map e := by
    rw [List.map_flatten, List.map_replicate]
  rw [e]
  exact q
theorem r_eq {α : Type} {e : α → D} [g : Gd e] [DecidableEq α] {x y : α} {a b : D} (hd : g.dp ≤ 60) (pa : peek H a = e x) (pb : peek H b = e y) : Rv2 (rEqD false) a b H (.bl (decide (x = y))) := fun Q q => by
  rw [rEqD_e, pa, pb]
  refine ⟨⟨g.plain x, g.plain y, .inl (Nat.le_trans (g.dep x) hd)⟩, ?_⟩
  rw [eq_dec]
  exact q
theorem r_ne {α : Type} {e : α → D} [g : Gd e] [DecidableEq α] {x y : α} {a b : D} (hd : g.dp ≤ 60) (pa : peek H a = e x) (pb : peek H b = e y) : Rv2 (rEqD true) a b H (.bl (!decide (x = y))) := fun Q q => by
  rw [rEqD_e, pa, pb]
  refine ⟨⟨g.plain x, g.plain y, .inl (Nat.le_trans (g.dep x) hd)⟩, ?_⟩
  rw [eq_dec]
  exact q
theorem r_eqD {x y : D} (h : eqOk x y) : Rv2 (rEqD false) x y H (.bl (D.eq x y)) := fun Q q => by
  rw [rEqD_e, peek_plain h.1, peek_plain h.2.1]
  exact ⟨h, q⟩
theorem r_neD {x y : D} (h : eqOk x y) : Rv2 (rEqD true) x y H (.bl (!D.eq x y)) := fun Q q => by
  rw [rEqD_e, peek_plain h.1, peek_plain h.2.1]
  exact ⟨h, q⟩
theorem r_in {α : Type} {e : α → D} [g : Gd e] [DecidableEq α] {x : α} {xs : List α} {b : D} (hd : g.dp ≤ 60) (sb : seqOf H b = some (xs.map e)) : Rv2 (rInD false) (e x) b H (.bl (decide (x ∈ xs))) := fun Q q => by
  show (match seqOf H b with | some ys => _ | none => False)
  rw [sb, peek_gd]
  refine ⟨⟨g.plain x, plainL_map xs, .inl (Nat.le_trans (g.dep x) hd)⟩, ?_⟩
  rw [mem_dec]
  exact q
theorem r_nin {α : Type} {e : α → D} [g : Gd e] [DecidableEq α] {x : α} {xs : List α} {b : D} (hd : g.dp ≤ 60) (sb : seqOf H b = some (xs.map e)) : Rv2 (rInD true) (e x) b H (.bl (!decide (x ∈ xs))) := fun Q q => by
  show (match seqOf H b with | some ys => _ | none => False)
  rw [sb, peek_gd]
  refine ⟨⟨g.plain x, plainL_map xs, .inl (Nat.le_trans (g.dep x) hd)⟩, ?_⟩
  rw [mem_dec]
  exact q
theorem r_is {α : Type} {e : α → D} [NN e] {x : Option α} : Rv2 (rIsN false) (eO e x) .non H (.bl x.isNone) := fun Q q => by
  show Q (.bl (isNon (eO e x))) H
  rw [isNon_O]
  exact q
theorem r_isnot {α : Type} {e : α → D} [NN e] {x : Option α} : Rv2 (rIsN true) (eO e x) .non H (.bl x.isSome) := fun Q q => by
  show Q (.bl (!isNon (eO e x))) H
  rw [isNon_O]
  cases x <;> exact q
theorem r_isD {x : D} : Rv2 (rIsN false) x .non H (.bl (isNon x)) := fun Q q => q
theorem r_isnotD {x : D} : Rv2 (rIsN true) x .non H (.bl (!isNon x)) := fun Q q => q
theorem seqT {α : Type} {e : α → D} {xs : List α} : seqOf H (eT e xs) = some (xs.map e) := rfl
theorem seqL {α : Type} {e : α → D} {xs : List α} : seqOf H (eL e xs) = some (xs.map e) := rfl
theorem seqP {α : Type} {e : α → D} {p : α × α} : seqOf H (eTup (cc e (c1 e)) p) = some ([p.1, p.2].map e) := rfl
theorem seqP3 {α : Type} {e : α → D} {p : α × α × α} : seqOf H (eTup (cc e (cc e (c1 e))) p) = some ([p.1, p.2.1, p.2.2].map e) := rfl
theorem seqR {α : Type} {e : α → D} {xs : List α} {p : Addr} (h : H p = some (.lst (xs.map e))) : seqOf H (.ref p) = some (xs.map e) := seqOf_ref h
theorem peekR {α : Type} {e : α → D} {xs : List α} {p : Addr} (h : H p = some (.lst (xs.map e))) : peek H (.ref p) = eL e xs := peek_ref h
theorem r_ix {α : Type} [Inhabited α] {e : α → D} {xs : List α} {i : Int} {a : D} (sa : seqOf H a = some (xs.map e)) (h : inIx xs i) : Rv2 rIxD a (.int i) H (e (ix xs i)) := fun Q q => by
  rw [rIxD_e, sa]
  show (match atI (xs.map e) i with | some d => Q d H | none => False)
  rw [atI_map, atI_in h]
  exact q
/-- a member of a written tuple -/
theorem r_ixP {ds : List D} {i : Int} {d : D} (h : atI ds i = some d) : Rv2 rIxD (.tup ds) (.int i) H d := fun Q q => by
  rw [rIxD_e]
  show (match atI ds i with | some d => Q d H | none => False)
  rw [h]
  exact q
/- calls -/
theorem c_len {α : Type} {e : α → D} {xs : List α} {a : D} (sa : seqOf H a = some (xs.map e)) : RvC rLenD [a] H (.int xs.length) := fun Q q => by
  rw [rLenD_e]
  rcases seqOf_peek' sa with z | z <;> simp only [z, List.length_map] <;> exact q
where
  seqOf_peek' {H : DHp} {d : D} {xs : List D} (h : seqOf H d = some xs) : peek H d = .lst xs ∨ peek H d = .tup xs := by
    unfold seqOf at h
    split at h
    · rename_i y e; cases h; exact .inl e
    · rename_i y e; cases h; exact .inr e
    · cases h
theorem c_abs {i : Int} : RvC rAbsD [.int i] H (.int (if i < 0 then -i else i)) := fun Q q => q
theorem c_max2 {i j : Int} : RvC rMax2 [.int i, .int j] H (.int (max i j)) := fun Q q => by
  show Q (.int (if j > i then j else i)) H
  rw [show (if j > i then j else i) = max i j by omega]
  exact q
theorem c_min2 {i j : Int} : RvC rMin2 [.int i, .int j] H (.int (min i j)) := fun Q q => by
  show Q (.int (if j < i then j else i)) H
  rw [show (if j < i then j else i) = min i j by omega]
  exact q
theorem c_tup {α : Type} {e : α → D} {xs : List α} {a : D} (sa : seqOf H a = some (xs.map e)) : RvC rTupD [a] H (eT e xs) := fun Q q => by
  show (match seqOf H a with | some xs => Q (.tup xs) H | none => False)
  rw [sa]
  exact q
theorem c_lst {α : Type} {e : α → D} {xs : List α} {a : D} (sa : seqOf H a = some (xs.map e)) : RvC (rLstD false) [a] H (eL e xs) := fun Q q => by
  show (match seqOf H a with | some xs => _ | none => False)
  rw [sa]
  exact q
theorem c_int {i : Int} : RvC rIntCD [.int i] H (.int i) := fun Q q => q
theorem c_sum {xs : List Int} {a : D} (pa : peek H a = eL eI xs) : RvC rSumD [a] H (.int xs.sum) := fun Q q => by
  show (match (listOf H a).bind ints? with | some ns => Q (.int ns.sum) H | none => False)
  unfold listOf
  rw [pa]
  show (match ints? (xs.map D.int) with | some ns => Q (.int ns.sum) H | none => False)
  rw [ints_map]
  exact q
theorem c_all {xs : List Bool} {a : D} (pa : peek H a = eL eB xs) : RvC (rAllD true) [a] H (.bl (xs.all id)) := fun Q q => by
  show (match (listOf H a).bind bls? with | some ns => _ | none => False)
  unfold listOf
  rw [pa]
  show (match bls? (xs.map D.bl) with | some ns => _ | none => False)
  rw [bls_map]
  exact q
theorem c_any {xs : List Bool} {a : D} (pa : peek H a = eL eB xs) : RvC (rAllD false) [a] H (.bl (xs.any id)) := fun Q q => by
  show (match (listOf H a).bind bls? with | some ns => _ | none => False)
  unfold listOf
  rw [pa]
  show (match bls? (xs.map D.bl) with | some ns => _ | none => False)
  rw [bls_map]
  exact q
/- slices -/
theorem eo_none : EvO dNoPart τ H none := fun Q q => q
theorem eo_some {te : DE} {i : Int} (h : Ev te τ H (.int i)) : EvO (dPart te) τ H (some i) := fun Q q => h _ q
theorem ev_slT {α : Type} {e : α → D} {xs : List α} {te : DE} {tl th : DO'} {lo hi : Option Int} (h : Ev te τ H (eT e xs)) (h1 : EvO tl τ H lo) (h2 : EvO th τ H hi) : Ev (dSl (rSlD false) te tl th) τ H (eT e (cut xs lo hi)) := fun Q q => h _ (h1 _ (h2 _ (by
  show Q (.tup (cutD (xs.map e) lo hi)) H
  rw [cut_map]
  exact q)))
theorem ev_slL {α : Type} {e : α → D} {xs : List α} {te : DE} {tl th : DO'} {lo hi : Option Int} {a : D} (h : Ev te τ H a) (pa : peek H a = eL e xs) (h1 : EvO tl τ H lo) (h2 : EvO th τ H hi) : Ev (dSl (rSlD false) te tl th) τ H (eL e (cut xs lo hi)) := fun Q q => h _ (h1 _ (h2 _ (by
  rw [rSlD_e, pa]
  show Q (.lst (cutD (xs.map e) lo hi)) H
  rw [cut_map]
  exact q)))
theorem ev_slD {ds : List D} {te : DE} {tl th : DO'} {lo hi : Option Int} (h : Ev te τ H (.tup ds)) (h1 : EvO tl τ H lo) (h2 : EvO th τ H hi) : Ev (dSl (rSlD false) te tl th) τ H (.tup (cutD ds lo hi)) := fun Q q => h _ (h1 _ (h2 _ q))
theorem ev_revT {α : Type} {e : α → D} {xs : List α} {te : DE} (h : Ev te τ H (eT e xs)) : Ev (dRev false te) τ H (eT e xs.reverse) := fun Q q => h _ (by
  show Q (.tup (xs.map e).reverse) H
  rw [← List.map_reverse]
  exact q)
theorem ev_revL {α : Type} {e : α → D} {xs : List α} {te : DE} {a : D} (h : Ev te τ H a) (pa : peek H a = eL e xs) : Ev (dRev false te) τ H (eL e xs.reverse) := fun Q q => h _ (by
  show (match peek H a with | .tup xs => _ | .lst xs => _ | _ => False)
  rw [pa]
  show Q (.lst (xs.map e).reverse) H
  rw [← List.map_reverse]
  exact q)
/- what is gone through -/
theorem ei_T {α : Type} {e : α → D} {xs : List α} {te : DE} (h : Ev te τ H (eT e xs)) : EvI (dISeq te) τ H (xs.map e) okT := ⟨trivial, fun R r => h _ r⟩
theorem ei_L {α : Type} {e : α → D} {xs : List α} {te : DE} (h : Ev te τ H (eL e xs)) : EvI (dISeq te) τ H (xs.map e) okT := ⟨trivial, fun R r => h _ r⟩
theorem ei_P {α : Type} {e : α → D} {p : α × α} {te : DE} (h : Ev te τ H (eTup (cc e (c1 e)) p)) : EvI (dISeq te) τ H ([p.1, p.2].map e) okT := ⟨trivial, fun R r => h _ r⟩
theorem ei_R {α : Type} {e : α → D} {xs : List α} {te : DE} {p : Addr} (h : Ev te τ H (.ref p)) (hp : H p = some (.lst (xs.map e))) : EvI (dISeq te) τ H (xs.map e) (fun H' => H' p = some (.lst (xs.map e))) := ⟨hp, fun R r => h _ (by
  rw [walkD_e]
  simp only [hp]
  exact r)⟩
theorem ei_rg1 {te : DE} {j : Int} (h : Ev te τ H (.int j)) (h1 : -(2 ^ 62) ≤ j) (h2 : j < 2 ^ 62) : EvI (dIRg1 (dCons te dNil)) τ H ((rng 0 j).map eI) okT := ⟨trivial, fun R r => h _ ⟨⟨h1, h2⟩, by rw [rng_map0]; exact r⟩⟩
theorem ei_rg2 {ta tb : DE} {i j : Int} (ha : Ev ta τ H (.int i)) (hb : Ev tb τ H (.int j)) (h1 : -(2 ^ 62) ≤ i ∧ i < 2 ^ 62 ∧ -(2 ^ 62) ≤ j ∧ j < 2 ^ 62) : EvI (dIRg2 (dCons ta (dCons tb dNil))) τ H ((rng i j).map eI) okT := ⟨trivial, fun R r => ha _ (hb _ ⟨h1, by rw [rng_map]; exact r⟩)⟩
theorem ei_enT {α : Type} {e : α → D} {xs : List α} {te : DE} (h : Ev te τ H (eT e xs)) : EvI (dIEnum (dCons te dNil)) τ H ((enumF 0 xs).map (eTup (cc eI (c1 e)))) okT := ⟨trivial, fun R r => h _ (by
  show R (enumD 0 (xs.map e)) okT H
  rw [enum_map]
  exact r)⟩
theorem ei_enL {α : Type} {e : α → D} {xs : List α} {te : DE} (h : Ev te τ H (eL e xs)) : EvI (dIEnum (dCons te dNil)) τ H ((enumF 0 xs).map (eTup (cc eI (c1 e)))) okT := ⟨trivial, fun R r => h _ (by
  show R (enumD 0 (xs.map e)) okT H
  rw [enum_map]
  exact r)⟩
theorem ei_enR {α : Type} {e : α → D} {xs : List α} {te : DE} {p : Addr} (h : Ev te τ H (.ref p)) (hp : H p = some (.lst (xs.map e))) : EvI (dIEnum (dCons te dNil)) τ H ((enumF 0 xs).map (eTup (cc eI (c1 e)))) (fun H' => H' p = some (.lst (xs.map e))) := ⟨hp, fun R r => h _ (by
  show (match H p with
    | some (.lst xs) => R (enumD 0 xs) (fun H' => H' p = some (.lst xs)) H
    | some (.scr xs) => R (enumD 0 xs) (fun H' => H' p = some (.scr xs)) H
    | _ => False)
  rw [hp]
  show R (enumD 0 (xs.map e)) _ H
  rw [enum_map]
  exact r)⟩
theorem ei_zipT {α β : Type} {e : α → D} {f : β → D} {xs : List α} {ys : List β} {ta tb : DE} (ha : Ev ta τ H (eT e xs)) (hb : Ev tb τ H (eT f ys)) : EvI (dIZip (dCons ta (dCons tb dNil))) τ H ((xs.zip ys).map (eTup (cc e (c1 f)))) (fun DH => okT DH ∧ okT DH) := ⟨⟨trivial, trivial⟩, fun R r => ha _ (hb _ ⟨rfl, by
  show R (zipD (xs.map e) (ys.map f)) _ H
  rw [zip_map]
  exact r⟩)⟩
theorem ei_zipL {α β : Type} {e : α → D} {f : β → D} {xs : List α} {ys : List β} {ta tb : DE} (ha : Ev ta τ H (eL e xs)) (hb : Ev tb τ H (eL f ys)) : EvI (dIZip (dCons ta (dCons tb dNil))) τ H ((xs.zip ys).map (eTup (cc e (c1 f)))) (fun DH => okT DH ∧ okT DH) := ⟨⟨trivial, trivial⟩, fun R r => ha _ (hb _ ⟨rfl, by
  show R (zipD (xs.map e) (ys.map f)) _ H
  rw [zip_map]
  exact r⟩)⟩
/- comprehensions -/
def EvJ (t : DI) (τ : DSt) (H : DHp) (xs : List D) : Prop := ∃ ok, EvI t τ H xs ok
theorem ei_Q {H0 : DHp} {te : DE} {d : D} {xs : List D} (hd : seqOf H0 d = some xs) (hs : DSub H0 H) (h : Ev te τ H d) : ∃ ok, EvI (dISeq te) τ H xs ok ∧ ∀ H', DSub H0 H' → ok H' := by
  cases d with
  | tup ys => cases hd; exact ⟨_, ⟨trivial, fun R r => h _ r⟩, fun _ _ => trivial⟩
  | lst ys => cases hd; exact ⟨_, ⟨trivial, fun R r => h _ r⟩, fun _ _ => trivial⟩
  | ref p =>
    have hp : H0 p = some (.lst xs) := by
      unfold seqOf peek at hd
      cases q : H0 p with
      | none => simp only [q] at hd; cases hd
      | some o =>
        cases o with
        | lst ys => simp only [q] at hd; cases hd; rfl
        | _ => simp only [q] at hd; cases hd
    refine ⟨fun H' => H' p = some (.lst xs), ⟨hs _ _ hp, fun R r => h _ ?_⟩, fun H' s' => s' _ _ hp⟩
    rw [walkD_e]
    simp only [hs _ _ hp]
    exact r
  | _ => cases hd
theorem ej_Q {H0 : DHp} {te : DE} {d : D} {xs : List D} (hd : seqOf H0 d = some xs) (hs : DSub H0 H) (h : Ev te τ H d) : EvJ (dISeq te) τ H xs := let ⟨ok, a, _⟩ := ei_Q hd hs h; ⟨ok, a⟩
theorem ej_enQ {α : Type} {e : α → D} {H0 : DHp} {te : DE} {d : D} {xs : List α} (hd : seqOf H0 d = some (xs.map e)) (hs : DSub H0 H) (h : Ev te τ H d) : EvJ (dIEnum (dCons te dNil)) τ H ((enumF 0 xs).map (eTup (cc eI (c1 e)))) := by
  obtain ⟨ok, a, b⟩ := ei_Q hd hs h
  refine ⟨ok, a.1, fun R r => ?_⟩
  rw [← enum_map] at r
  exact a.2 (fun ys ok' H' => R (enumD 0 ys) ok' H') r
theorem ev_lc {α β : Type} {ti : DI} {g : DG} {tt : DT} {te : DE} {vs : List Nat} (e : α → D) (e' : β → D) (xs : List α) (p : α → Bool) (f : α → β) (bnd : α → DSt)
    (hi : EvJ ti τ H (xs.map e)) (hl : xs.length ≤ sizeLine) (hg : ∀ x (Q : DSt → DHp → Prop), Q (bnd x) H → g (e x) (dwipe τ vs) H Q)
    (ht : ∀ x ∈ xs, EvT tt (bnd x) H (p x)) (hb : ∀ x ∈ xs, p x = true → Ev te (bnd x) H (e' (f x))) : Ev (dLc false ti g tt te vs) τ H (eL e' ((xs.filter p).map f)) := fun Q q => by
  obtain ⟨ok, hi⟩ := hi
  exact hi.2 _ ⟨by rw [List.length_map]; exact hl, by
    have key : ∀ (xs : List α) (acc : List D), (∀ x ∈ xs, EvT tt (bnd x) H (p x)) → (∀ x ∈ xs, p x = true → Ev te (bnd x) H (e' (f x))) → (K : List D → DHp → Prop) → K (acc ++ ((xs.filter p).map f).map e') H → dCompL ok g tt te (dwipe τ vs) (xs.map e) acc H K := by
      intro xs
      induction xs with
      | nil => intro acc _ _ K k; exact ⟨hi.1, by simpa using k⟩
      | cons x r ih =>
        intro acc h1 h2 K k
        refine ⟨hi.1, hg x _ (h1 x (by simp) _ ?_)⟩
        cases hp : p x with
        | true =>
          rw [if_pos rfl]
          exact h2 x (by simp) hp _ (ih _ (fun y hy => h1 y (by simp [hy])) (fun y hy => h2 y (by simp [hy])) K (by simpa [List.filter_cons, hp] using k))
        | false =>
          rw [if_neg Bool.false_ne_true]
          exact ih _ (fun y hy => h1 y (by simp [hy])) (fun y hy => h2 y (by simp [hy])) K (by simpa [List.filter_cons, hp] using k)
    exact key xs [] ht hb _ q⟩
theorem et_yes : EvT dYes τ H true := fun Q q => q
/-- without a test -/
theorem ev_lc1 {α β : Type} {ti : DI} {g : DG} {te : DE} {vs : List Nat} (e : α → D) (e' : β → D) (xs : List α) (f : α → β) (bnd : α → DSt)
    (hi : EvJ ti τ H (xs.map e)) (hl : xs.length ≤ sizeLine) (hg : ∀ x (Q : DSt → DHp → Prop), Q (bnd x) H → g (e x) (dwipe τ vs) H Q)
    (hb : ∀ x ∈ xs, Ev te (bnd x) H (e' (f x))) : Ev (dLc false ti g dYes te vs) τ H (eL e' (xs.map f)) := by
  have := ev_lc (H := H) (τ := τ) e e' xs (fun _ => true) f bnd hi hl hg (fun _ _ => et_yes) (fun x hx _ => hb x hx)
  rwa [List.filter_eq_self.2 (fun _ _ => rfl)] at this
/-- only a test: the item itself is told -/
theorem ev_lcf {α : Type} {ti : DI} {g : DG} {tt : DT} {te : DE} {vs : List Nat} (e : α → D) (xs : List α) (p : α → Bool) (bnd : α → DSt)
    (hi : EvJ ti τ H (xs.map e)) (hl : xs.length ≤ sizeLine) (hg : ∀ x (Q : DSt → DHp → Prop), Q (bnd x) H → g (e x) (dwipe τ vs) H Q)
    (ht : ∀ x ∈ xs, EvT tt (bnd x) H (p x)) (hb : ∀ x ∈ xs, p x = true → Ev te (bnd x) H (e x)) : Ev (dLc false ti g tt te vs) τ H (eL e (xs.filter p)) := by
  have := ev_lc (H := H) (τ := τ) e e xs p (fun x => x) bnd hi hl hg ht hb
  rwa [List.map_id'] at this
end
end DL

/-! TL2: the typed layer: statements, loops by typed steps, lists that change. -/
namespace DL
open PySem PySem.Spec PyProof.Rows L2

/-- what is still to be told, by its model -/
def Tk {R : Type} (F : R → Prop) (m : R) : Prop := F m
def bnd {α R : Type} (v : α) (w : α → R) : R := w v
theorem bnd_eq {α R : Type} (v : α) (w : α → R) : bnd v w = w v := rfl
theorem size_le4 {n : Nat} (h : n ≤ 4000000) : n ≤ sizeLine := by rw [sizeLine_eq]; omega
inductive Ctl (R S : Type) where
  | ret (r : R) | brk (s : S) | nxt (s : S)
def forR {α R S : Type} (step : S → α → Ctl R S) : List α → S → R ⊕ S
  | [], s => .inr s
  | x :: xs, s => match step s x with
    | .nxt s' => forR step xs s'
    | .brk s' => .inr s'
    | .ret r => .inl r
def runN {α R S : Type} (step : S → α → Ctl R S) : List α → S → Option S
  | [], s => some s
  | x :: xs, s => match step s x with
    | .nxt s' => runN step xs s'
    | _ => none
def onR {R S γ : Type} (c : R ⊕ S) (f : R → γ) (g : S → γ) : γ := match c with
  | .inl r => f r
  | .inr s => g s
theorem runN_app {α R S : Type} (step : S → α → Ctl R S) : ∀ (pre : List α) (ys : List α) (s s' : S), runN step pre s = some s' → forR step (pre ++ ys) s = forR step ys s'
  | [], ys, s, s', h => by cases h; rfl
  | x :: pre, ys, s, s', h => by
    simp only [runN] at h
    cases q : step s x with
    | nxt z => rw [q] at h; simp only [List.cons_append, forR, q]; exact runN_app step pre ys z s' h
    | brk z => rw [q] at h; cases h
    | ret z => rw [q] at h; cases h
theorem runN_snoc {α R S : Type} (step : S → α → Ctl R S) : ∀ (pre : List α) (x : α) (s s' s2 : S), runN step pre s = some s' → step s' x = .nxt s2 → runN step (pre ++ [x]) s = some s2
  | [], x, s, s', s2, h, h2 => by cases h; simp only [List.nil_append, runN, h2]
  | y :: pre, x, s, s', s2, h, h2 => by
    simp only [runN] at h
    cases q : step s y with
    | nxt z => rw [q] at h; simp only [List.cons_append, runN, q]; exact runN_snoc step pre x z s' s2 h h2
    | brk z => rw [q] at h; cases h
    | ret z => rw [q] at h; cases h
/- while -/
def whileN {R S : Type} (c : S → Bool) (step : S → Ctl R S) : Nat → S → Option (R ⊕ S)
  | 0, _ => none
  | n + 1, s => if c s = true then (match step s with
    | .nxt s' => whileN c step n s'
    | .brk s' => some (.inr s')
    | .ret r => some (.inl r)) else some (.inr s)
inductive Reach {R S : Type} (c : S → Bool) (step : S → Ctl R S) (s0 : S) : S → Prop where
  | base : Reach c step s0 s0
  | step {s s' : S} (h : Reach c step s0 s) (hc : c s = true) (hs : step s = .nxt s') : Reach c step s0 s'
def Halts {R S : Type} (c : S → Bool) (step : S → Ctl R S) (s : S) : Prop := ∃ n v, whileN c step n s = some v
open Classical in
noncomputable def whileR {R S : Type} (c : S → Bool) (step : S → Ctl R S) (s : S) : R ⊕ S := if h : Halts c step s then h.choose_spec.choose else .inr s
theorem whileN_det {R S : Type} {c : S → Bool} {step : S → Ctl R S} : ∀ (n m : Nat) (s : S) (v w : R ⊕ S), whileN c step n s = some v → whileN c step m s = some w → v = w
  | 0, _, _, _, _, h, _ => by cases h
  | _ + 1, 0, _, _, _, _, h => by cases h
  | n + 1, m + 1, s, v, w, h1, h2 => by
    simp only [whileN] at h1 h2
    split at h1
    · rename_i hc
      rw [if_pos hc] at h2
      cases q : step s with
      | nxt z => rw [q] at h1 h2; exact whileN_det n m z v w h1 h2
      | brk z => rw [q] at h1 h2; cases h1; cases h2; rfl
      | ret z => rw [q] at h1 h2; cases h1; cases h2; rfl
    · rename_i hc
      rw [if_neg hc] at h2
      cases h1; cases h2; rfl
theorem whileR_eq {R S : Type} {c : S → Bool} {step : S → Ctl R S} {s : S} {n : Nat} {v : R ⊕ S} (h : whileN c step n s = some v) : whileR c step s = v := by
  have hh : Halts c step s := ⟨n, v, h⟩
  unfold whileR
  rw [dif_pos hh]
  exact whileN_det _ _ _ _ _ hh.choose_spec.choose_spec h
theorem halts_stop {R S : Type} {c : S → Bool} {step : S → Ctl R S} {s : S} (h : c s = false) : Halts c step s := ⟨1, .inr s, by simp only [whileN]; rw [if_neg (by rw [h]; exact Bool.false_ne_true)]⟩
theorem halts_go {R S : Type} {c : S → Bool} {step : S → Ctl R S} {s : S} (h : c s = true) (k : ∀ s', step s = .nxt s' → Halts c step s') : Halts c step s := by
  cases q : step s with
  | nxt z =>
    obtain ⟨n, v, hv⟩ := k z q
    exact ⟨n + 1, v, by simp only [whileN]; rw [if_pos h, q]; exact hv⟩
  | brk z => exact ⟨1, .inr z, by simp only [whileN]; rw [if_pos h, q]⟩
  | ret z => exact ⟨1, .inl z, by simp only [whileN]; rw [if_pos h, q]⟩
theorem whileR_stop {R S : Type} {c : S → Bool} {step : S → Ctl R S} {s : S} (h : c s = false) : whileR c step s = .inr s := whileR_eq (n := 1) (by simp only [whileN]; rw [if_neg (by rw [h]; exact Bool.false_ne_true)])
theorem whileR_nxt {R S : Type} {c : S → Bool} {step : S → Ctl R S} {s s' : S} (h : c s = true) (q : step s = .nxt s') (hh : Halts c step s') : whileR c step s = whileR c step s' := by
  obtain ⟨n, v, hv⟩ := hh
  rw [whileR_eq hv]
  exact whileR_eq (n := n + 1) (by simp only [whileN]; rw [if_pos h, q]; exact hv)
theorem whileR_brk {R S : Type} {c : S → Bool} {step : S → Ctl R S} {s s' : S} (h : c s = true) (q : step s = .brk s') : whileR c step s = .inr s' := whileR_eq (n := 1) (by simp only [whileN]; rw [if_pos h, q])
theorem whileR_ret {R S : Type} {c : S → Bool} {step : S → Ctl R S} {s : S} {r : R} (h : c s = true) (q : step s = .ret r) : whileR c step s = .inl r := whileR_eq (n := 1) (by simp only [whileN]; rw [if_pos h, q])
/-- by a measure -/
theorem halts_by {R S : Type} {c : S → Bool} {step : S → Ctl R S} (I : S → Prop) (m : S → Nat) (h : ∀ s s', I s → c s = true → step s = .nxt s' → I s' ∧ m s' < m s) : ∀ s, I s → Halts c step s := by
  have : ∀ (k : Nat) (s : S), m s < k → I s → Halts c step s := by
    intro k
    induction k with
    | zero => intro s hs; omega
    | succ k ih =>
      intro s hs hi
      cases hc : c s with
      | false => exact halts_stop hc
      | true =>
        refine halts_go hc fun s' q => ?_
        obtain ⟨h1, h2⟩ := h s s' hi hc q
        exact ih s' (by omega) h1
  exact fun s => this (m s + 1) s (Nat.lt_succ_self _)
/-- what a while tells, by what holds at each turn -/
theorem while_by {R S : Type} {c : S → Bool} {step : S → Ctl R S} (I : S → Prop) (m : S → Nat) (P : R ⊕ S → Prop) (h : ∀ s, I s → c s = true → match step s with
    | .nxt s' => I s' ∧ m s' < m s
    | .brk s' => P (.inr s')
    | .ret r => P (.inl r)) (hf : ∀ s, I s → c s = false → P (.inr s)) : ∀ s, I s → Halts c step s ∧ P (whileR c step s) := by
  have key : ∀ (k : Nat) (s : S), m s < k → I s → Halts c step s ∧ P (whileR c step s) := by
    intro k
    induction k with
    | zero => intro s hs; omega
    | succ k ih =>
      intro s hs hi
      cases hc : c s with
      | false => exact ⟨halts_stop hc, by rw [whileR_stop hc]; exact hf s hi hc⟩
      | true =>
        have := h s hi hc
        cases q : step s with
        | nxt z =>
          rw [q] at this
          obtain ⟨h1, h2⟩ := ih z (by omega) this.1
          refine ⟨halts_go hc (fun s' q' => ?_), ?_⟩
          · rw [q] at q'; cases q'; exact h1
          · rw [whileR_nxt hc q h1]; exact h2
        | brk z =>
          rw [q] at this
          refine ⟨halts_go hc (fun s' q' => ?_), ?_⟩
          · rw [q] at q'; cases q'
          · rw [whileR_brk hc q]; exact this
        | ret z =>
          rw [q] at this
          refine ⟨halts_go hc (fun s' q' => ?_), ?_⟩
          · rw [q] at q'; cases q'
          · rw [whileR_ret hc q]; exact this
  exact fun s => key (m s + 1) s (Nat.lt_succ_self _)
theorem reach_by {R S : Type} {c : S → Bool} {step : S → Ctl R S} {s0 : S} (I : S → Prop) (h0 : I s0) (h : ∀ s s', I s → c s = true → step s = .nxt s' → I s') : ∀ s, Reach c step s0 s → I s := by
  intro s r
  induction r with
  | base => exact h0
  | step _ hc hs ih => exact h _ _ ih hc hs

/-! ### heaps -/
theorem dsub_none {H H' : DHp} {p : Addr} (s : DSub H H') (h : H' p = none) : H p = none := by
  cases e : H p with
  | none => rfl
  | some o => rw [s p o e] at h; cases h
theorem dsub_fr {H H1 H2 : DHp} {p : Addr} (s : DSub H H1) (h : H p = none) (f : ∀ b, b ≠ p → H2 b = H1 b) : DSub H H2 := fun b o e => by
  rw [f b (fun z => by subst z; rw [h] at e; cases e)]
  exact s b o e
theorem ne_none {H : DHp} {p q : Addr} {o : DO} (h : H p = none) (e : H q = some o) : q ≠ p := fun z => by subst z; rw [h] at e; cases e
theorem ne_none' {H : DHp} {p q : Addr} {o : DO} (h : H p = none) (e : H q = some o) : p ≠ q := fun z => by subst z; rw [h] at e; cases e
theorem dsub_er {H H1 : DHp} {p : Addr} (s : DSub H H1) (h : H p = none) : DSub H (derase H1 p) := fun b o e => by
  unfold derase
  rw [if_neg (fun z => by subst z; rw [h] at e; cases e)]
  exact s b o e
theorem peek_sub {H H' : DHp} (s : DSub H H') {d x : D} (h : peek H d = x) (n : ∀ p, x ≠ .ref p) : peek H' d = x := by
  cases d with
  | ref p =>
    unfold peek at h ⊢
    cases e : H p with
    | none => simp only [e] at h; exact absurd h.symm (n p)
    | some o =>
      simp only [e] at h
      simp only [s p o e]
      exact h
  | _ => exact h
theorem seqOf_sub {H H' : DHp} (s : DSub H H') {d : D} {xs : List D} (h : seqOf H d = some xs) : seqOf H' d = some xs := by
  rcases c_len.seqOf_peek' h with z | z
  · have := peek_sub s z (fun p q => by cases q)
    unfold seqOf; rw [this]
  · have := peek_sub s z (fun p q => by cases q)
    unfold seqOf; rw [this]

/-! ### targets -/
def Gv (g : DG) (d : D) (τ : DSt) (H : DHp) (τ' : DSt) : Prop := ∀ Q : DSt → DHp → Prop, Q τ' H → g d τ H Q
def GvS (g : DGs) (ds : List D) (τ : DSt) (H : DHp) (τ' : DSt) : Prop := ∀ Q : DSt → DHp → Prop, Q τ' H → g ds τ H Q
section
variable {τ τ1 τ2 : DSt} {H : DHp}
theorem gv_N {i : Nat} {d : D} : Gv (gN i) d τ H (τ.set i (some d)) := fun Q q => q
theorem gvs_nil : GvS gNilD [] τ H τ := fun Q q => q
theorem gvs_cons {g : DG} {gs : DGs} {d : D} {ds : List D} (h : Gv g d τ H τ1) (r : GvS gs ds τ1 H τ2) : GvS (gConsD g gs) (d :: ds) τ H τ2 := fun Q q => h _ (r _ q)
theorem gv_T {n : Nat} {gs : DGs} {ds : List D} (hl : ds.length = n) (r : GvS gs ds τ H τ1) : Gv (gT n gs) (.tup ds) τ H τ1 := fun Q q => ⟨hl, r _ q⟩
end

/-! ### statements -/
section
variable {τ : DSt} {H : DHp} {E : DEnds} {u t t' : DS} {te : DE}
theorem s_last (h : dSeq t dNext E τ H) : t E τ H := h
theorem s_assoc {a b : DS} (h : dSeq a (dSeq b u) E τ H) : dSeq (dSeq a b) u E τ H := h
theorem s_skip (h : u E τ H) : dSeq dNext u E τ H := h
theorem s_end (h : E.nx τ H) : dNext E τ H := h
theorem s_cont (h : E.ct τ H) : dSeq dCont u E τ H := h
theorem s_brk (h : E.bk τ H) : dSeq dBreak u E τ H := h
theorem s_asg {α R : Type} {F : R → Prop} {v : α} {w : α → R} {i : Nat} (e : α → D) (hq : Tk F (bnd v w)) (h : Ev te τ H (e v)) (k : ∀ x, x = v → Tk F (w x) → u E (τ.set i (some (e x))) H) : dSeq (dAsg te (gN i)) u E τ H := h _ (k v rfl hq)
theorem s_asgG {d : D} {g : DG} {τ' : DSt} (h : Ev te τ H d) (hg : Gv g d τ H τ') (k : u E τ' H) : dSeq (dAsg te g) u E τ H := h _ (hg _ k)
theorem s_unp2 {α β R : Type} {F : R → Prop} {v : α × β} {w : α → β → R} {i j : Nat} (e : α → D) (f : β → D) (hq : Tk F (bnd v.1 fun a => bnd v.2 fun b => w a b)) (h : Ev te τ H (eTup (cc e (c1 f)) v))
    (k : ∀ a b, a = v.1 → b = v.2 → Tk F (w a b) → u E ((τ.set i (some (e a))).set j (some (f b))) H) : dSeq (dAsg te (gT 2 (gConsD (gN i) (gConsD (gN j) gNilD)))) u E τ H := h _ ⟨rfl, k _ _ rfl rfl hq⟩
theorem s_unp3 {α β γ R : Type} {F : R → Prop} {v : α × β × γ} {w : α → β → γ → R} {i j l : Nat} (e : α → D) (f : β → D) (g : γ → D) (hq : Tk F (bnd v.1 fun a => bnd v.2.1 fun b => bnd v.2.2 fun c => w a b c)) (h : Ev te τ H (eTup (cc e (cc f (c1 g))) v))
    (k : ∀ a b c, a = v.1 → b = v.2.1 → c = v.2.2 → Tk F (w a b c) → u E (((τ.set i (some (e a))).set j (some (f b))).set l (some (g c))) H) : dSeq (dAsg te (gT 3 (gConsD (gN i) (gConsD (gN j) (gConsD (gN l) gNilD))))) u E τ H := h _ ⟨rfl, k _ _ _ rfl rfl rfl hq⟩
theorem s_par {α β R : Type} {F : R → Prop} {v1 : α} {v2 : β} {w : α → β → R} {i j : Nat} {ta tb : DE} (e : α → D) (f : β → D) (hq : Tk F (bnd v1 fun a => bnd v2 fun b => w a b)) (ha : Ev ta τ H (e v1)) (hb : Ev tb τ H (f v2))
    (k : ∀ a b, a = v1 → b = v2 → Tk F (w a b) → u E ((τ.set i (some (e a))).set j (some (f b))) H) : dSeq (dPar i j (dCons ta (dCons tb dNil))) u E τ H := ha _ (hb _ (k _ _ rfl rfl hq))
theorem s_par3 {α β γ R : Type} {F : R → Prop} {v1 : α} {v2 : β} {v3 : γ} {w : α → β → γ → R} {i j l : Nat} {ta tb tc : DE} (e : α → D) (f : β → D) (g : γ → D) (hq : Tk F (bnd v1 fun a => bnd v2 fun b => bnd v3 fun c => w a b c)) (ha : Ev ta τ H (e v1)) (hb : Ev tb τ H (f v2)) (hc : Ev tc τ H (g v3))
    (k : ∀ a b c, a = v1 → b = v2 → c = v3 → Tk F (w a b c) → u E (((τ.set i (some (e a))).set j (some (f b))).set l (some (g c))) H) : dSeq (dPar3 i j l (dCons ta (dCons tb (dCons tc dNil)))) u E τ H := ha _ (hb _ (hc _ (k _ _ _ rfl rfl rfl hq)))
theorem s_if {R : Type} {F : R → Prop} {b : Bool} {m1 m2 : R} {c : DT} (hq : Tk F (if b = true then m1 else m2)) (hc : EvT c τ H b) (k1 : b = true → Tk F m1 → dSeq t u E τ H) (k2 : b = false → Tk F m2 → dSeq t' u E τ H) : dSeq (dIfS c t t') u E τ H := hc _ (by
  cases b with
  | true => rw [if_pos rfl] at hq ⊢; exact k1 rfl hq
  | false => rw [if_neg Bool.false_ne_true] at hq ⊢; exact k2 rfl hq)
theorem s_ret {d : D} (h : Ev te τ H d) (k : E.rt d H) : dSeq (dRet te) u E τ H := h _ k
theorem s_retN (k : E.rt .non H) : dSeq dRetN u E τ H := k
theorem s_drop {d : D} (h : Ev te τ H d) (k : u E τ H) : dSeq (dDrop te) u E τ H := h _ k
/-- what a turn is to reach -/
def Out {R S : Type} (RP : R → D → DHp → Prop) (st : S → DSt → DHp → Prop) (E : DEnds) : Ctl R S → Prop
  | .ret r => ∀ d H, RP r d H → E.rt d H
  | .nxt s => ∀ τ H, st s τ H → E.nx τ H ∧ E.ct τ H
  | .brk s => ∀ τ H, st s τ H → E.bk τ H
theorem s_forR {α R S M : Type} {F : M → Prop} {ti : DI} {g : DG} {tb : DS} {ok : DHp → Prop} {mr : R → M} {ms : S → M} (e : α → D) (RP : R → D → DHp → Prop) (xs : List α) (step : S → α → Ctl R S) (s0 : S) (st : S → DSt → DHp → Prop)
    (hq : Tk F (onR (forR step xs s0) mr ms)) (hi : EvI ti τ H (xs.map e) ok) (hok : ∀ s τ' H', st s τ' H' → ok H') (h0 : st s0 τ H)
    (hb : ∀ pre x post s τ' H', xs = pre ++ x :: post → runN step pre s0 = some s → st s τ' H' → ∀ E' : DEnds, Tk (Out RP st E') (step s x) → g (e x) τ' H' fun τ1 H1 => tb E' τ1 H1)
    (kr : ∀ r d H', RP r d H' → forR step xs s0 = .inl r → Tk F (mr r) → E.rt d H') (k : ∀ s τ' H', st s τ' H' → forR step xs s0 = .inr s → Tk F (ms s) → u E τ' H') : dSeq (dFor ti g tb) u E τ H := hi.2 _ (by
  have key : ∀ (ys pre : List α) (s : S) (τ' : DSt) (H' : DHp), xs = pre ++ ys → runN step pre s0 = some s → st s τ' H' → dForL ok g tb (ys.map e) { E with nx := u E } τ' H' := by
    intro ys
    induction ys with
    | nil =>
      intro pre s τ' H' hx hr hs
      have e1 : forR step xs s0 = .inr s := by rw [hx, runN_app step pre [] s0 s hr]; rfl
      exact ⟨hok s τ' H' hs, k s τ' H' hs e1 (by unfold Tk at hq ⊢; rw [e1] at hq; exact hq)⟩
    | cons x ys ih =>
      intro pre s τ' H' hx hr hs
      refine ⟨hok s τ' H' hs, hb pre x ys s τ' H' hx hr hs _ ?_⟩
      have e1 : forR step xs s0 = forR step (x :: ys) s := by rw [hx, runN_app step pre (x :: ys) s0 s hr]
      unfold Tk
      cases q : step s x with
      | ret r =>
        intro d H1 hF
        have e2 : forR step xs s0 = .inl r := by rw [e1]; simp only [forR, q]
        exact kr r d H1 hF e2 (by unfold Tk at hq ⊢; rw [e2] at hq; exact hq)
      | nxt s1 =>
        intro τ1 H1 h1
        have := ih (pre ++ [x]) s1 τ1 H1 (by simp [hx]) (runN_snoc step pre x s0 s s1 hr q) h1
        exact ⟨this, this⟩
      | brk s1 =>
        intro τ1 H1 h1
        have e2 : forR step xs s0 = .inr s1 := by rw [e1]; simp only [forR, q]
        exact k s1 τ1 H1 h1 e2 (by unfold Tk at hq ⊢; rw [e2] at hq; exact hq)
  exact key xs [] s0 τ H rfl rfl h0)
theorem s_for {α S M : Type} {F : M → Prop} {ti : DI} {g : DG} {tb : DS} {ok : DHp → Prop} {ms : S → M} (e : α → D) (xs : List α) (step : S → α → S) (s0 : S) (st : S → DSt → DHp → Prop)
    (hq : Tk F (bnd (xs.foldl step s0) ms)) (hi : EvI ti τ H (xs.map e) ok) (hok : ∀ s τ' H', st s τ' H' → ok H') (h0 : st s0 τ H)
    (hb : ∀ pre x post s τ' H', xs = pre ++ x :: post → s = pre.foldl step s0 → st s τ' H' → ∀ E' : DEnds, Tk (fun s1 => ∀ τ1 H1, st s1 τ1 H1 → E'.nx τ1 H1 ∧ E'.ct τ1 H1) (step s x) → g (e x) τ' H' fun τ1 H1 => tb E' τ1 H1)
    (k : ∀ s τ' H', st s τ' H' → s = xs.foldl step s0 → Tk F (ms s) → u E τ' H') : dSeq (dFor ti g tb) u E τ H := hi.2 _ (by
  have key : ∀ (ys pre : List α) (τ' : DSt) (H' : DHp), xs = pre ++ ys → st (pre.foldl step s0) τ' H' → dForL ok g tb (ys.map e) { E with nx := u E } τ' H' := by
    intro ys
    induction ys with
    | nil =>
      intro pre τ' H' hx hs
      rw [List.append_nil] at hx
      subst hx
      exact ⟨hok _ τ' H' hs, k _ τ' H' hs rfl hq⟩
    | cons x ys ih =>
      intro pre τ' H' hx hs
      refine ⟨hok _ τ' H' hs, hb pre x ys _ τ' H' hx rfl hs _ ?_⟩
      intro τ1 H1 h1
      have := ih (pre ++ [x]) τ1 H1 (by simp [hx]) (by rw [List.foldl_append]; exact h1)
      exact ⟨this, this⟩
  exact key xs [] τ H rfl h0)
theorem s_whileR {R S M : Type} {F : M → Prop} {tc : DT} {tb : DS} {mr : R → M} {ms : S → M} (RP : R → D → DHp → Prop) (c : S → Bool) (step : S → Ctl R S) (s0 : S) (st : S → DSt → DHp → Prop)
    (hq : Tk F (onR (whileR c step s0) mr ms)) (hh : Halts c step s0) (h0 : st s0 τ H)
    (hc : ∀ s τ' H', Reach c step s0 s → st s τ' H' → EvT tc τ' H' (c s))
    (hb : ∀ s τ' H', Reach c step s0 s → c s = true → st s τ' H' → ∀ E' : DEnds, Tk (Out RP st E') (step s) → tb E' τ' H')
    (kr : ∀ r d H', RP r d H' → whileR c step s0 = .inl r → Tk F (mr r) → E.rt d H') (k : ∀ s τ' H', st s τ' H' → whileR c step s0 = .inr s → Tk F (ms s) → u E τ' H') : dSeq (dWhile tc tb) u E τ H := by
  obtain ⟨n, v, hv⟩ := hh
  have ev := whileR_eq hv
  refine while_inv (E := { E with nx := u E }) (fun m τ' H' => ∃ s, Reach c step s0 s ∧ st s τ' H' ∧ whileN c step m s = some v) (m := n) ⟨s0, .base, h0, hv⟩ ?_
  rintro m τ' H' ⟨s, hr, hs, hw⟩ E' hrt hbk hnx hct
  refine hc s τ' H' hr hs _ ?_
  cases m with
  | zero => cases hw
  | succ m =>
    simp only [whileN] at hw
    cases q : c s with
    | false =>
      rw [q, if_neg Bool.false_ne_true] at hw
      rw [if_neg Bool.false_ne_true]
      have e2 : whileR c step s0 = .inr s := by rw [ev]; cases hw; rfl
      exact k s τ' H' hs e2 (by unfold Tk at hq ⊢; rw [e2] at hq; exact hq)
    | true =>
      rw [q, if_pos rfl] at hw
      rw [if_pos rfl]
      refine hb s τ' H' hr q hs E' ?_
      unfold Tk
      cases q2 : step s with
      | ret r =>
        rw [q2] at hw
        intro d H1 hF
        have e2 : whileR c step s0 = .inl r := by rw [ev]; cases hw; rfl
        rw [hrt]
        exact kr r d H1 hF e2 (by unfold Tk at hq ⊢; rw [e2] at hq; exact hq)
      | nxt s1 =>
        rw [q2] at hw
        intro τ1 H1 h1
        exact ⟨hnx m τ1 H1 (Nat.lt_succ_self _) ⟨s1, .step hr q q2, h1, hw⟩, hct m τ1 H1 (Nat.lt_succ_self _) ⟨s1, .step hr q q2, h1, hw⟩⟩
      | brk s1 =>
        rw [q2] at hw
        intro τ1 H1 h1
        have e2 : whileR c step s0 = .inr s1 := by rw [ev]; cases hw; rfl
        rw [hbk]
        exact k s1 τ1 H1 h1 e2 (by unfold Tk at hq ⊢; rw [e2] at hq; exact hq)
/- lists that change -/
def lastD {α : Type} [Inhabited α] (xs : List α) : α := xs.getLast?.getD default
theorem dupd_fr {p : Addr} {x : DO} : ∀ b, b ≠ p → dupd H p x b = H b := fun b h => dupd_ne h
theorem s_newL {α : Type} {t : DA} {i : Nat} (e : α → D) (xs : List α) (h : EvA t τ H (xs.map e)) (hl : xs.length ≤ sizeLine)
    (k : ∀ p H', H p = none → H' p = some (.lst (xs.map e)) → (∀ b, b ≠ p → H' b = H b) → u E (τ.set i (some (.ref p))) H') : dSeq (dAsg (dLstM t) (gN i)) u E τ H := h _ ⟨by rw [List.length_map]; exact hl, fun p hp => k p _ hp dupd_same dupd_fr⟩
theorem lc_mut {ti : DI} {g : DG} {tt : DT} {vs : List Nat} {K : D → DHp → Prop} (z : dLc false ti g tt te vs τ H (fun d H1 => match d with | .lst ys => ∀ p, H1 p = none → K (.ref p) (dupd H1 p (.lst ys)) | _ => True)) : dLc true ti g tt te vs τ H K := z
theorem s_newC {α : Type} {ti : DI} {g : DG} {tt : DT} {vs : List Nat} {i : Nat} (e : α → D) (xs : List α) (h : Ev (dLc false ti g tt te vs) τ H (eL e xs))
    (k : ∀ p H', H p = none → H' p = some (.lst (xs.map e)) → (∀ b, b ≠ p → H' b = H b) → u E (τ.set i (some (.ref p))) H') : dSeq (dAsg (dLc true ti g tt te vs) (gN i)) u E τ H :=
  lc_mut (K := fun x H1 => u E (τ.set i (some x)) H1) (h _ fun p hp => k p _ hp dupd_same dupd_fr)
theorem s_newLs {α : Type} {i : Nat} {te : DE} {a : D} (e : α → D) (xs : List α) (h : Ev te τ H a) (sa : seqOf H a = some (xs.map e))
    (k : ∀ p H', H p = none → H' p = some (.lst (xs.map e)) → (∀ b, b ≠ p → H' b = H b) → u E (τ.set i (some (.ref p))) H') : dSeq (dAsg (dCB (rLstD true) (dCons te dNil)) (gN i)) u E τ H := h _ (by
  show (match seqOf H a with | some xs => _ | none => False)
  rw [sa]
  exact fun p hp => k p _ hp dupd_same dupd_fr)
theorem s_app {α : Type} {i : Nat} {te : DE} {p : Addr} {v : α} {xs : List α} (e : α → D) (hv : τ[i]? = some (some (.ref p))) (hp : H p = some (.lst (xs.map e))) (h : Ev te τ H (e v)) (hl : xs.length < sizeLine)
    (k : ∀ H', H' p = some (.lst ((xs ++ [v]).map e)) → (∀ b, b ≠ p → H' b = H b) → u E τ H') : dSeq (dDrop (dBM "list" mAppend (dVar i) (dCons te dNil))) u E τ H := by
  rw [dSeq_e, dDrop_e, dBM_e, dVar_e, hv]
  show ofTy "list" H (.ref p) ∧ _
  refine ⟨by rw [ofTy_e]; simp only [hp], h _ ?_⟩
  show mAppend (.ref p) [e v] H (fun _ H1 => u E τ H1)
  rw [mAppend_e, onLst_e]
  simp only [hp, List.length_map]
  refine ⟨hl, k _ ?_ dupd_fr⟩
  rw [dupd_same, List.map_append]
  rfl
theorem s_pop {α R : Type} {F : R → Prop} [Inhabited α] {i j : Nat} {p : Addr} {xs : List α} {w : α → R} (e : α → D) (hq : Tk F (bnd (lastD xs) w)) (hv : τ[i]? = some (some (.ref p))) (hp : H p = some (.lst (xs.map e))) (hl : xs ≠ [])
    (k : ∀ x H', x = lastD xs → H' p = some (.lst (xs.dropLast.map e)) → (∀ b, b ≠ p → H' b = H b) → Tk F (w x) → u E (τ.set j (some (e x))) H') : dSeq (dAsg (dBM0 "list" mPop (dVar i)) (gN j)) u E τ H := by
  rw [dSeq_e, dAsg_e, dBM0_e, dVar_e, hv]
  show ofTy "list" H (.ref p) ∧ _
  refine ⟨by rw [ofTy_e]; simp only [hp], ?_⟩
  show mPop (.ref p) [] H _
  rw [mPop_e, onLst_e]
  simp only [hp, List.length_map]
  rw [List.getElem?_map]
  have e1 : xs[xs.length - 1]? = some (lastD xs) := by
    rw [← List.getLast?_eq_getElem?]
    unfold lastD
    cases q : xs.getLast? with
    | none => exact absurd (List.getLast?_eq_none_iff.mp q) hl
    | some x => rfl
  rw [e1]
  refine k _ _ rfl ?_ dupd_fr hq
  rw [dupd_same, List.map_dropLast]
theorem s_retF {α : Type} {i : Nat} {p : Addr} {xs : List α} (e : α → D) (hv : τ[i]? = some (some (.ref p))) (hp : H p = some (.lst (xs.map e))) (k : E.rt (eL e xs) (derase H p)) : dSeq (dRet (dFrz (dVar i))) u E τ H := by
  rw [dSeq_e, dRet_e, dFrz_e, dVar_e, hv]
  show (match H p with | some (.lst xs) => _ | _ => False)
  rw [hp]
  exact k
theorem s_lastS {a b : DS} (h : dSeq a b E τ H) : dSeq a b E τ H := h
theorem tk_nx {S : Type} {st : S → DSt → DHp → Prop} {v : S} (hq : Tk (fun s1 => ∀ τ1 H1, st s1 τ1 H1 → E.nx τ1 H1 ∧ E.ct τ1 H1) v) (h : st v τ H) : E.nx τ H := (hq τ H h).1
theorem tk_ct {S : Type} {st : S → DSt → DHp → Prop} {v : S} (hq : Tk (fun s1 => ∀ τ1 H1, st s1 τ1 H1 → E.nx τ1 H1 ∧ E.ct τ1 H1) v) (h : st v τ H) : dSeq dCont u E τ H := (hq τ H h).2
section
variable {R S : Type} {RP : R → D → DHp → Prop} {st : S → DSt → DHp → Prop} {v : S} {r : R} {d : D}
theorem out_nx (hq : Tk (Out RP st E) (.nxt v)) (h : st v τ H) : E.nx τ H := (hq τ H h).1
theorem out_ct (hq : Tk (Out RP st E) (.nxt v)) (h : st v τ H) : dSeq dCont u E τ H := (hq τ H h).2
theorem out_brk (hq : Tk (Out RP st E) (.brk v)) (h : st v τ H) : dSeq dBreak u E τ H := hq τ H h
theorem out_ret (hq : Tk (Out RP st E) (.ret r)) (h : RP r d H) : E.rt d H := hq d H h
end
end
/-- a def's end -/
theorem tk_rt {R : Type} {RP : R → D → DHp → Prop} {E : DEnds} {H : DHp} {r : R} {d : D} (hq : Tk (fun r => ∀ d H, RP r d H → E.rt d H) r) (h : RP r d H) : E.rt d H := hq d H h
/-- what a value is told as -/
def RPv {R : Type} (eR : R → D) (DH : DHp) : R → D → DHp → Prop := fun r d H => d = eR r ∧ DSub DH H
theorem rpv {R : Type} {eR : R → D} {DH : DHp} {Q : DK} {m : R} (h : Q (eR m) DH) : Tk (fun r => ∀ d H, RPv eR DH r d H → (bodyE Q).rt d H) m := fun d H ⟨e, s⟩ => by subst e; exact ⟨DH, s, h⟩
theorem enumF_length {α : Type} : ∀ (i : Int) (xs : List α), (enumF i xs).length = xs.length
  | _, [] => rfl
  | i, x :: xs => by simp only [enumF, List.length_cons, enumF_length (i + 1) xs]
theorem ev_tupK {t : DA} {τ : DSt} {H : DHp} {ds : List D} (k : Nat) (h : EvA t τ H ds) (hk : ds.length = k) (hl : k ≤ 1000) : Ev (dTup t) τ H (.tup ds) := ev_tup h (by rw [hk]; exact size_le4 (by omega))
theorem ev_lstK {t : DA} {τ : DSt} {H : DHp} {ds : List D} (k : Nat) (h : EvA t τ H ds) (hk : ds.length = k) (hl : k ≤ 1000) : Ev (dLst t) τ H (.lst ds) := ev_lst h (by rw [hk]; exact size_le4 (by omega))
theorem ev_some {α : Type} [Inhabited α] {te : DE} {τ : DSt} {H : DHp} {e : α → D} {x : Option α} (h : Ev te τ H (eO e x)) (hx : x.isSome = true) : Ev te τ H (e (x.getD default)) := by
  cases x with
  | none => cases hx
  | some a => exact h
def setI {α : Type} (xs : List α) (i : Int) (v : α) : List α := match ixN xs.length i with
  | some j => xs.set j v
  | none => xs
theorem setI_length {α : Type} (xs : List α) (i : Int) (v : α) : (setI xs i v).length = xs.length := by unfold setI; split <;> simp
theorem n_stL {α : Type} {H : DHp} {p : Addr} {xs : List α} {i : Int} {v : α} {K : DHp → Prop} (e : α → D) (hp : H p = some (.lst (xs.map e))) (hi : inIx xs i) (k : ∀ H', H' p = some (.lst ((setI xs i v).map e)) → (∀ b, b ≠ p → H' b = H b) → K H') : storeD H (.ref p) (.int i) (e v) K := by
  have hx : ∃ j, ixN xs.length i = some j := by
    obtain ⟨h1, h2⟩ := hi
    unfold ixN
    by_cases h0 : 0 ≤ i
    · rw [if_pos h0, if_pos (by omega)]; exact ⟨_, rfl⟩
    · rw [if_neg h0, if_pos (by omega)]; exact ⟨_, rfl⟩
  obtain ⟨j, hj⟩ := hx
  rw [storeD_e]
  simp only [hp, List.length_map, hj]
  refine k _ ?_ (fun b h => dupd_ne h)
  rw [dupd_same]
  unfold setI
  rw [hj]
  simp only [List.map_set]
def evd {te : DE} {τ : DSt} {H : DHp} (d : D) (h : Ev te τ H d) : Ev te τ H d := h
theorem ev_tupS {α : Type} {t : DA} {τ : DSt} {H : DHp} {ds : List D} {e : α → D} {xs : List α} (h : EvA t τ H ds) (he : D.tup ds = eT e xs) (hl : ds.length ≤ sizeLine) : Ev (dTup t) τ H (eT e xs) := fun Q q => h _ ⟨hl, by rw [he]; exact q⟩
end DL

/-! DL12: sorted of tuples of whole numbers, none empty, of any lengths. -/
namespace DLS
open PySem PySem.Spec PyProof.Rows SrtO TS
theorem lexLt_swo' {α : Type} (f : α → List Int) : Swo fun v u => HT.lexLt (f v) (f u) := by
  have asy : ∀ a b : List Int, HT.lexLt a b = true → HT.lexLt b a = false := by
    intro a
    induction a with
    | nil => intro b h; cases b with
      | nil => rfl
      | cons y ys => rfl
    | cons x xs ih =>
      intro b h
      cases b with
      | nil => cases h
      | cons y ys =>
        rw [HT.lexLt_cons] at h ⊢
        by_cases e : x = y
        · subst e
          rw [if_pos rfl] at h ⊢
          exact ih ys h
        · rw [if_neg e] at h
          rw [if_neg (Ne.symm e)]
          simp only [decide_eq_true_eq] at h
          simp only [decide_eq_false_iff_not]
          omega
  have neg : ∀ a b c : List Int, HT.lexLt a b = false → HT.lexLt b c = false → HT.lexLt a c = false := by
    intro a
    induction a with
    | nil =>
      intro b c h1 h2
      cases c with
      | nil => rfl
      | cons z zs => cases b with
        | nil => cases h2
        | cons y ys => cases h1
    | cons x xs ih =>
      intro b c h1 h2
      cases c with
      | nil => rfl
      | cons z zs =>
        cases b with
        | nil => cases h2
        | cons y ys =>
          rw [HT.lexLt_cons] at h1 h2 ⊢
          by_cases e : x = y
          · subst e
            rw [if_pos rfl] at h1
            by_cases e2 : x = z
            · subst e2
              rw [if_pos rfl] at h2 ⊢
              exact ih ys zs h1 h2
            · rw [if_neg e2] at h2 ⊢
              exact h2
          · rw [if_neg e] at h1
            simp only [decide_eq_false_iff_not] at h1
            by_cases e2 : y = z
            · subst e2
              rw [if_neg e]
              simp only [decide_eq_false_iff_not]
              exact h1
            · rw [if_neg e2] at h2
              simp only [decide_eq_false_iff_not] at h2
              rw [if_neg (by omega)]
              simp only [decide_eq_false_iff_not]
              omega
  exact ⟨fun x y h => asy _ _ h, fun x y z h1 h2 => neg _ _ _ h2 h1⟩
section
variable {prog : Program} {w : World} {A : Around} {E : Value → Shared → Prop} {s : Shared} {Q : Bool → Shared → Prop}
theorem lex_run {b : Bool} {xs ys : List Value} {ns ms : List Int} (i : Nat) (hx : IntsAre xs ns) (hy : IntsAre ys ms) (fin : Bool) (hf : fin = decide (ns.length < ms.length))
    (h : Q (HT.lexLt ns ms) s) : PySem.W.KatLex prog w A b fin Q (xs.zip ys) i s := by
  induction hx generalizing ys ms i fin with
  | nil =>
    cases hy with
    | nil => subst hf; exact PySem.W.kat_nil h
    | cons q u hy => subst hf; exact PySem.W.kat_nil (by simpa [HT.lexLt] using h)
  | @cons p t xs ns hx ih =>
    cases hy with
    | nil => subst hf; exact PySem.W.kat_nil (by simpa [HT.lexLt] using h)
    | @cons q u ys ms hy =>
      show PySem.W.KatLex prog w A b fin Q ((Value.int p t, Value.int q u) :: xs.zip ys) i s
      refine PySem.W.kat_cons (wpAny_eqBool_int ?_)
      rw [HT.lexLt_cons] at h
      by_cases e : p = q
      · subst e
        rw [beq_self_eq_true]
        rw [if_pos rfl] at h
        refine PySem.W.kat_yes ?_
        have hf' : fin = decide (ns.length < ms.length) := by rw [hf]; simp
        first
          | exact ih (i + 1) hy fin hf' h
          | exact ih (i + 1) hy _ hf' h
          | exact ih _ (i + 1) hy hf' h
      · rw [show (p == q) = false from beq_eq_false_iff_ne.mpr e]
        rw [if_neg e] at h
        exact PySem.W.kat_no (oneLt_ints _ h)
/-- tuples of ints, none empty, told by k -/
def TupsK (h : Heap) (k : Value → List Int) (vs : List Value) : Prop := ∀ v ∈ vs, TupInts h v (k v) ∧ k v ≠ []
theorem tups_cmp {vs : List Value} {k : Value → List Int} (hp : TupsK s.heap k vs) : Cmp prog w A s (tuples' true) (fun p => p.1 ∈ vs) (lt2 fun v u => HT.lexLt (k v) (k u)) := by
  intro p q hm hm'
  obtain ⟨h1, _⟩ := hp _ hm
  obtain ⟨h2, _⟩ := hp _ hm'
  show wpAny (model prog w) A (keyLt' (tuples' true) p.1 q.1) (fun r s' => s' = s ∧ r = HT.lexLt (k p.1) (k q.1)) (fun _ _ => False) s
  generalize k p.1 = ns at h1 ⊢
  generalize k q.1 = ms at h2 ⊢
  obtain ⟨a, xs, e, ⟨o, ho, hc, n, hd⟩, i1⟩ := h1
  obtain ⟨a', xs', e', ⟨o', ho', hc', n', hd'⟩, i2⟩ := h2
  rw [e, e']
  refine PySem.W.kat_lt ho hd ho' hd' (lex_run 0 i1 i2 _ ?_ ⟨rfl, rfl⟩)
  have l1 := i1.length
  have l2 := i2.length
  rw [Array.length_toList] at l1 l2
  rw [l1, l2]
theorem firstsK {h : Heap} {k : Value → List Int} : ∀ vs : List Value, TupsK h k vs → ∃ fs, PySem.W.KatTups h vs fs ∧ fs.length = vs.length ∧ ∀ f, f ∈ fs → ∃ n t, f = Value.int n t
  | [], _ => ⟨[], PySem.W.KatTups.nil, rfl, fun f hf => by simp at hf⟩
  | v :: vs, x => by
    obtain ⟨fs, kk, hl, hi⟩ := firstsK vs fun u hu => x u (List.mem_cons_of_mem _ hu)
    obtain ⟨⟨a, xs, rfl, ⟨o, ho, hc, n, hdt⟩, i⟩, hn⟩ := x v (List.mem_cons_self ..)
    obtain ⟨y, ys, e⟩ : ∃ y ys, xs.toList = y :: ys := by
      cases q : xs.toList with
      | nil =>
        rw [q] at i
        have l := i.length
        exact absurd (List.eq_nil_of_length_eq_zero l.symm) hn
      | cons y ys => exact ⟨y, ys, rfl⟩
    obtain ⟨m, t, hy⟩ := i.all y (by rw [e]; exact List.mem_cons_self ..)
    refine ⟨y :: fs, PySem.W.KatTups.cons ho hc hdt ?_ kk, by simp [hl], ?_⟩
    · have z := congrArg (fun l : List Value => l[0]?) e
      simpa using z
    · intro f hf
      rcases List.mem_cons.mp hf with rfl | hf
      · exact ⟨m, t, hy⟩
      · exact hi f hf
theorem tups_sortable {a : Addr} {vs : List Value} {k : Value → List Int} (h0 : 0 < vs.length) (hp : TupsK s.heap k vs) (ha : ∀ o, s.heap.get? a = some o → o.cls ≠ .type "tuple") : SortableO prog w A s a vs fun v u => HT.lexLt (k v) (k u) := by
  intro h' keep
  have hp' : TupsK h' k vs := fun v hm => ⟨(hp v hm).1.keeps fun b o e c => keep b o (fun z => by subst z; exact ha o e c) e, (hp v hm).2⟩
  obtain ⟨fs, h1, h2, h3⟩ := firstsK vs hp'
  refine ⟨tuples' true, fun Q E hq => ?_, tups_cmp hp'⟩
  refine PySem.W.kat_kind (T := .type "int") h1 (by omega) (fun f hm => ?_) (by rfl) ?_
  · obtain ⟨x, t, rfl⟩ := h3 f hm
    exact PySem.W.Looks.now
  · have e : (Value.type "int" != Value.type "tuple") = true := by first | decide +kernel | rfl | decide
    rw [e]
    exact hq
theorem sorted_tupsK0 {l : Addr} {vs : List Value} {k : Value → List Int} {Q : Value → Shared → Prop} (hl : s.heap.IsList l vs.toArray) (hz : vs.length ≤ sizeLine) (hp : TupsK s.heap k vs)
    (h : ∀ (h' : Heap) (d : Addr) (out : List Value), Srtd (fun v u => HT.lexLt (k v) (k u)) out → Stb (fun v u => HT.lexLt (k v) (k u)) out vs → (∀ b o, s.heap.get? b = some o → h'.get? b = some o) → s.heap.objs.size ≤ d → (∃ n, h'.get? d = some (seqObj "list" out.toArray n)) → Q (.ref d) { s with heap := h' }) :
    wpAny (model prog w) A (call (.builtin "sorted") [.ref l]) Q E s := by
  refine sorted_ord (lexLt_swo' k) hl hz (fun h2 h₁ a ha kk => ?_) fun out hs hb => ?_
  · refine tups_sortable (s := { s with heap := h₁ }) (by omega) (fun v hm => ⟨(hp v hm).1.keeps fun b o e _ => (kk b o e).2, (hp v hm).2⟩) fun o e => ?_
    have e' : some o = some (seqObj "list" vs.toArray 0) := e.symm.trans ha
    cases e'
    intro c
    exact absurd (Value.type.inj c) (by decide)
  · exact h _ _ out hs hb (fun b o e => sortedAll_old e) (Nat.le_succ _) (sortedAll_at s.heap vs out.toArray)
theorem collect_tup {l : Addr} {vs : List Value} {Q : List Value → Shared → Prop} (hl : s.heap.IsTuple l vs.toArray)
    (h : Q vs { s with heap := (s.heap.push (seqObj "list" #[] 0)).update s.heap.objs.size (Obj.mapSeq (· ++ vs.toArray)) }) (hsz : vs.length ≤ sizeLine) :
    wpAny (model prog w) A (collect (.ref l)) Q E s := by
  obtain ⟨o, ho, hc, n, hd⟩ := id hl
  unfold collect
  refine wpAny_bind (wpAny_runValue (codeAny_builtin entry_proto_collect' ?_))
  show wpAny _ _ (do again (.builtin "list.__iadd__" ⟨[← newList [], .ref l], []⟩)) _ _ s
  refine wpAny_bind (wpAny_newList (wpAny_pure ⟨Code.quiet_builtin _ (by decide +kernel), codeAny_builtin entry_list_iadd' ?_⟩))
  show wpAny _ _ (Builtin.List.listExtendWith (.ref s.heap.objs.size) (.ref l) (.ref s.heap.objs.size)) _ _ { s with heap := s.heap.push (seqObj "list" #[] 0) }
  unfold Builtin.List.listExtendWith
  have ho' : (s.heap.push (seqObj "list" #[] 0)).get? l = some o := Heap.get?_push_of_some _ ho
  refine wpAny_bind (wpAny_typeOf (T := "tuple") ⟨o, ho', hc⟩ ?_)
  have ht : (Value.type "tuple" == Value.type "tuple") = true := by rfl
  rw [if_pos (by rw [ht]; simp)]
  refine wpAny_bind (listItems_at ho' hd ?_)
  refine wpAny_bind (listItems_at (xs := #[]) (n := 0) (Heap.get?_push_size _ rfl) rfl ?_)
  rw [if_neg (by simp)]
  refine wpAny_bind (listUpdate_at (xs := #[]) (n := 0) (Heap.get?_push_size _ rfl) rfl ?_ (Nat.zero_le _) (by show (#[] ++ vs.toArray).size ≤ sizeLine + 1; simp only [Array.size_append, List.size_toArray, List.length_nil]; omega))
  refine wpAny_pure ?_
  show wpAny (model prog w) A (do
      let o ← load s.heap.objs.size
      match o.data with
      | .seq xs _ => pure xs.toList
      | _ => unsupported "internal:collect") Q E { s with heap := (s.heap.push (seqObj "list" #[] 0)).update s.heap.objs.size (Obj.mapSeq (· ++ vs.toArray)) }
  refine wpAny_bind (wpAny_load (get?_update_seq (Heap.get?_push_size _ rfl) _) ?_)
  show wpAny _ _ (pure ((#[] : Array Value) ++ vs.toArray).toList) Q E _
  rw [show ((#[] : Array Value) ++ vs.toArray).toList = vs by simp]
  exact wpAny_pure h
theorem sorted_ordS {l : Addr} {vs : List Value} {ltv : Value → Value → Bool} {Q : Value → Shared → Prop} (O : Swo ltv) (hl : s.heap.IsList l vs.toArray ∨ s.heap.IsTuple l vs.toArray) (hz : vs.length ≤ sizeLine)
    (hS : 2 ≤ vs.length → ∀ (h₁ : Heap) (a : Addr), h₁.get? a = some (seqObj "list" vs.toArray 0) → (∀ b o, s.heap.get? b = some o → b ≠ a ∧ h₁.get? b = some o) → SortableO prog w A.in1.in1 { s with heap := h₁ } a vs ltv)
    (h : ∀ out : List Value, Srtd ltv out → Stb ltv out vs → Q (.ref (s.heap.objs.size + 1)) { s with heap := sortedAll s.heap vs out.toArray }) :
    wpAny (model prog w) A (call (.builtin "sorted") [.ref l]) Q E s := by
  refine Calls.call_function_entry kind_sorted plain_sorted entry_sorted (args_sorted1 _) ?_
  unfold Builtin.«sorted»
  refine wpAny_bind (m := checkCount "sorted" 1 1 _) (wpAny_pure ?_)
  have hC : ∀ {A : Around} {Q : List Value → Shared → Prop} {E : Value → Shared → Prop}, Q vs { s with heap := (s.heap.push (seqObj "list" #[] 0)).update s.heap.objs.size (Obj.mapSeq (· ++ vs.toArray)) } → wpAny (model prog w) A (collect (.ref l)) Q E s := fun q => by
    rcases hl with hl | hl
    · exact collect_list hl q hz
    · exact collect_tup hl q hz
  refine wpAny_bind (hC ?_)
  refine wpAny_bind (wpAny_newList ?_ hz)
  have hsz : ((s.heap.push (seqObj "list" #[] 0)).update s.heap.objs.size (Obj.mapSeq (· ++ vs.toArray))).objs.size = s.heap.objs.size + 1 := by
    rw [Heap.size_update, size_push']
  have hoL : (((s.heap.push (seqObj "list" #[] 0)).update s.heap.objs.size (Obj.mapSeq (· ++ vs.toArray))).push (seqObj "list" vs.toArray 0)).get? (s.heap.objs.size + 1) = some (seqObj "list" vs.toArray 0) := by
    rw [← hsz]; exact Heap.get?_push_size _ rfl
  have keep : ∀ b o, s.heap.get? b = some o → b ≠ s.heap.objs.size + 1 ∧ (((s.heap.push (seqObj "list" #[] 0)).update s.heap.objs.size (Obj.mapSeq (· ++ vs.toArray))).push (seqObj "list" vs.toArray 0)).get? b = some o := fun b o q => by
    have hlt : b < s.heap.objs.size := Heap.lt_size q
    refine ⟨Nat.ne_of_lt (Nat.lt_succ_of_lt hlt), Heap.get?_push_of_some _ ?_⟩
    rw [Heap.get?_update_ne _ _ _ _ (Nat.ne_of_lt hlt)]
    exact Heap.get?_push_of_some _ q
  show wpAny _ _ _ _ _ { s with heap := ((s.heap.push (seqObj "list" #[] 0)).update s.heap.objs.size (Obj.mapSeq (· ++ vs.toArray))).push (seqObj "list" vs.toArray 0) }
  rw [hsz]
  refine wpAny_bind (wpAny_holding (wpAny_call_entry slot_list_sort ⟨_, hoL, rfl⟩ entry_list_sort (list_sort_ord O hoL hz (fun h2 => hS h2 _ _ hoL keep) fun out hs hb => ⟨_, rfl, ?_⟩) (args_list_sort _)))
  exact wpAny_pure ⟨_, rfl, h out hs hb⟩
end
end DLS
namespace L2
open PySem PySem.Spec PyProof.Rows
section
variable {X : Cx}
def rSortedTS (K : PySem.W.Frag) : List V → Hp → VK → Prop := fun vs H Q => ∃ (a : Addr) (xs : List V) (k : V → List Int), vs = [V.ref a] ∧ (SqL K H a xs ∨ SqT K H a xs) ∧ (∀ x ∈ xs, k x ≠ [] ∧ ∃ t, x = V.ref t ∧ SqT K H t ((k x).map V.int)) ∧
  ∀ ys p, SrtO.Srtd (fun x y => HT.lexLt (k x) (k y)) ys → SrtO.Stb (fun x y => HT.lexLt (k x) (k y)) ys xs → H p = none → Q (.ref p) (upd H p (.lst ys))
theorem cr_sortedTS : CallR X (.builtin "sorted") (rSortedTS X.K) := by
  intro pins s σ H vs us Q I r h
  obtain ⟨a, xs, k, rfl, hs, hx, q⟩ := h
  have hits : ∃ its, Vals xs its ∧ (s.heap.IsList a its.toArray ∨ s.heap.IsTuple a its.toArray) ∧ xs.length ≤ sizeLine := by
    rcases hs with hs | hs
    · obtain ⟨its, rv, hl, hz⟩ := I.list hs
      exact ⟨its, rv, .inl hl.isList, hz⟩
    · obtain ⟨its, rv, hl, hz⟩ := I.tuple hs
      exact ⟨its, rv, .inr hl, hz⟩
  obtain ⟨its, rv, hl, hz⟩ := hits
  obtain ⟨u, rfl, ru⟩ := vals1 r
  obtain rfl : u = Value.ref a := ru
  obtain ⟨e1, e2⟩ := refs_back rv fun x m => by
    obtain ⟨_, t, e, _⟩ := hx x m
    exact ⟨t, e⟩
  have hp : DLS.TupsK s.heap (fun u => k (backV u)) its := fun v hv => by
    obtain ⟨t, rfl⟩ := e2 v hv
    have hm : V.ref t ∈ xs := by rw [e1]; exact List.mem_map.mpr ⟨_, hv, rfl⟩
    obtain ⟨hn, t', e, ht⟩ := hx _ hm
    cases e
    refine ⟨?_, hn⟩
    obtain ⟨its2, r2, tp, _⟩ := I.tuple ht
    exact ⟨t, its2.toArray, rfl, tp, by rw [List.toList_toArray]; exact r2.ints⟩
  refine DLS.sorted_ordS (DLS.lexLt_swo' fun u => k (backV u)) hl (by rw [← rv.length]; exact hz) (fun h2 h₁ a' ha kk => ?_) fun out h1 h2 => ?_
  · refine DLS.tups_sortable (s := { s with heap := h₁ }) (by omega) (fun v hm => ⟨(hp v hm).1.keeps fun b o e _ => (kk b o e).2, (hp v hm).2⟩) fun o e => ?_
    have e' : some o = some (seqObj "list" its.toArray 0) := e.symm.trans ha
    cases e'
    intro c
    exact absurd (Value.type.inj c) (by decide)
  · have h3 : ∀ u ∈ out, ∃ a, u = Value.ref a := fun u hu => e2 u (h2.perm.mem_iff.mp hu)
    obtain ⟨n, hn⟩ := sortedAll_at s.heap its out.toArray
    have hb : SrtO.Stb (fun x y => HT.lexLt (k x) (k y)) (out.map backV) xs := by
      rw [e1]
      exact SrtO.Stb.map (DLS.lexLt_swo' k) backV h2
    refine ⟨.ref _, upd H (s.heap.objs.size + 1) (.lst (out.map backV)), I.laid (t' := s.toks) (fun _ _ => sortedAll_old) (Nat.le_succ _) ⟨?_, out, n, vals_back h3, hn⟩, rfl, q _ _ (SrtO.srtd_map h1) hb (I.hok.fresh (Nat.le_succ _))⟩
    rw [hb.len]
    exact hz
def rSortedIS (K : PySem.W.Frag) : List V → Hp → VK → Prop := fun vs H Q => ∃ (a : Addr) (ns : List Int), vs = [V.ref a] ∧ (SqL K H a (ns.map V.int) ∨ SqT K H a (ns.map V.int)) ∧
  ∀ (ns' : List Int) (p : Addr), ns'.Perm ns → ns'.Pairwise (· ≤ ·) → H p = none → Q (.ref p) (upd H p (.lst (ns'.map V.int)))
theorem cr_sortedIS : CallR X (.builtin "sorted") (rSortedIS X.K) := by
  intro pins s σ H vs us Q I r h
  obtain ⟨a, ns, rfl, hs, q⟩ := h
  have hits : ∃ its, Vals (ns.map V.int) its ∧ (s.heap.IsList a its.toArray ∨ s.heap.IsTuple a its.toArray) ∧ (ns.map V.int).length ≤ sizeLine := by
    rcases hs with hs | hs
    · obtain ⟨its, rv, hl, hz⟩ := I.list hs
      exact ⟨its, rv, .inl hl.isList, hz⟩
    · obtain ⟨its, rv, hl, hz⟩ := I.tuple hs
      exact ⟨its, rv, .inr hl, hz⟩
  obtain ⟨its, rv, hl, hz⟩ := hits
  rw [Vals.ref1 r]
  have hi := rv.ints
  refine DLS.sorted_ordS SrtO.swo_int hl (by rw [← rv.length]; exact hz) (fun h2 h₁ a' _ _ => SrtO.ints_sortable hi h2) fun out h1 h2 => ?_
  obtain ⟨k1, k2, k3⟩ := SrtO.ints_out hi h1 h2
  obtain ⟨ep, he'⟩ := PyProof.Rows.sortedAll_at s.heap its out.toArray
  have hlen : ((out.map SrtO.iv).map V.int).length ≤ sizeLine := by
    rw [List.length_map, k2.length_eq]
    rw [List.length_map] at hz
    exact hz
  exact ⟨.ref _, upd H (s.heap.objs.size + 1) (.lst ((out.map SrtO.iv).map V.int)), I.laid (t' := s.toks) (fun _ _ => PyProof.Rows.sortedAll_old) (Nat.le_succ _) ⟨hlen, out, ep, vals_of_ints k1, he'⟩, rfl, q _ _ k2 k3 (I.hok.fresh (Nat.le_succ _))⟩
end
end L2
namespace DL
open PySem PySem.Spec PyProof.Rows L2
def tups? : List D → Option (List (List Int))
  | [] => some []
  | .tup ds :: r => match ints? ds with
    | some ns => (tups? r).map (ns :: ·)
    | none => none
  | _ => none
def tupI (ns : List Int) : D := .tup (ns.map D.int)
theorem tups_map : ∀ nss : List (List Int), tups? (nss.map tupI) = some nss
  | [] => rfl
  | ns :: nss => by
    simp only [List.map_cons, tupI, tups?, ints_map]
    rw [tups_map nss]
    rfl
theorem tups_of : ∀ {ds : List D} {nss : List (List Int)}, tups? ds = some nss → ds = nss.map tupI
  | [], nss, h => by cases h; rfl
  | d :: r, nss, h => by
    unfold tups? at h
    split at h
    · rename_i e; cases e
    · rename_i xs r' e
      cases e
      split at h
      · rename_i ns en
        cases q : tups? r with
        | none => rw [q] at h; cases h
        | some qs =>
          rw [q] at h
          cases h
          rw [tups_of q, ints_of en]
          rfl
      · cases h
    · cases h
def rSortX (mu : Bool) : DRC := fun ds H Q => match ds with
  | [d] => (match seqOf H d with
    | some xs => (match ints? xs with
      | some ns => ∀ ns' : List Int, ns'.Perm ns → ns'.Pairwise (· ≤ ·) → tellL mu (ns'.map D.int) H Q
      | none => (match tups? xs with
        | some nss => (∀ ns ∈ nss, ns ≠ []) ∧ ∀ mss : List (List Int), mss.Perm nss → mss.Pairwise (fun a b => HT.lexLt b a = false) → tellL mu (mss.map tupI) H Q
        | none => False))
    | none => False)
  | _ => False
section
variable {X : Cx} {T : Hp} {DH : DHp} {H : Hp}
/-- the ints of a tuple, as it stands -/
noncomputable def keyT' (H : Hp) (v : V) : List Int := open Classical in if h : ∃ (t : Addr) (ns : List Int), v = .ref t ∧ H t = some (.tup (ns.map V.int)) then h.choose_spec.choose else []
theorem mapInt_inj : ∀ {a b : List Int}, a.map V.int = b.map V.int → a = b
  | [], [], _ => rfl
  | [], _ :: _, h => by cases h
  | _ :: _, [], h => by cases h
  | x :: a, y :: b, h => by
    simp only [List.map_cons, List.cons.injEq, V.int.injEq] at h
    rw [h.1, mapInt_inj h.2]
theorem keyT_at {H : Hp} {t : Addr} {ns : List Int} (h : H t = some (.tup (ns.map V.int))) : keyT' H (.ref t) = ns := by
  unfold keyT'
  have ex : ∃ (t' : Addr) (ms : List Int), (V.ref t) = .ref t' ∧ H t' = some (.tup (ms.map V.int)) := ⟨t, ns, rfl, h⟩
  rw [dif_pos ex]
  have sp := ex.choose_spec.choose_spec
  have e1 : t = ex.choose := by injection sp.1
  have e3 : H ex.choose = some (.tup (ns.map V.int)) := by rw [← e1]; exact h
  have e2 := e3.symm.trans sp.2
  injection e2 with e2
  injection e2 with e2
  exact (mapInt_inj e2).symm
theorem tups_rep : ∀ {nss : List (List Int)} {vs : List V}, RepL T (nss.map tupI) vs → ∀ v ∈ vs, ∃ (t : Addr) (ns : List Int), v = V.ref t ∧ T t = some (.tup (ns.map V.int)) ∧ ns ∈ nss
  | [], vs, r, v, hv => by cases (show vs = [] from r); cases hv
  | ns :: nss, vs, ⟨w, r, e, ⟨t, us, ew, et, eu⟩, r2⟩, v, hv => by
    subst e
    rcases List.mem_cons.mp hv with rfl | hv
    · rw [RepL.ints_inv eu] at et
      exact ⟨t, ns, ew, et, by simp⟩
    · obtain ⟨t, ms, h1, h2, h3⟩ := tups_rep r2 v hv
      exact ⟨t, ms, h1, h2, by simp [h3]⟩
theorem tups_keys (sb : Sb T H) : ∀ {nss : List (List Int)} {vs : List V}, RepL T (nss.map tupI) vs → vs.map (keyT' H) = nss
  | [], vs, r => by cases (show vs = [] from r); rfl
  | ns :: nss, vs, ⟨w, r, e, ⟨t, us, ew, et, eu⟩, r2⟩ => by
    subst e
    rw [RepL.ints_inv eu] at et
    rw [List.map_cons, tups_keys sb r2, ew, keyT_at (sb _ _ et)]
theorem tups_back (sb : Sb T H) : ∀ {vs : List V}, (∀ v ∈ vs, ∃ (t : Addr) (ns : List Int), v = V.ref t ∧ T t = some (.tup (ns.map V.int))) → RepL T ((vs.map (keyT' H)).map tupI) vs
  | [], _ => .nil
  | v :: vs, h => by
    obtain ⟨t, ns, rfl, et⟩ := h v (by simp)
    refine .cons ⟨t, _, rfl, et, ?_⟩ (tups_back sb fun w hw => h w (by simp [hw]))
    rw [keyT_at (sb _ _ et)]
    exact RepL.ints ns
theorem cd_sortedX {mu : Bool} : CallR X (.builtin "sorted") (loC (rSortX mu)) := crW (CallR.or (cr_sortedIS (X := X)) (cr_sortedTS (X := X))) fun vs H Q ⟨T, DH, ds, R, A, r, h, w⟩ => by
  unfold rSortX at h
  split at h
  · rename_i d
    obtain ⟨v, rfl, rv⟩ := r.one
    split at h
    · rename_i xs el
      obtain ⟨p, us, rfl, hp, ru⟩ := seqOf_rep (K := X.K) A rv el
      split at h
      · rename_i ns ei
        have e1 := ints_of ei
        subst e1
        have e2 := RepL.ints_inv ru
        subst e2
        exact .inl ⟨p, ns, rfl, hp, fun ns' q h1 h2 h3 => tell_fin A (RepL.ints ns') w (h ns' h1 h2) h3⟩
      · split at h
        · rename_i nss ep
          obtain ⟨hne, h⟩ := h
          have e1 := tups_of ep
          subst e1
          have hk : ∀ x ∈ us, ∃ (t : Addr) (ns : List Int), x = V.ref t ∧ T t = some (.tup (ns.map V.int)) ∧ ns ∈ nss := fun x hx => tups_rep ru x hx
          refine .inr ⟨p, us, keyT' H, rfl, hp, fun x hx => ?_, fun ys q h1 h2 h3 => ?_⟩
          · obtain ⟨t, ns, rfl, et, hm⟩ := hk x hx
            have et' : H t = some (.tup (ns.map V.int)) := A.sub _ _ et
            rw [keyT_at et']
            exact ⟨hne ns hm, t, rfl, SqT.of et'⟩
          · have hy : ∀ v ∈ ys, ∃ (t : Addr) (ns : List Int), v = V.ref t ∧ T t = some (.tup (ns.map V.int)) := fun v hv => by
              obtain ⟨t, ns, a, b, _⟩ := hk v (h2.perm.mem_iff.mp hv)
              exact ⟨t, ns, a, b⟩
            refine tell_fin A (tups_back A.sub hy) w (h _ ?_ ?_) h3
            · have := h2.perm.map (keyT' H)
              rw [tups_keys A.sub ru] at this
              exact this
            · exact List.pairwise_map.mpr h1
        · exact h.elim
    · exact h.elim
  · exact h.elim
end
end DL

/-! TL3: the typed layer: sorted, max, min, list(range). -/
namespace DL
open PySem PySem.Spec PyProof.Rows L2
def leI (a b : Int) : Bool := decide (a ≤ b)
def leP (p q : Int × Int) : Bool := decide (p.1 < q.1) || (decide (p.1 = q.1) && decide (p.2 ≤ q.2))
def srtI (xs : List Int) : List Int := xs.mergeSort leI
def srtP (xs : List (Int × Int)) : List (Int × Int) := xs.mergeSort leP
theorem leP_lex {p q : Int × Int} : leP p q = true ↔ lexLe p q := by unfold leP lexLe; simp
theorem srtI_perm (xs : List Int) : (srtI xs).Perm xs := List.mergeSort_perm _ _
theorem srtP_perm (xs : List (Int × Int)) : (srtP xs).Perm xs := List.mergeSort_perm _ _
theorem srtI_sorted (xs : List Int) : (srtI xs).Pairwise (· ≤ ·) := by
  have := List.pairwise_mergeSort (le := leI) (fun a b c h1 h2 => by simp only [leI, decide_eq_true_eq] at *; omega) (fun a b => by simp only [leI, Bool.or_eq_true, decide_eq_true_eq]; omega) xs
  exact this.imp fun h => by simpa [leI] using h
theorem srtP_sorted (xs : List (Int × Int)) : (srtP xs).Pairwise lexLe := by
  have := List.pairwise_mergeSort (le := leP) (fun a b c h1 h2 => by rw [leP_lex] at *; unfold lexLe at *; omega) (fun a b => by simp only [Bool.or_eq_true, leP_lex]; unfold lexLe; omega) xs
  exact this.imp fun h => leP_lex.mp h
theorem sortedI_unique {xs ys : List Int} (p : xs.Perm ys) (h1 : xs.Pairwise (· ≤ ·)) (h2 : ys.Pairwise (· ≤ ·)) : xs = ys := p.eq_of_pairwise (fun a b _ _ h1 h2 => by omega) h1 h2
theorem lexLe_antisymm {p q : Int × Int} (h1 : lexLe p q) (h2 : lexLe q p) : p = q := by
  unfold lexLe at h1 h2
  exact Prod.ext (by omega) (by omega)
theorem sortedP_unique {xs ys : List (Int × Int)} (p : xs.Perm ys) (h1 : xs.Pairwise lexLe) (h2 : ys.Pairwise lexLe) : xs = ys := p.eq_of_pairwise (fun a b _ _ h1 h2 => lexLe_antisymm h1 h2) h1 h2
theorem srtI_id {xs : List Int} (h : xs.Pairwise (· ≤ ·)) : srtI xs = xs := sortedI_unique (srtI_perm xs) (srtI_sorted xs) h
theorem srtP_id {xs : List (Int × Int)} (h : xs.Pairwise lexLe) : srtP xs = xs := sortedP_unique (srtP_perm xs) (srtP_sorted xs) h
section
variable {τ : DSt} {H : DHp}
theorem c_srtI {xs : List Int} {a : D} (sa : seqOf H a = some (xs.map eI)) : RvC (rSortX false) [a] H (eL eI (srtI xs)) := fun Q q => by
  show (match seqOf H a with | some xs => _ | none => False)
  rw [sa]
  show (match ints? (xs.map D.int) with | some ns => _ | none => _)
  rw [ints_map]
  intro ns' h1 h2
  rw [tell_F]
  rw [sortedI_unique (h1.trans (srtI_perm xs).symm) h2 (srtI_sorted xs)]
  exact q
/-- before or alike, of lists of numbers -/
def leT (a b : List Int) : Bool := !HT.lexLt b a
theorem lexLt_total : ∀ a b : List Int, HT.lexLt a b = false → HT.lexLt b a = false → a = b
  | [], [], _, _ => rfl
  | [], _ :: _, h, _ => by cases h
  | _ :: _, [], _, h => by cases h
  | x :: xs, y :: ys, h1, h2 => by
    rw [HT.lexLt_cons] at h1 h2
    by_cases e : x = y
    · subst e
      rw [if_pos rfl] at h1 h2
      rw [lexLt_total xs ys h1 h2]
    · rw [if_neg e] at h1
      rw [if_neg (Ne.symm e)] at h2
      simp only [decide_eq_false_iff_not] at h1 h2
      omega
theorem leT_trans (a b c : List Int) (h1 : leT a b = true) (h2 : leT b c = true) : leT a c = true := by
  unfold leT at *
  simp only [Bool.not_eq_true'] at *
  exact (DLS.lexLt_swo' (fun x : List Int => x)).2 _ _ _ h1 h2
theorem leT_total (a b : List Int) : (leT a b || leT b a) = true := by
  unfold leT
  cases h : HT.lexLt b a with
  | false => rfl
  | true => rw [(DLS.lexLt_swo' (fun x : List Int => x)).1 b a h]; rfl
def srtT (xs : List (List Int)) : List (List Int) := xs.mergeSort leT
theorem srtT_perm (xs : List (List Int)) : (srtT xs).Perm xs := List.mergeSort_perm _ _
theorem srtT_sorted (xs : List (List Int)) : (srtT xs).Pairwise fun a b => HT.lexLt b a = false := by
  have := List.pairwise_mergeSort (le := leT) leT_trans leT_total xs
  exact this.imp fun h => by unfold leT at h; simpa using h
theorem sortedT_unique {xs ys : List (List Int)} (p : xs.Perm ys) (h1 : xs.Pairwise fun a b => HT.lexLt b a = false) (h2 : ys.Pairwise fun a b => HT.lexLt b a = false) : xs = ys := p.eq_of_pairwise (fun a b _ _ h1 h2 => lexLt_total a b h2 h1) h1 h2
theorem c_srtT {xs : List (List Int)} {a : D} (sa : seqOf H a = some (xs.map (eT eI))) (hne : ∀ x ∈ xs, x ≠ []) : RvC (rSortX false) [a] H (eL (eT eI) (srtT xs)) := fun Q q => by
  show (match seqOf H a with | some xs => _ | none => False)
  rw [sa]
  cases xs with
  | nil =>
    intro ns' h1 h2
    rw [tell_F, List.perm_nil.mp h1]
    have e0 : srtT [] = [] := List.perm_nil.mp (srtT_perm [])
    rw [e0] at q
    exact q
  | cons x xs =>
    show (match tups? ((x :: xs).map tupI) with | some ps => _ | none => False)
    rw [tups_map]
    refine ⟨hne, fun ns' h1 h2 => ?_⟩
    rw [tell_F]
    rw [sortedT_unique (h1.trans (srtT_perm (x :: xs)).symm) h2 (srtT_sorted _)]
    exact q
def twoL (p : Int × Int) : List Int := [p.1, p.2]
theorem twoL_lt {p q : Int × Int} : HT.lexLt (twoL q) (twoL p) = false ↔ lexLe p q := by
  unfold twoL lexLe
  rw [HT.lexLt_cons, HT.lexLt_cons]
  by_cases e : q.1 = p.1
  · rw [if_pos e]
    by_cases e2 : q.2 = p.2
    · rw [if_pos e2]
      constructor
      · intro _; omega
      · intro _; rfl
    · rw [if_neg e2]
      simp only [decide_eq_false_iff_not]
      omega
  · rw [if_neg e]
    simp only [decide_eq_false_iff_not]
    omega
theorem c_srtP {xs : List (Int × Int)} {a : D} (sa : seqOf H a = some (xs.map eR)) : RvC (rSortX false) [a] H (eL eR (srtP xs)) := fun Q q => by
  show (match seqOf H a with | some xs => _ | none => False)
  rw [sa]
  have em : ∀ zs : List (Int × Int), zs.map eR = (zs.map twoL).map tupI := fun zs => by rw [List.map_map]; rfl
  cases xs with
  | nil =>
    intro ns' h1 h2
    rw [tell_F, List.perm_nil.mp h1]
    have e0 : srtP [] = [] := List.perm_nil.mp (srtP_perm [])
    rw [e0] at q
    exact q
  | cons x xs =>
    show (match tups? ((x :: xs).map eR) with | some ps => _ | none => False)
    rw [em, tups_map]
    refine ⟨fun z hz => ?_, fun ns' h1 h2 => ?_⟩
    · obtain ⟨p, _, rfl⟩ := List.mem_map.mp hz
      intro e; cases e
    · rw [tell_F]
      have e1 : ns' = (srtP (x :: xs)).map twoL := by
        refine sortedT_unique (h1.trans ((srtP_perm (x :: xs)).symm.map twoL)) h2 ?_
        exact List.pairwise_map.mpr ((srtP_sorted (x :: xs)).imp fun h => twoL_lt.mpr h)
      rw [e1, ← em]
      exact q
def maxL (xs : List Int) : Int := match xs with
  | [] => 0
  | x :: r => r.foldl max x
def minL (xs : List Int) : Int := match xs with
  | [] => 0
  | x :: r => r.foldl min x
theorem foldl_max_le : ∀ (r : List Int) (x : Int), x ≤ r.foldl max x ∧ (∀ y ∈ r, y ≤ r.foldl max x) ∧ (r.foldl max x = x ∨ r.foldl max x ∈ r)
  | [], x => ⟨Int.le_refl _, by simp, .inl rfl⟩
  | y :: r, x => by
    obtain ⟨h1, h2, h3⟩ := foldl_max_le r (max x y)
    simp only [List.foldl_cons, List.mem_cons]
    refine ⟨by omega, fun z hz => ?_, ?_⟩
    · rcases hz with rfl | hz
      · omega
      · exact h2 z hz
    · rcases h3 with h3 | h3
      · rw [h3]
        rcases Int.le_total x y with z | z
        · exact .inr (.inl (by omega))
        · exact .inl (by omega)
      · exact .inr (.inr h3)
theorem foldl_min_le : ∀ (r : List Int) (x : Int), r.foldl min x ≤ x ∧ (∀ y ∈ r, r.foldl min x ≤ y) ∧ (r.foldl min x = x ∨ r.foldl min x ∈ r)
  | [], x => ⟨Int.le_refl _, by simp, .inl rfl⟩
  | y :: r, x => by
    obtain ⟨h1, h2, h3⟩ := foldl_min_le r (min x y)
    simp only [List.foldl_cons, List.mem_cons]
    refine ⟨by omega, fun z hz => ?_, ?_⟩
    · rcases hz with rfl | hz
      · omega
      · exact h2 z hz
    · rcases h3 with h3 | h3
      · rw [h3]
        rcases Int.le_total x y with z | z
        · exact .inl (by omega)
        · exact .inr (.inl (by omega))
      · exact .inr (.inr h3)
theorem maxL_spec {xs : List Int} (h : xs ≠ []) : maxL xs ∈ xs ∧ ∀ y ∈ xs, y ≤ maxL xs := by
  cases xs with
  | nil => exact absurd rfl h
  | cons x r =>
    obtain ⟨h1, h2, h3⟩ := foldl_max_le r x
    refine ⟨?_, fun y hy => ?_⟩
    · rcases h3 with h3 | h3
      · exact List.mem_cons.mpr (.inl h3)
      · exact List.mem_cons.mpr (.inr h3)
    · rcases List.mem_cons.mp hy with rfl | hy
      · exact h1
      · exact h2 y hy
theorem minL_spec {xs : List Int} (h : xs ≠ []) : minL xs ∈ xs ∧ ∀ y ∈ xs, minL xs ≤ y := by
  cases xs with
  | nil => exact absurd rfl h
  | cons x r =>
    obtain ⟨h1, h2, h3⟩ := foldl_min_le r x
    refine ⟨?_, fun y hy => ?_⟩
    · rcases h3 with h3 | h3
      · exact List.mem_cons.mpr (.inl h3)
      · exact List.mem_cons.mpr (.inr h3)
    · rcases List.mem_cons.mp hy with rfl | hy
      · exact h1
      · exact h2 y hy
theorem c_maxL {xs : List Int} {a : D} (pa : peek H a = eL eI xs) (h : xs ≠ []) : RvC rMaxL [a] H (.int (maxL xs)) := fun Q q => by
  show (match (listOf H a).bind ints? with | some ns => _ | none => False)
  unfold listOf
  rw [pa]
  show (match ints? (xs.map D.int) with | some ns => _ | none => False)
  rw [ints_map]
  refine ⟨List.length_pos_iff.mpr h, fun m h1 h2 => ?_⟩
  obtain ⟨k1, k2⟩ := maxL_spec h
  have e : m = maxL xs := Int.le_antisymm (k2 m h1) (h2 _ k1)
  rw [e]
  exact q
theorem c_minL {xs : List Int} {a : D} (pa : peek H a = eL eI xs) (h : xs ≠ []) : RvC rMinL [a] H (.int (minL xs)) := fun Q q => by
  show (match (listOf H a).bind ints? with | some ns => _ | none => False)
  unfold listOf
  rw [pa]
  show (match ints? (xs.map D.int) with | some ns => _ | none => False)
  rw [ints_map]
  refine ⟨List.length_pos_iff.mpr h, fun m h1 h2 => ?_⟩
  obtain ⟨k1, k2⟩ := minL_spec h
  have e : m = minL xs := Int.le_antisymm (h2 _ k1) (k2 m h1)
  rw [e]
  exact q
theorem ev_lrg1 {te : DE} {n : Int} (h : Ev te τ H (.int n)) (h0 : 0 ≤ n) (h1 : n ≤ 1000000) : Ev (dLstRg1 false te) τ H (eL eI (rng 0 n)) := fun Q q => h _ (by
  refine ⟨⟨h0, h1⟩, ?_⟩
  rw [tell_F, rng_map0]
  exact q)
theorem ev_lrg2 {ta tb : DE} {m n : Int} (ha : Ev ta τ H (.int m)) (hb : Ev tb τ H (.int n)) (h : 0 ≤ m ∧ m ≤ 1000000 ∧ 0 ≤ n ∧ n ≤ 1000000) : Ev (dLstRg2 false ta tb) τ H (eL eI (rng m n)) := fun Q q => ha _ (hb _ (by
  refine ⟨h, ?_⟩
  rw [tell_F, rng_map]
  exact q))
theorem srtI2 (x y : Int) : srtI [x, y] = [min x y, max x y] := by
  refine sortedI_unique ((srtI_perm [x, y]).trans ?_) (srtI_sorted _) (by simp only [List.pairwise_cons, List.mem_singleton, List.not_mem_nil]; exact ⟨fun z hz => by omega, fun z hz => hz.elim, .nil⟩)
  rcases Int.le_total x y with h | h
  · rw [show min x y = x by omega, show max x y = y by omega]
  · rw [show min x y = y by omega, show max x y = x by omega]
    exact .swap _ _ _
theorem ev_sort2 {te : DE} (x y : Int) (h : Ev te τ H (.lst [.int x, .int y])) : Ev (dCB rTupD (dCons (dCB (rSortX false) (dCons te dNil)) dNil)) τ H (eR (min x y, max x y)) := fun Q q => h _ (by
  have h2 : Ev (dCB (rSortX false) (dCons te dNil)) τ H (eL eI (srtI [x, y])) := ev_cb (ea_cons h ea_nil) (c_srtI rfl)
  have := c_srtI (H := H) (xs := [x, y]) (a := .lst [.int x, .int y]) rfl
  refine this _ ?_
  show Q (.tup ((srtI [x, y]).map D.int)) H
  rw [srtI2]
  exact q)
/- kinds, and values that may be anything -/
def tyD : D → String
  | .non => "NoneType"
  | .bl _ => "bool"
  | .int _ => "int"
  | .str _ => "str"
  | .tup _ => "tuple"
  | .lst _ => "list"
  | .dct _ _ => "dict"
  | _ => ""
def isTyD (x : D) (n : String) : Bool := isTy (tyD x) n
theorem c_isi {x : D} {t n : String} (hx : tyD x = t) (ht : t ≠ "") (hn : (["int", "bool", "str", "tuple", "list", "dict"] : List String).contains n = true) : RvC rIsiD [x, .ty n] H (.bl (isTy t n)) := fun Q q => by
  rw [rIsiD_e]
  have e : tyOf H x = t := by
    rw [← hx]
    cases x <;> first | rfl | (exfalso; apply ht; rw [← hx]; rfl)
  show (tyOf H x ≠ "" ∧ _) ∧ Q (.bl (isTy (tyOf H x) n)) H
  rw [e]
  exact ⟨⟨ht, hn⟩, q⟩
theorem c_isiD {x : D} {n : String} (ht : tyD x ≠ "") (hn : (["int", "bool", "str", "tuple", "list", "dict"] : List String).contains n = true) : RvC rIsiD [x, .ty n] H (.bl (isTyD x n)) := c_isi rfl ht hn
theorem c_lenP {ds : List D} : RvC rLenD [.tup ds] H (.int ds.length) := fun Q q => q
def itemsD : D → List D
  | .tup xs => xs
  | .lst xs => xs
  | _ => []
def lenD (x : D) : Int := (itemsD x).length
def isSeqD : D → Bool
  | .tup _ => true
  | .lst _ => true
  | _ => false
theorem c_lenD {x : D} (h : isSeqD x = true) : RvC rLenD [x] H (.int (lenD x)) := fun Q q => by
  cases x <;> first | exact q | cases h
def ixD (x : D) (i : Int) : D := (atI (itemsD x) i).getD .non
theorem r_ixD {x : D} {i : Int} (h : isSeqD x = true ∧ inIx (itemsD x) i) : Rv2 rIxD x (.int i) H (ixD x i) := fun Q q => by
  obtain ⟨h1, h2⟩ := h
  have e : seqOf H x = some (itemsD x) := by cases x <;> first | rfl | cases h1
  rw [rIxD_e, e]
  show (match atI (itemsD x) i with | some d => Q d H | none => False)
  have e2 : atI (itemsD x) i = some (ixD x i) := by
    have : ∃ k, ixN (itemsD x).length i = some k ∧ k < (itemsD x).length := by
      obtain ⟨h3, h4⟩ := h2
      unfold ixN
      by_cases h0 : 0 ≤ i
      · rw [if_pos h0, if_pos (by omega)]; exact ⟨_, rfl, by omega⟩
      · rw [if_neg h0, if_pos (by omega)]; exact ⟨_, rfl, by omega⟩
    obtain ⟨k, hk, hk2⟩ := this
    unfold ixD atI
    rw [hk]
    simp only [Option.bind_some]
    rw [List.getElem?_eq_getElem hk2]
    rfl
  rw [e2]
  exact q
theorem r_catD {xs ys : List D} {k : Nat} (h : xs.length + ys.length = k) (hk : k ≤ 1000) : Rv2 rAddD (.tup xs) (.tup ys) H (.tup (xs ++ ys)) := fun Q q => ⟨by rw [h]; exact size_le4 (by omega), q⟩
theorem r_eqSt {a b : Str} (ha : PyData.strOk a = true) (hb : PyData.strOk b = true) : Rv2 (rEqD false) (.str a) (.str b) H (.bl (a == b)) := fun Q q => ⟨⟨ha, hb, .inl (Nat.zero_le _)⟩, q⟩
theorem r_neSt {a b : Str} (ha : PyData.strOk a = true) (hb : PyData.strOk b = true) : Rv2 (rEqD true) (.str a) (.str b) H (.bl (!(a == b))) := fun Q q => ⟨⟨ha, hb, .inl (Nat.zero_le _)⟩, q⟩
end
end DL

local macro_rules
  | `(tactic| unfold dd $ls*) => `(tactic| try simp only [↓DL.dVar_e, ↓DL.dC_e, ↓DL.dOp_e, ↓DL.dUn_e, ↓DL.dB_e, ↓DL.dChain_e, ↓DL.dAnd_e, ↓DL.dOr_e, ↓DL.dNot_e, ↓DL.dAndV_e, ↓DL.dOrV_e, ↓DL.dNotV_e, ↓DL.dIf_e, ↓DL.dNil_e, ↓DL.dCons_e, ↓DL.dTup_e, ↓DL.dLst_e, ↓DL.dCB_e, ↓DL.dNext_e, ↓DL.dSeq_e, ↓DL.dCont_e, ↓DL.dBreak_e, ↓DL.dDrop_e, ↓DL.dRet_e, ↓DL.dRetN_e, ↓DL.dIfS_e, ↓DL.gN_e, ↓DL.gNilD_e, ↓DL.gConsD_e, ↓DL.gT_e, ↓DL.dAsg_e, ↓DL.dPar_e, ↓DL.dPar3_e, ↓DL.dYes_e, ↓DL.dISeq_e, ↓DL.dIRg1_e, ↓DL.dIRg2_e, ↓DL.dIEnum_e, ↓DL.dIZip_e, ↓DL.rIntD_e, ↓DL.rNegD_e, ↓DL.rEq_intF, ↓DL.rEq_intT, ↓DL.rAddD_e, ↓DL.rMulD_e, ↓DL.rIxD_e, ↓DL.rI1_e, ↓DL.rI2_e, ↓DL.rIntCD_e, ↓DL.rSumD_e, ↓DL.rAllD_e, ↓DL.rIsiD_e, ↓DL.rLenD_e, ↓DL.rTupD_e, ↓DL.rLstD_e, ↓DL.rIsN_e, ↓DL.rSlD_e, ↓DL.dSl_e, ↓DL.dNoPart_e, ↓DL.dPart_e, ↓DL.dRev_e, ↓DL.dGet_e, ↓DL.dIn_e, ↓DL.dStore_e, ↓DL.dBM0_e, ↓DL.dBM_e, ↓DL.dDisp_e, ↓DL.mAppend_e, ↓DL.mPop_e, ↓DL.dNewK_e, ↓DL.dNewT_e, ↓DL.dLstM_e, ↓DL.dFrz_e, ↓DL.rReprD_e, ↓DL.rNeS_e, ↓DL.rEqS_e, ↓DL.asB_e, ↓DL.walkD_e, ↓DL.lookD_e, ↓DL.storeD_e, ↓DL.ofTy_e, ↓DL.onLst_e, DL.bodyE, DL.dstart, DL.dPairs, DL.keysOf, DL.keyD, DL.isNon, DL.peek_int, DL.peek_bl, DL.peek_non, DL.peek_str, DL.peek_tup, DL.peek_lst, DL.seqOf_tup, DL.seqOf_lst, DL.listOf_lst, DL.tyOf, DL.isTy, DL.dupd_same, DL.dupd_dupd, List.map_cons, List.map_nil, List.length_cons, List.length_nil, List.cons_append, List.nil_append, List.replicate_succ, List.replicate_zero, Nat.reduceAdd, Nat.reduceSub, Nat.zero_add, List.getElem?_cons_zero, List.getElem?_cons_succ, List.set_cons_zero, List.set_cons_succ, true_and, and_true, if_true, if_false, Bool.false_eq_true, reduceCtorEq, ne_eq, not_false_eq_true, not_true_eq_false, decide_eq_true_eq, Bool.not_eq_true', decide_eq_false_iff_not, Option.bind_some, Option.map_some, $[$ls:term],*])
/-! SH1: the source of draws. -/
namespace DL
open PySem PySem.Spec PyProof.Rows L2
/-! ### _law_source -/
def rd_law_source (K : PySem.W.Frag) : DS :=
  (dSeq (dAsg (dC (.int 11)) (gN 1))
    (dSeq (dFor (dIScr K (dVar 0)) (gN 2) (dAsg (dOp rMod (dCB rIntCD (dCons (dOp rAddD (dOp rAddD (dOp rMulD (dVar 1) (dC (.int 69069))) (dOp rMulD (dVar 2) (dC (.int 31)))) (dC (.int 5))) dNil)) (dC (.int 2147483629))) (gN 1)))
    (dRet (dDisp [((dC (.str (Str.ofString "cells"))), (dRev true (dLc false (dIScr K (dVar 0)) (gN 2) dYes (dCB rAbsD (dCons (dVar 2) dNil)) [2]))), ((dC (.str (Str.ofString "left"))), (dC (.int 1))), ((dC (.str (Str.ofString "mixed"))), (dVar 1)), ((dC (.str (Str.ofString "turn"))), (dC (.int 0)))]))))
/-! ### _law_pick -/
def rd_law_pick : DS :=
  (dSeq (dWhile (dAnd (dB (dOp (rIntD (fun _ _ => True) fun i j => .bl (decide (j < i))) (dVar 1) (dC (.int 1)))) (dAnd (dB (dOp (rIntD (fun _ _ => True) fun i j => .bl (decide (i < j))) (dGet (dVar 0) (dC (.str (Str.ofString "left")))) (dC (.int 2)))) (dB (dOp (rIntD (fun _ _ => True) fun i j => .bl (decide (j < i))) (dCB rLenD (dCons (dGet (dVar 0) (dC (.str (Str.ofString "cells")))) dNil)) (dC (.int 0)))))) (dStore (dVar 0) (dC (.str (Str.ofString "left"))) (dBM0 "list" mPop (dGet (dVar 0) (dC (.str (Str.ofString "cells")))))))
    (dSeq (dAsg (dGet (dVar 0) (dC (.str (Str.ofString "left")))) (gN 2))
    (dSeq (dIfS (dOr (dB (dOp (rIntD (fun _ _ => True) fun i j => .bl (decide (i < j))) (dVar 1) (dC (.int 2)))) (dB (dOp (rIntD (fun _ _ => True) fun i j => .bl (decide (j < i))) (dVar 2) (dC (.int 1))))) (dSeq (dStore (dVar 0) (dC (.str (Str.ofString "left"))) (dOp rFdiv (dVar 2) (dCB rMax2 (dCons (dC (.int 1)) (dCons (dVar 1) dNil)))))
    (dRet (dOp rMod (dCB rIntCD (dCons (dVar 2) dNil)) (dCB rMax2 (dCons (dC (.int 1)) (dCons (dVar 1) dNil)))))) dNext)
    (dSeq (dStore (dVar 0) (dC (.str (Str.ofString "turn"))) (dOp rAddD (dGet (dVar 0) (dC (.str (Str.ofString "turn")))) (dC (.int 1))))
    (dSeq (dAsg (dOp rMod (dCB rIntCD (dCons (dOp rAddD (dGet (dVar 0) (dC (.str (Str.ofString "mixed")))) (dOp rMulD (dGet (dVar 0) (dC (.str (Str.ofString "turn")))) (dC (.int 104729)))) dNil)) (dC (.int 998244353))) (gN 3))
    (dSeq (dAsg (dOp rMod (dCB rIntCD (dCons (dOp rAddD (dOp rMulD (dVar 3) (dVar 3)) (dOp rMulD (dGet (dVar 0) (dC (.str (Str.ofString "turn")))) (dC (.int 17)))) dNil)) (dC (.int 2147483647))) (gN 3))
    (dSeq (dStore (dVar 0) (dC (.str (Str.ofString "mixed"))) (dVar 3))
    (dRet (dOp rMod (dCB rIntCD (dCons (dOp rFdiv (dVar 3) (dC (.int 16))) dNil)) (dVar 1))))))))))
/-! ### _law_open_cells -/
def rd_law_open_cells (K : PySem.W.Frag) : DS :=
  (dSeq (dAsg (dC (.int 11)) (gN 1))
    (dSeq (dFor (dIScr K (dVar 0)) (gN 2) (dAsg (dOp rMod (dCB rIntCD (dCons (dOp rAddD (dOp rAddD (dOp rMulD (dVar 1) (dC (.int 69069))) (dOp rMulD (dVar 2) (dC (.int 31)))) (dC (.int 5))) dNil)) (dC (.int 2147483629))) (gN 1)))
    (dSeq (dAsg (dLc false (dIScr K (dVar 0)) (gN 2) dYes (dCB rAbsD (dCons (dVar 2) dNil)) [2]) (gN 3))
    (dRet (dDisp [((dC (.str (Str.ofString "cells"))), (dRev true (dVar 3))), ((dC (.str (Str.ofString "left"))), (dC (.int 1))), ((dC (.str (Str.ofString "mixed"))), (dVar 1)), ((dC (.str (Str.ofString "turn"))), (dC (.int 0)))])))))
/-! ### _law_pick -/
def rd_law_pickB : DS :=
  (dSeq (dIfS (dB (dOp (rIntD (fun _ _ => True) fun i j => .bl (decide (i < j))) (dVar 1) (dC (.int 2)))) (dRet (dC (.int 0))) dNext)
    (dSeq (dAsg (dGet (dVar 0) (dC (.str (Str.ofString "cells")))) (gN 2))
    (dSeq (dWhile (dAnd (dB (dOp (rIntD (fun _ _ => True) fun i j => .bl (decide (i < j))) (dGet (dVar 0) (dC (.str (Str.ofString "left")))) (dC (.int 2)))) (dB (dOp (rIntD (fun _ _ => True) fun i j => .bl (decide (j < i))) (dCB rLenD (dCons (dVar 2) dNil)) (dC (.int 0))))) (dStore (dVar 0) (dC (.str (Str.ofString "left"))) (dBM0 "list" mPop (dVar 2))))
    (dSeq (dAsg (dGet (dVar 0) (dC (.str (Str.ofString "left")))) (gN 3))
    (dSeq (dIfS (dB (dOp (rIntD (fun _ _ => True) fun i j => .bl (decide (j < i))) (dVar 3) (dC (.int 1)))) (dSeq (dStore (dVar 0) (dC (.str (Str.ofString "left"))) (dOp rFdiv (dVar 3) (dVar 1)))
    (dRet (dOp rMod (dCB rIntCD (dCons (dVar 3) dNil)) (dVar 1)))) dNext)
    (dSeq (dStore (dVar 0) (dC (.str (Str.ofString "turn"))) (dOp rAddD (dGet (dVar 0) (dC (.str (Str.ofString "turn")))) (dC (.int 1))))
    (dSeq (dAsg (dGet (dVar 0) (dC (.str (Str.ofString "turn")))) (gN 4))
    (dSeq (dAsg (dOp rMod (dCB rIntCD (dCons (dOp rAddD (dGet (dVar 0) (dC (.str (Str.ofString "mixed")))) (dOp rMulD (dVar 4) (dC (.int 104729)))) dNil)) (dC (.int 998244353))) (gN 5))
    (dSeq (dAsg (dOp rMod (dCB rIntCD (dCons (dOp rAddD (dOp rMulD (dVar 5) (dVar 5)) (dOp rMulD (dVar 4) (dC (.int 17)))) dNil)) (dC (.int 2147483647))) (gN 5))
    (dRet (dOp rMod (dCB rIntCD (dCons (dOp rFdiv (dVar 5) (dC (.int 16))) dNil)) (dVar 1))))))))))))

/-! ### the promises -/
def okAll : DHp → Prop := fun _ => True
/-- a source of draws from a script -/
def spSource (K : PySem.W.Frag) : DSp := fun ds DH Q => ∃ a ns, ds = [.ref a] ∧ ns.length ≤ 63 ∧ ScrAt K DH a ns ∧ ∀ p, DH p = none → Q (.ref p) (dupd DH p .src)
def spSource0 (K : PySem.W.Frag) : DSp := fun ds DH Q => ∃ a ns, ds = [.ref a] ∧ ns.length ≤ 63 ∧ ScrAt K DH a ns ∧ ∀ p c cells l m t, DH p = none → DH c = none → c ≠ p → SrcOk cells l m t → Q (.ref p) (dupd (dupd DH c (.lst (cells.map D.int))) p (srcD c l m t))
/-- a draw below m, or 0 -/
def spPick : DSp := fun ds DH Q => ∃ a m, ds = [.ref a, .int m] ∧ DH a = some .src ∧ m < 2 ^ 64 ∧ ∀ k, 0 ≤ k → (k < m ∨ k = 0) → Q (.int k) DH
def opn (DH : DHp) (a c : Addr) (cells : List Int) (l m t : Int) : DHp := dupd (dupd DH a (srcD c l m t)) c (.lst (cells.map D.int))
def spPick0 : DSp := fun ds DH0 Q => ∃ a c n cells l m t DH, ds = [.ref a, .int n] ∧ c ≠ a ∧ DH0 = opn DH a c cells l m t ∧ SrcOk cells l m t ∧ n < 2 ^ 64 ∧ ∀ k cells' l' m' t', SrcOk cells' l' m' t' → 0 ≤ k → (k < n ∨ k = 0) → Q (.int k) (opn DH a c cells' l' m' t')
theorem source_imp {K : PySem.W.Frag} {P : Program} {w : World} {mg : Str → Option Value} {base : Heap} {k : Nat} {x : Str} (h : Has P w K mg base k x (spSource0 K)) : Has P w K mg base k x (spSource K) := by
  obtain ⟨f, fd, ps, F, r⟩ := h
  refine ⟨f, fd, ps, F.imp fun vs H Q E ⟨T, DH, ds, R, A, r, ⟨a, ns, e, hl, hs, h⟩, u⟩ => ?_, r⟩
  refine ⟨T, DH, ds, fun d DH' => ∃ p c cells l m t, DH p = none ∧ DH c = none ∧ c ≠ p ∧ SrcOk cells l m t ∧ d = .ref p ∧ DH' = dupd (dupd DH c (.lst (cells.map D.int))) p (srcD c l m t), A, r, ⟨a, ns, e, hl, hs, ?_⟩, ?_⟩
  · exact fun p c cells l m t h1 h2 h3 h4 => ⟨p, c, cells, l, m, t, h1, h2, h3, h4, rfl, rfl⟩
  · rintro T' DH' H' d v s A' rv ⟨p, c, cells, l, m, t, h1, h2, h3, h4, rfl, rfl⟩
    have B := A'.shutS (a := p) (c := c) dupd_same (by rw [dupd_ne h3, dupd_same]) h4
    have e : dupd (derase (dupd (dupd DH c (.lst (cells.map D.int))) p (srcD c l m t)) c) p .src = dupd DH p .src := by
      funext b
      by_cases q : b = p
      · subst q; rw [dupd_same, dupd_same]
      · rw [dupd_ne q, dupd_ne q]
        unfold derase
        by_cases z : b = c
        · subst z; rw [if_pos rfl, h2]
        · rw [if_neg z, dupd_ne q, dupd_ne z]
    rw [e] at B
    exact u T' _ H' _ _ s B rv (h p h1)
theorem pick_imp {K : PySem.W.Frag} {P : Program} {w : World} {mg : Str → Option Value} {base : Heap} {k : Nat} {x : Str} (h : Has P w K mg base k x spPick0) : Has P w K mg base k x spPick := by
  obtain ⟨f, fd, ps, F, r⟩ := h
  refine ⟨f, fd, ps, F.imp fun vs H Q E ⟨T, DH, ds, R, A, r, ⟨a, n, e, hs, hn, h⟩, u⟩ => ?_, r⟩
  obtain ⟨c, cells, l, m, t, ok, hc, hcn, A0⟩ := A.openS hs
  refine ⟨T, _, ds, fun d DH' => ∃ k cells' l' m' t', SrcOk cells' l' m' t' ∧ 0 ≤ k ∧ (k < n ∨ k = 0) ∧ d = .int k ∧ DH' = opn DH a c cells' l' m' t', A0, r, ⟨a, c, n, cells, l, m, t, DH, e, hc, rfl, ok, hn, ?_⟩, ?_⟩
  · exact fun k cells' l' m' t' o h1 h2 => ⟨k, cells', l', m', t', o, h1, h2, rfl, rfl⟩
  · rintro T' DH' H' d v s A' rv ⟨k, cells', l', m', t', o, h1, h2, rfl, rfl⟩
    have B := A'.shutS (a := a) (c := c) (by unfold opn; rw [dupd_ne (Ne.symm hc), dupd_same]) (by unfold opn; rw [dupd_same]) o
    have e : dupd (derase (opn DH a c cells' l' m' t') c) a .src = DH := by
      funext b
      by_cases q : b = a
      · subst q; rw [dupd_same, hs]
      · rw [dupd_ne q]
        unfold derase opn
        by_cases z : b = c
        · subst z; rw [if_pos rfl, hcn]
        · rw [if_neg z, dupd_ne z, dupd_ne q]
    rw [e] at B
    exact u T' _ H' _ _ s B rv (h k h1 h2)

/-! ### what the source is made of -/
theorem stir_for {ok : DHp → Prop} {E : DEnds} {H : DHp} {a : Addr} {rest : List (Option D)} (hok : ok H) (hE : ∀ m c, 0 ≤ m → m < 2147483648 → E.nx (some (.ref a) :: some (.int m) :: c :: rest) H) : ∀ (ns : List Int) (m : Int) (c : Option D), 0 ≤ m → m < 2147483648 →
    dForL ok (gN 2) (dAsg (dOp rMod (dCB rIntCD (dCons (dOp rAddD (dOp rAddD (dOp rMulD (dVar 1) (dC (.int 69069))) (dOp rMulD (dVar 2) (dC (.int 31)))) (dC (.int 5))) dNil)) (dC (.int 2147483629))) (gN 1)) (ns.map D.int) E (some (.ref a) :: some (.int m) :: c :: rest) H
  | [], m, c, h0, h1 => ⟨hok, hE m c h0 h1⟩
  | n :: ns, m, c, h0, h1 => by
    refine ⟨hok, ?_⟩
    unfold dd
    refine ⟨mulD_r (by decide) (by decide), mulD_r (by decide) (by decide), by decide, stir_for hok hE ns _ _ ?_ ?_⟩
    · exact Int.emod_nonneg _ (by decide)
    · exact Int.lt_trans (Int.emod_lt_of_pos _ (by decide)) (by decide)
theorem abs_comp {ok : DHp → Prop} {H : DHp} {τ : DSt} {K : List D → DHp → Prop} (hok : ok H) (h2 : 2 < τ.length) (ns : List Int) (h : K (ns.map fun n => .int (if n < 0 then -n else n)) H) :
    dCompL ok (gN 2) dYes (dCB rAbsD (dCons (dVar 2) dNil)) τ (ns.map D.int) [] H K := by
  refine comp_map (fun x => match x with | .int n => .int (if n < 0 then -n else n) | x => x) hok _ _ (fun x hx Q q => ?_) ?_
  · obtain ⟨n, _, rfl⟩ := List.mem_map.mp hx
    show (dCB rAbsD (dCons (dVar 2) dNil)) (τ.set 2 (some (.int n))) H Q
    simp only [dCB, dCons, dVar, dNil, List.getElem?_set_self h2]
    exact q
  · rw [List.nil_append, List.map_map]
    exact h
theorem abs_nonneg {ns : List Int} : ∀ x ∈ (ns.map fun n => if n < 0 then -n else n).reverse, 0 ≤ x := fun x hx => by
  rw [List.mem_reverse, List.mem_map] at hx
  obtain ⟨n, _, rfl⟩ := hx
  split <;> omega
theorem abs_cells {ns : List Int} : (ns.map fun n => D.int (if n < 0 then -n else n)).reverse = (ns.map fun n => if n < 0 then -n else n).reverse.map D.int := by
  rw [List.map_reverse, List.map_map]
  rfl
theorem ScrAt.new {K : PySem.W.Frag} {H : DHp} {a p : Addr} {ns : List Int} {x : DO} (h : ScrAt K H a ns) (hp : H p = none) : ScrAt K (dupd H p x) a ns := by
  rcases h with h | h
  · exact .inl (by rw [dupd_ne (fun z => by subst z; rw [hp] at h; cases h)]; exact h)
  · exact .inr h
theorem key_ne : (Sum.inr (Str.ofString "cells") : Key) ≠ .inr (Str.ofString "left") := by decide
theorem source22 {K : PySem.W.Frag} {ds : List D} {DH : DHp} {Q : DK} (h : spSource0 K ds DH Q) : rd_law_source K (bodyE Q) (dstart ["script", "mixed", "cell"] ds) DH := by
  obtain ⟨a, ns, rfl, hl, hs, h⟩ := h
  unfold rd_law_source
  unfold dd dIScr
  refine ⟨a, ns, rfl, hs, stir_for hs (fun m c h0 h1 p hp => ?_) ns 11 none (by decide) (by decide)⟩
  refine ⟨a, ns, rfl, hs.new hp, by rw [List.length_map]; exact size_le (by omega), abs_comp (hs.new hp) ?_ ns ?_⟩
  · exact Nat.lt_succ_self 2
  unfold dd
  intro q hq
  obtain ⟨nq, hq⟩ := dupd_none.mp hq
  refine ⟨by rw [dupd_ne' nq, dupd_same], by decide, by decide, _, DSub.refl _, ?_⟩
  have e : dupd (dupd (dupd DH p (.dK [])) q (.lst (ns.map fun n => D.int (if n < 0 then -n else n)).reverse)) p (srcD q 1 m 0) = dupd (dupd DH q (.lst ((ns.map fun n => if n < 0 then -n else n).reverse.map D.int))) p (srcD q 1 m 0) := by
    rw [dupd_swap (Ne.symm nq), dupd_dupd, abs_cells]
  exact e ▸ h p q _ 1 m 0 hp hq nq ⟨by decide, h0, h1, by decide, abs_nonneg⟩
theorem sourceOC {K : PySem.W.Frag} {ds : List D} {DH : DHp} {Q : DK} (h : spSource0 K ds DH Q) : rd_law_open_cells K (bodyE Q) (dstart ["script", "stirred", "cell", "cells"] ds) DH := by
  obtain ⟨a, ns, rfl, hl, hs, h⟩ := h
  unfold rd_law_open_cells
  unfold dd dIScr
  refine ⟨a, ns, rfl, hs, stir_for hs (fun m c h0 h1 => ?_) ns 11 none (by decide) (by decide)⟩
  refine ⟨a, ns, rfl, hs, by rw [List.length_map]; exact size_le (by omega), abs_comp hs ?_ ns ?_⟩
  · exact (by decide : 2 < 4)
  unfold dd
  intro p hp q hq
  obtain ⟨nq, hq⟩ := dupd_none.mp hq
  refine ⟨by rw [dupd_ne' nq, dupd_same], by decide, by decide, _, DSub.refl _, ?_⟩
  have e : dupd (dupd (dupd DH p (.dK [])) q (.lst (ns.map fun n => D.int (if n < 0 then -n else n)).reverse)) p (srcD q 1 m 0) = dupd (dupd DH q (.lst ((ns.map fun n => if n < 0 then -n else n).reverse.map D.int))) p (srcD q 1 m 0) := by
    rw [dupd_swap (Ne.symm nq), dupd_dupd, abs_cells]
  exact e ▸ h p q _ 1 m 0 hp hq nq ⟨by decide, h0, h1, by decide, abs_nonneg⟩

/-! ### a draw -/
theorem opn_a {DH : DHp} {a c : Addr} {cells : List Int} {l m t : Int} (h : c ≠ a) : opn DH a c cells l m t a = some (.dK [(.inr "cells", .ref c), (.inr "left", .int l), (.inr "mixed", .int m), (.inr "turn", .int t)]) := by
  unfold opn
  rw [dupd_ne (Ne.symm h), dupd_same]
  rfl
theorem opn_c {DH : DHp} {a c : Addr} {cells : List Int} {l m t : Int} : opn DH a c cells l m t c = some (.lst (cells.map D.int)) := by
  unfold opn
  rw [dupd_same]
theorem srcd_cells {c : Addr} {l m t : Int} : dval [((Sum.inr "cells" : Key), D.ref c), (.inr "left", .int l), (.inr "mixed", .int m), (.inr "turn", .int t)] (.inr (Str.ofString "cells")) = some (.ref c) := rfl
theorem srcd_left {c : Addr} {l m t : Int} : dval [((Sum.inr "cells" : Key), D.ref c), (.inr "left", .int l), (.inr "mixed", .int m), (.inr "turn", .int t)] (.inr (Str.ofString "left")) = some (.int l) := rfl
theorem srcd_mixed {c : Addr} {l m t : Int} : dval [((Sum.inr "cells" : Key), D.ref c), (.inr "left", .int l), (.inr "mixed", .int m), (.inr "turn", .int t)] (.inr (Str.ofString "mixed")) = some (.int m) := rfl
theorem srcd_turn {c : Addr} {l m t : Int} : dval [((Sum.inr "cells" : Key), D.ref c), (.inr "left", .int l), (.inr "mixed", .int m), (.inr "turn", .int t)] (.inr (Str.ofString "turn")) = some (.int t) := rfl
theorem put_left {c : Addr} {l m t k : Int} : dput [((Sum.inr "cells" : Key), D.ref c), (.inr "left", .int l), (.inr "mixed", .int m), (.inr "turn", .int t)] (.inr (Str.ofString "left")) (.int k) = [((Sum.inr "cells" : Key), D.ref c), (.inr "left", .int k), (.inr "mixed", .int m), (.inr "turn", .int t)] := rfl
theorem put_mixed {c : Addr} {l m t k : Int} : dput [((Sum.inr "cells" : Key), D.ref c), (.inr "left", .int l), (.inr "mixed", .int m), (.inr "turn", .int t)] (.inr (Str.ofString "mixed")) (.int k) = [((Sum.inr "cells" : Key), D.ref c), (.inr "left", .int l), (.inr "mixed", .int k), (.inr "turn", .int t)] := rfl
theorem put_turn {c : Addr} {l m t k : Int} : dput [((Sum.inr "cells" : Key), D.ref c), (.inr "left", .int l), (.inr "mixed", .int m), (.inr "turn", .int t)] (.inr (Str.ofString "turn")) (.int k) = [((Sum.inr "cells" : Key), D.ref c), (.inr "left", .int l), (.inr "mixed", .int m), (.inr "turn", .int k)] := rfl
theorem opn_put {DH : DHp} {a c : Addr} {cells : List Int} {l m t l' m' t' : Int} (h : c ≠ a) : dupd (opn DH a c cells l m t) a (.dK [((Sum.inr "cells" : Key), D.ref c), (.inr "left", .int l'), (.inr "mixed", .int m'), (.inr "turn", .int t')]) = opn DH a c cells l' m' t' := by
  unfold opn
  rw [dupd_swap h, dupd_dupd]
  rfl
theorem opn_pop {DH : DHp} {a c : Addr} {cells cells' : List Int} {l m t : Int} : dupd (opn DH a c cells l m t) c (.lst (cells'.map D.int)) = opn DH a c cells' l m t := by
  unfold opn
  rw [dupd_dupd]
theorem last_get {cells : List Int} (h : 0 < cells.length) : ∃ x, (cells.map D.int)[cells.length - 1]? = some (.int x) ∧ x ∈ cells := by
  refine ⟨cells[cells.length - 1], ?_, List.getElem_mem _⟩
  rw [List.getElem?_map, List.getElem?_eq_getElem (by omega)]
  rfl
theorem srcOk_pop {cells : List Int} {l m t x : Int} (h : SrcOk cells l m t) (hx : x ∈ cells) : SrcOk cells.dropLast x m t :=
  ⟨h.2.2.2.2 x hx, h.2.1, h.2.2.1, h.2.2.2.1, fun y hy => h.2.2.2.2 y (List.dropLast_subset _ hy)⟩
theorem dl_map {cells : List Int} : (cells.map D.int).dropLast = cells.dropLast.map D.int := List.map_dropLast.symm
theorem log_small {n : Int} (h0 : 0 ≤ n) (h : n < 2 ^ 64) : n.natAbs.log2 < 9000 := by
  have : n.natAbs < 2 ^ 64 := by omega
  rcases Nat.eq_zero_or_pos n.natAbs with z | z
  · rw [z]; decide
  · have := (Nat.log2_lt (by omega)).mpr this
    omega
theorem mod_lt {x n : Int} (h : 2 ≤ n) : 0 ≤ x % n ∧ (x % n < n ∨ x % n = 0) := ⟨Int.emod_nonneg _ (by omega), .inl (Int.emod_lt_of_pos _ (by omega))⟩
theorem pick22 {ds : List D} {DH0 : DHp} {Q : DK} (h : spPick0 ds DH0 Q) : rd_law_pick (bodyE Q) (dstart ["source", "many", "left", "mixed"] ds) DH0 := by
  obtain ⟨a, c, n, cells, l, m, t, DH, rfl, hc, rfl, ok, hn, h⟩ := h
  unfold rd_law_pick
  unfold dd
  refine while_inv (fun k τ H => ∃ cells l, τ = [some (.ref a), some (.int n), none, none] ∧ H = opn DH a c cells l m t ∧ SrcOk cells l m t ∧ k = cells.length) ⟨cells, l, rfl, rfl, ok, rfl⟩ ?_
  rintro k τ H ⟨cells, l, rfl, rfl, ok, rfl⟩ E' - - hE -
  have tail : ∀ l', (n < 2 ∨ 1 < l') → 0 ≤ l' → ((0 < (if n > 1 then n else 1) ∧ (if n > 1 then n else 1).natAbs.log2 < 9000) ∧ 4 < sizeLine ∧ 0 < (if n > 1 then n else 1) ∧ ∃ H2, DSub H2 (opn DH a c cells (l' / if n > 1 then n else 1) m t) ∧ Q (.int (l' % if n > 1 then n else 1)) H2) := by
    intro l' hl h0
    have ok2 : SrcOk cells (l' / if n > 1 then n else 1) m t := ⟨Int.ediv_nonneg h0 (by split <;> omega), ok.2.1, ok.2.2.1, ok.2.2.2.1, ok.2.2.2.2⟩
    refine ⟨⟨by split <;> omega, ?_⟩, by decide, by split <;> omega, _, DSub.refl _, h _ _ _ _ _ ok2 ?_ ?_⟩
    · split
      · exact log_small (by omega) hn
      · decide
    · exact Int.emod_nonneg _ (by split <;> omega)
    · split
      · exact (mod_lt (by omega)).2
      · right; omega
  have fin : if n < 2 then ((0 < (if n > 1 then n else 1) ∧ (if n > 1 then n else 1).natAbs.log2 < 9000) ∧ 4 < sizeLine ∧ 0 < (if n > 1 then n else 1) ∧ ∃ H2, DSub H2 (opn DH a c cells (l / if n > 1 then n else 1) m t) ∧ Q (.int (l % if n > 1 then n else 1)) H2) else
      if 1 < l then ((0 < (if n > 1 then n else 1) ∧ (if n > 1 then n else 1).natAbs.log2 < 9000) ∧ 4 < sizeLine ∧ 0 < (if n > 1 then n else 1) ∧ ∃ H2, DSub H2 (opn DH a c cells (l / if n > 1 then n else 1) m t) ∧ Q (.int (l % if n > 1 then n else 1)) H2) else
      4 < sizeLine ∧ CMulD (t + 1) 104729 ∧ 0 < (998244353 : Int) ∧ CMulD ((m + (t + 1) * 104729) % 998244353) ((m + (t + 1) * 104729) % 998244353) ∧ CMulD (t + 1) 17 ∧ 0 < (2147483647 : Int) ∧ 4 < sizeLine ∧ (0 < (16 : Int) ∧ (Int.natAbs 16).log2 < 9000) ∧ 0 < n ∧
        ∃ H2, DSub H2 (opn DH a c cells l (((m + (t + 1) * 104729) % 998244353 * ((m + (t + 1) * 104729) % 998244353) + (t + 1) * 17) % 2147483647) (t + 1)) ∧ Q (.int (((m + (t + 1) * 104729) % 998244353 * ((m + (t + 1) * 104729) % 998244353) + (t + 1) * 17) % 2147483647 / 16 % n)) H2 := by
    refine ite2 (fun h1 => tail l (.inl h1) ok.1) fun h1 => ite2 (fun h2 => tail l (.inr h2) ok.1) fun h2 => ?_
    have g0 := Int.emod_nonneg (m + (t + 1) * 104729) (b := 998244353) (by decide)
    have g1 := Int.emod_lt_of_pos (m + (t + 1) * 104729) (b := 998244353) (by decide)
    have g2 := Int.emod_nonneg ((m + (t + 1) * 104729) % 998244353 * ((m + (t + 1) * 104729) % 998244353) + (t + 1) * 17) (b := 2147483647) (by decide)
    have g3 := Int.emod_lt_of_pos ((m + (t + 1) * 104729) % 998244353 * ((m + (t + 1) * 104729) % 998244353) + (t + 1) * 17) (b := 2147483647) (by decide)
    have ok2 : SrcOk cells l (((m + (t + 1) * 104729) % 998244353 * ((m + (t + 1) * 104729) % 998244353) + (t + 1) * 17) % 2147483647) (t + 1) := ⟨ok.1, g2, Int.lt_trans g3 (by decide), by have := ok.2.2.2.1; omega, ok.2.2.2.2⟩
    exact ⟨by decide, mulD_r (by decide) (by decide), by decide, mulD_l (by omega) (by omega), mulD_r (by decide) (by decide), by decide, by decide, ⟨by decide, by decide⟩, by omega, _, DSub.refl _, h _ _ _ _ _ ok2 (mod_lt (by omega)).1 (mod_lt (by omega)).2⟩
  unfold dd opn_a hc srcd_left srcd_cells srcd_turn srcd_mixed put_left put_turn put_mixed opn_put opn_c opn_pop peek List.length_map dl_map
  refine ite2 (fun h1 => ite2 (fun h2 => ite2 (fun h3 => ?_) fun h3 => ?_) fun h2 => ?_) fun h1 => ?_
  · obtain ⟨x, e, hx⟩ := last_get (cells := cells) (by omega)
    rw [e]
    unfold dd put_left opn_put hc
    exact ⟨by decide, hE _ _ _ (by rw [List.length_dropLast]; omega) ⟨_, _, rfl, rfl, srcOk_pop ok hx, rfl⟩⟩
  · exact fin
  · exact fin
  · exact fin
theorem pickB {ds : List D} {DH0 : DHp} {Q : DK} (h : spPick0 ds DH0 Q) : rd_law_pickB (bodyE Q) (dstart ["source", "most", "cells", "others", "lap", "stirred"] ds) DH0 := by
  obtain ⟨a, c, n, cells, l, m, t, DH, rfl, hc, rfl, ok, hn, h⟩ := h
  unfold rd_law_pickB
  unfold dd opn_a hc srcd_cells
  refine ite2 (fun h1 => ⟨_, DSub.refl _, h 0 cells l m t ok (by decide) (.inr rfl)⟩) fun h1 => ?_
  refine while_inv (fun k τ H => ∃ cells l, τ = [some (.ref a), some (.int n), some (.ref c), none, none, none] ∧ H = opn DH a c cells l m t ∧ SrcOk cells l m t ∧ k = cells.length) ⟨cells, l, rfl, rfl, ok, rfl⟩ ?_
  rintro k τ H ⟨cells, l, rfl, rfl, ok, rfl⟩ E' - - hE -
  have fin : if 1 < l then (0 < n ∧ n.natAbs.log2 < 9000) ∧ 4 < sizeLine ∧ 0 < n ∧ ∃ H2, DSub H2 (opn DH a c cells (l / n) m t) ∧ Q (.int (l % n)) H2 else
      4 < sizeLine ∧ CMulD (t + 1) 104729 ∧ 0 < (998244353 : Int) ∧ CMulD ((m + (t + 1) * 104729) % 998244353) ((m + (t + 1) * 104729) % 998244353) ∧ CMulD (t + 1) 17 ∧ 0 < (2147483647 : Int) ∧ (0 < (16 : Int) ∧ (Int.natAbs 16).log2 < 9000) ∧ 0 < n ∧
        ∃ H2, DSub H2 (opn DH a c cells l m (t + 1)) ∧ Q (.int (((m + (t + 1) * 104729) % 998244353 * ((m + (t + 1) * 104729) % 998244353) + (t + 1) * 17) % 2147483647 / 16 % n)) H2 := by
    have g0 := Int.emod_nonneg (m + (t + 1) * 104729) (b := 998244353) (by decide)
    have g1 := Int.emod_lt_of_pos (m + (t + 1) * 104729) (b := 998244353) (by decide)
    have ok1 : SrcOk cells (l / n) m t := ⟨Int.ediv_nonneg ok.1 (by omega), ok.2.1, ok.2.2.1, ok.2.2.2.1, ok.2.2.2.2⟩
    have ok2 : SrcOk cells l m (t + 1) := ⟨ok.1, ok.2.1, ok.2.2.1, by have := ok.2.2.2.1; omega, ok.2.2.2.2⟩
    refine ite2 (fun h2 => ?_) fun h2 => ?_
    · exact ⟨⟨by omega, log_small (by omega) hn⟩, by decide, by omega, _, DSub.refl _, h _ _ _ _ _ ok1 (mod_lt (by omega)).1 (mod_lt (by omega)).2⟩
    · exact ⟨by decide, mulD_r (by decide) (by decide), by decide, mulD_l (by omega) (by omega), mulD_r (by decide) (by decide), by decide, ⟨by decide, by decide⟩, by omega, _, DSub.refl _, h _ _ _ _ _ ok2 (mod_lt (by omega)).1 (mod_lt (by omega)).2⟩
  unfold dd opn_a hc srcd_left srcd_cells srcd_turn srcd_mixed put_left put_turn put_mixed opn_put opn_c opn_pop peek List.length_map dl_map
  refine ite2 (fun h2 => ite2 (fun h3 => ?_) fun h3 => ?_) fun h2 => ?_
  · obtain ⟨x, e, hx⟩ := last_get (cells := cells) (by omega)
    rw [e]
    unfold dd put_left opn_put hc
    exact ⟨by decide, hE _ _ _ (by rw [List.length_dropLast]; omega) ⟨_, _, rfl, rfl, srcOk_pop ok hx, rfl⟩⟩
  · exact fin
  · exact fin
end DL

local macro_rules
  | `(tactic| unfold dd $ls*) => `(tactic| try simp only [↓DL.dVar_e, ↓DL.dC_e, ↓DL.dOp_e, ↓DL.dUn_e, ↓DL.dB_e, ↓DL.dChain_e, ↓DL.dAnd_e, ↓DL.dOr_e, ↓DL.dNot_e, ↓DL.dAndV_e, ↓DL.dOrV_e, ↓DL.dNotV_e, ↓DL.dIf_e, ↓DL.dNil_e, ↓DL.dCons_e, ↓DL.dTup_e, ↓DL.dLst_e, ↓DL.dCB_e, ↓DL.dNext_e, ↓DL.dSeq_e, ↓DL.dCont_e, ↓DL.dBreak_e, ↓DL.dDrop_e, ↓DL.dRet_e, ↓DL.dRetN_e, ↓DL.dIfS_e, ↓DL.gN_e, ↓DL.gNilD_e, ↓DL.gConsD_e, ↓DL.gT_e, ↓DL.dAsg_e, ↓DL.dPar_e, ↓DL.dPar3_e, ↓DL.dYes_e, ↓DL.dISeq_e, ↓DL.dIRg1_e, ↓DL.dIRg2_e, ↓DL.dIEnum_e, ↓DL.dIZip_e, ↓DL.rIntD_e, ↓DL.rNegD_e, ↓DL.rEq_intF, ↓DL.rEq_intT, ↓DL.rAddD_e, ↓DL.rMulD_e, ↓DL.rIxD_e, ↓DL.rI1_e, ↓DL.rI2_e, ↓DL.rIntCD_e, ↓DL.rSumD_e, ↓DL.rAllD_e, ↓DL.rIsiD_e, ↓DL.rLenD_e, ↓DL.rTupD_e, ↓DL.rLstD_e, ↓DL.rIsN_e, ↓DL.rSlD_e, ↓DL.dSl_e, ↓DL.dNoPart_e, ↓DL.dPart_e, ↓DL.dRev_e, ↓DL.dGet_e, ↓DL.dIn_e, ↓DL.dStore_e, ↓DL.dBM0_e, ↓DL.dBM_e, ↓DL.dDisp_e, ↓DL.mAppend_e, ↓DL.mPop_e, ↓DL.dNewK_e, ↓DL.dNewT_e, ↓DL.dLstM_e, ↓DL.dFrz_e, ↓DL.rReprD_e, ↓DL.rNeS_e, ↓DL.rEqS_e, ↓DL.asB_e, ↓DL.walkD_e, ↓DL.lookD_e, ↓DL.storeD_e, ↓DL.ofTy_e, ↓DL.onLst_e, DL.bodyE, DL.dstart, DL.dPairs, DL.keysOf, DL.keyD, DL.isNon, DL.peek_int, DL.peek_bl, DL.peek_non, DL.peek_str, DL.peek_tup, DL.peek_lst, DL.seqOf_tup, DL.seqOf_lst, DL.listOf_lst, DL.tyOf, DL.isTy, DL.dupd_same, DL.dupd_dupd, List.map_cons, List.map_nil, List.length_cons, List.length_nil, List.cons_append, List.nil_append, List.replicate_succ, List.replicate_zero, Nat.reduceAdd, Nat.reduceSub, Nat.zero_add, List.getElem?_cons_zero, List.getElem?_cons_succ, List.set_cons_zero, List.set_cons_succ, true_and, and_true, if_true, if_false, Bool.false_eq_true, reduceCtorEq, ne_eq, not_false_eq_true, not_true_eq_false, decide_eq_true_eq, Bool.not_eq_true', decide_eq_false_iff_not, Option.bind_some, Option.map_some, $[$ls:term],*])
/-! SH2: drawing from lists, pairs, frames, places. -/
namespace DL
open PySem PySem.Spec PyProof.Rows L2
abbrev sp_law_pick : DSp := spPick
abbrev sp_law_source (K : PySem.W.Frag) : DSp := spSource K
/-- one of the items -/
def sp_law_of : DSp := fun ds DH Q => ∃ a d xs, ds = [.ref a, d] ∧ DH a = some .src ∧ seqOf DH d = some xs ∧ xs ≠ [] ∧ xs.length ≤ 1000000 ∧ ∀ x ∈ xs, Q x DH
/-! ### _law_of -/
def rd_law_of : DS :=
  (dRet (dOp rIxD (dVar 1) (dCB sp_law_pick (dCons (dVar 0) (dCons (dCB rLenD (dCons (dVar 1) dNil)) dNil)))))
theorem seqOf_peek {H : DHp} {d : D} {xs : List D} (h : seqOf H d = some xs) : peek H d = .lst xs ∨ peek H d = .tup xs := by
  unfold seqOf at h
  split at h
  · rename_i e; cases h; exact .inl e
  · rename_i e; cases h; exact .inr e
  · cases h
theorem law_of_ok {ds : List D} {DH : DHp} {Q : DK} (h : sp_law_of ds DH Q) : rd_law_of (bodyE Q) (dstart ["source", "some"] ds) DH := by
  obtain ⟨a, d, xs, rfl, ha, hd, hn, hl, h⟩ := h
  have pos : 0 < xs.length := List.length_pos_iff.mpr hn
  have get : ∀ k : Int, 0 ≤ k → (k < xs.length ∨ k = 0) → (match atI xs k with | some d => ∃ H2, DSub H2 DH ∧ Q d H2 | none => False) := fun k h0 h1 => by
    obtain ⟨i, rfl⟩ := Int.eq_ofNat_of_zero_le h0
    have hi : i < xs.length := by omega
    have e : atI xs ((i : Nat) : Int) = some xs[i] := by rw [atI_nat, List.getElem?_eq_getElem hi]
    show (match atI xs ((i : Nat) : Int) with | some d => ∃ H2, DSub H2 DH ∧ Q d H2 | none => False)
    rw [e]
    exact ⟨DH, DSub.refl _, h _ (List.getElem_mem hi)⟩
  unfold rd_law_of
  rcases seqOf_peek hd with e | e <;>
  · unfold dd e hd
    refine ⟨a, _, rfl, ha, by omega, fun k h0 h1 => ?_⟩
    unfold dd hd
    exact get k h0 h1

/-! ### pairs -/
def pairD (p : Int × Int) : D := .tup [.int p.1, .int p.2]
def pairsL (ps : List (Int × Int)) : List D := ps.map pairD
/-- all pairs a < b below n -/
def rowP (a n : Int) : List (Int × Int) := (List.range (n - (a + 1)).toNat).map fun b => (a, a + 1 + (b : Nat))
def allP (n : Int) : List (Int × Int) := (List.range n.toNat).flatMap fun a => rowP (a : Nat) n
theorem mem_allP {n : Int} {p : Int × Int} (h : p ∈ allP n) : 0 ≤ p.1 ∧ p.1 < p.2 ∧ p.2 < n := by
  unfold allP rowP at h
  simp only [List.mem_flatMap, List.mem_range, List.mem_map] at h
  obtain ⟨a, ha, b, hb, rfl⟩ := h
  simp only
  omega
theorem rowP_length (a n : Int) : (rowP a n).length = (n - (a + 1)).toNat := by simp [rowP]
theorem flat_le {α β : Type} (f : α → List β) (m : Nat) (h : ∀ x, (f x).length ≤ m) : ∀ xs : List α, (xs.flatMap f).length ≤ xs.length * m
  | [] => by simp
  | x :: xs => by
    have := flat_le f m h xs
    have := h x
    simp only [List.flatMap_cons, List.length_append, List.length_cons, Nat.add_mul]
    omega
theorem allP_length (n : Int) (h : n ≤ 1000) : (allP n).length ≤ 1000000 := by
  have := flat_le (fun a : Nat => rowP (a : Nat) n) 1000 (fun a => by rw [rowP_length]; omega) (List.range n.toNat)
  rw [List.length_range] at this
  have : (List.range n.toNat).length * 1000 ≤ 1000 * 1000 := by rw [List.length_range]; exact Nat.mul_le_mul_right _ (by omega)
  unfold allP
  rw [List.length_range] at this
  omega
def sp_law_pairs : DSp := fun ds DH Q => ∃ n, ds = [.int n] ∧ 0 ≤ n ∧ n ≤ 1000 ∧ Q (.lst (pairsL (allP n))) DH
/-! ### _law_pairs -/
def rd_law_pairs : DS :=
  (dSeq (dAsg (dLst dNil) (gN 1))
    (dSeq (dFor (dIRg1 (dCons (dVar 0) dNil)) (gN 2) (dAsg (dOp rAddD (dVar 1) (dLc false (dIRg2 (dCons (dOp rAddD (dVar 2) (dC (.int 1))) (dCons (dVar 0) dNil))) (gN 3) dYes (dTup (dCons (dVar 2) (dCons (dVar 3) dNil))) [3])) (gN 1)))
    (dRet (dVar 1))))
theorem rgD_cons (lo : Int) (n : Nat) : rgD lo (n + 1) = .int lo :: rgD (lo + 1) n := by
  unfold rgD
  rw [List.range_succ_eq_map, List.map_cons, List.map_map]
  congr 1
  · simp
  · apply List.map_congr_left
    intro i _
    simp only [Function.comp]
    congr 1
    omega
theorem rgD_map (lo : Int) (n : Nat) : rgD lo n = ((List.range n).map fun i => lo + (i : Nat)).map D.int := by
  unfold rgD
  rw [List.map_map]
  rfl
theorem rgD_length (lo : Int) (n : Nat) : (rgD lo n).length = n := by simp [rgD]
theorem rgD_mem {lo : Int} {n : Nat} {x : D} (h : x ∈ rgD lo n) : ∃ i : Nat, i < n ∧ x = .int (lo + (i : Nat)) := by
  unfold rgD at h
  simp only [List.mem_map, List.mem_range] at h
  obtain ⟨i, hi, rfl⟩ := h
  exact ⟨i, hi, rfl⟩
theorem size_leM {n : Nat} (h : n ≤ 4000000) : n ≤ sizeLine := by rw [sizeLine_eq]; omega
theorem law_pairs_ok {ds : List D} {DH : DHp} {Q : DK} (h : sp_law_pairs ds DH Q) : rd_law_pairs (bodyE Q) (dstart ["n", "found", "a", "b"] ds) DH := by
  obtain ⟨n, rfl, hn0, hn, h⟩ := h
  unfold rd_law_pairs
  unfold dd
  refine ⟨by decide, ?_⟩
  unfold dFor
  unfold dd
  refine ⟨by omega, for_inv (fun xs τ H => H = DH ∧ ∃ k : Nat, k ≤ n.toNat ∧ xs = rgD (k : Nat) (n.toNat - k) ∧ ∃ c d, τ = [some (.int n), some (.lst (pairsL ((List.range k).flatMap fun a => rowP (a : Nat) n))), c, d]) ?_ ?_ _ _ _ ⟨rfl, 0, Nat.zero_le _, by simp, none, none, rfl⟩⟩
  · rintro τ H ⟨rfl, k, hk, e, c, d, rfl⟩
    have : n.toNat - k = 0 := by have := congrArg List.length e; rw [rgD_length] at this; simpa using this.symm
    have : k = n.toNat := by omega
    subst this
    unfold dd
    exact ⟨H, DSub.refl _, h⟩
  · rintro x r τ H ⟨rfl, k, hk, e, c, d, rfl⟩
    have lt : k < n.toNat := by
      rcases Nat.lt_or_ge k n.toNat with z | z
      · exact z
      · rw [show n.toNat - k = 0 by omega] at e
        cases e
    obtain ⟨m, hm⟩ : ∃ m, n.toNat - k = m + 1 := ⟨n.toNat - k - 1, by omega⟩
    rw [hm, rgD_cons] at e
    cases e
    refine ⟨trivial, fun E' _ _ hE _ => ?_⟩
    unfold dd
    unfold dLc
    unfold dd rgD_length
    refine ⟨by omega, size_leM (by omega), comp_map (fun x => match x with | .int b => pairD (k, b) | x => x) trivial _ _ (fun x hx Q q => ?_) ?_⟩
    · obtain ⟨i, _, rfl⟩ := rgD_mem hx
      unfold dd
      exact ⟨by decide, q⟩
    · have e2 : (rgD ((k : Int) + 1) (n - ((k : Int) + 1)).toNat).map (fun x => match x with | .int b => pairD (k, b) | x => x) = pairsL (rowP (k : Nat) n) := by
        unfold rgD pairsL rowP
        rw [List.map_map, List.map_map]
        rfl
      rw [List.nil_append, e2]
      have l1 : (pairsL ((List.range k).flatMap fun a => rowP (a : Nat) n)).length ≤ 1000000 := by
        have := flat_le (fun a : Nat => rowP (a : Nat) n) 1000 (fun a => by rw [rowP_length]; omega) (List.range k)
        rw [List.length_range] at this
        unfold pairsL
        rw [List.length_map]
        omega
      refine ⟨size_leM ?_, hE _ _ ⟨rfl, k + 1, lt, ?_, some (.int k), d, ?_⟩⟩
      · have : (pairsL (rowP (k : Nat) n)).length ≤ 1000 := by unfold pairsL; rw [List.length_map, rowP_length]; omega
        omega
      · rw [show n.toNat - (k + 1) = m by omega]
        congr 1
      · rw [List.range_succ, List.flatMap_append]
        simp [pairsL]

/-! ### frames -/
def frameD (n : Int) (ps : List (Int × Int)) : D := .tup [.int n, .tup (pairsL ps)]
theorem sub_pairs {ys : List D} : ∀ {ps : List (Int × Int)}, ys.Sublist (pairsL ps) → ∃ qs, ys = pairsL qs ∧ qs.Sublist ps := fun {ps} h => by
  unfold pairsL at h
  obtain ⟨qs, h1, h2⟩ := List.sublist_map_iff.mp h
  exact ⟨qs, h2, h1⟩
/-- joints from lo to hi, and some of the pairs -/
def sp_law_frame : DSp := fun ds DH Q => ∃ a lo hi, ds = [.ref a, .int lo, .int hi] ∧ DH a = some .src ∧ 0 ≤ lo ∧ lo ≤ hi ∧ hi ≤ 1000 ∧ ∀ n ps, lo ≤ n → n ≤ hi → ps.Sublist (allP n) → Q (frameD n ps) DH
/-! ### _law_frame -/
def rd_law_frame : DS :=
  (dSeq (dAsg (dTup (dCons (dOp rAddD (dVar 1) (dCB sp_law_pick (dCons (dVar 0) (dCons (dOp rAddD (dOp (rIntD (fun _ _ => True) fun i j => .int (i - j)) (dVar 2) (dVar 1)) (dC (.int 1))) dNil)))) (dCons (dCB sp_law_of (dCons (dVar 0) (dCons (dLst (dCons (dC (.int 1)) (dCons (dC (.int 2)) (dCons (dC (.int 3)) (dCons (dC (.int 4)) (dCons (dC (.int 5)) dNil)))))) dNil))) dNil))) (gT 2 (gConsD (gN 3) (gConsD (gN 4) gNilD))))
    (dRet (dTup (dCons (dVar 3) (dCons (dCB rTupD (dCons (dLc false (dISeq (dCB sp_law_pairs (dCons (dVar 3) dNil))) (gN 5) (dB (dOp (rIntD (fun _ _ => True) fun i j => .bl (decide (i < j))) (dCB sp_law_pick (dCons (dVar 0) (dCons (dC (.int 6)) dNil))) (dVar 4))) (dVar 5) [5]) dNil)) dNil)))))
theorem law_frame_ok {ds : List D} {DH : DHp} {Q : DK} (h : sp_law_frame ds DH Q) : rd_law_frame (bodyE Q) (dstart ["source", "least", "most", "n", "share", "pair"] ds) DH := by
  obtain ⟨a, lo, hi, rfl, ha, h0, h1, h2, h⟩ := h
  unfold rd_law_frame
  unfold dd
  refine ⟨a, _, rfl, ha, by omega, fun k k0 k1 => ?_⟩
  unfold dd
  refine ⟨by decide, a, _, _, rfl, ha, rfl, by simp, by simp, fun x hx => ?_⟩
  obtain ⟨sh, rfl⟩ : ∃ sh, x = .int sh := by
    simp only [List.mem_cons, List.not_mem_nil, or_false] at hx
    rcases hx with rfl | rfl | rfl | rfl | rfl <;> exact ⟨_, rfl⟩
  unfold dd
  refine ⟨by decide, ?_⟩
  unfold dLc
  unfold dd
  refine ⟨lo + k, rfl, by omega, by omega, ?_⟩
  unfold dd
  refine ⟨by unfold pairsL; rw [List.length_map]; exact size_leM (Nat.le_trans (allP_length _ (by omega)) (by decide)), comp_some trivial id _ _ (fun x hx Q Z q z => ?_) fun ys hy => ?_⟩
  · unfold dd
    refine ⟨a, _, rfl, ha, by decide, fun j j0 j1 => ?_⟩
    unfold dd
    exact ite2 (fun _ => q) fun _ => z
  · obtain ⟨qs, rfl, hq⟩ := sub_pairs hy
    unfold dd List.map_id
    exact ⟨by decide, DH, DSub.refl _, h _ _ (by omega) (by omega) hq⟩

/-! ### places -/
def InB (b : Int) (p : Int × Int) : Prop := -b ≤ p.1 ∧ p.1 ≤ b ∧ -b ≤ p.2 ∧ p.2 ≤ b
def sp_law_places : DSp := fun ds DH Q => ∃ a n w, ds = [.ref a, .int n, .int w] ∧ DH a = some .src ∧ 1 ≤ n ∧ n ≤ 1000 ∧ 1 ≤ w ∧ w ≤ 1000000 ∧ ∀ pl : List (Int × Int), (pl.length : Int) = n → (∀ p ∈ pl, InB (2 * w + 1) p) → Q (.tup (pairsL pl)) DH
/-! ### _law_places -/
def rd_law_places : DS :=
  (dSeq (dPar 3 4 (dCons (dCB sp_law_pick (dCons (dVar 0) (dCons (dC (.int 6)) dNil))) (dCons (dLstM dNil) dNil)))
    (dSeq (dFor (dIRg1 (dCons (dVar 1) dNil)) (gN 5) (dSeq (dPar 6 7 (dCons (dOp (rIntD (fun _ _ => True) fun i j => .int (i - j)) (dCB sp_law_pick (dCons (dVar 0) (dCons (dOp rAddD (dOp rMulD (dC (.int 2)) (dVar 2)) (dC (.int 1))) dNil))) (dVar 2)) (dCons (dOp (rIntD (fun _ _ => True) fun i j => .int (i - j)) (dCB sp_law_pick (dCons (dVar 0) (dCons (dOp rAddD (dOp rMulD (dC (.int 2)) (dVar 2)) (dC (.int 1))) dNil))) (dVar 2)) dNil)))
    (dDrop (dBM "list" mAppend (dVar 4) (dCons (dIf (dB (dOp (rEqD false) (dVar 3) (dC (.int 0)))) (dTup (dCons (dVar 6) (dCons (dOp (rIntD (fun _ _ => True) fun i j => .int (i - j)) (dOp rMulD (dC (.int 2)) (dVar 6)) (dC (.int 1))) dNil))) (dTup (dCons (dVar 6) (dCons (dVar 7) dNil)))) dNil)))))
    (dSeq (dIfS (dB (dOp (rEqD false) (dVar 3) (dC (.int 1)))) (dStore (dVar 4) (dCB sp_law_pick (dCons (dVar 0) (dCons (dVar 1) dNil))) (dOp rIxD (dVar 4) (dCB sp_law_pick (dCons (dVar 0) (dCons (dVar 1) dNil))))) dNext)
    (dRet (dIf (dB (dOp (rEqD true) (dVar 3) (dC (.int 2)))) (dCB rTupD (dCons (dVar 4) dNil)) (dCB rTupD (dCons (dOp rMulD (dLst (dCons (dTup (dCons (dC (.int 3)) (dCons (dUn rNegD (dC (.int 2))) dNil))) dNil)) (dVar 1)) dNil)))))))
theorem pairsL_length (ps : List (Int × Int)) : (pairsL ps).length = ps.length := by simp [pairsL]
theorem law_places_ok {ds : List D} {DH : DHp} {Q : DK} (h : sp_law_places ds DH Q) : rd_law_places (bodyE Q) (dstart ["source", "n", "wide", "way", "found", "joint", "x", "y"] ds) DH := by
  obtain ⟨a, n, w, rfl, ha, n1, n2, w1, w2, h⟩ := h
  unfold rd_law_places
  unfold dd
  refine ⟨a, _, rfl, ha, by decide, fun way y0 y1 => ⟨by decide, fun p hp => ?_⟩⟩
  unfold dd
  have ap : a ≠ p := fun z => by subst z; rw [hp] at ha; cases ha
  unfold dFor
  unfold dd
  refine ⟨by omega, for_inv (fun xs τ H => ∃ (k : Nat) (pl : List (Int × Int)), k ≤ n.toNat ∧ xs = rgD (k : Nat) (n.toNat - k) ∧ H = dupd DH p (.lst (pairsL pl)) ∧ pl.length = k ∧ (∀ q ∈ pl, InB (2 * w + 1) q) ∧
    ∃ c d e, τ = [some (.ref a), some (.int n), some (.int w), some (.int way), some (.ref p), c, d, e]) ?_ ?_ _ _ _ ⟨0, [], Nat.zero_le _, by simp, rfl, rfl, by simp, none, none, none, rfl⟩⟩
  · rintro τ H ⟨k, pl, hk, e, rfl, hl, hb, c, d, e', rfl⟩
    have : n.toNat - k = 0 := by have := congrArg List.length e; rw [rgD_length] at this; simpa using this.symm
    have hl : pl.length = n.toNat := by omega
    have ha2 : ∀ x, dupd DH p x a = some .src := fun x => by rw [dupd_ne ap]; exact ha
    have fin : ∀ pl2 : List (Int × Int), pl2.length = n.toNat → (∀ q ∈ pl2, InB (2 * w + 1) q) → ∃ H2, DSub H2 (dupd DH p (.lst (pairsL pl2))) ∧ Q (.tup (pairsL pl2)) H2 := fun pl2 h1 h2 => ⟨DH, (DSub.refl _).new hp, h pl2 (by omega) h2⟩
    refine ⟨trivial, ?_⟩
    unfold dd
    have last : ∀ pl2 : List (Int × Int), pl2.length = n.toNat → (∀ q ∈ pl2, InB (2 * w + 1) q) → (if ¬way = 2 then (match seqOf (dupd DH p (.lst (pairsL pl2))) (.ref p) with
        | some xs => ∃ H2, DSub H2 (dupd DH p (.lst (pairsL pl2))) ∧ Q (.tup xs) H2
        | none => False) else 2 ≤ sizeLine ∧ 1 ≤ sizeLine ∧ (-2 ^ 63 ≤ n ∧ n < 2 ^ 63 ∧ 1 * n.toNat ≤ sizeLine) ∧ ∃ H2, DSub H2 (dupd DH p (.lst (pairsL pl2))) ∧ Q (.tup (List.replicate n.toNat [D.tup [D.int 3, D.int (-2)]]).flatten) H2) := fun pl2 h1 h2 => by
      refine ite2 (fun _ => ?_) fun _ => ?_
      · rw [seqOf_ref dupd_same]
        exact fin pl2 h1 h2
      · refine ⟨by decide, by decide, ⟨by omega, by omega, size_leM (by omega)⟩, ?_⟩
        have e : (List.replicate n.toNat [D.tup [D.int 3, D.int (-2)]]).flatten = pairsL (List.replicate n.toNat (3, -2)) := by
          have : ∀ k : Nat, (List.replicate k [D.tup [D.int 3, D.int (-2)]]).flatten = pairsL (List.replicate k (3, -2)) := fun k => by
            induction k with
            | zero => rfl
            | succ k ih => rw [List.replicate_succ, List.flatten_cons, ih, List.replicate_succ]; rfl
          exact this _
        rw [e]
        exact ⟨DH, (DSub.refl _).new hp, h _ (by rw [List.length_replicate]; omega) fun q hq => by
          rw [List.eq_of_mem_replicate hq]
          unfold InB
          simp only
          omega⟩
    refine ite2 (fun hw => ?_) fun hw => ?_
    · refine ⟨a, _, rfl, ha2 _, by omega, fun i i0 i1 => ?_⟩
      obtain ⟨i, rfl⟩ := Int.eq_ofNat_of_zero_le i0
      have hi : i < pl.length := by omega
      unfold dd
      rw [seqOf_ref dupd_same]
      unfold dd atI_nat
      rw [show (pairsL pl)[i]? = some (pairD pl[i]) by unfold pairsL; rw [List.getElem?_map, List.getElem?_eq_getElem hi]; rfl]
      unfold dd
      refine ⟨a, _, rfl, ha2 _, by omega, fun j j0 j1 => ?_⟩
      obtain ⟨j, rfl⟩ := Int.eq_ofNat_of_zero_le j0
      have hj : j < pl.length := by omega
      unfold dd pairsL_length
      rw [show ixN pl.length ((j : Nat) : Int) = some j by unfold ixN; rw [if_pos (by omega), if_pos (by omega)]; simp]
      have e : (pairsL pl).set j (pairD pl[i]) = pairsL (pl.set j pl[i]) := by unfold pairsL; rw [List.map_set]
      simp only [e]
      have := last (pl.set j pl[i]) (by rw [List.length_set]; exact hl) fun q hq => by
        rcases List.mem_or_eq_of_mem_set hq with z | rfl
        · exact hb q z
        · exact hb _ (List.getElem_mem hi)
      exact this
    · exact last pl hl hb
  · rintro x r τ H ⟨k, pl, hk, e, rfl, hl, hb, c, d, e', rfl⟩
    have lt : k < n.toNat := by
      rcases Nat.lt_or_ge k n.toNat with z | z
      · exact z
      · rw [show n.toNat - k = 0 by omega] at e
        cases e
    obtain ⟨m, hm⟩ : ∃ m, n.toNat - k = m + 1 := ⟨n.toNat - k - 1, by omega⟩
    rw [hm, rgD_cons] at e
    cases e
    have ha2 : ∀ x, dupd DH p x a = some .src := fun x => by rw [dupd_ne ap]; exact ha
    refine ⟨trivial, fun E' _ _ hE _ => ?_⟩
    unfold dd
    refine ⟨mulD_l (by decide) (by decide), a, _, rfl, ha2 _, by omega, fun i i0 i1 => ?_⟩
    unfold dd
    refine ⟨mulD_l (by decide) (by decide), a, _, rfl, ha2 _, by omega, fun j j0 j1 => ?_⟩
    unfold dd pairsL_length
    have add : ∀ q : Int × Int, InB (2 * w + 1) q → ∀ u v w', E'.nx [some (.ref a), some (.int n), some (.int w), some (.int way), some (.ref p), u, v, w'] (dupd DH p (.lst (pairsL pl ++ [pairD q]))) := fun q hq u v w' =>
      hE _ _ ⟨k + 1, pl ++ [q], lt, by rw [show n.toNat - (k + 1) = m by omega]; congr 1, by simp [pairsL], by simp [hl], fun r hr => by
        rcases List.mem_append.mp hr with z | z
        · exact hb r z
        · rw [List.mem_singleton.mp z]; exact hq, u, v, w', rfl⟩
    have hs : pl.length < sizeLine := by rw [sizeLine_eq]; omega
    refine ite2 (fun _ => ⟨mulD_l (by decide) (by decide), by decide, hs, ?_⟩) fun _ => ⟨by decide, hs, ?_⟩
    · exact add (i - w, 2 * (i - w) - 1) ⟨by show _ ≤ i - w; omega, by show i - w ≤ _; omega, by show _ ≤ 2 * (i - w) - 1; omega, by show 2 * (i - w) - 1 ≤ _; omega⟩ _ _ _
    · exact add (i - w, j - w) ⟨by show _ ≤ i - w; omega, by show i - w ≤ _; omega, by show _ ≤ j - w; omega, by show j - w ≤ _; omega⟩ _ _ _
end DL

local macro_rules
  | `(tactic| unfold dd $ls*) => `(tactic| try simp only [↓DL.dVar_e, ↓DL.dC_e, ↓DL.dOp_e, ↓DL.dUn_e, ↓DL.dB_e, ↓DL.dChain_e, ↓DL.dAnd_e, ↓DL.dOr_e, ↓DL.dNot_e, ↓DL.dAndV_e, ↓DL.dOrV_e, ↓DL.dNotV_e, ↓DL.dIf_e, ↓DL.dNil_e, ↓DL.dCons_e, ↓DL.dTup_e, ↓DL.dLst_e, ↓DL.dCB_e, ↓DL.dNext_e, ↓DL.dSeq_e, ↓DL.dCont_e, ↓DL.dBreak_e, ↓DL.dDrop_e, ↓DL.dRet_e, ↓DL.dRetN_e, ↓DL.dIfS_e, ↓DL.gN_e, ↓DL.gNilD_e, ↓DL.gConsD_e, ↓DL.gT_e, ↓DL.dAsg_e, ↓DL.dPar_e, ↓DL.dPar3_e, ↓DL.dYes_e, ↓DL.dISeq_e, ↓DL.dIRg1_e, ↓DL.dIRg2_e, ↓DL.dIEnum_e, ↓DL.dIZip_e, ↓DL.rIntD_e, ↓DL.rNegD_e, ↓DL.rEq_intF, ↓DL.rEq_intT, ↓DL.rAddD_e, ↓DL.rMulD_e, ↓DL.rIxD_e, ↓DL.rI1_e, ↓DL.rI2_e, ↓DL.rIntCD_e, ↓DL.rSumD_e, ↓DL.rAllD_e, ↓DL.rIsiD_e, ↓DL.rLenD_e, ↓DL.rTupD_e, ↓DL.rLstD_e, ↓DL.rIsN_e, ↓DL.rSlD_e, ↓DL.dSl_e, ↓DL.dNoPart_e, ↓DL.dPart_e, ↓DL.dRev_e, ↓DL.dGet_e, ↓DL.dIn_e, ↓DL.dStore_e, ↓DL.dBM0_e, ↓DL.dBM_e, ↓DL.dDisp_e, ↓DL.mAppend_e, ↓DL.mPop_e, ↓DL.dNewK_e, ↓DL.dNewT_e, ↓DL.dLstM_e, ↓DL.dFrz_e, ↓DL.rReprD_e, ↓DL.rNeS_e, ↓DL.rEqS_e, ↓DL.asB_e, ↓DL.walkD_e, ↓DL.lookD_e, ↓DL.storeD_e, ↓DL.ofTy_e, ↓DL.onLst_e, DL.bodyE, DL.dstart, DL.dPairs, DL.keysOf, DL.keyD, DL.isNon, DL.peek_int, DL.peek_bl, DL.peek_non, DL.peek_str, DL.peek_tup, DL.peek_lst, DL.seqOf_tup, DL.seqOf_lst, DL.listOf_lst, DL.tyOf, DL.isTy, DL.dupd_same, DL.dupd_dupd, List.map_cons, List.map_nil, List.length_cons, List.length_nil, List.cons_append, List.nil_append, List.replicate_succ, List.replicate_zero, Nat.reduceAdd, Nat.reduceSub, Nat.zero_add, List.getElem?_cons_zero, List.getElem?_cons_succ, List.set_cons_zero, List.set_cons_succ, true_and, and_true, if_true, if_false, Bool.false_eq_true, reduceCtorEq, ne_eq, not_false_eq_true, not_true_eq_false, decide_eq_true_eq, Bool.not_eq_true', decide_eq_false_iff_not, Option.bind_some, Option.map_some, $[$ls:term],*])
/-! SH3: values whose text may be told. -/
namespace DL
open PySem PySem.Spec PyProof.Rows L2
mutual
/-- whole numbers of fewer than k bits, texts, truths, nothing; lists and tuples of these -/
def D.sm (k : Nat) : D → Bool
  | .non | .bl _ => true
  | .int i => decide (i.natAbs.log2 < k)
  | .str x => PyData.strOk x
  | .tup xs | .lst xs => smL k xs
  | .dct _ _ | .ref _ | .ty _ => false
def smL (k : Nat) : List D → Bool
  | [] => true
  | x :: xs => x.sm k && smL k xs
end
mutual
def D.nodes : D → Nat
  | .str x => x.cps.size + 1
  | .tup xs | .lst xs => nodesL xs + 1
  | _ => 1
def nodesL : List D → Nat
  | [] => 0
  | x :: xs => x.nodes + nodesL xs
end
mutual
theorem sm_plain {k : Nat} : ∀ d : D, d.sm k = true → d.plain = true
  | .non, _ | .bl _, _ | .int _, _ => rfl
  | .str x, h => h
  | .tup xs, h => smL_plain xs (by simpa [D.sm] using h)
  | .lst xs, h => smL_plain xs (by simpa [D.sm] using h)
  | .dct _ _, h | .ref _, h | .ty _, h => by simp [D.sm] at h
theorem smL_plain {k : Nat} : ∀ xs : List D, smL k xs = true → plainL xs = true
  | [], _ => rfl
  | x :: xs, h => by
    simp only [smL, Bool.and_eq_true] at h
    simp only [plainL, Bool.and_eq_true]
    exact ⟨sm_plain x h.1, smL_plain xs h.2⟩
end
mutual
theorem sm_showable {k : Nat} (hk : k ≤ 1920) : ∀ d : D, d.sm k = true → d.py.showable = true ∧ d.py.intsShort (k + 1) = true ∧ d.py.weight + 1 ≤ (k + 1) * d.nodes
  | .non, _ | .bl _, _ => by
    refine ⟨rfl, rfl, ?_⟩
    simp only [D.nodes, D.py, PyData.weight]
    omega
  | .int i, h => by
    have h : i.natAbs.log2 < k := by simpa [D.sm] using h
    refine ⟨decide_eq_true (by omega), ?_, ?_⟩
    · simp only [D.py, PyData.intsShort, decide_eq_true_eq]
      rw [PyData.shown_int, PySem.ofString_length]
      exact int_text_length_le (by omega) h
    · simp only [D.nodes, D.py, PyData.weight]
      split <;> omega
  | .str x, h => by
    refine ⟨rfl, rfl, ?_⟩
    simp only [D.nodes, D.py, PyData.weight]
    exact Nat.le_mul_of_pos_left _ (by omega)
  | .tup xs, h => by
    obtain ⟨h1, h2, h3⟩ := smL_showable hk xs (by simpa [D.sm] using h)
    refine ⟨by simpa [D.py, PyData.showable] using h1, by simpa [D.py, PyData.intsShort] using h2, ?_⟩
    simp only [D.nodes, D.py, PyData.weight, Nat.mul_add]
    omega
  | .lst xs, h => by
    obtain ⟨h1, h2, h3⟩ := smL_showable hk xs (by simpa [D.sm] using h)
    refine ⟨by simpa [D.py, PyData.showable] using h1, by simpa [D.py, PyData.intsShort] using h2, ?_⟩
    simp only [D.nodes, D.py, PyData.weight, Nat.mul_add]
    omega
  | .dct _ _, h | .ref _, h | .ty _, h => by simp [D.sm] at h
theorem smL_showable {k : Nat} (hk : k ≤ 1920) : ∀ xs : List D, smL k xs = true → PyData.showableAll (pyL xs) = true ∧ PyData.intsShortAll (k + 1) (pyL xs) = true ∧ PyData.weightAll (pyL xs) ≤ (k + 1) * nodesL xs
  | [], _ => ⟨rfl, rfl, Nat.zero_le _⟩
  | x :: xs, h => by
    simp only [smL, Bool.and_eq_true] at h
    obtain ⟨a1, a2, a3⟩ := sm_showable hk x h.1
    obtain ⟨b1, b2, b3⟩ := smL_showable hk xs h.2
    refine ⟨by simp only [pyL, PyData.showableAll, a1, b1]; rfl, by simp only [pyL, PyData.intsShortAll, a2, b2]; rfl, ?_⟩
    simp only [pyL, PyData.weightAll, nodesL, Nat.mul_add]
    omega
end
theorem showOk_of {d : D} (k : Nat) (h : d.sm k = true) (hd : d.dep ≤ 60) (hn : (k + 3) * ((k + 1) * d.nodes) + k + 1 ≤ 16777216) (h7 : 7 ≤ k := by decide) (hk : k ≤ 1920 := by decide) : showOk d := by
  obtain ⟨a1, a2, a3⟩ := sm_showable hk d h
  refine ⟨sm_plain d h, hd, a1, ?_⟩
  have hl := PyData.shown_le (k + 1) (by omega) d.py (PyData.leavesShort_of_canLay0 _ _ (plain_lay d (sm_plain d h)).1 a2)
  have m := Nat.mul_le_mul_left (k + 3) (show d.py.weight ≤ (k + 1) * d.nodes by omega)
  rw [sizeLine_eq]
  have e : (k + 1 + 2) * d.py.weight = (k + 3) * d.py.weight := by congr 1
  omega
/-! ### lists by their items -/
theorem smL_all {k : Nat} : ∀ {xs : List D}, (∀ x ∈ xs, x.sm k = true) → smL k xs = true
  | [], _ => rfl
  | x :: xs, h => by
    simp only [smL, Bool.and_eq_true]
    exact ⟨h x (by simp), smL_all fun y hy => h y (by simp [hy])⟩
theorem nodesL_le {m : Nat} : ∀ {xs : List D}, (∀ x ∈ xs, x.nodes ≤ m) → nodesL xs ≤ xs.length * m
  | [], _ => Nat.zero_le _
  | x :: xs, h => by
    have a := h x (by simp)
    have b := nodesL_le (xs := xs) fun y hy => h y (by simp [hy])
    simp only [nodesL, List.length_cons, Nat.add_mul]
    omega
theorem depL_le {m : Nat} : ∀ {xs : List D}, (∀ x ∈ xs, x.dep ≤ m) → depL xs ≤ m
  | [], _ => Nat.zero_le _
  | x :: xs, h => by
    have a := h x (by simp)
    have b := depL_le (xs := xs) fun y hy => h y (by simp [hy])
    simp only [depL]
    omega
theorem sm_int {k : Nat} {i : Int} (h0 : -(2 ^ k) < i) (h1 : i < 2 ^ k) (hk : 0 < k := by decide) : (D.int i).sm k = true := by
  simp only [D.sm, decide_eq_true_eq]
  have h : i.natAbs < 2 ^ k := by
    have e : ((2 ^ k : Nat) : Int) = (2 : Int) ^ k := by simp
    omega
  rcases Nat.eq_zero_or_pos i.natAbs with z | z
  · rw [z]; simpa using hk
  · exact (Nat.log2_lt (by omega)).mpr h
theorem sm_pair {k : Nat} {p : Int × Int} (h1 : (D.int p.1).sm k = true) (h2 : (D.int p.2).sm k = true) : (pairD p).sm k = true := by
  simp only [pairD, D.sm, smL, Bool.and_eq_true, Bool.and_true] at *
  exact ⟨h1, h2⟩
theorem nodes_pair (p : Int × Int) : (pairD p).nodes = 3 := rfl
theorem dep_pair (p : Int × Int) : (pairD p).dep = 1 := rfl
theorem pairs_sm {k : Nat} {ps : List (Int × Int)} (h : ∀ p ∈ ps, (D.int p.1).sm k = true ∧ (D.int p.2).sm k = true) : smL k (pairsL ps) = true := smL_all fun x hx => by
  obtain ⟨p, hp, rfl⟩ := List.mem_map.mp hx
  exact sm_pair (h p hp).1 (h p hp).2
theorem pairs_nodes (ps : List (Int × Int)) : nodesL (pairsL ps) ≤ ps.length * 3 := by
  have := nodesL_le (xs := pairsL ps) (m := 3) fun x hx => by
    obtain ⟨p, hp, rfl⟩ := List.mem_map.mp hx
    exact Nat.le_refl _
  rwa [pairsL_length] at this
theorem pairs_dep (ps : List (Int × Int)) : depL (pairsL ps) ≤ 1 := depL_le fun x hx => by
  obtain ⟨p, hp, rfl⟩ := List.mem_map.mp hx
  exact Nat.le_refl _
/-- a text against itself -/
theorem str_beq {x : Str} : (!(x == x)) = false := by simp
/-- what is compared by its text, where both are one -/
theorem same_text {d : D} {H : DHp} {Q : DK} (h : showOk (peek H d)) (q : Q (.bl false) H) : dOp rNeS (dCB rReprD (dCons (dC d) dNil)) (dCB rReprD (dCons (dC d) dNil)) [] H Q := by
  show showOk _ ∧ showOk _ ∧ Q (.bl (!(_ == _))) H
  rw [str_beq]
  exact ⟨h, h, q⟩
end DL

/-! TL4: the typed layer: draws, told step by step; texts. -/
namespace DL
open PySem PySem.Spec PyProof.Rows L2
section
variable {τ : DSt} {H : DHp} {E : DEnds} {u t t' : DS} {te ta tb : DE} {K : DK}
theorem x_ev {d : D} (h : Ev te τ H d) (k : K d H) : te τ H K := h K k
theorem x_evT {c : DT} {b : Bool} {K : Bool → DHp → Prop} (h : EvT c τ H b) (k : K b H) : c τ H K := h K k
theorem x_op {r : DR2} (h : ta τ H fun x H1 => tb τ H1 fun y H2 => r x y H2 K) : dOp r ta tb τ H K := h
theorem x_un {r : D → DHp → DK → Prop} (h : ta τ H fun x H1 => r x H1 K) : dUn r ta τ H K := h
theorem x_rv {r : DR2} {x y d : D} (h : Rv2 r x y H d) (k : K d H) : r x y H K := h K k
theorem x_rc {r : DRC} {ds : List D} {d : D} (h : RvC r ds H d) (k : K d H) : r ds H K := h K k
theorem x_cb {r : DRC} {t : DA} (h : t τ H fun vs H1 => r vs H1 K) : dCB r t τ H K := h
theorem x_cons {t : DA} {K : List D → DHp → Prop} (h : te τ H fun x H1 => t τ H1 fun xs H2 => K (x :: xs) H2) : dCons te t τ H K := h
theorem x_nil {K : List D → DHp → Prop} (h : K [] H) : dNil τ H K := h
theorem x_tup {t : DA} (h : t τ H fun xs H1 => xs.length ≤ sizeLine ∧ K (.tup xs) H1) : dTup t τ H K := h
theorem x_lst {t : DA} (h : t τ H fun xs H1 => xs.length ≤ sizeLine ∧ K (.lst xs) H1) : dLst t τ H K := h
theorem x_size {P : Prop} {ds : List D} (k : Nat) (hk : ds.length = k) (hl : k ≤ 1000) (h : P) : ds.length ≤ sizeLine ∧ P := ⟨by rw [hk]; exact size_le4 (by omega), h⟩
def asBl (x : D) (k : Bool → Prop) : Prop := match x with
  | .bl b => k b
  | _ => False
theorem x_b {K : Bool → DHp → Prop} (h : te τ H fun x H1 => asBl x fun b => K b H1) : dB te τ H K := h
theorem x_asb {b : Bool} {k : Bool → Prop} (h : k b) : asBl (.bl b) k := h
theorem x_and {c d : DT} {K : Bool → DHp → Prop} (h : c τ H fun b H1 => if b = true then d τ H1 K else K false H1) : dAnd c d τ H K := h
theorem x_or {c d : DT} {K : Bool → DHp → Prop} (h : c τ H fun b H1 => if b = true then K true H1 else d τ H1 K) : dOr c d τ H K := h
theorem x_not {c : DT} {K : Bool → DHp → Prop} (h : c τ H fun b H1 => K (!b) H1) : dNot c τ H K := h
theorem x_if {c : DT} (h : c τ H fun b H1 => if b = true then ta τ H1 K else tb τ H1 K) : dIf c ta tb τ H K := h
theorem x_ite {b : Bool} {P P' : Prop} (h1 : b = true → P) (h2 : b = false → P') : if b = true then P else P' := by
  cases b with
  | true => exact h1 rfl
  | false => exact h2 rfl
theorem x_sl {r : D → Option Int → Option Int → DHp → DK → Prop} {tl th : DO'} (h : te τ H fun x H1 => tl τ H1 fun l H2 => th τ H2 fun u H3 => r x l u H3 K) : dSl r te tl th τ H K := h
theorem x_o {t : DO'} {o : Option Int} {K : Option Int → DHp → Prop} (h : EvO t τ H o) (k : K o H) : t τ H K := h K k
theorem x_slL {α : Type} {e : α → D} {xs : List α} {lo hi : Option Int} {a : D} (pa : peek H a = eL e xs) (k : K (eL e (cut xs lo hi)) H) : rSlD false a lo hi H K := by
  rw [rSlD_e, pa]
  show K (.lst (cutD (xs.map e) lo hi)) H
  rw [cut_map]
  exact k
theorem x_slT {α : Type} {e : α → D} {xs : List α} {lo hi : Option Int} (k : K (eT e (cut xs lo hi)) H) : rSlD false (eT e xs) lo hi H K := by
  show K (.tup (cutD (xs.map e) lo hi)) H
  rw [cut_map]
  exact k
/- statements without a model -/
theorem n_asg {α : Type} {v : α} {i : Nat} (e : α → D) (h : Ev te τ H (e v)) (k : ∀ x, x = v → u E (τ.set i (some (e x))) H) : dSeq (dAsg te (gN i)) u E τ H := h _ (k v rfl)
theorem n_asgX {i : Nat} (h : te τ H fun x H1 => u E (τ.set i (some x)) H1) : dSeq (dAsg te (gN i)) u E τ H := h
theorem n_asgGX {g : DG} (h : te τ H fun x H1 => g x τ H1 (u E)) : dSeq (dAsg te g) u E τ H := h
theorem n_gv {g : DG} {d : D} {τ' : DSt} {K : DSt → DHp → Prop} (h : Gv g d τ H τ') (k : K τ' H) : g d τ H K := h K k
theorem n_unp2 {α β : Type} {v : α × β} {i j : Nat} (e : α → D) (f : β → D) (h : Ev te τ H (eTup (cc e (c1 f)) v))
    (k : ∀ a b, a = v.1 → b = v.2 → u E ((τ.set i (some (e a))).set j (some (f b))) H) : dSeq (dAsg te (gT 2 (gConsD (gN i) (gConsD (gN j) gNilD)))) u E τ H := h _ ⟨rfl, k _ _ rfl rfl⟩
theorem n_unp3 {α β γ : Type} {v : α × β × γ} {i j l : Nat} (e : α → D) (f : β → D) (g : γ → D) (h : Ev te τ H (eTup (cc e (cc f (c1 g))) v))
    (k : ∀ a b c, a = v.1 → b = v.2.1 → c = v.2.2 → u E (((τ.set i (some (e a))).set j (some (f b))).set l (some (g c))) H) : dSeq (dAsg te (gT 3 (gConsD (gN i) (gConsD (gN j) (gConsD (gN l) gNilD))))) u E τ H := h _ ⟨rfl, k _ _ _ rfl rfl rfl⟩
def as2 (ds : List D) (k : D → D → Prop) : Prop := match ds with
  | [v, w] => k v w
  | _ => False
def as3 (ds : List D) (k : D → D → D → Prop) : Prop := match ds with
  | [v, w, x] => k v w x
  | _ => False
theorem n_par {i j : Nat} {t : DA} (h : t τ H fun ds H1 => as2 ds fun v w => u E ((τ.set i (some v)).set j (some w)) H1) : dSeq (dPar i j t) u E τ H := h
theorem n_par3 {i j l : Nat} {t : DA} (h : t τ H fun ds H1 => as3 ds fun v w x => u E (((τ.set i (some v)).set j (some w)).set l (some x)) H1) : dSeq (dPar3 i j l t) u E τ H := h
theorem n_as2 {v w : D} {k : D → D → Prop} (h : k v w) : as2 [v, w] k := h
theorem n_as3 {v w x : D} {k : D → D → D → Prop} (h : k v w x) : as3 [v, w, x] k := h
theorem n_if {b : Bool} {c : DT} (hc : EvT c τ H b) (k1 : b = true → dSeq t u E τ H) (k2 : b = false → dSeq t' u E τ H) : dSeq (dIfS c t t') u E τ H := hc _ (x_ite k1 k2)
theorem n_ifX {c : DT} (h : c τ H fun b H1 => if b = true then dSeq t u E τ H1 else dSeq t' u E τ H1) : dSeq (dIfS c t t') u E τ H := h
theorem n_retX (h : te τ H E.rt) : dSeq (dRet te) u E τ H := h
/-- names a value -/
theorem n_let {α : Type} (v : α) {P : Prop} (k : ∀ x, x = v → P) : P := k v rfl
theorem n_for {α S : Type} {ti : DI} {g : DG} {tb : DS} {ok : DHp → Prop} (e : α → D) (xs : List α) (I : List α → S → Prop) (s0 : S) (st : S → DSt → DHp → Prop)
    (hi : EvI ti τ H (xs.map e) ok) (hok : ∀ s τ' H', st s τ' H' → ok H') (h0 : st s0 τ H) (i0 : I [] s0)
    (hb : ∀ pre x post s τ' H', xs = pre ++ x :: post → I pre s → st s τ' H' → ∀ E' : DEnds, E'.rt = E.rt → (∀ s1 τ1 H1, I (pre ++ [x]) s1 → st s1 τ1 H1 → E'.nx τ1 H1 ∧ E'.ct τ1 H1) → g (e x) τ' H' fun τ1 H1 => tb E' τ1 H1)
    (k : ∀ s τ' H', st s τ' H' → I xs s → u E τ' H') : dSeq (dFor ti g tb) u E τ H := hi.2 _ (by
  have key : ∀ (ys pre : List α) (s : S) (τ' : DSt) (H' : DHp), xs = pre ++ ys → I pre s → st s τ' H' → dForL ok g tb (ys.map e) { E with nx := u E } τ' H' := by
    intro ys
    induction ys with
    | nil =>
      intro pre s τ' H' hx hp hs
      rw [List.append_nil] at hx
      subst hx
      exact ⟨hok _ τ' H' hs, k _ τ' H' hs hp⟩
    | cons x ys ih =>
      intro pre s τ' H' hx hp hs
      refine ⟨hok _ τ' H' hs, hb pre x ys _ τ' H' hx hp hs _ rfl ?_⟩
      intro s1 τ1 H1 hi h1
      have := ih (pre ++ [x]) s1 τ1 H1 (by simp [hx]) hi h1
      exact ⟨this, this⟩
  exact key xs [] s0 τ H rfl i0 h0)
theorem n_app {α : Type} {i : Nat} {p : Addr} {xs : List α} (e : α → D) (hv : τ[i]? = some (some (.ref p))) (hp : H p = some (.lst (xs.map e))) (h : te τ H fun d H1 => H1 = H ∧ ∃ v, d = e v ∧ xs.length < sizeLine ∧ ∀ H', H' p = some (.lst ((xs ++ [v]).map e)) → (∀ b, b ≠ p → H' b = H b) → u E τ H')
    (mono : ∀ K K' : DK, (∀ d H, K d H → K' d H) → te τ H K → te τ H K') : dSeq (dDrop (dBM "list" mAppend (dVar i) (dCons te dNil))) u E τ H := by
  rw [dSeq_e, dDrop_e, dBM_e, dVar_e, hv]
  show ofTy "list" H (.ref p) ∧ _
  refine ⟨by rw [ofTy_e]; simp only [hp], mono _ _ (fun d H1 => ?_) h⟩
  rintro ⟨rfl, v, rfl, hl, k⟩
  show mAppend (.ref p) [e v] H1 (fun _ H1 => u E τ H1)
  rw [mAppend_e, onLst_e]
  simp only [hp, List.length_map]
  refine ⟨hl, k _ ?_ dupd_fr⟩
  rw [dupd_same, List.map_append]
  rfl
/-- append of what is told by draws: the list first, then the value -/
theorem n_appX {i : Nat} {p : Addr} (hv : τ[i]? = some (some (.ref p))) (hp : ∃ xs, H p = some (.lst xs)) (h : te τ H fun d H1 => mAppend (.ref p) [d] H1 fun _ H2 => u E τ H2) : dSeq (dDrop (dBM "list" mAppend (dVar i) (dCons te dNil))) u E τ H := by
  rw [dSeq_e, dDrop_e, dBM_e, dVar_e, hv]
  obtain ⟨xs, hp⟩ := hp
  show ofTy "list" H (.ref p) ∧ _
  exact ⟨by rw [ofTy_e]; simp only [hp], h⟩
theorem n_appK {α : Type} {p : Addr} {xs : List α} {v : α} {K : DHp → Prop} (e : α → D) (hp : H p = some (.lst (xs.map e))) (hl : xs.length < sizeLine) (k : ∀ H', H' p = some (.lst ((xs ++ [v]).map e)) → (∀ b, b ≠ p → H' b = H b) → K H') : mAppend (.ref p) [e v] H fun _ H2 => K H2 := by
  rw [mAppend_e, onLst_e]
  simp only [hp, List.length_map]
  refine ⟨hl, k _ ?_ dupd_fr⟩
  rw [dupd_same, List.map_append]
  rfl
/- comprehensions with draws -/
inductive SubE {α β : Type} (R : α → β → Prop) (S : α → Prop) : List α → List β → Prop where
  | nil : SubE R S [] []
  | keep {x : α} {y : β} {xs : List α} {ys : List β} (h : R x y) (r : SubE R S xs ys) : SubE R S (x :: xs) (y :: ys)
  | skip {x : α} {xs : List α} {ys : List β} (h : S x) (r : SubE R S xs ys) : SubE R S (x :: xs) ys
theorem x_lcN {α β : Type} {ti : DI} {g : DG} {tt : DT} {vs : List Nat} (e : α → D) (e' : β → D) (xs : List α) (R : α → β → Prop) (S : α → Prop)
    (hi : EvJ ti τ H (xs.map e)) (hl : xs.length ≤ sizeLine)
    (hb : ∀ x ∈ xs, ∀ (Q : DK) (Z : DHp → Prop), (∀ y, R x y → Q (e' y) H) → (S x → Z H) → g (e x) (dwipe τ vs) H fun τ2 H2 => tt τ2 H2 fun b H3 => if b = true then te τ2 H3 Q else Z H3)
    (k : ∀ ys, SubE R S xs ys → K (eL e' ys) H) : dLc false ti g tt te vs τ H K := by
  obtain ⟨ok, hi⟩ := hi
  refine hi.2 _ ⟨by rw [List.length_map]; exact hl, ?_⟩
  have key : ∀ (zs : List α) (acc : List D) (K : List D → DHp → Prop), (∀ z ∈ zs, z ∈ xs) → (∀ ys, SubE R S zs ys → K (acc ++ ys.map e') H) → dCompL ok g tt te (dwipe τ vs) (zs.map e) acc H K := by
    intro zs
    induction zs with
    | nil => intro acc K _ h; exact ⟨hi.1, by simpa using h [] .nil⟩
    | cons z zs ih =>
      intro acc K hz h
      refine ⟨hi.1, hb z (hz z (by simp)) _ _ (fun y hy => ?_) (fun hs => ?_)⟩
      · exact ih _ K (fun w hw => hz w (by simp [hw])) fun ys hys => by simpa using h (y :: ys) (.keep hy hys)
      · exact ih _ K (fun w hw => hz w (by simp [hw])) fun ys hys => h ys (.skip hs hys)
  exact key xs [] _ (fun z hz => hz) fun ys hys => k ys hys
theorem SubE.sub {α : Type} {R : α → α → Prop} {S : α → Prop} (hR : ∀ x y, R x y → y = x) : ∀ {xs ys : List α}, SubE R S xs ys → ys.Sublist xs
  | _, _, .nil => List.Sublist.refl _
  | _, _, .keep h r => by rw [hR _ _ h]; exact (SubE.sub hR r).cons₂ _
  | _, _, .skip _ r => (SubE.sub hR r).cons _
theorem SubE.all {α β : Type} {R : α → β → Prop} {S : α → Prop} {P : β → Prop} : ∀ {xs : List α} {ys : List β}, SubE R S xs ys → (∀ x ∈ xs, ∀ y, R x y → P y) → ∀ y ∈ ys, P y
  | _, _, .nil, _, y, hy => by cases hy
  | _, _, .keep (x := x) h r, f, y, hy => by
    rcases List.mem_cons.mp hy with rfl | hy
    · exact f x (by simp) _ h
    · exact SubE.all r (fun z hz => f z (by simp [hz])) y hy
  | _, _, .skip h r, f, y, hy => SubE.all r (fun z hz => f z (by simp [hz])) y hy
theorem SubE.len {α β : Type} {R : α → β → Prop} {S : α → Prop} : ∀ {xs : List α} {ys : List β}, SubE R S xs ys → ys.length ≤ xs.length
  | _, _, .nil => Nat.le_refl _
  | _, _, .keep _ r => by have := SubE.len r; simp only [List.length_cons]; omega
  | _, _, .skip _ r => by have := SubE.len r; simp only [List.length_cons]; omega
theorem SubE.full {α β : Type} {R : α → β → Prop} {S : α → Prop} (hS : ∀ x, ¬ S x) : ∀ {xs : List α} {ys : List β}, SubE R S xs ys → ys.length = xs.length
  | _, _, .nil => rfl
  | _, _, .keep _ r => by simp only [List.length_cons, SubE.full hS r]
  | _, _, .skip h _ => absurd h (hS _)
/- texts -/
def rpr (d : D) : Str := d.py.shown
theorem c_repr {a d : D} (pa : peek H a = d) (h : showOk d) : RvC rReprD [a] H (.str (rpr d)) := fun Q q => by
  show showOk (peek H a) ∧ Q (.str (peek H a).py.shown) H
  rw [pa]
  exact ⟨h, q⟩
theorem c_reprD {d : D} (h : showOk d) : RvC rReprD [d] H (.str (rpr d)) := c_repr (peek_plain h.1 _) h
theorem r_eqS {a b : Str} : Rv2 rEqS (.str a) (.str b) H (.bl (a == b)) := fun Q q => q
theorem r_neS {a b : Str} : Rv2 rNeS (.str a) (.str b) H (.bl (!(a == b))) := fun Q q => q
end
/-! ### the draws that stand already -/
section
variable {H : DHp} {K : DK}
theorem call_pick {a : Addr} (ha : H a = some .src) (m : Int) (h : 1 ≤ m ∧ m < 2 ^ 64) (k : ∀ r : Int, 0 ≤ r ∧ r < m → K (eI r) H) : sp_law_pick [.ref a, .int m] H K :=
  ⟨a, m, rfl, ha, h.2, fun r h0 h1 => k r ⟨h0, by omega⟩⟩
theorem call_of {α : Type} {e : α → D} {a : Addr} {d : D} (ha : H a = some .src) (xs : List α) (sd : seqOf H d = some (xs.map e)) (h : xs ≠ [] ∧ xs.length ≤ 1000000) (k : ∀ r, r ∈ xs → K (e r) H) : sp_law_of [.ref a, d] H K :=
  ⟨a, d, xs.map e, rfl, ha, sd, by simpa using h.1, by rw [List.length_map]; exact h.2, fun x hx => by obtain ⟨y, hy, rfl⟩ := List.mem_map.mp hx; exact k y hy⟩
end
section
variable {τ : DSt} {H : DHp} {E : DEnds} {u : DS}
theorem x_newL {α : Type} {t : DA} {K : DK} (e : α → D) (xs : List α) (h : EvA t τ H (xs.map e)) (hl : xs.length ≤ sizeLine)
    (k : ∀ p H', H p = none → H' p = some (.lst (xs.map e)) → (∀ b, b ≠ p → H' b = H b) → K (.ref p) H') : dLstM t τ H K := h _ ⟨by rw [List.length_map]; exact hl, fun p hp => k p _ hp dupd_same dupd_fr⟩
theorem n_forX {te : DE} {g : DG} {tb : DS} (h : te τ H fun x H1 => dSeq (dFor (dISeq (dC x)) g tb) u E τ H1) : dSeq (dFor (dISeq te) g tb) u E τ H := h
theorem x_lcX {te te' : DE} {g : DG} {tt : DT} {vs : List Nat} {mu : Bool} {K : DK} (h : te τ H fun x H1 => dLc mu (dISeq (dC x)) g tt te' vs τ H1 K) : dLc mu (dISeq te) g tt te' vs τ H K := h
def NewAt (d : D) (H1 : DHp) (P : Addr → DHp → Prop) : Prop := match d with
  | .lst ys => ∀ p, H1 p = none → P p (dupd H1 p (.lst ys))
  | _ => True
theorem n_newX {ti : DI} {g : DG} {tt : DT} {te' : DE} {vs : List Nat} {i : Nat} (h : dLc false ti g tt te' vs τ H (fun d H1 => NewAt d H1 fun p H' => u E (τ.set i (some (.ref p))) H')) : dSeq (dAsg (dLc true ti g tt te' vs) (gN i)) u E τ H := h
theorem n_newK {α : Type} {e : α → D} {xs : List α} {P : Addr → DHp → Prop} (k : ∀ p H', H p = none → H' p = some (.lst (xs.map e)) → (∀ b, b ≠ p → H' b = H b) → P p H') : NewAt (eL e xs) H P := fun p hp => k p _ hp dupd_same dupd_fr
theorem n_store {td ty tv : DE} (h : tv τ H fun v H1 => td τ H1 fun x H2 => ty τ H2 fun y H3 => storeD H3 x y v (u E τ)) : dSeq (dStore td ty tv) u E τ H := h
theorem n_join {t : DS} (P : DSt → DHp → Prop) (h : ∀ E' : DEnds, E'.rt = E.rt → E'.ct = E.ct → (∀ τ H, P τ H → E'.nx τ H) → dSeq t dNext E' τ H) (k : ∀ τ H, P τ H → u E τ H) : dSeq t u E τ H :=
  h { E with nx := u E } rfl rfl k
/-- a law's first row -/
theorem n_src {K : PySem.W.Frag} {Q : DK} {ns : List Int} {a0 : Addr} {i : Nat} {u : DS} {τ : DSt} {H : DHp} (hlaw : ∀ H', Q (.bl true) H') (hl : ns.length ≤ 63) (hs : ScrAt K H a0 ns)
    (k : ∀ a DH, DH a = some .src → (∀ r : Bool, r = true → Q (eB r) DH) → u (bodyE Q) (τ.set i (some (.ref a))) DH) (hv : τ[0]? = some (some (.ref a0)) := by rfl) : dSeq (dAsg (dCB (sp_law_source K) (dCons (dVar 0) dNil)) (gN i)) u (bodyE Q) τ H := by
  rw [dSeq_e, dAsg_e, dCB_e, dCons_e, dVar_e, hv]
  exact ⟨a0, ns, rfl, hl, hs, fun p hp => k p _ dupd_same fun r hr => by rw [hr]; exact hlaw _⟩
end
end DL

/-! TL6: what may be told by repr, by encoders. -/
namespace DL
open PySem PySem.Spec PyProof.Rows L2
structure Shw (k m r : Nat) (d : D) : Prop where
  sm : d.sm k = true
  nd : d.nodes ≤ m
  dp : d.dep ≤ r
structure ShwL (k m r : Nat) (ds : List D) : Prop where
  sm : smL k ds = true
  nd : nodesL ds ≤ m
  dp : depL ds ≤ r
theorem Shw.ok {k m r : Nat} {d : D} (h : Shw k m r d) (hr : r ≤ 60 := by decide) (hm : (k + 3) * ((k + 1) * m) + k + 1 ≤ 16777216 := by decide) (h7 : 7 ≤ k := by decide) (hk : k ≤ 1920 := by decide) : showOk d := by
  refine showOk_of k h.sm (Nat.le_trans h.dp hr) ?_ h7 hk
  have := Nat.mul_le_mul_left (k + 3) (Nat.mul_le_mul_left (k + 1) h.nd)
  omega
theorem Shw.mono {k m r m' r' : Nat} {d : D} (h : Shw k m r d) (hm : m ≤ m') (hr : r ≤ r') : Shw k m' r' d := ⟨h.sm, Nat.le_trans h.nd hm, Nat.le_trans h.dp hr⟩
theorem shw_I {k : Nat} {i : Int} (h0 : -(2 ^ k) < i) (h1 : i < 2 ^ k) (hk : 0 < k := by decide) : Shw k 1 0 (.int i) := ⟨sm_int h0 h1 hk, Nat.le_refl _, Nat.le_refl _⟩
theorem shw_B {k : Nat} {b : Bool} : Shw k 1 0 (.bl b) := ⟨rfl, Nat.le_refl _, Nat.le_refl _⟩
theorem shw_N {k : Nat} : Shw k 1 0 .non := ⟨rfl, Nat.le_refl _, Nat.le_refl _⟩
theorem shw_S {k n : Nat} {x : Str} (h : PyData.strOk x = true) (hn : x.cps.size ≤ n) : Shw k (n + 1) 0 (.str x) := ⟨h, Nat.succ_le_succ hn, Nat.le_refl _⟩
theorem shw_W {k : Nat} (w : Str) (n : Nat) (h : PyData.strOk w = true := by decide +kernel) (hn : w.cps.size ≤ n := by decide +kernel) : Shw k (n + 1) 0 (eS w) := shw_S h hn
theorem shwl_nil {k : Nat} : ShwL k 0 0 [] := ⟨rfl, Nat.le_refl _, Nat.le_refl _⟩
theorem shwl_cons {k m1 r1 m2 r2 : Nat} {d : D} {ds : List D} (h : Shw k m1 r1 d) (t : ShwL k m2 r2 ds) : ShwL k (m1 + m2) (max r1 r2) (d :: ds) :=
  ⟨by simp only [smL, h.sm, t.sm, Bool.and_self], by have := h.nd; have := t.nd; simp only [nodesL]; omega, by have := h.dp; have := t.dp; simp only [depL]; omega⟩
theorem shw_tup {k m r : Nat} {ds : List D} (h : ShwL k m r ds) : Shw k (m + 1) (r + 1) (.tup ds) := ⟨h.sm, Nat.succ_le_succ h.nd, Nat.succ_le_succ h.dp⟩
theorem shw_lst {k m r : Nat} {ds : List D} (h : ShwL k m r ds) : Shw k (m + 1) (r + 1) (.lst ds) := ⟨h.sm, Nat.succ_le_succ h.nd, Nat.succ_le_succ h.dp⟩
section
variable {α β : Type} {e : α → D} {k m r : Nat}
theorem shwl_map {xs : List α} (n : Nat) (h : ∀ x ∈ xs, Shw k m r (e x)) (hn : xs.length ≤ n) : ShwL k (n * m) r (xs.map e) := by
  refine ⟨smL_all fun y hy => ?_, ?_, depL_le fun y hy => ?_⟩
  · obtain ⟨x, hx, rfl⟩ := List.mem_map.mp hy; exact (h x hx).sm
  · have := nodesL_le (xs := xs.map e) (m := m) fun y hy => by obtain ⟨x, hx, rfl⟩ := List.mem_map.mp hy; exact (h x hx).nd
    rw [List.length_map] at this
    exact Nat.le_trans this (Nat.mul_le_mul_right m hn)
  · obtain ⟨x, hx, rfl⟩ := List.mem_map.mp hy; exact (h x hx).dp
theorem shw_T {xs : List α} (n : Nat) (h : ∀ x ∈ xs, Shw k m r (e x)) (hn : xs.length ≤ n) : Shw k (n * m + 1) (r + 1) (eT e xs) := shw_tup (shwl_map n h hn)
theorem shw_L {xs : List α} (n : Nat) (h : ∀ x ∈ xs, Shw k m r (e x)) (hn : xs.length ≤ n) : Shw k (n * m + 1) (r + 1) (eL e xs) := shw_lst (shwl_map n h hn)
theorem shw_tp {l : α → List D} {a : α} (h : ShwL k m r (l a)) : Shw k (m + 1) (r + 1) (eTup l a) := shw_tup h
theorem shw_c1 {a : α} (h : Shw k m r (e a)) : ShwL k m r (c1 e a) := by
  have := shwl_cons h shwl_nil
  rw [Nat.add_zero, Nat.max_zero] at this
  exact this
theorem shw_cc {m2 r2 : Nat} {l : β → List D} {p : α × β} (h : Shw k m r (e p.1)) (t : ShwL k m2 r2 (l p.2)) : ShwL k (m + m2) (max r r2) (cc e l p) := shwl_cons h t
theorem shw_O {a : Option α} (hm : 1 ≤ m) (h : ∀ x, a = some x → Shw k m r (e x)) : Shw k m r (eO e a) := by
  cases a with
  | none => exact (shw_N).mono hm (Nat.zero_le _)
  | some x => exact h x rfl
theorem shw_R {p : Int × Int} (h1 : -(2 ^ k) < p.1 ∧ p.1 < 2 ^ k) (h2 : -(2 ^ k) < p.2 ∧ p.2 < 2 ^ k) (hk : 0 < k := by decide) : Shw k 3 1 (eR p) := shw_tp (shw_cc (shw_I h1.1 h1.2 hk) (shw_c1 (shw_I h2.1 h2.2 hk)))
end
/-- equal values have equal texts -/
theorem rpr_eq {a b : D} (h : a = b) : (rpr a == rpr b) = true := by subst h; simp
theorem rpr_ne {a b : D} (h : a = b) : (!(rpr a == rpr b)) = false := by rw [rpr_eq h]; rfl
theorem rpr_no {a b : D} (h : (!(rpr a == rpr b)) = true) (e : a = b) : False := by rw [rpr_ne e] at h; cases h
end DL

/-! DL13: dicts: their keys gone through, locked meanwhile; copies. -/
namespace PySem
open PyProof.Rows
section
variable {prog : Program} {w : World} {K : Type} [DecidableEq K] {knd : HeapKind prog w K} {A : Around} {E : Value → Shared → Prop} {s : Shared}
theorem call_dictH {o : Addr} {more : List (K × Addr × Value)} {Q : Value → Shared → Prop} (hu : knd.room A.in1.in1) (hoS : (o == sysModules) = false) (ho : s.heap.DictOfH knd o more) (hsz : more.length ≤ sizeLine)
    (hty : ∀ x ∈ more, s.TypeIs (.ref x.2.1) "tuple") (hap : (more.map fun x => knd.hash x.1).Nodup) (hst : ∀ h' : Heap, (∀ b o, s.heap.get? b = some o → h'.get? b = some o) → ∀ x ∈ more, knd.is h' x.1 x.2.1)
    (h : ∀ h', h'.DictOfH knd s.heap.objs.size more → (∀ b o, s.heap.get? b = some o → h'.get? b = some o) → Q (.ref s.heap.objs.size) { s with heap := h' }) :
    wpAny (model prog w) A (call (.type "dict") [.ref o]) Q E s := by
  refine callType_codes (Q₁ := fun obj s₁ => obj = .ref s.heap.objs.size ∧ s₁ = { s with heap := s.heap.push { cls := .type "dict", data := .dict #[] } }) F.kt_called_dict (F.kt_typeCall_dict_1 _) F.entry_dict_init (kt_code_dict_new _ ⟨rfl, rfl⟩) ?_
  rintro obj s₁ ⟨rfl, rfl⟩
  have hT : Shared.TypeIs { s with heap := s.heap.push { cls := .type "dict", data := .dict #[] } } (.ref s.heap.objs.size) "dict" := ⟨_, Heap.get?_push_size _ rfl, rfl⟩
  refine ⟨hT, F.args_dict_init_2 _ _, ?_⟩
  unfold Builtin.«dict.__init__»
  refine wpAny_bind ?_
  unfold Builtin.Dict.selfAndRest
  refine wpAny_bind (wpAny_notOrdered_dict hT ?_)
  show wpAny _ _ (pure (s.heap.objs.size, [Value.ref o])) _ _ _
  refine wpAny_pure ?_
  have keep : ∀ b ob, s.heap.get? b = some ob → (s.heap.push { cls := .type "dict", data := .dict #[] }).get? b = some ob := fun b ob e => Heap.get?_push_of_some _ e
  have ho' : (s.heap.push { cls := .type "dict", data := .dict #[] }).DictOfH knd o more := ho.at' (fun ob e => keep _ _ e) (hst _ keep)
  have hdo : s.heap.objs.size ≠ o := Nat.ne_of_gt ho.lt_size
  refine updateFrom_dictH (A := A.in1) (kvs := []) .none hu hdo hoS (Heap.DictOfH.new s.heap) ho' (.inr ⟨fun x hx => ?_, hap⟩) (by simpa using hsz) fun h' hd' _ hs' => ?_
  · obtain ⟨ob, e, c⟩ := hty x hx
    exact ⟨ob, keep _ _ e, c⟩
  · rw [storedAllH_nil_of_nodup more ho.nodup] at hd'
    exact ⟨rfl, h h' hd' fun b ob e => hs'.extBut b ob (Nat.ne_of_lt (Heap.lt_size e)) (keep b ob e)⟩
end
end PySem
namespace L2
open PySem PySem.Spec PyProof.Rows
section
variable {X : Cx}
/-- dict(d), the keys tuples of unlike hashes: a copy -/
theorem call_dictT (hu : X.A.units + 4 < cLine) : CallR X (.type "dict") (fun xs H Q => ∃ (a : Addr) (kvs : List (List Key × V)), xs = [.ref a] ∧ Rd H a (.dT kvs) ∧ (kvs.map fun kv => tupleKeyHash (mixKind X.prog X.w) kv.1).Nodup ∧ ∀ p, H p = none → Q (.ref p) (upd H p (.dT kvs))) := by
  intro pins s σ H xs us Q I r q
  obtain ⟨a, kvs, ex, hd, hap, q⟩ := q
  subst ex
  obtain ⟨u, eu, rx⟩ := vals1 r
  subst eu
  cases rx
  obtain ⟨z, lo, xs, pr, dd⟩ := dt_rd I.hok hd
  have hk : ∀ x ∈ xs, ∃ ks : List Key, x.1 = ks ∧ H x.2.1 = some (.tup (ks.map kV)) := by
    have all : ∀ {l : List (List Key × V)} {m : List (List Key × Addr × Value)}, KT H l m → ∀ x ∈ m, H x.2.1 = some (.tup (x.1.map kV)) := by
      intro l m h
      induction h with
      | nil => intro x hx; cases hx
      | cons h t ih =>
        intro x hx
        rcases List.mem_cons.mp hx with rfl | hx
        · rw [← h.1]; exact h.2.1
        · exact ih x hx
    exact fun x hx => ⟨_, rfl, all pr x hx⟩
  have hmap : (xs.map fun x => (tupleKind (mixKind X.prog X.w)).hash x.1) = kvs.map fun kv => tupleKeyHash (mixKind X.prog X.w) kv.1 := by
    have all : ∀ {l : List (List Key × V)} {m : List (List Key × Addr × Value)}, KT H l m → (m.map fun x => (tupleKind (mixKind X.prog X.w)).hash x.1) = l.map fun kv => tupleKeyHash (mixKind X.prog X.w) kv.1 := by
      intro l m h
      induction h with
      | nil => rfl
      | cons h t ih => rw [List.map_cons, List.map_cons, ih, h.1]; rfl
    exact all pr
  have hl : kvs.length = xs.length := pr.length
  refine call_dictH (knd := tupleKind (mixKind X.prog X.w)) (show X.A.in1.in1.units < cLine from ?_) lo dd (by rw [← hl]; exact z) (fun x hx => ?_) (by rw [hmap]; exact hap) (fun h' kp x hx => ?_) fun h' d' kp => ?_
  · simp only [Around.in1_units]; omega
  · obtain ⟨ks, e1, e2⟩ := hk x hx
    exact (key_of I.hok e2).typeIs
  · obtain ⟨ks, e1, e2⟩ := hk x hx
    obtain ⟨o, items, n, ho, hc, hd', hi⟩ := key_of I.hok e2
    exact ⟨o, items, n, kp _ _ ho, hc, hd', by rw [e1]; exact hi⟩
  have hm : (s.heap.objs.size == sysModules) = false := beq_eq_false_iff_ne.mpr (Nat.ne_of_gt I.big)
  refine ⟨.ref s.heap.objs.size, upd H s.heap.objs.size (.dT kvs), I.laid (t' := s.toks) kp (Nat.le_refl _) ?_, rfl, q _ (I.hok.fresh (Nat.le_refl _))⟩
  obtain ⟨o, es, ep, h1, h2, h3, h4, _, h5⟩ := d'
  have hf := I.hok.fresh (Nat.le_refl s.heap.objs.size)
  have up : ∀ {l : List (List Key × V)} {m : List (List Key × Addr × Value)}, KT H l m → Paired (fun (p : List Key × V) (q : List Key × Addr × Value) => p.1 = q.1 ∧ upd H s.heap.objs.size (.dT kvs) q.2.1 = some (.tup (p.1.map kV)) ∧ RelV p.2 q.2.2) l m := by
    intro l m h
    induction h with
    | nil => exact .nil
    | cons h t ih => exact .cons ⟨h.1, by rw [upd_ne (ne_of_none h.2.1 hf)]; exact h.2.1, h.2.2⟩ ih
  exact ⟨z, hm, xs, up pr, o, es, ep, h1, h2, h3, h4, h5⟩
end
end L2
namespace DL
open PySem PySem.Spec PyProof.Rows L2
/-! ### keys gone through -/
def keyDv : Key → D
  | .inl i => .int i
  | .inr x => .str x
theorem keyDv_rep {T : Hp} (k : Key) : RepV T (keyDv k) (kV k) := by cases k <;> rfl
theorem keysDv_rep {T : Hp} : ∀ ks : List Key, RepL T (ks.map keyDv) (ks.map kV)
  | [] => .nil
  | k :: ks => .cons (keyDv_rep k) (keysDv_rep ks)
section
variable {T : Hp} {DH : DHp} {H : Hp}
/-- a tuple that stands there may be told of -/
theorem Abs.know {q : Addr} {vs : List V} (A : Abs T DH H) (h : H q = some (.tup vs)) : ∃ T2, Same T T2 ∧ Abs T2 DH H ∧ T2 q = some (.tup vs) := by
  cases e : T q with
  | some o =>
    have h2 := A.sub q o e
    rw [h] at h2
    have h3 : o = .tup vs := by
      cases o with
      | frz ob u => cases u <;> simp [unfrz] at h2
      | _ => simp only [unfrz, Option.some.injEq] at h2; exact h2.symm
    exact ⟨T, Same.refl _, A, by rw [e, h3]⟩
  | none =>
    have sm : Same T (upd T q (.tup vs)) := fun b u eb => by rw [upd_ne (ne_of_none eb e)]; exact eb
    refine ⟨upd T q (.tup vs), sm, ?_, upd_same⟩
    obtain ⟨C, A⟩ := A
    refine ⟨C, fun b u eb => ?_, fun b x eb => ?_, fun b c eb => ?_⟩
    · by_cases hb : b = q
      · subst hb; rw [upd_same] at eb; cases eb; exact h
      · rw [upd_ne hb] at eb; exact A.sub b u eb
    · obtain ⟨h1, h2, h3⟩ := A.obj b x eb
      refine ⟨?_, h2, fun hx => ?_⟩
      · have hb : b ≠ q := fun z => by
          subst z
          by_cases hx : x = .src
          · obtain ⟨c, hc⟩ := h2 hx
            obtain ⟨_, _, _, ⟨_, _, _, _, _, _, _, _, _, _, z⟩, _⟩ := A.own b c hc
            rw [h] at z; cases z
          · obtain ⟨o, z, r⟩ := h3 hx
            rw [h] at z; cases z
            cases x with
            | lst ds => obtain ⟨_, z, _⟩ := r; cases z
            | dK ds => obtain ⟨_, z, _⟩ := r; cases z
            | dT ds => obtain ⟨_, z, _⟩ := r; cases z
            | src => exact hx rfl
            | scr ds => obtain ⟨_, _, z, _⟩ := r; cases z
            | lkK ds u => obtain ⟨z, _, _, z2, _⟩ := r; rw [← z] at z2; cases z2
            | lkT ds u => obtain ⟨z, _, _, z2, _⟩ := r; rw [← z] at z2; cases z2
        rw [upd_ne hb]; exact h1
      · obtain ⟨o, z, r⟩ := h3 hx
        exact ⟨o, z, r.up sm⟩
    · obtain ⟨h1, h2, h3, h4, h5⟩ := A.own b c eb
      refine ⟨h1, h2, ?_, h4, h5⟩
      have hc : c ≠ q := fun z => by
        subst z
        obtain ⟨_, _, _, _, _, _, _, _, _, z, _⟩ := h4
        rw [h] at z; cases z
      rw [upd_ne hc]; exact h3
end
def dIKeys (te : DE) : DI := fun τ H R => te τ H fun x H1 => match x with
  | .ref p => (match H1 p with
    | some (.lkK kvs u) => R (kvs.map fun kv => keyDv kv.1) (fun H' => H' p = some (.lkK kvs u)) H1
    | some (.lkT kvs u) => R (kvs.map fun kv => .tup (kv.1.map keyDv)) (fun H' => H' p = some (.lkT kvs u)) H1
    | _ => False)
  | _ => False
section
variable {X : Cx} {tg e : Expr} {te : DE} {st : Stmt} {t : DS}
theorem KVR.keyAt {T : Hp} {κ : Type} {xs : List (κ × D)} {ys : List (κ × V)} (h : KVR T xs ys) {i : Nat} {k : κ} {v : V} (e : ys[i]? = some (k, v)) : ∃ d, xs[i]? = some (k, d) := by
  have h1 := congrArg (fun l : List κ => l[i]?) h.1
  simp only [List.getElem?_map, e, Option.map_some] at h1
  cases q : xs[i]? with
  | none => rw [q] at h1; cases h1
  | some x =>
    rw [q] at h1
    simp only [Option.map_some, Option.some.injEq] at h1
    exact ⟨x.2, by rw [h1]⟩
theorem qi_keys (he : QE X e te) : QI X tg e (dIKeys te) := ⟨piW (pi_keys he.run) fun σ H R ⟨T, DH, τ, RD, A, S, h, u⟩ => ⟨T, DH, τ, _, A, S, h, fun T1 DH1 H1 x v s1 A1 r1 h1 => by
  cases x with
  | ref p =>
    cases (show v = .ref p from r1)
    simp only at h1
    split at h1
    · rename_i kvs u' e
      obtain ⟨g, ob, ys, rfl, q⟩ := A1.lkK e
      refine ⟨p, ob, rfl, .inl ⟨ys, g, u T1 DH1 H1 _ _ (Itk p ob ys) s1 A1 ?_ h1⟩⟩
      have hl := q.length
      refine ⟨fun i T' DH H s A o hi => ⟨(A.lkK o).1, ?_⟩, fun T' DH H s A o => ⟨(A.lkK o).1, ?_⟩, fun i T' DH H x H' d s A o ed y => ?_⟩
      · rw [List.length_map] at hi; rw [hl]; exact hi
      · rw [List.length_map, hl]; exact Nat.le_refl _
      · obtain ⟨rfl, k, w, e1, rfl⟩ := y
        obtain ⟨z, e2⟩ := q.keyAt e1
        rw [List.getElem?_map, e2] at ed
        cases ed
        exact ⟨T', Same.refl _, A, keyDv_rep k⟩
    · rename_i kvs u' e
      obtain ⟨g, ob, ys, rfl, q⟩ := A1.lkT e
      refine ⟨p, ob, rfl, .inr ⟨ys, g, u T1 DH1 H1 _ _ (Itkt p ob ys) s1 A1 ?_ h1⟩⟩
      have hl := q.length
      refine ⟨fun i T' DH H s A o hi => ⟨(A.lkT o).1, ?_⟩, fun T' DH H s A o => ⟨(A.lkT o).1, ?_⟩, fun i T' DH H x H' d s A o ed y => ?_⟩
      · rw [List.length_map] at hi; rw [hl]; exact hi
      · rw [List.length_map, hl]; exact Nat.le_refl _
      · obtain ⟨rfl, k, w, b, e1, rfl, e3⟩ := y
        obtain ⟨z, e2⟩ := q.keyAt e1
        rw [List.getElem?_map, e2] at ed
        cases ed
        obtain ⟨T2, s2, A2, e4⟩ := A.know e3
        exact ⟨T2, s2, A2, b, _, rfl, e4, keysDv_rep k⟩
    · exact h1.elim
  | _ => exact h1.elim⟩⟩
/-! ### locked meanwhile -/
def dLockE (t : DE) : DE := fun τ H Q => ∃ p, (∃ kvs, H p = some (.dK kvs) ∧ ∀ u, t τ (dupd H p (.lkK kvs u)) fun v H' => H' p = some (.lkK kvs u) ∧ Q v (dupd H' p (.dK kvs))) ∨
  (∃ kvs, H p = some (.dT kvs) ∧ ∀ u, t τ (dupd H p (.lkT kvs u)) fun v H' => H' p = some (.lkT kvs u) ∧ Q v (dupd H' p (.dT kvs)))
def dLockS (t : DS) : DS := fun E τ H => ∃ p, (∃ kvs, H p = some (.dK kvs) ∧ ∀ u, t ⟨fun τ' H' => H' p = some (.lkK kvs u) ∧ E.nx τ' (dupd H' p (.dK kvs)), fun v H' => H' p = some (.lkK kvs u) ∧ E.rt v (dupd H' p (.dK kvs)), fun τ' H' => H' p = some (.lkK kvs u) ∧ E.bk τ' (dupd H' p (.dK kvs)), fun τ' H' => H' p = some (.lkK kvs u) ∧ E.ct τ' (dupd H' p (.dK kvs))⟩ τ (dupd H p (.lkK kvs u))) ∨
  (∃ kvs, H p = some (.dT kvs) ∧ ∀ u, t ⟨fun τ' H' => H' p = some (.lkT kvs u) ∧ E.nx τ' (dupd H' p (.dT kvs)), fun v H' => H' p = some (.lkT kvs u) ∧ E.rt v (dupd H' p (.dT kvs)), fun τ' H' => H' p = some (.lkT kvs u) ∧ E.bk τ' (dupd H' p (.dT kvs)), fun τ' H' => H' p = some (.lkT kvs u) ∧ E.ct τ' (dupd H' p (.dT kvs))⟩ τ (dupd H p (.lkT kvs u)))
theorem unlockK {T : Hp} {DH : DHp} {H : Hp} {p : Addr} {kvs : List (Key × D)} {od : Obj} {ys : List (Key × V)} (A : Abs T DH H) (e : DH p = some (.lkK kvs (.frz od (.dK ys)))) : H p = some (.frz od (.dK ys)) ∧ Abs T (dupd DH p (.dK kvs)) (upd H p (.dK ys)) := by
  obtain ⟨g, ob, zs, ez, q⟩ := A.lkK e
  cases ez
  exact ⟨g, A.put (x := .dK kvs) e (by simp) ⟨ys, rfl, q⟩⟩
theorem unlockT {T : Hp} {DH : DHp} {H : Hp} {p : Addr} {kvs : List (List Key × D)} {od : Obj} {ys : List (List Key × V)} (A : Abs T DH H) (e : DH p = some (.lkT kvs (.frz od (.dT ys)))) : H p = some (.frz od (.dT ys)) ∧ Abs T (dupd DH p (.dT kvs)) (upd H p (.dT ys)) := by
  obtain ⟨g, ob, zs, ez, q⟩ := A.lkT e
  cases ez
  exact ⟨g, A.put (x := .dT kvs) e (by simp) ⟨ys, rfl, q⟩⟩
theorem qe_lock (h : QE X e te) : QE X e (dLockE te) := ⟨peW (pe_lock h.run) fun σ H Q ⟨T, DH, τ, R, A, S, ⟨p, h⟩, u⟩ => by
  rcases h with ⟨kvs, ep, h⟩ | ⟨kvs, ep, h⟩
  · obtain ⟨ys, g, q⟩ := A.dK ep
    refine ⟨p, .dK ys, g, trivial, fun od => ⟨T, _, τ, _, A.put (x := .lkK kvs (.frz od (.dK ys))) ep (by simp) ⟨rfl, od, ys, rfl, q⟩, S, h _, fun T1 DH1 H1 x v s1 A1 r1 h1 => ?_⟩⟩
    obtain ⟨k1, k2⟩ := unlockK A1 h1.1
    exact ⟨k1, u T1 _ _ x v s1 k2 r1 h1.2⟩
  · obtain ⟨ys, g, q⟩ := A.dT ep
    refine ⟨p, .dT ys, g, trivial, fun od => ⟨T, _, τ, _, A.put (x := .lkT kvs (.frz od (.dT ys))) ep (by simp) ⟨rfl, od, ys, rfl, q⟩, S, h _, fun T1 DH1 H1 x v s1 A1 r1 h1 => ?_⟩⟩
    obtain ⟨k1, k2⟩ := unlockT A1 h1.1
    exact ⟨k1, u T1 _ _ x v s1 k2 r1 h1.2⟩⟩
theorem qs_lock (h : QS X st t) : QS X st (dLockS t) := ⟨psW (ps_lock h.run) fun E σ H ⟨T, DH, τ, R, A, S, ⟨p, h⟩, u⟩ => by
  rcases h with ⟨kvs, ep, h⟩ | ⟨kvs, ep, h⟩
  · obtain ⟨ys, g, q⟩ := A.dK ep
    refine ⟨p, .dK ys, g, trivial, fun od => ⟨T, _, τ, _, A.put (x := .lkK kvs (.frz od (.dK ys))) ep (by simp) ⟨rfl, od, ys, rfl, q⟩, S, h _, ⟨fun T1 DH1 H1 τ1 σ1 s1 A1 S1 h1 => ?_, fun T1 DH1 H1 d v s1 A1 r1 h1 => ?_, fun T1 DH1 H1 τ1 σ1 s1 A1 S1 h1 => ?_, fun T1 DH1 H1 τ1 σ1 s1 A1 S1 h1 => ?_⟩⟩⟩
    · obtain ⟨k1, k2⟩ := unlockK A1 h1.1; exact ⟨k1, u.nx T1 _ _ τ1 σ1 s1 k2 S1 h1.2⟩
    · obtain ⟨k1, k2⟩ := unlockK A1 h1.1; exact ⟨k1, u.rt T1 _ _ d v s1 k2 r1 h1.2⟩
    · obtain ⟨k1, k2⟩ := unlockK A1 h1.1; exact ⟨k1, u.bk T1 _ _ τ1 σ1 s1 k2 S1 h1.2⟩
    · obtain ⟨k1, k2⟩ := unlockK A1 h1.1; exact ⟨k1, u.ct T1 _ _ τ1 σ1 s1 k2 S1 h1.2⟩
  · obtain ⟨ys, g, q⟩ := A.dT ep
    refine ⟨p, .dT ys, g, trivial, fun od => ⟨T, _, τ, _, A.put (x := .lkT kvs (.frz od (.dT ys))) ep (by simp) ⟨rfl, od, ys, rfl, q⟩, S, h _, ⟨fun T1 DH1 H1 τ1 σ1 s1 A1 S1 h1 => ?_, fun T1 DH1 H1 d v s1 A1 r1 h1 => ?_, fun T1 DH1 H1 τ1 σ1 s1 A1 S1 h1 => ?_, fun T1 DH1 H1 τ1 σ1 s1 A1 S1 h1 => ?_⟩⟩⟩
    · obtain ⟨k1, k2⟩ := unlockT A1 h1.1; exact ⟨k1, u.nx T1 _ _ τ1 σ1 s1 k2 S1 h1.2⟩
    · obtain ⟨k1, k2⟩ := unlockT A1 h1.1; exact ⟨k1, u.rt T1 _ _ d v s1 k2 r1 h1.2⟩
    · obtain ⟨k1, k2⟩ := unlockT A1 h1.1; exact ⟨k1, u.bk T1 _ _ τ1 σ1 s1 k2 S1 h1.2⟩
    · obtain ⟨k1, k2⟩ := unlockT A1 h1.1; exact ⟨k1, u.ct T1 _ _ τ1 σ1 s1 k2 S1 h1.2⟩⟩
/-! ### copies -/
/-- keys whose hashes are unlike, whatever the world -/
def HashApart (ks : List (List Key)) : Prop := ∀ (P : Program) (w : World), (ks.map (tupleKeyHash (mixKind P w))).Nodup
def rDictC : DRC := fun ds H Q => match ds with
  | [.ref p] => (match H p with
    | some (.dK kvs) => ∀ q, H q = none → Q (.ref q) (dupd H q (.dK kvs))
    | some (.dT kvs) => HashApart (kvs.map (·.1)) ∧ ∀ q, H q = none → Q (.ref q) (dupd H q (.dT kvs))
    | _ => False)
  | _ => False
theorem cd_dictC (hu : X.A.units + 4 < cLine) : CallR X (.type "dict") (loC rDictC) := crW (CallR.or (call_dictD (X := X)) (call_dictT hu)) fun vs H Q ⟨T, DH, ds, R, A, r, h, w⟩ => by
  unfold rDictC at h
  split at h
  · rename_i p
    obtain ⟨v, rfl, rv⟩ := r.one
    cases (show v = .ref p from rv)
    split at h
    · rename_i kvs e
      obtain ⟨ys, g, q⟩ := A.dK e
      exact .inl ⟨p, ys, rfl, .inl g, fun q' hq => w T _ _ (.ref q') _ (Same.refl _) (A.new (x := .dK kvs) hq ⟨ys, rfl, q⟩) rfl (h q' (A.free hq).2)⟩
    · rename_i kvs e
      obtain ⟨ys, g, q⟩ := A.dT e
      refine .inr ⟨p, ys, rfl, .inl g, ?_, fun q' hq => w T _ _ (.ref q') _ (Same.refl _) (A.new (x := .dT kvs) hq ⟨ys, rfl, q⟩) rfl (h.2 q' (A.free hq).2)⟩
      have := h.1 X.prog X.w
      rw [← q.1, List.map_map] at this
      exact this
    · exact h.elim
  · exact h.elim
end
theorem room4 {k : Nat} {A : Around} (h : Room k A) : A.units + 4 < cLine := by have := h.units; omega
end DL

/-! TL7: the typed layer: dicts. -/
namespace DL
open PySem PySem.Spec PyProof.Rows L2
def dvalF {α β : Type} [DecidableEq α] (kvs : List (α × β)) (k : α) : Option β := (kvs.find? fun kv => decide (kv.1 = k)).map (·.2)
def dputF {α β : Type} [DecidableEq α] (kvs : List (α × β)) (k : α) (v : β) : List (α × β) := if kvs.any (fun kv => decide (kv.1 = k)) = true then kvs.map (fun kv => if kv.1 = k then (kv.1, v) else kv) else kvs ++ [(k, v)]
def keysF {α β : Type} (kvs : List (α × β)) : List α := kvs.map (·.1)
def dencF {α β : Type} (ve : β → D) (kvs : List (α × β)) : List (α × D) := kvs.map fun kv => (kv.1, ve kv.2)
section
variable {α β : Type} [DecidableEq α]
theorem dvalF_enc (ve : β → D) (kvs : List (α × β)) (k : α) : dvalF (dencF ve kvs) k = (dvalF kvs k).map ve := by
  unfold dvalF dencF
  rw [List.find?_map]
  cases h : kvs.find? ((fun kv : α × D => decide (kv.1 = k)) ∘ fun kv : α × β => (kv.1, ve kv.2)) with
  | none =>
    have : kvs.find? (fun kv => decide (kv.1 = k)) = none := h
    rw [this]; rfl
  | some x =>
    have : kvs.find? (fun kv => decide (kv.1 = k)) = some x := h
    rw [this]; rfl
theorem dputF_enc (ve : β → D) (kvs : List (α × β)) (k : α) (v : β) : dputF (dencF ve kvs) k (ve v) = dencF ve (dputF kvs k v) := by
  unfold dputF dencF
  rw [List.any_map]
  have e : (kvs.any ((fun kv : α × D => decide (kv.1 = k)) ∘ fun kv : α × β => (kv.1, ve kv.2))) = kvs.any (fun kv => decide (kv.1 = k)) := rfl
  rw [e]
  split
  · rw [List.map_map, List.map_map]
    refine List.map_congr_left fun x hx => ?_
    simp only [Function.comp]
    split <;> rfl
  · simp
theorem keysF_enc (ve : β → D) (kvs : List (α × β)) : keysF (dencF ve kvs) = keysF kvs := by unfold keysF dencF; rw [List.map_map]; rfl
theorem dvalF_some {kvs : List (α × β)} {k : α} : (dvalF kvs k).isSome = true ↔ k ∈ keysF kvs := by
  unfold dvalF keysF
  rw [Option.isSome_map, List.find?_isSome]
  simp only [List.mem_map, decide_eq_true_eq]
end
/-- a kind of keys -/
class DKey {α : Type} [DecidableEq α] (e : α → D) where
  obj : List (α × D) → DO
  lk : List (α × D) → HO → DO
  look : ∀ (H : DHp) (p : Addr) (kvs : List (α × D)) (k : α) (K : Option D → Prop), (H p = some (obj kvs) ∨ ∃ u, H p = some (lk kvs u)) → K (dvalF kvs k) → lookD H (.ref p) (e k) K
  store : ∀ (H : DHp) (p : Addr) (kvs : List (α × D)) (k : α) (v : D) (K : DHp → Prop), H p = some (obj kvs) → kvs.length < sizeLine → K (dupd H p (obj (dputF kvs k v))) → storeD H (.ref p) (e k) v K
  lock : ∀ (H : DHp) (p : Addr) (kvs : List (α × D)) (t : DE) (τ : DSt) (Q : DK), H p = some (obj kvs) → (∀ u, t τ (dupd H p (lk kvs u)) fun v H' => H' p = some (lk kvs u) ∧ Q v (dupd H' p (obj kvs))) → dLockE t τ H Q
  lockS : ∀ (H : DHp) (p : Addr) (kvs : List (α × D)) (t : DS) (τ : DSt) (E : DEnds), H p = some (obj kvs) → (∀ u, t ⟨fun τ' H' => H' p = some (lk kvs u) ∧ E.nx τ' (dupd H' p (obj kvs)), fun v H' => H' p = some (lk kvs u) ∧ E.rt v (dupd H' p (obj kvs)), fun τ' H' => H' p = some (lk kvs u) ∧ E.bk τ' (dupd H' p (obj kvs)), fun τ' H' => H' p = some (lk kvs u) ∧ E.ct τ' (dupd H' p (obj kvs))⟩ τ (dupd H p (lk kvs u))) → dLockS t E τ H
  keys : ∀ (H : DHp) (p : Addr) (kvs : List (α × D)) (u : HO) (te : DE) (τ : DSt), H p = some (lk kvs u) → Ev te τ H (.ref p) → EvI (dIKeys te) τ H ((keysF kvs).map e) (fun H' => H' p = some (lk kvs u))
  obj_ne : ∀ kvs, obj kvs ≠ .src
theorem find_map_key {α κ : Type} [DecidableEq α] [DecidableEq κ] (f : α → κ) (hf : ∀ a b, f a = f b → a = b) (kvs : List (α × D)) (k : α) : dval (kvs.map fun kv => (f kv.1, kv.2)) (f k) = dvalF kvs k := by
  unfold dval dvalF
  induction kvs with
  | nil => rfl
  | cons x r ih =>
    simp only [List.map_cons, List.find?_cons]
    by_cases h : x.1 = k
    · simp only [h, decide_true, Option.map_some]
    · have h2 : ¬ f x.1 = f k := fun e => h (hf _ _ e)
      simp only [h, h2, decide_false]
      exact ih
theorem put_map_key {α κ : Type} [DecidableEq α] [DecidableEq κ] (f : α → κ) (hf : ∀ a b, f a = f b → a = b) (kvs : List (α × D)) (k : α) (v : D) : dput (kvs.map fun kv => (f kv.1, kv.2)) (f k) v = (dputF kvs k v).map fun kv => (f kv.1, kv.2) := by
  unfold dput dputF
  rw [List.any_map]
  have e : (kvs.any ((fun kv : κ × D => decide (kv.1 = f k)) ∘ fun kv : α × D => (f kv.1, kv.2))) = kvs.any (fun kv => decide (kv.1 = k)) := by
    congr 1
    funext x
    simp only [Function.comp]
    exact decide_eq_decide.mpr ⟨fun h => hf _ _ h, fun h => by rw [h]⟩
  rw [e]
  split
  · rw [List.map_map, List.map_map]
    refine List.map_congr_left fun x hx => ?_
    simp only [Function.comp]
    by_cases h : x.1 = k
    · rw [if_pos h, if_pos (by rw [h])]
    · rw [if_neg h, if_neg (fun e => h (hf _ _ e))]
  · simp
theorem mapM_keyD : ∀ ns : List Int, (ns.map D.int).mapM keyD = some (ns.map (Sum.inl : Int → Key))
  | [] => rfl
  | n :: ns => by simp [List.mapM_cons, keyD, mapM_keyD ns]
instance dkI : DKey eI where
  obj kvs := .dK (kvs.map fun kv => (.inl kv.1, kv.2))
  lk kvs u := .lkK (kvs.map fun kv => (.inl kv.1, kv.2)) u
  look H p kvs k K h q := by
    have e := find_map_key (fun i : Int => (Sum.inl i : Key)) (fun a b h => by injection h) kvs k
    rw [lookD_e]
    rcases h with h | ⟨u, h⟩ <;> (simp only [h, keyD]; rw [e]; exact q)
  store H p kvs k v K h hl q := by
    rw [storeD_e]
    simp only [h, keyD, List.length_map]
    exact ⟨hl, by rw [put_map_key (fun i : Int => (Sum.inl i : Key)) (fun a b h => by injection h)]; exact q⟩
  lock H p kvs t τ Q h q := ⟨p, .inl ⟨_, h, q⟩⟩
  lockS H p kvs t τ E h q := ⟨p, .inl ⟨_, h, q⟩⟩
  keys H p kvs u te τ h he := ⟨h, fun R r => he _ (by
    simp only [h]
    have e : (kvs.map fun kv => ((Sum.inl kv.1 : Key), kv.2)).map (fun kv => keyDv kv.1) = (keysF kvs).map eI := by unfold keysF; rw [List.map_map, List.map_map]; rfl
    rw [e]
    exact r)⟩
  obj_ne _ := by simp
theorem keyT_tup {ds : List D} : keyT (.tup ds) = ds.mapM keyD := rfl
instance dkR : DKey eR where
  obj kvs := .dT (kvs.map fun kv => ([.inl kv.1.1, .inl kv.1.2], kv.2))
  lk kvs u := .lkT (kvs.map fun kv => ([.inl kv.1.1, .inl kv.1.2], kv.2)) u
  look H p kvs k K h q := by
    have e := find_map_key (fun p : Int × Int => [(Sum.inl p.1 : Key), .inl p.2]) (fun a b h => by injection h with h1 h2; injection h2 with h2 _; injection h1 with h1; injection h2 with h2; exact Prod.ext h1 h2) kvs k
    have ek : keyT (eR k) = some [.inl k.1, .inl k.2] := rfl
    rw [lookD_e]
    rcases h with h | ⟨u, h⟩ <;> (simp only [h, ek]; rw [e]; exact q)
  store H p kvs k v K h hl q := by
    have ek : keyT (eR k) = some [.inl k.1, .inl k.2] := rfl
    rw [storeD_e]
    simp only [h, ek, List.length_map]
    exact ⟨hl, by rw [put_map_key (fun p : Int × Int => [(Sum.inl p.1 : Key), .inl p.2]) (fun a b h => by injection h with h1 h2; injection h2 with h2 _; injection h1 with h1; injection h2 with h2; exact Prod.ext h1 h2)]; exact q⟩
  lock H p kvs t τ Q h q := ⟨p, .inr ⟨_, h, q⟩⟩
  lockS H p kvs t τ E h q := ⟨p, .inr ⟨_, h, q⟩⟩
  keys H p kvs u te τ h he := ⟨h, fun R r => he _ (by
    simp only [h]
    have e : (kvs.map fun kv => ([(Sum.inl kv.1.1 : Key), .inl kv.1.2], kv.2)).map (fun kv => D.tup (kv.1.map keyDv)) = (keysF kvs).map eR := by unfold keysF; rw [List.map_map, List.map_map]; rfl
    rw [e]
    exact r)⟩
  obj_ne _ := by simp
theorem mapInl_inj : ∀ {a b : List Int}, a.map (Sum.inl : Int → Key) = b.map Sum.inl → a = b
  | [], [], _ => rfl
  | [], _ :: _, h => by cases h
  | _ :: _, [], h => by cases h
  | x :: a, y :: b, h => by
    simp only [List.map_cons, List.cons.injEq, Sum.inl.injEq] at h
    rw [h.1, mapInl_inj h.2]
instance dkT : DKey (eT eI) where
  obj kvs := .dT (kvs.map fun kv => (kv.1.map Sum.inl, kv.2))
  lk kvs u := .lkT (kvs.map fun kv => (kv.1.map Sum.inl, kv.2)) u
  look H p kvs k K h q := by
    have e := find_map_key (fun p : List Int => p.map (Sum.inl : Int → Key)) (fun a b h => mapInl_inj h) kvs k
    have ek : keyT (eT eI k) = some (k.map Sum.inl) := mapM_keyD k
    rw [lookD_e]
    rcases h with h | ⟨u, h⟩ <;> (simp only [h, ek]; rw [e]; exact q)
  store H p kvs k v K h hl q := by
    have ek : keyT (eT eI k) = some (k.map Sum.inl) := mapM_keyD k
    rw [storeD_e]
    simp only [h, ek, List.length_map]
    exact ⟨hl, by rw [put_map_key (fun p : List Int => p.map (Sum.inl : Int → Key)) (fun a b h => mapInl_inj h)]; exact q⟩
  lock H p kvs t τ Q h q := ⟨p, .inr ⟨_, h, q⟩⟩
  lockS H p kvs t τ E h q := ⟨p, .inr ⟨_, h, q⟩⟩
  keys H p kvs u te τ h he := ⟨h, fun R r => he _ (by
    simp only [h]
    have e : (kvs.map fun kv => (kv.1.map (Sum.inl : Int → Key), kv.2)).map (fun kv => D.tup (kv.1.map keyDv)) = (keysF kvs).map (eT eI) := by
      unfold keysF
      rw [List.map_map, List.map_map]
      refine List.map_congr_left fun x hx => ?_
      simp only [Function.comp, eT, List.map_map]
      congr 1
    rw [e]
    exact r)⟩
  obj_ne _ := by simp
/-- a dict by its keys' kind and its values' -/
def oD {α β : Type} [DecidableEq α] (e : α → D) [g : DKey e] (ve : β → D) (kvs : List (α × β)) : DO := g.obj (dencF ve kvs)
/-- the dict stands at p, perhaps locked -/
def DictAt {α β : Type} [DecidableEq α] (e : α → D) [g : DKey e] (ve : β → D) (H : DHp) (p : Addr) (kvs : List (α × β)) : Prop := H p = some (oD e ve kvs) ∨ ∃ u, H p = some (g.lk (dencF ve kvs) u)
section
variable {τ : DSt} {H : DHp} {E : DEnds} {u : DS}
variable {α β : Type} [DecidableEq α] {e : α → D} [g : DKey e] {ve : β → D} {kvs : List (α × β)} {p : Addr} {td ty : DE} {k : α}
theorem ev_dget [Inhabited β] (hd : Ev td τ H (.ref p)) (hp : DictAt e ve H p kvs) (hk : Ev ty τ H (e k)) (hs : (dvalF kvs k).isSome = true) : Ev (dGet td ty) τ H (ve ((dvalF kvs k).getD default)) := fun Q q => hd _ (hk _ (g.look H p (dencF ve kvs) k _ hp (by
  rw [dvalF_enc]
  cases h : dvalF kvs k with
  | none => rw [h] at hs; cases hs
  | some v => rw [h] at q; exact q)))
theorem ev_din (hk : Ev ty τ H (e k)) (hd : Ev td τ H (.ref p)) (hp : DictAt e ve H p kvs) : Ev (dIn false ty td) τ H (.bl (decide (k ∈ keysF kvs))) := fun Q q => hk _ (hd _ (g.look H p (dencF ve kvs) k _ hp (by
  rw [dvalF_enc, Option.isSome_map]
  have : (dvalF kvs k).isSome = decide (k ∈ keysF kvs) := by
    rw [Bool.eq_iff_iff, dvalF_some, decide_eq_true_eq]
  rw [this]
  exact q)))
theorem ev_dnin (hk : Ev ty τ H (e k)) (hd : Ev td τ H (.ref p)) (hp : DictAt e ve H p kvs) : Ev (dIn true ty td) τ H (.bl (!decide (k ∈ keysF kvs))) := fun Q q => hk _ (hd _ (g.look H p (dencF ve kvs) k _ hp (by
  rw [dvalF_enc, Option.isSome_map]
  have : (dvalF kvs k).isSome = decide (k ∈ keysF kvs) := by
    rw [Bool.eq_iff_iff, dvalF_some, decide_eq_true_eq]
  rw [this]
  exact q)))
theorem n_stD {v : β} {K : DHp → Prop} (hp : H p = some (oD e ve kvs)) (hl : kvs.length < sizeLine) (h : ∀ H', H' p = some (oD e ve (dputF kvs k v)) → (∀ b, b ≠ p → H' b = H b) → K H') : storeD H (.ref p) (e k) (ve v) K :=
  g.store H p (dencF ve kvs) k (ve v) K hp (by unfold dencF; rw [List.length_map]; exact hl) (h _ (by rw [dupd_same, dputF_enc]; rfl) fun b hb => dupd_ne hb)
theorem dupd_back {H H' : DHp} {p : Addr} {x y : DO} (h : H p = some x) (hf : ∀ b, b ≠ p → H' b = H b) : dupd H' p x = H := by
  funext b
  by_cases hb : b = p
  · subst hb; rw [dupd_same, h]
  · rw [dupd_ne hb, hf b hb]
/-- a comprehension over a dict -/
theorem ev_lcD {γ : Type} {i : Nat} {gg : DG} {tt : DT} {te : DE} {vs : List Nat} (e' : γ → D) (P : α → Bool) (f : α → γ) (bnd : α → DSt) (hv : (dwipe τ vs)[i]? = some (some (.ref p)) ∧ τ[i]? = some (some (.ref p))) (hp : H p = some (oD e ve kvs)) (hl : kvs.length ≤ sizeLine)
    (hg : ∀ x H1, Gv gg (e x) (dwipe τ vs) H1 (bnd x))
    (ht : ∀ H1, DictAt e ve H1 p kvs → (∀ b, b ≠ p → H1 b = H b) → ∀ x ∈ keysF kvs, EvT tt (bnd x) H1 (P x))
    (hb : ∀ H1, DictAt e ve H1 p kvs → (∀ b, b ≠ p → H1 b = H b) → ∀ x ∈ keysF kvs, P x = true → Ev te (bnd x) H1 (e' (f x))) :
    Ev (dLockE (dLc false (dIKeys (dVar i)) gg tt te vs)) τ H (eL e' (((keysF kvs).filter P).map f)) := fun Q q => g.lock H p (dencF ve kvs) _ τ Q hp fun u => by
  have hd : DictAt e ve (dupd H p (g.lk (dencF ve kvs) u)) p kvs := .inr ⟨u, dupd_same⟩
  have hf : ∀ b, b ≠ p → dupd H p (g.lk (dencF ve kvs) u) b = H b := fun b hb => dupd_ne hb
  have hi := g.keys (dupd H p (g.lk (dencF ve kvs) u)) p (dencF ve kvs) u (dVar i) τ dupd_same (ev_var hv.2)
  rw [keysF_enc] at hi
  refine ev_lc (H := dupd H p (g.lk (dencF ve kvs) u)) e e' (keysF kvs) P f bnd ⟨_, hi⟩ (by unfold keysF; rw [List.length_map]; exact hl) (fun x => hg x _) (ht _ hd hf) (hb _ hd hf) _ ⟨dupd_same, ?_⟩
  rw [dupd_dupd]
  have e1 : dupd H p (g.obj (dencF ve kvs)) = H := dupd_back (y := .src) hp fun b hb => rfl
  rw [e1]
  exact q
theorem s_newDK {i : Nat} (ve : β → D) (k : ∀ p H', H p = none → H' p = some (oD eI ve []) → (∀ b, b ≠ p → H' b = H b) → u E (τ.set i (some (.ref p))) H') : dSeq (dAsg dNewK (gN i)) u E τ H := fun p hp => k p _ hp dupd_same dupd_fr
theorem s_newDR {i : Nat} (ve : β → D) (k : ∀ p H', H p = none → H' p = some (oD eR ve []) → (∀ b, b ≠ p → H' b = H b) → u E (τ.set i (some (.ref p))) H') : dSeq (dAsg dNewT (gN i)) u E τ H := fun p hp => k p _ hp dupd_same dupd_fr
theorem s_newDT {i : Nat} (ve : β → D) (k : ∀ p H', H p = none → H' p = some (oD (eT eI) ve []) → (∀ b, b ≠ p → H' b = H b) → u E (τ.set i (some (.ref p))) H') : dSeq (dAsg dNewT (gN i)) u E τ H := fun p hp => k p _ hp dupd_same dupd_fr
theorem x_newDK {K : DK} (ve : β → D) (k : ∀ p H', H p = none → H' p = some (oD eI ve []) → (∀ b, b ≠ p → H' b = H b) → K (.ref p) H') : dNewK τ H K := fun p hp => k p _ hp dupd_same dupd_fr
theorem x_newDR {K : DK} (ve : β → D) (k : ∀ p H', H p = none → H' p = some (oD eR ve []) → (∀ b, b ≠ p → H' b = H b) → K (.ref p) H') : dNewT τ H K := fun p hp => k p _ hp dupd_same dupd_fr
theorem x_newDT {K : DK} (ve : β → D) (k : ∀ p H', H p = none → H' p = some (oD (eT eI) ve []) → (∀ b, b ≠ p → H' b = H b) → K (.ref p) H') : dNewT τ H K := fun p hp => k p _ hp dupd_same dupd_fr
/-- written keys, whole numbers -/
def pairsE (ve : β → D) : List (DE × DE) → List (Int × β) → DSt → DHp → Prop
  | [], [], _, _ => True
  | t :: ts, x :: xs, τ, H => (∀ H1, (∀ b o, H b = some o → H1 b = some o) → Ev t.1 τ H1 (.int x.1) ∧ Ev t.2 τ H1 (ve x.2)) ∧ pairsE ve ts xs τ H
  | _, _, _, _ => False
theorem pairs_run (ve : β → D) : ∀ (ts : List (DE × DE)) (xs : List (Int × β)) (H H1 : DHp) (R : List (D × D) → DHp → Prop), pairsE ve ts xs τ H → (∀ b o, H b = some o → H1 b = some o) → R (xs.map fun x => (.int x.1, ve x.2)) H1 → dPairs ts τ H1 R
  | [], [], _, _, _, _, _, r => r
  | t :: ts, x :: xs, H, H1, R, h, hs, r => by
    obtain ⟨h1, h2⟩ := h
    obtain ⟨a, b⟩ := h1 H1 hs
    exact a _ (b _ (pairs_run ve ts xs H H1 _ h2 hs r))
  | [], _ :: _, _, _, _, h, _, _ => h.elim
  | _ :: _, [], _, _, _, h, _, _ => h.elim
theorem keysOf_int (ve : β → D) : ∀ xs : List (Int × β), keysOf (xs.map fun x => ((.int x.1 : D), ve x.2)) = some (xs.map fun x => ((Sum.inl x.1 : Key), ve x.2))
  | [] => rfl
  | x :: xs => by
    simp only [List.map_cons, keysOf, keyD, keysOf_int ve xs]
    rfl
theorem x_disp {K : DK} (ve : β → D) (ts : List (DE × DE)) (xs : List (Int × β)) (h : pairsE ve ts xs τ H) (hn : (keysF xs).Nodup) (hl : xs.length ≤ 15) (k : ∀ p H', H p = none → H' p = some (oD eI ve xs) → (∀ b, b ≠ p → H' b = H b) → K (.ref p) H') : dDisp ts τ H K := by
  intro p hp
  refine pairs_run ve ts xs H _ _ h (fun b o e => by rw [dupd_ne (fun z => by subst z; rw [hp] at e; cases e)]; exact e) ⟨dupd_same, ?_⟩
  rw [keysOf_int]
  refine ⟨?_, by rw [List.length_map]; exact hl, ?_⟩
  · have e1 : (xs.map fun x => ((Sum.inl x.1 : Key), ve x.2)).map (·.1) = (keysF xs).map (Sum.inl : Int → Key) := by unfold keysF; rw [List.map_map, List.map_map]; rfl
    rw [e1]
    exact List.pairwise_map.mpr (hn.imp fun h z => h (by injection z))
  · rw [dupd_dupd]
    refine k p _ hp ?_ dupd_fr
    rw [dupd_same]
    unfold oD dencF
    show some (DO.dK _) = some (DO.dK _)
    rw [List.map_map]
    rfl
theorem s_newX {i : Nat} {te : DE} (h : te τ H fun d H1 => u E (τ.set i (some d)) H1) : dSeq (dAsg te (gN i)) u E τ H := h
/-- a copy -/
theorem c_dictI {K : DK} {ve : β → D} {kvs : List (Int × β)} (hp : H p = some (oD eI ve kvs)) (k : ∀ q H', H q = none → H' q = some (oD eI ve kvs) → (∀ b, b ≠ q → H' b = H b) → K (.ref q) H') : rDictC [.ref p] H K := by
  show (match H p with | some (.dK kvs) => _ | some (.dT kvs) => _ | _ => False)
  rw [hp]
  exact fun q hq => k q _ hq dupd_same dupd_fr
theorem c_dictR {K : DK} {ve : β → D} {kvs : List ((Int × Int) × β)} (hp : H p = some (oD eR ve kvs)) (hh : HashApart ((keysF kvs).map fun k => [.inl k.1, .inl k.2])) (k : ∀ q H', H q = none → H' q = some (oD eR ve kvs) → (∀ b, b ≠ q → H' b = H b) → K (.ref q) H') : rDictC [.ref p] H K := by
  show (match H p with | some (.dK kvs) => _ | some (.dT kvs) => _ | _ => False)
  rw [hp]
  refine ⟨?_, fun q hq => k q _ hq dupd_same dupd_fr⟩
  have e : ((dencF ve kvs).map (fun kv => (([.inl kv.1.1, .inl kv.1.2] : List Key), kv.2))).map (·.1) = (keysF kvs).map fun k => ([.inl k.1, .inl k.2] : List Key) := by
    unfold dencF keysF
    rw [List.map_map, List.map_map, List.map_map]
    rfl
  show HashApart (((dencF ve kvs).map (fun kv => (([.inl kv.1.1, .inl kv.1.2] : List Key), kv.2))).map (·.1))
  rw [e]
  exact hh
theorem s_newDisp {i : Nat} (ve : β → D) (ts : List (DE × DE)) (xs : List (Int × β)) (h : pairsE ve ts xs τ H) (hn : (keysF xs).Nodup) (hl : xs.length ≤ 15) (k : ∀ p H', H p = none → H' p = some (oD eI ve xs) → (∀ b, b ≠ p → H' b = H b) → u E (τ.set i (some (.ref p))) H') : dSeq (dAsg (dDisp ts) (gN i)) u E τ H := x_disp (K := fun d H1 => u E (τ.set i (some d)) H1) ve ts xs h hn hl k
/-- what a new dict is told as -/
def RPd (e : α → D) [DKey e] (ve : β → D) (DH : DHp) : List (α × β) → D → DHp → Prop := fun r d H => ∃ q, d = .ref q ∧ H q = some (oD e ve r) ∧ DSub DH H ∧ DH q = none
def RPo (e : α → D) [DKey e] (ve : β → D) (DH : DHp) : Option (List (α × β)) → D → DHp → Prop
  | none, d, H => d = .non ∧ DSub DH H
  | some r, d, H => RPd e ve DH r d H
theorem rpd {R : Type} {RP : R → D → DHp → Prop} {Q : DK} {m : R} (h : ∀ d H, RP m d H → Q d H) : Tk (fun r => ∀ d H, RP r d H → (bodyE Q).rt d H) m := fun d H hr => ⟨H, DSub.refl _, h d H hr⟩
def onO {α β : Type} (o : Option α) (a : β) (f : α → β) : β := match o with
  | none => a
  | some x => f x
theorem onO_cases {α R : Type} {F : R → Prop} {o : Option α} {a : R} {f : α → R} {P : Prop} (hq : Tk F (onO o a f)) (h1 : o = none → Tk F a → P) (h2 : ∀ x, o = some x → Tk F (f x) → P) : P := by
  cases o with
  | none => exact h1 rfl hq
  | some x => exact h2 x rfl hq
theorem s_retX {te : DE} (h : te τ H E.rt) : dSeq (dRet te) u E τ H := h
theorem s_skipR {P : Prop} (h : P) : P := h
end
end DL

local macro_rules
  | `(tactic| unfold dd $ls*) => `(tactic| try simp only [↓DL.dVar_e, ↓DL.dC_e, ↓DL.dOp_e, ↓DL.dUn_e, ↓DL.dB_e, ↓DL.dChain_e, ↓DL.dAnd_e, ↓DL.dOr_e, ↓DL.dNot_e, ↓DL.dAndV_e, ↓DL.dOrV_e, ↓DL.dNotV_e, ↓DL.dIf_e, ↓DL.dNil_e, ↓DL.dCons_e, ↓DL.dTup_e, ↓DL.dLst_e, ↓DL.dCB_e, ↓DL.dNext_e, ↓DL.dSeq_e, ↓DL.dCont_e, ↓DL.dBreak_e, ↓DL.dDrop_e, ↓DL.dRet_e, ↓DL.dRetN_e, ↓DL.dIfS_e, ↓DL.gN_e, ↓DL.gNilD_e, ↓DL.gConsD_e, ↓DL.gT_e, ↓DL.dAsg_e, ↓DL.dPar_e, ↓DL.dPar3_e, ↓DL.dYes_e, ↓DL.dISeq_e, ↓DL.dIRg1_e, ↓DL.dIRg2_e, ↓DL.dIEnum_e, ↓DL.dIZip_e, ↓DL.rIntD_e, ↓DL.rNegD_e, ↓DL.rEq_intF, ↓DL.rEq_intT, ↓DL.rAddD_e, ↓DL.rMulD_e, ↓DL.rIxD_e, ↓DL.rI1_e, ↓DL.rI2_e, ↓DL.rIntCD_e, ↓DL.rSumD_e, ↓DL.rAllD_e, ↓DL.rIsiD_e, ↓DL.rLenD_e, ↓DL.rTupD_e, ↓DL.rLstD_e, ↓DL.rIsN_e, ↓DL.rSlD_e, ↓DL.dSl_e, ↓DL.dNoPart_e, ↓DL.dPart_e, ↓DL.dRev_e, ↓DL.dGet_e, ↓DL.dIn_e, ↓DL.dStore_e, ↓DL.dBM0_e, ↓DL.dBM_e, ↓DL.dDisp_e, ↓DL.mAppend_e, ↓DL.mPop_e, ↓DL.dNewK_e, ↓DL.dNewT_e, ↓DL.dLstM_e, ↓DL.dFrz_e, ↓DL.rReprD_e, ↓DL.rNeS_e, ↓DL.rEqS_e, ↓DL.asB_e, ↓DL.walkD_e, ↓DL.lookD_e, ↓DL.storeD_e, ↓DL.ofTy_e, ↓DL.onLst_e, DL.bodyE, DL.dstart, DL.dPairs, DL.dwipe, DL.keysOf, DL.keyD, DL.isNon, DL.peek_int, DL.peek_bl, DL.peek_non, DL.peek_str, DL.peek_tup, DL.peek_lst, DL.seqOf_tup, DL.seqOf_lst, DL.listOf_lst, DL.tyOf, DL.isTy, DL.atI0, DL.atI1, DL.atI2, DL.atI3, DL.atI4, DL.atI5, DL.dupd_same, DL.dupd_dupd, List.map_cons, List.map_nil, List.length_cons, List.length_nil, List.cons_append, List.nil_append, List.replicate_succ, List.replicate_zero, Nat.reduceAdd, Nat.reduceSub, Nat.zero_add, List.getElem?_cons_zero, List.getElem?_cons_succ, List.set_cons_zero, List.set_cons_succ, true_and, and_true, Int.toNat_natCast, if_true, if_false, Bool.false_eq_true, reduceCtorEq, ne_eq, not_false_eq_true, not_true_eq_false, decide_eq_true_eq, Bool.not_eq_true', decide_eq_false_iff_not, Option.bind_some, Option.map_some, $[$ls:term],*])
local macro_rules
  | `(tactic| unfold d2 $ls*) => `(tactic| try simp only [↓DL.dFor_e, ↓DL.dLc_e, ↓DL.dVar_e, ↓DL.dC_e, ↓DL.dOp_e, ↓DL.dUn_e, ↓DL.dB_e, ↓DL.dChain_e, ↓DL.dAnd_e, ↓DL.dOr_e, ↓DL.dNot_e, ↓DL.dAndV_e, ↓DL.dOrV_e, ↓DL.dNotV_e, ↓DL.dIf_e, ↓DL.dNil_e, ↓DL.dCons_e, ↓DL.dTup_e, ↓DL.dLst_e, ↓DL.dCB_e, ↓DL.dNext_e, ↓DL.dSeq_e, ↓DL.dCont_e, ↓DL.dBreak_e, ↓DL.dDrop_e, ↓DL.dRet_e, ↓DL.dRetN_e, ↓DL.dIfS_e, ↓DL.gN_e, ↓DL.gNilD_e, ↓DL.gConsD_e, ↓DL.gT_e, ↓DL.dAsg_e, ↓DL.dPar_e, ↓DL.dPar3_e, ↓DL.dYes_e, ↓DL.dISeq_e, ↓DL.dIRg1_e, ↓DL.dIRg2_e, ↓DL.dIEnum_e, ↓DL.dIZip_e, ↓DL.rIntD_e, ↓DL.rNegD_e, ↓DL.rEq_intF, ↓DL.rEq_intT, ↓DL.rAddD_e, ↓DL.rMulD_e, ↓DL.rIxD_e, ↓DL.rI1_e, ↓DL.rI2_e, ↓DL.rIntCD_e, ↓DL.rSumD_e, ↓DL.rAllD_e, ↓DL.rIsiD_e, ↓DL.rLenD_e, ↓DL.rTupD_e, ↓DL.rLstD_e, ↓DL.rIsN_e, ↓DL.rSlD_e, ↓DL.dSl_e, ↓DL.dNoPart_e, ↓DL.dPart_e, ↓DL.dRev_e, ↓DL.dGet_e, ↓DL.dIn_e, ↓DL.dStore_e, ↓DL.dBM0_e, ↓DL.dBM_e, ↓DL.dDisp_e, ↓DL.mAppend_e, ↓DL.mPop_e, ↓DL.dNewK_e, ↓DL.dNewT_e, ↓DL.dLstM_e, ↓DL.dFrz_e, ↓DL.rReprD_e, ↓DL.rNeS_e, ↓DL.rEqS_e, ↓DL.asB_e, ↓DL.walkD_e, ↓DL.lookD_e, ↓DL.storeD_e, ↓DL.ofTy_e, ↓DL.onLst_e, DL.bodyE, DL.dstart, DL.dPairs, DL.dwipe, DL.keysOf, DL.keyD, DL.isNon, DL.peek_int, DL.peek_bl, DL.peek_non, DL.peek_str, DL.peek_tup, DL.peek_lst, DL.seqOf_tup, DL.seqOf_lst, DL.listOf_lst, DL.tyOf, DL.isTy, DL.atI0, DL.atI1, DL.atI2, DL.atI3, DL.atI4, DL.atI5, DL.dupd_same, DL.dupd_dupd, List.map_cons, List.map_nil, List.length_cons, List.length_nil, List.cons_append, List.nil_append, List.replicate_succ, List.replicate_zero, Nat.reduceAdd, Nat.reduceSub, Nat.zero_add, List.getElem?_cons_zero, List.getElem?_cons_succ, List.set_cons_zero, List.set_cons_succ, true_and, and_true, Int.toNat_natCast, if_true, if_false, Bool.false_eq_true, reduceCtorEq, ne_eq, not_false_eq_true, not_true_eq_false, decide_eq_true_eq, Bool.not_eq_true', decide_eq_false_iff_not, Option.bind_some, Option.map_some, $[$ls:term],*])
local macro_rules
  | `(tactic| unfold d3 $ls*) => `(tactic| try simp only [↓DL.dLstRg1_e, ↓DL.dLstRg2_e, ↓DL.rSortD_e, ↓DL.rMaxL_e, ↓DL.rMinL_e, ↓DL.tell_F, ↓DL.tell_T, DL.ints_map, DL.bls_map, DL.pairs_map, ↓DL.dFor_e, ↓DL.dLc_e, ↓DL.dVar_e, ↓DL.dC_e, ↓DL.dOp_e, ↓DL.dUn_e, ↓DL.dB_e, ↓DL.dChain_e, ↓DL.dAnd_e, ↓DL.dOr_e, ↓DL.dNot_e, ↓DL.dAndV_e, ↓DL.dOrV_e, ↓DL.dNotV_e, ↓DL.dIf_e, ↓DL.dNil_e, ↓DL.dCons_e, ↓DL.dTup_e, ↓DL.dLst_e, ↓DL.dCB_e, ↓DL.dNext_e, ↓DL.dSeq_e, ↓DL.dCont_e, ↓DL.dBreak_e, ↓DL.dDrop_e, ↓DL.dRet_e, ↓DL.dRetN_e, ↓DL.dIfS_e, ↓DL.gN_e, ↓DL.gNilD_e, ↓DL.gConsD_e, ↓DL.gT_e, ↓DL.dAsg_e, ↓DL.dPar_e, ↓DL.dPar3_e, ↓DL.dYes_e, ↓DL.dISeq_e, ↓DL.dIRg1_e, ↓DL.dIRg2_e, ↓DL.dIEnum_e, ↓DL.dIZip_e, ↓DL.rIntD_e, ↓DL.rNegD_e, ↓DL.rEq_intF, ↓DL.rEq_intT, ↓DL.rAddD_e, ↓DL.rMulD_e, ↓DL.rIxD_e, ↓DL.rI1_e, ↓DL.rI2_e, ↓DL.rIntCD_e, ↓DL.rSumD_e, ↓DL.rAllD_e, ↓DL.rIsiD_e, ↓DL.rLenD_e, ↓DL.rTupD_e, ↓DL.rLstD_e, ↓DL.rIsN_e, ↓DL.rSlD_e, ↓DL.dSl_e, ↓DL.dNoPart_e, ↓DL.dPart_e, ↓DL.dRev_e, ↓DL.dGet_e, ↓DL.dIn_e, ↓DL.dStore_e, ↓DL.dBM0_e, ↓DL.dBM_e, ↓DL.dDisp_e, ↓DL.mAppend_e, ↓DL.mPop_e, ↓DL.dNewK_e, ↓DL.dNewT_e, ↓DL.dLstM_e, ↓DL.dFrz_e, ↓DL.rReprD_e, ↓DL.rNeS_e, ↓DL.rEqS_e, ↓DL.asB_e, ↓DL.walkD_e, ↓DL.lookD_e, ↓DL.storeD_e, ↓DL.ofTy_e, ↓DL.onLst_e, DL.bodyE, DL.dstart, DL.dPairs, DL.dwipe, DL.keysOf, DL.keyD, DL.isNon, DL.peek_int, DL.peek_bl, DL.peek_non, DL.peek_str, DL.peek_tup, DL.peek_lst, DL.seqOf_tup, DL.seqOf_lst, DL.listOf_lst, DL.tyOf, DL.isTy, DL.atI0, DL.atI1, DL.atI2, DL.atI3, DL.atI4, DL.atI5, DL.dupd_same, DL.dupd_dupd, List.map_cons, List.map_nil, List.length_cons, List.length_nil, List.cons_append, List.nil_append, List.replicate_succ, List.replicate_zero, Nat.reduceAdd, Nat.reduceSub, Nat.zero_add, List.getElem?_cons_zero, List.getElem?_cons_succ, List.set_cons_zero, List.set_cons_succ, true_and, and_true, Int.toNat_natCast, if_true, if_false, Bool.false_eq_true, reduceCtorEq, ne_eq, not_false_eq_true, not_true_eq_false, decide_eq_true_eq, Bool.not_eq_true', decide_eq_false_iff_not, Option.bind_some, Option.map_some, $[$ls:term],*])
/-! SH5: things in a drawn order (SH4 without k03's own facts). -/
namespace DL
open PySem PySem.Spec PyProof.Rows L2
def sp_law_mixed : DSp := fun ds DH Q => ∃ a d xs, ds = [.ref a, d] ∧ DH a = some .src ∧ seqOf DH d = some xs ∧ xs.length ≤ 1000000 ∧ ∀ ys : List D, ys.Perm xs → Q (.lst ys) DH
/-! ### _law_mixed -/
def rd_law_mixed : DS :=
  (dSeq (dAsg (dCB (rLstD true) (dCons (dVar 1) dNil)) (gN 2))
    (dRet (dLc false (dIRg1 (dCons (dCB rLenD (dCons (dVar 2) dNil)) dNil)) (gN 3) dYes (dBM "list" mPop (dVar 2) (dCons (dCB sp_law_pick (dCons (dVar 0) (dCons (dCB rLenD (dCons (dVar 2) dNil)) dNil))) dNil)) [3])))
theorem perm_out {zs acc xs : List D} {j : Nat} {z : D} (h : (acc ++ zs).Perm xs) (hz : zs[j]? = some z) : ((acc ++ [z]) ++ zs.eraseIdx j).Perm xs := by
  have hj : j < zs.length := (List.getElem?_eq_some_iff.mp hz).1
  have e : zs[j] = z := (List.getElem?_eq_some_iff.mp hz).2
  have p : (z :: zs.eraseIdx j).Perm zs := by
    have e3 : zs = zs.take j ++ z :: zs.drop (j + 1) := by rw [← e, ← List.drop_eq_getElem_cons hj, List.take_append_drop]
    rw [List.eraseIdx_eq_take_drop_succ]
    exact (List.perm_middle.symm).trans (List.Perm.of_eq e3.symm)
  rw [List.append_assoc]
  exact ((List.Perm.refl acc).append p).trans h
theorem law_mixed_ok {ds : List D} {DH : DHp} {Q : DK} (h : sp_law_mixed ds DH Q) : rd_law_mixed (bodyE Q) (dstart ["source", "things", "rest", "lap"] ds) DH := by
  obtain ⟨a, d, xs, rfl, ha, hd, hl, h⟩ := h
  unfold rd_law_mixed
  unfold d3 hd
  intro p hp
  have ap : a ≠ p := fun z => by subst z; rw [hp] at ha; cases ha
  have pk : ∀ zs : List D, peek (dupd DH p (.lst zs)) (.ref p) = .lst zs := fun zs => peek_ref dupd_same
  unfold d3 pk rgD_length
  refine ⟨by omega, size_leM (by omega), comp_inv (fun rem acc H => ∃ zs, H = dupd DH p (.lst zs) ∧ (acc ++ zs).Perm xs ∧ rem.length = zs.length) ?_ ?_ _ _ _ ⟨xs, rfl, by simp, by rw [rgD_length]⟩⟩
  · rintro acc H ⟨zs, rfl, h1, h2⟩
    have : zs = [] := List.eq_nil_of_length_eq_zero h2.symm
    subst this
    rw [List.append_nil] at h1
    exact ⟨trivial, _, (DSub.refl _).new hp, h acc h1⟩
  · rintro x r acc H ⟨zs, rfl, h1, h2⟩
    have hz : 0 < zs.length := by rw [← h2]; simp
    have lz : zs.length ≤ 1000000 := by
      have := h1.length_eq
      rw [List.length_append] at this
      omega
    refine ⟨trivial, fun Q2 Z q z => ?_⟩
    unfold d3 pk
    refine ⟨a, _, rfl, by rw [dupd_ne ap]; exact ha, by omega, fun k k0 k1 => ?_⟩
    obtain ⟨k, rfl⟩ := Int.eq_ofNat_of_zero_le k0
    have hk : k < zs.length := by omega
    have e1 : ixN zs.length ((k : Nat) : Int) = some k := by unfold ixN; rw [if_pos (by omega), if_pos (by omega)]; simp
    have e2 : zs[k]? = some zs[k] := List.getElem?_eq_getElem hk
    unfold d3 e1 e2
    refine ⟨⟨by omega, by omega⟩, q _ _ ⟨zs.eraseIdx k, rfl, perm_out h1 e2, ?_⟩⟩
    rw [List.length_eraseIdx_of_lt hk]
    simp only [List.length_cons] at h2
    omega
end DL

/-! TL5: things in a drawn order. -/
namespace DL
open PySem PySem.Spec PyProof.Rows L2
section
variable {H : DHp} {K : DK}
theorem perm_map {α : Type} {e : α → D} {xs : List α} {ys : List D} (h : ys.Perm (xs.map e)) : ∃ zs : List α, ys = zs.map e ∧ zs.Perm xs := by
  have key : ∀ {as bs : List D}, as.Perm bs → ∀ xs : List α, bs = xs.map e → ∃ zs : List α, as = zs.map e ∧ zs.Perm xs := by
    intro as bs h
    induction h with
    | nil => intro xs hx; exact ⟨[], rfl, by cases xs with | nil => exact .nil | cons x xs => cases hx⟩
    | cons x _ ih =>
      intro xs hx
      cases xs with
      | nil => cases hx
      | cons y xs =>
        simp only [List.map_cons, List.cons.injEq] at hx
        obtain ⟨zs, e1, p⟩ := ih xs hx.2
        exact ⟨y :: zs, by rw [List.map_cons, e1, hx.1], p.cons y⟩
    | swap x y l =>
      intro xs hx
      match xs, hx with
      | [], hx => cases hx
      | [_], hx => simp at hx
      | u :: v :: xs, hx =>
        simp only [List.map_cons, List.cons.injEq] at hx
        exact ⟨v :: u :: xs, by rw [List.map_cons, List.map_cons, hx.1, hx.2.1, hx.2.2], .swap u v xs⟩
    | trans _ _ ih1 ih2 =>
      intro xs hx
      obtain ⟨zs, e1, p⟩ := ih2 xs hx
      obtain ⟨ws, e2, p2⟩ := ih1 zs e1
      exact ⟨ws, e2, p2.trans p⟩
  exact key h xs rfl
theorem call_mixed {α : Type} {e : α → D} {a : Addr} {d : D} (ha : H a = some .src) (xs : List α) (sd : seqOf H d = some (xs.map e)) (h : xs.length ≤ 1000000) (k : ∀ r : List α, r.Perm xs → K (eL e r) H) : sp_law_mixed [.ref a, d] H K :=
  ⟨a, d, xs.map e, rfl, ha, sd, by rw [List.length_map]; exact h, fun ys hy => by
    obtain ⟨zs, rfl, p⟩ := perm_map hy
    exact k zs p⟩
end
end DL

/-! LAM: free rods by counts: tight lots, exchange. No program here.
A lot is told by a predicate on the joints 0 .. n - 1. -/
namespace LAM
open DL
abbrev Rod := Int × Int
def cnt (n : Int) (p : Int → Bool) : Nat := ((rng 0 n).filter p).length
def inn (p : Int → Bool) (r : Rod) : Bool := p r.1 && p r.2
def ins (F : List Rod) (p : Int → Bool) : Nat := (F.filter (inn p)).length
def Free (n : Int) (F : List Rod) : Prop := ∀ p : Int → Bool, 2 ≤ cnt n p → ins F p + 3 ≤ 2 * cnt n p
def Tight (n : Int) (F : List Rod) (p : Int → Bool) : Prop := 2 ≤ cnt n p ∧ ins F p + 3 = 2 * cnt n p
def por (p q : Int → Bool) : Int → Bool := fun x => p x || q x
def pand (p q : Int → Bool) : Int → Bool := fun x => p x && q x
/-- a rod of the frame: its joints are there, the first less -/
def RodOk (n : Int) (r : Rod) : Prop := 0 ≤ r.1 ∧ r.1 < r.2 ∧ r.2 < n
theorem len_modular {α : Type} (p q : α → Bool) : ∀ l : List α, (l.filter fun x => p x && q x).length + (l.filter fun x => p x || q x).length = (l.filter p).length + (l.filter q).length
  | [] => rfl
  | x :: l => by
    have ih := len_modular p q l
    simp only [List.filter_cons]
    cases p x <;> cases q x <;> simp <;> omega
theorem cnt_modular (n : Int) (p q : Int → Bool) : cnt n (pand p q) + cnt n (por p q) = cnt n p + cnt n q := len_modular p q (rng 0 n)
theorem ins_cons (F : List Rod) (r : Rod) (p : Int → Bool) : ins (r :: F) p = ins F p + (if inn p r = true then 1 else 0) := by
  unfold ins
  rw [List.filter_cons]
  split <;> simp
theorem ins_super (F : List Rod) (p q : Int → Bool) : ins F p + ins F q ≤ ins F (pand p q) + ins F (por p q) := by
  induction F with
  | nil => exact Nat.le_refl _
  | cons r F ih =>
    rw [ins_cons, ins_cons, ins_cons, ins_cons]
    have h : (if inn p r = true then 1 else 0) + (if inn q r = true then 1 else 0) ≤ (if inn (pand p q) r = true then 1 else 0) + (if inn (por p q) r = true then 1 else 0) := by
      unfold inn pand por
      rcases Bool.eq_false_or_eq_true (p r.1) with h1 | h1 <;> rcases Bool.eq_false_or_eq_true (p r.2) with h2 | h2 <;> rcases Bool.eq_false_or_eq_true (q r.1) with h3 | h3 <;> rcases Bool.eq_false_or_eq_true (q r.2) with h4 | h4 <;> simp [h1, h2, h3, h4]
    omega
theorem len_mono {α : Type} {p q : α → Bool} (h : ∀ x, p x = true → q x = true) : ∀ l : List α, (l.filter p).length ≤ (l.filter q).length
  | [] => Nat.le_refl _
  | x :: l => by
    have ih := len_mono h l
    simp only [List.filter_cons]
    cases hp : p x with
    | true => rw [h x hp]; simp; omega
    | false => cases hq : q x <;> simp <;> omega
theorem cnt_mono {n : Int} {p q : Int → Bool} (h : ∀ x, p x = true → q x = true) : cnt n p ≤ cnt n q := len_mono h _
theorem ins_mono {F : List Rod} {p q : Int → Bool} (h : ∀ x, p x = true → q x = true) : ins F p ≤ ins F q := len_mono (fun r hr => by
  unfold inn at *
  simp only [Bool.and_eq_true] at *
  exact ⟨h _ hr.1, h _ hr.2⟩) _
theorem tight_join {n : Int} {F : List Rod} {p q : Int → Bool} (hF : Free n F) (hp : Tight n F p) (hq : Tight n F q) (h2 : 2 ≤ cnt n (pand p q)) : Tight n F (pand p q) ∧ Tight n F (por p q) := by
  have m := cnt_modular n p q
  have s := ins_super F p q
  have f1 := hF _ h2
  have h3 : 2 ≤ cnt n (por p q) := Nat.le_trans hp.1 (cnt_mono fun x h => by unfold por; rw [h]; rfl)
  have f2 := hF _ h3
  obtain ⟨p1, p2⟩ := hp
  obtain ⟨q1, q2⟩ := hq
  exact ⟨⟨h2, by omega⟩, ⟨h3, by omega⟩⟩
/-- two joints count two -/
theorem rng_nodup (a b : Int) : (rng a b).Nodup := by
  unfold rng
  exact List.pairwise_map.mpr (List.nodup_range.imp fun h e => h (by omega))
theorem cnt_two {n : Int} {p : Int → Bool} {a b : Int} (ha : 0 ≤ a ∧ a < n) (hb : 0 ≤ b ∧ b < n) (hab : a ≠ b) (pa : p a = true) (pb : p b = true) : 2 ≤ cnt n p := by
  unfold cnt
  have h1 : a ∈ (rng 0 n).filter p := List.mem_filter.mpr ⟨mem_rng.mpr ha, pa⟩
  have h2 : b ∈ (rng 0 n).filter p := List.mem_filter.mpr ⟨mem_rng.mpr hb, pb⟩
  generalize (rng 0 n).filter p = l at h1 h2
  match l, h1, h2 with
  | [x], h1, h2 =>
    simp only [List.mem_singleton] at h1 h2
    exact absurd (h1.trans h2.symm) hab
  | x :: y :: l, _, _ => simp
theorem cnt_rod {n : Int} {p : Int → Bool} {r : Rod} (hr : RodOk n r) (h : inn p r = true) : 2 ≤ cnt n p := by
  unfold inn at h
  simp only [Bool.and_eq_true] at h
  exact cnt_two (a := r.1) (b := r.2) ⟨hr.1, by have := hr.2; omega⟩ ⟨by have := hr.1; have := hr.2; omega, hr.2.2⟩ (by have := hr.2.1; omega) h.1 h.2
theorem ins_app (F G : List Rod) (p : Int → Bool) : ins (F ++ G) p = ins F p + ins G p := by unfold ins; rw [List.filter_append, List.length_append]
theorem ins_perm {F G : List Rod} (h : F.Perm G) (p : Int → Bool) : ins F p = ins G p := (h.filter _).length_eq
theorem free_perm {n : Int} {F G : List Rod} (h : F.Perm G) (hF : Free n F) : Free n G := fun p hp => by rw [← ins_perm h]; exact hF p hp
theorem ins_sub {F G : List Rod} (h : F.Sublist G) (p : Int → Bool) : ins F p ≤ ins G p := (h.filter _).length_le
theorem free_sub {n : Int} {F G : List Rod} (h : F.Sublist G) (hG : Free n G) : Free n F := fun p hp => by have := hG p hp; have := ins_sub h p; omega
theorem free_nil (n : Int) : Free n [] := fun p hp => by unfold ins; simp; omega
/-- one rod more: free just if no tight lot has both its joints -/
theorem free_cons {n : Int} {F : List Rod} {r : Rod} (hF : Free n F) (hr : RodOk n r) : Free n (r :: F) ↔ ∀ p, Tight n F p → inn p r = false := by
  constructor
  · intro h p hp
    cases q : inn p r with
    | false => rfl
    | true =>
      have := h p hp.1
      rw [ins_cons, if_pos q] at this
      have := hp.2
      omega
  · intro h p hp
    rw [ins_cons]
    have := hF p hp
    by_cases q : inn p r = true
    · rw [if_pos q]
      by_cases e : ins F p + 3 = 2 * cnt n p
      · rw [h p ⟨hp, e⟩] at q; cases q
      · omega
    · rw [if_neg q]; omega
theorem free_snoc {n : Int} {F : List Rod} {r : Rod} (hF : Free n F) (hr : RodOk n r) : Free n (F ++ [r]) ↔ ∀ p, Tight n F p → inn p r = false := by
  have hp : (r :: F).Perm (F ++ [r]) := (List.perm_append_singleton r F).symm
  rw [← free_cons hF hr]
  exact ⟨free_perm hp.symm, free_perm hp⟩
/-- a rod that comes twice is not free -/
theorem free_nodup {n : Int} {F : List Rod} (hF : Free n F) (ho : ∀ r ∈ F, RodOk n r) : F.Nodup := by
  induction F with
  | nil => exact List.nodup_nil
  | cons r F ih =>
    refine List.nodup_cons.mpr ⟨fun hm => ?_, ih (free_sub (List.sublist_cons_self _ _) hF) fun x hx => ho x (by simp [hx])⟩
    have hr := ho r (by simp)
    have hpr : inn (fun x => decide (x = r.1) || decide (x = r.2)) r = true := by unfold inn; simp
    have h2 := cnt_rod hr hpr
    have h3 : cnt n (fun x => decide (x = r.1) || decide (x = r.2)) ≤ 2 := by
      have m := len_modular (fun x : Int => decide (x = r.1)) (fun x => decide (x = r.2)) (rng 0 n)
      have one : ∀ y : Int, ((rng 0 n).filter fun x => decide (x = y)).length ≤ 1 := fun y => by
        have : ∀ l : List Int, l.Nodup → (l.filter fun x => decide (x = y)).length ≤ 1 := by
          intro l hl
          induction l with
          | nil => exact Nat.zero_le _
          | cons z l ih =>
            have h := List.nodup_cons.mp hl
            rw [List.filter_cons]
            by_cases e : z = y
            · subst e
              have e0 : (l.filter fun x => decide (x = z)) = [] := List.filter_eq_nil_iff.mpr fun x hx => by simp; rintro rfl; exact h.1 hx
              simp [e0]
            · simp only [e, decide_false, Bool.false_eq_true, if_false]
              exact ih h.2
        exact this _ (rng_nodup 0 n)
      have := one r.1
      have := one r.2
      unfold cnt
      omega
    have hf := hF _ h2
    rw [ins_cons, if_pos hpr] at hf
    have : 1 ≤ ins F (fun x => decide (x = r.1) || decide (x = r.2)) := by
      unfold ins
      exact List.length_pos_iff.mpr (fun e => by
        have : r ∈ F.filter (inn fun x => decide (x = r.1) || decide (x = r.2)) := List.mem_filter.mpr ⟨hm, hpr⟩
        rw [e] at this; cases this)
    omega
/-! ### the greatest tight lots -/
def agree (n : Int) (p q : Int → Bool) : Prop := ∀ x, 0 ≤ x → x < n → p x = q x
def sub (n : Int) (p q : Int → Bool) : Prop := ∀ x, 0 ≤ x → x < n → p x = true → q x = true
theorem filter_congr {α : Type} {p q : α → Bool} : ∀ {l : List α}, (∀ x ∈ l, p x = q x) → l.filter p = l.filter q
  | [], _ => rfl
  | x :: l, h => by
    rw [List.filter_cons, List.filter_cons, h x (by simp), filter_congr fun y hy => h y (by simp [hy])]
theorem cnt_agree {n : Int} {p q : Int → Bool} (h : agree n p q) : cnt n p = cnt n q := by
  unfold cnt
  rw [filter_congr fun x hx => by have := mem_rng.mp hx; exact h x this.1 this.2]
theorem ins_agree {n : Int} {F : List Rod} (ho : ∀ r ∈ F, RodOk n r) {p q : Int → Bool} (h : agree n p q) : ins F p = ins F q := by
  unfold ins
  have e : F.filter (inn p) = F.filter (inn q) := filter_congr fun r hr => by
    obtain ⟨h1, h2, h3⟩ := ho r hr
    unfold inn
    rw [h r.1 h1 (by omega), h r.2 (by omega) h3]
  rw [e]
theorem tight_agree {n : Int} {F : List Rod} (ho : ∀ r ∈ F, RodOk n r) {p q : Int → Bool} (h : agree n p q) (t : Tight n F p) : Tight n F q := ⟨by rw [← cnt_agree h]; exact t.1, by rw [← cnt_agree h, ← ins_agree ho h]; exact t.2⟩
/-- within, and as many: alike -/
theorem sub_eq {n : Int} {p q : Int → Bool} (h : sub n p q) (hc : cnt n q ≤ cnt n p) : agree n p q := by
  intro x hx0 hx1
  cases hq : q x with
  | false =>
    cases hp : p x with
    | false => rfl
    | true => rw [h x hx0 hx1 hp] at hq; cases hq
  | true =>
    cases hp : p x with
    | true => rfl
    | false =>
      exfalso
      have key : ∀ l : List Int, (∀ y ∈ l, p y = true → q y = true) → x ∈ l → (l.filter p).length < (l.filter q).length := by
        intro l
        induction l with
        | nil => intro _ h; cases h
        | cons y l ih =>
          intro hl hm
          have mono : (l.filter p).length ≤ (l.filter q).length := by
            have : ∀ l : List Int, (∀ y ∈ l, p y = true → q y = true) → (l.filter p).length ≤ (l.filter q).length := by
              intro l
              induction l with
              | nil => intro _; exact Nat.le_refl _
              | cons z l ih =>
                intro hl
                have i := ih fun y hy => hl y (by simp [hy])
                rw [List.filter_cons, List.filter_cons]
                cases pz : p z with
                | true => rw [hl z (by simp) pz]; simp; omega
                | false => cases q z <;> simp <;> omega
            exact this l fun y hy => hl y (by simp [hy])
          rw [List.filter_cons, List.filter_cons]
          rcases List.mem_cons.mp hm with rfl | hm
          · rw [hp, hq]; simp; omega
          · have i := ih (fun y hy => hl y (by simp [hy])) hm
            cases py : p y with
            | true => rw [hl y (by simp) py]; simp; omega
            | false => cases q y <;> simp <;> omega
      have := key (rng 0 n) (fun y hy => h y (mem_rng.mp hy).1 (mem_rng.mp hy).2) (mem_rng.mpr ⟨hx0, hx1⟩)
      unfold cnt at hc
      omega
/-- a tight lot that no other one has within it -/
def Great (n : Int) (F : List Rod) (p : Int → Bool) : Prop := Tight n F p ∧ ∀ q, Tight n F q → sub n p q → agree n p q
theorem great_above {n : Int} {F : List Rod} {p : Int → Bool} (t : Tight n F p) : ∃ q, Great n F q ∧ sub n p q := by
  have key : ∀ (k : Nat) (p : Int → Bool), Tight n F p → (rng 0 n).length - cnt n p < k → ∃ q, Great n F q ∧ sub n p q := by
    intro k
    induction k with
    | zero => intro p _ h; omega
    | succ k ih =>
      intro p t h
      by_cases hg : ∀ q, Tight n F q → sub n p q → agree n p q
      · exact ⟨p, ⟨t, hg⟩, fun x _ _ h => h⟩
      · simp only [Classical.not_forall] at hg
        obtain ⟨q, tq, sq, nq⟩ := hg
        have lt : cnt n p < cnt n q := Nat.lt_of_not_le fun hle => nq (sub_eq sq hle)
        have le : cnt n q ≤ (rng 0 n).length := by unfold cnt; exact List.length_filter_le _ _
        obtain ⟨g, hg, sg⟩ := ih q tq (by omega)
        exact ⟨g, hg, fun x x0 x1 hx => sg x x0 x1 (sq x x0 x1 hx)⟩
  exact key _ p t (Nat.lt_succ_self _)
/-- two greatest ones that share two joints are one -/
theorem great_one {n : Int} {F : List Rod} {p q : Int → Bool} (hF : Free n F) (hp : Great n F p) (hq : Great n F q) (h2 : 2 ≤ cnt n (pand p q)) : agree n p q := by
  obtain ⟨_, t⟩ := tight_join hF hp.1 hq.1 h2
  have e1 := hp.2 _ t (fun x _ _ h => by unfold por; rw [h]; rfl)
  have e2 := hq.2 _ t (fun x _ _ h => by unfold por; rw [h]; simp)
  intro x x0 x1
  rw [e1 x x0 x1, ← e2 x x0 x1]
theorem great_rod {n : Int} {F : List Rod} {p q : Int → Bool} {r : Rod} (hF : Free n F) (hr : RodOk n r) (hp : Great n F p) (hq : Great n F q) (h1 : inn p r = true) (h2 : inn q r = true) : agree n p q := by
  refine great_one hF hp hq (cnt_rod hr ?_)
  unfold inn pand at *
  simp only [Bool.and_eq_true] at *
  exact ⟨⟨h1.1, h2.1⟩, h1.2, h2.2⟩
/-- a rod of free ones makes its own tight lot -/
theorem tight_rod {n : Int} {F : List Rod} {r : Rod} (hF : Free n F) (ho : ∀ r ∈ F, RodOk n r) (hm : r ∈ F) : ∃ p, Tight n F p ∧ inn p r = true := by
  have hr := ho r hm
  refine ⟨fun x => decide (x = r.1) || decide (x = r.2), ?_, by unfold inn; simp⟩
  have hpr : inn (fun x => decide (x = r.1) || decide (x = r.2)) r = true := by unfold inn; simp
  have h2 := cnt_rod hr hpr
  have hf := hF _ h2
  have h1 : 1 ≤ ins F (fun x => decide (x = r.1) || decide (x = r.2)) := by
    unfold ins
    exact List.length_pos_iff.mpr (fun e => by
      have : r ∈ F.filter (inn fun x => decide (x = r.1) || decide (x = r.2)) := List.mem_filter.mpr ⟨hm, hpr⟩
      rw [e] at this; cases this)
  have h3 : cnt n (fun x => decide (x = r.1) || decide (x = r.2)) ≤ 2 := by
    have one : ∀ y : Int, ((rng 0 n).filter fun x => decide (x = y)).length ≤ 1 := fun y => by
      have : ∀ l : List Int, l.Nodup → (l.filter fun x => decide (x = y)).length ≤ 1 := by
        intro l hl
        induction l with
        | nil => exact Nat.zero_le _
        | cons z l ih =>
          have h := List.nodup_cons.mp hl
          rw [List.filter_cons]
          by_cases e : z = y
          · subst e
            have e0 : (l.filter fun x => decide (x = z)) = [] := List.filter_eq_nil_iff.mpr fun x hx => by simp; rintro rfl; exact h.1 hx
            simp [e0]
          · simp only [e, decide_false, Bool.false_eq_true, if_false]
            exact ih h.2
      exact this _ (rng_nodup 0 n)
    have m := len_modular (fun x : Int => decide (x = r.1)) (fun x => decide (x = r.2)) (rng 0 n)
    have := one r.1
    have := one r.2
    unfold cnt
    omega
  exact ⟨h2, by omega⟩
end LAM

/-! LAM2: exchange of free rods, greedy choices. No program here. -/
namespace LAM
open DL
/-- no rod lies within two of them -/
def Apart (n : Int) (p q : Int → Bool) : Prop := ∀ r, RodOk n r → inn p r = true → inn q r = true → False
def anyIn (gs : List (Int → Bool)) (r : Rod) : Bool := gs.any fun g => inn g r
theorem filter_or {α : Type} {p q : α → Bool} : ∀ {l : List α}, (∀ x ∈ l, p x = true → q x = true → False) → (l.filter fun x => p x || q x).length = (l.filter p).length + (l.filter q).length
  | [], _ => rfl
  | x :: l, h => by
    have ih := filter_or (l := l) fun y hy => h y (by simp [hy])
    have hx := h x (by simp)
    simp only [List.filter_cons]
    cases hp : p x <;> cases hq : q x <;> simp [hp, hq] at hx ⊢ <;> omega
theorem greats_le {n : Int} {I G : List Rod} (hG : Free n G) (oI : ∀ r ∈ I, RodOk n r) (oG : ∀ r ∈ G, RodOk n r) : ∀ gs : List (Int → Bool), (∀ g ∈ gs, Tight n I g) → gs.Pairwise (Apart n) → (G.filter (anyIn gs)).length ≤ (I.filter (anyIn gs)).length
  | [], _, _ => by
    have e : anyIn [] = fun _ => false := rfl
    rw [e, List.filter_eq_nil_iff.mpr (fun _ _ h => by cases h)]
    exact Nat.zero_le _
  | g :: gs, ht, hp => by
    obtain ⟨h1, h2⟩ := List.pairwise_cons.mp hp
    have ih := greats_le hG oI oG gs (fun x hx => ht x (by simp [hx])) h2
    have dis : ∀ r, RodOk n r → inn g r = true → anyIn gs r = true → False := fun r hr a b => by
      unfold anyIn at b
      obtain ⟨q, hq, b⟩ := List.any_eq_true.mp b
      exact h1 q hq r hr a b
    have e : anyIn (g :: gs) = fun r => inn g r || anyIn gs r := by funext r; unfold anyIn; simp
    rw [e, filter_or (fun r hr => dis r (oG r hr)), filter_or (fun r hr => dis r (oI r hr))]
    have t := ht g (by simp)
    have f := hG g t.1
    have t2 := t.2
    unfold ins at f t2
    omega
theorem greats_eq {n : Int} {I : List Rod} (oI : ∀ r ∈ I, RodOk n r) : ∀ gs : List (Int → Bool), (∀ g ∈ gs, Tight n I g) → gs.Pairwise (Apart n) → (I.filter (anyIn gs)).length + 3 * gs.length = (gs.map fun g => 2 * cnt n g).sum
  | [], _, _ => by unfold anyIn; simp
  | g :: gs, ht, hp => by
    obtain ⟨h1, h2⟩ := List.pairwise_cons.mp hp
    have ih := greats_eq oI gs (fun x hx => ht x (by simp [hx])) h2
    have dis : ∀ r, RodOk n r → inn g r = true → anyIn gs r = true → False := fun r hr a b => by
      unfold anyIn at b
      obtain ⟨q, hq, b⟩ := List.any_eq_true.mp b
      exact h1 q hq r hr a b
    have e : anyIn (g :: gs) = fun r => inn g r || anyIn gs r := by funext r; unfold anyIn; simp
    rw [e, filter_or (fun r hr => dis r (oI r hr))]
    have t2 := (ht g (by simp)).2
    unfold ins at t2
    simp only [List.map_cons, List.sum_cons, List.length_cons]
    omega
theorem greats_cover {n : Int} {I : List Rod} (hI : Free n I) (oI : ∀ r ∈ I, RodOk n r) : ∀ G : List Rod, (∀ r ∈ G, RodOk n r) → (∀ r ∈ G, ∃ p, Tight n I p ∧ inn p r = true) → ∃ gs : List (Int → Bool), (∀ g ∈ gs, Great n I g) ∧ gs.Pairwise (Apart n) ∧ ∀ r ∈ G, anyIn gs r = true
  | [], _, _ => ⟨[], by simp, .nil, by simp⟩
  | r :: G, oG, h => by
    obtain ⟨gs, g1, g2, g3⟩ := greats_cover hI oI G (fun x hx => oG x (by simp [hx])) fun x hx => h x (by simp [hx])
    cases hc : anyIn gs r with
    | true => exact ⟨gs, g1, g2, fun x hx => by rcases List.mem_cons.mp hx with rfl | hx; exact hc; exact g3 x hx⟩
    | false =>
      obtain ⟨p, tp, ip⟩ := h r (by simp)
      obtain ⟨q, hq, sq⟩ := great_above tp
      have hr := oG r (by simp)
      have iq : inn q r = true := by
        unfold inn at ip ⊢
        simp only [Bool.and_eq_true] at ip ⊢
        exact ⟨sq _ hr.1 (by have := hr.2.1; have := hr.2.2; omega) ip.1, sq _ (by have := hr.1; have := hr.2.1; omega) hr.2.2 ip.2⟩
      refine ⟨q :: gs, fun g hg => ?_, List.pairwise_cons.mpr ⟨fun g hg s hs a b => ?_, g2⟩, fun x hx => ?_⟩
      · rcases List.mem_cons.mp hg with rfl | hg
        · exact hq
        · exact g1 g hg
      · have ag := great_rod hI hs hq (g1 g hg) a b
        have : inn g r = true := by
          unfold inn at iq ⊢
          rw [← ag r.1 hr.1 (by have := hr.2.1; have := hr.2.2; omega), ← ag r.2 (by have := hr.1; have := hr.2.1; omega) hr.2.2]
          exact iq
        have : anyIn gs r = true := List.any_eq_true.mpr ⟨g, hg, this⟩
        rw [hc] at this; cases this
      · unfold anyIn
        simp only [List.any_cons, Bool.or_eq_true]
        rcases List.mem_cons.mp hx with rfl | hx
        · exact .inl iq
        · exact .inr (g3 x hx)
/-- as many rods as the others, or one may be taken over -/
theorem augment {n : Int} {I J : List Rod} (hI : Free n I) (hJ : Free n J) (oI : ∀ r ∈ I, RodOk n r) (oJ : ∀ r ∈ J, RodOk n r) (hl : I.length < J.length) : ∃ e ∈ J, e ∉ I ∧ Free n (e :: I) := by
  apply Classical.byContradiction
  intro hn
  have hall : ∀ r ∈ J, ∃ p, Tight n I p ∧ inn p r = true := fun r hr => by
    by_cases hm : r ∈ I
    · exact tight_rod hI oI hm
    · apply Classical.byContradiction
      intro hp
      refine hn ⟨r, hr, hm, (free_cons hI (oJ r hr)).mpr fun p tp => ?_⟩
      cases q : inn p r with
      | false => rfl
      | true => exact absurd ⟨p, tp, q⟩ hp
  obtain ⟨gs, g1, g2, g3⟩ := greats_cover hI oI J oJ hall
  have h1 := greats_le hJ oI oJ gs (fun g hg => (g1 g hg).1) g2
  rw [List.filter_eq_self.mpr g3] at h1
  have h2 := List.length_filter_le (anyIn gs) I
  omega
/-- of the rods R: free, and no further one may be taken -/
structure Base (n : Int) (R B : List Rod) : Prop where
  free : Free n B
  sub : ∀ r ∈ B, r ∈ R
  full : ∀ r ∈ R, r ∈ B ∨ ¬ Free n (r :: B)
theorem base_le {n : Int} {R S B C : List Rod} (oR : ∀ r ∈ R, RodOk n r) (b : Base n R B) (hC : Free n C) (hs : ∀ r ∈ C, r ∈ R) : C.length ≤ B.length := by
  apply Nat.le_of_not_lt
  intro hl
  obtain ⟨e, he, h1, h2⟩ := augment b.free hC (fun r hr => oR r (b.sub r hr)) (fun r hr => oR r (hs r hr)) hl
  rcases b.full e (hs e he) with h | h
  · exact h1 h
  · exact h h2
theorem base_len {n : Int} {R S B C : List Rod} (oR : ∀ r ∈ R, RodOk n r) (b : Base n R B) (c : Base n S C) (h : ∀ r, r ∈ R ↔ r ∈ S) : B.length = C.length :=
  Nat.le_antisymm (base_le (S := S) (R := S) (fun r hr => oR r ((h r).mpr hr)) c b.free fun r hr => (h r).mp (b.sub r hr)) (base_le (S := S) oR b c.free fun r hr => (h r).mpr (c.sub r hr))
/-! ### one by one -/
open Classical in
noncomputable def greedy (n : Int) : List Rod → List Rod → List Rod
  | acc, [] => acc
  | acc, r :: rs => if r ∉ acc ∧ Free n (r :: acc) then greedy n (acc ++ [r]) rs else greedy n acc rs
theorem free_append_singleton {n : Int} {F : List Rod} {r : Rod} : Free n (F ++ [r]) ↔ Free n (r :: F) := ⟨free_perm (List.perm_append_singleton r F), free_perm (List.perm_append_singleton r F).symm⟩
theorem greedy_sub (n : Int) : ∀ (rs acc : List Rod), acc.Sublist (greedy n acc rs) ∧ ∃ t, greedy n acc rs = acc ++ t ∧ t.Sublist rs
  | [], acc => ⟨List.Sublist.refl _, [], by simp [greedy], List.Sublist.refl _⟩
  | r :: rs, acc => by
    unfold greedy
    split
    · obtain ⟨h1, t, h2, h3⟩ := greedy_sub n rs (acc ++ [r])
      refine ⟨(List.sublist_append_left _ _).trans h1, r :: t, by rw [h2, List.append_assoc]; rfl, h3.cons₂ r⟩
    · obtain ⟨h1, t, h2, h3⟩ := greedy_sub n rs acc
      exact ⟨h1, t, h2, h3.cons r⟩
theorem greedy_free {n : Int} : ∀ (rs acc : List Rod), Free n acc → Free n (greedy n acc rs)
  | [], acc, h => h
  | r :: rs, acc, h => by
    unfold greedy
    split
    · rename_i hc; exact greedy_free rs _ (free_append_singleton.mpr hc.2)
    · exact greedy_free rs _ h
theorem free_more {n : Int} {F G : List Rod} {r : Rod} (h : F.Sublist G) (hG : Free n (r :: G)) : Free n (r :: F) := free_sub (h.cons₂ r) hG
theorem greedy_full {n : Int} : ∀ (rs acc : List Rod), ∀ r ∈ rs, r ∈ greedy n acc rs ∨ ¬ Free n (r :: greedy n acc rs)
  | [], _, _, h => by cases h
  | x :: rs, acc, r, h => by
    unfold greedy
    rcases List.mem_cons.mp h with rfl | h
    · split
      · exact .inl ((greedy_sub n rs (acc ++ [r])).1.subset (by simp))
      · rename_i hc
        by_cases hm : r ∈ acc
        · exact .inl ((greedy_sub n rs acc).1.subset hm)
        · refine .inr fun hf => hc ⟨hm, free_more (greedy_sub n rs acc).1 hf⟩
    · split
      · exact greedy_full rs _ r h
      · exact greedy_full rs _ r h
theorem greedy_base {n : Int} (rs : List Rod) : Base n rs (greedy n [] rs) where
  free := greedy_free rs [] (free_nil n)
  sub r hr := by
    obtain ⟨_, t, h2, h3⟩ := greedy_sub n rs []
    rw [h2, List.nil_append] at hr
    exact h3.subset hr
  full := greedy_full rs []
/-- free ones are taken all -/
theorem greedy_all {n : Int} : ∀ (rs acc : List Rod), Free n (acc ++ rs) → (∀ r ∈ acc ++ rs, RodOk n r) → greedy n acc rs = acc ++ rs
  | [], acc, _, _ => by simp [greedy]
  | r :: rs, acc, h, ho => by
    have e : acc ++ r :: rs = (acc ++ [r]) ++ rs := by simp
    have h1 : Free n (r :: acc) := free_append_singleton.mp (free_sub (by rw [e]; exact List.sublist_append_left _ _) h)
    have h2 : r ∉ acc := (List.nodup_cons.mp (free_nodup h1 fun x hx => ho x (by
      rcases List.mem_cons.mp hx with rfl | hx
      · simp
      · simp [hx]))).1
    unfold greedy
    rw [if_pos ⟨h2, h1⟩, greedy_all rs (acc ++ [r]) (by rw [← e]; exact h) (by rw [← e]; exact ho), ← e]
open Classical in
theorem greedy_app (n : Int) : ∀ (xs ys acc : List Rod), greedy n acc (xs ++ ys) = greedy n (greedy n acc xs) ys
  | [], _, _ => rfl
  | x :: xs, ys, acc => by
    have e1 : ∀ zs : List Rod, greedy n acc (x :: zs) = if x ∉ acc ∧ Free n (x :: acc) then greedy n (acc ++ [x]) zs else greedy n acc zs := fun zs => rfl
    rw [List.cons_append, e1, e1]
    split
    · exact greedy_app n xs ys _
    · exact greedy_app n xs ys _
end LAM

/-! LAM3: joints that keep rods: a rod given on along a way. The models of the program's defs are used by their equations only. -/
namespace LAM
open DL
abbrev Keep := List (Rod × Int)
def kv (k : Keep) (r : Rod) : Int := (dvalF k r).getD default
/-- what a joint keeps -/
def kept (k : Keep) (x : Int) : List Rod := (keysF k).filter fun r => decide (kv k r = x)
def oth (r : Rod) (x : Int) : Int := r.1 + r.2 - x
structure KOk (n : Int) (k : Keep) : Prop where
  nd : (keysF k).Nodup
  rod : ∀ r ∈ keysF k, RodOk n r
  own : ∀ r ∈ keysF k, kv k r = r.1 ∨ kv k r = r.2
section
variable {α β : Type} [DecidableEq α]
theorem dvalF_put_same (k : List (α × β)) (r : α) (v : β) : dvalF (dputF k r v) r = some v := by
  unfold dvalF dputF
  split
  · rename_i h
    induction k with
    | nil => simp at h
    | cons x k ih =>
      simp only [List.map_cons, List.find?_cons]
      by_cases e : x.1 = r
      · simp [e]
      · simp only [e, if_false, decide_false]
        refine ih ?_
        simpa [e] using h
  · rename_i h
    rw [List.find?_append]
    have : k.find? (fun kv => decide (kv.1 = r)) = none := List.find?_eq_none.mpr fun x hx => by
      intro hc
      exact h (List.any_eq_true.mpr ⟨x, hx, hc⟩)
    rw [this]
    simp
theorem dvalF_put_ne (k : List (α × β)) {r s : α} (v : β) (h : s ≠ r) : dvalF (dputF k r v) s = dvalF k s := by
  unfold dvalF dputF
  split
  · induction k with
    | nil => rfl
    | cons x k ih =>
      rename_i hk
      simp only [List.map_cons, List.find?_cons]
      by_cases e : x.1 = r
      · have e2 : ¬ x.1 = s := fun z => h (z.symm.trans e)
        have e3 : ¬ r = s := fun z => h z.symm
        simp only [e, if_true, e3, decide_false]
        by_cases hk2 : k.any (fun kv => decide (kv.1 = r)) = true
        · exact ih hk2
        · have : k.map (fun kv => if kv.1 = r then (kv.1, v) else kv) = k := by
            conv => rhs; rw [← List.map_id k]
            refine List.map_congr_left fun y hy => ?_
            rw [if_neg (fun z => hk2 (List.any_eq_true.mpr ⟨y, hy, by simpa using z⟩))]
            rfl
          rw [this]
      · simp only [e, if_false]
        by_cases e2 : x.1 = s
        · simp [e2]
        · simp only [e2, decide_false]
          refine ih ?_
          simpa [e] using hk
  · rw [List.find?_append]
    cases q : k.find? (fun kv => decide (kv.1 = s)) with
    | some x => simp
    | none => simp [Ne.symm h]
theorem keysF_put (k : List (α × β)) (r : α) (v : β) : keysF (dputF k r v) = if r ∈ keysF k then keysF k else keysF k ++ [r] := by
  unfold keysF dputF
  by_cases h : k.any (fun kv => decide (kv.1 = r)) = true
  · rw [if_pos h, if_pos (by
      obtain ⟨x, hx, e⟩ := List.any_eq_true.mp h
      exact List.mem_map.mpr ⟨x, hx, by simpa using e⟩)]
    rw [List.map_map]
    refine List.map_congr_left fun x hx => ?_
    simp only [Function.comp]
    split <;> rfl
  · rw [if_neg h, if_neg (fun hm => by
      obtain ⟨x, hx, e⟩ := List.mem_map.mp hm
      exact h (List.any_eq_true.mpr ⟨x, hx, by simpa using e⟩))]
    simp
theorem dputF_new (k : List (α × β)) {r : α} (v : β) (h : r ∉ keysF k) : dputF k r v = k ++ [(r, v)] := by
  unfold dputF
  rw [if_neg (fun hc => by
    obtain ⟨x, hx, e⟩ := List.any_eq_true.mp hc
    exact h (List.mem_map.mpr ⟨x, hx, by simpa using e⟩))]
theorem dvalF_app (k : List (α × β)) {r s : α} (v : β) (h : s ∈ keysF k) : dvalF (k ++ [(r, v)]) s = dvalF k s := by
  unfold dvalF
  rw [List.find?_append]
  have := dvalF_some.mpr h
  unfold dvalF at this
  rw [Option.isSome_map] at this
  cases q : k.find? (fun kv => decide (kv.1 = s)) with
  | none => rw [q] at this; cases this
  | some x => simp
theorem dvalF_app_new (k : List (α × β)) {r : α} (v : β) (h : r ∉ keysF k) : dvalF (k ++ [(r, v)]) r = some v := by
  rw [← dputF_new k v h]; exact dvalF_put_same k r v
end
theorem keysF_app {α β : Type} (k : List (α × β)) (x : α × β) : keysF (k ++ [x]) = keysF k ++ [x.1] := by simp [keysF]
theorem keysF_len {α β : Type} (k : List (α × β)) : (keysF k).length = k.length := by simp [keysF]
def one (b : Bool) : Nat := if b = true then 1 else 0
/-- a rod is given to another joint -/
theorem kept_put {k : Keep} (hn : (keysF k).Nodup) {r : Rod} (hr : r ∈ keysF k) (v x : Int) : (kept (dputF k r v) x).length + one (decide (kv k r = x)) = (kept k x).length + one (decide (v = x)) := by
  unfold kept
  rw [keysF_put, if_pos hr]
  have hv : ∀ s, kv (dputF k r v) s = if s = r then v else kv k s := fun s => by
    unfold kv
    by_cases e : s = r
    · rw [if_pos e, e, dvalF_put_same]; rfl
    · rw [if_neg e, dvalF_put_ne k v e]
  have key : ∀ l : List Rod, l.Nodup → (l.filter fun s => decide (kv (dputF k r v) s = x)).length + (if r ∈ l then one (decide (kv k r = x)) else 0) = (l.filter fun s => decide (kv k s = x)).length + (if r ∈ l then one (decide (v = x)) else 0) := by
    intro l hl
    induction l with
    | nil => simp
    | cons s l ih =>
      obtain ⟨h1, h2⟩ := List.nodup_cons.mp hl
      have ih := ih h2
      simp only [List.filter_cons, hv] at ih ⊢
      by_cases e : s = r
      · subst e
        have hf : (l.filter fun t => decide ((if t = s then v else kv k t) = x)) = l.filter fun t => decide (kv k t = x) := filter_congr fun t ht => by
          have : t ≠ s := fun z => h1 (z ▸ ht)
          rw [if_neg this]
        have hm : s ∈ s :: l := List.mem_cons_self
        rw [hf, if_pos rfl, if_pos hm, if_pos hm]
        by_cases a : v = x <;> by_cases b : kv k s = x <;> simp [a, b, one]
      · have e2 : (r ∈ s :: l) = (r ∈ l) := by simp [Ne.symm e]
        simp only [e, if_false, e2]
        by_cases b : kv k s = x <;> simp [b] <;> omega
  have := key (keysF k) hn
  rw [if_pos hr, if_pos hr] at this
  exact this
theorem kok_put {n : Int} {k : Keep} (h : KOk n k) {r : Rod} (hr : r ∈ keysF k) {v : Int} (hv : v = r.1 ∨ v = r.2) : KOk n (dputF k r v) where
  nd := by rw [keysF_put, if_pos hr]; exact h.nd
  rod := by rw [keysF_put, if_pos hr]; exact h.rod
  own s hs := by
    rw [keysF_put, if_pos hr] at hs
    unfold kv
    by_cases e : s = r
    · subst e; rw [dvalF_put_same]; exact hv
    · rw [dvalF_put_ne k v e]; exact h.own s hs
/-! ### the ways -/
abbrev Ways := List (Int × Option (Int × Rod))
inductive WOk (k : Keep) (s b : Int) : Ways → Prop where
  | base : WOk k s b [(s, none), (b, none)]
  | snoc {W : Ways} {here there : Int} {rod : Rod} (h : WOk k s b W) (h1 : here ∈ keysF W) (h2 : here ≠ b) (h3 : rod ∈ keysF k) (h4 : kv k rod = here) (h5 : there ∉ keysF W) (h6 : there = oth rod here) : WOk k s b (W ++ [(there, some (here, rod))])
theorem WOk.keys {k : Keep} {s b : Int} {W : Ways} (h : WOk k s b W) : s ∈ keysF W ∧ b ∈ keysF W := by
  induction h with
  | base => simp [keysF]
  | snoc _ _ _ _ _ _ _ ih => rw [keysF_app]; exact ⟨List.mem_append_left _ ih.1, List.mem_append_left _ ih.2⟩
theorem WOk.nodup {k : Keep} {s b : Int} {W : Ways} (hsb : s ≠ b) (h : WOk k s b W) : (keysF W).Nodup := by
  induction h with
  | base => simp [keysF, hsb]
  | snoc _ _ _ _ _ h5 _ ih =>
    rw [keysF_app]
    refine List.nodup_append.mpr ⟨ih, by simp, fun a ha c hc e => ?_⟩
    simp only [List.mem_singleton] at hc
    exact h5 (hc ▸ e ▸ ha)
/-- the way back from a joint: what is kept behind it -/
inductive Chain (W : Ways) : Int → Keep → Keep → Prop where
  | stop {t : Int} {late : Keep} (h : dvalF W t = some none) : Chain W t late late
  | go {t here : Int} {rod : Rod} {late late' : Keep} (h : dvalF W t = some (some (here, rod))) (hr : rod ∈ keysF late) (c : Chain W here (dputF late rod t) late') : Chain W t late late'
theorem Chain.up {W : Ways} {t : Int} {late late' : Keep} {x : Int × Option (Int × Rod)} (c : Chain W t late late') : Chain (W ++ [x]) t late late' := by
  induction c with
  | stop h => exact .stop (by rw [dvalF_app _ _ (dvalF_some.mp (by rw [h]; rfl))]; exact h)
  | go h hr _ ih => exact .go (by rw [dvalF_app _ _ (dvalF_some.mp (by rw [h]; rfl))]; exact h) hr ih
theorem oth_oth {n : Int} {r : Rod} {x : Int} (hr : RodOk n r) (hx : x = r.1 ∨ x = r.2) : (oth r x = r.1 ∨ oth r x = r.2) ∧ oth r x ≠ x ∧ 0 ≤ oth r x ∧ oth r x < n := by
  unfold oth RodOk at *
  rcases hx with rfl | rfl <;> omega
theorem chain_of {n : Int} {k : Keep} {s b : Int} (hk : KOk n k) (hsb : s ≠ b) {W : Ways} (h : WOk k s b W) : ∀ t ∈ keysF W, t ≠ b → ∀ late : Keep, KOk n late → keysF late = keysF k → (∀ v h r, (v, some (h, r)) ∈ W → kv late r = kv k r) →
    ∃ late', Chain W t late late' ∧ KOk n late' ∧ keysF late' = keysF k ∧ ∀ x, (kept late' x).length + one (decide (s = x)) = (kept late x).length + one (decide (t = x)) := by
  induction h with
  | base =>
    intro t ht hb late hl he _
    have e : t = s := by
      simp only [keysF, List.map_cons, List.map_nil, List.mem_cons, List.not_mem_nil, or_false] at ht
      rcases ht with h | h
      · exact h
      · exact absurd h hb
    subst e
    exact ⟨late, .stop (by simp [dvalF]), hl, he, fun x => rfl⟩
  | @snoc W here there rod h h1 h2 h3 h4 h5 h6 ih =>
    intro t ht hb late hl he ha
    rw [keysF_app] at ht
    rcases List.mem_append.mp ht with ht | ht
    · obtain ⟨late', c, r⟩ := ih t ht hb late hl he fun v hh r hm => ha v hh r (List.mem_append_left _ hm)
      exact ⟨late', c.up, r⟩
    · simp only [List.mem_singleton] at ht
      subst ht
      have hv : dvalF (W ++ [(t, some (here, rod))]) t = some (some (here, rod)) := dvalF_app_new W _ h5
      have hrl : rod ∈ keysF late := by rw [he]; exact h3
      have hval : kv late rod = here := by rw [ha t here rod (List.mem_append_right _ (by simp)), h4]
      have own := hk.own rod h3
      rw [h4] at own
      have ot := oth_oth (hk.rod rod h3) own
      rw [← h6] at ot
      obtain ⟨late', c, k1, k2, k3⟩ := ih here h1 h2 (dputF late rod t) (kok_put hl hrl ot.1) (by rw [keysF_put, if_pos hrl]; exact he) fun v hh r hm => by
        have hne : r ≠ rod := fun e => by
          subst e
          -- the entry of v tells the same rod, kept by the same joint: v is t
          have hW := entry_of h hm
          have e1 : hh = here := by rw [← hW.1, h4]
          have e2 : v = t := by rw [hW.2, e1, ← h6]
          exact h5 (e2 ▸ List.mem_map.mpr ⟨_, hm, rfl⟩)
        unfold kv
        rw [dvalF_put_ne late t hne]
        exact ha v hh r (List.mem_append_left _ hm)
      refine ⟨late', .go hv hrl c.up, k1, k2, fun x => ?_⟩
      have p := kept_put hl.nd hrl t x
      rw [hval] at p
      have q := k3 x
      omega
where
  entry_of {k : Keep} {s b : Int} {W : Ways} (h : WOk k s b W) {v hh : Int} {r : Rod} (hm : (v, some (hh, r)) ∈ W) : kv k r = hh ∧ v = oth r hh := by
    induction h with
    | base => simp at hm
    | snoc _ _ _ _ h4 _ h6 ih =>
      rcases List.mem_append.mp hm with hm | hm
      · exact ih hm
      · simp only [List.mem_singleton, Prod.mk.injEq, Option.some.injEq] at hm
        obtain ⟨rfl, rfl, rfl⟩ := hm
        exact ⟨h4, h6⟩
end LAM

/-! LAM4: unlike hashes of small pairs; rods counted by their keepers; what a search leaves -/
namespace LAM
open DL PySem PyProof PySem.Builtin.Tuple PyProof.Rows L2
def pairH (a b : Int) : Int := reduceHash (tupleHashOf [hashInt a, hashInt b])
def sml (r : Rod) : Prop := 0 ≤ r.1 ∧ r.1 < 12 ∧ 0 ≤ r.2 ∧ r.2 < 12
def allSml : List Rod := (rng 0 12).flatMap fun a => (rng 0 12).map fun b => (a, b)
theorem allSml_nd : (allSml.map fun r => pairH r.1 r.2).Nodup := by decide +kernel
theorem mem_allSml {r : Rod} (h : sml r) : r ∈ allSml := by
  obtain ⟨h1, h2, h3, h4⟩ := h
  exact List.mem_flatMap.mpr ⟨r.1, mem_rng.mpr ⟨h1, h2⟩, List.mem_map.mpr ⟨r.2, mem_rng.mpr ⟨h3, h4⟩, rfl⟩⟩
theorem pairH_inj {r s : Rod} (hr : sml r) (hs : sml s) (h : pairH r.1 r.2 = pairH s.1 s.2) : r = s :=
  inj_of_nodup allSml_nd (mem_allSml hr) (mem_allSml hs) h
where
  inj_of_nodup {α β : Type} {f : α → β} : ∀ {l : List α}, (l.map f).Nodup → ∀ {x y : α}, x ∈ l → y ∈ l → f x = f y → x = y := by
    intro l
    induction l with
    | nil => intro _ x y hx; cases hx
    | cons a l ih =>
      intro hn x y hx hy e
      obtain ⟨h1, h2⟩ := List.nodup_cons.mp hn
      rcases List.mem_cons.mp hx with ex | gx <;> rcases List.mem_cons.mp hy with ey | gy
      · rw [ex, ey]
      · exact (h1 (List.mem_map.mpr ⟨y, gy, by rw [← e, ex]⟩)).elim
      · exact (h1 (List.mem_map.mpr ⟨x, gx, by rw [e, ey]⟩)).elim
      · exact ih h2 gx gy e
theorem pairH_eq (P : Program) (w : World) (a b : Int) : tupleKeyHash (mixKind P w) [.inl a, .inl b] = pairH a b := congrArg (fun l => reduceHash (tupleHashOf l)) (show ([.inl a, .inl b] : List Key).map (mixKind P w).hash = [hashInt a, hashInt b] from rfl)
theorem hash_nd : ∀ {ks : List Rod}, ks.Nodup → (∀ r ∈ ks, sml r) → (ks.map fun k => pairH k.1 k.2).Nodup
  | [], _, _ => by simp
  | a :: l, hn, hs => by
    obtain ⟨h1, h2⟩ := List.nodup_cons.mp hn
    rw [List.map_cons]
    refine List.nodup_cons.mpr ⟨fun hm => ?_, hash_nd h2 fun r hr => hs r (List.mem_cons_of_mem _ hr)⟩
    obtain ⟨b, hb, eb⟩ := List.mem_map.mp hm
    exact h1 (pairH_inj (hs b (List.mem_cons_of_mem _ hb)) (hs a List.mem_cons_self) eb ▸ hb)
theorem hash_map (P : Program) (w : World) : ∀ ks : List Rod, (ks.map fun k => ([.inl k.1, .inl k.2] : List Key)).map (tupleKeyHash (mixKind P w)) = ks.map fun k => pairH k.1 k.2
  | [] => rfl
  | k :: ks => by rw [List.map_cons, List.map_cons, List.map_cons, hash_map P w ks, pairH_eq]
theorem apart_sml {ks : List Rod} (hn : ks.Nodup) (hs : ∀ r ∈ ks, sml r) : HashApart (ks.map fun k => [.inl k.1, .inl k.2]) := fun P w => by
  rw [hash_map P w ks]
  exact hash_nd hn hs
theorem RodOk.sml {n : Int} (hn : n ≤ 12) {r : Rod} (h : RodOk n r) : sml r := by
  obtain ⟨h1, h2, h3⟩ := h
  exact ⟨h1, by omega, by omega, by omega⟩
theorem kok_apart {n : Int} (hn : n ≤ 12) {k : Keep} (h : KOk n k) : HashApart ((keysF k).map fun k => [.inl k.1, .inl k.2]) := apart_sml h.nd fun r hr => (h.rod r hr).sml hn
/-! ### rods counted by their keepers -/
def sumK (k : Keep) (xs : List Int) : Nat := (xs.map fun x => (kept k x).length).sum
theorem filter_mem {α β : Type} [DecidableEq β] (f : α → β) : ∀ (xs : List β), xs.Nodup → ∀ l : List α, (xs.map fun x => (l.filter fun r => decide (f r = x)).length).sum = (l.filter fun r => decide (f r ∈ xs)).length
  | [], _, l => by
    have : (l.filter fun r => decide (f r ∈ ([] : List β))) = [] := List.filter_eq_nil_iff.mpr fun r _ => by simp
    rw [this]; rfl
  | x :: xs, hn, l => by
    obtain ⟨h1, h2⟩ := List.nodup_cons.mp hn
    rw [List.map_cons, List.sum_cons, filter_mem f xs h2 l]
    induction l with
    | nil => rfl
    | cons r l ih =>
      simp only [List.filter_cons, List.mem_cons]
      by_cases e : f r = x
      · have : f r ∉ xs := e ▸ h1
        simp only [e, decide_true, if_true, List.length_cons, true_or]
        rw [← e] at ih ⊢
        simp only [this, decide_false, Bool.false_eq_true, if_false, decide_true, if_true, List.length_cons, true_or]
        simp only [List.mem_cons] at ih
        omega
      · by_cases m : f r ∈ xs
        · simp only [e, m, decide_false, Bool.false_eq_true, if_false, decide_true, if_true, List.length_cons, or_true]
          simp only [List.mem_cons] at ih
          omega
        · simp only [e, m, decide_false, Bool.false_eq_true, if_false, or_self]
          simp only [List.mem_cons] at ih
          exact ih
theorem sumK_eq (k : Keep) {xs : List Int} (hn : xs.Nodup) : sumK k xs = ((keysF k).filter fun r => decide (kv k r ∈ xs)).length := filter_mem (kv k) xs hn (keysF k)
/-- at most two at each of some joints, none at two of them: rods within are not tight -/
theorem sum_le {f : Int → Nat} {m : Nat} : ∀ {xs : List Int}, (∀ x ∈ xs, f x ≤ m) → (xs.map f).sum ≤ m * xs.length
  | [], _ => by simp
  | x :: xs, h => by
    have := sum_le (f := f) (m := m) (xs := xs) fun y hy => h y (List.mem_cons_of_mem _ hy)
    have := h x List.mem_cons_self
    simp only [List.map_cons, List.sum_cons, List.length_cons, Nat.mul_add, Nat.mul_one]
    omega
theorem sum_le2 {f : Int → Nat} {a b : Int} (hab : a ≠ b) : ∀ {xs : List Int}, xs.Nodup → (∀ x ∈ xs, f x ≤ 2) → f a = 0 → f b = 0 → (xs.map f).sum + 2 * (one (decide (a ∈ xs)) + one (decide (b ∈ xs))) ≤ 2 * xs.length
  | [], _, _, _, _ => by simp [one]
  | x :: xs, hn, h, ha, hb => by
    obtain ⟨h1, h2⟩ := List.nodup_cons.mp hn
    have ih := sum_le2 hab h2 (fun y hy => h y (List.mem_cons_of_mem _ hy)) ha hb
    have hx := h x List.mem_cons_self
    simp only [List.map_cons, List.sum_cons, List.length_cons, List.mem_cons]
    by_cases e1 : a = x
    · subst e1
      have e2 : ¬ b = a := fun z => hab z.symm
      simp only [h1, e2, false_or, true_or, decide_true, decide_false] at ih ⊢
      simp only [one, Bool.false_eq_true, if_false, if_true] at ih ⊢
      omega
    · by_cases e2 : b = x
      · subst e2
        simp only [h1, e1, false_or, true_or, decide_true, decide_false] at ih ⊢
        simp only [one, Bool.false_eq_true, if_false, if_true] at ih ⊢
        omega
      · simp only [e1, e2, false_or] at ih ⊢
        omega
theorem sum_ge2 {f : Int → Nat} {a b : Int} (hab : a ≠ b) : ∀ {xs : List Int}, xs.Nodup → (∀ x ∈ xs, x ≠ a → x ≠ b → 2 ≤ f x) → 2 * xs.length ≤ (xs.map f).sum + (2 - f a) * one (decide (a ∈ xs)) + (2 - f b) * one (decide (b ∈ xs))
  | [], _, _ => by simp
  | x :: xs, hn, h => by
    obtain ⟨h1, h2⟩ := List.nodup_cons.mp hn
    have ih := sum_ge2 hab h2 fun y hy => h y (List.mem_cons_of_mem _ hy)
    have hx := h x List.mem_cons_self
    simp only [List.map_cons, List.sum_cons, List.length_cons, List.mem_cons]
    by_cases e1 : a = x
    · subst e1
      have e2 : ¬ b = a := fun z => hab z.symm
      simp only [h1, e2, false_or, true_or, decide_true, decide_false] at ih ⊢
      simp only [one, Bool.false_eq_true, if_false, if_true, Nat.mul_zero, Nat.mul_one] at ih ⊢
      omega
    · by_cases e2 : b = x
      · subst e2
        simp only [h1, e1, false_or, true_or, decide_true, decide_false] at ih ⊢
        simp only [one, Bool.false_eq_true, if_false, if_true, Nat.mul_zero, Nat.mul_one] at ih ⊢
        omega
      · have := hx (Ne.symm e1) (Ne.symm e2)
        simp only [e1, e2, false_or] at ih ⊢
        omega
theorem len_mono_mem {α : Type} {p q : α → Bool} : ∀ {l : List α}, (∀ x ∈ l, p x = true → q x = true) → (l.filter p).length ≤ (l.filter q).length
  | [], _ => by simp
  | x :: l, h => by
    have ih := len_mono_mem (l := l) fun y hy => h y (List.mem_cons_of_mem _ hy)
    have hx := h x List.mem_cons_self
    simp only [List.filter_cons]
    cases px : p x with
    | false => cases q x <;> simp <;> omega
    | true => rw [hx px]; simp; exact ih
/-- rods of which two joints keep none, no joint more than two, are free with one more between the two -/
theorem none_kept {n : Int} {k : Keep} (hk : KOk n k) {a b : Int} (ha : 0 ≤ a ∧ a < n) (hb : 0 ≤ b ∧ b < n) (hab : a ≠ b) (h2 : ∀ x, (kept k x).length ≤ 2) (h0 : (kept k a).length = 0) (h1 : (kept k b).length = 0) {p : Int → Bool} (pa : p a = true) (pb : p b = true) : ¬ Tight n (keysF k) p := by
  intro t
  have hn : ((rng 0 n).filter p).Nodup := (rng_nodup 0 n).filter _
  have e := sumK_eq k hn
  have le : ins (keysF k) p ≤ ((keysF k).filter fun r => decide (kv k r ∈ (rng 0 n).filter p)).length := by
    unfold ins
    refine len_mono_mem fun r hr h => ?_
    rw [decide_eq_true_eq, List.mem_filter, mem_rng]
    have ho := hk.rod r hr
    have hw := hk.own r hr
    unfold inn at h
    rw [Bool.and_eq_true] at h
    obtain ⟨o1, o2, o3⟩ := ho
    rcases hw with hw | hw <;> rw [hw]
    · exact ⟨⟨o1, by omega⟩, h.1⟩
    · exact ⟨⟨by omega, o3⟩, h.2⟩
  have s := sum_le2 (f := fun x => (kept k x).length) hab hn (fun x _ => h2 x) h0 h1
  have ma : a ∈ (rng 0 n).filter p := List.mem_filter.mpr ⟨mem_rng.mpr ha, pa⟩
  have mb : b ∈ (rng 0 n).filter p := List.mem_filter.mpr ⟨mem_rng.mpr hb, pb⟩
  simp only [ma, mb, decide_true, one, if_true] at s
  have e1 : (((rng 0 n).filter p).map fun x => (kept k x).length).sum = sumK k ((rng 0 n).filter p) := rfl
  rw [e1] at s
  obtain ⟨t1, t2⟩ := t
  unfold cnt at t1 t2
  omega
/-- what a search without end leaves: a tight lot with both joints -/
theorem none_spared {n : Int} {k : Keep} (hk : KOk n k) (hF : Free n (keysF k)) {s b : Int} (hsb : s ≠ b) {R : List Int} (hn : R.Nodup) (hs : s ∈ R) (hb : b ∈ R) (hR : ∀ x ∈ R, 0 ≤ x ∧ x < n) (h2 : ∀ x ∈ R, x ≠ s → x ≠ b → 2 ≤ (kept k x).length) (h1 : 1 ≤ (kept k s).length)
    (hc : ∀ x ∈ R, x ≠ b → ∀ r ∈ kept k x, oth r x ∈ R) : Tight n (keysF k) fun x => decide (x ∈ R) := by
  have c : cnt n (fun x => decide (x ∈ R)) = R.length := by
    unfold cnt
    refine List.Perm.length_eq ((List.perm_ext_iff_of_nodup ((rng_nodup 0 n).filter _) hn).mpr fun x => ?_)
    rw [List.mem_filter, mem_rng, decide_eq_true_eq]
    exact ⟨fun h => h.2, fun h => ⟨hR x h, h⟩⟩
  have two : 2 ≤ cnt n (fun x => decide (x ∈ R)) := cnt_two (hR s hs) (hR b hb) hsb (by simpa using hs) (by simpa using hb)
  have f := hF _ two
  -- the rods kept by joints of R but b lie within R
  have hn' : (R.filter fun x => decide (x ≠ b)).Nodup := hn.filter _
  have e := sumK_eq k hn'
  have le : ((keysF k).filter fun r => decide (kv k r ∈ R.filter fun x => decide (x ≠ b))).length ≤ ins (keysF k) fun x => decide (x ∈ R) := by
    unfold ins
    refine len_mono_mem fun r hr h => ?_
    rw [decide_eq_true_eq, List.mem_filter, decide_eq_true_eq] at h
    have ho := hc _ h.1 h.2 r (List.mem_filter.mpr ⟨hr, by simp⟩)
    have hw := hk.own r hr
    unfold inn
    rw [Bool.and_eq_true, decide_eq_true_eq, decide_eq_true_eq]
    unfold oth at ho
    rcases hw with hw | hw <;> rw [hw] at ho h
    · exact ⟨h.1, by have : r.1 + r.2 - r.1 = r.2 := by omega
                     rwa [this] at ho⟩
    · exact ⟨by have : r.1 + r.2 - r.2 = r.1 := by omega
                rwa [this] at ho, h.1⟩
  have g := sum_ge2 (f := fun x => (kept k x).length) hsb hn' (fun x hx => h2 x (List.mem_filter.mp hx).1)
  have len : (R.filter fun x => decide (x ≠ b)).length + 1 = R.length := by
    clear c two f e le g h2 hc hR hs
    induction R with
    | nil => cases hb
    | cons x R ih =>
      obtain ⟨n1, n2⟩ := List.nodup_cons.mp hn
      by_cases e : x = b
      · subst e
        rw [List.filter_cons, if_neg (by simp), List.length_cons]
        congr 1
        exact congrArg List.length (List.filter_eq_self.mpr fun y hy => by simpa using fun z : y = x => n1 (z ▸ hy))
      · rw [List.filter_cons, if_pos (by simpa using e), List.length_cons, List.length_cons]
        have := ih n2 ((List.mem_cons.mp hb).resolve_left (Ne.symm e)) (n2.filter _)
        omega
  have ms : s ∈ R.filter fun x => decide (x ≠ b) := List.mem_filter.mpr ⟨hs, by simpa using hsb⟩
  have mb : b ∉ R.filter fun x => decide (x ≠ b) := fun h => by simpa using (List.mem_filter.mp h).2
  simp only [ms, mb, decide_true, decide_false, one, if_true, Bool.false_eq_true, if_false, Nat.mul_zero, Nat.mul_one] at g
  have e1 : ((R.filter fun x => decide (x ≠ b)).map fun x => (kept k x).length).sum = sumK k (R.filter fun x => decide (x ≠ b)) := rfl
  rw [e1] at g
  refine ⟨two, ?_⟩
  omega
end LAM

/-! TL8: one way alone to decide what is in a list; lists of unlike things; further rules -/
namespace DLM
scoped instance (priority := 10000) decMem {α : Type} [DecidableEq α] (x : α) (xs : List α) : Decidable (x ∈ xs) := List.instDecidableMemOfLawfulBEq x xs
end DLM
namespace DL
open PySem PySem.Spec PyProof.Rows L2
def eHl {α : Type} (l : α → List D) (a : α) : D := .lst (l a)
instance gdHl {α : Type} {l : α → List D} [g : GdL l] : Gd (eHl l) := ⟨g.dp + 1, fun a => g.plain a, fun a => Nat.succ_le_succ (g.dep a), fun a b h => g.inj a b h, fun a => g.refl a⟩
instance {α : Type} {l : α → List D} : NN (eHl l) := ⟨fun _ => rfl⟩
theorem shw_hl {α : Type} {k m r : Nat} {l : α → List D} {a : α} (h : ShwL k m r (l a)) : Shw k (m + 1) (r + 1) (eHl l a) := shw_lst h
section
variable {τ : DSt} {H : DHp} {E : DEnds} {u : DS}
theorem x_part {te : DE} {K : Option Int → DHp → Prop} (h : te τ H fun x H1 => match x with
  | .int i => K (some i) H1
  | _ => False) : dPart te τ H K := h
theorem x_newC {α : Type} {te : DE} {a : D} {K : DK} (e : α → D) (xs : List α) (h : Ev te τ H a) (sa : seqOf H a = some (xs.map e))
    (k : ∀ p H', H p = none → H' p = some (.lst (xs.map e)) → (∀ b, b ≠ p → H' b = H b) → K (.ref p) H') : dCB (rLstD true) (dCons te dNil) τ H K := h _ (by
  show (match seqOf H a with | some xs => _ | none => False)
  rw [sa]
  exact fun p hp => k p _ hp dupd_same dupd_fr)
end
end DL

local macro_rules
  | `(tactic| unfold dd $ls*) => `(tactic| try simp only [↓DL.dVar_e, ↓DL.dC_e, ↓DL.dOp_e, ↓DL.dUn_e, ↓DL.dB_e, ↓DL.dChain_e, ↓DL.dAnd_e, ↓DL.dOr_e, ↓DL.dNot_e, ↓DL.dAndV_e, ↓DL.dOrV_e, ↓DL.dNotV_e, ↓DL.dIf_e, ↓DL.dNil_e, ↓DL.dCons_e, ↓DL.dTup_e, ↓DL.dLst_e, ↓DL.dCB_e, ↓DL.dNext_e, ↓DL.dSeq_e, ↓DL.dCont_e, ↓DL.dBreak_e, ↓DL.dDrop_e, ↓DL.dRet_e, ↓DL.dRetN_e, ↓DL.dIfS_e, ↓DL.gN_e, ↓DL.gNilD_e, ↓DL.gConsD_e, ↓DL.gT_e, ↓DL.dAsg_e, ↓DL.dPar_e, ↓DL.dPar3_e, ↓DL.dYes_e, ↓DL.dISeq_e, ↓DL.dIRg1_e, ↓DL.dIRg2_e, ↓DL.dIEnum_e, ↓DL.dIZip_e, ↓DL.rIntD_e, ↓DL.rNegD_e, ↓DL.rEq_intF, ↓DL.rEq_intT, ↓DL.rAddD_e, ↓DL.rMulD_e, ↓DL.rIxD_e, ↓DL.rI1_e, ↓DL.rI2_e, ↓DL.rIntCD_e, ↓DL.rSumD_e, ↓DL.rAllD_e, ↓DL.rIsiD_e, ↓DL.rLenD_e, ↓DL.rTupD_e, ↓DL.rLstD_e, ↓DL.rIsN_e, ↓DL.rSlD_e, ↓DL.dSl_e, ↓DL.dNoPart_e, ↓DL.dPart_e, ↓DL.dRev_e, ↓DL.dGet_e, ↓DL.dIn_e, ↓DL.dStore_e, ↓DL.dBM0_e, ↓DL.dBM_e, ↓DL.dDisp_e, ↓DL.mAppend_e, ↓DL.mPop_e, ↓DL.dNewK_e, ↓DL.dNewT_e, ↓DL.dLstM_e, ↓DL.dFrz_e, ↓DL.rReprD_e, ↓DL.rNeS_e, ↓DL.rEqS_e, ↓DL.asB_e, ↓DL.walkD_e, ↓DL.lookD_e, ↓DL.storeD_e, ↓DL.ofTy_e, ↓DL.onLst_e, DL.bodyE, DL.dstart, DL.dPairs, DL.dwipe, DL.keysOf, DL.keyD, DL.isNon, DL.peek_int, DL.peek_bl, DL.peek_non, DL.peek_str, DL.peek_tup, DL.peek_lst, DL.seqOf_tup, DL.seqOf_lst, DL.listOf_lst, DL.tyOf, DL.isTy, DL.atI0, DL.atI1, DL.atI2, DL.atI3, DL.atI4, DL.atI5, DL.dupd_same, DL.dupd_dupd, List.map_cons, List.map_nil, List.length_cons, List.length_nil, List.cons_append, List.nil_append, List.replicate_succ, List.replicate_zero, Nat.reduceAdd, Nat.reduceSub, Nat.zero_add, List.getElem?_cons_zero, List.getElem?_cons_succ, List.set_cons_zero, List.set_cons_succ, true_and, and_true, Int.toNat_natCast, if_true, if_false, Bool.false_eq_true, reduceCtorEq, ne_eq, not_false_eq_true, not_true_eq_false, decide_eq_true_eq, Bool.not_eq_true', decide_eq_false_iff_not, Option.bind_some, Option.map_some, $[$ls:term],*])
local macro_rules
  | `(tactic| unfold d2 $ls*) => `(tactic| try simp only [↓DL.dFor_e, ↓DL.dLc_e, ↓DL.dVar_e, ↓DL.dC_e, ↓DL.dOp_e, ↓DL.dUn_e, ↓DL.dB_e, ↓DL.dChain_e, ↓DL.dAnd_e, ↓DL.dOr_e, ↓DL.dNot_e, ↓DL.dAndV_e, ↓DL.dOrV_e, ↓DL.dNotV_e, ↓DL.dIf_e, ↓DL.dNil_e, ↓DL.dCons_e, ↓DL.dTup_e, ↓DL.dLst_e, ↓DL.dCB_e, ↓DL.dNext_e, ↓DL.dSeq_e, ↓DL.dCont_e, ↓DL.dBreak_e, ↓DL.dDrop_e, ↓DL.dRet_e, ↓DL.dRetN_e, ↓DL.dIfS_e, ↓DL.gN_e, ↓DL.gNilD_e, ↓DL.gConsD_e, ↓DL.gT_e, ↓DL.dAsg_e, ↓DL.dPar_e, ↓DL.dPar3_e, ↓DL.dYes_e, ↓DL.dISeq_e, ↓DL.dIRg1_e, ↓DL.dIRg2_e, ↓DL.dIEnum_e, ↓DL.dIZip_e, ↓DL.rIntD_e, ↓DL.rNegD_e, ↓DL.rEq_intF, ↓DL.rEq_intT, ↓DL.rAddD_e, ↓DL.rMulD_e, ↓DL.rIxD_e, ↓DL.rI1_e, ↓DL.rI2_e, ↓DL.rIntCD_e, ↓DL.rSumD_e, ↓DL.rAllD_e, ↓DL.rIsiD_e, ↓DL.rLenD_e, ↓DL.rTupD_e, ↓DL.rLstD_e, ↓DL.rIsN_e, ↓DL.rSlD_e, ↓DL.dSl_e, ↓DL.dNoPart_e, ↓DL.dPart_e, ↓DL.dRev_e, ↓DL.dGet_e, ↓DL.dIn_e, ↓DL.dStore_e, ↓DL.dBM0_e, ↓DL.dBM_e, ↓DL.dDisp_e, ↓DL.mAppend_e, ↓DL.mPop_e, ↓DL.dNewK_e, ↓DL.dNewT_e, ↓DL.dLstM_e, ↓DL.dFrz_e, ↓DL.rReprD_e, ↓DL.rNeS_e, ↓DL.rEqS_e, ↓DL.asB_e, ↓DL.walkD_e, ↓DL.lookD_e, ↓DL.storeD_e, ↓DL.ofTy_e, ↓DL.onLst_e, DL.bodyE, DL.dstart, DL.dPairs, DL.dwipe, DL.keysOf, DL.keyD, DL.isNon, DL.peek_int, DL.peek_bl, DL.peek_non, DL.peek_str, DL.peek_tup, DL.peek_lst, DL.seqOf_tup, DL.seqOf_lst, DL.listOf_lst, DL.tyOf, DL.isTy, DL.atI0, DL.atI1, DL.atI2, DL.atI3, DL.atI4, DL.atI5, DL.dupd_same, DL.dupd_dupd, List.map_cons, List.map_nil, List.length_cons, List.length_nil, List.cons_append, List.nil_append, List.replicate_succ, List.replicate_zero, Nat.reduceAdd, Nat.reduceSub, Nat.zero_add, List.getElem?_cons_zero, List.getElem?_cons_succ, List.set_cons_zero, List.set_cons_succ, true_and, and_true, Int.toNat_natCast, if_true, if_false, Bool.false_eq_true, reduceCtorEq, ne_eq, not_false_eq_true, not_true_eq_false, decide_eq_true_eq, Bool.not_eq_true', decide_eq_false_iff_not, Option.bind_some, Option.map_some, $[$ls:term],*])
local macro_rules
  | `(tactic| unfold d3 $ls*) => `(tactic| try simp only [↓DL.dLstRg1_e, ↓DL.dLstRg2_e, ↓DL.rSortD_e, ↓DL.rMaxL_e, ↓DL.rMinL_e, ↓DL.tell_F, ↓DL.tell_T, DL.ints_map, DL.bls_map, DL.pairs_map, ↓DL.dFor_e, ↓DL.dLc_e, ↓DL.dVar_e, ↓DL.dC_e, ↓DL.dOp_e, ↓DL.dUn_e, ↓DL.dB_e, ↓DL.dChain_e, ↓DL.dAnd_e, ↓DL.dOr_e, ↓DL.dNot_e, ↓DL.dAndV_e, ↓DL.dOrV_e, ↓DL.dNotV_e, ↓DL.dIf_e, ↓DL.dNil_e, ↓DL.dCons_e, ↓DL.dTup_e, ↓DL.dLst_e, ↓DL.dCB_e, ↓DL.dNext_e, ↓DL.dSeq_e, ↓DL.dCont_e, ↓DL.dBreak_e, ↓DL.dDrop_e, ↓DL.dRet_e, ↓DL.dRetN_e, ↓DL.dIfS_e, ↓DL.gN_e, ↓DL.gNilD_e, ↓DL.gConsD_e, ↓DL.gT_e, ↓DL.dAsg_e, ↓DL.dPar_e, ↓DL.dPar3_e, ↓DL.dYes_e, ↓DL.dISeq_e, ↓DL.dIRg1_e, ↓DL.dIRg2_e, ↓DL.dIEnum_e, ↓DL.dIZip_e, ↓DL.rIntD_e, ↓DL.rNegD_e, ↓DL.rEq_intF, ↓DL.rEq_intT, ↓DL.rAddD_e, ↓DL.rMulD_e, ↓DL.rIxD_e, ↓DL.rI1_e, ↓DL.rI2_e, ↓DL.rIntCD_e, ↓DL.rSumD_e, ↓DL.rAllD_e, ↓DL.rIsiD_e, ↓DL.rLenD_e, ↓DL.rTupD_e, ↓DL.rLstD_e, ↓DL.rIsN_e, ↓DL.rSlD_e, ↓DL.dSl_e, ↓DL.dNoPart_e, ↓DL.dPart_e, ↓DL.dRev_e, ↓DL.dGet_e, ↓DL.dIn_e, ↓DL.dStore_e, ↓DL.dBM0_e, ↓DL.dBM_e, ↓DL.dDisp_e, ↓DL.mAppend_e, ↓DL.mPop_e, ↓DL.dNewK_e, ↓DL.dNewT_e, ↓DL.dLstM_e, ↓DL.dFrz_e, ↓DL.rReprD_e, ↓DL.rNeS_e, ↓DL.rEqS_e, ↓DL.asB_e, ↓DL.walkD_e, ↓DL.lookD_e, ↓DL.storeD_e, ↓DL.ofTy_e, ↓DL.onLst_e, DL.bodyE, DL.dstart, DL.dPairs, DL.dwipe, DL.keysOf, DL.keyD, DL.isNon, DL.peek_int, DL.peek_bl, DL.peek_non, DL.peek_str, DL.peek_tup, DL.peek_lst, DL.seqOf_tup, DL.seqOf_lst, DL.listOf_lst, DL.tyOf, DL.isTy, DL.atI0, DL.atI1, DL.atI2, DL.atI3, DL.atI4, DL.atI5, DL.dupd_same, DL.dupd_dupd, List.map_cons, List.map_nil, List.length_cons, List.length_nil, List.cons_append, List.nil_append, List.replicate_succ, List.replicate_zero, Nat.reduceAdd, Nat.reduceSub, Nat.zero_add, List.getElem?_cons_zero, List.getElem?_cons_succ, List.set_cons_zero, List.set_cons_succ, true_and, and_true, Int.toNat_natCast, if_true, if_false, Bool.false_eq_true, reduceCtorEq, ne_eq, not_false_eq_true, not_true_eq_false, decide_eq_true_eq, Bool.not_eq_true', decide_eq_false_iff_not, Option.bind_some, Option.map_some, $[$ls:term],*])
local macro_rules
  | `(tactic| unfold ob) => `(tactic| first | decide | assumption | omega | exact DL.mulD_l (by omega) (by omega) | exact DL.mulD_r (by omega) (by omega) | (refine DL.size_le4 ?_; (try simp only [List.length_map, DL.rng_length, DL.enumF_length, List.length_cons, List.length_nil, List.length_append, List.length_zip]); omega) | (exact DL.size_le4 (Nat.le_trans (List.length_filter_le _ _) (by (try simp only [List.length_map, DL.rng_length, DL.enumF_length]); omega))) | (unfold DL.inIx; omega) | (unfold DL.inIx; (try simp only [List.length_map, List.length_cons, List.length_nil, List.length_append, List.length_dropLast]); omega) | (simp_all; done))
namespace DL
open PySem PySem.Spec PyProof.Rows L2 DLM
/-! ### kept_by -/
def rd_kept_by : DS :=
  (dRet (dLockE (dLc false (dIKeys (dVar 0)) (gN 2) (dB (dOp (rEqD false) (dGet (dVar 0) (dVar 2)) (dVar 1))) (dVar 2) [2])))
def m_kept_by (keeper : (List ((Int × Int) × Int))) (joint : Int) : (List (Int × Int)) :=
  (((keysF keeper).filter (fun (rod : (Int × Int)) => (decide (((dvalF keeper rod).getD default) = joint)))).map (fun (rod : (Int × Int)) => rod))
def sp_kept_by : DSp := fun ds DH Q => ∃ (keeper : (List ((Int × Int) × Int))) (p_keeper : Addr) (joint : Int), ds = [.ref p_keeper, eI joint] ∧ (DH p_keeper = some (oD (eTup (cc eI (c1 eI))) eI keeper)) ∧ (keeper.length ≤ 1000) ∧ Q ((eL (eTup (cc eI (c1 eI)))) (m_kept_by keeper joint)) DH
theorem call_kept_by {DH : DHp} (keeper : (List ((Int × Int) × Int))) (p_keeper : Addr) (hp_keeper : DH p_keeper = some (oD (eTup (cc eI (c1 eI))) eI keeper)) (joint : Int) (h0 : keeper.length ≤ 1000) : RvC sp_kept_by [.ref p_keeper, eI joint] DH ((eL (eTup (cc eI (c1 eI)))) (m_kept_by keeper joint)) := fun Q q => ⟨keeper, p_keeper, joint, rfl, hp_keeper, h0, q⟩
set_option maxHeartbeats 0 in
theorem kept_by_ok {ds : List D} {DH : DHp} {Q : DK} (h : sp_kept_by ds DH Q) : rd_kept_by (bodyE Q) (dstart ["keeper", "joint", "rod"] ds) DH := by
  obtain ⟨keeper, p_keeper, joint, rfl, hp_keeper, h0, hQ⟩ := h
  replace hQ : Tk (fun r => ∀ d H', RPv (eL (eTup (cc eI (c1 eI)))) DH r d H' → (bodyE Q).rt d H') (m_kept_by keeper joint) := rpv hQ
  have hs := DSub.refl DH
  unfold rd_kept_by
  unfold m_kept_by at hQ
  show (_ : DS) _ [some (.ref p_keeper), some (eI joint), none] _
  refine s_last ?_
  exact s_ret (evd ((eL (eTup (cc eI (c1 eI)))) (((keysF keeper).filter (fun (rod : (Int × Int)) => (decide (((dvalF keeper rod).getD default) = joint)))).map (fun (rod : (Int × Int)) => rod))) (ev_lcD (e := (eTup (cc eI (c1 eI)))) (ve := eI) (kvs := keeper) (p := p_keeper) (eTup (cc eI (c1 eI))) (fun (rod : (Int × Int)) => (decide (((dvalF keeper rod).getD default) = joint))) (fun (rod : (Int × Int)) => rod) _ ⟨rfl, rfl⟩ hp_keeper (by unfold ob) (fun rod H' => gv_N) (fun H' hd hf rod h_rod => (et_b (ev_op (evd (eI ((dvalF keeper rod).getD default)) (ev_dget (e := (eTup (cc eI (c1 eI)))) (ve := eI) (kvs := keeper) (k := rod) (ev_var rfl) hd (evd ((eTup (cc eI (c1 eI))) rod) (ev_var rfl)) (by exact dvalF_some.mpr h_rod))) (evd (eI joint) (ev_var rfl)) (r_eq (e := eI) (x := ((dvalF keeper rod).getD default)) (y := joint) (by decide) (peek_gd _ _) (peek_gd _ _))))) (fun H' hd hf rod h_rod hc => (evd ((eTup (cc eI (c1 eI))) rod) (ev_var rfl))))) (tk_rt hQ ⟨rfl, hs⟩)
/-! ### moved along -/
abbrev mvC (ways : LAM.Ways) (st : Int × LAM.Keep) : Bool := ((dvalF ways st.1).getD default).isSome
noncomputable abbrev mvS (ways : LAM.Ways) (st : Int × LAM.Keep) : Ctl Unit (Int × LAM.Keep) := bnd ((((dvalF ways st.1).getD default).getD default).1 : Int) fun (here : Int) => bnd ((((dvalF ways st.1).getD default).getD default).2 : (Int × Int)) fun (rod : (Int × Int)) => bnd (here : Int) fun (joint1 : Int) => Ctl.nxt (joint1, (dputF st.2 rod st.1))
theorem chain_run {R : Type} {ways : LAM.Ways} {t : Int} {late late' : LAM.Keep} (h : LAM.Chain ways t late late') : ∃ n t', whileN (R := R) (fun (st : (Int × LAM.Keep)) => ((((dvalF ways st.1).getD default)).isSome)) (fun (st : (Int × LAM.Keep)) => bnd ((((dvalF ways st.1).getD default).getD default).1 : Int) fun (here : Int) => bnd ((((dvalF ways st.1).getD default).getD default).2 : (Int × Int)) fun (rod : (Int × Int)) => bnd (here : Int) fun (joint1 : Int) => Ctl.nxt (joint1, (dputF st.2 rod st.1))) n (t, late) = some (.inr (t', late')) := by
  induction h with
  | stop h => exact ⟨1, _, by simp only [whileN, h, Option.getD_some, Option.isSome_none, Bool.false_eq_true, if_false]; rfl⟩
  | go h hr c ih =>
    obtain ⟨n, t', e⟩ := ih
    refine ⟨n + 1, t', ?_⟩
    simp only [whileN, h, Option.getD_some, Option.isSome_some, if_true, bnd]
    exact e
theorem chain_keys {ways : LAM.Ways} {t : Int} {late late' : LAM.Keep} (h : LAM.Chain ways t late late') : keysF late' = keysF late := by
  induction h with
  | stop h => rfl
  | go h hr c ih => rw [ih, LAM.keysF_put, if_pos hr]
theorem chain_ways {ways : LAM.Ways} {t : Int} {late late' : LAM.Keep} (h : LAM.Chain ways t late late') : (dvalF ways t).isSome = true := by
  cases h with
  | stop h => rw [h]; rfl
  | go h hr c => rw [h]; rfl
theorem mv_reach {R : Type} {ways : LAM.Ways} {t : Int} {late late' : LAM.Keep} (h : LAM.Chain ways t late late') {st : Int × LAM.Keep} (hr : Reach (R := R) (fun (st : (Int × LAM.Keep)) => ((((dvalF ways st.1).getD default)).isSome)) (fun (st : (Int × LAM.Keep)) => bnd ((((dvalF ways st.1).getD default).getD default).1 : Int) fun (here : Int) => bnd ((((dvalF ways st.1).getD default).getD default).2 : (Int × Int)) fun (rod : (Int × Int)) => bnd (here : Int) fun (joint1 : Int) => Ctl.nxt (joint1, (dputF st.2 rod st.1))) (t, late) st) : ∃ l', LAM.Chain ways st.1 st.2 l' ∧ keysF st.2 = keysF late := by
  refine reach_by (fun st => ∃ l', LAM.Chain ways st.1 st.2 l' ∧ keysF st.2 = keysF late) ⟨late', h, rfl⟩ (fun s s' hi hc hs => ?_) st hr
  obtain ⟨l', ch, e⟩ := hi
  cases ch with
  | stop h => rw [h] at hc; cases hc
  | go h hr c =>
    simp only [h, Option.getD_some, bnd, Ctl.nxt.injEq] at hs
    subst hs
    exact ⟨l', c, by rw [LAM.keysF_put, if_pos hr]; exact e⟩
/-! ### moved_along -/
def rd_moved_along : DS :=
  (dSeq (dAsg (dCB rDictC (dCons (dVar 0) dNil)) (gN 3))
    (dSeq (dWhile (dB (dOp (rIsN true) (dGet (dVar 1) (dVar 2)) (dC .non))) (dSeq (dAsg (dGet (dVar 1) (dVar 2)) (gT 2 (gConsD (gN 4) (gConsD (gN 5) gNilD))))
    (dSeq (dStore (dVar 3) (dVar 5) (dVar 2))
    (dAsg (dVar 4) (gN 2)))))
    (dRet (dVar 3))))
noncomputable def m_moved_along (keeper : (List ((Int × Int) × Int))) (ways : (List (Int × (Option (Int × (Int × Int)))))) (joint : Int) : (List ((Int × Int) × Int)) :=
  onR (whileR (fun (st : (Int × (List ((Int × Int) × Int)))) => ((((dvalF ways st.1).getD default)).isSome)) (fun (st : (Int × (List ((Int × Int) × Int)))) => (bnd ((((dvalF ways st.1).getD default).getD default).1 : Int) fun (here : Int) => bnd ((((dvalF ways st.1).getD default).getD default).2 : (Int × Int)) fun (rod : (Int × Int)) => bnd (here : Int) fun (joint1 : Int) => Ctl.nxt (joint1, (dputF st.2 rod st.1)) : Ctl (List ((Int × Int) × Int)) (Int × (List ((Int × Int) × Int))))) (joint, keeper)) (fun r => r) (fun (st : (Int × (List ((Int × Int) × Int)))) => st.2)
def sp_moved_along : DSp := fun ds DH Q => ∃ (keeper : (List ((Int × Int) × Int))) (p_keeper : Addr) (ways : (List (Int × (Option (Int × (Int × Int)))))) (p_ways : Addr) (joint : Int), ds = [.ref p_keeper, .ref p_ways, eI joint] ∧ (DH p_keeper = some (oD (eTup (cc eI (c1 eI))) eI keeper)) ∧ (DH p_ways = some (oD eI (eO (eTup (cc eI (c1 (eTup (cc eI (c1 eI))))))) ways)) ∧ (keeper.length ≤ 1000) ∧ (∃ late', LAM.Chain ways joint keeper late') ∧ (HashApart ((keysF keeper).map fun k => [.inl k.1, .inl k.2])) ∧ (∀ d H', RPd (eTup (cc eI (c1 eI))) eI DH (m_moved_along keeper ways joint) d H' → Q d H')
theorem call_moved_along {DH : DHp} (keeper : (List ((Int × Int) × Int))) (p_keeper : Addr) (hp_keeper : DH p_keeper = some (oD (eTup (cc eI (c1 eI))) eI keeper)) (ways : (List (Int × (Option (Int × (Int × Int)))))) (p_ways : Addr) (hp_ways : DH p_ways = some (oD eI (eO (eTup (cc eI (c1 (eTup (cc eI (c1 eI))))))) ways)) (joint : Int) (h0 : keeper.length ≤ 1000) (h1 : ∃ late', LAM.Chain ways joint keeper late') (h2 : HashApart ((keysF keeper).map fun k => [.inl k.1, .inl k.2])) {K : DK} (k : ∀ d H', RPd (eTup (cc eI (c1 eI))) eI DH (m_moved_along keeper ways joint) d H' → K d H') : sp_moved_along [.ref p_keeper, .ref p_ways, eI joint] DH K := ⟨keeper, p_keeper, ways, p_ways, joint, rfl, hp_keeper, hp_ways, h0, h1, h2, k⟩
set_option maxHeartbeats 0 in
theorem moved_along_ok {ds : List D} {DH : DHp} {Q : DK} (h : sp_moved_along ds DH Q) : rd_moved_along (bodyE Q) (dstart ["keeper", "ways", "joint", "late", "here", "rod"] ds) DH := by
  obtain ⟨keeper, p_keeper, ways, p_ways, joint, rfl, hp_keeper, hp_ways, h0, h1, h2, hQ⟩ := h
  replace hQ : Tk (fun r => ∀ d H', RPd (eTup (cc eI (c1 eI))) eI DH r d H' → (bodyE Q).rt d H') (m_moved_along keeper ways joint) := rpd hQ
  have hs := DSub.refl DH
  unfold rd_moved_along
  unfold m_moved_along at hQ
  show (_ : DS) _ [some (.ref p_keeper), some (.ref p_ways), some (eI joint), none, none, none] _
  refine s_newX ?_
  refine x_cb ?_
  refine x_cons ?_
  refine x_ev (show Ev _ _ _ (.ref p_keeper) from ev_var rfl) ?_
  refine x_nil ?_
  refine c_dictR (ve := eI) (kvs := keeper) hp_keeper (by exact h2) (fun p_late H' hn0 hp_late hf => ?_)
  have hn_p_late := dsub_none hs hn0
  have hne_p_keeper_p_late := ne_none hn0 hp_keeper
  have hne_p_late_p_keeper := ne_none' hn0 hp_keeper
  replace hp_keeper := (hf _ hne_p_keeper_p_late).trans hp_keeper
  have hne_p_ways_p_late := ne_none hn0 hp_ways
  have hne_p_late_p_ways := ne_none' hn0 hp_ways
  replace hp_ways := (hf _ hne_p_ways_p_late).trans hp_ways
  have hs := dsub_fr hs hn_p_late hf
  show (_ : DS) _ [some (.ref p_keeper), some (.ref p_ways), some (eI joint), some (.ref p_late), none, none] _
  refine s_whileR (RPd (eTup (cc eI (c1 eI))) eI DH) (fun (st : (Int × (List ((Int × Int) × Int)))) => ((((dvalF ways st.1).getD default)).isSome)) (fun (st : (Int × (List ((Int × Int) × Int)))) => bnd ((((dvalF ways st.1).getD default).getD default).1 : Int) fun (here : Int) => bnd ((((dvalF ways st.1).getD default).getD default).2 : (Int × Int)) fun (rod : (Int × Int)) => bnd (here : Int) fun (joint1 : Int) => Ctl.nxt (joint1, (dputF st.2 rod st.1))) (joint, keeper) (fun (st : (Int × (List ((Int × Int) × Int)))) τ' H' => ∃ t4 t5 : Option D, τ' = [some (.ref p_keeper), some (.ref p_ways), some (eI st.1), some (.ref p_late), t4, t5] ∧ DSub DH H' ∧ H' p_keeper = some (oD (eTup (cc eI (c1 eI))) eI keeper) ∧ H' p_ways = some (oD eI (eO (eTup (cc eI (c1 (eTup (cc eI (c1 eI))))))) ways) ∧ H' p_late = some (oD (eTup (cc eI (c1 eI))) eI st.2)) hQ (by obtain ⟨l, c⟩ := h1; obtain ⟨n, t', e⟩ := chain_run c; exact ⟨n, _, e⟩) ⟨_, _, rfl, hs, hp_keeper, hp_ways, hp_late⟩ (fun st τ' H' hr_st hst => ?_) (fun st τ' H' hr_st hc_st hst E' hQ => ?_) (fun r d H' hrp hr hQ => ?_) (fun st τ' H' hst hs_st hQ => ?_)
  · obtain ⟨t4, t5, rfl, hs, hp_keeper, hp_ways, hp_late⟩ := hst
    exact (et_b (ev_op (ev_dget (e := eI) (ve := (eO (eTup (cc eI (c1 (eTup (cc eI (c1 eI)))))))) (kvs := ways) (k := st.1) (ev_var rfl) (.inl hp_ways) (evd (eI st.1) (ev_var rfl)) (by obtain ⟨l, c⟩ := h1; obtain ⟨l', c', e⟩ := mv_reach c hr_st; exact chain_ways c')) ev_c (r_isnot (e := (eTup (cc eI (c1 (eTup (cc eI (c1 eI))))))) (x := ((dvalF ways st.1).getD default)))))
  · obtain ⟨t4, t5, rfl, hs, hp_keeper, hp_ways, hp_late⟩ := hst
    show (_ : DS) _ [some (.ref p_keeper), some (.ref p_ways), some (eI st.1), some (.ref p_late), t4, t5] _
    refine s_unp2 eI (eTup (cc eI (c1 eI))) hQ (evd ((eTup (cc eI (c1 (eTup (cc eI (c1 eI)))))) (((dvalF ways st.1).getD default).getD default)) (ev_some (e := (eTup (cc eI (c1 (eTup (cc eI (c1 eI))))))) (x := ((dvalF ways st.1).getD default)) (ev_dget (e := eI) (ve := (eO (eTup (cc eI (c1 (eTup (cc eI (c1 eI)))))))) (kvs := ways) (k := st.1) (ev_var rfl) (.inl hp_ways) (evd (eI st.1) (ev_var rfl)) (by obtain ⟨l, c⟩ := h1; obtain ⟨l', c', e⟩ := mv_reach c hr_st; exact chain_ways c')) (by unfold ob))) (fun here rod h_here h_rod hQ => ?_)
    show (_ : DS) _ [some (.ref p_keeper), some (.ref p_ways), some (eI st.1), some (.ref p_late), some (eI here), some ((eTup (cc eI (c1 eI))) rod)] _
    refine n_store ?_
    refine x_ev (evd (eI st.1) (ev_var rfl)) ?_
    refine x_ev (ev_var rfl : Ev _ _ _ (.ref p_late)) ?_
    refine x_ev (evd ((eTup (cc eI (c1 eI))) rod) (ev_var rfl)) ?_
    refine n_stD (e := (eTup (cc eI (c1 eI)))) (ve := eI) (kvs := st.2) (k := rod) (v := st.1) hp_late (by obtain ⟨l, c⟩ := h1; obtain ⟨l', c', e⟩ := mv_reach c hr_st; rw [← LAM.keysF_len, e, LAM.keysF_len]; exact Nat.lt_of_le_of_lt h0 (by decide)) (fun H_1 hp_ hf1 => ?_)
    have hs := dsub_fr hs hn_p_late hf1
    replace hp_keeper := (hf1 _ hne_p_keeper_p_late).trans hp_keeper
    replace hp_ways := (hf1 _ hne_p_ways_p_late).trans hp_ways
    show (_ : DS) _ [some (.ref p_keeper), some (.ref p_ways), some (eI st.1), some (.ref p_late), some (eI here), some ((eTup (cc eI (c1 eI))) rod)] _
    refine s_last ?_
    refine s_asg eI hQ (evd (eI here) (ev_var rfl)) (fun joint1 h_joint1 hQ => ?_)
    exact out_nx hQ ⟨_, _, rfl, hs, hp_keeper, hp_ways, hp_⟩
  · exact tk_rt hQ hrp
  · obtain ⟨t4, t5, rfl, hs, hp_keeper, hp_ways, hp_late⟩ := hst
    show (_ : DS) _ [some (.ref p_keeper), some (.ref p_ways), some (eI st.1), some (.ref p_late), t4, t5] _
    refine s_last ?_
    exact s_ret (show Ev _ _ _ (.ref p_late) from ev_var rfl) (tk_rt hQ (show RPd _ _ _ st.2 _ _ from ⟨_, rfl, hp_late, hs, hn_p_late⟩))
theorem moved_eq {ways : LAM.Ways} {t : Int} {late late' : LAM.Keep} (h : LAM.Chain ways t late late') : m_moved_along late ways t = late' := by
  obtain ⟨n, t', e⟩ := chain_run (R := List ((Int × Int) × Int)) h
  unfold m_moved_along
  rw [whileR_eq e]
  rfl
theorem kept_eq (k : LAM.Keep) (x : Int) : m_kept_by k x = LAM.kept k x := by
  unfold m_kept_by LAM.kept LAM.kv
  rw [List.map_id']

end DL

local macro_rules
  | `(tactic| unfold dd $ls*) => `(tactic| try simp only [↓DL.dVar_e, ↓DL.dC_e, ↓DL.dOp_e, ↓DL.dUn_e, ↓DL.dB_e, ↓DL.dChain_e, ↓DL.dAnd_e, ↓DL.dOr_e, ↓DL.dNot_e, ↓DL.dAndV_e, ↓DL.dOrV_e, ↓DL.dNotV_e, ↓DL.dIf_e, ↓DL.dNil_e, ↓DL.dCons_e, ↓DL.dTup_e, ↓DL.dLst_e, ↓DL.dCB_e, ↓DL.dNext_e, ↓DL.dSeq_e, ↓DL.dCont_e, ↓DL.dBreak_e, ↓DL.dDrop_e, ↓DL.dRet_e, ↓DL.dRetN_e, ↓DL.dIfS_e, ↓DL.gN_e, ↓DL.gNilD_e, ↓DL.gConsD_e, ↓DL.gT_e, ↓DL.dAsg_e, ↓DL.dPar_e, ↓DL.dPar3_e, ↓DL.dYes_e, ↓DL.dISeq_e, ↓DL.dIRg1_e, ↓DL.dIRg2_e, ↓DL.dIEnum_e, ↓DL.dIZip_e, ↓DL.rIntD_e, ↓DL.rNegD_e, ↓DL.rEq_intF, ↓DL.rEq_intT, ↓DL.rAddD_e, ↓DL.rMulD_e, ↓DL.rIxD_e, ↓DL.rI1_e, ↓DL.rI2_e, ↓DL.rIntCD_e, ↓DL.rSumD_e, ↓DL.rAllD_e, ↓DL.rIsiD_e, ↓DL.rLenD_e, ↓DL.rTupD_e, ↓DL.rLstD_e, ↓DL.rIsN_e, ↓DL.rSlD_e, ↓DL.dSl_e, ↓DL.dNoPart_e, ↓DL.dPart_e, ↓DL.dRev_e, ↓DL.dGet_e, ↓DL.dIn_e, ↓DL.dStore_e, ↓DL.dBM0_e, ↓DL.dBM_e, ↓DL.dDisp_e, ↓DL.mAppend_e, ↓DL.mPop_e, ↓DL.dNewK_e, ↓DL.dNewT_e, ↓DL.dLstM_e, ↓DL.dFrz_e, ↓DL.rReprD_e, ↓DL.rNeS_e, ↓DL.rEqS_e, ↓DL.asB_e, ↓DL.walkD_e, ↓DL.lookD_e, ↓DL.storeD_e, ↓DL.ofTy_e, ↓DL.onLst_e, DL.bodyE, DL.dstart, DL.dPairs, DL.dwipe, DL.keysOf, DL.keyD, DL.isNon, DL.peek_int, DL.peek_bl, DL.peek_non, DL.peek_str, DL.peek_tup, DL.peek_lst, DL.seqOf_tup, DL.seqOf_lst, DL.listOf_lst, DL.tyOf, DL.isTy, DL.atI0, DL.atI1, DL.atI2, DL.atI3, DL.atI4, DL.atI5, DL.dupd_same, DL.dupd_dupd, List.map_cons, List.map_nil, List.length_cons, List.length_nil, List.cons_append, List.nil_append, List.replicate_succ, List.replicate_zero, Nat.reduceAdd, Nat.reduceSub, Nat.zero_add, List.getElem?_cons_zero, List.getElem?_cons_succ, List.set_cons_zero, List.set_cons_succ, true_and, and_true, Int.toNat_natCast, if_true, if_false, Bool.false_eq_true, reduceCtorEq, ne_eq, not_false_eq_true, not_true_eq_false, decide_eq_true_eq, Bool.not_eq_true', decide_eq_false_iff_not, Option.bind_some, Option.map_some, $[$ls:term],*])
local macro_rules
  | `(tactic| unfold d2 $ls*) => `(tactic| try simp only [↓DL.dFor_e, ↓DL.dLc_e, ↓DL.dVar_e, ↓DL.dC_e, ↓DL.dOp_e, ↓DL.dUn_e, ↓DL.dB_e, ↓DL.dChain_e, ↓DL.dAnd_e, ↓DL.dOr_e, ↓DL.dNot_e, ↓DL.dAndV_e, ↓DL.dOrV_e, ↓DL.dNotV_e, ↓DL.dIf_e, ↓DL.dNil_e, ↓DL.dCons_e, ↓DL.dTup_e, ↓DL.dLst_e, ↓DL.dCB_e, ↓DL.dNext_e, ↓DL.dSeq_e, ↓DL.dCont_e, ↓DL.dBreak_e, ↓DL.dDrop_e, ↓DL.dRet_e, ↓DL.dRetN_e, ↓DL.dIfS_e, ↓DL.gN_e, ↓DL.gNilD_e, ↓DL.gConsD_e, ↓DL.gT_e, ↓DL.dAsg_e, ↓DL.dPar_e, ↓DL.dPar3_e, ↓DL.dYes_e, ↓DL.dISeq_e, ↓DL.dIRg1_e, ↓DL.dIRg2_e, ↓DL.dIEnum_e, ↓DL.dIZip_e, ↓DL.rIntD_e, ↓DL.rNegD_e, ↓DL.rEq_intF, ↓DL.rEq_intT, ↓DL.rAddD_e, ↓DL.rMulD_e, ↓DL.rIxD_e, ↓DL.rI1_e, ↓DL.rI2_e, ↓DL.rIntCD_e, ↓DL.rSumD_e, ↓DL.rAllD_e, ↓DL.rIsiD_e, ↓DL.rLenD_e, ↓DL.rTupD_e, ↓DL.rLstD_e, ↓DL.rIsN_e, ↓DL.rSlD_e, ↓DL.dSl_e, ↓DL.dNoPart_e, ↓DL.dPart_e, ↓DL.dRev_e, ↓DL.dGet_e, ↓DL.dIn_e, ↓DL.dStore_e, ↓DL.dBM0_e, ↓DL.dBM_e, ↓DL.dDisp_e, ↓DL.mAppend_e, ↓DL.mPop_e, ↓DL.dNewK_e, ↓DL.dNewT_e, ↓DL.dLstM_e, ↓DL.dFrz_e, ↓DL.rReprD_e, ↓DL.rNeS_e, ↓DL.rEqS_e, ↓DL.asB_e, ↓DL.walkD_e, ↓DL.lookD_e, ↓DL.storeD_e, ↓DL.ofTy_e, ↓DL.onLst_e, DL.bodyE, DL.dstart, DL.dPairs, DL.dwipe, DL.keysOf, DL.keyD, DL.isNon, DL.peek_int, DL.peek_bl, DL.peek_non, DL.peek_str, DL.peek_tup, DL.peek_lst, DL.seqOf_tup, DL.seqOf_lst, DL.listOf_lst, DL.tyOf, DL.isTy, DL.atI0, DL.atI1, DL.atI2, DL.atI3, DL.atI4, DL.atI5, DL.dupd_same, DL.dupd_dupd, List.map_cons, List.map_nil, List.length_cons, List.length_nil, List.cons_append, List.nil_append, List.replicate_succ, List.replicate_zero, Nat.reduceAdd, Nat.reduceSub, Nat.zero_add, List.getElem?_cons_zero, List.getElem?_cons_succ, List.set_cons_zero, List.set_cons_succ, true_and, and_true, Int.toNat_natCast, if_true, if_false, Bool.false_eq_true, reduceCtorEq, ne_eq, not_false_eq_true, not_true_eq_false, decide_eq_true_eq, Bool.not_eq_true', decide_eq_false_iff_not, Option.bind_some, Option.map_some, $[$ls:term],*])
local macro_rules
  | `(tactic| unfold d3 $ls*) => `(tactic| try simp only [↓DL.dLstRg1_e, ↓DL.dLstRg2_e, ↓DL.rSortD_e, ↓DL.rMaxL_e, ↓DL.rMinL_e, ↓DL.tell_F, ↓DL.tell_T, DL.ints_map, DL.bls_map, DL.pairs_map, ↓DL.dFor_e, ↓DL.dLc_e, ↓DL.dVar_e, ↓DL.dC_e, ↓DL.dOp_e, ↓DL.dUn_e, ↓DL.dB_e, ↓DL.dChain_e, ↓DL.dAnd_e, ↓DL.dOr_e, ↓DL.dNot_e, ↓DL.dAndV_e, ↓DL.dOrV_e, ↓DL.dNotV_e, ↓DL.dIf_e, ↓DL.dNil_e, ↓DL.dCons_e, ↓DL.dTup_e, ↓DL.dLst_e, ↓DL.dCB_e, ↓DL.dNext_e, ↓DL.dSeq_e, ↓DL.dCont_e, ↓DL.dBreak_e, ↓DL.dDrop_e, ↓DL.dRet_e, ↓DL.dRetN_e, ↓DL.dIfS_e, ↓DL.gN_e, ↓DL.gNilD_e, ↓DL.gConsD_e, ↓DL.gT_e, ↓DL.dAsg_e, ↓DL.dPar_e, ↓DL.dPar3_e, ↓DL.dYes_e, ↓DL.dISeq_e, ↓DL.dIRg1_e, ↓DL.dIRg2_e, ↓DL.dIEnum_e, ↓DL.dIZip_e, ↓DL.rIntD_e, ↓DL.rNegD_e, ↓DL.rEq_intF, ↓DL.rEq_intT, ↓DL.rAddD_e, ↓DL.rMulD_e, ↓DL.rIxD_e, ↓DL.rI1_e, ↓DL.rI2_e, ↓DL.rIntCD_e, ↓DL.rSumD_e, ↓DL.rAllD_e, ↓DL.rIsiD_e, ↓DL.rLenD_e, ↓DL.rTupD_e, ↓DL.rLstD_e, ↓DL.rIsN_e, ↓DL.rSlD_e, ↓DL.dSl_e, ↓DL.dNoPart_e, ↓DL.dPart_e, ↓DL.dRev_e, ↓DL.dGet_e, ↓DL.dIn_e, ↓DL.dStore_e, ↓DL.dBM0_e, ↓DL.dBM_e, ↓DL.dDisp_e, ↓DL.mAppend_e, ↓DL.mPop_e, ↓DL.dNewK_e, ↓DL.dNewT_e, ↓DL.dLstM_e, ↓DL.dFrz_e, ↓DL.rReprD_e, ↓DL.rNeS_e, ↓DL.rEqS_e, ↓DL.asB_e, ↓DL.walkD_e, ↓DL.lookD_e, ↓DL.storeD_e, ↓DL.ofTy_e, ↓DL.onLst_e, DL.bodyE, DL.dstart, DL.dPairs, DL.dwipe, DL.keysOf, DL.keyD, DL.isNon, DL.peek_int, DL.peek_bl, DL.peek_non, DL.peek_str, DL.peek_tup, DL.peek_lst, DL.seqOf_tup, DL.seqOf_lst, DL.listOf_lst, DL.tyOf, DL.isTy, DL.atI0, DL.atI1, DL.atI2, DL.atI3, DL.atI4, DL.atI5, DL.dupd_same, DL.dupd_dupd, List.map_cons, List.map_nil, List.length_cons, List.length_nil, List.cons_append, List.nil_append, List.replicate_succ, List.replicate_zero, Nat.reduceAdd, Nat.reduceSub, Nat.zero_add, List.getElem?_cons_zero, List.getElem?_cons_succ, List.set_cons_zero, List.set_cons_succ, true_and, and_true, Int.toNat_natCast, if_true, if_false, Bool.false_eq_true, reduceCtorEq, ne_eq, not_false_eq_true, not_true_eq_false, decide_eq_true_eq, Bool.not_eq_true', decide_eq_false_iff_not, Option.bind_some, Option.map_some, $[$ls:term],*])
local macro_rules
  | `(tactic| unfold ob) => `(tactic| first | decide | assumption | omega | exact DL.mulD_l (by omega) (by omega) | exact DL.mulD_r (by omega) (by omega) | (refine DL.size_le4 ?_; (try simp only [List.length_map, DL.rng_length, DL.enumF_length, List.length_cons, List.length_nil, List.length_append, List.length_zip]); omega) | (exact DL.size_le4 (Nat.le_trans (List.length_filter_le _ _) (by (try simp only [List.length_map, DL.rng_length, DL.enumF_length]); omega))) | (unfold DL.inIx; omega) | (unfold DL.inIx; (try simp only [List.length_map, List.length_cons, List.length_nil, List.length_append, List.length_dropLast]); omega) | (simp_all; done))
namespace DL
open PySem PySem.Spec PyProof.Rows L2 DLM
abbrev SSt := LAM.Ways × List Int
noncomputable def spF (keeper : LAM.Keep) (here : Int) (st1 : SSt) (rod : Int × Int) : Ctl (Option LAM.Keep) SSt :=
  bnd (((rod.1 + rod.2) - here) : Int) fun (there : Int) => (if (!decide (there ∈ keysF st1.1)) = true then (if (decide (((m_kept_by (keeper) (there)).length : Int) < (2 : Int))) = true then Ctl.ret ((some (m_moved_along (keeper) ((dputF st1.1 there (some (here, rod)))) (there)))) else Ctl.nxt ((dputF st1.1 there (some (here, rod))), (st1.2 ++ [there]))) else Ctl.nxt (st1.1, st1.2))
noncomputable def spW (keeper : LAM.Keep) (st : SSt) : Ctl (Option LAM.Keep) SSt :=
  bnd (lastD st.2) fun (here : Int) => onR (forR (spF keeper here) (m_kept_by (keeper) (here)) (st.1, (st.2).dropLast)) (fun r => Ctl.ret (r)) (fun st1 => Ctl.nxt (st1.1, st1.2))
theorem spW_eq (keeper : LAM.Keep) (st : SSt) : spW keeper st = onR (forR (spF keeper (lastD st.2)) (m_kept_by keeper (lastD st.2)) (st.1, st.2.dropLast)) (fun r => Ctl.ret r) (fun st1 => Ctl.nxt (st1.1, st1.2)) := (rfl)
theorem spF_eq (keeper : LAM.Keep) (here : Int) (st1 : SSt) (rod : Int × Int) : spF keeper here st1 rod = (if (!decide (LAM.oth rod here ∈ keysF st1.1)) = true then (if (decide (((m_kept_by (keeper) (LAM.oth rod here)).length : Int) < (2 : Int))) = true then Ctl.ret ((some (m_moved_along (keeper) ((dputF st1.1 (LAM.oth rod here) (some (here, rod)))) (LAM.oth rod here)))) else Ctl.nxt ((dputF st1.1 (LAM.oth rod here) (some (here, rod))), (st1.2 ++ [LAM.oth rod here]))) else Ctl.nxt (st1.1, st1.2)) := (rfl)
def ctlP {R S : Type} (N : S → Prop) (P : R → Prop) : Ctl R S → Prop
  | .nxt s => N s
  | .brk _ => False
  | .ret r => P r
def sumP {R S : Type} (P : R → Prop) (N : S → Prop) : R ⊕ S → Prop
  | .inl r => P r
  | .inr s => N s
theorem for_by {α R S : Type} {step : S → α → Ctl R S} (J : List α → S → Prop) (P : R → Prop) : ∀ (ys pre xs : List α) (s0 : S), xs = pre ++ ys → (∀ pre x post s, xs = pre ++ x :: post → J pre s → ctlP (J (pre ++ [x])) P (step s x)) → J pre s0 → sumP P (J xs) (forR step ys s0)
  | [], pre, xs, s0, e, h, h0 => by
    have : xs = pre := by simpa using e
    rw [this]; exact h0
  | y :: ys, pre, xs, s0, e, h, h0 => by
    have := h pre y ys s0 e h0
    simp only [forR]
    cases q : step s0 y with
    | nxt z => rw [q] at this; exact for_by J P ys (pre ++ [y]) xs z (by simp [e]) h this
    | brk z => rw [q] at this; exact this.elim
    | ret r => rw [q] at this; exact this
theorem run_by {α R S : Type} {step : S → α → Ctl R S} (J : List α → S → Prop) (P : R → Prop) : ∀ (ys post pre xs : List α) (s0 s : S), xs = pre ++ ys ++ post → (∀ pre x post s, xs = pre ++ x :: post → J pre s → ctlP (J (pre ++ [x])) P (step s x)) → J pre s0 → runN step ys s0 = some s → J (pre ++ ys) s
  | [], post, pre, xs, s0, s, e, h, h0, hr => by
    simp only [runN, Option.some.injEq] at hr
    rw [List.append_nil, ← hr]; exact h0
  | y :: ys, post, pre, xs, s0, s, e, h, h0, hr => by
    have := h pre y (ys ++ post) s0 (by rw [e]; simp) h0
    simp only [runN] at hr
    cases q : step s0 y with
    | nxt z =>
      rw [q] at this hr
      have := run_by J P ys post (pre ++ [y]) xs z s (by simp [e]) h this hr
      rwa [List.append_assoc] at this
    | brk z => rw [q] at this; exact this.elim
    | ret r => rw [q] at hr; cases hr
structure SpI (n : Int) (k : LAM.Keep) (s b : Int) (st : SSt) : Prop where
  w : LAM.WOk k s b st.1
  line : ∀ x ∈ st.2, x ∈ keysF st.1 ∧ x ≠ b
  two : ∀ x ∈ keysF st.1, x ≠ s → x ≠ b → 2 ≤ (LAM.kept k x).length
  rg : ∀ x ∈ keysF st.1, 0 ≤ x ∧ x < n
  done : ∀ x ∈ keysF st.1, x ≠ b → x ∉ st.2 → ∀ r ∈ LAM.kept k x, LAM.oth r x ∈ keysF st.1
  len : st.2.length + 1 ≤ st.1.length
structure SpJ (n : Int) (k : LAM.Keep) (s b here : Int) (st0 : SSt) (pre : List (Int × Int)) (st : SSt) : Prop where
  w : LAM.WOk k s b st.1
  line : ∀ x ∈ st.2, x ∈ keysF st.1 ∧ x ≠ b
  two : ∀ x ∈ keysF st.1, x ≠ s → x ≠ b → 2 ≤ (LAM.kept k x).length
  rg : ∀ x ∈ keysF st.1, 0 ≤ x ∧ x < n
  done : ∀ x ∈ keysF st.1, x ≠ b → x ∉ st.2 → x ≠ here → ∀ r ∈ LAM.kept k x, LAM.oth r x ∈ keysF st.1
  hi : here ∈ keysF st.1
  hb : here ≠ b
  pre : ∀ r ∈ pre, LAM.oth r here ∈ keysF st.1
  len : st.1.length + st0.2.length = st0.1.length + st.2.length
  le0 : st0.2.length + 2 ≤ st0.1.length
  ge : st0.1.length ≤ st.1.length
/-- what a search tells when it ends well -/
def SpR (n : Int) (k : LAM.Keep) (s b : Int) (r : Option LAM.Keep) : Prop := ∃ k', r = some k' ∧ LAM.KOk n k' ∧ keysF k' = keysF k ∧ ∃ t, t ≠ b ∧ t ≠ s ∧ (LAM.kept k t).length < 2 ∧ ∀ x, (LAM.kept k' x).length + LAM.one (decide (s = x)) = (LAM.kept k x).length + LAM.one (decide (t = x))
theorem len_rg {n : Int} {xs : List Int} (hn : xs.Nodup) (h : ∀ x ∈ xs, 0 ≤ x ∧ x < n) : xs.length ≤ n.toNat := by
  have e : ((rng 0 n).filter fun x => decide (x ∈ xs)).length = xs.length := List.Perm.length_eq ((List.perm_ext_iff_of_nodup ((LAM.rng_nodup 0 n).filter _) hn).mpr fun x => by
    rw [List.mem_filter, mem_rng, decide_eq_true_eq]
    exact ⟨fun q => q.2, fun q => ⟨h x q, q⟩⟩)
  have := List.length_filter_le (fun x => decide (x ∈ xs)) (rng 0 n)
  rw [e] at this
  rwa [show (rng 0 n).length = n.toNat by simp [rng]] at this
theorem sp_chain {n : Int} {k : LAM.Keep} {s b here : Int} {st0 : SSt} {pre : List (Int × Int)} {st : SSt} (hk : LAM.KOk n k) (hsb : s ≠ b) (J : SpJ n k s b here st0 pre st) {rod : Int × Int} (hr : rod ∈ LAM.kept k here) (hn : LAM.oth rod here ∉ keysF st.1) :
    LAM.WOk k s b (dputF st.1 (LAM.oth rod here) (some (here, rod))) ∧ LAM.oth rod here ≠ b ∧ LAM.oth rod here ≠ s ∧ (0 ≤ LAM.oth rod here ∧ LAM.oth rod here < n) ∧ ∃ late', LAM.Chain (dputF st.1 (LAM.oth rod here) (some (here, rod))) (LAM.oth rod here) k late' ∧ LAM.KOk n late' ∧ keysF late' = keysF k ∧ ∀ x, (LAM.kept late' x).length + LAM.one (decide (s = x)) = (LAM.kept k x).length + LAM.one (decide (LAM.oth rod here = x)) := by
  obtain ⟨hr1, hr2⟩ := List.mem_filter.mp hr
  rw [decide_eq_true_eq] at hr2
  have ks := J.w.keys
  have nb : LAM.oth rod here ≠ b := fun e => hn (e ▸ ks.2)
  have ns : LAM.oth rod here ≠ s := fun e => hn (e ▸ ks.1)
  have ow := hk.own rod hr1
  rw [hr2] at ow
  have oo := LAM.oth_oth (hk.rod rod hr1) ow
  rw [LAM.dputF_new _ _ hn]
  have w := LAM.WOk.snoc J.w J.hi J.hb hr1 hr2 hn rfl
  exact ⟨w, nb, ns, oo.2.2, LAM.chain_of hk hsb w _ (by rw [LAM.keysF_app]; simp) nb k hk rfl fun _ _ _ _ => rfl⟩
theorem sp_for {n : Int} {k : LAM.Keep} {s b here : Int} {st0 : SSt} (hk : LAM.KOk n k) (hsb : s ≠ b) : ∀ pre x post st, m_kept_by k here = pre ++ x :: post → SpJ n k s b here st0 pre st → ctlP (SpJ n k s b here st0 (pre ++ [x])) (SpR n k s b) (spF k here st x) := by
  intro pre rod post st e J
  have hr : rod ∈ LAM.kept k here := by rw [← kept_eq, e]; simp
  rw [spF_eq]
  by_cases hm : LAM.oth rod here ∈ keysF st.1
  · simp only [hm, decide_true, Bool.not_true, Bool.false_eq_true, if_false]
    have hp : ∀ r ∈ pre ++ [rod], LAM.oth r here ∈ keysF st.1 := fun r h => by
      rcases List.mem_append.mp h with h | h
      · exact J.pre r h
      · rw [List.mem_singleton.mp h]; exact hm
    exact { J with pre := hp }
  · obtain ⟨w, nb, ns, rg, late', c, k1, k2, k3⟩ := sp_chain hk hsb J hr hm
    simp only [hm, decide_false, Bool.not_false, if_true]
    rw [kept_eq]
    by_cases h2 : (LAM.kept k (LAM.oth rod here)).length < 2
    · rw [if_pos (by rw [decide_eq_true_eq]; omega)]
      exact ⟨late', by rw [moved_eq c], k1, k2, _, nb, ns, h2, k3⟩
    · rw [if_neg (by rw [decide_eq_true_eq]; omega)]
      have kk : keysF (dputF st.1 (LAM.oth rod here) (some (here, rod))) = keysF st.1 ++ [LAM.oth rod here] := by rw [LAM.keysF_put, if_neg hm]
      exact { w := w
              line := fun x hx => by
                rw [kk]
                rcases List.mem_append.mp hx with hx | hx
                · exact ⟨List.mem_append_left _ (J.line x hx).1, (J.line x hx).2⟩
                · rw [List.mem_singleton.mp hx]; exact ⟨by simp, nb⟩
              two := fun x hx xs xb => by
                rw [kk] at hx
                rcases List.mem_append.mp hx with hx | hx
                · exact J.two x hx xs xb
                · rw [List.mem_singleton.mp hx]; omega
              rg := fun x hx => by
                rw [kk] at hx
                rcases List.mem_append.mp hx with hx | hx
                · exact J.rg x hx
                · rw [List.mem_singleton.mp hx]; exact rg
              done := fun x hx xb xl xh r hr => by
                rw [kk] at hx ⊢
                rcases List.mem_append.mp hx with hx | hx
                · exact List.mem_append_left _ (J.done x hx xb (fun h => xl (List.mem_append_left _ h)) xh r hr)
                · exact (xl (List.mem_append_right _ hx)).elim
              hi := by rw [kk]; exact List.mem_append_left _ J.hi
              hb := J.hb
              pre := fun r h => by
                rw [kk]
                rcases List.mem_append.mp h with h | h
                · exact List.mem_append_left _ (J.pre r h)
                · rw [List.mem_singleton.mp h]; simp
              len := by
                have := J.len
                rw [LAM.dputF_new _ _ hm]
                simp only [List.length_append, List.length_singleton]
                omega
              le0 := J.le0
              ge := by
                have := J.ge
                rw [LAM.dputF_new _ _ hm]
                simp only [List.length_append, List.length_singleton]
                omega }
theorem lastD_split {xs : List Int} (h : xs ≠ []) : xs = xs.dropLast ++ [lastD xs] := by
  conv => lhs; rw [← List.dropLast_concat_getLast h]
  unfold lastD
  rw [List.getLast?_eq_some_getLast h]
  rfl
theorem lastD_mem {xs : List Int} (h : xs ≠ []) : lastD xs ∈ xs := by
  have e := lastD_split h
  rw [e]
  have : lastD (xs.dropLast ++ [lastD xs]) = lastD xs := by rw [← e]
  rw [this]
  simp
theorem sp_start {n : Int} {k : LAM.Keep} {s b : Int} {st : SSt} (I : SpI n k s b st) (h : st.2 ≠ []) : SpJ n k s b (lastD st.2) (st.1, st.2.dropLast) [] (st.1, st.2.dropLast) where
  w := I.w
  line x hx := I.line x ((List.dropLast_sublist _).subset hx)
  two := I.two
  rg := I.rg
  done x hx xb xl xh := I.done x hx xb fun hm => by
    rw [lastD_split h] at hm
    rcases List.mem_append.mp hm with hm | hm
    · exact xl hm
    · exact xh (List.mem_singleton.mp hm)
  hi := (I.line _ (lastD_mem h)).1
  hb := (I.line _ (lastD_mem h)).2
  pre r h := by cases h
  len := rfl
  le0 := by
    have := I.len
    have e := congrArg List.length (lastD_split h)
    simp only [List.length_append, List.length_singleton] at e
    show st.2.dropLast.length + 2 ≤ st.1.length
    omega
  ge := Nat.le_refl _
theorem sp_end {n : Int} {k : LAM.Keep} {s b here : Int} {st0 st : SSt} (J : SpJ n k s b here st0 (m_kept_by k here) st) : SpI n k s b st where
  w := J.w
  line := J.line
  two := J.two
  rg := J.rg
  done x hx xb xl r hr := by
    by_cases e : x = here
    · subst e; exact J.pre r (by rw [kept_eq]; exact hr)
    · exact J.done x hx xb xl e r hr
  len := by have := J.len; have := J.le0; omega
theorem sp_base {n : Int} {k : LAM.Keep} {s b : Int} (hs : 0 ≤ s ∧ s < n) (hb : 0 ≤ b ∧ b < n) (hsb : s ≠ b) : SpI n k s b ([(s, none), (b, none)], [s]) where
  w := .base
  line x hx := by rw [List.mem_singleton.mp hx]; exact ⟨by simp [keysF], hsb⟩
  two x hx xs xb := by simp [keysF, xs, xb] at hx
  rg x hx := by
    simp only [keysF, List.map_cons, List.map_nil, List.mem_cons, List.not_mem_nil, or_false] at hx
    rcases hx with rfl | rfl
    · exact hs
    · exact hb
  done x hx xb xl := by
    simp only [keysF, List.map_cons, List.map_nil, List.mem_cons, List.not_mem_nil, or_false] at hx
    rcases hx with rfl | rfl
    · exact (xl (by simp)).elim
    · exact (xb rfl).elim
  len := by simp
theorem SpI.le {n : Int} {k : LAM.Keep} {s b : Int} (hsb : s ≠ b) {st : SSt} (I : SpI n k s b st) : st.1.length ≤ n.toNat := by
  rw [← LAM.keysF_len]; exact len_rg (I.w.nodup hsb) I.rg
theorem sp_while {n : Int} {k : LAM.Keep} {s b : Int} (hk : LAM.KOk n k) (hsb : s ≠ b) : ∀ st, SpI n k s b st → Halts (fun (st : SSt) => (!decide (st.2 = ([] : List Int)))) (spW k) st ∧ sumP (SpR n k s b) (fun st => SpI n k s b st ∧ st.2 = []) (whileR (fun (st : SSt) => (!decide (st.2 = ([] : List Int)))) (spW k) st) := by
  refine while_by (SpI n k s b) (fun st => 2 * (n.toNat - st.1.length) + st.2.length) (sumP (SpR n k s b) fun st => SpI n k s b st ∧ st.2 = []) (fun st I hc => ?_) (fun st I hc => ?_)
  · have hne : st.2 ≠ [] := by simpa using hc
    have f := for_by (step := spF k (lastD st.2)) (SpJ n k s b (lastD st.2) (st.1, st.2.dropLast)) (SpR n k s b) (m_kept_by k (lastD st.2)) [] (m_kept_by k (lastD st.2)) (st.1, st.2.dropLast) (by simp) (sp_for hk hsb) (sp_start I hne)
    rw [spW_eq]
    cases q : forR (spF k (lastD st.2)) (m_kept_by k (lastD st.2)) (st.1, st.2.dropLast) with
    | inl r => rw [q] at f; exact f
    | inr s1 =>
      rw [q] at f
      have I1 := sp_end f
      refine ⟨I1, ?_⟩
      have l1 := I1.le hsb
      have e := congrArg List.length (lastD_split hne)
      have g := f.len
      have g2 := f.ge
      simp only [List.length_append, List.length_singleton] at e g g2
      show 2 * (n.toNat - s1.1.length) + s1.2.length < _
      omega
  · exact ⟨I, by simpa using hc⟩
theorem sp_reach {n : Int} {k : LAM.Keep} {s b : Int} (hk : LAM.KOk n k) (hsb : s ≠ b) {st0 st : SSt} (I0 : SpI n k s b st0) (hr : Reach (fun (st : SSt) => (!decide (st.2 = ([] : List Int)))) (spW k) st0 st) : SpI n k s b st := by
  refine reach_by (SpI n k s b) I0 (fun st s' I hc hs => ?_) st hr
  have hne : st.2 ≠ [] := by simpa using hc
  have f := for_by (step := spF k (lastD st.2)) (SpJ n k s b (lastD st.2) (st.1, st.2.dropLast)) (SpR n k s b) (m_kept_by k (lastD st.2)) [] (m_kept_by k (lastD st.2)) (st.1, st.2.dropLast) (by simp) (sp_for hk hsb) (sp_start I hne)
  rw [spW_eq] at hs
  cases q : forR (spF k (lastD st.2)) (m_kept_by k (lastD st.2)) (st.1, st.2.dropLast) with
  | inl r => rw [q] at hs; cases hs
  | inr s1 =>
    rw [q] at f hs
    cases hs
    exact sp_end f
theorem sp_run {n : Int} {k : LAM.Keep} {s b : Int} (hk : LAM.KOk n k) (hsb : s ≠ b) {st : SSt} (I : SpI n k s b st) (hc : (!decide (st.2 = ([] : List Int))) = true) {pre post : List (Int × Int)} (e : m_kept_by k (lastD st.2) = pre ++ post) {s1 : SSt} (hr : runN (spF k (lastD st.2)) pre (st.1, st.2.dropLast) = some s1) : SpJ n k s b (lastD st.2) (st.1, st.2.dropLast) pre s1 := by
  have hne : st.2 ≠ [] := by simpa using hc
  have := run_by (step := spF k (lastD st.2)) (SpJ n k s b (lastD st.2) (st.1, st.2.dropLast)) (SpR n k s b) pre post [] (m_kept_by k (lastD st.2)) (st.1, st.2.dropLast) s1 (by simpa using e) (sp_for hk hsb) (sp_start I hne) hr
  simpa using this
theorem SpJ.le {n : Int} {k : LAM.Keep} {s b here : Int} {st0 : SSt} {pre : List (Int × Int)} (hsb : s ≠ b) {st : SSt} (J : SpJ n k s b here st0 pre st) : st.1.length ≤ n.toNat ∧ st.2.length ≤ n.toNat := by
  have : st.1.length ≤ n.toNat := by rw [← LAM.keysF_len]; exact len_rg (J.w.nodup hsb) J.rg
  have := J.len
  have := J.le0
  omega
/-- what is asked of a search -/
def SpPre (k : LAM.Keep) (s b : Int) : Prop := ∃ n, n ≤ 12 ∧ LAM.KOk n k ∧ (0 ≤ s ∧ s < n) ∧ (0 ≤ b ∧ b < n) ∧ s ≠ b
theorem sp_at {keeper : LAM.Keep} {joint barred : Int} (h1 : SpPre keeper joint barred) {st : SSt} (hr : Reach (fun (st : SSt) => (!decide (st.2 = ([] : List Int)))) (spW keeper) ([(joint, none), (barred, none)], [joint]) st) (hc : (!decide (st.2 = ([] : List Int))) = true) {here : Int} (hh : here = lastD st.2) {pre post : List (Int × Int)} {rod : Int × Int} {st1 : SSt} (hx : m_kept_by keeper here = pre ++ rod :: post) (hs : runN (spF keeper here) pre (st.1, st.2.dropLast) = some st1) : ∃ n, n ≤ 12 ∧ LAM.KOk n keeper ∧ joint ≠ barred ∧ SpJ n keeper joint barred here (st.1, st.2.dropLast) pre st1 ∧ rod ∈ LAM.kept keeper here := by
  obtain ⟨n, hn, hk, a, b, c⟩ := h1
  subst hh
  exact ⟨n, hn, hk, c, sp_run hk c (sp_reach hk c (sp_base a b c) hr) hc hx hs, by rw [← kept_eq, hx]; simp⟩
/-! ### spared -/
def rd_spared : DS :=
  (dSeq (dPar 3 4 (dCons (dDisp [((dVar 1), (dC .non)), ((dVar 2), (dC .non))]) (dCons (dLstM (dCons (dVar 1) dNil)) dNil)))
    (dSeq (dWhile (dB (dOp (rEqD true) (dVar 4) (dLst dNil))) (dSeq (dAsg (dBM0 "list" mPop (dVar 4)) (gN 5))
    (dFor (dISeq (dCB sp_kept_by (dCons (dVar 0) (dCons (dVar 5) dNil)))) (gN 6) (dSeq (dAsg (dOp (rIntD (fun _ _ => True) fun i j => .int (i - j)) (dOp rAddD (dOp rIxD (dVar 6) (dC (.int 0))) (dOp rIxD (dVar 6) (dC (.int 1)))) (dVar 5)) (gN 7))
    (dIfS (dB (dIn true (dVar 7) (dVar 3))) (dSeq (dStore (dVar 3) (dVar 7) (dTup (dCons (dVar 5) (dCons (dVar 6) dNil))))
    (dSeq (dDrop (dBM "list" mAppend (dVar 4) (dCons (dVar 7) dNil)))
    (dIfS (dB (dOp (rIntD (fun _ _ => True) fun i j => .bl (decide (i < j))) (dCB rLenD (dCons (dCB sp_kept_by (dCons (dVar 0) (dCons (dVar 7) dNil))) dNil)) (dC (.int 2)))) (dRet (dCB sp_moved_along (dCons (dVar 0) (dCons (dVar 3) (dCons (dVar 7) dNil))))) dNext))) dNext)))))
    (dRet (dC .non))))
noncomputable def m_spared (keeper : (List ((Int × Int) × Int))) (joint : Int) (barred : Int) : (Option (List ((Int × Int) × Int))) :=
  onR (whileR (fun (st : ((List (Int × (Option (Int × (Int × Int))))) × (List Int))) => (!decide (st.2 = ([] : List Int)))) (fun (st : ((List (Int × (Option (Int × (Int × Int))))) × (List Int))) => (bnd (lastD st.2) fun (here : Int) => onR (forR (fun (st1 : ((List (Int × (Option (Int × (Int × Int))))) × (List Int))) (rod : (Int × Int)) => (bnd (((rod.1 + rod.2) - here) : Int) fun (there : Int) => (if (!decide (there ∈ keysF st1.1)) = true then (if (decide (((m_kept_by (keeper) (there)).length : Int) < (2 : Int))) = true then Ctl.ret ((some (m_moved_along (keeper) ((dputF st1.1 there (some (here, rod)))) (there)))) else Ctl.nxt ((dputF st1.1 there (some (here, rod))), (st1.2 ++ [there]))) else Ctl.nxt (st1.1, st1.2)) : Ctl (Option (List ((Int × Int) × Int))) ((List (Int × (Option (Int × (Int × Int))))) × (List Int)))) (m_kept_by (keeper) (here)) (st.1, (st.2).dropLast)) (fun r => Ctl.ret (r)) (fun (st1 : ((List (Int × (Option (Int × (Int × Int))))) × (List Int))) => Ctl.nxt (st1.1, st1.2)) : Ctl (Option (List ((Int × Int) × Int))) ((List (Int × (Option (Int × (Int × Int))))) × (List Int)))) (([(joint, none), (barred, none)] : List (Int × (Option (Int × (Int × Int))))), ([joint] : List Int))) (fun r => r) (fun (st : ((List (Int × (Option (Int × (Int × Int))))) × (List Int))) => none)
def sp_spared : DSp := fun ds DH Q => ∃ (keeper : (List ((Int × Int) × Int))) (p_keeper : Addr) (joint : Int) (barred : Int), ds = [.ref p_keeper, eI joint, eI barred] ∧ (DH p_keeper = some (oD (eTup (cc eI (c1 eI))) eI keeper)) ∧ (keeper.length ≤ 1000) ∧ (SpPre keeper joint barred) ∧ (∀ d H', RPo (eTup (cc eI (c1 eI))) eI DH (m_spared keeper joint barred) d H' → Q d H')
theorem call_spared {DH : DHp} (keeper : (List ((Int × Int) × Int))) (p_keeper : Addr) (hp_keeper : DH p_keeper = some (oD (eTup (cc eI (c1 eI))) eI keeper)) (joint : Int) (barred : Int) (h0 : keeper.length ≤ 1000) (h1 : SpPre keeper joint barred) {K : DK} (k : ∀ d H', RPo (eTup (cc eI (c1 eI))) eI DH (m_spared keeper joint barred) d H' → K d H') : sp_spared [.ref p_keeper, eI joint, eI barred] DH K := ⟨keeper, p_keeper, joint, barred, rfl, hp_keeper, h0, h1, k⟩
set_option maxHeartbeats 0 in
theorem spared_ok {ds : List D} {DH : DHp} {Q : DK} (h : sp_spared ds DH Q) : rd_spared (bodyE Q) (dstart ["keeper", "joint", "barred", "ways", "line", "here", "rod", "there"] ds) DH := by
  obtain ⟨keeper, p_keeper, joint, barred, rfl, hp_keeper, h0, h1, hQ⟩ := h
  replace hQ : Tk (fun r => ∀ d H', RPo (eTup (cc eI (c1 eI))) eI DH r d H' → (bodyE Q).rt d H') (m_spared keeper joint barred) := rpd hQ
  have hs := DSub.refl DH
  unfold rd_spared
  unfold m_spared at hQ
  show (_ : DS) _ [some (.ref p_keeper), some (eI joint), some (eI barred), none, none, none, none, none] _
  refine n_par ?_
  refine x_cons ?_
  refine x_disp (eO (eTup (cc eI (c1 (eTup (cc eI (c1 eI))))))) _ [(joint, none), (barred, none)] ⟨fun H1 hs1 => ⟨(evd (eI joint) (ev_var rfl)), (evd ((eO (eTup (cc eI (c1 (eTup (cc eI (c1 eI))))))) none) ev_c)⟩, ⟨fun H1 hs1 => ⟨(evd (eI barred) (ev_var rfl)), (evd ((eO (eTup (cc eI (c1 (eTup (cc eI (c1 eI))))))) none) ev_c)⟩, trivial⟩⟩ (by obtain ⟨n, hn, hk, a, b, c⟩ := h1; simp [keysF, c]) (by simp) (fun p_ways H' hn0 hp_ways hf => ?_)
  have hn_p_ways := dsub_none hs hn0
  have hne_p_keeper_p_ways := ne_none hn0 hp_keeper
  have hne_p_ways_p_keeper := ne_none' hn0 hp_keeper
  replace hp_keeper := (hf _ hne_p_keeper_p_ways).trans hp_keeper
  have hs := dsub_fr hs hn_p_ways hf
  refine x_cons ?_
  refine x_newL eI [joint] (ea_cons (evd (eI joint) (ev_var rfl)) ea_nil) (size_le4 (by simp)) (fun p_line H_1 hn01 hp_line hf1 => ?_)
  have hn_p_line := dsub_none hs hn01
  have hne_p_keeper_p_line := ne_none hn01 hp_keeper
  have hne_p_line_p_keeper := ne_none' hn01 hp_keeper
  replace hp_keeper := (hf1 _ hne_p_keeper_p_line).trans hp_keeper
  have hne_p_ways_p_line := ne_none hn01 hp_ways
  have hne_p_line_p_ways := ne_none' hn01 hp_ways
  replace hp_ways := (hf1 _ hne_p_ways_p_line).trans hp_ways
  have hs := dsub_fr hs hn_p_line hf1
  refine x_nil ?_
  refine n_as2 ?_
  show (_ : DS) _ [some (.ref p_keeper), some (eI joint), some (eI barred), some (.ref p_ways), some (.ref p_line), none, none, none] _
  refine s_whileR (RPo (eTup (cc eI (c1 eI))) eI DH) (fun (st : ((List (Int × (Option (Int × (Int × Int))))) × (List Int))) => (!decide (st.2 = ([] : List Int)))) (fun (st : ((List (Int × (Option (Int × (Int × Int))))) × (List Int))) => bnd (lastD st.2) fun (here : Int) => onR (forR (fun (st1 : ((List (Int × (Option (Int × (Int × Int))))) × (List Int))) (rod : (Int × Int)) => (bnd (((rod.1 + rod.2) - here) : Int) fun (there : Int) => (if (!decide (there ∈ keysF st1.1)) = true then (if (decide (((m_kept_by (keeper) (there)).length : Int) < (2 : Int))) = true then Ctl.ret ((some (m_moved_along (keeper) ((dputF st1.1 there (some (here, rod)))) (there)))) else Ctl.nxt ((dputF st1.1 there (some (here, rod))), (st1.2 ++ [there]))) else Ctl.nxt (st1.1, st1.2)) : Ctl (Option (List ((Int × Int) × Int))) ((List (Int × (Option (Int × (Int × Int))))) × (List Int)))) (m_kept_by (keeper) (here)) (st.1, (st.2).dropLast)) (fun r => Ctl.ret (r)) (fun (st1 : ((List (Int × (Option (Int × (Int × Int))))) × (List Int))) => Ctl.nxt (st1.1, st1.2))) (([(joint, none), (barred, none)] : List (Int × (Option (Int × (Int × Int))))), ([joint] : List Int)) (fun (st : ((List (Int × (Option (Int × (Int × Int))))) × (List Int))) τ' H' => ∃ t5 t6 t7 : Option D, τ' = [some (.ref p_keeper), some (eI joint), some (eI barred), some (.ref p_ways), some (.ref p_line), t5, t6, t7] ∧ DSub DH H' ∧ H' p_keeper = some (oD (eTup (cc eI (c1 eI))) eI keeper) ∧ H' p_ways = some (oD eI (eO (eTup (cc eI (c1 (eTup (cc eI (c1 eI))))))) st.1) ∧ H' p_line = some (.lst (st.2.map eI))) hQ (by obtain ⟨n, hn, hk, a, b, c⟩ := h1; exact (sp_while hk c _ (sp_base a b c)).1) ⟨_, _, _, rfl, hs, hp_keeper, hp_ways, hp_line⟩ (fun st τ' H' hr_st hst => ?_) (fun st τ' H' hr_st hc_st hst E' hQ => ?_) (fun r d H' hrp hr hQ => ?_) (fun st τ' H' hst hs_st hQ => ?_)
  · obtain ⟨t5, t6, t7, rfl, hs, hp_keeper, hp_ways, hp_line⟩ := hst
    exact (et_b (ev_op (ev_var rfl) (evd ((eL eI) ([] : List Int)) (ev_lstK 0 ea_nil rfl (by decide))) (r_ne (e := (eL eI)) (x := st.2) (y := ([] : List Int)) (by decide) (peekR hp_line) rfl)))
  · obtain ⟨t5, t6, t7, rfl, hs, hp_keeper, hp_ways, hp_line⟩ := hst
    show (_ : DS) _ [some (.ref p_keeper), some (eI joint), some (eI barred), some (.ref p_ways), some (.ref p_line), t5, t6, t7] _
    refine s_pop (xs := st.2) eI hQ rfl hp_line (by unfold ob) (fun here H_2 h_here hp_line' hf2 hQ => ?_)
    have hs := dsub_fr hs hn_p_line hf2
    replace hp_keeper := (hf2 _ hne_p_keeper_p_line).trans hp_keeper
    replace hp_ways := (hf2 _ hne_p_ways_p_line).trans hp_ways
    skip
    show (_ : DS) _ [some (.ref p_keeper), some (eI joint), some (eI barred), some (.ref p_ways), some (.ref p_line), some (eI here), t6, t7] _
    refine s_last ?_
    refine s_forR (eTup (cc eI (c1 eI))) (RPo (eTup (cc eI (c1 eI))) eI DH) (m_kept_by (keeper) (here)) (fun (st1 : ((List (Int × (Option (Int × (Int × Int))))) × (List Int))) (rod : (Int × Int)) => bnd (((rod.1 + rod.2) - here) : Int) fun (there : Int) => (if (!decide (there ∈ keysF st1.1)) = true then (if (decide (((m_kept_by (keeper) (there)).length : Int) < (2 : Int))) = true then Ctl.ret ((some (m_moved_along (keeper) ((dputF st1.1 there (some (here, rod)))) (there)))) else Ctl.nxt ((dputF st1.1 there (some (here, rod))), (st1.2 ++ [there]))) else Ctl.nxt (st1.1, st1.2))) (st.1, (st.2).dropLast) (fun (st1 : ((List (Int × (Option (Int × (Int × Int))))) × (List Int))) τ' H' => ∃ t6 t7 : Option D, τ' = [some (.ref p_keeper), some (eI joint), some (eI barred), some (.ref p_ways), some (.ref p_line), some (eI here), t6, t7] ∧ DSub DH H' ∧ H' p_keeper = some (oD (eTup (cc eI (c1 eI))) eI keeper) ∧ H' p_ways = some (oD eI (eO (eTup (cc eI (c1 (eTup (cc eI (c1 eI))))))) st1.1) ∧ H' p_line = some (.lst (st1.2.map eI))) hQ (ei_L (e := (eTup (cc eI (c1 eI)))) (xs := (m_kept_by (keeper) (here))) (evd ((eL (eTup (cc eI (c1 eI)))) (m_kept_by (keeper) (here))) (ev_cb (ea_cons (show Ev _ _ _ (.ref p_keeper) from ev_var rfl) (ea_cons (evd (eI here) (ev_var rfl)) ea_nil)) (call_kept_by (keeper) p_keeper hp_keeper (here) (by unfold ob))))) (fun st1 τ' H' h => trivial) ⟨_, _, rfl, hs, hp_keeper, hp_ways, hp_line'⟩ (fun pre rod post st1 τ' H' hx_st1 hs_st1 hst E_1 hQ => ?_) (fun r d H' hrp hr hQ => ?_) (fun st1 τ' H' hst hs_st1 hQ => ?_)
    · obtain ⟨t6, t7, rfl, hs, hp_keeper, hp_ways, hp_line'⟩ := hst
      have hm_rod : rod ∈ (m_kept_by (keeper) (here)) := by rw [hx_st1]; simp
      refine (show Gv _ ((eTup (cc eI (c1 eI))) rod) _ _ _ from gv_N) _ ?_
      show (_ : DS) _ [some (.ref p_keeper), some (eI joint), some (eI barred), some (.ref p_ways), some (.ref p_line), some (eI here), some ((eTup (cc eI (c1 eI))) rod), t7] _
      refine s_asg eI hQ (evd (eI ((rod.1 + rod.2) - here)) (ev_op (ev_op (ev_op (evd ((eTup (cc eI (c1 eI))) rod) (ev_var rfl)) ev_c (r_ixP (d := eI rod.1) rfl)) (ev_op (evd ((eTup (cc eI (c1 eI))) rod) (ev_var rfl)) ev_c (r_ixP (d := eI rod.2) rfl)) r_add) (ev_var rfl) r_sub)) (fun there h_there hQ => ?_)
      show (_ : DS) _ [some (.ref p_keeper), some (eI joint), some (eI barred), some (.ref p_ways), some (.ref p_line), some (eI here), some ((eTup (cc eI (c1 eI))) rod), some (eI there)] _
      refine s_last ?_
      refine s_if (b := (!decide (there ∈ keysF st1.1))) hQ (et_b (ev_dnin (e := eI) (ve := (eO (eTup (cc eI (c1 (eTup (cc eI (c1 eI)))))))) (kvs := st1.1) (k := there) (evd (eI there) (ev_var rfl)) (ev_var rfl) (.inl hp_ways))) (fun hc hQ => ?_) (fun hc hQ => ?_)
      · skip
        show (_ : DS) _ [some (.ref p_keeper), some (eI joint), some (eI barred), some (.ref p_ways), some (.ref p_line), some (eI here), some ((eTup (cc eI (c1 eI))) rod), some (eI there)] _
        refine s_assoc ?_
        refine n_store ?_
        refine x_ev (evd ((eO (eTup (cc eI (c1 (eTup (cc eI (c1 eI))))))) (some (here, rod))) (ev_tupK 2 (ea_cons (evd (eI here) (ev_var rfl)) (ea_cons (evd ((eTup (cc eI (c1 eI))) rod) (ev_var rfl)) ea_nil)) rfl (by decide))) ?_
        refine x_ev (ev_var rfl : Ev _ _ _ (.ref p_ways)) ?_
        refine x_ev (evd (eI there) (ev_var rfl)) ?_
        refine n_stD (e := eI) (ve := (eO (eTup (cc eI (c1 (eTup (cc eI (c1 eI)))))))) (kvs := st1.1) (k := there) (v := (some (here, rod))) hp_ways (by obtain ⟨n, hn, hk, c, J, hm⟩ := sp_at h1 hr_st hc_st h_here hx_st1 hs_st1; exact Nat.lt_of_le_of_lt (Nat.le_trans (J.le c).1 (show n.toNat ≤ 12 by omega)) (by decide)) (fun H_3 hp_ hf3 => ?_)
        have hs := dsub_fr hs hn_p_ways hf3
        replace hp_keeper := (hf3 _ hne_p_keeper_p_ways).trans hp_keeper
        replace hp_line' := (hf3 _ hne_p_line_p_ways).trans hp_line'
        show (_ : DS) _ [some (.ref p_keeper), some (eI joint), some (eI barred), some (.ref p_ways), some (.ref p_line), some (eI here), some ((eTup (cc eI (c1 eI))) rod), some (eI there)] _
        refine s_assoc ?_
        refine s_app (xs := st1.2) (v := there) eI rfl hp_line' (evd (eI there) (ev_var rfl)) (by obtain ⟨n, hn, hk, c, J, hm⟩ := sp_at h1 hr_st hc_st h_here hx_st1 hs_st1; exact Nat.lt_of_le_of_lt (Nat.le_trans (J.le c).2 (show n.toNat ≤ 12 by omega)) (by decide)) (fun H_4 hp_1 hf4 => ?_)
        have hs := dsub_fr hs hn_p_line hf4
        replace hp_keeper := (hf4 _ hne_p_keeper_p_line).trans hp_keeper
        replace hp_ := (hf4 _ hne_p_ways_p_line).trans hp_
        show (_ : DS) _ [some (.ref p_keeper), some (eI joint), some (eI barred), some (.ref p_ways), some (.ref p_line), some (eI here), some ((eTup (cc eI (c1 eI))) rod), some (eI there)] _
        refine s_if (b := (decide (((m_kept_by (keeper) (there)).length : Int) < (2 : Int)))) hQ (et_b (ev_op (ev_cb (ea_cons (evd ((eL (eTup (cc eI (c1 eI)))) (m_kept_by (keeper) (there))) (ev_cb (ea_cons (show Ev _ _ _ (.ref p_keeper) from ev_var rfl) (ea_cons (evd (eI there) (ev_var rfl)) ea_nil)) (call_kept_by (keeper) p_keeper hp_keeper (there) (by unfold ob)))) ea_nil) (c_len (e := (eTup (cc eI (c1 eI)))) (xs := (m_kept_by (keeper) (there))) seqL)) ev_c r_lt)) (fun hc1 hQ => ?_) (fun hc1 hQ => ?_)
        · skip
          show (_ : DS) _ [some (.ref p_keeper), some (eI joint), some (eI barred), some (.ref p_ways), some (.ref p_line), some (eI here), some ((eTup (cc eI (c1 eI))) rod), some (eI there)] _
          refine s_retX ?_
          refine x_cb ?_
          refine x_cons ?_
          refine x_ev (show Ev _ _ _ (.ref p_keeper) from ev_var rfl) ?_
          refine x_cons ?_
          refine x_ev (show Ev _ _ _ (.ref p_ways) from ev_var rfl) ?_
          refine x_cons ?_
          refine x_ev (evd (eI there) (ev_var rfl)) ?_
          refine x_nil ?_
          refine call_moved_along (keeper) p_keeper (hp_keeper) ((dputF st1.1 there (some (here, rod)))) p_ways (hp_) (there) (by unfold ob) (by obtain ⟨n, hn, hk, c, J, hm⟩ := sp_at h1 hr_st hc_st h_here hx_st1 hs_st1; subst h_there; obtain ⟨_, _, _, _, l, ch, _⟩ := sp_chain hk c J hm (show ¬ (rod.1 + rod.2 - here ∈ keysF st1.1) by simpa using hc); exact ⟨l, ch⟩) (by obtain ⟨n, hn, hk, a, b, c⟩ := h1; exact LAM.kok_apart hn hk) (fun d H' hr => ?_)
          obtain ⟨q, rfl, hq, hs2, hn0⟩ := hr
          exact s_skipR (out_ret hQ (show RPo _ _ _ (some (m_moved_along (keeper) ((dputF st1.1 there (some (here, rod)))) (there))) _ _ from ⟨_, rfl, hq, DSub.trans hs hs2, dsub_none hs hn0⟩))
        · skip
          refine s_skip ?_
          exact out_nx hQ ⟨_, _, rfl, hs, hp_keeper, hp_, hp_1⟩
      · skip
        refine s_skip ?_
        exact out_nx hQ ⟨_, _, rfl, hs, hp_keeper, hp_ways, hp_line'⟩
    · exact out_ret hQ hrp
    · obtain ⟨t6, t7, rfl, hs, hp_keeper, hp_ways, hp_line'⟩ := hst
      exact out_nx hQ ⟨_, _, _, rfl, hs, hp_keeper, hp_ways, hp_line'⟩
  · exact tk_rt hQ hrp
  · obtain ⟨t5, t6, t7, rfl, hs, hp_keeper, hp_ways, hp_line⟩ := hst
    show (_ : DS) _ [some (.ref p_keeper), some (eI joint), some (eI barred), some (.ref p_ways), some (.ref p_line), t5, t6, t7] _
    refine s_last ?_
    exact s_ret (evd .non ev_c) (tk_rt hQ (show RPo _ _ _ none _ _ from ⟨rfl, hs⟩))
/-- what a search tells -/
theorem spared_law {n : Int} {k : LAM.Keep} {s b : Int} (hk : LAM.KOk n k) (hs : 0 ≤ s ∧ s < n) (hb : 0 ≤ b ∧ b < n) (hsb : s ≠ b) (hF : LAM.Free n (keysF k)) (h1 : 1 ≤ (LAM.kept k s).length) : (m_spared k s b = none ∧ ∃ p, LAM.Tight n (keysF k) p ∧ p s = true ∧ p b = true) ∨ SpR n k s b (m_spared k s b) := by
  have w := (sp_while hk hsb _ (sp_base hs hb hsb)).2
  have e : m_spared k s b = onR (whileR (fun (st : SSt) => (!decide (st.2 = ([] : List Int)))) (spW k) ([(s, none), (b, none)], [s])) (fun r => r) (fun _ => none) := (rfl)
  rw [e]
  cases q : whileR (fun (st : SSt) => (!decide (st.2 = ([] : List Int)))) (spW k) ([(s, none), (b, none)], [s]) with
  | inl r => rw [q] at w; exact .inr w
  | inr st =>
    rw [q] at w
    obtain ⟨I, l⟩ := w
    refine .inl ⟨rfl, fun x => decide (x ∈ keysF st.1), ?_, by simpa using I.w.keys.1, by simpa using I.w.keys.2⟩
    exact LAM.none_spared hk hF hsb (I.w.nodup hsb) I.w.keys.1 I.w.keys.2 I.rg I.two h1 fun x hx xb r hr => I.done x hx xb (by rw [l]; exact List.not_mem_nil) r hr

end DL

local macro_rules
  | `(tactic| unfold dd $ls*) => `(tactic| try simp only [↓DL.dVar_e, ↓DL.dC_e, ↓DL.dOp_e, ↓DL.dUn_e, ↓DL.dB_e, ↓DL.dChain_e, ↓DL.dAnd_e, ↓DL.dOr_e, ↓DL.dNot_e, ↓DL.dAndV_e, ↓DL.dOrV_e, ↓DL.dNotV_e, ↓DL.dIf_e, ↓DL.dNil_e, ↓DL.dCons_e, ↓DL.dTup_e, ↓DL.dLst_e, ↓DL.dCB_e, ↓DL.dNext_e, ↓DL.dSeq_e, ↓DL.dCont_e, ↓DL.dBreak_e, ↓DL.dDrop_e, ↓DL.dRet_e, ↓DL.dRetN_e, ↓DL.dIfS_e, ↓DL.gN_e, ↓DL.gNilD_e, ↓DL.gConsD_e, ↓DL.gT_e, ↓DL.dAsg_e, ↓DL.dPar_e, ↓DL.dPar3_e, ↓DL.dYes_e, ↓DL.dISeq_e, ↓DL.dIRg1_e, ↓DL.dIRg2_e, ↓DL.dIEnum_e, ↓DL.dIZip_e, ↓DL.rIntD_e, ↓DL.rNegD_e, ↓DL.rEq_intF, ↓DL.rEq_intT, ↓DL.rAddD_e, ↓DL.rMulD_e, ↓DL.rIxD_e, ↓DL.rI1_e, ↓DL.rI2_e, ↓DL.rIntCD_e, ↓DL.rSumD_e, ↓DL.rAllD_e, ↓DL.rIsiD_e, ↓DL.rLenD_e, ↓DL.rTupD_e, ↓DL.rLstD_e, ↓DL.rIsN_e, ↓DL.rSlD_e, ↓DL.dSl_e, ↓DL.dNoPart_e, ↓DL.dPart_e, ↓DL.dRev_e, ↓DL.dGet_e, ↓DL.dIn_e, ↓DL.dStore_e, ↓DL.dBM0_e, ↓DL.dBM_e, ↓DL.dDisp_e, ↓DL.mAppend_e, ↓DL.mPop_e, ↓DL.dNewK_e, ↓DL.dNewT_e, ↓DL.dLstM_e, ↓DL.dFrz_e, ↓DL.rReprD_e, ↓DL.rNeS_e, ↓DL.rEqS_e, ↓DL.asB_e, ↓DL.walkD_e, ↓DL.lookD_e, ↓DL.storeD_e, ↓DL.ofTy_e, ↓DL.onLst_e, DL.bodyE, DL.dstart, DL.dPairs, DL.dwipe, DL.keysOf, DL.keyD, DL.isNon, DL.peek_int, DL.peek_bl, DL.peek_non, DL.peek_str, DL.peek_tup, DL.peek_lst, DL.seqOf_tup, DL.seqOf_lst, DL.listOf_lst, DL.tyOf, DL.isTy, DL.atI0, DL.atI1, DL.atI2, DL.atI3, DL.atI4, DL.atI5, DL.dupd_same, DL.dupd_dupd, List.map_cons, List.map_nil, List.length_cons, List.length_nil, List.cons_append, List.nil_append, List.replicate_succ, List.replicate_zero, Nat.reduceAdd, Nat.reduceSub, Nat.zero_add, List.getElem?_cons_zero, List.getElem?_cons_succ, List.set_cons_zero, List.set_cons_succ, true_and, and_true, Int.toNat_natCast, if_true, if_false, Bool.false_eq_true, reduceCtorEq, ne_eq, not_false_eq_true, not_true_eq_false, decide_eq_true_eq, Bool.not_eq_true', decide_eq_false_iff_not, Option.bind_some, Option.map_some, $[$ls:term],*])
local macro_rules
  | `(tactic| unfold d2 $ls*) => `(tactic| try simp only [↓DL.dFor_e, ↓DL.dLc_e, ↓DL.dVar_e, ↓DL.dC_e, ↓DL.dOp_e, ↓DL.dUn_e, ↓DL.dB_e, ↓DL.dChain_e, ↓DL.dAnd_e, ↓DL.dOr_e, ↓DL.dNot_e, ↓DL.dAndV_e, ↓DL.dOrV_e, ↓DL.dNotV_e, ↓DL.dIf_e, ↓DL.dNil_e, ↓DL.dCons_e, ↓DL.dTup_e, ↓DL.dLst_e, ↓DL.dCB_e, ↓DL.dNext_e, ↓DL.dSeq_e, ↓DL.dCont_e, ↓DL.dBreak_e, ↓DL.dDrop_e, ↓DL.dRet_e, ↓DL.dRetN_e, ↓DL.dIfS_e, ↓DL.gN_e, ↓DL.gNilD_e, ↓DL.gConsD_e, ↓DL.gT_e, ↓DL.dAsg_e, ↓DL.dPar_e, ↓DL.dPar3_e, ↓DL.dYes_e, ↓DL.dISeq_e, ↓DL.dIRg1_e, ↓DL.dIRg2_e, ↓DL.dIEnum_e, ↓DL.dIZip_e, ↓DL.rIntD_e, ↓DL.rNegD_e, ↓DL.rEq_intF, ↓DL.rEq_intT, ↓DL.rAddD_e, ↓DL.rMulD_e, ↓DL.rIxD_e, ↓DL.rI1_e, ↓DL.rI2_e, ↓DL.rIntCD_e, ↓DL.rSumD_e, ↓DL.rAllD_e, ↓DL.rIsiD_e, ↓DL.rLenD_e, ↓DL.rTupD_e, ↓DL.rLstD_e, ↓DL.rIsN_e, ↓DL.rSlD_e, ↓DL.dSl_e, ↓DL.dNoPart_e, ↓DL.dPart_e, ↓DL.dRev_e, ↓DL.dGet_e, ↓DL.dIn_e, ↓DL.dStore_e, ↓DL.dBM0_e, ↓DL.dBM_e, ↓DL.dDisp_e, ↓DL.mAppend_e, ↓DL.mPop_e, ↓DL.dNewK_e, ↓DL.dNewT_e, ↓DL.dLstM_e, ↓DL.dFrz_e, ↓DL.rReprD_e, ↓DL.rNeS_e, ↓DL.rEqS_e, ↓DL.asB_e, ↓DL.walkD_e, ↓DL.lookD_e, ↓DL.storeD_e, ↓DL.ofTy_e, ↓DL.onLst_e, DL.bodyE, DL.dstart, DL.dPairs, DL.dwipe, DL.keysOf, DL.keyD, DL.isNon, DL.peek_int, DL.peek_bl, DL.peek_non, DL.peek_str, DL.peek_tup, DL.peek_lst, DL.seqOf_tup, DL.seqOf_lst, DL.listOf_lst, DL.tyOf, DL.isTy, DL.atI0, DL.atI1, DL.atI2, DL.atI3, DL.atI4, DL.atI5, DL.dupd_same, DL.dupd_dupd, List.map_cons, List.map_nil, List.length_cons, List.length_nil, List.cons_append, List.nil_append, List.replicate_succ, List.replicate_zero, Nat.reduceAdd, Nat.reduceSub, Nat.zero_add, List.getElem?_cons_zero, List.getElem?_cons_succ, List.set_cons_zero, List.set_cons_succ, true_and, and_true, Int.toNat_natCast, if_true, if_false, Bool.false_eq_true, reduceCtorEq, ne_eq, not_false_eq_true, not_true_eq_false, decide_eq_true_eq, Bool.not_eq_true', decide_eq_false_iff_not, Option.bind_some, Option.map_some, $[$ls:term],*])
local macro_rules
  | `(tactic| unfold d3 $ls*) => `(tactic| try simp only [↓DL.dLstRg1_e, ↓DL.dLstRg2_e, ↓DL.rSortD_e, ↓DL.rMaxL_e, ↓DL.rMinL_e, ↓DL.tell_F, ↓DL.tell_T, DL.ints_map, DL.bls_map, DL.pairs_map, ↓DL.dFor_e, ↓DL.dLc_e, ↓DL.dVar_e, ↓DL.dC_e, ↓DL.dOp_e, ↓DL.dUn_e, ↓DL.dB_e, ↓DL.dChain_e, ↓DL.dAnd_e, ↓DL.dOr_e, ↓DL.dNot_e, ↓DL.dAndV_e, ↓DL.dOrV_e, ↓DL.dNotV_e, ↓DL.dIf_e, ↓DL.dNil_e, ↓DL.dCons_e, ↓DL.dTup_e, ↓DL.dLst_e, ↓DL.dCB_e, ↓DL.dNext_e, ↓DL.dSeq_e, ↓DL.dCont_e, ↓DL.dBreak_e, ↓DL.dDrop_e, ↓DL.dRet_e, ↓DL.dRetN_e, ↓DL.dIfS_e, ↓DL.gN_e, ↓DL.gNilD_e, ↓DL.gConsD_e, ↓DL.gT_e, ↓DL.dAsg_e, ↓DL.dPar_e, ↓DL.dPar3_e, ↓DL.dYes_e, ↓DL.dISeq_e, ↓DL.dIRg1_e, ↓DL.dIRg2_e, ↓DL.dIEnum_e, ↓DL.dIZip_e, ↓DL.rIntD_e, ↓DL.rNegD_e, ↓DL.rEq_intF, ↓DL.rEq_intT, ↓DL.rAddD_e, ↓DL.rMulD_e, ↓DL.rIxD_e, ↓DL.rI1_e, ↓DL.rI2_e, ↓DL.rIntCD_e, ↓DL.rSumD_e, ↓DL.rAllD_e, ↓DL.rIsiD_e, ↓DL.rLenD_e, ↓DL.rTupD_e, ↓DL.rLstD_e, ↓DL.rIsN_e, ↓DL.rSlD_e, ↓DL.dSl_e, ↓DL.dNoPart_e, ↓DL.dPart_e, ↓DL.dRev_e, ↓DL.dGet_e, ↓DL.dIn_e, ↓DL.dStore_e, ↓DL.dBM0_e, ↓DL.dBM_e, ↓DL.dDisp_e, ↓DL.mAppend_e, ↓DL.mPop_e, ↓DL.dNewK_e, ↓DL.dNewT_e, ↓DL.dLstM_e, ↓DL.dFrz_e, ↓DL.rReprD_e, ↓DL.rNeS_e, ↓DL.rEqS_e, ↓DL.asB_e, ↓DL.walkD_e, ↓DL.lookD_e, ↓DL.storeD_e, ↓DL.ofTy_e, ↓DL.onLst_e, DL.bodyE, DL.dstart, DL.dPairs, DL.dwipe, DL.keysOf, DL.keyD, DL.isNon, DL.peek_int, DL.peek_bl, DL.peek_non, DL.peek_str, DL.peek_tup, DL.peek_lst, DL.seqOf_tup, DL.seqOf_lst, DL.listOf_lst, DL.tyOf, DL.isTy, DL.atI0, DL.atI1, DL.atI2, DL.atI3, DL.atI4, DL.atI5, DL.dupd_same, DL.dupd_dupd, List.map_cons, List.map_nil, List.length_cons, List.length_nil, List.cons_append, List.nil_append, List.replicate_succ, List.replicate_zero, Nat.reduceAdd, Nat.reduceSub, Nat.zero_add, List.getElem?_cons_zero, List.getElem?_cons_succ, List.set_cons_zero, List.set_cons_succ, true_and, and_true, Int.toNat_natCast, if_true, if_false, Bool.false_eq_true, reduceCtorEq, ne_eq, not_false_eq_true, not_true_eq_false, decide_eq_true_eq, Bool.not_eq_true', decide_eq_false_iff_not, Option.bind_some, Option.map_some, $[$ls:term],*])
local macro_rules
  | `(tactic| unfold ob) => `(tactic| first | decide | assumption | omega | exact DL.mulD_l (by omega) (by omega) | exact DL.mulD_r (by omega) (by omega) | (refine DL.size_le4 ?_; (try simp only [List.length_map, DL.rng_length, DL.enumF_length, List.length_cons, List.length_nil, List.length_append, List.length_zip]); omega) | (exact DL.size_le4 (Nat.le_trans (List.length_filter_le _ _) (by (try simp only [List.length_map, DL.rng_length, DL.enumF_length]); omega))) | (unfold DL.inIx; omega) | (unfold DL.inIx; (try simp only [List.length_map, List.length_cons, List.length_nil, List.length_append, List.length_dropLast]); omega) | (simp_all; done))
namespace DL
open PySem PySem.Spec PyProof.Rows L2 DLM
/-! ### settled -/
def rd_settled : DS :=
  (dSeq (dFor (dISeq (dTup (dCons (dTup (dCons (dVar 1) (dCons (dVar 2) dNil))) (dCons (dTup (dCons (dVar 2) (dCons (dVar 1) dNil))) dNil)))) (gT 2 (gConsD (gN 3) (gConsD (gN 4) gNilD))) (dWhile (dAnd (dB (dOp (rIsN true) (dVar 0) (dC .non))) (dB (dOp (rEqD true) (dCB sp_kept_by (dCons (dVar 0) (dCons (dVar 3) dNil))) (dLst dNil)))) (dAsg (dCB sp_spared (dCons (dVar 0) (dCons (dVar 3) (dCons (dVar 4) dNil)))) (gN 0))))
    (dRet (dVar 0)))
/-- what is known of a keeper under way -/
def SetK (n : Int) (K0 : List LAM.Rod) (a b : Int) (p : Addr) (DH : DHp) (C : LAM.Keep → Prop) (d : D) (H : DHp) : Prop :=
  DSub DH H ∧ ((d = .non ∧ ∃ f, LAM.Tight n K0 f ∧ f a = true ∧ f b = true) ∨ ∃ q k, d = .ref q ∧ H q = some (oD (eTup (cc eI (c1 eI))) eI k) ∧ (q = p ∨ DH q = none) ∧ LAM.KOk n k ∧ keysF k = K0 ∧ (∀ x, (LAM.kept k x).length ≤ 2) ∧ C k)
theorem SetK.imp {n : Int} {K0 : List LAM.Rod} {a b : Int} {p : Addr} {DH : DHp} {C C' : LAM.Keep → Prop} {d : D} {H : DHp} (h : SetK n K0 a b p DH C d H) (i : ∀ k, C k → C' k) : SetK n K0 a b p DH C' d H := by
  obtain ⟨s, h | ⟨q, k, e, hq, f, o, kk, two, c⟩⟩ := h
  · exact ⟨s, .inl h⟩
  · exact ⟨s, .inr ⟨q, k, e, hq, f, o, kk, two, i k c⟩⟩
theorem SetK.swap {n : Int} {K0 : List LAM.Rod} {a b : Int} {p : Addr} {DH : DHp} {C : LAM.Keep → Prop} {d : D} {H : DHp} (h : SetK n K0 a b p DH C d H) : SetK n K0 b a p DH C d H := by
  obtain ⟨s, ⟨e, f, t, x, y⟩ | h⟩ := h
  · exact ⟨s, .inl ⟨e, f, t, y, x⟩⟩
  · exact ⟨s, .inr h⟩
set_option maxHeartbeats 0 in
theorem settled_while {n : Int} {K0 : List LAM.Rod} (hn : n ≤ 12) (hF : LAM.Free n K0) (hl : K0.length ≤ 1000) {a b : Int} {p : Addr} {DH : DHp} {one other : Int} (ho : 0 ≤ one ∧ one < n) (ht : 0 ≤ other ∧ other < n) (hne : one ≠ other) {z : Prop} {d : D} {H : DHp} {E : DEnds}
    (h : SetK n K0 one other p DH (fun k => z → (LAM.kept k other).length = 0) d H)
    (k : ∀ d H, SetK n K0 one other p DH (fun k => (z → (LAM.kept k other).length = 0) ∧ (LAM.kept k one).length = 0) d H → E.nx [some d, some (eI a), some (eI b), some (eI one), some (eI other)] H) :
    dWhile (dAnd (dB (dOp (rIsN true) (dVar 0) (dC .non))) (dB (dOp (rEqD true) (dCB sp_kept_by (dCons (dVar 0) (dCons (dVar 3) dNil))) (dLst dNil)))) (dAsg (dCB sp_spared (dCons (dVar 0) (dCons (dVar 3) (dCons (dVar 4) dNil)))) (gN 0)) E [some d, some (eI a), some (eI b), some (eI one), some (eI other)] H := by
  have key := while_inv (E := E) (c := dAnd (dB (dOp (rIsN true) (dVar 0) (dC .non))) (dB (dOp (rEqD true) (dCB sp_kept_by (dCons (dVar 0) (dCons (dVar 3) dNil))) (dLst dNil)))) (tb := dAsg (dCB sp_spared (dCons (dVar 0) (dCons (dVar 3) (dCons (dVar 4) dNil)))) (gN 0)) (τ := [some d, some (eI a), some (eI b), some (eI one), some (eI other)]) (H := H)
    (fun m τ' H' => ∃ d, τ' = [some d, some (eI a), some (eI b), some (eI one), some (eI other)] ∧ SetK n K0 one other p DH (fun k => (z → (LAM.kept k other).length = 0) ∧ (LAM.kept k one).length ≤ m) d H') (m := 2) ⟨d, rfl, ?_⟩ ?_
  · exact key
  · obtain ⟨s, h | ⟨q, k, e, hq, f, o, kk, two, c⟩⟩ := h
    · exact ⟨s, .inl h⟩
    · exact ⟨s, .inr ⟨q, k, e, hq, f, o, kk, two, c, two one⟩⟩
  · rintro m τ H1 ⟨d, rfl, s, h⟩ E' _ _ hnx _
    rcases h with ⟨rfl, t⟩ | ⟨q, kp, rfl, hq, f, o, kk, two, c, hm⟩
    · refine x_evT (b := false) (show EvT _ _ _ (false && true) from et_and (a := false) (et_b (ev_op (ev_var rfl) ev_c r_isnotD)) fun h => by cases h) ?_
      exact k _ _ ⟨s, .inl ⟨rfl, t⟩⟩
    · have hkl : kp.length ≤ 1000 := by rw [← LAM.keysF_len, kk]; exact hl
      refine x_evT (et_and (a := true) (b := !decide (m_kept_by kp one = [])) (et_b (ev_op (ev_var rfl) ev_c (r_isnotD (x := .ref q)))) fun _ => et_b (ev_op (evd ((eL (eTup (cc eI (c1 eI)))) (m_kept_by kp one)) (ev_cb (ea_cons (ev_var rfl) (ea_cons (evd (eI one) (ev_var rfl)) ea_nil)) (call_kept_by kp q hq one hkl))) (evd ((eL (eTup (cc eI (c1 eI)))) []) (ev_lstK 0 ea_nil rfl (by decide))) (r_ne (e := (eL (eTup (cc eI (c1 eI))))) (x := m_kept_by kp one) (y := []) (by decide) rfl rfl))) ?_
      rw [kept_eq, Bool.true_and]
      by_cases hz : LAM.kept kp one = []
      · rw [if_neg (by simp [hz])]
        exact k _ _ ⟨s, .inr ⟨q, kp, rfl, hq, f, o, kk, two, c, by rw [hz]; rfl⟩⟩
      · rw [if_pos (by simp [hz])]
        have h1 : 1 ≤ (LAM.kept kp one).length := Nat.pos_of_ne_zero fun e => hz (List.length_eq_zero_iff.mp e)
        refine s_last (n_asgX (x_cb (x_cons (x_ev (ev_var rfl) (x_cons (x_ev (evd (eI one) (ev_var rfl)) (x_cons (x_ev (evd (eI other) (ev_var rfl)) (x_nil ?_)))))))))
        refine call_spared kp q hq one other hkl ⟨n, hn, o, ho, ht, hne⟩ fun d2 H2 hr => ?_
        show E'.nx [some d2, some (eI a), some (eI b), some (eI one), some (eI other)] H2
        rcases spared_law o ho ht hne (kk ▸ hF) h1 with ⟨e, t, t1, t2, t3⟩ | ⟨k', e, o', kk', x, xb, xs, x2, hx⟩
        · rw [e] at hr
          obtain ⟨rfl, s2⟩ := hr
          exact hnx (m - 1) _ _ (by omega) ⟨_, rfl, DSub.trans s s2, .inl ⟨rfl, t, kk ▸ t1, t2, t3⟩⟩
        · rw [e] at hr
          obtain ⟨q2, rfl, hq2, s2, n2⟩ := hr
          refine hnx (m - 1) _ _ (by omega) ⟨_, rfl, DSub.trans s s2, .inr ⟨q2, k', rfl, hq2, .inr (dsub_none s n2), o', kk'.trans kk, fun y => ?_, fun hz => ?_, ?_⟩⟩
          · have := hx y
            have := two y
            unfold LAM.one at *
            by_cases ey : x = y
            · subst ey
              simp only [decide_true, if_true] at *
              omega
            · simp only [ey, decide_false, Bool.false_eq_true, if_false] at *
              omega
          · have := hx other
            have := c hz
            unfold LAM.one at *
            simp only [xb, hne, decide_false, Bool.false_eq_true, if_false] at *
            omega
          · have := hx one
            unfold LAM.one at *
            simp only [xs, decide_true, decide_false, Bool.false_eq_true, if_false, if_true] at *
            omega
def sp_settled : DSp := fun ds DH Q => ∃ (k : LAM.Keep) (p : Addr) (a b n : Int), ds = [.ref p, eI a, eI b] ∧ DH p = some (oD (eTup (cc eI (c1 eI))) eI k) ∧ k.length ≤ 1000 ∧ n ≤ 12 ∧ LAM.KOk n k ∧ LAM.Free n (keysF k) ∧ (0 ≤ a ∧ a < n) ∧ (0 ≤ b ∧ b < n) ∧ a ≠ b ∧ (∀ x, (LAM.kept k x).length ≤ 2) ∧
  ∀ d H, SetK n (keysF k) a b p DH (fun k => (LAM.kept k a).length = 0 ∧ (LAM.kept k b).length = 0) d H → Q d H
set_option maxHeartbeats 0 in
theorem settled_ok {ds : List D} {DH : DHp} {Q : DK} (h : sp_settled ds DH Q) : rd_settled (bodyE Q) (dstart ["keeper", "a", "b", "one", "other"] ds) DH := by
  obtain ⟨k, p, a, b, n, rfl, hp, hl, hn, o, hF, ha, hb, hab, two, hQ⟩ := h
  have hl' : (keysF k).length ≤ 1000 := by rw [LAM.keysF_len]; exact hl
  unfold rd_settled
  show (_ : DS) _ [some (.ref p), some (eI a), some (eI b), none, none] _
  refine n_for (eTup (cc eI (c1 eI))) [(a, b), (b, a)] (fun pre s => s = pre.length) 0 (fun s τ' H' => ∃ d t3 t4, τ' = [some d, some (eI a), some (eI b), t3, t4] ∧ SetK n (keysF k) a b p DH (fun k => (1 ≤ s → (LAM.kept k a).length = 0) ∧ (2 ≤ s → (LAM.kept k b).length = 0)) d H')
    (ok := okT) ?_ (fun _ _ _ _ => trivial) ⟨_, _, _, rfl, DSub.refl _, .inr ⟨p, k, rfl, hp, .inl rfl, o, rfl, two, fun h => by omega, fun h => by omega⟩⟩ rfl ?_ ?_
  · exact ei_T (e := eTup (cc eI (c1 eI))) (xs := [(a, b), (b, a)]) (ev_tupK 2 (ea_cons (evd ((eTup (cc eI (c1 eI))) (a, b)) (ev_tupK 2 (ea_cons (evd (eI a) (ev_var rfl)) (ea_cons (evd (eI b) (ev_var rfl)) ea_nil)) rfl (by decide))) (ea_cons (evd ((eTup (cc eI (c1 eI))) (b, a)) (ev_tupK 2 (ea_cons (evd (eI b) (ev_var rfl)) (ea_cons (evd (eI a) (ev_var rfl)) ea_nil)) rfl (by decide))) ea_nil)) rfl (by decide))
  · rintro pre x post s τ' H' e rfl ⟨d, t3, t4, rfl, h⟩ E' _ hnx
    match pre, e with
    | [], e =>
      obtain ⟨rfl, _⟩ := List.cons.inj e
      refine (show Gv (gT 2 (gConsD (gN 3) (gConsD (gN 4) gNilD))) ((eTup (cc eI (c1 eI))) (a, b)) _ _ _ from gv_T rfl (gvs_cons gv_N (gvs_cons gv_N gvs_nil))) _ ?_
      refine settled_while (z := False) hn hF hl' ha hb hab (h.imp fun k hk f => f.elim) fun d H h => ?_
      exact (hnx 1 _ _ rfl ⟨_, _, _, rfl, h.imp fun k hk => ⟨fun _ => hk.2, fun h => by omega⟩⟩).1
    | [y], e =>
      obtain ⟨ey, e⟩ := List.cons.inj e
      obtain ⟨rfl, _⟩ := List.cons.inj e
      refine (show Gv (gT 2 (gConsD (gN 3) (gConsD (gN 4) gNilD))) ((eTup (cc eI (c1 eI))) (b, a)) _ _ _ from gv_T rfl (gvs_cons gv_N (gvs_cons gv_N gvs_nil))) _ ?_
      refine settled_while (z := True) hn hF hl' hb ha (Ne.symm hab) (h.swap.imp fun k hk _ => hk.1 (Nat.le_refl _)) fun d H h => ?_
      exact (hnx 2 _ _ rfl ⟨_, _, _, rfl, h.swap.imp fun k hk => ⟨fun _ => hk.1 trivial, fun _ => hk.2⟩⟩).1
    | y :: z :: pre, e => simp at e
  · rintro s τ' H' ⟨d, t3, t4, rfl, h⟩ rfl
    refine s_last (s_ret (d := d) (ev_var rfl) ?_)
    refine ⟨H', DSub.refl _, ?_⟩
    exact hQ _ _ (h.imp fun k hk => ⟨hk.1 (Nat.le_succ 1), hk.2 (Nat.le_refl 2)⟩)

end DL

/-! LAM5: the rods taken freely -/
namespace LAM
open DL
theorem ins_none {n : Int} {F : List Rod} (ho : ∀ r ∈ F, RodOk n r) {p : Int → Bool} (h : ¬ 2 ≤ cnt n p) : ins F p = 0 := by
  unfold ins
  rw [List.length_eq_zero_iff, List.filter_eq_nil_iff]
  intro r hr hp
  exact h (cnt_rod (ho r hr) hp)
theorem cnt_le {n m : Int} (h : n ≤ m) (p : Int → Bool) : cnt n p ≤ cnt m p := by
  have s : ∀ {l l' : List Int}, l.Nodup → (∀ x ∈ l, x ∈ l') → l.length ≤ l'.length := by
    intro l l' hn hs
    induction l generalizing l' with
    | nil => simp
    | cons a l ih =>
      obtain ⟨h1, h2⟩ := List.nodup_cons.mp hn
      have ha := hs a List.mem_cons_self
      have := ih (l' := l'.erase a) h2 fun x hx => (List.mem_erase_of_ne (fun e : x = a => h1 (e ▸ hx))).mpr (hs x (List.mem_cons_of_mem _ hx))
      rw [List.length_erase_of_mem ha] at this
      have : 0 < l'.length := List.length_pos_of_mem ha
      simp only [List.length_cons]
      omega
  refine s ((rng_nodup 0 n).filter _) fun x hx => ?_
  rw [List.mem_filter, mem_rng] at hx ⊢
  exact ⟨⟨hx.1.1, by omega⟩, hx.2⟩
/-- joints more than there are change nothing -/
theorem free_up {n m : Int} (h : n ≤ m) {F : List Rod} (ho : ∀ r ∈ F, RodOk n r) : Free m F ↔ Free n F := by
  constructor
  · intro f p hp
    -- only the joints below n
    have c : cnt m (fun x => p x && decide (x < n)) ≤ cnt n p := by
      have : cnt m (fun x => p x && decide (x < n)) = cnt n p := by
        refine List.Perm.length_eq ((List.perm_ext_iff_of_nodup ((rng_nodup 0 m).filter _) ((rng_nodup 0 n).filter _)).mpr fun x => ?_)
        simp only [List.mem_filter, mem_rng, Bool.and_eq_true, decide_eq_true_eq]
        exact ⟨fun ⟨⟨a, b⟩, c, d⟩ => ⟨⟨a, d⟩, c⟩, fun ⟨⟨a, b⟩, c⟩ => ⟨⟨a, by omega⟩, c, b⟩⟩
      omega
    have e : ins F (fun x => p x && decide (x < n)) = ins F p := by
      unfold ins
      refine congrArg List.length (filter_congr fun r hr => ?_)
      obtain ⟨o1, o2, o3⟩ := ho r hr
      have a : r.1 < n := by omega
      simp [inn, a, o3]
    by_cases h2 : 2 ≤ cnt m (fun x => p x && decide (x < n))
    · have := f _ h2
      rw [e] at this
      omega
    · rw [ins_none (fun r hr => let ⟨a, b, c⟩ := ho r hr; ⟨a, b, by omega⟩) h2] at e
      omega
  · intro f p hp
    by_cases h2 : 2 ≤ cnt n p
    · have := f p h2
      have := cnt_le h p
      omega
    · rw [ins_none ho h2]
      omega
theorem rodok_up {n m : Int} (h : n ≤ m) {r : Rod} (o : RodOk n r) : RodOk m r := let ⟨a, b, c⟩ := o; ⟨a, b, by omega⟩
theorem greedy_up {n m : Int} (h : n ≤ m) : ∀ (rs acc : List Rod), (∀ r ∈ acc ++ rs, RodOk n r) → greedy m acc rs = greedy n acc rs
  | [], _, _ => rfl
  | r :: rs, acc, ho => by
    have o1 : ∀ x ∈ r :: acc, RodOk n x := fun x hx => by
      rcases List.mem_cons.mp hx with rfl | hx
      · exact ho _ (by simp)
      · exact ho _ (by simp [hx])
    unfold greedy
    rw [propext (free_up h o1)]
    rw [greedy_up h rs (acc ++ [r]) (fun x hx => ho x (by simpa using hx)), greedy_up h rs acc (fun x hx => ho x (by
      rcases List.mem_append.mp hx with hx | hx
      · exact List.mem_append_left _ hx
      · exact List.mem_append_right _ (List.mem_cons_of_mem _ hx)))]
/-- the rods that are free with those ahead -/
noncomputable def taken (start rods : List Rod) : List Rod := (greedy 12 (greedy 12 [] start) rods).drop (greedy 12 [] start).length
open Classical in
theorem greedy_one (n : Int) (acc : List Rod) (r : Rod) : greedy n acc [r] = if r ∉ acc ∧ Free n (r :: acc) then acc ++ [r] else acc := by
  unfold greedy
  split <;> simp [greedy]
open Classical in
theorem taken_snoc (start rods : List Rod) (r : Rod) : taken start (rods ++ [r]) = if r ∉ greedy 12 [] (start ++ rods) ∧ Free 12 (r :: greedy 12 [] (start ++ rods)) then taken start rods ++ [r] else taken start rods := by
  unfold taken
  rw [greedy_app, greedy_one, ← greedy_app]
  split
  · rw [List.drop_append_of_le_length]
    rw [greedy_app]
    exact (greedy_sub 12 rods _).1.length_le
  · rfl
theorem taken_nil (start : List Rod) : taken start [] = [] := by
  unfold taken
  simp [greedy]
/-- a rod is put to kept rods -/
theorem kok_new {n : Int} {k : Keep} (o : KOk n k) (two : ∀ x, (kept k x).length ≤ 2) {r : Rod} (hr : RodOk n r) (hm : r ∉ keysF k) (h0 : (kept k r.1).length = 0) : KOk n (dputF k r r.1) ∧ keysF (dputF k r r.1) = keysF k ++ [r] ∧ ∀ x, (kept (dputF k r r.1) x).length ≤ 2 := by
  have e : keysF (dputF k r r.1) = keysF k ++ [r] := by rw [keysF_put, if_neg hm]
  have kvn : ∀ s ∈ keysF k, kv (dputF k r r.1) s = kv k s := fun s hs => by
    unfold kv
    rw [dvalF_put_ne k _ (fun z : s = r => hm (z ▸ hs))]
  have kvs : kv (dputF k r r.1) r = r.1 := by unfold kv; rw [dvalF_put_same]; rfl
  refine ⟨⟨?_, ?_, ?_⟩, e, fun x => ?_⟩
  · rw [e]
    exact List.nodup_append.mpr ⟨o.nd, by simp, fun a ha c hc z => by
      simp only [List.mem_singleton] at hc
      exact hm (hc ▸ z ▸ ha)⟩
  · rw [e]
    intro s hs
    rcases List.mem_append.mp hs with hs | hs
    · exact o.rod s hs
    · rw [List.mem_singleton.mp hs]; exact hr
  · rw [e]
    intro s hs
    rcases List.mem_append.mp hs with hs | hs
    · rw [kvn s hs]; exact o.own s hs
    · rw [List.mem_singleton.mp hs, kvs]; exact .inl rfl
  · unfold kept
    rw [e, List.filter_append, List.length_append]
    have e1 : (keysF k).filter (fun s => decide (kv (dputF k r r.1) s = x)) = kept k x := filter_congr fun s hs => by rw [kvn s hs]
    rw [e1]
    have t := two x
    by_cases hx : r.1 = x
    · subst hx
      have : ([r].filter fun s => decide (kv (dputF k r r.1) s = r.1)).length ≤ 1 := List.length_filter_le _ _
      omega
    · rw [List.filter_cons, if_neg (by rw [kvs]; simpa using hx)]
      simpa using t
theorem not_free {n : Int} {F : List Rod} {r : Rod} (hF : Free n F) (hr : RodOk n r) {p : Int → Bool} (t : Tight n F p) (h1 : p r.1 = true) (h2 : p r.2 = true) : ¬ Free n (r :: F) := fun h => by
  have := (free_cons hF hr).mp h p t
  unfold inn at this
  rw [h1, h2] at this
  cases this
theorem is_free {n : Int} {k : Keep} (hF : Free n (keysF k)) (o : KOk n k) {r : Rod} (hr : RodOk n r) (two : ∀ x, (kept k x).length ≤ 2) (h0 : (kept k r.1).length = 0) (h1 : (kept k r.2).length = 0) : r ∉ keysF k ∧ Free n (r :: keysF k) := by
  obtain ⟨a, b, c⟩ := hr
  have nt : ∀ p : Int → Bool, p r.1 = true → p r.2 = true → ¬ Tight n (keysF k) p := fun p p1 p2 => none_kept o ⟨a, by omega⟩ ⟨by omega, c⟩ (by omega) two h0 h1 p1 p2
  refine ⟨fun hm => ?_, (free_cons hF ⟨a, b, c⟩).mpr fun p t => ?_⟩
  · obtain ⟨p, t, i⟩ := tight_rod hF o.rod hm
    unfold inn at i
    rw [Bool.and_eq_true] at i
    exact nt p i.1 i.2 t
  · cases e : inn p r with
    | false => rfl
    | true =>
      unfold inn at e
      rw [Bool.and_eq_true] at e
      exact (nt p e.1 e.2 t).elim
end LAM

local macro_rules
  | `(tactic| unfold dd $ls*) => `(tactic| try simp only [↓DL.dVar_e, ↓DL.dC_e, ↓DL.dOp_e, ↓DL.dUn_e, ↓DL.dB_e, ↓DL.dChain_e, ↓DL.dAnd_e, ↓DL.dOr_e, ↓DL.dNot_e, ↓DL.dAndV_e, ↓DL.dOrV_e, ↓DL.dNotV_e, ↓DL.dIf_e, ↓DL.dNil_e, ↓DL.dCons_e, ↓DL.dTup_e, ↓DL.dLst_e, ↓DL.dCB_e, ↓DL.dNext_e, ↓DL.dSeq_e, ↓DL.dCont_e, ↓DL.dBreak_e, ↓DL.dDrop_e, ↓DL.dRet_e, ↓DL.dRetN_e, ↓DL.dIfS_e, ↓DL.gN_e, ↓DL.gNilD_e, ↓DL.gConsD_e, ↓DL.gT_e, ↓DL.dAsg_e, ↓DL.dPar_e, ↓DL.dPar3_e, ↓DL.dYes_e, ↓DL.dISeq_e, ↓DL.dIRg1_e, ↓DL.dIRg2_e, ↓DL.dIEnum_e, ↓DL.dIZip_e, ↓DL.rIntD_e, ↓DL.rNegD_e, ↓DL.rEq_intF, ↓DL.rEq_intT, ↓DL.rAddD_e, ↓DL.rMulD_e, ↓DL.rIxD_e, ↓DL.rI1_e, ↓DL.rI2_e, ↓DL.rIntCD_e, ↓DL.rSumD_e, ↓DL.rAllD_e, ↓DL.rIsiD_e, ↓DL.rLenD_e, ↓DL.rTupD_e, ↓DL.rLstD_e, ↓DL.rIsN_e, ↓DL.rSlD_e, ↓DL.dSl_e, ↓DL.dNoPart_e, ↓DL.dPart_e, ↓DL.dRev_e, ↓DL.dGet_e, ↓DL.dIn_e, ↓DL.dStore_e, ↓DL.dBM0_e, ↓DL.dBM_e, ↓DL.dDisp_e, ↓DL.mAppend_e, ↓DL.mPop_e, ↓DL.dNewK_e, ↓DL.dNewT_e, ↓DL.dLstM_e, ↓DL.dFrz_e, ↓DL.rReprD_e, ↓DL.rNeS_e, ↓DL.rEqS_e, ↓DL.asB_e, ↓DL.walkD_e, ↓DL.lookD_e, ↓DL.storeD_e, ↓DL.ofTy_e, ↓DL.onLst_e, DL.bodyE, DL.dstart, DL.dPairs, DL.dwipe, DL.keysOf, DL.keyD, DL.isNon, DL.peek_int, DL.peek_bl, DL.peek_non, DL.peek_str, DL.peek_tup, DL.peek_lst, DL.seqOf_tup, DL.seqOf_lst, DL.listOf_lst, DL.tyOf, DL.isTy, DL.atI0, DL.atI1, DL.atI2, DL.atI3, DL.atI4, DL.atI5, DL.dupd_same, DL.dupd_dupd, List.map_cons, List.map_nil, List.length_cons, List.length_nil, List.cons_append, List.nil_append, List.replicate_succ, List.replicate_zero, Nat.reduceAdd, Nat.reduceSub, Nat.zero_add, List.getElem?_cons_zero, List.getElem?_cons_succ, List.set_cons_zero, List.set_cons_succ, true_and, and_true, Int.toNat_natCast, if_true, if_false, Bool.false_eq_true, reduceCtorEq, ne_eq, not_false_eq_true, not_true_eq_false, decide_eq_true_eq, Bool.not_eq_true', decide_eq_false_iff_not, Option.bind_some, Option.map_some, $[$ls:term],*])
local macro_rules
  | `(tactic| unfold d2 $ls*) => `(tactic| try simp only [↓DL.dFor_e, ↓DL.dLc_e, ↓DL.dVar_e, ↓DL.dC_e, ↓DL.dOp_e, ↓DL.dUn_e, ↓DL.dB_e, ↓DL.dChain_e, ↓DL.dAnd_e, ↓DL.dOr_e, ↓DL.dNot_e, ↓DL.dAndV_e, ↓DL.dOrV_e, ↓DL.dNotV_e, ↓DL.dIf_e, ↓DL.dNil_e, ↓DL.dCons_e, ↓DL.dTup_e, ↓DL.dLst_e, ↓DL.dCB_e, ↓DL.dNext_e, ↓DL.dSeq_e, ↓DL.dCont_e, ↓DL.dBreak_e, ↓DL.dDrop_e, ↓DL.dRet_e, ↓DL.dRetN_e, ↓DL.dIfS_e, ↓DL.gN_e, ↓DL.gNilD_e, ↓DL.gConsD_e, ↓DL.gT_e, ↓DL.dAsg_e, ↓DL.dPar_e, ↓DL.dPar3_e, ↓DL.dYes_e, ↓DL.dISeq_e, ↓DL.dIRg1_e, ↓DL.dIRg2_e, ↓DL.dIEnum_e, ↓DL.dIZip_e, ↓DL.rIntD_e, ↓DL.rNegD_e, ↓DL.rEq_intF, ↓DL.rEq_intT, ↓DL.rAddD_e, ↓DL.rMulD_e, ↓DL.rIxD_e, ↓DL.rI1_e, ↓DL.rI2_e, ↓DL.rIntCD_e, ↓DL.rSumD_e, ↓DL.rAllD_e, ↓DL.rIsiD_e, ↓DL.rLenD_e, ↓DL.rTupD_e, ↓DL.rLstD_e, ↓DL.rIsN_e, ↓DL.rSlD_e, ↓DL.dSl_e, ↓DL.dNoPart_e, ↓DL.dPart_e, ↓DL.dRev_e, ↓DL.dGet_e, ↓DL.dIn_e, ↓DL.dStore_e, ↓DL.dBM0_e, ↓DL.dBM_e, ↓DL.dDisp_e, ↓DL.mAppend_e, ↓DL.mPop_e, ↓DL.dNewK_e, ↓DL.dNewT_e, ↓DL.dLstM_e, ↓DL.dFrz_e, ↓DL.rReprD_e, ↓DL.rNeS_e, ↓DL.rEqS_e, ↓DL.asB_e, ↓DL.walkD_e, ↓DL.lookD_e, ↓DL.storeD_e, ↓DL.ofTy_e, ↓DL.onLst_e, DL.bodyE, DL.dstart, DL.dPairs, DL.dwipe, DL.keysOf, DL.keyD, DL.isNon, DL.peek_int, DL.peek_bl, DL.peek_non, DL.peek_str, DL.peek_tup, DL.peek_lst, DL.seqOf_tup, DL.seqOf_lst, DL.listOf_lst, DL.tyOf, DL.isTy, DL.atI0, DL.atI1, DL.atI2, DL.atI3, DL.atI4, DL.atI5, DL.dupd_same, DL.dupd_dupd, List.map_cons, List.map_nil, List.length_cons, List.length_nil, List.cons_append, List.nil_append, List.replicate_succ, List.replicate_zero, Nat.reduceAdd, Nat.reduceSub, Nat.zero_add, List.getElem?_cons_zero, List.getElem?_cons_succ, List.set_cons_zero, List.set_cons_succ, true_and, and_true, Int.toNat_natCast, if_true, if_false, Bool.false_eq_true, reduceCtorEq, ne_eq, not_false_eq_true, not_true_eq_false, decide_eq_true_eq, Bool.not_eq_true', decide_eq_false_iff_not, Option.bind_some, Option.map_some, $[$ls:term],*])
local macro_rules
  | `(tactic| unfold d3 $ls*) => `(tactic| try simp only [↓DL.dLstRg1_e, ↓DL.dLstRg2_e, ↓DL.rSortD_e, ↓DL.rMaxL_e, ↓DL.rMinL_e, ↓DL.tell_F, ↓DL.tell_T, DL.ints_map, DL.bls_map, DL.pairs_map, ↓DL.dFor_e, ↓DL.dLc_e, ↓DL.dVar_e, ↓DL.dC_e, ↓DL.dOp_e, ↓DL.dUn_e, ↓DL.dB_e, ↓DL.dChain_e, ↓DL.dAnd_e, ↓DL.dOr_e, ↓DL.dNot_e, ↓DL.dAndV_e, ↓DL.dOrV_e, ↓DL.dNotV_e, ↓DL.dIf_e, ↓DL.dNil_e, ↓DL.dCons_e, ↓DL.dTup_e, ↓DL.dLst_e, ↓DL.dCB_e, ↓DL.dNext_e, ↓DL.dSeq_e, ↓DL.dCont_e, ↓DL.dBreak_e, ↓DL.dDrop_e, ↓DL.dRet_e, ↓DL.dRetN_e, ↓DL.dIfS_e, ↓DL.gN_e, ↓DL.gNilD_e, ↓DL.gConsD_e, ↓DL.gT_e, ↓DL.dAsg_e, ↓DL.dPar_e, ↓DL.dPar3_e, ↓DL.dYes_e, ↓DL.dISeq_e, ↓DL.dIRg1_e, ↓DL.dIRg2_e, ↓DL.dIEnum_e, ↓DL.dIZip_e, ↓DL.rIntD_e, ↓DL.rNegD_e, ↓DL.rEq_intF, ↓DL.rEq_intT, ↓DL.rAddD_e, ↓DL.rMulD_e, ↓DL.rIxD_e, ↓DL.rI1_e, ↓DL.rI2_e, ↓DL.rIntCD_e, ↓DL.rSumD_e, ↓DL.rAllD_e, ↓DL.rIsiD_e, ↓DL.rLenD_e, ↓DL.rTupD_e, ↓DL.rLstD_e, ↓DL.rIsN_e, ↓DL.rSlD_e, ↓DL.dSl_e, ↓DL.dNoPart_e, ↓DL.dPart_e, ↓DL.dRev_e, ↓DL.dGet_e, ↓DL.dIn_e, ↓DL.dStore_e, ↓DL.dBM0_e, ↓DL.dBM_e, ↓DL.dDisp_e, ↓DL.mAppend_e, ↓DL.mPop_e, ↓DL.dNewK_e, ↓DL.dNewT_e, ↓DL.dLstM_e, ↓DL.dFrz_e, ↓DL.rReprD_e, ↓DL.rNeS_e, ↓DL.rEqS_e, ↓DL.asB_e, ↓DL.walkD_e, ↓DL.lookD_e, ↓DL.storeD_e, ↓DL.ofTy_e, ↓DL.onLst_e, DL.bodyE, DL.dstart, DL.dPairs, DL.dwipe, DL.keysOf, DL.keyD, DL.isNon, DL.peek_int, DL.peek_bl, DL.peek_non, DL.peek_str, DL.peek_tup, DL.peek_lst, DL.seqOf_tup, DL.seqOf_lst, DL.listOf_lst, DL.tyOf, DL.isTy, DL.atI0, DL.atI1, DL.atI2, DL.atI3, DL.atI4, DL.atI5, DL.dupd_same, DL.dupd_dupd, List.map_cons, List.map_nil, List.length_cons, List.length_nil, List.cons_append, List.nil_append, List.replicate_succ, List.replicate_zero, Nat.reduceAdd, Nat.reduceSub, Nat.zero_add, List.getElem?_cons_zero, List.getElem?_cons_succ, List.set_cons_zero, List.set_cons_succ, true_and, and_true, Int.toNat_natCast, if_true, if_false, Bool.false_eq_true, reduceCtorEq, ne_eq, not_false_eq_true, not_true_eq_false, decide_eq_true_eq, Bool.not_eq_true', decide_eq_false_iff_not, Option.bind_some, Option.map_some, $[$ls:term],*])
local macro_rules
  | `(tactic| unfold ob) => `(tactic| first | decide | assumption | omega | exact DL.mulD_l (by omega) (by omega) | exact DL.mulD_r (by omega) (by omega) | (refine DL.size_le4 ?_; (try simp only [List.length_map, DL.rng_length, DL.enumF_length, List.length_cons, List.length_nil, List.length_append, List.length_zip]); omega) | (exact DL.size_le4 (Nat.le_trans (List.length_filter_le _ _) (by (try simp only [List.length_map, DL.rng_length, DL.enumF_length]); omega))) | (unfold DL.inIx; omega) | (unfold DL.inIx; (try simp only [List.length_map, List.length_cons, List.length_nil, List.length_append, List.length_dropLast]); omega) | (simp_all; done))
namespace DL
open PySem PySem.Spec PyProof.Rows L2 DLM
/-! ### taken_freely -/
def rd_taken_freely : DS :=
  (dSeq (dPar 2 3 (dCons dNewT (dCons (dLstM dNil) dNil)))
    (dSeq (dFor (dIEnum (dCons (dOp rAddD (dCB (rLstD false) (dCons (dVar 0) dNil)) (dCB (rLstD false) (dCons (dVar 1) dNil))) dNil)) (gT 2 (gConsD (gN 4) (gConsD (gT 2 (gConsD (gN 5) (gConsD (gN 6) gNilD))) gNilD))) (dSeq (dAsg (dCB sp_settled (dCons (dVar 2) (dCons (dVar 5) (dCons (dVar 6) dNil)))) (gN 7))
    (dIfS (dAnd (dB (dOp (rIsN true) (dVar 7) (dC .non))) (dB (dIn true (dTup (dCons (dVar 5) (dCons (dVar 6) dNil))) (dVar 7)))) (dSeq (dAsg (dVar 7) (gN 2))
    (dSeq (dStore (dVar 2) (dTup (dCons (dVar 5) (dCons (dVar 6) dNil))) (dVar 5))
    (dIfS (dB (dOp (rIntD (fun _ _ => True) fun i j => .bl (decide (j ≤ i))) (dVar 4) (dCB rLenD (dCons (dVar 0) dNil)))) (dDrop (dBM "list" mAppend (dVar 3) (dCons (dTup (dCons (dVar 5) (dCons (dVar 6) dNil))) dNil))) dNext))) dNext)))
    (dRet (dFrz (dVar 3)))))
theorem enumF_split {α : Type} : ∀ (i : Int) (xs : List α) (pre : List (Int × α)) (x : Int × α) (post : List (Int × α)), enumF i xs = pre ++ x :: post → x.1 = i + pre.length ∧ xs = pre.map (·.2) ++ x.2 :: post.map (·.2)
  | i, [], pre, x, post, h => by simp [enumF] at h
  | i, y :: ys, [], x, post, h => by
    obtain ⟨rfl, e⟩ := List.cons.inj h
    refine ⟨by simp, ?_⟩
    have : ∀ (i : Int) (ys : List α), (enumF i ys).map (·.2) = ys := by
      intro i ys
      induction ys generalizing i with
      | nil => rfl
      | cons y ys ih => simp only [enumF, List.map_cons, ih]
    have m := this (i + 1) ys
    rw [e] at m
    simp [m]
  | i, y :: ys, z :: pre, x, post, h => by
    obtain ⟨rfl, e⟩ := List.cons.inj h
    obtain ⟨e1, e2⟩ := enumF_split (i + 1) ys pre x post e
    refine ⟨by rw [e1]; simp only [List.length_cons]; omega, by simp only [List.map_cons, List.cons_append]; rw [← e2]⟩
theorem enumF_all {α : Type} : ∀ (i : Int) (ys : List α), (enumF i ys).map (·.2) = ys
  | _, [] => rfl
  | i, y :: ys => by simp only [enumF, List.map_cons, enumF_all]
noncomputable def m_taken_freely (start rods : List (Int × Int)) : List (Int × Int) := LAM.taken start rods
def sp_taken_freely : DSp := fun ds DH Q => ∃ (start : List (Int × Int)) (d_start : D) (rods : List (Int × Int)) (d_rods : D), ds = [d_start, d_rods] ∧ (seqOf DH d_start = some (start.map (eTup (cc eI (c1 eI))))) ∧ (seqOf DH d_rods = some (rods.map (eTup (cc eI (c1 eI))))) ∧ (start.length + rods.length ≤ 1000) ∧ (∀ r ∈ start ++ rods, LAM.RodOk 12 r) ∧ Q ((eL (eTup (cc eI (c1 eI)))) (m_taken_freely start rods)) DH
theorem call_taken_freely {DH : DHp} (start : List (Int × Int)) (d_start : D) (hd_start : seqOf DH d_start = some (start.map (eTup (cc eI (c1 eI))))) (rods : List (Int × Int)) (d_rods : D) (hd_rods : seqOf DH d_rods = some (rods.map (eTup (cc eI (c1 eI))))) (h0 : start.length + rods.length ≤ 1000) (h1 : ∀ r ∈ start ++ rods, LAM.RodOk 12 r) : RvC sp_taken_freely [d_start, d_rods] DH ((eL (eTup (cc eI (c1 eI)))) (m_taken_freely start rods)) := fun Q q => ⟨start, d_start, rods, d_rods, rfl, hd_start, hd_rods, h0, h1, q⟩
/-- what is taken so far -/
noncomputable def tkF (start s : List (Int × Int)) : List (Int × Int) := LAM.taken (s.take start.length) (s.drop start.length)
theorem tkF_early {start s : List (Int × Int)} (h : s.length ≤ start.length) : tkF start s = [] := by
  unfold tkF
  rw [List.drop_eq_nil_of_le h]
  exact LAM.taken_nil _
open Classical in
theorem tkF_late {start s : List (Int × Int)} (h : start.length ≤ s.length) (r : Int × Int) : tkF start (s ++ [r]) = if r ∉ LAM.greedy 12 [] s ∧ LAM.Free 12 (r :: LAM.greedy 12 [] s) then tkF start s ++ [r] else tkF start s := by
  unfold tkF
  rw [List.take_append_of_le_length h, List.drop_append_of_le_length h, LAM.taken_snoc, List.take_append_drop]
  by_cases c : r ∉ LAM.greedy 12 [] s ∧ LAM.Free 12 (r :: LAM.greedy 12 [] s)
  · rw [if_pos c, if_pos c]
  · rw [if_neg c, if_neg c]
theorem tkF_len (start s : List (Int × Int)) : (tkF start s).length ≤ s.length := by
  unfold tkF LAM.taken
  obtain ⟨_, t, e, ts⟩ := LAM.greedy_sub 12 (s.drop start.length) (LAM.greedy 12 [] (s.take start.length))
  rw [e, List.drop_left]
  have := ts.length_le
  rw [List.length_drop] at this
  omega
theorem greedy_snoc_yes {s : List (Int × Int)} {r : Int × Int} (h : r ∉ LAM.greedy 12 [] s ∧ LAM.Free 12 (r :: LAM.greedy 12 [] s)) : LAM.greedy 12 [] (s ++ [r]) = LAM.greedy 12 [] s ++ [r] := by rw [LAM.greedy_app, LAM.greedy_one, if_pos h]
theorem greedy_snoc_no {s : List (Int × Int)} {r : Int × Int} (h : ¬ LAM.Free 12 (r :: LAM.greedy 12 [] s)) : LAM.greedy 12 [] (s ++ [r]) = LAM.greedy 12 [] s := by rw [LAM.greedy_app, LAM.greedy_one, if_neg fun c => h c.2]
/-- the heap under way -/
def TkSt (DH : DHp) (d_start d_rods : D) (pf : Addr) (start s : List (Int × Int)) (τ : DSt) (H : DHp) : Prop :=
  ∃ pk k t4 t5 t6 t7, τ = [some d_start, some d_rods, some (.ref pk), some (.ref pf), t4, t5, t6, t7] ∧ DSub DH H ∧ DH pk = none ∧ pk ≠ pf ∧ H pk = some (oD (eTup (cc eI (c1 eI))) eI k) ∧ H pf = some (.lst ((tkF start s).map (eTup (cc eI (c1 eI))))) ∧ LAM.KOk 12 k ∧ keysF k = LAM.greedy 12 [] s ∧ ∀ x, (LAM.kept k x).length ≤ 2
set_option maxHeartbeats 0 in
theorem taken_freely_ok {ds : List D} {DH : DHp} {Q : DK} (h : sp_taken_freely ds DH Q) : rd_taken_freely (bodyE Q) (dstart ["start", "rods", "keeper", "found", "number", "a", "b", "late"] ds) DH := by
  obtain ⟨start, d_start, rods, d_rods, rfl, hds, hdr, hl, hro, hQ⟩ := h
  unfold rd_taken_freely
  show (_ : DS) _ [some d_start, some d_rods, none, none, none, none, none, none] _
  refine n_par (x_cons (x_newDR eI fun p0 H0 hn0 hp0 hf0 => x_cons (x_newL (eTup (cc eI (c1 eI))) [] ea_nil (size_le4 (by simp)) fun pf H1 hn1 hp1 hf1 => x_nil (n_as2 ?_))))
  have s0 : DSub DH H0 := dsub_fr (DSub.refl DH) hn0 hf0
  have s1 : DSub DH H1 := dsub_fr s0 (dsub_none s0 hn1) hf1
  have nf : DH pf = none := dsub_none s0 hn1
  have ne : p0 ≠ pf := ne_none hn1 hp0
  show (_ : DS) _ [some d_start, some d_rods, some (.ref p0), some (.ref pf), none, none, none, none] _
  refine n_for (eTup (cc eI (c1 (eTup (cc eI (c1 eI)))))) (enumF 0 (start ++ rods)) (fun pre s => s = pre.map (·.2)) [] (TkSt DH d_start d_rods pf start) (ok := okT) ?_ (fun _ _ _ _ => trivial) ?_ rfl ?_ ?_
  · exact ei_enL (ev_op (evd ((eL (eTup (cc eI (c1 eI)))) start) (ev_cb (ea_cons (ev_var rfl) ea_nil) (c_lst (seqOf_sub s1 hds)))) (evd ((eL (eTup (cc eI (c1 eI)))) rods) (ev_cb (ea_cons (ev_var rfl) ea_nil) (c_lst (seqOf_sub s1 hdr)))) (r_catL (size_le4 (by omega)) rfl rfl))
  · refine ⟨p0, [], _, _, _, _, rfl, s1, hn0, ne, (hf1 _ ne).trans hp0, ?_, ⟨by simp [keysF], fun r hr => by simp [keysF] at hr, fun r hr => by simp [keysF] at hr⟩, by simp [keysF, LAM.greedy], fun x => by simp [LAM.kept, keysF]⟩
    rw [tkF_early (by simp)]; exact hp1
  · rintro pre x post s τ' H' ex rfl ⟨pk, k, t4, t5, t6, t7, rfl, hs, nk, nkf, hk, hf, o, ek, two⟩ E' _ hnx
    obtain ⟨e1, e2⟩ := enumF_split _ _ _ _ _ ex
    have hro : LAM.RodOk 12 x.2 := hro _ (by rw [e2]; simp)
    have hlen : (pre.map (·.2)).length + 1 ≤ start.length + rods.length := by
      have := congrArg List.length e2
      simp only [List.length_append, List.length_cons] at this
      omega
    have hF : LAM.Free 12 (keysF k) := by rw [ek]; exact LAM.greedy_free _ _ (LAM.free_nil 12)
    have kl : k.length ≤ 1000 := by
      rw [← LAM.keysF_len, ek]
      obtain ⟨_, t, e, ts⟩ := LAM.greedy_sub 12 (pre.map (·.2)) []
      rw [e, List.nil_append]
      have := ts.length_le
      omega
    obtain ⟨r1, r2, r3⟩ := hro
    refine (show Gv _ ((eTup (cc eI (c1 (eTup (cc eI (c1 eI)))))) x) _ _ _ from gv_T rfl (gvs_cons gv_N (gvs_cons (gv_T rfl (gvs_cons gv_N (gvs_cons gv_N gvs_nil))) gvs_nil))) _ ?_
    show (_ : DS) _ [some d_start, some d_rods, some (.ref pk), some (.ref pf), some (eI x.1), some (eI x.2.1), some (eI x.2.2), t7] _
    refine n_asgX (x_cb (x_cons (x_ev (ev_var rfl) (x_cons (x_ev (evd (eI x.2.1) (ev_var rfl)) (x_cons (x_ev (evd (eI x.2.2) (ev_var rfl)) (x_nil ?_))))))))
    refine ⟨k, pk, x.2.1, x.2.2, 12, rfl, hk, kl, by decide, o, hF, ⟨r1, by omega⟩, ⟨by omega, r3⟩, by omega, two, fun d H2 h2 => ?_⟩
    show (_ : DS) _ [some d_start, some d_rods, some (.ref pk), some (.ref pf), some (eI x.1), some (eI x.2.1), some (eI x.2.2), some d] _
    obtain ⟨s2, ⟨rfl, p, t, p1, p2⟩ | ⟨q, k', rfl, hq, qf, o', ek', two', z1, z2⟩⟩ := h2
    · have no := LAM.not_free hF ⟨r1, r2, r3⟩ t p1 p2
      rw [ek] at no
      refine s_last (n_if (b := false) (show EvT _ _ _ (false && true) from et_and (a := false) (et_b (ev_op (ev_var rfl) ev_c r_isnotD)) fun h => by cases h) (fun h => by cases h) fun _ => s_skip ?_)
      refine (hnx _ _ _ rfl ⟨pk, k, _, _, _, _, rfl, DSub.trans hs s2, nk, nkf, s2 _ _ hk, ?_, o, ?_, two⟩).1
      · have : tkF start ((pre ++ [x]).map (·.2)) = tkF start (pre.map (·.2)) := by
          rw [List.map_append, List.map_cons, List.map_nil]
          by_cases hle : start.length ≤ (pre.map (·.2)).length
          · rw [tkF_late hle, if_neg fun c => no c.2]
          · rw [tkF_early (by simp only [List.length_append, List.length_singleton]; omega), tkF_early (by omega)]
        rw [this]; exact s2 _ _ hf
      · rw [List.map_append, List.map_cons, List.map_nil, greedy_snoc_no no, ek]
    · obtain ⟨nm, fr⟩ := LAM.is_free (r := x.2) (by rw [ek']; exact hF) o' ⟨r1, r2, r3⟩ two' z1 z2
      obtain ⟨o2, ek2, two2⟩ := LAM.kok_new o' two' ⟨r1, r2, r3⟩ nm z1
      rw [ek', ek] at nm fr ek2
      refine s_last (n_if (b := true) (show EvT _ _ _ (true && true) from et_and (a := true) (b := true) (et_b (ev_op (ev_var rfl) ev_c (r_isnotD (x := .ref q)))) fun _ => ?_) (fun _ => ?_) fun h => by cases h)
      · have ev := ev_dnin (e := (eTup (cc eI (c1 eI)))) (ve := eI) (kvs := k') (k := x.2) (H := H2) (τ := [some d_start, some d_rods, some (.ref pk), some (.ref pf), some (eI x.1), some (eI x.2.1), some (eI x.2.2), some (.ref q)]) (ty := dTup (dCons (dVar 5) (dCons (dVar 6) dNil))) (td := dVar 7) (evd ((eTup (cc eI (c1 eI))) x.2) (ev_tupK 2 (ea_cons (evd (eI x.2.1) (ev_var rfl)) (ea_cons (evd (eI x.2.2) (ev_var rfl)) ea_nil)) rfl (by decide))) (ev_var rfl) (.inl hq)
        rw [ek', ek] at ev
        simp only [nm, decide_false, Bool.not_false] at ev
        exact et_b ev
      · refine s_assoc ?_
        refine n_asgX (x_ev (show Ev _ _ _ (.ref q) from ev_var rfl) ?_)
        show (_ : DS) _ [some d_start, some d_rods, some (.ref q), some (.ref pf), some (eI x.1), some (eI x.2.1), some (eI x.2.2), some (.ref q)] _
        have nq : DH q = none := by
          rcases qf with rfl | qf
          · exact nk
          · exact dsub_none hs qf
        have nqf : q ≠ pf := by
          rcases qf with rfl | qf
          · exact nkf
          · exact ne_none' qf hf
        refine s_assoc ?_
        refine n_store ?_
        refine x_ev (evd (eI x.2.1) (ev_var rfl)) ?_
        refine x_ev (ev_var rfl : Ev _ _ _ (.ref q)) ?_
        refine x_ev (evd ((eTup (cc eI (c1 eI))) x.2) (ev_tupK 2 (ea_cons (evd (eI x.2.1) (ev_var rfl)) (ea_cons (evd (eI x.2.2) (ev_var rfl)) ea_nil)) rfl (by decide))) ?_
        refine n_stD (e := (eTup (cc eI (c1 eI)))) (ve := eI) (kvs := k') (k := x.2) (v := x.2.1) hq (by rw [← LAM.keysF_len, ek', LAM.keysF_len]; exact Nat.lt_of_le_of_lt kl (by decide)) (fun H3 h3 f3 => ?_)
        have hf3 : H3 pf = some (.lst ((tkF start (pre.map (·.2))).map (eTup (cc eI (c1 eI))))) := (f3 _ nqf.symm).trans (s2 _ _ hf)
        have s3 : DSub DH H3 := dsub_fr (DSub.trans hs s2) nq f3
        show (_ : DS) _ [some d_start, some d_rods, some (.ref q), some (.ref pf), some (eI x.1), some (eI x.2.1), some (eI x.2.2), some (.ref q)] _
        have kk : LAM.greedy 12 [] ((pre ++ [x]).map (·.2)) = LAM.greedy 12 [] (pre.map (·.2)) ++ [x.2] := by
          rw [List.map_append, List.map_cons, List.map_nil, greedy_snoc_yes ⟨nm, fr⟩]
        refine n_if (b := decide ((start.length : Int) ≤ x.1)) (et_b (ev_op (evd (eI x.1) (ev_var rfl)) (evd (eI (start.length : Int)) (ev_cb (ea_cons (ev_var rfl) ea_nil) (c_len (seqOf_sub s3 hds)))) r_ge)) (fun hb => ?_) (fun hb => ?_)
        · have hle : start.length ≤ (pre.map (·.2)).length := by
            rw [decide_eq_true_eq, e1] at hb
            rw [List.length_map]; omega
          refine s_app (xs := tkF start (pre.map (·.2))) (v := x.2) (eTup (cc eI (c1 eI))) rfl hf3 (evd ((eTup (cc eI (c1 eI))) x.2) (ev_tupK 2 (ea_cons (evd (eI x.2.1) (ev_var rfl)) (ea_cons (evd (eI x.2.2) (ev_var rfl)) ea_nil)) rfl (by decide))) ?_ (fun H4 h4 f4 => ?_)
          · have := tkF_len start (pre.map (·.2))
            exact size_le4 (by omega)
          · refine s_skip ?_
            refine (hnx _ _ _ rfl ⟨q, _, _, _, _, _, rfl, dsub_fr s3 nf f4, nq, nqf, (f4 _ nqf).trans h3, ?_, o2, by rw [kk]; exact ek2, two2⟩).1
            rw [List.map_append, List.map_cons, List.map_nil, tkF_late hle, if_pos ⟨nm, fr⟩]
            exact h4
        · have hle : ¬ start.length ≤ (pre.map (·.2)).length := by
            rw [decide_eq_false_iff_not, e1] at hb
            rw [List.length_map]; omega
          refine s_skip (s_skip ?_)
          refine (hnx _ _ _ rfl ⟨q, _, _, _, _, _, rfl, s3, nq, nqf, h3, ?_, o2, by rw [kk]; exact ek2, two2⟩).1
          rw [List.map_append, List.map_cons, List.map_nil, tkF_early (by simp only [List.length_append, List.length_singleton]; omega)]
          rw [tkF_early (by omega)] at hf3
          exact hf3
  · rintro s τ' H' ⟨pk, k, t4, t5, t6, t7, rfl, hs, nk, nkf, hk, hf, o, ek, two⟩ rfl
    rw [enumF_all] at hf
    have e : tkF start (start ++ rods) = LAM.taken start rods := by
      unfold tkF
      rw [List.take_left, List.drop_left]
    rw [e] at hf
    refine s_last (s_retF (eTup (cc eI (c1 eI))) rfl hf ?_)
    exact ⟨_, dsub_er hs nf, hQ⟩

end DL

/-! LAM6: all lots of joints -/
namespace LAM
open DL
def subs (xs : List Int) : List (List Int) := xs.foldl (fun st joint => st ++ st.map fun lot => lot ++ [joint]) [[]]
theorem subs_snoc (xs : List Int) (x : Int) : subs (xs ++ [x]) = subs xs ++ (subs xs).map fun lot => lot ++ [x] := by
  unfold subs
  rw [List.foldl_append]
  rfl
theorem snoc_ind {P : List Int → Prop} (h0 : P []) (h : ∀ xs x, P xs → P (xs ++ [x])) : ∀ xs, P xs := by
  intro xs
  have : ∀ ys : List Int, P ys.reverse := by
    intro ys
    induction ys with
    | nil => exact h0
    | cons y ys ih => rw [List.reverse_cons]; exact h _ _ ih
  have t := this xs.reverse
  rwa [List.reverse_reverse] at t
theorem subs_len : ∀ xs : List Int, (subs xs).length = 2 ^ xs.length := by
  refine snoc_ind rfl fun xs x ih => ?_
  rw [subs_snoc, List.length_append, List.length_map, ih, List.length_append, List.length_singleton, Nat.pow_succ]
  omega
theorem mem_subs : ∀ xs : List Int, ∀ l, l ∈ subs xs ↔ l.Sublist xs := by
  refine snoc_ind (fun l => ?_) fun xs x ih l => ?_
  · simp [subs]
  · rw [subs_snoc, List.mem_append, List.mem_map]
    constructor
    · rintro (h | ⟨m, h, rfl⟩)
      · exact ((ih l).mp h).trans (List.sublist_append_left _ _)
      · exact ((ih m).mp h).append (List.Sublist.refl _)
    · intro h
      obtain ⟨l1, l2, rfl, h1, h2⟩ := List.sublist_append_iff.mp h
      cases h2 with
      | cons _ h2 =>
        cases h2
        rw [List.append_nil]
        exact .inl ((ih l1).mpr h1)
      | cons_cons _ h2 =>
        cases h2
        exact .inr ⟨l1, (ih l1).mpr h1, rfl⟩
/-- the lot of a predicate -/
def lotP (n : Int) (p : Int → Bool) : List Int := (rng 0 n).filter p
def inL (l : List Int) : Int → Bool := fun x => decide (x ∈ l)
theorem lotP_sub (n : Int) (p : Int → Bool) : (lotP n p).Sublist (rng 0 n) := List.filter_sublist
theorem sub_filter : ∀ {l xs : List Int}, xs.Nodup → l.Sublist xs → xs.filter (inL l) = l
  | l, [], _, h => by cases h; rfl
  | l, x :: xs, hn, h => by
    obtain ⟨h1, h2⟩ := List.nodup_cons.mp hn
    cases h with
    | cons _ h =>
      have : x ∉ l := fun hm => h1 (h.subset hm)
      rw [List.filter_cons, if_neg (by simpa [inL] using this)]
      exact sub_filter h2 h
    | @cons_cons l' _ _ h =>
      rw [List.filter_cons, if_pos (by simp [inL])]
      congr 1
      refine Eq.trans (filter_congr fun y hy => ?_) (sub_filter h2 h)
      have : y ≠ x := fun e => h1 (e ▸ hy)
      simp [inL, this]
theorem cnt_inL {n : Int} {l : List Int} (h : l.Sublist (rng 0 n)) : cnt n (inL l) = l.length := by
  unfold cnt
  rw [sub_filter (rng_nodup 0 n) h]
theorem agree_lot (n : Int) (p : Int → Bool) : agree n p (inL (lotP n p)) := fun x h0 h1 => by
  unfold inL lotP
  rw [Bool.eq_iff_iff, decide_eq_true_eq, List.mem_filter, mem_rng]
  exact ⟨fun h => ⟨⟨h0, h1⟩, h⟩, fun h => h.2⟩
/-- lots as predicates: what holds for all lots holds for all -/
theorem free_lots {n : Int} {F : List Rod} (ho : ∀ r ∈ F, RodOk n r) : Free n F ↔ ∀ l : List Int, l.Sublist (rng 0 n) → 2 ≤ l.length → ins F (inL l) + 3 ≤ 2 * l.length := by
  constructor
  · intro f l hl h2
    have := f (inL l) (by rw [cnt_inL hl]; exact h2)
    rwa [cnt_inL hl] at this
  · intro f p h2
    have := f (lotP n p) (lotP_sub n p) h2
    rwa [← ins_agree ho (agree_lot n p)] at this
theorem tight_lot {n : Int} {F : List Rod} {l : List Int} (hl : l.Sublist (rng 0 n)) : Tight n F (inL l) ↔ 2 ≤ l.length ∧ ins F (inL l) + 3 = 2 * l.length := by
  unfold Tight
  rw [cnt_inL hl]
end LAM

local macro_rules
  | `(tactic| unfold dd $ls*) => `(tactic| try simp only [↓DL.dVar_e, ↓DL.dC_e, ↓DL.dOp_e, ↓DL.dUn_e, ↓DL.dB_e, ↓DL.dChain_e, ↓DL.dAnd_e, ↓DL.dOr_e, ↓DL.dNot_e, ↓DL.dAndV_e, ↓DL.dOrV_e, ↓DL.dNotV_e, ↓DL.dIf_e, ↓DL.dNil_e, ↓DL.dCons_e, ↓DL.dTup_e, ↓DL.dLst_e, ↓DL.dCB_e, ↓DL.dNext_e, ↓DL.dSeq_e, ↓DL.dCont_e, ↓DL.dBreak_e, ↓DL.dDrop_e, ↓DL.dRet_e, ↓DL.dRetN_e, ↓DL.dIfS_e, ↓DL.gN_e, ↓DL.gNilD_e, ↓DL.gConsD_e, ↓DL.gT_e, ↓DL.dAsg_e, ↓DL.dPar_e, ↓DL.dPar3_e, ↓DL.dYes_e, ↓DL.dISeq_e, ↓DL.dIRg1_e, ↓DL.dIRg2_e, ↓DL.dIEnum_e, ↓DL.dIZip_e, ↓DL.rIntD_e, ↓DL.rNegD_e, ↓DL.rEq_intF, ↓DL.rEq_intT, ↓DL.rAddD_e, ↓DL.rMulD_e, ↓DL.rIxD_e, ↓DL.rI1_e, ↓DL.rI2_e, ↓DL.rIntCD_e, ↓DL.rSumD_e, ↓DL.rAllD_e, ↓DL.rIsiD_e, ↓DL.rLenD_e, ↓DL.rTupD_e, ↓DL.rLstD_e, ↓DL.rIsN_e, ↓DL.rSlD_e, ↓DL.dSl_e, ↓DL.dNoPart_e, ↓DL.dPart_e, ↓DL.dRev_e, ↓DL.dGet_e, ↓DL.dIn_e, ↓DL.dStore_e, ↓DL.dBM0_e, ↓DL.dBM_e, ↓DL.dDisp_e, ↓DL.mAppend_e, ↓DL.mPop_e, ↓DL.dNewK_e, ↓DL.dNewT_e, ↓DL.dLstM_e, ↓DL.dFrz_e, ↓DL.rReprD_e, ↓DL.rNeS_e, ↓DL.rEqS_e, ↓DL.asB_e, ↓DL.walkD_e, ↓DL.lookD_e, ↓DL.storeD_e, ↓DL.ofTy_e, ↓DL.onLst_e, DL.bodyE, DL.dstart, DL.dPairs, DL.dwipe, DL.keysOf, DL.keyD, DL.isNon, DL.peek_int, DL.peek_bl, DL.peek_non, DL.peek_str, DL.peek_tup, DL.peek_lst, DL.seqOf_tup, DL.seqOf_lst, DL.listOf_lst, DL.tyOf, DL.isTy, DL.atI0, DL.atI1, DL.atI2, DL.atI3, DL.atI4, DL.atI5, DL.dupd_same, DL.dupd_dupd, List.map_cons, List.map_nil, List.length_cons, List.length_nil, List.cons_append, List.nil_append, List.replicate_succ, List.replicate_zero, Nat.reduceAdd, Nat.reduceSub, Nat.zero_add, List.getElem?_cons_zero, List.getElem?_cons_succ, List.set_cons_zero, List.set_cons_succ, true_and, and_true, Int.toNat_natCast, if_true, if_false, Bool.false_eq_true, reduceCtorEq, ne_eq, not_false_eq_true, not_true_eq_false, decide_eq_true_eq, Bool.not_eq_true', decide_eq_false_iff_not, Option.bind_some, Option.map_some, $[$ls:term],*])
local macro_rules
  | `(tactic| unfold d2 $ls*) => `(tactic| try simp only [↓DL.dFor_e, ↓DL.dLc_e, ↓DL.dVar_e, ↓DL.dC_e, ↓DL.dOp_e, ↓DL.dUn_e, ↓DL.dB_e, ↓DL.dChain_e, ↓DL.dAnd_e, ↓DL.dOr_e, ↓DL.dNot_e, ↓DL.dAndV_e, ↓DL.dOrV_e, ↓DL.dNotV_e, ↓DL.dIf_e, ↓DL.dNil_e, ↓DL.dCons_e, ↓DL.dTup_e, ↓DL.dLst_e, ↓DL.dCB_e, ↓DL.dNext_e, ↓DL.dSeq_e, ↓DL.dCont_e, ↓DL.dBreak_e, ↓DL.dDrop_e, ↓DL.dRet_e, ↓DL.dRetN_e, ↓DL.dIfS_e, ↓DL.gN_e, ↓DL.gNilD_e, ↓DL.gConsD_e, ↓DL.gT_e, ↓DL.dAsg_e, ↓DL.dPar_e, ↓DL.dPar3_e, ↓DL.dYes_e, ↓DL.dISeq_e, ↓DL.dIRg1_e, ↓DL.dIRg2_e, ↓DL.dIEnum_e, ↓DL.dIZip_e, ↓DL.rIntD_e, ↓DL.rNegD_e, ↓DL.rEq_intF, ↓DL.rEq_intT, ↓DL.rAddD_e, ↓DL.rMulD_e, ↓DL.rIxD_e, ↓DL.rI1_e, ↓DL.rI2_e, ↓DL.rIntCD_e, ↓DL.rSumD_e, ↓DL.rAllD_e, ↓DL.rIsiD_e, ↓DL.rLenD_e, ↓DL.rTupD_e, ↓DL.rLstD_e, ↓DL.rIsN_e, ↓DL.rSlD_e, ↓DL.dSl_e, ↓DL.dNoPart_e, ↓DL.dPart_e, ↓DL.dRev_e, ↓DL.dGet_e, ↓DL.dIn_e, ↓DL.dStore_e, ↓DL.dBM0_e, ↓DL.dBM_e, ↓DL.dDisp_e, ↓DL.mAppend_e, ↓DL.mPop_e, ↓DL.dNewK_e, ↓DL.dNewT_e, ↓DL.dLstM_e, ↓DL.dFrz_e, ↓DL.rReprD_e, ↓DL.rNeS_e, ↓DL.rEqS_e, ↓DL.asB_e, ↓DL.walkD_e, ↓DL.lookD_e, ↓DL.storeD_e, ↓DL.ofTy_e, ↓DL.onLst_e, DL.bodyE, DL.dstart, DL.dPairs, DL.dwipe, DL.keysOf, DL.keyD, DL.isNon, DL.peek_int, DL.peek_bl, DL.peek_non, DL.peek_str, DL.peek_tup, DL.peek_lst, DL.seqOf_tup, DL.seqOf_lst, DL.listOf_lst, DL.tyOf, DL.isTy, DL.atI0, DL.atI1, DL.atI2, DL.atI3, DL.atI4, DL.atI5, DL.dupd_same, DL.dupd_dupd, List.map_cons, List.map_nil, List.length_cons, List.length_nil, List.cons_append, List.nil_append, List.replicate_succ, List.replicate_zero, Nat.reduceAdd, Nat.reduceSub, Nat.zero_add, List.getElem?_cons_zero, List.getElem?_cons_succ, List.set_cons_zero, List.set_cons_succ, true_and, and_true, Int.toNat_natCast, if_true, if_false, Bool.false_eq_true, reduceCtorEq, ne_eq, not_false_eq_true, not_true_eq_false, decide_eq_true_eq, Bool.not_eq_true', decide_eq_false_iff_not, Option.bind_some, Option.map_some, $[$ls:term],*])
local macro_rules
  | `(tactic| unfold d3 $ls*) => `(tactic| try simp only [↓DL.dLstRg1_e, ↓DL.dLstRg2_e, ↓DL.rSortD_e, ↓DL.rMaxL_e, ↓DL.rMinL_e, ↓DL.tell_F, ↓DL.tell_T, DL.ints_map, DL.bls_map, DL.pairs_map, ↓DL.dFor_e, ↓DL.dLc_e, ↓DL.dVar_e, ↓DL.dC_e, ↓DL.dOp_e, ↓DL.dUn_e, ↓DL.dB_e, ↓DL.dChain_e, ↓DL.dAnd_e, ↓DL.dOr_e, ↓DL.dNot_e, ↓DL.dAndV_e, ↓DL.dOrV_e, ↓DL.dNotV_e, ↓DL.dIf_e, ↓DL.dNil_e, ↓DL.dCons_e, ↓DL.dTup_e, ↓DL.dLst_e, ↓DL.dCB_e, ↓DL.dNext_e, ↓DL.dSeq_e, ↓DL.dCont_e, ↓DL.dBreak_e, ↓DL.dDrop_e, ↓DL.dRet_e, ↓DL.dRetN_e, ↓DL.dIfS_e, ↓DL.gN_e, ↓DL.gNilD_e, ↓DL.gConsD_e, ↓DL.gT_e, ↓DL.dAsg_e, ↓DL.dPar_e, ↓DL.dPar3_e, ↓DL.dYes_e, ↓DL.dISeq_e, ↓DL.dIRg1_e, ↓DL.dIRg2_e, ↓DL.dIEnum_e, ↓DL.dIZip_e, ↓DL.rIntD_e, ↓DL.rNegD_e, ↓DL.rEq_intF, ↓DL.rEq_intT, ↓DL.rAddD_e, ↓DL.rMulD_e, ↓DL.rIxD_e, ↓DL.rI1_e, ↓DL.rI2_e, ↓DL.rIntCD_e, ↓DL.rSumD_e, ↓DL.rAllD_e, ↓DL.rIsiD_e, ↓DL.rLenD_e, ↓DL.rTupD_e, ↓DL.rLstD_e, ↓DL.rIsN_e, ↓DL.rSlD_e, ↓DL.dSl_e, ↓DL.dNoPart_e, ↓DL.dPart_e, ↓DL.dRev_e, ↓DL.dGet_e, ↓DL.dIn_e, ↓DL.dStore_e, ↓DL.dBM0_e, ↓DL.dBM_e, ↓DL.dDisp_e, ↓DL.mAppend_e, ↓DL.mPop_e, ↓DL.dNewK_e, ↓DL.dNewT_e, ↓DL.dLstM_e, ↓DL.dFrz_e, ↓DL.rReprD_e, ↓DL.rNeS_e, ↓DL.rEqS_e, ↓DL.asB_e, ↓DL.walkD_e, ↓DL.lookD_e, ↓DL.storeD_e, ↓DL.ofTy_e, ↓DL.onLst_e, DL.bodyE, DL.dstart, DL.dPairs, DL.dwipe, DL.keysOf, DL.keyD, DL.isNon, DL.peek_int, DL.peek_bl, DL.peek_non, DL.peek_str, DL.peek_tup, DL.peek_lst, DL.seqOf_tup, DL.seqOf_lst, DL.listOf_lst, DL.tyOf, DL.isTy, DL.atI0, DL.atI1, DL.atI2, DL.atI3, DL.atI4, DL.atI5, DL.dupd_same, DL.dupd_dupd, List.map_cons, List.map_nil, List.length_cons, List.length_nil, List.cons_append, List.nil_append, List.replicate_succ, List.replicate_zero, Nat.reduceAdd, Nat.reduceSub, Nat.zero_add, List.getElem?_cons_zero, List.getElem?_cons_succ, List.set_cons_zero, List.set_cons_succ, true_and, and_true, Int.toNat_natCast, if_true, if_false, Bool.false_eq_true, reduceCtorEq, ne_eq, not_false_eq_true, not_true_eq_false, decide_eq_true_eq, Bool.not_eq_true', decide_eq_false_iff_not, Option.bind_some, Option.map_some, $[$ls:term],*])
local macro_rules
  | `(tactic| unfold ob) => `(tactic| first | decide | assumption | omega | exact DL.mulD_l (by omega) (by omega) | exact DL.mulD_r (by omega) (by omega) | (refine DL.size_le4 ?_; (try simp only [List.length_map, DL.rng_length, DL.enumF_length, List.length_cons, List.length_nil, List.length_append, List.length_zip]); omega) | (exact DL.size_le4 (Nat.le_trans (List.length_filter_le _ _) (by (try simp only [List.length_map, DL.rng_length, DL.enumF_length]); omega))) | (unfold DL.inIx; omega) | (unfold DL.inIx; (try simp only [List.length_map, List.length_cons, List.length_nil, List.length_append, List.length_dropLast]); omega) | (simp_all; done))
namespace DL
open PySem PySem.Spec PyProof.Rows L2 DLM
theorem pre_len {n : Int} (h0 : n ≤ 9) {pre post : List Int} {joint : Int} (hx : rng 0 n = pre ++ joint :: post) : pre.length ≤ 8 := by
  have := congrArg List.length hx
  rw [rng_length, List.length_append, List.length_cons] at this
  omega
theorem subs_small {pre : List Int} (h : pre.length ≤ 9) : (LAM.subs pre).length ≤ 512 := by
  rw [LAM.subs_len]
  exact Nat.pow_le_pow_right (by decide) h
theorem rng_small {n : Int} (h0 : n ≤ 9) : (rng 0 n).length ≤ 9 := by rw [rng_length]; omega
/-! ### rods_within_lot -/
def rd_rods_within_lot : DS :=
  (dRet (dCB rTupD (dCons (dLc false (dISeq (dVar 0)) (gN 2) (dAnd (dB (dOp (rInD false) (dOp rIxD (dVar 2) (dC (.int 0))) (dVar 1))) (dB (dOp (rInD false) (dOp rIxD (dVar 2) (dC (.int 1))) (dVar 1)))) (dVar 2) [2]) dNil)))
def m_rods_within_lot (rods : List (Int × Int)) (lot : (List Int)) : (List (Int × Int)) :=
  (rods.filter (fun (rod : (Int × Int)) => ((decide (rod.1 ∈ lot)) && (decide (rod.2 ∈ lot)))))
def sp_rods_within_lot : DSp := fun ds DH Q => ∃ (rods : List (Int × Int)) (d_rods : D) (lot : (List Int)), ds = [d_rods, (eT eI) lot] ∧ (seqOf DH d_rods = some (rods.map (eTup (cc eI (c1 eI))))) ∧ (rods.length ≤ 1000) ∧ Q ((eT (eTup (cc eI (c1 eI)))) (m_rods_within_lot rods lot)) DH
theorem call_rods_within_lot {DH : DHp} (rods : List (Int × Int)) (d_rods : D) (hd_rods : seqOf DH d_rods = some (rods.map (eTup (cc eI (c1 eI))))) (lot : (List Int)) (h0 : rods.length ≤ 1000) : RvC sp_rods_within_lot [d_rods, (eT eI) lot] DH ((eT (eTup (cc eI (c1 eI)))) (m_rods_within_lot rods lot)) := fun Q q => ⟨rods, d_rods, lot, rfl, hd_rods, h0, q⟩
set_option maxHeartbeats 0 in
theorem rods_within_lot_ok {ds : List D} {DH : DHp} {Q : DK} (h : sp_rods_within_lot ds DH Q) : rd_rods_within_lot (bodyE Q) (dstart ["rods", "lot", "rod"] ds) DH := by
  obtain ⟨rods, d_rods, lot, rfl, hd_rods, h0, hQ⟩ := h
  replace hQ : Tk (fun r => ∀ d H', RPv (eT (eTup (cc eI (c1 eI)))) DH r d H' → (bodyE Q).rt d H') (m_rods_within_lot rods lot) := rpv hQ
  have hs := DSub.refl DH
  unfold rd_rods_within_lot
  unfold m_rods_within_lot at hQ
  show (_ : DS) _ [some d_rods, some ((eT eI) lot), none] _
  refine s_last ?_
  exact s_ret (evd ((eT (eTup (cc eI (c1 eI)))) (rods.filter (fun (rod : (Int × Int)) => ((decide (rod.1 ∈ lot)) && (decide (rod.2 ∈ lot)))))) (ev_cb (ea_cons (evd ((eL (eTup (cc eI (c1 eI)))) (rods.filter (fun (rod : (Int × Int)) => ((decide (rod.1 ∈ lot)) && (decide (rod.2 ∈ lot)))))) (ev_lcf (eTup (cc eI (c1 eI))) rods (fun (rod : (Int × Int)) => ((decide (rod.1 ∈ lot)) && (decide (rod.2 ∈ lot)))) _ (ej_Q hd_rods hs (ev_var rfl)) (by unfold ob) (fun rod => gv_N) (fun rod h_rod => (et_and (et_b (ev_op (evd (eI rod.1) (ev_op (evd ((eTup (cc eI (c1 eI))) rod) (ev_var rfl)) ev_c (r_ixP (d := eI rod.1) rfl))) (evd ((eT eI) lot) (ev_var rfl)) (r_in (e := eI) (x := rod.1) (xs := lot) (by decide) seqT))) (fun hc => (et_b (ev_op (evd (eI rod.2) (ev_op (evd ((eTup (cc eI (c1 eI))) rod) (ev_var rfl)) ev_c (r_ixP (d := eI rod.2) rfl))) (evd ((eT eI) lot) (ev_var rfl)) (r_in (e := eI) (x := rod.2) (xs := lot) (by decide) seqT)))))) (fun rod h_rod hc => (evd ((eTup (cc eI (c1 eI))) rod) (ev_var rfl))))) ea_nil) (c_tup (e := (eTup (cc eI (c1 eI)))) (xs := (rods.filter (fun (rod : (Int × Int)) => ((decide (rod.1 ∈ lot)) && (decide (rod.2 ∈ lot)))))) seqL))) (tk_rt hQ ⟨rfl, hs⟩)
/-! ### lot_room -/
def rd_lot_room : DS :=
  (dRet (dOp (rIntD (fun _ _ => True) fun i j => .int (i - j)) (dOp rMulD (dC (.int 2)) (dCB rLenD (dCons (dVar 0) dNil))) (dC (.int 3))))
def m_lot_room (lot : (List Int)) : Int :=
  (((2 : Int) * (lot.length : Int)) - (3 : Int))
def sp_lot_room : DSp := fun ds DH Q => ∃ (lot : (List Int)), ds = [(eT eI) lot] ∧ (lot.length ≤ 1000) ∧ Q (eI (m_lot_room lot)) DH
theorem call_lot_room {DH : DHp} (lot : (List Int)) (h0 : lot.length ≤ 1000) : RvC sp_lot_room [(eT eI) lot] DH (eI (m_lot_room lot)) := fun Q q => ⟨lot, rfl, h0, q⟩
set_option maxHeartbeats 0 in
theorem lot_room_ok {ds : List D} {DH : DHp} {Q : DK} (h : sp_lot_room ds DH Q) : rd_lot_room (bodyE Q) (dstart ["lot"] ds) DH := by
  obtain ⟨lot, rfl, h0, hQ⟩ := h
  replace hQ : Tk (fun r => ∀ d H', RPv eI DH r d H' → (bodyE Q).rt d H') (m_lot_room lot) := rpv hQ
  have hs := DSub.refl DH
  unfold rd_lot_room
  unfold m_lot_room at hQ
  show (_ : DS) _ [some ((eT eI) lot)] _
  refine s_last ?_
  exact s_ret (evd (eI (((2 : Int) * (lot.length : Int)) - (3 : Int))) (ev_op (ev_op ev_c (ev_cb (ea_cons (evd ((eT eI) lot) (ev_var rfl)) ea_nil) (c_len (e := eI) (xs := lot) seqT)) (r_mul (mulD_l (by decide) (by decide)))) ev_c r_sub)) (tk_rt hQ ⟨rfl, hs⟩)
/-! ### lots_of_joints -/
def rd_lots_of_joints : DS :=
  (dSeq (dAsg (dLst (dCons (dTup dNil) dNil)) (gN 1))
    (dSeq (dFor (dIRg1 (dCons (dVar 0) dNil)) (gN 2) (dAsg (dOp rAddD (dVar 1) (dLc false (dISeq (dVar 1)) (gN 3) dYes (dOp rAddD (dVar 3) (dTup (dCons (dVar 2) dNil))) [3])) (gN 1)))
    (dRet (dCB (rSortX false) (dCons (dLc false (dISeq (dVar 1)) (gN 3) (dB (dOp (rIntD (fun _ _ => True) fun i j => .bl (decide (j < i))) (dCB rLenD (dCons (dVar 3) dNil)) (dC (.int 1)))) (dVar 3) [3]) dNil)))))
def m_lots_of_joints (n : Int) : (List (List Int)) :=
  bnd ([([] : List Int)] : (List (List Int))) fun (found : (List (List Int))) => bnd (List.foldl (fun (st : ((List (List Int)))) (joint : Int) => (bnd ((st ++ (st.map (fun (lot : (List Int)) => (lot ++ [joint])))) : (List (List Int))) fun (found1 : (List (List Int))) => found1 : ((List (List Int))))) found (rng 0 n)) fun (st : ((List (List Int)))) => (srtT (st.filter (fun (lot1 : (List Int)) => (decide ((1 : Int) < (lot1.length : Int))))))
def sp_lots_of_joints : DSp := fun ds DH Q => ∃ (n : Int), ds = [eI n] ∧ (n ≤ 9) ∧ (0 ≤ n) ∧ Q ((eL (eT eI)) (m_lots_of_joints n)) DH
theorem call_lots_of_joints {DH : DHp} (n : Int) (h0 : n ≤ 9) (h1 : 0 ≤ n) : RvC sp_lots_of_joints [eI n] DH ((eL (eT eI)) (m_lots_of_joints n)) := fun Q q => ⟨n, rfl, h0, h1, q⟩
set_option maxHeartbeats 0 in
theorem lots_of_joints_ok {ds : List D} {DH : DHp} {Q : DK} (h : sp_lots_of_joints ds DH Q) : rd_lots_of_joints (bodyE Q) (dstart ["n", "found", "joint", "lot"] ds) DH := by
  obtain ⟨n, rfl, h0, h1, hQ⟩ := h
  replace hQ : Tk (fun r => ∀ d H', RPv (eL (eT eI)) DH r d H' → (bodyE Q).rt d H') (m_lots_of_joints n) := rpv hQ
  have hs := DSub.refl DH
  unfold rd_lots_of_joints
  unfold m_lots_of_joints at hQ
  show (_ : DS) _ [some (eI n), none, none, none] _
  refine s_asg (eL (eT eI)) hQ (evd ((eL (eT eI)) [([] : List Int)]) (ev_lstK 1 (ea_cons (evd ((eT eI) ([] : List Int)) (ev_tupK 0 ea_nil rfl (by decide))) ea_nil) rfl (by decide))) (fun found h_found hQ => ?_)
  show (_ : DS) _ [some (eI n), some ((eL (eT eI)) found), none, none] _
  refine s_for eI (rng 0 n) (fun (st : ((List (List Int)))) (joint : Int) => bnd ((st ++ (st.map (fun (lot : (List Int)) => (lot ++ [joint])))) : (List (List Int))) fun (found1 : (List (List Int))) => found1) found (fun (st : ((List (List Int)))) τ' H' => ∃ t2 : Option D, τ' = [some (eI n), some ((eL (eT eI)) st), t2, none] ∧ DSub DH H') hQ (ei_rg1 (ev_var rfl) (by unfold ob) (by unfold ob)) (fun st τ' H' h => trivial) ⟨_, rfl, hs⟩ (fun pre joint post st τ' H' hx_st hs_st hst E' hQ => ?_) (fun st τ' H' hst hs_st hQ => ?_)
  · obtain ⟨t2, rfl, hs⟩ := hst
    have hm_joint : joint ∈ (rng 0 n) := by rw [hx_st]; simp
    have hb_joint := mem_rng.mp hm_joint
    refine (show Gv _ (eI joint) _ _ _ from gv_N) _ ?_
    show (_ : DS) _ [some (eI n), some ((eL (eT eI)) st), some (eI joint), none] _
    refine s_last ?_
    refine s_asg (eL (eT eI)) hQ (evd ((eL (eT eI)) (st ++ (st.map (fun (lot : (List Int)) => (lot ++ [joint]))))) (ev_op (evd ((eL (eT eI)) st) (ev_var rfl)) (evd ((eL (eT eI)) (st.map (fun (lot : (List Int)) => (lot ++ [joint])))) (ev_lc1 (eT eI) (eT eI) st (fun (lot : (List Int)) => (lot ++ [joint])) _ ⟨_, (ei_L (e := (eT eI)) (xs := st) (evd ((eL (eT eI)) st) (ev_var rfl)))⟩ (by subst h_found; exact Nat.le_trans (by rw [hs_st]; exact subs_small (Nat.le_trans (pre_len h0 hx_st) (by decide))) (size_le4 (by decide))) (fun lot => gv_N) (fun lot h_lot => (evd ((eT eI) (lot ++ [joint])) (ev_op (evd ((eT eI) lot) (ev_var rfl)) (evd ((eT eI) [joint]) (ev_tupK 1 (ea_cons (evd (eI joint) (ev_var rfl)) ea_nil) rfl (by decide))) (r_catT (e := eI) (xs := lot) (ys := [joint]) (by subst h_found; rw [hs_st] at h_lot; have := ((LAM.mem_subs pre lot).mp h_lot).length_le; have := pre_len h0 hx_st; exact size_le4 (by simp only [List.length_singleton]; omega)))))))) (r_catL (e := (eT eI)) (xs := st) (ys := (st.map (fun (lot : (List Int)) => (lot ++ [joint])))) (by subst h_found; have q : st.length ≤ 512 := by { rw [hs_st]; exact subs_small (Nat.le_trans (pre_len h0 hx_st) (by decide)) }; exact size_le4 (by rw [List.length_map]; omega)) rfl rfl))) (fun found1 h_found1 hQ => ?_)
    exact tk_nx hQ ⟨_, rfl, hs⟩
  · obtain ⟨t2, rfl, hs⟩ := hst
    show (_ : DS) _ [some (eI n), some ((eL (eT eI)) st), t2, none] _
    refine s_last ?_
    exact s_ret (evd ((eL (eT eI)) (srtT (st.filter (fun (lot1 : (List Int)) => (decide ((1 : Int) < (lot1.length : Int))))))) (ev_cb (ea_cons (evd ((eL (eT eI)) (st.filter (fun (lot1 : (List Int)) => (decide ((1 : Int) < (lot1.length : Int)))))) (ev_lcf (eT eI) st (fun (lot1 : (List Int)) => (decide ((1 : Int) < (lot1.length : Int)))) _ ⟨_, (ei_L (e := (eT eI)) (xs := st) (evd ((eL (eT eI)) st) (ev_var rfl)))⟩ (by subst h_found; exact Nat.le_trans (by rw [hs_st]; exact subs_small (rng_small h0)) (size_le4 (by decide))) (fun lot1 => gv_N) (fun lot1 h_lot1 => (et_b (ev_op (ev_cb (ea_cons (evd ((eT eI) lot1) (ev_var rfl)) ea_nil) (c_len (e := eI) (xs := lot1) seqT)) ev_c r_gt))) (fun lot1 h_lot1 hc => (evd ((eT eI) lot1) (ev_var rfl))))) ea_nil) (c_srtT (xs := (st.filter (fun (lot1 : (List Int)) => (decide ((1 : Int) < (lot1.length : Int)))))) seqL (by intro x hx e; subst e; simp at hx)))) (tk_rt hQ ⟨rfl, hs⟩)
theorem lots_eq (n : Int) : m_lots_of_joints n = srtT ((LAM.subs (rng 0 n)).filter fun lot1 => decide ((1 : Int) < (lot1.length : Int))) := (rfl)
theorem mem_lots {n : Int} {l : List Int} : l ∈ m_lots_of_joints n ↔ l.Sublist (rng 0 n) ∧ 2 ≤ l.length := by
  rw [lots_eq, (srtT_perm _).mem_iff, List.mem_filter, LAM.mem_subs, decide_eq_true_eq]
  exact ⟨fun ⟨a, b⟩ => ⟨a, by omega⟩, fun ⟨a, b⟩ => ⟨a, by omega⟩⟩
theorem lots_len {n : Int} (h0 : n ≤ 9) : (m_lots_of_joints n).length ≤ 512 := by
  rw [lots_eq, (srtT_perm _).length_eq]
  exact Nat.le_trans (List.length_filter_le _ _) (subs_small (rng_small h0))
theorem lot_len {n : Int} (h0 : n ≤ 9) {l : List Int} (h : l ∈ m_lots_of_joints n) : l.length ≤ 9 := Nat.le_trans (mem_lots.mp h).1.length_le (rng_small h0)
/-! ### full_lots -/
def rd_full_lots : DS :=
  (dSeq (dAsg (dVar 0) (gT 2 (gConsD (gN 1) (gConsD (gN 2) gNilD))))
    (dRet (dCB rTupD (dCons (dLc false (dISeq (dCB sp_lots_of_joints (dCons (dVar 1) dNil))) (gN 3) (dB (dOp (rEqD false) (dCB rLenD (dCons (dCB sp_rods_within_lot (dCons (dVar 2) (dCons (dVar 3) dNil))) dNil)) (dCB sp_lot_room (dCons (dVar 3) dNil)))) (dVar 3) [3]) dNil))))
def m_full_lots (frame : (Int × (List (Int × Int)))) : (List (List Int)) :=
  bnd (frame.1 : Int) fun (n : Int) => bnd (frame.2 : (List (Int × Int))) fun (rods : (List (Int × Int))) => ((m_lots_of_joints (n)).filter (fun (lot : (List Int)) => (decide (((m_rods_within_lot (rods) (lot)).length : Int) = (m_lot_room (lot))))))
def sp_full_lots : DSp := fun ds DH Q => ∃ (frame : (Int × (List (Int × Int)))), ds = [(eTup (cc eI (c1 (eT (eTup (cc eI (c1 eI))))))) frame] ∧ (frame.1 ≤ 9) ∧ (frame.2.length ≤ 1000) ∧ (0 ≤ frame.1) ∧ Q ((eT (eT eI)) (m_full_lots frame)) DH
theorem call_full_lots {DH : DHp} (frame : (Int × (List (Int × Int)))) (h0 : frame.1 ≤ 9) (h1 : frame.2.length ≤ 1000) (h2 : 0 ≤ frame.1) : RvC sp_full_lots [(eTup (cc eI (c1 (eT (eTup (cc eI (c1 eI))))))) frame] DH ((eT (eT eI)) (m_full_lots frame)) := fun Q q => ⟨frame, rfl, h0, h1, h2, q⟩
set_option maxHeartbeats 0 in
theorem full_lots_ok {ds : List D} {DH : DHp} {Q : DK} (h : sp_full_lots ds DH Q) : rd_full_lots (bodyE Q) (dstart ["frame", "n", "rods", "lot"] ds) DH := by
  obtain ⟨frame, rfl, h0, h1, h2, hQ⟩ := h
  replace hQ : Tk (fun r => ∀ d H', RPv (eT (eT eI)) DH r d H' → (bodyE Q).rt d H') (m_full_lots frame) := rpv hQ
  have hs := DSub.refl DH
  unfold rd_full_lots
  unfold m_full_lots at hQ
  show (_ : DS) _ [some ((eTup (cc eI (c1 (eT (eTup (cc eI (c1 eI))))))) frame), none, none, none] _
  refine s_unp2 eI (eT (eTup (cc eI (c1 eI)))) hQ (evd ((eTup (cc eI (c1 (eT (eTup (cc eI (c1 eI))))))) frame) (ev_var rfl)) (fun n rods h_n h_rods hQ => ?_)
  show (_ : DS) _ [some ((eTup (cc eI (c1 (eT (eTup (cc eI (c1 eI))))))) frame), some (eI n), some ((eT (eTup (cc eI (c1 eI)))) rods), none] _
  refine s_last ?_
  exact s_ret (evd ((eT (eT eI)) ((m_lots_of_joints (n)).filter (fun (lot : (List Int)) => (decide (((m_rods_within_lot (rods) (lot)).length : Int) = (m_lot_room (lot))))))) (ev_cb (ea_cons (evd ((eL (eT eI)) ((m_lots_of_joints (n)).filter (fun (lot : (List Int)) => (decide (((m_rods_within_lot (rods) (lot)).length : Int) = (m_lot_room (lot))))))) (ev_lcf (eT eI) (m_lots_of_joints (n)) (fun (lot : (List Int)) => (decide (((m_rods_within_lot (rods) (lot)).length : Int) = (m_lot_room (lot))))) _ ⟨_, (ei_L (e := (eT eI)) (xs := (m_lots_of_joints (n))) (evd ((eL (eT eI)) (m_lots_of_joints (n))) (ev_cb (ea_cons (evd (eI n) (ev_var rfl)) ea_nil) (call_lots_of_joints (n) (by unfold ob) (by unfold ob)))))⟩ (by subst h_n; exact Nat.le_trans (lots_len h0) (size_le4 (by decide))) (fun lot => gv_N) (fun lot h_lot => (et_b (ev_op (evd (eI ((m_rods_within_lot (rods) (lot)).length : Int)) (ev_cb (ea_cons (evd ((eT (eTup (cc eI (c1 eI)))) (m_rods_within_lot (rods) (lot))) (ev_cb (ea_cons (evd ((eT (eTup (cc eI (c1 eI)))) rods) (ev_var rfl)) (ea_cons (evd ((eT eI) lot) (ev_var rfl)) ea_nil)) (call_rods_within_lot (rods) ((eT (eTup (cc eI (c1 eI)))) rods) seqT (lot) (by unfold ob)))) ea_nil) (c_len (e := (eTup (cc eI (c1 eI)))) (xs := (m_rods_within_lot (rods) (lot))) seqT))) (evd (eI (m_lot_room (lot))) (ev_cb (ea_cons (evd ((eT eI) lot) (ev_var rfl)) ea_nil) (call_lot_room (lot) (by subst h_n; exact Nat.le_trans (lot_len h0 h_lot) (by decide))))) (r_eq (e := eI) (x := ((m_rods_within_lot (rods) (lot)).length : Int)) (y := (m_lot_room (lot))) (by decide) (peek_gd _ _) (peek_gd _ _))))) (fun lot h_lot hc => (evd ((eT eI) lot) (ev_var rfl))))) ea_nil) (c_tup (e := (eT eI)) (xs := ((m_lots_of_joints (n)).filter (fun (lot : (List Int)) => (decide (((m_rods_within_lot (rods) (lot)).length : Int) = (m_lot_room (lot))))))) seqL))) (tk_rt hQ ⟨rfl, hs⟩)
/-! ### least_full_lot -/
def rd_least_full_lot : DS :=
  (dSeq (dAsg (dC .non) (gN 3))
    (dSeq (dFor (dISeq (dCB sp_full_lots (dCons (dVar 0) dNil))) (gN 4) (dIfS (dAnd (dB (dOp (rInD false) (dVar 1) (dVar 4))) (dAnd (dB (dOp (rInD false) (dVar 2) (dVar 4))) (dOr (dB (dOp (rIsN false) (dVar 3) (dC .non))) (dB (dOp (rIntD (fun _ _ => True) fun i j => .bl (decide (i < j))) (dCB rLenD (dCons (dVar 4) dNil)) (dCB rLenD (dCons (dVar 3) dNil))))))) (dAsg (dVar 4) (gN 3)) dNext))
    (dRet (dVar 3))))
def m_least_full_lot (frame : (Int × (List (Int × Int)))) (a : Int) (b : Int) : (Option (List Int)) :=
  bnd (none : (Option (List Int))) fun (found : (Option (List Int))) => bnd (List.foldl (fun (st : ((Option (List Int)))) (lot : (List Int)) => ((if ((decide (a ∈ lot)) && ((decide (b ∈ lot)) && (((st).isNone) || (decide ((lot.length : Int) < ((st.getD default).length : Int)))))) = true then bnd ((some lot) : (Option (List Int))) fun (found1 : (Option (List Int))) => found1 else st) : ((Option (List Int))))) found (m_full_lots (frame))) fun (st : ((Option (List Int)))) => st
def sp_least_full_lot : DSp := fun ds DH Q => ∃ (frame : (Int × (List (Int × Int)))) (a : Int) (b : Int), ds = [(eTup (cc eI (c1 (eT (eTup (cc eI (c1 eI))))))) frame, eI a, eI b] ∧ (frame.1 ≤ 9) ∧ (frame.2.length ≤ 1000) ∧ (0 ≤ frame.1) ∧ Q ((eO (eT eI)) (m_least_full_lot frame a b)) DH
theorem call_least_full_lot {DH : DHp} (frame : (Int × (List (Int × Int)))) (a : Int) (b : Int) (h0 : frame.1 ≤ 9) (h1 : frame.2.length ≤ 1000) (h2 : 0 ≤ frame.1) : RvC sp_least_full_lot [(eTup (cc eI (c1 (eT (eTup (cc eI (c1 eI))))))) frame, eI a, eI b] DH ((eO (eT eI)) (m_least_full_lot frame a b)) := fun Q q => ⟨frame, a, b, rfl, h0, h1, h2, q⟩
set_option maxHeartbeats 0 in
theorem least_full_lot_ok {ds : List D} {DH : DHp} {Q : DK} (h : sp_least_full_lot ds DH Q) : rd_least_full_lot (bodyE Q) (dstart ["frame", "a", "b", "found", "lot"] ds) DH := by
  obtain ⟨frame, a, b, rfl, h0, h1, h2, hQ⟩ := h
  replace hQ : Tk (fun r => ∀ d H', RPv (eO (eT eI)) DH r d H' → (bodyE Q).rt d H') (m_least_full_lot frame a b) := rpv hQ
  have hs := DSub.refl DH
  unfold rd_least_full_lot
  unfold m_least_full_lot at hQ
  show (_ : DS) _ [some ((eTup (cc eI (c1 (eT (eTup (cc eI (c1 eI))))))) frame), some (eI a), some (eI b), none, none] _
  refine s_asg (eO (eT eI)) hQ (evd ((eO (eT eI)) none) ev_c) (fun found h_found hQ => ?_)
  show (_ : DS) _ [some ((eTup (cc eI (c1 (eT (eTup (cc eI (c1 eI))))))) frame), some (eI a), some (eI b), some ((eO (eT eI)) found), none] _
  refine s_for (eT eI) (m_full_lots (frame)) (fun (st : ((Option (List Int)))) (lot : (List Int)) => (if ((decide (a ∈ lot)) && ((decide (b ∈ lot)) && (((st).isNone) || (decide ((lot.length : Int) < ((st.getD default).length : Int)))))) = true then bnd ((some lot) : (Option (List Int))) fun (found1 : (Option (List Int))) => found1 else st)) found (fun (st : ((Option (List Int)))) τ' H' => ∃ t4 : Option D, τ' = [some ((eTup (cc eI (c1 (eT (eTup (cc eI (c1 eI))))))) frame), some (eI a), some (eI b), some ((eO (eT eI)) st), t4] ∧ DSub DH H') hQ (ei_T (e := (eT eI)) (xs := (m_full_lots (frame))) (evd ((eT (eT eI)) (m_full_lots (frame))) (ev_cb (ea_cons (evd ((eTup (cc eI (c1 (eT (eTup (cc eI (c1 eI))))))) frame) (ev_var rfl)) ea_nil) (call_full_lots (frame) (by unfold ob) (by unfold ob) (by unfold ob))))) (fun st τ' H' h => trivial) ⟨_, rfl, hs⟩ (fun pre lot post st τ' H' hx_st hs_st hst E' hQ => ?_) (fun st τ' H' hst hs_st hQ => ?_)
  · obtain ⟨t4, rfl, hs⟩ := hst
    have hm_lot : lot ∈ (m_full_lots (frame)) := by rw [hx_st]; simp
    refine (show Gv _ ((eT eI) lot) _ _ _ from gv_N) _ ?_
    show (_ : DS) _ [some ((eTup (cc eI (c1 (eT (eTup (cc eI (c1 eI))))))) frame), some (eI a), some (eI b), some ((eO (eT eI)) st), some ((eT eI) lot)] _
    refine s_last ?_
    refine s_if (b := ((decide (a ∈ lot)) && ((decide (b ∈ lot)) && (((st).isNone) || (decide ((lot.length : Int) < ((st.getD default).length : Int))))))) hQ (et_and (et_b (ev_op (evd (eI a) (ev_var rfl)) (evd ((eT eI) lot) (ev_var rfl)) (r_in (e := eI) (x := a) (xs := lot) (by decide) seqT))) (fun hc2 => (et_and (et_b (ev_op (evd (eI b) (ev_var rfl)) (evd ((eT eI) lot) (ev_var rfl)) (r_in (e := eI) (x := b) (xs := lot) (by decide) seqT))) (fun hc1 => (et_or (et_b (ev_op (ev_var rfl) ev_c (r_is (e := (eT eI)) (x := st)))) (fun hc => (et_b (ev_op (ev_cb (ea_cons (evd ((eT eI) lot) (ev_var rfl)) ea_nil) (c_len (e := eI) (xs := lot) seqT)) (ev_cb (ea_cons (evd ((eT eI) (st.getD default)) (ev_some (e := (eT eI)) (x := st) (ev_var rfl) (by unfold ob))) ea_nil) (c_len (e := eI) (xs := (st.getD default)) seqT)) r_lt)))))))) (fun hc3 hQ => ?_) (fun hc3 hQ => ?_)
    · skip
      show (_ : DS) _ [some ((eTup (cc eI (c1 (eT (eTup (cc eI (c1 eI))))))) frame), some (eI a), some (eI b), some ((eO (eT eI)) st), some ((eT eI) lot)] _
      refine s_asg (eO (eT eI)) hQ (evd ((eO (eT eI)) (some lot)) (ev_var rfl)) (fun found1 h_found1 hQ => ?_)
      exact tk_nx hQ ⟨_, rfl, hs⟩
    · skip
      refine s_skip ?_
      exact tk_nx hQ ⟨_, rfl, hs⟩
  · obtain ⟨t4, rfl, hs⟩ := hst
    show (_ : DS) _ [some ((eTup (cc eI (c1 (eT (eTup (cc eI (c1 eI))))))) frame), some (eI a), some (eI b), some ((eO (eT eI)) st), t4] _
    refine s_last ?_
    exact s_ret (evd ((eO (eT eI)) st) (ev_var rfl)) (tk_rt hQ ⟨rfl, hs⟩)
/-! ### first_free_rods -/
def rd_first_free_rods : DS :=
  (dRet (dCB rTupD (dCons (dCB sp_taken_freely (dCons (dTup dNil) (dCons (dOp rIxD (dVar 0) (dC (.int 1))) dNil))) dNil)))
noncomputable def m_first_free_rods (frame : (Int × (List (Int × Int)))) : (List (Int × Int)) :=
  (m_taken_freely (([] : List (Int × Int))) (frame.2))
def sp_first_free_rods : DSp := fun ds DH Q => ∃ (frame : (Int × (List (Int × Int)))), ds = [(eTup (cc eI (c1 (eT (eTup (cc eI (c1 eI))))))) frame] ∧ (frame.2.length ≤ 900) ∧ (∀ r ∈ frame.2, LAM.RodOk 12 r) ∧ Q ((eT (eTup (cc eI (c1 eI)))) (m_first_free_rods frame)) DH
theorem call_first_free_rods {DH : DHp} (frame : (Int × (List (Int × Int)))) (h0 : frame.2.length ≤ 900) (h1 : ∀ r ∈ frame.2, LAM.RodOk 12 r) : RvC sp_first_free_rods [(eTup (cc eI (c1 (eT (eTup (cc eI (c1 eI))))))) frame] DH ((eT (eTup (cc eI (c1 eI)))) (m_first_free_rods frame)) := fun Q q => ⟨frame, rfl, h0, h1, q⟩
set_option maxHeartbeats 0 in
theorem first_free_rods_ok {ds : List D} {DH : DHp} {Q : DK} (h : sp_first_free_rods ds DH Q) : rd_first_free_rods (bodyE Q) (dstart ["frame"] ds) DH := by
  obtain ⟨frame, rfl, h0, h1, hQ⟩ := h
  replace hQ : Tk (fun r => ∀ d H', RPv (eT (eTup (cc eI (c1 eI)))) DH r d H' → (bodyE Q).rt d H') (m_first_free_rods frame) := rpv hQ
  have hs := DSub.refl DH
  unfold rd_first_free_rods
  unfold m_first_free_rods at hQ
  show (_ : DS) _ [some ((eTup (cc eI (c1 (eT (eTup (cc eI (c1 eI))))))) frame)] _
  refine s_last ?_
  exact s_ret (evd ((eT (eTup (cc eI (c1 eI)))) (m_taken_freely (([] : List (Int × Int))) (frame.2))) (ev_cb (ea_cons (evd ((eL (eTup (cc eI (c1 eI)))) (m_taken_freely (([] : List (Int × Int))) (frame.2))) (ev_cb (ea_cons (evd ((eT (eTup (cc eI (c1 eI)))) ([] : List (Int × Int))) (ev_tupK 0 ea_nil rfl (by decide))) (ea_cons (evd ((eT (eTup (cc eI (c1 eI)))) frame.2) (ev_op (evd ((eTup (cc eI (c1 (eT (eTup (cc eI (c1 eI))))))) frame) (ev_var rfl)) ev_c (r_ixP (d := (eT (eTup (cc eI (c1 eI)))) frame.2) rfl))) ea_nil)) (call_taken_freely (([] : List (Int × Int))) ((eT (eTup (cc eI (c1 eI)))) ([] : List (Int × Int))) seqT (frame.2) ((eT (eTup (cc eI (c1 eI)))) frame.2) seqT (by simp only [List.length_nil]; omega) (by unfold ob)))) ea_nil) (c_tup (e := (eTup (cc eI (c1 eI)))) (xs := (m_taken_freely (([] : List (Int × Int))) (frame.2))) seqL))) (tk_rt hQ ⟨rfl, hs⟩)
/-! ### free_rank -/
def rd_free_rank : DS :=
  (dRet (dCB rLenD (dCons (dCB sp_first_free_rods (dCons (dVar 0) dNil)) dNil)))
noncomputable def m_free_rank (frame : (Int × (List (Int × Int)))) : Int :=
  ((m_first_free_rods (frame)).length : Int)
def sp_free_rank : DSp := fun ds DH Q => ∃ (frame : (Int × (List (Int × Int)))), ds = [(eTup (cc eI (c1 (eT (eTup (cc eI (c1 eI))))))) frame] ∧ (frame.2.length ≤ 900) ∧ (∀ r ∈ frame.2, LAM.RodOk 12 r) ∧ Q (eI (m_free_rank frame)) DH
theorem call_free_rank {DH : DHp} (frame : (Int × (List (Int × Int)))) (h0 : frame.2.length ≤ 900) (h1 : ∀ r ∈ frame.2, LAM.RodOk 12 r) : RvC sp_free_rank [(eTup (cc eI (c1 (eT (eTup (cc eI (c1 eI))))))) frame] DH (eI (m_free_rank frame)) := fun Q q => ⟨frame, rfl, h0, h1, q⟩
set_option maxHeartbeats 0 in
theorem free_rank_ok {ds : List D} {DH : DHp} {Q : DK} (h : sp_free_rank ds DH Q) : rd_free_rank (bodyE Q) (dstart ["frame"] ds) DH := by
  obtain ⟨frame, rfl, h0, h1, hQ⟩ := h
  replace hQ : Tk (fun r => ∀ d H', RPv eI DH r d H' → (bodyE Q).rt d H') (m_free_rank frame) := rpv hQ
  have hs := DSub.refl DH
  unfold rd_free_rank
  unfold m_free_rank at hQ
  show (_ : DS) _ [some ((eTup (cc eI (c1 (eT (eTup (cc eI (c1 eI))))))) frame)] _
  refine s_last ?_
  exact s_ret (evd (eI ((m_first_free_rods (frame)).length : Int)) (ev_cb (ea_cons (evd ((eT (eTup (cc eI (c1 eI)))) (m_first_free_rods (frame))) (ev_cb (ea_cons (evd ((eTup (cc eI (c1 (eT (eTup (cc eI (c1 eI))))))) frame) (ev_var rfl)) ea_nil) (call_first_free_rods (frame) (by unfold ob) (by unfold ob)))) ea_nil) (c_len (e := (eTup (cc eI (c1 eI)))) (xs := (m_first_free_rods (frame))) seqT))) (tk_rt hQ ⟨rfl, hs⟩)
/-! ### lack_of -/
def rd_lack_of : DS :=
  (dRet (dOp (rIntD (fun _ _ => True) fun i j => .int (i - j)) (dOp (rIntD (fun _ _ => True) fun i j => .int (i - j)) (dOp rMulD (dC (.int 2)) (dOp rIxD (dVar 0) (dC (.int 0)))) (dC (.int 3))) (dCB sp_free_rank (dCons (dVar 0) dNil))))
noncomputable def m_lack_of (frame : (Int × (List (Int × Int)))) : Int :=
  ((((2 : Int) * frame.1) - (3 : Int)) - (m_free_rank (frame)))
def sp_lack_of : DSp := fun ds DH Q => ∃ (frame : (Int × (List (Int × Int)))), ds = [(eTup (cc eI (c1 (eT (eTup (cc eI (c1 eI))))))) frame] ∧ (frame.2.length ≤ 900) ∧ (∀ r ∈ frame.2, LAM.RodOk 12 r) ∧ Q (eI (m_lack_of frame)) DH
theorem call_lack_of {DH : DHp} (frame : (Int × (List (Int × Int)))) (h0 : frame.2.length ≤ 900) (h1 : ∀ r ∈ frame.2, LAM.RodOk 12 r) : RvC sp_lack_of [(eTup (cc eI (c1 (eT (eTup (cc eI (c1 eI))))))) frame] DH (eI (m_lack_of frame)) := fun Q q => ⟨frame, rfl, h0, h1, q⟩
set_option maxHeartbeats 0 in
theorem lack_of_ok {ds : List D} {DH : DHp} {Q : DK} (h : sp_lack_of ds DH Q) : rd_lack_of (bodyE Q) (dstart ["frame"] ds) DH := by
  obtain ⟨frame, rfl, h0, h1, hQ⟩ := h
  replace hQ : Tk (fun r => ∀ d H', RPv eI DH r d H' → (bodyE Q).rt d H') (m_lack_of frame) := rpv hQ
  have hs := DSub.refl DH
  unfold rd_lack_of
  unfold m_lack_of at hQ
  show (_ : DS) _ [some ((eTup (cc eI (c1 (eT (eTup (cc eI (c1 eI))))))) frame)] _
  refine s_last ?_
  exact s_ret (evd (eI ((((2 : Int) * frame.1) - (3 : Int)) - (m_free_rank (frame)))) (ev_op (ev_op (ev_op ev_c (ev_op (evd ((eTup (cc eI (c1 (eT (eTup (cc eI (c1 eI))))))) frame) (ev_var rfl)) ev_c (r_ixP (d := eI frame.1) rfl)) (r_mul (mulD_l (by decide) (by decide)))) ev_c r_sub) (ev_cb (ea_cons (evd ((eTup (cc eI (c1 (eT (eTup (cc eI (c1 eI))))))) frame) (ev_var rfl)) ea_nil) (call_free_rank (frame) (by unfold ob) (by unfold ob))) r_sub)) (tk_rt hQ ⟨rfl, hs⟩)
theorem le_filter {α : Type} (p : α → Bool) {xs : List α} {m : Nat} (h : xs.length ≤ m) : (xs.filter p).length ≤ m := Nat.le_trans (List.length_filter_le _ _) h
/-! ### needed_rods -/
def rd_needed_rods : DS :=
  (dSeq (dAsg (dVar 0) (gT 2 (gConsD (gN 1) (gConsD (gN 2) gNilD))))
    (dSeq (dAsg (dCB sp_free_rank (dCons (dVar 0) dNil)) (gN 3))
    (dRet (dCB rTupD (dCons (dLc false (dISeq (dVar 2)) (gN 4) (dB (dOp (rIntD (fun _ _ => True) fun i j => .bl (decide (i < j))) (dCB rLenD (dCons (dCB sp_taken_freely (dCons (dTup dNil) (dCons (dLc false (dISeq (dVar 2)) (gN 5) (dB (dOp (rEqD true) (dVar 5) (dVar 4))) (dVar 5) [5]) dNil))) dNil)) (dVar 3))) (dVar 4) [4]) dNil)))))
noncomputable def m_needed_rods (frame : (Int × (List (Int × Int)))) : (List (Int × Int)) :=
  bnd (frame.1 : Int) fun (n : Int) => bnd (frame.2 : (List (Int × Int))) fun (rods : (List (Int × Int))) => bnd ((m_free_rank (frame)) : Int) fun (many : Int) => (rods.filter (fun (rod : (Int × Int)) => (decide (((m_taken_freely (([] : List (Int × Int))) ((rods.filter (fun (one1 : (Int × Int)) => (!decide (one1 = rod)))))).length : Int) < many))))
def sp_needed_rods : DSp := fun ds DH Q => ∃ (frame : (Int × (List (Int × Int)))), ds = [(eTup (cc eI (c1 (eT (eTup (cc eI (c1 eI))))))) frame] ∧ (frame.2.length ≤ 900) ∧ (∀ r ∈ frame.2, LAM.RodOk 12 r) ∧ Q ((eT (eTup (cc eI (c1 eI)))) (m_needed_rods frame)) DH
theorem call_needed_rods {DH : DHp} (frame : (Int × (List (Int × Int)))) (h0 : frame.2.length ≤ 900) (h1 : ∀ r ∈ frame.2, LAM.RodOk 12 r) : RvC sp_needed_rods [(eTup (cc eI (c1 (eT (eTup (cc eI (c1 eI))))))) frame] DH ((eT (eTup (cc eI (c1 eI)))) (m_needed_rods frame)) := fun Q q => ⟨frame, rfl, h0, h1, q⟩
set_option maxHeartbeats 0 in
theorem needed_rods_ok {ds : List D} {DH : DHp} {Q : DK} (h : sp_needed_rods ds DH Q) : rd_needed_rods (bodyE Q) (dstart ["frame", "n", "rods", "many", "rod", "one"] ds) DH := by
  obtain ⟨frame, rfl, h0, h1, hQ⟩ := h
  replace hQ : Tk (fun r => ∀ d H', RPv (eT (eTup (cc eI (c1 eI)))) DH r d H' → (bodyE Q).rt d H') (m_needed_rods frame) := rpv hQ
  have hs := DSub.refl DH
  unfold rd_needed_rods
  unfold m_needed_rods at hQ
  show (_ : DS) _ [some ((eTup (cc eI (c1 (eT (eTup (cc eI (c1 eI))))))) frame), none, none, none, none, none] _
  refine s_unp2 eI (eT (eTup (cc eI (c1 eI)))) hQ (evd ((eTup (cc eI (c1 (eT (eTup (cc eI (c1 eI))))))) frame) (ev_var rfl)) (fun n rods h_n h_rods hQ => ?_)
  show (_ : DS) _ [some ((eTup (cc eI (c1 (eT (eTup (cc eI (c1 eI))))))) frame), some (eI n), some ((eT (eTup (cc eI (c1 eI)))) rods), none, none, none] _
  refine s_asg eI hQ (evd (eI (m_free_rank (frame))) (ev_cb (ea_cons (evd ((eTup (cc eI (c1 (eT (eTup (cc eI (c1 eI))))))) frame) (ev_var rfl)) ea_nil) (call_free_rank (frame) (by unfold ob) (by unfold ob)))) (fun many h_many hQ => ?_)
  show (_ : DS) _ [some ((eTup (cc eI (c1 (eT (eTup (cc eI (c1 eI))))))) frame), some (eI n), some ((eT (eTup (cc eI (c1 eI)))) rods), some (eI many), none, none] _
  refine s_last ?_
  exact s_ret (evd ((eT (eTup (cc eI (c1 eI)))) (rods.filter (fun (rod : (Int × Int)) => (decide (((m_taken_freely (([] : List (Int × Int))) ((rods.filter (fun (one1 : (Int × Int)) => (!decide (one1 = rod)))))).length : Int) < many))))) (ev_cb (ea_cons (evd ((eL (eTup (cc eI (c1 eI)))) (rods.filter (fun (rod : (Int × Int)) => (decide (((m_taken_freely (([] : List (Int × Int))) ((rods.filter (fun (one1 : (Int × Int)) => (!decide (one1 = rod)))))).length : Int) < many))))) (ev_lcf (eTup (cc eI (c1 eI))) rods (fun (rod : (Int × Int)) => (decide (((m_taken_freely (([] : List (Int × Int))) ((rods.filter (fun (one1 : (Int × Int)) => (!decide (one1 = rod)))))).length : Int) < many))) _ ⟨_, (ei_T (e := (eTup (cc eI (c1 eI)))) (xs := rods) (evd ((eT (eTup (cc eI (c1 eI)))) rods) (ev_var rfl)))⟩ (by subst h_rods; exact size_le4 (by omega)) (fun rod => gv_N) (fun rod h_rod => (et_b (ev_op (ev_cb (ea_cons (evd ((eL (eTup (cc eI (c1 eI)))) (m_taken_freely (([] : List (Int × Int))) ((rods.filter (fun (one1 : (Int × Int)) => (!decide (one1 = rod))))))) (ev_cb (ea_cons (evd ((eT (eTup (cc eI (c1 eI)))) ([] : List (Int × Int))) (ev_tupK 0 ea_nil rfl (by decide))) (ea_cons (evd ((eL (eTup (cc eI (c1 eI)))) (rods.filter (fun (one1 : (Int × Int)) => (!decide (one1 = rod))))) (ev_lcf (eTup (cc eI (c1 eI))) rods (fun (one1 : (Int × Int)) => (!decide (one1 = rod))) _ ⟨_, (ei_T (e := (eTup (cc eI (c1 eI)))) (xs := rods) (evd ((eT (eTup (cc eI (c1 eI)))) rods) (ev_var rfl)))⟩ (by subst h_rods; exact size_le4 (by omega)) (fun one1 => gv_N) (fun one1 h_one1 => (et_b (ev_op (evd ((eTup (cc eI (c1 eI))) one1) (ev_var rfl)) (evd ((eTup (cc eI (c1 eI))) rod) (ev_var rfl)) (r_ne (e := (eTup (cc eI (c1 eI)))) (x := one1) (y := rod) (by decide) (peek_gd _ _) (peek_gd _ _))))) (fun one1 h_one1 hc => (evd ((eTup (cc eI (c1 eI))) one1) (ev_var rfl))))) ea_nil)) (call_taken_freely (([] : List (Int × Int))) ((eT (eTup (cc eI (c1 eI)))) ([] : List (Int × Int))) seqT ((rods.filter (fun (one1 : (Int × Int)) => (!decide (one1 = rod))))) ((eL (eTup (cc eI (c1 eI)))) (rods.filter (fun (one1 : (Int × Int)) => (!decide (one1 = rod))))) seqL (by subst h_rods; exact Nat.le_trans (by rw [List.length_nil, Nat.zero_add]; exact le_filter _ h0) (by decide)) (by unfold ob)))) ea_nil) (c_len (e := (eTup (cc eI (c1 eI)))) (xs := (m_taken_freely (([] : List (Int × Int))) ((rods.filter (fun (one1 : (Int × Int)) => (!decide (one1 = rod))))))) seqL)) (ev_var rfl) r_lt))) (fun rod h_rod hc => (evd ((eTup (cc eI (c1 eI))) rod) (ev_var rfl))))) ea_nil) (c_tup (e := (eTup (cc eI (c1 eI)))) (xs := (rods.filter (fun (rod : (Int × Int)) => (decide (((m_taken_freely (([] : List (Int × Int))) ((rods.filter (fun (one1 : (Int × Int)) => (!decide (one1 = rod)))))).length : Int) < many))))) seqL))) (tk_rt hQ ⟨rfl, hs⟩)
theorem app_one {α : Type} {P : α → Prop} {xs : List α} {x : α} (h1 : ∀ r ∈ xs, P r) (h2 : P x) : ∀ r ∈ xs ++ [x], P r := fun r hr => by
  rcases List.mem_append.mp hr with hr | hr
  · exact h1 r hr
  · rw [List.mem_singleton.mp hr]; exact h2
/-! ### can_be_put -/
def rd_can_be_put : DS :=
  (dRet (dOp (rEqD false) (dCB rLenD (dCons (dCB sp_taken_freely (dCons (dOp rIxD (dVar 0) (dC (.int 1))) (dCons (dTup (dCons (dVar 1) dNil)) dNil))) dNil)) (dC (.int 1))))
noncomputable def m_can_be_put (frame : (Int × (List (Int × Int)))) (rod : (Int × Int)) : Bool :=
  (decide (((m_taken_freely (frame.2) ([rod])).length : Int) = (1 : Int)))
def sp_can_be_put : DSp := fun ds DH Q => ∃ (frame : (Int × (List (Int × Int)))) (rod : (Int × Int)), ds = [(eTup (cc eI (c1 (eT (eTup (cc eI (c1 eI))))))) frame, (eTup (cc eI (c1 eI))) rod] ∧ (frame.2.length ≤ 900) ∧ (∀ r ∈ frame.2, LAM.RodOk 12 r) ∧ (LAM.RodOk 12 rod) ∧ Q (eB (m_can_be_put frame rod)) DH
theorem call_can_be_put {DH : DHp} (frame : (Int × (List (Int × Int)))) (rod : (Int × Int)) (h0 : frame.2.length ≤ 900) (h1 : ∀ r ∈ frame.2, LAM.RodOk 12 r) (h2 : LAM.RodOk 12 rod) : RvC sp_can_be_put [(eTup (cc eI (c1 (eT (eTup (cc eI (c1 eI))))))) frame, (eTup (cc eI (c1 eI))) rod] DH (eB (m_can_be_put frame rod)) := fun Q q => ⟨frame, rod, rfl, h0, h1, h2, q⟩
set_option maxHeartbeats 0 in
theorem can_be_put_ok {ds : List D} {DH : DHp} {Q : DK} (h : sp_can_be_put ds DH Q) : rd_can_be_put (bodyE Q) (dstart ["frame", "rod"] ds) DH := by
  obtain ⟨frame, rod, rfl, h0, h1, h2, hQ⟩ := h
  replace hQ : Tk (fun r => ∀ d H', RPv eB DH r d H' → (bodyE Q).rt d H') (m_can_be_put frame rod) := rpv hQ
  have hs := DSub.refl DH
  unfold rd_can_be_put
  unfold m_can_be_put at hQ
  show (_ : DS) _ [some ((eTup (cc eI (c1 (eT (eTup (cc eI (c1 eI))))))) frame), some ((eTup (cc eI (c1 eI))) rod)] _
  refine s_last ?_
  exact s_ret (evd (eB (decide (((m_taken_freely (frame.2) ([rod])).length : Int) = (1 : Int)))) (ev_op (evd (eI ((m_taken_freely (frame.2) ([rod])).length : Int)) (ev_cb (ea_cons (evd ((eL (eTup (cc eI (c1 eI)))) (m_taken_freely (frame.2) ([rod]))) (ev_cb (ea_cons (evd ((eT (eTup (cc eI (c1 eI)))) frame.2) (ev_op (evd ((eTup (cc eI (c1 (eT (eTup (cc eI (c1 eI))))))) frame) (ev_var rfl)) ev_c (r_ixP (d := (eT (eTup (cc eI (c1 eI)))) frame.2) rfl))) (ea_cons (evd ((eT (eTup (cc eI (c1 eI)))) [rod]) (ev_tupK 1 (ea_cons (evd ((eTup (cc eI (c1 eI))) rod) (ev_var rfl)) ea_nil) rfl (by decide))) ea_nil)) (call_taken_freely (frame.2) ((eT (eTup (cc eI (c1 eI)))) frame.2) seqT ([rod]) ((eT (eTup (cc eI (c1 eI)))) [rod]) seqT (by simp only [List.length_singleton]; omega) (by exact app_one h1 h2)))) ea_nil) (c_len (e := (eTup (cc eI (c1 eI)))) (xs := (m_taken_freely (frame.2) ([rod]))) seqL))) (evd (eI (1 : Int)) ev_c) (r_eq (e := eI) (x := ((m_taken_freely (frame.2) ([rod])).length : Int)) (y := (1 : Int)) (by decide) (peek_gd _ _) (peek_gd _ _)))) (tk_rt hQ ⟨rfl, hs⟩)
theorem within_len (rods : List (Int × Int)) (lot : List Int) : (m_rods_within_lot rods lot).length ≤ rods.length := List.length_filter_le _ _
/-! ### round_of -/
def rd_round_of : DS :=
  (dSeq (dAsg (dCB sp_least_full_lot (dCons (dVar 0) (dCons (dOp rIxD (dVar 1) (dC (.int 0))) (dCons (dOp rIxD (dVar 1) (dC (.int 1))) dNil)))) (gN 2))
    (dRet (dIf (dB (dOp (rIsN false) (dVar 2) (dC .non))) (dC .non) (dCB rTupD (dCons (dCB (rSortX false) (dCons (dOp rAddD (dCB sp_rods_within_lot (dCons (dOp rIxD (dVar 0) (dC (.int 1))) (dCons (dVar 2) dNil))) (dTup (dCons (dVar 1) dNil))) dNil)) dNil)))))
def m_round_of (frame : (Int × (List (Int × Int)))) (rod : (Int × Int)) : (Option (List (Int × Int))) :=
  bnd ((m_least_full_lot (frame) (rod.1) (rod.2)) : (Option (List Int))) fun (lot : (Option (List Int))) => (if ((lot).isNone) = true then none else (some (srtP ((m_rods_within_lot (frame.2) ((lot.getD default))) ++ [rod]))))
def sp_round_of : DSp := fun ds DH Q => ∃ (frame : (Int × (List (Int × Int)))) (rod : (Int × Int)), ds = [(eTup (cc eI (c1 (eT (eTup (cc eI (c1 eI))))))) frame, (eTup (cc eI (c1 eI))) rod] ∧ (frame.1 ≤ 9) ∧ (frame.2.length ≤ 900) ∧ (0 ≤ frame.1) ∧ Q ((eO (eT (eTup (cc eI (c1 eI))))) (m_round_of frame rod)) DH
theorem call_round_of {DH : DHp} (frame : (Int × (List (Int × Int)))) (rod : (Int × Int)) (h0 : frame.1 ≤ 9) (h1 : frame.2.length ≤ 900) (h2 : 0 ≤ frame.1) : RvC sp_round_of [(eTup (cc eI (c1 (eT (eTup (cc eI (c1 eI))))))) frame, (eTup (cc eI (c1 eI))) rod] DH ((eO (eT (eTup (cc eI (c1 eI))))) (m_round_of frame rod)) := fun Q q => ⟨frame, rod, rfl, h0, h1, h2, q⟩
set_option maxHeartbeats 0 in
theorem round_of_ok {ds : List D} {DH : DHp} {Q : DK} (h : sp_round_of ds DH Q) : rd_round_of (bodyE Q) (dstart ["frame", "rod", "lot"] ds) DH := by
  obtain ⟨frame, rod, rfl, h0, h1, h2, hQ⟩ := h
  replace hQ : Tk (fun r => ∀ d H', RPv (eO (eT (eTup (cc eI (c1 eI))))) DH r d H' → (bodyE Q).rt d H') (m_round_of frame rod) := rpv hQ
  have hs := DSub.refl DH
  unfold rd_round_of
  unfold m_round_of at hQ
  show (_ : DS) _ [some ((eTup (cc eI (c1 (eT (eTup (cc eI (c1 eI))))))) frame), some ((eTup (cc eI (c1 eI))) rod), none] _
  refine s_asg (eO (eT eI)) hQ (evd ((eO (eT eI)) (m_least_full_lot (frame) (rod.1) (rod.2))) (ev_cb (ea_cons (evd ((eTup (cc eI (c1 (eT (eTup (cc eI (c1 eI))))))) frame) (ev_var rfl)) (ea_cons (evd (eI rod.1) (ev_op (evd ((eTup (cc eI (c1 eI))) rod) (ev_var rfl)) ev_c (r_ixP (d := eI rod.1) rfl))) (ea_cons (evd (eI rod.2) (ev_op (evd ((eTup (cc eI (c1 eI))) rod) (ev_var rfl)) ev_c (r_ixP (d := eI rod.2) rfl))) ea_nil))) (call_least_full_lot (frame) (rod.1) (rod.2) (by unfold ob) (by unfold ob) (by unfold ob)))) (fun lot h_lot hQ => ?_)
  show (_ : DS) _ [some ((eTup (cc eI (c1 (eT (eTup (cc eI (c1 eI))))))) frame), some ((eTup (cc eI (c1 eI))) rod), some ((eO (eT eI)) lot)] _
  refine s_last ?_
  exact s_ret (evd ((eO (eT (eTup (cc eI (c1 eI))))) (if ((lot).isNone) = true then none else (some (srtP ((m_rods_within_lot (frame.2) ((lot.getD default))) ++ [rod]))))) (ev_if (eO (eT (eTup (cc eI (c1 eI))))) (et_b (ev_op (ev_var rfl) ev_c (r_is (e := (eT eI)) (x := lot)))) (fun hc => (evd ((eO (eT (eTup (cc eI (c1 eI))))) none) ev_c)) (fun hc1 => (evd ((eO (eT (eTup (cc eI (c1 eI))))) (some (srtP ((m_rods_within_lot (frame.2) ((lot.getD default))) ++ [rod])))) (ev_cb (ea_cons (evd ((eL (eTup (cc eI (c1 eI)))) (srtP ((m_rods_within_lot (frame.2) ((lot.getD default))) ++ [rod]))) (ev_cb (ea_cons (evd ((eT (eTup (cc eI (c1 eI)))) ((m_rods_within_lot (frame.2) ((lot.getD default))) ++ [rod])) (ev_op (evd ((eT (eTup (cc eI (c1 eI)))) (m_rods_within_lot (frame.2) ((lot.getD default)))) (ev_cb (ea_cons (evd ((eT (eTup (cc eI (c1 eI)))) frame.2) (ev_op (evd ((eTup (cc eI (c1 (eT (eTup (cc eI (c1 eI))))))) frame) (ev_var rfl)) ev_c (r_ixP (d := (eT (eTup (cc eI (c1 eI)))) frame.2) rfl))) (ea_cons (evd ((eT eI) (lot.getD default)) (ev_some (e := (eT eI)) (x := lot) (ev_var rfl) (by unfold ob))) ea_nil)) (call_rods_within_lot (frame.2) ((eT (eTup (cc eI (c1 eI)))) frame.2) seqT ((lot.getD default)) (by unfold ob)))) (evd ((eT (eTup (cc eI (c1 eI)))) [rod]) (ev_tupK 1 (ea_cons (evd ((eTup (cc eI (c1 eI))) rod) (ev_var rfl)) ea_nil) rfl (by decide))) (r_catT (e := (eTup (cc eI (c1 eI)))) (xs := (m_rods_within_lot (frame.2) ((lot.getD default)))) (ys := [rod]) (by exact size_le4 (by have := within_len frame.2 (lot.getD default); simp only [List.length_singleton]; omega))))) ea_nil) (c_srtP (xs := ((m_rods_within_lot (frame.2) ((lot.getD default))) ++ [rod])) seqT))) ea_nil) (c_tup (e := (eTup (cc eI (c1 eI)))) (xs := (srtP ((m_rods_within_lot (frame.2) ((lot.getD default))) ++ [rod]))) seqL)))))) (tk_rt hQ ⟨rfl, hs⟩)
/-! ### exchanged_rod -/
def rd_exchanged_rod : DS :=
  (dSeq (dAsg (dLc false (dISeq (dVar 2)) (gN 4) (dAnd (dB (dOp (rInD true) (dVar 4) (dVar 1))) (dB (dOp (rEqD false) (dCB rLenD (dCons (dCB sp_taken_freely (dCons (dVar 1) (dCons (dTup (dCons (dVar 4) dNil)) dNil))) dNil)) (dC (.int 1))))) (dVar 4) [4]) (gN 3))
    (dRet (dOp rIxD (dVar 3) (dC (.int 0)))))
noncomputable def m_exchanged_rod (frame : (Int × (List (Int × Int)))) (one : (List (Int × Int))) (other : (List (Int × Int))) : (Int × Int) :=
  bnd ((other.filter (fun (rod : (Int × Int)) => ((!decide (rod ∈ one)) && (decide (((m_taken_freely (one) ([rod])).length : Int) = (1 : Int)))))) : (List (Int × Int))) fun (some' : (List (Int × Int))) => (ix some' (0 : Int))
def sp_exchanged_rod : DSp := fun ds DH Q => ∃ (frame : (Int × (List (Int × Int)))) (one : (List (Int × Int))) (other : (List (Int × Int))), ds = [(eTup (cc eI (c1 (eT (eTup (cc eI (c1 eI))))))) frame, (eT (eTup (cc eI (c1 eI)))) one, (eT (eTup (cc eI (c1 eI)))) other] ∧ (one.length + other.length ≤ 900) ∧ (∀ r ∈ one ++ other, LAM.RodOk 12 r) ∧ (∃ r ∈ other, r ∉ one ∧ (m_taken_freely one [r]).length = 1) ∧ Q ((eTup (cc eI (c1 eI))) (m_exchanged_rod frame one other)) DH
theorem call_exchanged_rod {DH : DHp} (frame : (Int × (List (Int × Int)))) (one : (List (Int × Int))) (other : (List (Int × Int))) (h0 : one.length + other.length ≤ 900) (h1 : ∀ r ∈ one ++ other, LAM.RodOk 12 r) (h2 : ∃ r ∈ other, r ∉ one ∧ (m_taken_freely one [r]).length = 1) : RvC sp_exchanged_rod [(eTup (cc eI (c1 (eT (eTup (cc eI (c1 eI))))))) frame, (eT (eTup (cc eI (c1 eI)))) one, (eT (eTup (cc eI (c1 eI)))) other] DH ((eTup (cc eI (c1 eI))) (m_exchanged_rod frame one other)) := fun Q q => ⟨frame, one, other, rfl, h0, h1, h2, q⟩
set_option maxHeartbeats 0 in
theorem exchanged_rod_ok {ds : List D} {DH : DHp} {Q : DK} (h : sp_exchanged_rod ds DH Q) : rd_exchanged_rod (bodyE Q) (dstart ["frame", "one", "other", "some", "rod"] ds) DH := by
  obtain ⟨frame, one, other, rfl, h0, h1, h2, hQ⟩ := h
  replace hQ : Tk (fun r => ∀ d H', RPv (eTup (cc eI (c1 eI))) DH r d H' → (bodyE Q).rt d H') (m_exchanged_rod frame one other) := rpv hQ
  have hs := DSub.refl DH
  unfold rd_exchanged_rod
  unfold m_exchanged_rod at hQ
  show (_ : DS) _ [some ((eTup (cc eI (c1 (eT (eTup (cc eI (c1 eI))))))) frame), some ((eT (eTup (cc eI (c1 eI)))) one), some ((eT (eTup (cc eI (c1 eI)))) other), none, none] _
  refine s_asg (eL (eTup (cc eI (c1 eI)))) hQ (evd ((eL (eTup (cc eI (c1 eI)))) (other.filter (fun (rod : (Int × Int)) => ((!decide (rod ∈ one)) && (decide (((m_taken_freely (one) ([rod])).length : Int) = (1 : Int))))))) (ev_lcf (eTup (cc eI (c1 eI))) other (fun (rod : (Int × Int)) => ((!decide (rod ∈ one)) && (decide (((m_taken_freely (one) ([rod])).length : Int) = (1 : Int))))) _ ⟨_, (ei_T (e := (eTup (cc eI (c1 eI)))) (xs := other) (evd ((eT (eTup (cc eI (c1 eI)))) other) (ev_var rfl)))⟩ (by unfold ob) (fun rod => gv_N) (fun rod h_rod => (et_and (et_b (ev_op (evd ((eTup (cc eI (c1 eI))) rod) (ev_var rfl)) (evd ((eT (eTup (cc eI (c1 eI)))) one) (ev_var rfl)) (r_nin (e := (eTup (cc eI (c1 eI)))) (x := rod) (xs := one) (by decide) seqT))) (fun hc => (et_b (ev_op (evd (eI ((m_taken_freely (one) ([rod])).length : Int)) (ev_cb (ea_cons (evd ((eL (eTup (cc eI (c1 eI)))) (m_taken_freely (one) ([rod]))) (ev_cb (ea_cons (evd ((eT (eTup (cc eI (c1 eI)))) one) (ev_var rfl)) (ea_cons (evd ((eT (eTup (cc eI (c1 eI)))) [rod]) (ev_tupK 1 (ea_cons (evd ((eTup (cc eI (c1 eI))) rod) (ev_var rfl)) ea_nil) rfl (by decide))) ea_nil)) (call_taken_freely (one) ((eT (eTup (cc eI (c1 eI)))) one) seqT ([rod]) ((eT (eTup (cc eI (c1 eI)))) [rod]) seqT (by simp only [List.length_singleton]; omega) (by exact app_one (fun r hr => h1 r (List.mem_append_left _ hr)) (h1 _ (List.mem_append_right _ h_rod)))))) ea_nil) (c_len (e := (eTup (cc eI (c1 eI)))) (xs := (m_taken_freely (one) ([rod]))) seqL))) (evd (eI (1 : Int)) ev_c) (r_eq (e := eI) (x := ((m_taken_freely (one) ([rod])).length : Int)) (y := (1 : Int)) (by decide) (peek_gd _ _) (peek_gd _ _))))))) (fun rod h_rod hc => (evd ((eTup (cc eI (c1 eI))) rod) (ev_var rfl))))) (fun some' h_some' hQ => ?_)
  show (_ : DS) _ [some ((eTup (cc eI (c1 (eT (eTup (cc eI (c1 eI))))))) frame), some ((eT (eTup (cc eI (c1 eI)))) one), some ((eT (eTup (cc eI (c1 eI)))) other), some ((eL (eTup (cc eI (c1 eI)))) some'), none] _
  refine s_last ?_
  exact s_ret (evd ((eTup (cc eI (c1 eI))) (ix some' (0 : Int))) (ev_op (evd ((eL (eTup (cc eI (c1 eI)))) some') (ev_var rfl)) ev_c (r_ix (e := (eTup (cc eI (c1 eI)))) (xs := some') seqL (by obtain ⟨r, hr, h3, h4⟩ := h2; have hm : r ∈ some' := by { rw [h_some', List.mem_filter]; exact ⟨hr, by simp [h3, h4]⟩ }; have := List.length_pos_of_mem hm; unfold inIx; omega)))) (tk_rt hQ ⟨rfl, hs⟩)

end DL

/-! TL9: plain facts about ranges, slices and parts of lists -/
namespace DL
open PySem PySem.Spec PyProof.Rows L2
theorem rng_at {a b x : Int} {pre post : List Int} (h : rng a b = pre ++ x :: post) : x = a + pre.length ∧ pre.length < (b - a).toNat := by
  have e := congrArg (fun l => l[pre.length]?) h
  have l := congrArg List.length h
  rw [rng_length, List.length_append, List.length_cons] at l
  have hl : pre.length < (b - a).toNat := by omega
  refine ⟨?_, hl⟩
  simp [rng, hl] at e
  exact e.symm
theorem cut_to {α : Type} (xs : List α) {k : Int} (h : 0 ≤ k) : cut xs none (some k) = xs.take k.toNat := by
  unfold cut
  have e : HT.sIx xs.length xs.length (some k) = min k.toNat xs.length := by
    show (if k < 0 then _ else _) = _
    rw [if_neg (by omega)]
  rw [e, show HT.sIx xs.length 0 none = 0 from rfl, List.drop_zero, Nat.sub_zero]
  by_cases hl : k.toNat ≤ xs.length
  · rw [Nat.min_eq_left hl]
  · rw [Nat.min_eq_right (by omega), List.take_length, List.take_of_length_le (by omega)]
theorem subE_mem {α : Type} {S : α → Prop} {xs ys : List α} (h : SubE (fun x y => y = x) S xs ys) : (∀ y ∈ ys, y ∈ xs) ∧ ys.length ≤ xs.length := by
  induction h with
  | nil => simp
  | keep h _ ih =>
    subst h
    refine ⟨fun y hy => ?_, by simp; exact ih.2⟩
    rcases List.mem_cons.mp hy with rfl | hy
    · exact List.mem_cons_self
    · exact List.mem_cons_of_mem _ (ih.1 y hy)
  | skip _ _ ih => exact ⟨fun y hy => List.mem_cons_of_mem _ (ih.1 y hy), by simp only [List.length_cons]; omega⟩
theorem ix_nat {α : Type} [Inhabited α] {xs : List α} {k : Int} (h0 : 0 ≤ k) (h : k.toNat < xs.length) : ix xs k = xs[k.toNat] := by
  have e : ixN xs.length k = some k.toNat := by
    unfold ixN
    rw [if_pos h0, if_pos (by omega)]
  show (((ixN xs.length k).bind fun j => xs[j]?)).getD default = _
  rw [e]
  show (xs[k.toNat]?).getD default = _
  rw [List.getElem?_eq_getElem h]
  rfl
end DL

local macro_rules
  | `(tactic| unfold dd $ls*) => `(tactic| try simp only [↓DL.dVar_e, ↓DL.dC_e, ↓DL.dOp_e, ↓DL.dUn_e, ↓DL.dB_e, ↓DL.dChain_e, ↓DL.dAnd_e, ↓DL.dOr_e, ↓DL.dNot_e, ↓DL.dAndV_e, ↓DL.dOrV_e, ↓DL.dNotV_e, ↓DL.dIf_e, ↓DL.dNil_e, ↓DL.dCons_e, ↓DL.dTup_e, ↓DL.dLst_e, ↓DL.dCB_e, ↓DL.dNext_e, ↓DL.dSeq_e, ↓DL.dCont_e, ↓DL.dBreak_e, ↓DL.dDrop_e, ↓DL.dRet_e, ↓DL.dRetN_e, ↓DL.dIfS_e, ↓DL.gN_e, ↓DL.gNilD_e, ↓DL.gConsD_e, ↓DL.gT_e, ↓DL.dAsg_e, ↓DL.dPar_e, ↓DL.dPar3_e, ↓DL.dYes_e, ↓DL.dISeq_e, ↓DL.dIRg1_e, ↓DL.dIRg2_e, ↓DL.dIEnum_e, ↓DL.dIZip_e, ↓DL.rIntD_e, ↓DL.rNegD_e, ↓DL.rEq_intF, ↓DL.rEq_intT, ↓DL.rAddD_e, ↓DL.rMulD_e, ↓DL.rIxD_e, ↓DL.rI1_e, ↓DL.rI2_e, ↓DL.rIntCD_e, ↓DL.rSumD_e, ↓DL.rAllD_e, ↓DL.rIsiD_e, ↓DL.rLenD_e, ↓DL.rTupD_e, ↓DL.rLstD_e, ↓DL.rIsN_e, ↓DL.rSlD_e, ↓DL.dSl_e, ↓DL.dNoPart_e, ↓DL.dPart_e, ↓DL.dRev_e, ↓DL.dGet_e, ↓DL.dIn_e, ↓DL.dStore_e, ↓DL.dBM0_e, ↓DL.dBM_e, ↓DL.dDisp_e, ↓DL.mAppend_e, ↓DL.mPop_e, ↓DL.dNewK_e, ↓DL.dNewT_e, ↓DL.dLstM_e, ↓DL.dFrz_e, ↓DL.rReprD_e, ↓DL.rNeS_e, ↓DL.rEqS_e, ↓DL.asB_e, ↓DL.walkD_e, ↓DL.lookD_e, ↓DL.storeD_e, ↓DL.ofTy_e, ↓DL.onLst_e, DL.bodyE, DL.dstart, DL.dPairs, DL.dwipe, DL.keysOf, DL.keyD, DL.isNon, DL.peek_int, DL.peek_bl, DL.peek_non, DL.peek_str, DL.peek_tup, DL.peek_lst, DL.seqOf_tup, DL.seqOf_lst, DL.listOf_lst, DL.tyOf, DL.isTy, DL.atI0, DL.atI1, DL.atI2, DL.atI3, DL.atI4, DL.atI5, DL.dupd_same, DL.dupd_dupd, List.map_cons, List.map_nil, List.length_cons, List.length_nil, List.cons_append, List.nil_append, List.replicate_succ, List.replicate_zero, Nat.reduceAdd, Nat.reduceSub, Nat.zero_add, List.getElem?_cons_zero, List.getElem?_cons_succ, List.set_cons_zero, List.set_cons_succ, true_and, and_true, Int.toNat_natCast, if_true, if_false, Bool.false_eq_true, reduceCtorEq, ne_eq, not_false_eq_true, not_true_eq_false, decide_eq_true_eq, Bool.not_eq_true', decide_eq_false_iff_not, Option.bind_some, Option.map_some, $[$ls:term],*])
local macro_rules
  | `(tactic| unfold d2 $ls*) => `(tactic| try simp only [↓DL.dFor_e, ↓DL.dLc_e, ↓DL.dVar_e, ↓DL.dC_e, ↓DL.dOp_e, ↓DL.dUn_e, ↓DL.dB_e, ↓DL.dChain_e, ↓DL.dAnd_e, ↓DL.dOr_e, ↓DL.dNot_e, ↓DL.dAndV_e, ↓DL.dOrV_e, ↓DL.dNotV_e, ↓DL.dIf_e, ↓DL.dNil_e, ↓DL.dCons_e, ↓DL.dTup_e, ↓DL.dLst_e, ↓DL.dCB_e, ↓DL.dNext_e, ↓DL.dSeq_e, ↓DL.dCont_e, ↓DL.dBreak_e, ↓DL.dDrop_e, ↓DL.dRet_e, ↓DL.dRetN_e, ↓DL.dIfS_e, ↓DL.gN_e, ↓DL.gNilD_e, ↓DL.gConsD_e, ↓DL.gT_e, ↓DL.dAsg_e, ↓DL.dPar_e, ↓DL.dPar3_e, ↓DL.dYes_e, ↓DL.dISeq_e, ↓DL.dIRg1_e, ↓DL.dIRg2_e, ↓DL.dIEnum_e, ↓DL.dIZip_e, ↓DL.rIntD_e, ↓DL.rNegD_e, ↓DL.rEq_intF, ↓DL.rEq_intT, ↓DL.rAddD_e, ↓DL.rMulD_e, ↓DL.rIxD_e, ↓DL.rI1_e, ↓DL.rI2_e, ↓DL.rIntCD_e, ↓DL.rSumD_e, ↓DL.rAllD_e, ↓DL.rIsiD_e, ↓DL.rLenD_e, ↓DL.rTupD_e, ↓DL.rLstD_e, ↓DL.rIsN_e, ↓DL.rSlD_e, ↓DL.dSl_e, ↓DL.dNoPart_e, ↓DL.dPart_e, ↓DL.dRev_e, ↓DL.dGet_e, ↓DL.dIn_e, ↓DL.dStore_e, ↓DL.dBM0_e, ↓DL.dBM_e, ↓DL.dDisp_e, ↓DL.mAppend_e, ↓DL.mPop_e, ↓DL.dNewK_e, ↓DL.dNewT_e, ↓DL.dLstM_e, ↓DL.dFrz_e, ↓DL.rReprD_e, ↓DL.rNeS_e, ↓DL.rEqS_e, ↓DL.asB_e, ↓DL.walkD_e, ↓DL.lookD_e, ↓DL.storeD_e, ↓DL.ofTy_e, ↓DL.onLst_e, DL.bodyE, DL.dstart, DL.dPairs, DL.dwipe, DL.keysOf, DL.keyD, DL.isNon, DL.peek_int, DL.peek_bl, DL.peek_non, DL.peek_str, DL.peek_tup, DL.peek_lst, DL.seqOf_tup, DL.seqOf_lst, DL.listOf_lst, DL.tyOf, DL.isTy, DL.atI0, DL.atI1, DL.atI2, DL.atI3, DL.atI4, DL.atI5, DL.dupd_same, DL.dupd_dupd, List.map_cons, List.map_nil, List.length_cons, List.length_nil, List.cons_append, List.nil_append, List.replicate_succ, List.replicate_zero, Nat.reduceAdd, Nat.reduceSub, Nat.zero_add, List.getElem?_cons_zero, List.getElem?_cons_succ, List.set_cons_zero, List.set_cons_succ, true_and, and_true, Int.toNat_natCast, if_true, if_false, Bool.false_eq_true, reduceCtorEq, ne_eq, not_false_eq_true, not_true_eq_false, decide_eq_true_eq, Bool.not_eq_true', decide_eq_false_iff_not, Option.bind_some, Option.map_some, $[$ls:term],*])
local macro_rules
  | `(tactic| unfold d3 $ls*) => `(tactic| try simp only [↓DL.dLstRg1_e, ↓DL.dLstRg2_e, ↓DL.rSortD_e, ↓DL.rMaxL_e, ↓DL.rMinL_e, ↓DL.tell_F, ↓DL.tell_T, DL.ints_map, DL.bls_map, DL.pairs_map, ↓DL.dFor_e, ↓DL.dLc_e, ↓DL.dVar_e, ↓DL.dC_e, ↓DL.dOp_e, ↓DL.dUn_e, ↓DL.dB_e, ↓DL.dChain_e, ↓DL.dAnd_e, ↓DL.dOr_e, ↓DL.dNot_e, ↓DL.dAndV_e, ↓DL.dOrV_e, ↓DL.dNotV_e, ↓DL.dIf_e, ↓DL.dNil_e, ↓DL.dCons_e, ↓DL.dTup_e, ↓DL.dLst_e, ↓DL.dCB_e, ↓DL.dNext_e, ↓DL.dSeq_e, ↓DL.dCont_e, ↓DL.dBreak_e, ↓DL.dDrop_e, ↓DL.dRet_e, ↓DL.dRetN_e, ↓DL.dIfS_e, ↓DL.gN_e, ↓DL.gNilD_e, ↓DL.gConsD_e, ↓DL.gT_e, ↓DL.dAsg_e, ↓DL.dPar_e, ↓DL.dPar3_e, ↓DL.dYes_e, ↓DL.dISeq_e, ↓DL.dIRg1_e, ↓DL.dIRg2_e, ↓DL.dIEnum_e, ↓DL.dIZip_e, ↓DL.rIntD_e, ↓DL.rNegD_e, ↓DL.rEq_intF, ↓DL.rEq_intT, ↓DL.rAddD_e, ↓DL.rMulD_e, ↓DL.rIxD_e, ↓DL.rI1_e, ↓DL.rI2_e, ↓DL.rIntCD_e, ↓DL.rSumD_e, ↓DL.rAllD_e, ↓DL.rIsiD_e, ↓DL.rLenD_e, ↓DL.rTupD_e, ↓DL.rLstD_e, ↓DL.rIsN_e, ↓DL.rSlD_e, ↓DL.dSl_e, ↓DL.dNoPart_e, ↓DL.dPart_e, ↓DL.dRev_e, ↓DL.dGet_e, ↓DL.dIn_e, ↓DL.dStore_e, ↓DL.dBM0_e, ↓DL.dBM_e, ↓DL.dDisp_e, ↓DL.mAppend_e, ↓DL.mPop_e, ↓DL.dNewK_e, ↓DL.dNewT_e, ↓DL.dLstM_e, ↓DL.dFrz_e, ↓DL.rReprD_e, ↓DL.rNeS_e, ↓DL.rEqS_e, ↓DL.asB_e, ↓DL.walkD_e, ↓DL.lookD_e, ↓DL.storeD_e, ↓DL.ofTy_e, ↓DL.onLst_e, DL.bodyE, DL.dstart, DL.dPairs, DL.dwipe, DL.keysOf, DL.keyD, DL.isNon, DL.peek_int, DL.peek_bl, DL.peek_non, DL.peek_str, DL.peek_tup, DL.peek_lst, DL.seqOf_tup, DL.seqOf_lst, DL.listOf_lst, DL.tyOf, DL.isTy, DL.atI0, DL.atI1, DL.atI2, DL.atI3, DL.atI4, DL.atI5, DL.dupd_same, DL.dupd_dupd, List.map_cons, List.map_nil, List.length_cons, List.length_nil, List.cons_append, List.nil_append, List.replicate_succ, List.replicate_zero, Nat.reduceAdd, Nat.reduceSub, Nat.zero_add, List.getElem?_cons_zero, List.getElem?_cons_succ, List.set_cons_zero, List.set_cons_succ, true_and, and_true, Int.toNat_natCast, if_true, if_false, Bool.false_eq_true, reduceCtorEq, ne_eq, not_false_eq_true, not_true_eq_false, decide_eq_true_eq, Bool.not_eq_true', decide_eq_false_iff_not, Option.bind_some, Option.map_some, $[$ls:term],*])
local macro_rules
  | `(tactic| unfold ob) => `(tactic| first | decide | assumption | omega | exact DL.mulD_l (by omega) (by omega) | exact DL.mulD_r (by omega) (by omega) | (refine DL.size_le4 ?_; (try simp only [List.length_map, DL.rng_length, DL.enumF_length, List.length_cons, List.length_nil, List.length_append, List.length_zip]); omega) | (exact DL.size_le4 (Nat.le_trans (List.length_filter_le _ _) (by (try simp only [List.length_map, DL.rng_length, DL.enumF_length]); omega))) | (unfold DL.inIx; omega) | (unfold DL.inIx; (try simp only [List.length_map, List.length_cons, List.length_nil, List.length_append, List.length_dropLast]); omega) | (simp_all; done))
namespace DL
open PySem PySem.Spec PyProof.Rows L2 DLM
theorem pairs_st {n a : Int} {pre post : List Int} (h0 : n ≤ 20) (hx : rng 0 n = pre ++ a :: post) : (List.foldl (fun (st : List (Int × Int)) a => bnd (st ++ List.map (fun b => (a, b)) (rng (a + 1) n)) fun found1 => found1) [] pre).length ≤ 20 * pre.length ∧ pre.length ≤ 20 := by
  have e := congrArg List.length hx
  rw [rng_length, List.length_append, List.length_cons] at e
  refine ⟨?_, by omega⟩
  have key : ∀ (l : List Int), (∀ x ∈ l, 0 ≤ x) → ∀ acc : List (Int × Int), (List.foldl (fun (st : List (Int × Int)) a => bnd (st ++ List.map (fun b => (a, b)) (rng (a + 1) n)) fun found1 => found1) acc l).length ≤ acc.length + 20 * l.length := by
    intro l
    induction l with
    | nil => intro _ acc; simp
    | cons x l ih =>
      intro hl acc
      rw [List.foldl_cons]
      have := ih (fun y hy => hl y (List.mem_cons_of_mem _ hy)) (bnd (acc ++ List.map (fun b => (x, b)) (rng (x + 1) n)) fun found1 => found1)
      refine Nat.le_trans this ?_
      show (acc ++ List.map (fun b => (x, b)) (rng (x + 1) n)).length + 20 * l.length ≤ _
      have h := hl x List.mem_cons_self
      simp only [List.length_append, List.length_map, rng_length, List.length_cons]
      omega
  have := key pre (fun x hx' => (mem_rng.mp (by rw [hx]; exact List.mem_append_left _ hx' : x ∈ rng 0 n)).1) []
  simpa using this
theorem pairs_in (n : Int) : ∀ (l : List Int), (∀ x ∈ l, 0 ≤ x) → ∀ acc : List (Int × Int), (∀ r ∈ acc, LAM.RodOk n r) → (∀ r ∈ List.foldl (fun (st : List (Int × Int)) a => bnd (st ++ List.map (fun b => (a, b)) (rng (a + 1) n)) fun found1 => found1) acc l, LAM.RodOk n r) ∧ (n ≤ 9 → (List.foldl (fun (st : List (Int × Int)) a => bnd (st ++ List.map (fun b => (a, b)) (rng (a + 1) n)) fun found1 => found1) acc l).length ≤ acc.length + 8 * l.length) := by
  intro l
  induction l with
  | nil => intro _ acc h; exact ⟨h, fun _ => by simp⟩
  | cons x l ih =>
    intro hl acc ha
    rw [List.foldl_cons]
    have hx := hl x List.mem_cons_self
    have := ih (fun y hy => hl y (List.mem_cons_of_mem _ hy)) (bnd (acc ++ List.map (fun b => (x, b)) (rng (x + 1) n)) fun found1 => found1) (fun r hr => by
      rcases List.mem_append.mp hr with hr | hr
      · exact ha r hr
      · obtain ⟨b, hb, rfl⟩ := List.mem_map.mp hr
        have := mem_rng.mp hb
        exact ⟨hx, by omega, this.2⟩)
    refine ⟨this.1, fun h9 => Nat.le_trans (this.2 h9) ?_⟩
    show (acc ++ List.map (fun b => (x, b)) (rng (x + 1) n)).length + 8 * l.length ≤ _
    simp only [List.length_append, List.length_map, rng_length, List.length_cons]
    omega
/-! ### _law_pairs -/
def rd_law_pairsT : DS :=
  (dSeq (dAsg (dLst dNil) (gN 1))
    (dSeq (dFor (dIRg1 (dCons (dVar 0) dNil)) (gN 2) (dAsg (dOp rAddD (dVar 1) (dLc false (dIRg2 (dCons (dOp rAddD (dVar 2) (dC (.int 1))) (dCons (dVar 0) dNil))) (gN 3) dYes (dTup (dCons (dVar 2) (dCons (dVar 3) dNil))) [3])) (gN 1)))
    (dRet (dVar 1))))
def m_law_pairsT (n : Int) : (List (Int × Int)) :=
  bnd (([] : List (Int × Int)) : (List (Int × Int))) fun (found : (List (Int × Int))) => bnd (List.foldl (fun (st : ((List (Int × Int)))) (a : Int) => (bnd ((st ++ ((rng (a + (1 : Int)) n).map (fun (b : Int) => (a, b)))) : (List (Int × Int))) fun (found1 : (List (Int × Int))) => found1 : ((List (Int × Int))))) found (rng 0 n)) fun (st : ((List (Int × Int)))) => st
def sp_law_pairsT : DSp := fun ds DH Q => ∃ (n : Int), ds = [eI n] ∧ (0 ≤ n) ∧ (n ≤ 20) ∧ Q ((eL (eTup (cc eI (c1 eI)))) (m_law_pairsT n)) DH
theorem call_law_pairsT {DH : DHp} (n : Int) (h1 : 0 ≤ n) (h0 : n ≤ 20) : RvC sp_law_pairsT [eI n] DH ((eL (eTup (cc eI (c1 eI)))) (m_law_pairsT n)) := fun Q q => ⟨n, rfl, h1, h0, q⟩
set_option maxHeartbeats 0 in
theorem law_pairsT_ok {ds : List D} {DH : DHp} {Q : DK} (h : sp_law_pairsT ds DH Q) : rd_law_pairsT (bodyE Q) (dstart ["n", "found", "a", "b"] ds) DH := by
  obtain ⟨n, rfl, h1, h0, hQ⟩ := h
  replace hQ : Tk (fun r => ∀ d H', RPv (eL (eTup (cc eI (c1 eI)))) DH r d H' → (bodyE Q).rt d H') (m_law_pairsT n) := rpv hQ
  have hs := DSub.refl DH
  unfold rd_law_pairsT
  unfold m_law_pairsT at hQ
  show (_ : DS) _ [some (eI n), none, none, none] _
  refine s_asg (eL (eTup (cc eI (c1 eI)))) hQ (evd ((eL (eTup (cc eI (c1 eI)))) ([] : List (Int × Int))) (ev_lstK 0 ea_nil rfl (by decide))) (fun found h_found hQ => ?_)
  show (_ : DS) _ [some (eI n), some ((eL (eTup (cc eI (c1 eI)))) found), none, none] _
  refine s_for eI (rng 0 n) (fun (st : ((List (Int × Int)))) (a : Int) => bnd ((st ++ ((rng (a + (1 : Int)) n).map (fun (b : Int) => (a, b)))) : (List (Int × Int))) fun (found1 : (List (Int × Int))) => found1) found (fun (st : ((List (Int × Int)))) τ' H' => ∃ t2 : Option D, τ' = [some (eI n), some ((eL (eTup (cc eI (c1 eI)))) st), t2, none] ∧ DSub DH H') hQ (ei_rg1 (ev_var rfl) (by unfold ob) (by unfold ob)) (fun st τ' H' h => trivial) ⟨_, rfl, hs⟩ (fun pre a post st τ' H' hx_st hs_st hst E' hQ => ?_) (fun st τ' H' hst hs_st hQ => ?_)
  · obtain ⟨t2, rfl, hs⟩ := hst
    have hm_a : a ∈ (rng 0 n) := by rw [hx_st]; simp
    have hb_a := mem_rng.mp hm_a
    refine (show Gv _ (eI a) _ _ _ from gv_N) _ ?_
    show (_ : DS) _ [some (eI n), some ((eL (eTup (cc eI (c1 eI)))) st), some (eI a), none] _
    refine s_last ?_
    refine s_asg (eL (eTup (cc eI (c1 eI)))) hQ (evd ((eL (eTup (cc eI (c1 eI)))) (st ++ ((rng (a + (1 : Int)) n).map (fun (b : Int) => (a, b))))) (ev_op (evd ((eL (eTup (cc eI (c1 eI)))) st) (ev_var rfl)) (evd ((eL (eTup (cc eI (c1 eI)))) ((rng (a + (1 : Int)) n).map (fun (b : Int) => (a, b)))) (ev_lc1 eI (eTup (cc eI (c1 eI))) (rng (a + (1 : Int)) n) (fun (b : Int) => (a, b)) _ ⟨_, (ei_rg2 (ev_op (ev_var rfl) ev_c r_add) (ev_var rfl) (by unfold ob))⟩ (by unfold ob) (fun b => gv_N) (fun b h_b => (have hb_b := mem_rng.mp h_b; (evd ((eTup (cc eI (c1 eI))) (a, b)) (ev_tupK 2 (ea_cons (evd (eI a) (ev_var rfl)) (ea_cons (evd (eI b) (ev_var rfl)) ea_nil)) rfl (by decide))))))) (r_catL (e := (eTup (cc eI (c1 eI)))) (xs := st) (ys := ((rng (a + (1 : Int)) n).map (fun (b : Int) => (a, b)))) (by subst h_found; have := pairs_st h0 hx_st; rw [← hs_st] at this; exact size_le4 (by simp only [List.length_map, rng_length]; omega)) rfl rfl))) (fun found1 h_found1 hQ => ?_)
    exact tk_nx hQ ⟨_, rfl, hs⟩
  · obtain ⟨t2, rfl, hs⟩ := hst
    show (_ : DS) _ [some (eI n), some ((eL (eTup (cc eI (c1 eI)))) st), t2, none] _
    refine s_last ?_
    exact s_ret (evd ((eL (eTup (cc eI (c1 eI)))) st) (ev_var rfl)) (tk_rt hQ ⟨rfl, hs⟩)
theorem pairs_law (n : Int) : (∀ r ∈ m_law_pairsT n, LAM.RodOk n r) ∧ (n ≤ 9 → (m_law_pairsT n).length ≤ 72) := by
  have := pairs_in n (rng 0 n) (fun x hx => (mem_rng.mp hx).1) [] (fun r hr => by cases hr)
  refine ⟨this.1, fun h => Nat.le_trans (this.2 h) ?_⟩
  have := rng_small h
  simp only [List.length_nil]
  omega
/-! ### _law_lots -/
def rd_law_lots : DS :=
  (dSeq (dAsg (dLst (dCons (dTup dNil) dNil)) (gN 1))
    (dSeq (dFor (dIRg1 (dCons (dVar 0) dNil)) (gN 2) (dAsg (dOp rAddD (dVar 1) (dLc false (dISeq (dVar 1)) (gN 3) dYes (dOp rAddD (dVar 3) (dTup (dCons (dVar 2) dNil))) [3])) (gN 1)))
    (dRet (dCB (rSortX false) (dCons (dLc false (dISeq (dVar 1)) (gN 3) (dB (dOp (rIntD (fun _ _ => True) fun i j => .bl (decide (j < i))) (dCB rLenD (dCons (dVar 3) dNil)) (dC (.int 1)))) (dVar 3) [3]) dNil)))))
def m_law_lots (n : Int) : (List (List Int)) :=
  bnd ([([] : List Int)] : (List (List Int))) fun (found : (List (List Int))) => bnd (List.foldl (fun (st : ((List (List Int)))) (joint : Int) => (bnd ((st ++ (st.map (fun (lot : (List Int)) => (lot ++ [joint])))) : (List (List Int))) fun (found1 : (List (List Int))) => found1 : ((List (List Int))))) found (rng 0 n)) fun (st : ((List (List Int)))) => (srtT (st.filter (fun (lot1 : (List Int)) => (decide ((1 : Int) < (lot1.length : Int))))))
def sp_law_lots : DSp := fun ds DH Q => ∃ (n : Int), ds = [eI n] ∧ (n ≤ 9) ∧ (0 ≤ n) ∧ Q ((eL (eT eI)) (m_law_lots n)) DH
theorem call_law_lots {DH : DHp} (n : Int) (h0 : n ≤ 9) (h1 : 0 ≤ n) : RvC sp_law_lots [eI n] DH ((eL (eT eI)) (m_law_lots n)) := fun Q q => ⟨n, rfl, h0, h1, q⟩
set_option maxHeartbeats 0 in
theorem law_lots_ok {ds : List D} {DH : DHp} {Q : DK} (h : sp_law_lots ds DH Q) : rd_law_lots (bodyE Q) (dstart ["n", "found", "joint", "lot"] ds) DH := by
  obtain ⟨n, rfl, h0, h1, hQ⟩ := h
  replace hQ : Tk (fun r => ∀ d H', RPv (eL (eT eI)) DH r d H' → (bodyE Q).rt d H') (m_law_lots n) := rpv hQ
  have hs := DSub.refl DH
  unfold rd_law_lots
  unfold m_law_lots at hQ
  show (_ : DS) _ [some (eI n), none, none, none] _
  refine s_asg (eL (eT eI)) hQ (evd ((eL (eT eI)) [([] : List Int)]) (ev_lstK 1 (ea_cons (evd ((eT eI) ([] : List Int)) (ev_tupK 0 ea_nil rfl (by decide))) ea_nil) rfl (by decide))) (fun found h_found hQ => ?_)
  show (_ : DS) _ [some (eI n), some ((eL (eT eI)) found), none, none] _
  refine s_for eI (rng 0 n) (fun (st : ((List (List Int)))) (joint : Int) => bnd ((st ++ (st.map (fun (lot : (List Int)) => (lot ++ [joint])))) : (List (List Int))) fun (found1 : (List (List Int))) => found1) found (fun (st : ((List (List Int)))) τ' H' => ∃ t2 : Option D, τ' = [some (eI n), some ((eL (eT eI)) st), t2, none] ∧ DSub DH H') hQ (ei_rg1 (ev_var rfl) (by unfold ob) (by unfold ob)) (fun st τ' H' h => trivial) ⟨_, rfl, hs⟩ (fun pre joint post st τ' H' hx_st hs_st hst E' hQ => ?_) (fun st τ' H' hst hs_st hQ => ?_)
  · obtain ⟨t2, rfl, hs⟩ := hst
    have hm_joint : joint ∈ (rng 0 n) := by rw [hx_st]; simp
    have hb_joint := mem_rng.mp hm_joint
    refine (show Gv _ (eI joint) _ _ _ from gv_N) _ ?_
    show (_ : DS) _ [some (eI n), some ((eL (eT eI)) st), some (eI joint), none] _
    refine s_last ?_
    refine s_asg (eL (eT eI)) hQ (evd ((eL (eT eI)) (st ++ (st.map (fun (lot : (List Int)) => (lot ++ [joint]))))) (ev_op (evd ((eL (eT eI)) st) (ev_var rfl)) (evd ((eL (eT eI)) (st.map (fun (lot : (List Int)) => (lot ++ [joint])))) (ev_lc1 (eT eI) (eT eI) st (fun (lot : (List Int)) => (lot ++ [joint])) _ ⟨_, (ei_L (e := (eT eI)) (xs := st) (evd ((eL (eT eI)) st) (ev_var rfl)))⟩ (by subst h_found; exact Nat.le_trans (by rw [hs_st]; exact subs_small (Nat.le_trans (pre_len h0 hx_st) (by decide))) (size_le4 (by decide))) (fun lot => gv_N) (fun lot h_lot => (evd ((eT eI) (lot ++ [joint])) (ev_op (evd ((eT eI) lot) (ev_var rfl)) (evd ((eT eI) [joint]) (ev_tupK 1 (ea_cons (evd (eI joint) (ev_var rfl)) ea_nil) rfl (by decide))) (r_catT (e := eI) (xs := lot) (ys := [joint]) (by subst h_found; rw [hs_st] at h_lot; have := ((LAM.mem_subs pre lot).mp h_lot).length_le; have := pre_len h0 hx_st; exact size_le4 (by simp only [List.length_singleton]; omega)))))))) (r_catL (e := (eT eI)) (xs := st) (ys := (st.map (fun (lot : (List Int)) => (lot ++ [joint])))) (by subst h_found; have q : st.length ≤ 512 := by { rw [hs_st]; exact subs_small (Nat.le_trans (pre_len h0 hx_st) (by decide)) }; exact size_le4 (by rw [List.length_map]; omega)) rfl rfl))) (fun found1 h_found1 hQ => ?_)
    exact tk_nx hQ ⟨_, rfl, hs⟩
  · obtain ⟨t2, rfl, hs⟩ := hst
    show (_ : DS) _ [some (eI n), some ((eL (eT eI)) st), t2, none] _
    refine s_last ?_
    exact s_ret (evd ((eL (eT eI)) (srtT (st.filter (fun (lot1 : (List Int)) => (decide ((1 : Int) < (lot1.length : Int))))))) (ev_cb (ea_cons (evd ((eL (eT eI)) (st.filter (fun (lot1 : (List Int)) => (decide ((1 : Int) < (lot1.length : Int)))))) (ev_lcf (eT eI) st (fun (lot1 : (List Int)) => (decide ((1 : Int) < (lot1.length : Int)))) _ ⟨_, (ei_L (e := (eT eI)) (xs := st) (evd ((eL (eT eI)) st) (ev_var rfl)))⟩ (by subst h_found; exact Nat.le_trans (by rw [hs_st]; exact subs_small (rng_small h0)) (size_le4 (by decide))) (fun lot1 => gv_N) (fun lot1 h_lot1 => (et_b (ev_op (ev_cb (ea_cons (evd ((eT eI) lot1) (ev_var rfl)) ea_nil) (c_len (e := eI) (xs := lot1) seqT)) ev_c r_gt))) (fun lot1 h_lot1 hc => (evd ((eT eI) lot1) (ev_var rfl))))) ea_nil) (c_srtT (xs := (st.filter (fun (lot1 : (List Int)) => (decide ((1 : Int) < (lot1.length : Int)))))) seqL (by intro x hx e; subst e; simp at hx)))) (tk_rt hQ ⟨rfl, hs⟩)
theorem lawlots_eq (n : Int) : m_law_lots n = m_lots_of_joints n := (rfl)
/-! ### _law_inside -/
def rd_law_inside : DS :=
  (dRet (dLc false (dISeq (dVar 0)) (gN 2) (dAnd (dB (dOp (rInD false) (dOp rIxD (dVar 2) (dC (.int 0))) (dVar 1))) (dB (dOp (rInD false) (dOp rIxD (dVar 2) (dC (.int 1))) (dVar 1)))) (dVar 2) [2]))
def m_law_inside (rods : List (Int × Int)) (lot : (List Int)) : (List (Int × Int)) :=
  (rods.filter (fun (rod : (Int × Int)) => ((decide (rod.1 ∈ lot)) && (decide (rod.2 ∈ lot)))))
def sp_law_inside : DSp := fun ds DH Q => ∃ (rods : List (Int × Int)) (d_rods : D) (lot : (List Int)), ds = [d_rods, (eT eI) lot] ∧ (seqOf DH d_rods = some (rods.map (eTup (cc eI (c1 eI))))) ∧ (rods.length ≤ 1000) ∧ Q ((eL (eTup (cc eI (c1 eI)))) (m_law_inside rods lot)) DH
theorem call_law_inside {DH : DHp} (rods : List (Int × Int)) (d_rods : D) (hd_rods : seqOf DH d_rods = some (rods.map (eTup (cc eI (c1 eI))))) (lot : (List Int)) (h0 : rods.length ≤ 1000) : RvC sp_law_inside [d_rods, (eT eI) lot] DH ((eL (eTup (cc eI (c1 eI)))) (m_law_inside rods lot)) := fun Q q => ⟨rods, d_rods, lot, rfl, hd_rods, h0, q⟩
set_option maxHeartbeats 0 in
theorem law_inside_ok {ds : List D} {DH : DHp} {Q : DK} (h : sp_law_inside ds DH Q) : rd_law_inside (bodyE Q) (dstart ["rods", "lot", "rod"] ds) DH := by
  obtain ⟨rods, d_rods, lot, rfl, hd_rods, h0, hQ⟩ := h
  replace hQ : Tk (fun r => ∀ d H', RPv (eL (eTup (cc eI (c1 eI)))) DH r d H' → (bodyE Q).rt d H') (m_law_inside rods lot) := rpv hQ
  have hs := DSub.refl DH
  unfold rd_law_inside
  unfold m_law_inside at hQ
  show (_ : DS) _ [some d_rods, some ((eT eI) lot), none] _
  refine s_last ?_
  exact s_ret (evd ((eL (eTup (cc eI (c1 eI)))) (rods.filter (fun (rod : (Int × Int)) => ((decide (rod.1 ∈ lot)) && (decide (rod.2 ∈ lot)))))) (ev_lcf (eTup (cc eI (c1 eI))) rods (fun (rod : (Int × Int)) => ((decide (rod.1 ∈ lot)) && (decide (rod.2 ∈ lot)))) _ (ej_Q hd_rods hs (ev_var rfl)) (by unfold ob) (fun rod => gv_N) (fun rod h_rod => (et_and (et_b (ev_op (evd (eI rod.1) (ev_op (evd ((eTup (cc eI (c1 eI))) rod) (ev_var rfl)) ev_c (r_ixP (d := eI rod.1) rfl))) (evd ((eT eI) lot) (ev_var rfl)) (r_in (e := eI) (x := rod.1) (xs := lot) (by decide) seqT))) (fun hc => (et_b (ev_op (evd (eI rod.2) (ev_op (evd ((eTup (cc eI (c1 eI))) rod) (ev_var rfl)) ev_c (r_ixP (d := eI rod.2) rfl))) (evd ((eT eI) lot) (ev_var rfl)) (r_in (e := eI) (x := rod.2) (xs := lot) (by decide) seqT)))))) (fun rod h_rod hc => (evd ((eTup (cc eI (c1 eI))) rod) (ev_var rfl))))) (tk_rt hQ ⟨rfl, hs⟩)
/-! ### _law_is_free -/
def rd_law_is_free : DS :=
  (dRet (dOp (rEqD false) (dLc false (dISeq (dCB sp_law_lots (dCons (dVar 0) dNil))) (gN 2) (dB (dOp (rIntD (fun _ _ => True) fun i j => .bl (decide (j < i))) (dCB rLenD (dCons (dCB sp_law_inside (dCons (dVar 1) (dCons (dVar 2) dNil))) dNil)) (dOp (rIntD (fun _ _ => True) fun i j => .int (i - j)) (dOp rMulD (dC (.int 2)) (dCB rLenD (dCons (dVar 2) dNil))) (dC (.int 3))))) (dVar 2) [2]) (dLst dNil)))
def m_law_is_free (n : Int) (rods : List (Int × Int)) : Bool :=
  (decide (((m_law_lots (n)).filter (fun (lot : (List Int)) => (decide ((((2 : Int) * (lot.length : Int)) - (3 : Int)) < ((m_law_inside (rods) (lot)).length : Int))))) = ([] : List (List Int))))
def sp_law_is_free : DSp := fun ds DH Q => ∃ (n : Int) (rods : List (Int × Int)) (d_rods : D), ds = [eI n, d_rods] ∧ (seqOf DH d_rods = some (rods.map (eTup (cc eI (c1 eI))))) ∧ (n ≤ 9) ∧ (0 ≤ n) ∧ (rods.length ≤ 1000) ∧ Q (eB (m_law_is_free n rods)) DH
theorem call_law_is_free {DH : DHp} (n : Int) (rods : List (Int × Int)) (d_rods : D) (hd_rods : seqOf DH d_rods = some (rods.map (eTup (cc eI (c1 eI))))) (h0 : n ≤ 9) (h1 : 0 ≤ n) (h2 : rods.length ≤ 1000) : RvC sp_law_is_free [eI n, d_rods] DH (eB (m_law_is_free n rods)) := fun Q q => ⟨n, rods, d_rods, rfl, hd_rods, h0, h1, h2, q⟩
set_option maxHeartbeats 0 in
theorem law_is_free_ok {ds : List D} {DH : DHp} {Q : DK} (h : sp_law_is_free ds DH Q) : rd_law_is_free (bodyE Q) (dstart ["n", "rods", "lot"] ds) DH := by
  obtain ⟨n, rods, d_rods, rfl, hd_rods, h0, h1, h2, hQ⟩ := h
  replace hQ : Tk (fun r => ∀ d H', RPv eB DH r d H' → (bodyE Q).rt d H') (m_law_is_free n rods) := rpv hQ
  have hs := DSub.refl DH
  unfold rd_law_is_free
  unfold m_law_is_free at hQ
  show (_ : DS) _ [some (eI n), some d_rods, none] _
  refine s_last ?_
  exact s_ret (evd (eB (decide (((m_law_lots (n)).filter (fun (lot : (List Int)) => (decide ((((2 : Int) * (lot.length : Int)) - (3 : Int)) < ((m_law_inside (rods) (lot)).length : Int))))) = ([] : List (List Int))))) (ev_op (evd ((eL (eT eI)) ((m_law_lots (n)).filter (fun (lot : (List Int)) => (decide ((((2 : Int) * (lot.length : Int)) - (3 : Int)) < ((m_law_inside (rods) (lot)).length : Int)))))) (ev_lcf (eT eI) (m_law_lots (n)) (fun (lot : (List Int)) => (decide ((((2 : Int) * (lot.length : Int)) - (3 : Int)) < ((m_law_inside (rods) (lot)).length : Int)))) _ ⟨_, (ei_L (e := (eT eI)) (xs := (m_law_lots (n))) (evd ((eL (eT eI)) (m_law_lots (n))) (ev_cb (ea_cons (evd (eI n) (ev_var rfl)) ea_nil) (call_law_lots (n) (by unfold ob) (by unfold ob)))))⟩ (by exact Nat.le_trans (lots_len h0) (size_le4 (by decide))) (fun lot => gv_N) (fun lot h_lot => (et_b (ev_op (ev_cb (ea_cons (evd ((eL (eTup (cc eI (c1 eI)))) (m_law_inside (rods) (lot))) (ev_cb (ea_cons (ev_var rfl) (ea_cons (evd ((eT eI) lot) (ev_var rfl)) ea_nil)) (call_law_inside (rods) d_rods (seqOf_sub hs hd_rods) (lot) (by unfold ob)))) ea_nil) (c_len (e := (eTup (cc eI (c1 eI)))) (xs := (m_law_inside (rods) (lot))) seqL)) (ev_op (ev_op ev_c (ev_cb (ea_cons (evd ((eT eI) lot) (ev_var rfl)) ea_nil) (c_len (e := eI) (xs := lot) seqT)) (r_mul (mulD_l (by decide) (by decide)))) ev_c r_sub) r_gt))) (fun lot h_lot hc => (evd ((eT eI) lot) (ev_var rfl))))) (evd ((eL (eT eI)) ([] : List (List Int))) (ev_lstK 0 ea_nil rfl (by decide))) (r_eq (e := (eL (eT eI))) (x := ((m_law_lots (n)).filter (fun (lot : (List Int)) => (decide ((((2 : Int) * (lot.length : Int)) - (3 : Int)) < ((m_law_inside (rods) (lot)).length : Int)))))) (y := ([] : List (List Int))) (by decide) (peek_gd _ _) (peek_gd _ _)))) (tk_rt hQ ⟨rfl, hs⟩)
theorem first_st {start : List (Int × Int)} {step : List (Int × Int) → (Int × Int) → List (Int × Int)} (h : ∀ st r, (step st r).length ≤ st.length + 1) : ∀ (pre : List (Int × Int)) (acc : List (Int × Int)), (pre.foldl step acc).length ≤ acc.length + pre.length
  | [], acc => by simp
  | r :: pre, acc => by
    rw [List.foldl_cons]
    have := first_st (start := start) h pre (step acc r)
    have := h acc r
    simp only [List.length_cons]
    omega
abbrev firS (n : Int) (st : List (Int × Int)) (rod : Int × Int) : List (Int × Int) := bnd (List.filter (fun lot => decide (rod.fst ∈ lot) && decide (rod.snd ∈ lot)) (m_law_lots n)) fun mine => if (!decide (rod ∈ st) && decide (List.filter (fun lot1 => decide ((((m_law_inside st lot1).length : Nat) : Int) = 2 * (lot1.length : Int) - 3)) mine = [])) = true then st ++ [rod] else st
theorem first_len {n : Int} {start rods pre post : List (Int × Int)} {rod : Int × Int} {st : List (Int × Int)} (h2 : start.length + rods.length ≤ 1000) (hx : rods = pre ++ rod :: post) (hs : st = List.foldl (firS n) start pre) : st.length ≤ 999 := by
  have a := first_st (start := start) (step := firS n) (fun st r => by
    show (if _ then _ else _ : List (Int × Int)).length ≤ _
    split
    · simp
    · omega) pre start
  have b := congrArg List.length hx
  rw [List.length_append, List.length_cons] at b
  rw [hs]
  omega
/-! ### _law_first -/
def rd_law_first : DS :=
  (dSeq (dAsg (dTup (dCons (dCB (rLstD true) (dCons (dVar 1) dNil)) (dCons (dCB sp_law_lots (dCons (dVar 0) dNil)) dNil))) (gT 2 (gConsD (gN 3) (gConsD (gN 4) gNilD))))
    (dSeq (dFor (dISeq (dVar 2)) (gN 5) (dSeq (dAsg (dLc false (dISeq (dVar 4)) (gN 7) (dAnd (dB (dOp (rInD false) (dOp rIxD (dVar 5) (dC (.int 0))) (dVar 7))) (dB (dOp (rInD false) (dOp rIxD (dVar 5) (dC (.int 1))) (dVar 7)))) (dVar 7) [7]) (gN 6))
    (dIfS (dAnd (dB (dOp (rInD true) (dVar 5) (dVar 3))) (dB (dOp (rEqD false) (dLc false (dISeq (dVar 6)) (gN 7) (dB (dOp (rEqD false) (dCB rLenD (dCons (dCB sp_law_inside (dCons (dVar 3) (dCons (dVar 7) dNil))) dNil)) (dOp (rIntD (fun _ _ => True) fun i j => .int (i - j)) (dOp rMulD (dC (.int 2)) (dCB rLenD (dCons (dVar 7) dNil))) (dC (.int 3))))) (dVar 7) [7]) (dLst dNil)))) (dDrop (dBM "list" mAppend (dVar 3) (dCons (dVar 5) dNil))) dNext)))
    (dRet (dSl (rSlD false) (dVar 3) (dPart (dCB rLenD (dCons (dVar 1) dNil))) dNoPart))))
def m_law_first (n : Int) (start : (List (Int × Int))) (rods : List (Int × Int)) : (List (Int × Int)) :=
  bnd (List.foldl (fun (st : ((List (Int × Int)))) (rod : (Int × Int)) => (bnd (((m_law_lots (n)).filter (fun (lot : (List Int)) => ((decide (rod.1 ∈ lot)) && (decide (rod.2 ∈ lot))))) : (List (List Int))) fun (mine : (List (List Int))) => (if ((!decide (rod ∈ st)) && (decide ((mine.filter (fun (lot1 : (List Int)) => (decide (((m_law_inside (st) (lot1)).length : Int) = (((2 : Int) * (lot1.length : Int)) - (3 : Int)))))) = ([] : List (List Int))))) = true then (st ++ [rod]) else st) : ((List (Int × Int))))) (start : List (Int × Int)) rods) fun (st : ((List (Int × Int)))) => (cut st (some (start.length : Int)) none)
def sp_law_first : DSp := fun ds DH Q => ∃ (n : Int) (start : (List (Int × Int))) (rods : List (Int × Int)) (d_rods : D), ds = [eI n, (eT (eTup (cc eI (c1 eI)))) start, d_rods] ∧ (seqOf DH d_rods = some (rods.map (eTup (cc eI (c1 eI))))) ∧ (n ≤ 9) ∧ (0 ≤ n) ∧ (start.length + rods.length ≤ 1000) ∧ Q ((eL (eTup (cc eI (c1 eI)))) (m_law_first n start rods)) DH
theorem call_law_first {DH : DHp} (n : Int) (start : (List (Int × Int))) (rods : List (Int × Int)) (d_rods : D) (hd_rods : seqOf DH d_rods = some (rods.map (eTup (cc eI (c1 eI))))) (h0 : n ≤ 9) (h1 : 0 ≤ n) (h2 : start.length + rods.length ≤ 1000) : RvC sp_law_first [eI n, (eT (eTup (cc eI (c1 eI)))) start, d_rods] DH ((eL (eTup (cc eI (c1 eI)))) (m_law_first n start rods)) := fun Q q => ⟨n, start, rods, d_rods, rfl, hd_rods, h0, h1, h2, q⟩
set_option maxHeartbeats 0 in
theorem law_first_ok {ds : List D} {DH : DHp} {Q : DK} (h : sp_law_first ds DH Q) : rd_law_first (bodyE Q) (dstart ["n", "start", "rods", "found", "lots", "rod", "mine", "lot"] ds) DH := by
  obtain ⟨n, start, rods, d_rods, rfl, hd_rods, h0, h1, h2, hQ⟩ := h
  replace hQ : Tk (fun r => ∀ d H', RPv (eL (eTup (cc eI (c1 eI)))) DH r d H' → (bodyE Q).rt d H') (m_law_first n start rods) := rpv hQ
  have hs := DSub.refl DH
  unfold rd_law_first
  unfold m_law_first at hQ
  show (_ : DS) _ [some (eI n), some ((eT (eTup (cc eI (c1 eI)))) start), some d_rods, none, none, none, none, none] _
  refine n_asgGX ?_
  refine x_tup ?_
  refine x_cons ?_
  refine x_newC (eTup (cc eI (c1 eI))) start (evd ((eT (eTup (cc eI (c1 eI)))) start) (ev_var rfl)) seqT (fun p_found H' hn0 hp_found hf => ?_)
  have hn_p_found := dsub_none hs hn0
  have hs := dsub_fr hs hn_p_found hf
  refine x_cons ?_
  refine x_ev (evd ((eL (eT eI)) (m_law_lots (n))) (ev_cb (ea_cons (evd (eI n) (ev_var rfl)) ea_nil) (call_law_lots (n) (by unfold ob) (by unfold ob)))) ?_
  refine x_nil ?_
  refine x_size 2 rfl (by decide) ?_
  refine n_gv (gv_T rfl (gvs_cons gv_N (gvs_cons gv_N gvs_nil))) ?_
  show (_ : DS) _ [some (eI n), some ((eT (eTup (cc eI (c1 eI)))) start), some d_rods, some (.ref p_found), some ((eL (eT eI)) (m_law_lots (n))), none, none, none] _
  obtain ⟨okQ, hi_okQ, hk_okQ⟩ := (ei_Q (τ := [some (eI n), some ((eT (eTup (cc eI (c1 eI)))) start), some d_rods, some (.ref p_found), some ((eL (eT eI)) (m_law_lots (n))), none, none, none]) (te := dVar 2) hd_rods hs (ev_var rfl))
  refine s_for (eTup (cc eI (c1 eI))) rods (fun (st : ((List (Int × Int)))) (rod : (Int × Int)) => bnd (((m_law_lots (n)).filter (fun (lot : (List Int)) => ((decide (rod.1 ∈ lot)) && (decide (rod.2 ∈ lot))))) : (List (List Int))) fun (mine : (List (List Int))) => (if ((!decide (rod ∈ st)) && (decide ((mine.filter (fun (lot1 : (List Int)) => (decide (((m_law_inside (st) (lot1)).length : Int) = (((2 : Int) * (lot1.length : Int)) - (3 : Int)))))) = ([] : List (List Int))))) = true then (st ++ [rod]) else st)) (start : List (Int × Int)) (fun (st : ((List (Int × Int)))) τ' H' => ∃ t5 t6 : Option D, τ' = [some (eI n), some ((eT (eTup (cc eI (c1 eI)))) start), some d_rods, some (.ref p_found), some ((eL (eT eI)) (m_law_lots (n))), t5, t6, none] ∧ DSub DH H' ∧ H' p_found = some (.lst (st.map (eTup (cc eI (c1 eI)))))) hQ hi_okQ (fun st τ' H' h => by obtain ⟨t5, t6, rfl, hs, hp_found⟩ := h; exact hk_okQ _ hs) ⟨_, _, rfl, hs, hp_found⟩ (fun pre rod post st τ' H' hx_st hs_st hst E' hQ => ?_) (fun st τ' H' hst hs_st hQ => ?_)
  · obtain ⟨t5, t6, rfl, hs, hp_found⟩ := hst
    have hm_rod : rod ∈ rods := by rw [hx_st]; simp
    refine (show Gv _ ((eTup (cc eI (c1 eI))) rod) _ _ _ from gv_N) _ ?_
    show (_ : DS) _ [some (eI n), some ((eT (eTup (cc eI (c1 eI)))) start), some d_rods, some (.ref p_found), some ((eL (eT eI)) (m_law_lots (n))), some ((eTup (cc eI (c1 eI))) rod), t6, none] _
    refine s_asg (eL (eT eI)) hQ (evd ((eL (eT eI)) ((m_law_lots (n)).filter (fun (lot : (List Int)) => ((decide (rod.1 ∈ lot)) && (decide (rod.2 ∈ lot)))))) (ev_lcf (eT eI) (m_law_lots (n)) (fun (lot : (List Int)) => ((decide (rod.1 ∈ lot)) && (decide (rod.2 ∈ lot)))) _ ⟨_, (ei_L (e := (eT eI)) (xs := (m_law_lots (n))) (evd ((eL (eT eI)) (m_law_lots (n))) (ev_var rfl)))⟩ (by exact Nat.le_trans (lots_len h0) (size_le4 (by decide))) (fun lot => gv_N) (fun lot h_lot => (et_and (et_b (ev_op (evd (eI rod.1) (ev_op (evd ((eTup (cc eI (c1 eI))) rod) (ev_var rfl)) ev_c (r_ixP (d := eI rod.1) rfl))) (evd ((eT eI) lot) (ev_var rfl)) (r_in (e := eI) (x := rod.1) (xs := lot) (by decide) seqT))) (fun hc => (et_b (ev_op (evd (eI rod.2) (ev_op (evd ((eTup (cc eI (c1 eI))) rod) (ev_var rfl)) ev_c (r_ixP (d := eI rod.2) rfl))) (evd ((eT eI) lot) (ev_var rfl)) (r_in (e := eI) (x := rod.2) (xs := lot) (by decide) seqT)))))) (fun lot h_lot hc => (evd ((eT eI) lot) (ev_var rfl))))) (fun mine h_mine hQ => ?_)
    show (_ : DS) _ [some (eI n), some ((eT (eTup (cc eI (c1 eI)))) start), some d_rods, some (.ref p_found), some ((eL (eT eI)) (m_law_lots (n))), some ((eTup (cc eI (c1 eI))) rod), some ((eL (eT eI)) mine), none] _
    refine s_last ?_
    refine s_if (b := ((!decide (rod ∈ st)) && (decide ((mine.filter (fun (lot1 : (List Int)) => (decide (((m_law_inside (st) (lot1)).length : Int) = (((2 : Int) * (lot1.length : Int)) - (3 : Int)))))) = ([] : List (List Int)))))) hQ (et_and (et_b (ev_op (evd ((eTup (cc eI (c1 eI))) rod) (ev_var rfl)) (ev_var rfl) (r_nin (e := (eTup (cc eI (c1 eI)))) (x := rod) (xs := st) (by decide) (seqR hp_found)))) (fun hc1 => (et_b (ev_op (evd ((eL (eT eI)) (mine.filter (fun (lot1 : (List Int)) => (decide (((m_law_inside (st) (lot1)).length : Int) = (((2 : Int) * (lot1.length : Int)) - (3 : Int))))))) (ev_lcf (eT eI) mine (fun (lot1 : (List Int)) => (decide (((m_law_inside (st) (lot1)).length : Int) = (((2 : Int) * (lot1.length : Int)) - (3 : Int))))) _ ⟨_, (ei_L (e := (eT eI)) (xs := mine) (evd ((eL (eT eI)) mine) (ev_var rfl)))⟩ (by rw [h_mine]; exact Nat.le_trans (le_filter _ (lots_len h0)) (size_le4 (by decide))) (fun lot1 => gv_N) (fun lot1 h_lot1 => (et_b (ev_op (evd (eI ((m_law_inside (st) (lot1)).length : Int)) (ev_cb (ea_cons (evd ((eL (eTup (cc eI (c1 eI)))) (m_law_inside (st) (lot1))) (ev_cb (ea_cons (ev_var rfl) (ea_cons (evd ((eT eI) lot1) (ev_var rfl)) ea_nil)) (call_law_inside (st) (.ref p_found) (seqR hp_found) (lot1) (by exact Nat.le_trans (first_len h2 hx_st hs_st) (by decide))))) ea_nil) (c_len (e := (eTup (cc eI (c1 eI)))) (xs := (m_law_inside (st) (lot1))) seqL))) (evd (eI (((2 : Int) * (lot1.length : Int)) - (3 : Int))) (ev_op (ev_op ev_c (ev_cb (ea_cons (evd ((eT eI) lot1) (ev_var rfl)) ea_nil) (c_len (e := eI) (xs := lot1) seqT)) (r_mul (mulD_l (by decide) (by decide)))) ev_c r_sub)) (r_eq (e := eI) (x := ((m_law_inside (st) (lot1)).length : Int)) (y := (((2 : Int) * (lot1.length : Int)) - (3 : Int))) (by decide) (peek_gd _ _) (peek_gd _ _))))) (fun lot1 h_lot1 hc => (evd ((eT eI) lot1) (ev_var rfl))))) (evd ((eL (eT eI)) ([] : List (List Int))) (ev_lstK 0 ea_nil rfl (by decide))) (r_eq (e := (eL (eT eI))) (x := (mine.filter (fun (lot1 : (List Int)) => (decide (((m_law_inside (st) (lot1)).length : Int) = (((2 : Int) * (lot1.length : Int)) - (3 : Int))))))) (y := ([] : List (List Int))) (by decide) (peek_gd _ _) (peek_gd _ _)))))) (fun hc2 hQ => ?_) (fun hc2 hQ => ?_)
    · skip
      show (_ : DS) _ [some (eI n), some ((eT (eTup (cc eI (c1 eI)))) start), some d_rods, some (.ref p_found), some ((eL (eT eI)) (m_law_lots (n))), some ((eTup (cc eI (c1 eI))) rod), some ((eL (eT eI)) mine), none] _
      refine s_app (xs := st) (v := rod) (eTup (cc eI (c1 eI))) rfl hp_found (evd ((eTup (cc eI (c1 eI))) rod) (ev_var rfl)) (by exact Nat.lt_of_le_of_lt (first_len h2 hx_st hs_st) (by decide)) (fun H_1 hp_ hf1 => ?_)
      have hs := dsub_fr hs hn_p_found hf1
      exact tk_nx hQ ⟨_, _, rfl, hs, hp_⟩
    · skip
      refine s_skip ?_
      exact tk_nx hQ ⟨_, _, rfl, hs, hp_found⟩
  · obtain ⟨t5, t6, rfl, hs, hp_found⟩ := hst
    show (_ : DS) _ [some (eI n), some ((eT (eTup (cc eI (c1 eI)))) start), some d_rods, some (.ref p_found), some ((eL (eT eI)) (m_law_lots (n))), t5, t6, none] _
    refine s_last ?_
    exact s_ret (evd ((eL (eTup (cc eI (c1 eI)))) (cut st (some (start.length : Int)) none)) (ev_slL (e := (eTup (cc eI (c1 eI)))) (xs := st) (ev_var rfl) (peekR hp_found) (eo_some (ev_cb (ea_cons (evd ((eT (eTup (cc eI (c1 eI)))) start) (ev_var rfl)) ea_nil) (c_len (e := (eTup (cc eI (c1 eI)))) (xs := start) seqT))) eo_none)) (tk_rt hQ ⟨rfl, hs⟩)
theorem frm_len {n : Int} {r_mixed : List Int} (h : r_mixed.Perm (rng 0 n)) : r_mixed.length = n.toNat := by rw [h.length_eq, rng_length, Int.sub_zero]
theorem frm_rod {n k : Int} {r_mixed r_mixed1 : List Int} (h : r_mixed.Perm (rng 0 n)) (h1 : r_mixed1.Perm (cut r_mixed none (some k))) (hk : 1 ≤ k ∧ k < n) {late : Int} (hm : late ∈ cut r_mixed1 none (some 2)) : LAM.RodOk n (min (ix r_mixed k) late, max (ix r_mixed k) late) := by
  have hl := frm_len h
  have hk2 : k.toNat < r_mixed.length := by omega
  rw [cut_to _ (by omega)] at h1 hm
  have hm2 : late ∈ r_mixed.take k.toNat := h1.mem_iff.mp (List.mem_of_mem_take hm)
  have e := ix_nat (by omega) hk2
  have m1 : ix r_mixed k ∈ rng 0 n := h.mem_iff.mp (by rw [e]; exact List.getElem_mem _)
  have m2 : late ∈ rng 0 n := h.mem_iff.mp (List.mem_of_mem_take hm2)
  have ne : ix r_mixed k ≠ late := fun q => by
    have nd : r_mixed.Nodup := h.nodup_iff.mpr (LAM.rng_nodup 0 n)
    rw [← List.take_append_drop k.toNat r_mixed] at nd
    obtain ⟨_, _, d⟩ := List.nodup_append.mp nd
    have : ix r_mixed k ∈ r_mixed.drop k.toNat := by
      rw [e, List.drop_eq_getElem_cons hk2]
      exact List.mem_cons_self
    exact d late hm2 _ this q.symm
  rw [mem_rng] at m1 m2
  unfold LAM.RodOk
  refine ⟨by show 0 ≤ min _ _; omega, by show min _ _ < max _ _; omega, by show max _ _ < n; omega⟩
theorem frm_mem {n : Int} {ys1 ys2 st pairs : List (Int × Int)} (q1 : ∀ y ∈ ys1, y ∈ pairs) (q2 : ∀ y ∈ ys2, y ∈ st) (q3 : ∀ r ∈ pairs, LAM.RodOk n r) (q4 : ∀ r ∈ st, LAM.RodOk n r) {x : Int × Int} (hx : x ∈ srtP (ys2 ++ ys1)) : LAM.RodOk n x := by
  rcases List.mem_append.mp ((srtP_perm _).mem_iff.mp hx) with h | h
  · exact q4 x (q2 x h)
  · exact q3 x (q1 x h)
/-! ### _law_frame -/
def rd_law_frame14 : DS :=
  (dSeq (dAsg (dTup (dCons (dOp rAddD (dC (.int 2)) (dCB sp_law_pick (dCons (dVar 0) (dCons (dOp (rIntD (fun _ _ => True) fun i j => .int (i - j)) (dVar 1) (dC (.int 1))) dNil)))) (dCons (dCB sp_law_pick (dCons (dVar 0) (dCons (dC (.int 4)) dNil))) dNil))) (gT 2 (gConsD (gN 2) (gConsD (gN 3) gNilD))))
    (dSeq (dAsg (dCB sp_law_pairsT (dCons (dVar 2) dNil)) (gN 4))
    (dSeq (dIfS (dB (dOp (rIntD (fun _ _ => True) fun i j => .bl (decide (i < j))) (dVar 3) (dC (.int 2)))) (dSeq (dAsg (dOp rAddD (dC (.int 2)) (dCB sp_law_pick (dCons (dVar 0) (dCons (dC (.int 3)) dNil)))) (gN 5))
    (dRet (dTup (dCons (dVar 2) (dCons (dCB rTupD (dCons (dLc false (dISeq (dVar 4)) (gN 6) (dB (dOp (rEqD false) (dOp (rEqD false) (dCB sp_law_pick (dCons (dVar 0) (dCons (dVar 5) dNil))) (dC (.int 0))) (dOp (rEqD false) (dVar 3) (dC (.int 0))))) (dVar 6) [6]) dNil)) dNil))))) dNext)
    (dSeq (dAsg (dTup (dCons (dCB sp_law_mixed (dCons (dVar 0) (dCons (dLstRg1 false (dVar 2)) dNil))) (dCons (dLstM dNil) dNil))) (gT 2 (gConsD (gN 7) (gConsD (gN 8) gNilD))))
    (dSeq (dFor (dIRg2 (dCons (dC (.int 1)) (dCons (dVar 2) dNil))) (gN 9) (dFor (dISeq (dSl (rSlD false) (dCB sp_law_mixed (dCons (dVar 0) (dCons (dSl (rSlD false) (dVar 7) dNoPart (dPart (dVar 9))) dNil))) dNoPart (dPart (dC (.int 2))))) (gN 10) (dDrop (dBM "list" mAppend (dVar 8) (dCons (dCB rTupD (dCons (dCB (rSortX false) (dCons (dLst (dCons (dOp rIxD (dVar 7) (dVar 9)) (dCons (dVar 10) dNil))) dNil)) dNil)) dNil)))))
    (dSeq (dAsg (dLc false (dISeq (dVar 4)) (gN 6) (dAnd (dB (dOp (rInD true) (dVar 6) (dVar 8))) (dB (dOp (rEqD false) (dCB sp_law_pick (dCons (dVar 0) (dCons (dC (.int 5)) dNil))) (dC (.int 0))))) (dVar 6) [6]) (gN 11))
    (dSeq (dAsg (dLc true (dISeq (dVar 8)) (gN 6) (dOr (dB (dOp (rIntD (fun _ _ => True) fun i j => .bl (decide (j < i))) (dCB sp_law_pick (dCons (dVar 0) (dCons (dC (.int 8)) dNil))) (dC (.int 0)))) (dB (dOp (rEqD false) (dVar 3) (dC (.int 2))))) (dVar 6) [6]) (gN 8))
    (dRet (dTup (dCons (dVar 2) (dCons (dCB rTupD (dCons (dCB (rSortX false) (dCons (dOp rAddD (dVar 8) (dVar 11)) dNil)) dNil)) dNil)))))))))))
def sp_law_frame14 : DSp := fun ds DH Q => ∃ (a_ : Addr) (most : Int), ds = [.ref a_, eI most] ∧ (DH a_ = some .src) ∧ (2 ≤ most ∧ most ≤ 9) ∧ (∀ r : (Int × (List (Int × Int))), (2 ≤ r.1 ∧ r.1 ≤ most ∧ (∀ x ∈ r.2, LAM.RodOk r.1 x) ∧ r.2.length ≤ 200) → Q ((eTup (cc eI (c1 (eT (eTup (cc eI (c1 eI))))))) r) DH)
theorem call_law_frame14 {H : DHp} {K : DK} {a_ : Addr} (ha : H a_ = some .src) (most : Int) (h0 : 2 ≤ most ∧ most ≤ 9) (k : ∀ r : (Int × (List (Int × Int))), (2 ≤ r.1 ∧ r.1 ≤ most ∧ (∀ x ∈ r.2, LAM.RodOk r.1 x) ∧ r.2.length ≤ 200) → K ((eTup (cc eI (c1 (eT (eTup (cc eI (c1 eI))))))) r) H) : sp_law_frame14 [.ref a_, eI most] H K := ⟨a_, most, rfl, ha, h0, k⟩
set_option maxHeartbeats 0 in
theorem law_frame14_ok {ds : List D} {DH : DHp} {Q : DK} (h : sp_law_frame14 ds DH Q) : rd_law_frame14 (bodyE Q) (dstart ["source", "most", "n", "road", "pairs", "share", "pair", "order", "found", "k", "late", "more"] ds) DH := by
  obtain ⟨a_, most, rfl, ha, h0, hQ⟩ := h
  have hs := DSub.refl DH
  unfold rd_law_frame14
  show (_ : DS) _ [some (.ref a_), some (eI most), none, none, none, none, none, none, none, none, none, none] _
  refine n_asgGX ?_
  refine x_tup ?_
  refine x_cons ?_
  refine x_op ?_
  refine x_ev (evd (eI (2 : Int)) ev_c) ?_
  refine x_cb ?_
  refine x_cons ?_
  refine x_ev (ev_var rfl : Ev _ _ _ (.ref a_)) ?_
  refine x_cons ?_
  refine x_ev (evd (eI (most - (1 : Int))) (ev_op (ev_var rfl) ev_c r_sub)) ?_
  refine x_nil ?_
  refine call_pick (hs _ _ ha) ((most - (1 : Int))) (by unfold ob) (fun r_pick h_r_pick => ?_)
  refine x_rv (r_add (i := (2 : Int)) (j := r_pick)) ?_
  obtain ⟨n, h_n⟩ : ∃ x : Int, x = ((2 : Int) + r_pick) := ⟨_, rfl⟩
  rw [← h_n]
  refine x_cons ?_
  refine x_cb ?_
  refine x_cons ?_
  refine x_ev (ev_var rfl : Ev _ _ _ (.ref a_)) ?_
  refine x_cons ?_
  refine x_ev (evd (eI (4 : Int)) ev_c) ?_
  refine x_nil ?_
  refine call_pick (hs _ _ ha) ((4 : Int)) (by unfold ob) (fun r_pick1 h_r_pick1 => ?_)
  refine x_nil ?_
  refine x_size 2 rfl (by decide) ?_
  refine n_gv (gv_T rfl (gvs_cons gv_N (gvs_cons gv_N gvs_nil))) ?_
  show (_ : DS) _ [some (.ref a_), some (eI most), some (eI n), some (eI r_pick1), none, none, none, none, none, none, none, none] _
  refine n_asg (eL (eTup (cc eI (c1 eI)))) (evd ((eL (eTup (cc eI (c1 eI)))) (m_law_pairsT (n))) (ev_cb (ea_cons (evd (eI n) (ev_var rfl)) ea_nil) (call_law_pairsT (n) (by unfold ob) (by unfold ob)))) (fun pairs h_pairs => ?_)
  show (_ : DS) _ [some (.ref a_), some (eI most), some (eI n), some (eI r_pick1), some ((eL (eTup (cc eI (c1 eI)))) pairs), none, none, none, none, none, none, none] _
  refine n_if (b := (decide (r_pick1 < (2 : Int)))) (et_b (ev_op (ev_var rfl) ev_c r_lt)) (fun hc => ?_) (fun hc => ?_)
  · skip
    show (_ : DS) _ [some (.ref a_), some (eI most), some (eI n), some (eI r_pick1), some ((eL (eTup (cc eI (c1 eI)))) pairs), none, none, none, none, none, none, none] _
    refine s_assoc ?_
    refine n_asgX ?_
    refine x_op ?_
    refine x_ev (evd (eI (2 : Int)) ev_c) ?_
    refine x_cb ?_
    refine x_cons ?_
    refine x_ev (ev_var rfl : Ev _ _ _ (.ref a_)) ?_
    refine x_cons ?_
    refine x_ev (evd (eI (3 : Int)) ev_c) ?_
    refine x_nil ?_
    refine call_pick (hs _ _ ha) ((3 : Int)) (by unfold ob) (fun r_pick2 h_r_pick2 => ?_)
    refine x_rv (r_add (i := (2 : Int)) (j := r_pick2)) ?_
    obtain ⟨share, h_share⟩ : ∃ x : Int, x = ((2 : Int) + r_pick2) := ⟨_, rfl⟩
    rw [← h_share]
    show (_ : DS) _ [some (.ref a_), some (eI most), some (eI n), some (eI r_pick1), some ((eL (eTup (cc eI (c1 eI)))) pairs), some (eI share), none, none, none, none, none, none] _
    refine n_retX ?_
    refine x_tup ?_
    refine x_cons ?_
    refine x_ev (evd (eI n) (ev_var rfl)) ?_
    refine x_cons ?_
    refine x_cb ?_
    refine x_cons ?_
    refine x_lcN (eTup (cc eI (c1 eI))) (eTup (cc eI (c1 eI))) pairs (fun (pair : (Int × Int)) (y : (Int × Int)) => y = pair) (fun (pair : (Int × Int)) => True) ⟨_, (ei_L (e := (eTup (cc eI (c1 eI)))) (xs := pairs) (evd ((eL (eTup (cc eI (c1 eI)))) pairs) (ev_var rfl)))⟩ (by rw [h_pairs]; exact Nat.le_trans ((pairs_law n).2 (by omega)) (size_le4 (by decide))) (fun pair h_pair Q0 Z0 hq hz => ?_) (fun ys h_ys => ?_)
    · refine n_gv (show Gv _ ((eTup (cc eI (c1 eI))) pair) _ _ _ from gv_N) ?_
      refine x_b ?_
      refine x_op ?_
      refine x_op ?_
      refine x_cb ?_
      refine x_cons ?_
      refine x_ev (ev_var rfl : Ev _ _ _ (.ref a_)) ?_
      refine x_cons ?_
      refine x_ev (evd (eI share) (ev_var rfl)) ?_
      refine x_nil ?_
      refine call_pick (hs _ _ ha) (share) (by unfold ob) (fun r_pick3 h_r_pick3 => ?_)
      refine x_ev (evd (eI (0 : Int)) ev_c) ?_
      refine x_rv (r_eq (e := eI) (x := r_pick3) (y := (0 : Int)) (by decide) (peek_gd _ _) (peek_gd _ _)) ?_
      refine x_ev (evd (eB (decide (r_pick1 = (0 : Int)))) (ev_op (evd (eI r_pick1) (ev_var rfl)) (evd (eI (0 : Int)) ev_c) (r_eq (e := eI) (x := r_pick1) (y := (0 : Int)) (by decide) (peek_gd _ _) (peek_gd _ _)))) ?_
      refine x_rv (r_eq (e := eB) (x := (decide (r_pick3 = (0 : Int)))) (y := (decide (r_pick1 = (0 : Int)))) (by decide) (peek_gd _ _) (peek_gd _ _)) ?_
      refine x_asb ?_
      refine x_ite (fun hc1 => ?_) (fun hc1 => ?_)
      · skip
        refine x_ev (evd ((eTup (cc eI (c1 eI))) pair) (ev_var rfl)) ?_
        exact hq _ rfl
      · skip
        exact hz (by unfold ob)
    · skip
      refine x_nil ?_
      refine x_rc (c_tup (e := (eTup (cc eI (c1 eI)))) (xs := ys) seqL) ?_
      refine x_nil ?_
      refine x_size 2 rfl (by decide) ?_
      exact id ⟨DH, hs, hQ ((n, ys) : (Int × (List (Int × Int)))) (by have q := subE_mem h_ys; have w := (pairs_law n).2 (by omega); refine ⟨by show 2 ≤ n; omega, by show n ≤ most; omega, fun x hx => (pairs_law n).1 x (by rw [← h_pairs]; exact q.1 x hx), ?_⟩; rw [← h_pairs] at w; exact Nat.le_trans q.2 (Nat.le_trans w (by decide)))⟩
  · skip
    refine s_skip ?_
    show (_ : DS) _ [some (.ref a_), some (eI most), some (eI n), some (eI r_pick1), some ((eL (eTup (cc eI (c1 eI)))) pairs), none, none, none, none, none, none, none] _
    refine n_asgGX ?_
    refine x_tup ?_
    refine x_cons ?_
    refine x_cb ?_
    refine x_cons ?_
    refine x_ev (ev_var rfl : Ev _ _ _ (.ref a_)) ?_
    refine x_cons ?_
    refine x_ev (evd ((eL eI) (rng 0 n)) (ev_lrg1 (ev_var rfl) (by unfold ob) (by unfold ob))) ?_
    refine x_nil ?_
    refine call_mixed (hs _ _ ha) ((rng 0 n)) (seqL : seqOf _ ((eL eI) (rng 0 n)) = some (List.map eI ((rng 0 n)))) (by rw [rng_length]; omega) (fun r_mixed h_r_mixed => ?_)
    refine x_cons ?_
    refine x_newL (eTup (cc eI (c1 eI))) [] ea_nil (by decide) (fun p_found H' hn0 hp_found hf => ?_)
    have hn_p_found := dsub_none hs hn0
    have hs := dsub_fr hs hn_p_found hf
    refine x_nil ?_
    refine x_size 2 rfl (by decide) ?_
    refine n_gv (gv_T rfl (gvs_cons gv_N (gvs_cons gv_N gvs_nil))) ?_
    show (_ : DS) _ [some (.ref a_), some (eI most), some (eI n), some (eI r_pick1), some ((eL (eTup (cc eI (c1 eI)))) pairs), none, none, some ((eL eI) r_mixed), some (.ref p_found), none, none, none] _
    refine n_for eI (rng (1 : Int) n) (fun (pre : List Int) (st : ((List (Int × Int)))) => (st.length ≤ 2 * pre.length ∧ ∀ x ∈ st, LAM.RodOk n x)) ([] : List (Int × Int)) (fun (st : ((List (Int × Int)))) τ' H' => ∃ t9 t10 : Option D, τ' = [some (.ref a_), some (eI most), some (eI n), some (eI r_pick1), some ((eL (eTup (cc eI (c1 eI)))) pairs), none, none, some ((eL eI) r_mixed), some (.ref p_found), t9, t10, none] ∧ DSub DH H' ∧ H' p_found = some (.lst (st.map (eTup (cc eI (c1 eI)))))) (ei_rg2 ev_c (ev_var rfl) (by unfold ob)) (fun st τ' H' h => trivial) ⟨_, _, rfl, hs, hp_found⟩ (by unfold ob) (fun pre k post st τ' H' hx_st hi_st hst E' hrt hE => ?_) (fun st τ' H' hst hi_st => ?_)
    · obtain ⟨t9, t10, rfl, hs, hp_found⟩ := hst
      have hm_k : k ∈ (rng (1 : Int) n) := by rw [hx_st]; simp
      have hb_k := mem_rng.mp hm_k
      refine n_gv (show Gv _ (eI k) _ _ _ from gv_N) ?_
      show (_ : DS) _ [some (.ref a_), some (eI most), some (eI n), some (eI r_pick1), some ((eL (eTup (cc eI (c1 eI)))) pairs), none, none, some ((eL eI) r_mixed), some (.ref p_found), some (eI k), t10, none] _
      refine s_last ?_
      refine n_forX ?_
      refine x_sl ?_
      refine x_cb ?_
      refine x_cons ?_
      refine x_ev (ev_var rfl : Ev _ _ _ (.ref a_)) ?_
      refine x_cons ?_
      refine x_ev (evd ((eL eI) (cut r_mixed none (some k))) (ev_slL (e := eI) (xs := r_mixed) (evd ((eL eI) r_mixed) (ev_var rfl)) rfl eo_none (eo_some (ev_var rfl)))) ?_
      refine x_nil ?_
      refine call_mixed (hs _ _ ha) ((cut r_mixed none (some k))) (seqL : seqOf _ ((eL eI) (cut r_mixed none (some k))) = some (List.map eI ((cut r_mixed none (some k))))) (by rw [cut_to _ (by omega)]; refine Nat.le_trans (List.length_take_le _ _) ?_; omega) (fun r_mixed1 h_r_mixed1 => ?_)
      refine x_o eo_none ?_
      refine x_o (eo_some ev_c) ?_
      refine x_slL (e := eI) (xs := r_mixed1) rfl ?_
      refine n_for eI (cut r_mixed1 none (some (2 : Int))) (fun (pre : List Int) (st1 : ((List (Int × Int)))) => (st1.length ≤ 2 * (k - 1).toNat + pre.length ∧ ∀ x ∈ st1, LAM.RodOk n x)) st (fun (st1 : ((List (Int × Int)))) τ' H' => ∃ t10 : Option D, τ' = [some (.ref a_), some (eI most), some (eI n), some (eI r_pick1), some ((eL (eTup (cc eI (c1 eI)))) pairs), none, none, some ((eL eI) r_mixed), some (.ref p_found), some (eI k), t10, none] ∧ DSub DH H' ∧ H' p_found = some (.lst (st1.map (eTup (cc eI (c1 eI)))))) (ei_L (e := eI) (xs := (cut r_mixed1 none (some (2 : Int)))) ev_c) (fun st1 τ' H' h => trivial) ⟨_, rfl, hs, hp_found⟩ (by have := rng_at hx_st; exact ⟨by simp only [List.length_nil]; omega, hi_st.2⟩) (fun pre1 late post1 st1 τ' H' hx_st1 hi_st1 hst E_1 hrt1 hE1 => ?_) (fun st1 τ' H' hst hi_st1 => ?_)
      · obtain ⟨t10, rfl, hs, hp_found⟩ := hst
        have hm_late : late ∈ (cut r_mixed1 none (some (2 : Int))) := by rw [hx_st1]; simp
        refine n_gv (show Gv _ (eI late) _ _ _ from gv_N) ?_
        show (_ : DS) _ [some (.ref a_), some (eI most), some (eI n), some (eI r_pick1), some ((eL (eTup (cc eI (c1 eI)))) pairs), none, none, some ((eL eI) r_mixed), some (.ref p_found), some (eI k), some (eI late), none] _
        refine s_last ?_
        refine s_app (xs := st1) (v := (min (ix r_mixed k) late, max (ix r_mixed k) late)) (eTup (cc eI (c1 eI))) rfl hp_found (evd ((eTup (cc eI (c1 eI))) (min (ix r_mixed k) late, max (ix r_mixed k) late)) (ev_sort2 (ix r_mixed k) late (ev_lstK 2 (ea_cons (ev_op (evd ((eL eI) r_mixed) (ev_var rfl)) (ev_var rfl) (r_ix (e := eI) (xs := r_mixed) seqL (by have := frm_len h_r_mixed; unfold inIx; omega))) (ea_cons (ev_var rfl) ea_nil)) rfl (by decide)))) (by have b := congrArg List.length hx_st1; rw [List.length_append, List.length_cons, cut_to _ (by omega)] at b; have := List.length_take_le (2 : Int).toNat r_mixed1; have := hi_st1.1; exact Nat.lt_of_le_of_lt (show st1.length ≤ 30 by omega) (by decide)) (fun H_1 hp_ hf1 => ?_)
        have hs := dsub_fr hs hn_p_found hf1
        exact (hE1 (st1 ++ [(min (ix r_mixed k) late, max (ix r_mixed k) late)]) _ _ (by refine ⟨by simp only [List.length_append, List.length_singleton]; have := hi_st1.1; omega, app_one hi_st1.2 (frm_rod h_r_mixed h_r_mixed1 hb_k hm_late)⟩) ⟨_, rfl, hs, hp_⟩).1
      · obtain ⟨t10, rfl, hs, hp_found⟩ := hst
        exact (hE st1 _ _ (by have := rng_at hx_st; have w := hi_st1.1; rw [cut_to _ (by omega)] at w; have := List.length_take_le (2 : Int).toNat r_mixed1; exact ⟨by simp only [List.length_append, List.length_singleton]; omega, hi_st1.2⟩) ⟨_, _, rfl, hs, hp_found⟩).1
    · obtain ⟨t9, t10, rfl, hs, hp_found⟩ := hst
      show (_ : DS) _ [some (.ref a_), some (eI most), some (eI n), some (eI r_pick1), some ((eL (eTup (cc eI (c1 eI)))) pairs), none, none, some ((eL eI) r_mixed), some (.ref p_found), t9, t10, none] _
      refine n_asgX ?_
      refine x_lcN (eTup (cc eI (c1 eI))) (eTup (cc eI (c1 eI))) pairs (fun (pair1 : (Int × Int)) (y : (Int × Int)) => y = pair1) (fun (pair1 : (Int × Int)) => True) ⟨_, (ei_L (e := (eTup (cc eI (c1 eI)))) (xs := pairs) (evd ((eL (eTup (cc eI (c1 eI)))) pairs) (ev_var rfl)))⟩ (by rw [h_pairs]; exact Nat.le_trans ((pairs_law n).2 (by omega)) (size_le4 (by decide))) (fun pair1 h_pair1 Q0 Z0 hq hz => ?_) (fun ys1 h_ys1 => ?_)
      · refine n_gv (show Gv _ ((eTup (cc eI (c1 eI))) pair1) _ _ _ from gv_N) ?_
        refine x_and ?_
        refine x_evT (b := (!decide (pair1 ∈ st))) (et_b (ev_op (evd ((eTup (cc eI (c1 eI))) pair1) (ev_var rfl)) (ev_var rfl) (r_nin (e := (eTup (cc eI (c1 eI)))) (x := pair1) (xs := st) (by decide) (seqR hp_found)))) ?_
        refine x_ite (fun hc2 => ?_) (fun hc2 => ?_)
        · skip
          refine x_b ?_
          refine x_op ?_
          refine x_cb ?_
          refine x_cons ?_
          refine x_ev (ev_var rfl : Ev _ _ _ (.ref a_)) ?_
          refine x_cons ?_
          refine x_ev (evd (eI (5 : Int)) ev_c) ?_
          refine x_nil ?_
          refine call_pick (hs _ _ ha) ((5 : Int)) (by unfold ob) (fun r_pick4 h_r_pick4 => ?_)
          refine x_ev (evd (eI (0 : Int)) ev_c) ?_
          refine x_rv (r_eq (e := eI) (x := r_pick4) (y := (0 : Int)) (by decide) (peek_gd _ _) (peek_gd _ _)) ?_
          refine x_asb ?_
          refine x_ite (fun hc3 => ?_) (fun hc3 => ?_)
          · skip
            refine x_ev (evd ((eTup (cc eI (c1 eI))) pair1) (ev_var rfl)) ?_
            exact hq _ rfl
          · skip
            exact hz (by unfold ob)
        · skip
          refine x_ite (fun hf => absurd hf (by decide)) (fun _ => ?_)
          exact hz (by unfold ob)
      · skip
        show (_ : DS) _ [some (.ref a_), some (eI most), some (eI n), some (eI r_pick1), some ((eL (eTup (cc eI (c1 eI)))) pairs), none, none, some ((eL eI) r_mixed), some (.ref p_found), t9, t10, some ((eL (eTup (cc eI (c1 eI)))) ys1)] _
        refine n_newX ?_
        refine x_lcN (eTup (cc eI (c1 eI))) (eTup (cc eI (c1 eI))) st (fun (pair2 : (Int × Int)) (y : (Int × Int)) => y = pair2) (fun (pair2 : (Int × Int)) => True) ⟨_, (ei_R (e := (eTup (cc eI (c1 eI)))) (xs := st) (ev_var rfl) hp_found)⟩ (by have w := hi_st.1; rw [rng_length] at w; exact size_le4 (by omega)) (fun pair2 h_pair2 Q0 Z0 hq hz => ?_) (fun ys2 h_ys2 => ?_)
        · refine n_gv (show Gv _ ((eTup (cc eI (c1 eI))) pair2) _ _ _ from gv_N) ?_
          refine x_or ?_
          refine x_b ?_
          refine x_op ?_
          refine x_cb ?_
          refine x_cons ?_
          refine x_ev (ev_var rfl : Ev _ _ _ (.ref a_)) ?_
          refine x_cons ?_
          refine x_ev (evd (eI (8 : Int)) ev_c) ?_
          refine x_nil ?_
          refine call_pick (hs _ _ ha) ((8 : Int)) (by unfold ob) (fun r_pick5 h_r_pick5 => ?_)
          refine x_ev (evd (eI (0 : Int)) ev_c) ?_
          refine x_rv (r_gt (i := r_pick5) (j := (0 : Int))) ?_
          refine x_asb ?_
          refine x_ite (fun hc4 => ?_) (fun hc4 => ?_)
          · skip
            refine x_ite (fun _ => ?_) (fun hf => absurd hf (by decide))
            refine x_ev (evd ((eTup (cc eI (c1 eI))) pair2) (ev_var rfl)) ?_
            exact hq _ rfl
          · skip
            refine x_evT (b := (decide (r_pick1 = (2 : Int)))) (et_b (ev_op (evd (eI r_pick1) (ev_var rfl)) (evd (eI (2 : Int)) ev_c) (r_eq (e := eI) (x := r_pick1) (y := (2 : Int)) (by decide) (peek_gd _ _) (peek_gd _ _)))) ?_
            refine x_ite (fun hc5 => ?_) (fun hc5 => ?_)
            · skip
              refine x_ev (evd ((eTup (cc eI (c1 eI))) pair2) (ev_var rfl)) ?_
              exact hq _ rfl
            · skip
              exact hz (by unfold ob)
        · skip
          refine n_newK (e := (eTup (cc eI (c1 eI)))) (xs := ys2) (fun p_found1 H_2 hn01 hp_found1 hf2 => ?_)
          have hn_p_found1 := dsub_none hs hn01
          have hs := dsub_fr hs hn_p_found1 hf2
          show (_ : DS) _ [some (.ref a_), some (eI most), some (eI n), some (eI r_pick1), some ((eL (eTup (cc eI (c1 eI)))) pairs), none, none, some ((eL eI) r_mixed), some (.ref p_found1), t9, t10, some ((eL (eTup (cc eI (c1 eI)))) ys1)] _
          refine s_last ?_
          exact s_ret (evd ((eTup (cc eI (c1 (eT (eTup (cc eI (c1 eI))))))) (n, (srtP (ys2 ++ ys1)))) (ev_tupK 2 (ea_cons (evd (eI n) (ev_var rfl)) (ea_cons (evd ((eT (eTup (cc eI (c1 eI)))) (srtP (ys2 ++ ys1))) (ev_cb (ea_cons (evd ((eL (eTup (cc eI (c1 eI)))) (srtP (ys2 ++ ys1))) (ev_cb (ea_cons (evd ((eL (eTup (cc eI (c1 eI)))) (ys2 ++ ys1)) (ev_op (ev_var rfl) (evd ((eL (eTup (cc eI (c1 eI)))) ys1) (ev_var rfl)) (r_catL (e := (eTup (cc eI (c1 eI)))) (xs := ys2) (ys := ys1) (by have w := hi_st.1; rw [rng_length] at w; have := (subE_mem h_ys1).2; have := (subE_mem h_ys2).2; have := (pairs_law n).2 (by omega); rw [← h_pairs] at this; exact size_le4 (by omega)) (peekR hp_found1) rfl))) ea_nil) (c_srtP (xs := (ys2 ++ ys1)) seqL))) ea_nil) (c_tup (e := (eTup (cc eI (c1 eI)))) (xs := (srtP (ys2 ++ ys1))) seqL))) ea_nil)) rfl (by decide))) ⟨DH, hs, hQ _ (by have w := hi_st.1; rw [rng_length] at w; have q1 := subE_mem h_ys1; have q2 := subE_mem h_ys2; have q3 := pairs_law n; rw [← h_pairs] at q3; have q4 := q3.2 (by omega); refine ⟨by show 2 ≤ n; omega, by show n ≤ most; omega, fun x hx => ?_, ?_⟩ <;> skip; exact frm_mem q1.1 q2.1 q3.1 hi_st.2 hx; (show (srtP (ys2 ++ ys1)).length ≤ 200); rw [(srtP_perm _).length_eq, List.length_append]; omega)⟩

end DL

local macro_rules
  | `(tactic| unfold dd $ls*) => `(tactic| try simp only [↓DL.dVar_e, ↓DL.dC_e, ↓DL.dOp_e, ↓DL.dUn_e, ↓DL.dB_e, ↓DL.dChain_e, ↓DL.dAnd_e, ↓DL.dOr_e, ↓DL.dNot_e, ↓DL.dAndV_e, ↓DL.dOrV_e, ↓DL.dNotV_e, ↓DL.dIf_e, ↓DL.dNil_e, ↓DL.dCons_e, ↓DL.dTup_e, ↓DL.dLst_e, ↓DL.dCB_e, ↓DL.dNext_e, ↓DL.dSeq_e, ↓DL.dCont_e, ↓DL.dBreak_e, ↓DL.dDrop_e, ↓DL.dRet_e, ↓DL.dRetN_e, ↓DL.dIfS_e, ↓DL.gN_e, ↓DL.gNilD_e, ↓DL.gConsD_e, ↓DL.gT_e, ↓DL.dAsg_e, ↓DL.dPar_e, ↓DL.dPar3_e, ↓DL.dYes_e, ↓DL.dISeq_e, ↓DL.dIRg1_e, ↓DL.dIRg2_e, ↓DL.dIEnum_e, ↓DL.dIZip_e, ↓DL.rIntD_e, ↓DL.rNegD_e, ↓DL.rEq_intF, ↓DL.rEq_intT, ↓DL.rAddD_e, ↓DL.rMulD_e, ↓DL.rIxD_e, ↓DL.rI1_e, ↓DL.rI2_e, ↓DL.rIntCD_e, ↓DL.rSumD_e, ↓DL.rAllD_e, ↓DL.rIsiD_e, ↓DL.rLenD_e, ↓DL.rTupD_e, ↓DL.rLstD_e, ↓DL.rIsN_e, ↓DL.rSlD_e, ↓DL.dSl_e, ↓DL.dNoPart_e, ↓DL.dPart_e, ↓DL.dRev_e, ↓DL.dGet_e, ↓DL.dIn_e, ↓DL.dStore_e, ↓DL.dBM0_e, ↓DL.dBM_e, ↓DL.dDisp_e, ↓DL.mAppend_e, ↓DL.mPop_e, ↓DL.dNewK_e, ↓DL.dNewT_e, ↓DL.dLstM_e, ↓DL.dFrz_e, ↓DL.rReprD_e, ↓DL.rNeS_e, ↓DL.rEqS_e, ↓DL.asB_e, ↓DL.walkD_e, ↓DL.lookD_e, ↓DL.storeD_e, ↓DL.ofTy_e, ↓DL.onLst_e, DL.bodyE, DL.dstart, DL.dPairs, DL.dwipe, DL.keysOf, DL.keyD, DL.isNon, DL.peek_int, DL.peek_bl, DL.peek_non, DL.peek_str, DL.peek_tup, DL.peek_lst, DL.seqOf_tup, DL.seqOf_lst, DL.listOf_lst, DL.tyOf, DL.isTy, DL.atI0, DL.atI1, DL.atI2, DL.atI3, DL.atI4, DL.atI5, DL.dupd_same, DL.dupd_dupd, List.map_cons, List.map_nil, List.length_cons, List.length_nil, List.cons_append, List.nil_append, List.replicate_succ, List.replicate_zero, Nat.reduceAdd, Nat.reduceSub, Nat.zero_add, List.getElem?_cons_zero, List.getElem?_cons_succ, List.set_cons_zero, List.set_cons_succ, true_and, and_true, Int.toNat_natCast, if_true, if_false, Bool.false_eq_true, reduceCtorEq, ne_eq, not_false_eq_true, not_true_eq_false, decide_eq_true_eq, Bool.not_eq_true', decide_eq_false_iff_not, Option.bind_some, Option.map_some, $[$ls:term],*])
local macro_rules
  | `(tactic| unfold d2 $ls*) => `(tactic| try simp only [↓DL.dFor_e, ↓DL.dLc_e, ↓DL.dVar_e, ↓DL.dC_e, ↓DL.dOp_e, ↓DL.dUn_e, ↓DL.dB_e, ↓DL.dChain_e, ↓DL.dAnd_e, ↓DL.dOr_e, ↓DL.dNot_e, ↓DL.dAndV_e, ↓DL.dOrV_e, ↓DL.dNotV_e, ↓DL.dIf_e, ↓DL.dNil_e, ↓DL.dCons_e, ↓DL.dTup_e, ↓DL.dLst_e, ↓DL.dCB_e, ↓DL.dNext_e, ↓DL.dSeq_e, ↓DL.dCont_e, ↓DL.dBreak_e, ↓DL.dDrop_e, ↓DL.dRet_e, ↓DL.dRetN_e, ↓DL.dIfS_e, ↓DL.gN_e, ↓DL.gNilD_e, ↓DL.gConsD_e, ↓DL.gT_e, ↓DL.dAsg_e, ↓DL.dPar_e, ↓DL.dPar3_e, ↓DL.dYes_e, ↓DL.dISeq_e, ↓DL.dIRg1_e, ↓DL.dIRg2_e, ↓DL.dIEnum_e, ↓DL.dIZip_e, ↓DL.rIntD_e, ↓DL.rNegD_e, ↓DL.rEq_intF, ↓DL.rEq_intT, ↓DL.rAddD_e, ↓DL.rMulD_e, ↓DL.rIxD_e, ↓DL.rI1_e, ↓DL.rI2_e, ↓DL.rIntCD_e, ↓DL.rSumD_e, ↓DL.rAllD_e, ↓DL.rIsiD_e, ↓DL.rLenD_e, ↓DL.rTupD_e, ↓DL.rLstD_e, ↓DL.rIsN_e, ↓DL.rSlD_e, ↓DL.dSl_e, ↓DL.dNoPart_e, ↓DL.dPart_e, ↓DL.dRev_e, ↓DL.dGet_e, ↓DL.dIn_e, ↓DL.dStore_e, ↓DL.dBM0_e, ↓DL.dBM_e, ↓DL.dDisp_e, ↓DL.mAppend_e, ↓DL.mPop_e, ↓DL.dNewK_e, ↓DL.dNewT_e, ↓DL.dLstM_e, ↓DL.dFrz_e, ↓DL.rReprD_e, ↓DL.rNeS_e, ↓DL.rEqS_e, ↓DL.asB_e, ↓DL.walkD_e, ↓DL.lookD_e, ↓DL.storeD_e, ↓DL.ofTy_e, ↓DL.onLst_e, DL.bodyE, DL.dstart, DL.dPairs, DL.dwipe, DL.keysOf, DL.keyD, DL.isNon, DL.peek_int, DL.peek_bl, DL.peek_non, DL.peek_str, DL.peek_tup, DL.peek_lst, DL.seqOf_tup, DL.seqOf_lst, DL.listOf_lst, DL.tyOf, DL.isTy, DL.atI0, DL.atI1, DL.atI2, DL.atI3, DL.atI4, DL.atI5, DL.dupd_same, DL.dupd_dupd, List.map_cons, List.map_nil, List.length_cons, List.length_nil, List.cons_append, List.nil_append, List.replicate_succ, List.replicate_zero, Nat.reduceAdd, Nat.reduceSub, Nat.zero_add, List.getElem?_cons_zero, List.getElem?_cons_succ, List.set_cons_zero, List.set_cons_succ, true_and, and_true, Int.toNat_natCast, if_true, if_false, Bool.false_eq_true, reduceCtorEq, ne_eq, not_false_eq_true, not_true_eq_false, decide_eq_true_eq, Bool.not_eq_true', decide_eq_false_iff_not, Option.bind_some, Option.map_some, $[$ls:term],*])
local macro_rules
  | `(tactic| unfold d3 $ls*) => `(tactic| try simp only [↓DL.dLstRg1_e, ↓DL.dLstRg2_e, ↓DL.rSortD_e, ↓DL.rMaxL_e, ↓DL.rMinL_e, ↓DL.tell_F, ↓DL.tell_T, DL.ints_map, DL.bls_map, DL.pairs_map, ↓DL.dFor_e, ↓DL.dLc_e, ↓DL.dVar_e, ↓DL.dC_e, ↓DL.dOp_e, ↓DL.dUn_e, ↓DL.dB_e, ↓DL.dChain_e, ↓DL.dAnd_e, ↓DL.dOr_e, ↓DL.dNot_e, ↓DL.dAndV_e, ↓DL.dOrV_e, ↓DL.dNotV_e, ↓DL.dIf_e, ↓DL.dNil_e, ↓DL.dCons_e, ↓DL.dTup_e, ↓DL.dLst_e, ↓DL.dCB_e, ↓DL.dNext_e, ↓DL.dSeq_e, ↓DL.dCont_e, ↓DL.dBreak_e, ↓DL.dDrop_e, ↓DL.dRet_e, ↓DL.dRetN_e, ↓DL.dIfS_e, ↓DL.gN_e, ↓DL.gNilD_e, ↓DL.gConsD_e, ↓DL.gT_e, ↓DL.dAsg_e, ↓DL.dPar_e, ↓DL.dPar3_e, ↓DL.dYes_e, ↓DL.dISeq_e, ↓DL.dIRg1_e, ↓DL.dIRg2_e, ↓DL.dIEnum_e, ↓DL.dIZip_e, ↓DL.rIntD_e, ↓DL.rNegD_e, ↓DL.rEq_intF, ↓DL.rEq_intT, ↓DL.rAddD_e, ↓DL.rMulD_e, ↓DL.rIxD_e, ↓DL.rI1_e, ↓DL.rI2_e, ↓DL.rIntCD_e, ↓DL.rSumD_e, ↓DL.rAllD_e, ↓DL.rIsiD_e, ↓DL.rLenD_e, ↓DL.rTupD_e, ↓DL.rLstD_e, ↓DL.rIsN_e, ↓DL.rSlD_e, ↓DL.dSl_e, ↓DL.dNoPart_e, ↓DL.dPart_e, ↓DL.dRev_e, ↓DL.dGet_e, ↓DL.dIn_e, ↓DL.dStore_e, ↓DL.dBM0_e, ↓DL.dBM_e, ↓DL.dDisp_e, ↓DL.mAppend_e, ↓DL.mPop_e, ↓DL.dNewK_e, ↓DL.dNewT_e, ↓DL.dLstM_e, ↓DL.dFrz_e, ↓DL.rReprD_e, ↓DL.rNeS_e, ↓DL.rEqS_e, ↓DL.asB_e, ↓DL.walkD_e, ↓DL.lookD_e, ↓DL.storeD_e, ↓DL.ofTy_e, ↓DL.onLst_e, DL.bodyE, DL.dstart, DL.dPairs, DL.dwipe, DL.keysOf, DL.keyD, DL.isNon, DL.peek_int, DL.peek_bl, DL.peek_non, DL.peek_str, DL.peek_tup, DL.peek_lst, DL.seqOf_tup, DL.seqOf_lst, DL.listOf_lst, DL.tyOf, DL.isTy, DL.atI0, DL.atI1, DL.atI2, DL.atI3, DL.atI4, DL.atI5, DL.dupd_same, DL.dupd_dupd, List.map_cons, List.map_nil, List.length_cons, List.length_nil, List.cons_append, List.nil_append, List.replicate_succ, List.replicate_zero, Nat.reduceAdd, Nat.reduceSub, Nat.zero_add, List.getElem?_cons_zero, List.getElem?_cons_succ, List.set_cons_zero, List.set_cons_succ, true_and, and_true, Int.toNat_natCast, if_true, if_false, Bool.false_eq_true, reduceCtorEq, ne_eq, not_false_eq_true, not_true_eq_false, decide_eq_true_eq, Bool.not_eq_true', decide_eq_false_iff_not, Option.bind_some, Option.map_some, $[$ls:term],*])
local macro_rules
  | `(tactic| unfold ob) => `(tactic| first | decide | assumption | omega | exact DL.mulD_l (by omega) (by omega) | exact DL.mulD_r (by omega) (by omega) | (refine DL.size_le4 ?_; (try simp only [List.length_map, DL.rng_length, DL.enumF_length, List.length_cons, List.length_nil, List.length_append, List.length_zip]); omega) | (exact DL.size_le4 (Nat.le_trans (List.length_filter_le _ _) (by (try simp only [List.length_map, DL.rng_length, DL.enumF_length]); omega))) | (unfold DL.inIx; omega) | (unfold DL.inIx; (try simp only [List.length_map, List.length_cons, List.length_nil, List.length_append, List.length_dropLast]); omega) | (simp_all; done))
namespace DL
open PySem PySem.Spec PyProof.Rows L2 DLM
open LAM (Free Tight RodOk ins inn cnt inL greedy)
theorem inside_ins (F : List (Int × Int)) (l : List Int) : (m_law_inside F l).length = ins F (inL l) := rfl
theorem within_ins (F : List (Int × Int)) (l : List Int) : (m_rods_within_lot F l).length = ins F (inL l) := rfl
theorem is_free_law {n : Int} {F : List (Int × Int)} (ho : ∀ r ∈ F, RodOk n r) : m_law_is_free n F = true ↔ Free n F := by
  unfold m_law_is_free
  rw [decide_eq_true_eq, List.filter_eq_nil_iff, LAM.free_lots ho, lawlots_eq]
  constructor
  · intro h l hl h2
    have := h l (mem_lots.mpr ⟨hl, h2⟩)
    rw [decide_eq_true_eq] at this
    rw [← inside_ins]; omega
  · intro h l hl
    obtain ⟨hl, h2⟩ := mem_lots.mp hl
    have := h l hl h2
    rw [← inside_ins] at this
    rw [decide_eq_true_eq]; omega
theorem free_cons_lots {n : Int} {F : List (Int × Int)} {r : Int × Int} (hF : Free n F) (hr : RodOk n r) (ho : ∀ r ∈ F, RodOk n r) : Free n (r :: F) ↔ ∀ l ∈ m_lots_of_joints n, r.1 ∈ l → r.2 ∈ l → ¬ ins F (inL l) + 3 = 2 * l.length := by
  rw [LAM.free_cons hF hr]
  constructor
  · intro h l hl h1 h2 e
    obtain ⟨hl, hl2⟩ := mem_lots.mp hl
    have := h (inL l) ((LAM.tight_lot hl).mpr ⟨hl2, e⟩)
    unfold inn inL at this
    simp [h1, h2] at this
  · intro h p t
    cases q : inn p r with
    | false => rfl
    | true =>
      have a := LAM.agree_lot n p
      have t2 := LAM.tight_agree ho a t
      have hl := LAM.lotP_sub n p
      obtain ⟨c1, c2⟩ := (LAM.tight_lot hl).mp t2
      unfold inn at q
      rw [Bool.and_eq_true] at q
      obtain ⟨o1, o2, o3⟩ := hr
      refine (h _ (mem_lots.mpr ⟨hl, c1⟩) ?_ ?_ c2).elim
      · exact List.mem_filter.mpr ⟨mem_rng.mpr ⟨o1, by omega⟩, q.1⟩
      · exact List.mem_filter.mpr ⟨mem_rng.mpr ⟨by omega, o3⟩, q.2⟩
open Classical in
theorem firS_eq {n : Int} {F : List (Int × Int)} {r : Int × Int} (hF : Free n F) (hr : RodOk n r) (ho : ∀ r ∈ F, RodOk n r) : firS n F r = if r ∉ F ∧ Free n (r :: F) then F ++ [r] else F := by
  have key : ((!decide (r ∈ F) && decide (List.filter (fun lot1 => decide ((((m_law_inside F lot1).length : Nat) : Int) = 2 * (lot1.length : Int) - 3)) (List.filter (fun lot => decide (r.fst ∈ lot) && decide (r.snd ∈ lot)) (m_law_lots n)) = [])) = true) ↔ (r ∉ F ∧ Free n (r :: F)) := by
    rw [Bool.and_eq_true, Bool.not_eq_true', decide_eq_false_iff_not, decide_eq_true_eq, List.filter_eq_nil_iff, free_cons_lots hF hr ho, lawlots_eq]
    refine and_congr Iff.rfl ⟨fun h l hl h1 h2 e => ?_, fun h l hl => ?_⟩
    · have := h l (List.mem_filter.mpr ⟨hl, by simp [h1, h2]⟩)
      rw [decide_eq_true_eq, inside_ins] at this
      omega
    · rw [List.mem_filter, Bool.and_eq_true, decide_eq_true_eq, decide_eq_true_eq] at hl
      have := h l hl.1 hl.2.1 hl.2.2
      rw [decide_eq_true_eq, inside_ins]
      omega
  show (if _ then _ else _ : List (Int × Int)) = _
  by_cases c : r ∉ F ∧ Free n (r :: F)
  · rw [if_pos c, if_pos (key.mpr c)]
  · rw [if_neg c, if_neg fun h => c (key.mp h)]
theorem first_fold {n : Int} : ∀ (rods acc : List (Int × Int)), Free n acc → (∀ r ∈ acc ++ rods, RodOk n r) → List.foldl (firS n) acc rods = greedy n acc rods
  | [], acc, _, _ => rfl
  | r :: rods, acc, hF, ho => by
    rw [List.foldl_cons, firS_eq hF (ho r (by simp)) fun x hx => ho x (List.mem_append_left _ hx)]
    unfold greedy
    split
    · rename_i c
      exact first_fold rods (acc ++ [r]) (LAM.free_append_singleton.mpr c.2) fun x hx => ho x (by simpa using hx)
    · exact first_fold rods acc hF fun x hx => ho x (by
        rcases List.mem_append.mp hx with hx | hx
        · exact List.mem_append_left _ hx
        · exact List.mem_append_right _ (List.mem_cons_of_mem _ hx))
theorem cut_all {α : Type} (xs : List α) : cut xs (some 0) none = xs := by
  unfold cut
  have e : HT.sIx xs.length 0 (some 0) = 0 := (HT.sIx_nat xs.length 0 0).trans (Nat.zero_min _)
  rw [e, show HT.sIx xs.length xs.length none = xs.length from rfl, List.drop_zero, Nat.sub_zero, List.take_length]
theorem first_law {n : Int} {rods : List (Int × Int)} (ho : ∀ r ∈ rods, RodOk n r) : m_law_first n [] rods = greedy n [] rods := by
  have := first_fold (n := n) rods [] (LAM.free_nil n) (by simpa using ho)
  unfold m_law_first
  show cut (List.foldl (firS n) [] rods) (some 0) none = _
  rw [cut_all, this]
theorem taken_law {n : Int} (hn : n ≤ 12) {rods : List (Int × Int)} (ho : ∀ r ∈ rods, RodOk n r) : m_taken_freely [] rods = greedy n [] rods := by
  show LAM.taken [] rods = _
  unfold LAM.taken
  rw [show greedy 12 [] [] = [] by simp [greedy], LAM.greedy_up hn rods [] (by simpa using ho)]
  rfl
theorem up12 {n : Int} (hn : n ≤ 12) {rods : List (Int × Int)} (ho : ∀ r ∈ rods, RodOk n r) : ∀ r ∈ rods, RodOk 12 r := fun r hr => LAM.rodok_up hn (ho r hr)
theorem put_law {n : Int} (hn : n ≤ 12) {rods : List (Int × Int)} {r : Int × Int} (hF : Free n rods) (ho : ∀ r ∈ rods, RodOk n r) (hr : RodOk n r) (hm : r ∉ rods) : (m_taken_freely rods [r]).length = 1 ↔ Free n (r :: rods) := by
  have o1 : ∀ x ∈ r :: rods, RodOk n x := fun x hx => by
    rcases List.mem_cons.mp hx with rfl | hx
    · exact hr
    · exact ho x hx
  have e : greedy 12 [] rods = rods := by
    have := LAM.greedy_all (n := 12) rods [] (by simpa using (LAM.free_up hn ho).mpr hF) (by simpa using up12 hn ho)
    simpa using this
  show (LAM.taken rods [r]).length = 1 ↔ _
  unfold LAM.taken
  rw [e, LAM.greedy_one, ← LAM.free_up hn o1]
  by_cases c : Free 12 (r :: rods)
  · rw [if_pos ⟨hm, c⟩]; simp [c]
  · rw [if_neg fun h => c h.2]; simp [c]
theorem ins_drop {rods : List (Int × Int)} (hn : rods.Nodup) {r : Int × Int} (hr : r ∈ rods) {f : Int × Int → Bool} (hf : ∀ x, f x = true ↔ x ≠ r) (p : Int → Bool) : ins rods p = ins (rods.filter f) p + (if inn p r = true then 1 else 0) := by
  induction rods with
  | nil => cases hr
  | cons x xs ih =>
    obtain ⟨h1, h2⟩ := List.nodup_cons.mp hn
    by_cases e : x = r
    · subst e
      have e2 : (x :: xs).filter f = xs := by
        rw [List.filter_cons, if_neg (fun h => (hf x).mp h rfl)]
        exact List.filter_eq_self.mpr fun y hy => (hf y).mpr fun q => h1 (q ▸ hy)
      rw [e2, LAM.ins_cons]
    · have e2 : (x :: xs).filter f = x :: xs.filter f := by
        rw [List.filter_cons, if_pos ((hf x).mpr e)]
      rw [e2, LAM.ins_cons, LAM.ins_cons, ih h2 ((List.mem_cons.mp hr).resolve_left fun q => e q.symm)]
      omega
theorem snocI {α : Type} {P : List α → Prop} (h0 : P []) (h : ∀ xs x, P xs → P (xs ++ [x])) : ∀ xs, P xs := by
  intro xs
  have : ∀ ys : List α, P ys.reverse := by
    intro ys
    induction ys with
    | nil => exact h0
    | cons y ys ih => rw [List.reverse_cons]; exact h _ _ ih
  have t := this xs.reverse
  rwa [List.reverse_reverse] at t
def lfS (a b : Int) (st : Option (List Int)) (lot : List Int) : Option (List Int) := if ((decide (a ∈ lot)) && ((decide (b ∈ lot)) && (((st).isNone) || (decide ((lot.length : Int) < ((st.getD default).length : Int)))))) = true then some lot else st
theorem lfS_eq (a b : Int) (st : Option (List Int)) (lot : List Int) : lfS a b st lot = if ((decide (a ∈ lot)) && ((decide (b ∈ lot)) && (((st).isNone) || (decide ((lot.length : Int) < ((st.getD default).length : Int)))))) = true then some lot else st := rfl
theorem lf_law (a b : Int) : ∀ xs : List (List Int), (List.foldl (lfS a b) none xs = none ∧ ∀ l ∈ xs, a ∈ l → b ∈ l → False) ∨ ∃ M, List.foldl (lfS a b) none xs = some M ∧ M ∈ xs ∧ a ∈ M ∧ b ∈ M ∧ ∀ l ∈ xs, a ∈ l → b ∈ l → M.length ≤ l.length := by
  refine snocI (.inl ⟨rfl, fun l hl => by cases hl⟩) fun xs x ih => ?_
  rw [List.foldl_append, List.foldl_cons, List.foldl_nil, lfS_eq]
  by_cases ha : a ∈ x
  · by_cases hb : b ∈ x
    · rcases ih with ⟨e, h⟩ | ⟨M, e, h1, h2, h3, h4⟩
      · rw [show List.foldl (lfS a b) none xs = none from e]
        refine .inr ⟨x, by simp [ha, hb], by simp, ha, hb, fun l hl q1 q2 => ?_⟩
        rcases List.mem_append.mp hl with hl | hl
        · exact (h l hl q1 q2).elim
        · rw [List.mem_singleton.mp hl]; exact Nat.le_refl _
      · rw [show List.foldl (lfS a b) none xs = some M from e]
        by_cases hl : x.length < M.length
        · refine .inr ⟨x, by simp [ha, hb, hl], by simp, ha, hb, fun l hl2 q1 q2 => ?_⟩
          rcases List.mem_append.mp hl2 with hl2 | hl2
          · have := h4 l hl2 q1 q2; omega
          · rw [List.mem_singleton.mp hl2]; exact Nat.le_refl _
        · refine .inr ⟨M, by simp [ha, hb, hl], List.mem_append_left _ h1, h2, h3, fun l hl2 q1 q2 => ?_⟩
          rcases List.mem_append.mp hl2 with hl2 | hl2
          · exact h4 l hl2 q1 q2
          · rw [List.mem_singleton.mp hl2]; omega
    · rw [if_neg (by simp [hb])]
      rcases ih with ⟨e, h⟩ | ⟨M, e, h1, h2, h3, h4⟩
      · refine .inl ⟨e, fun l hl q1 q2 => ?_⟩
        rcases List.mem_append.mp hl with hl | hl
        · exact h l hl q1 q2
        · rw [List.mem_singleton.mp hl] at q2; exact hb q2
      · refine .inr ⟨M, e, List.mem_append_left _ h1, h2, h3, fun l hl q1 q2 => ?_⟩
        rcases List.mem_append.mp hl with hl | hl
        · exact h4 l hl q1 q2
        · rw [List.mem_singleton.mp hl] at q2; exact (hb q2).elim
  · rw [if_neg (by simp [ha])]
    rcases ih with ⟨e, h⟩ | ⟨M, e, h1, h2, h3, h4⟩
    · refine .inl ⟨e, fun l hl q1 q2 => ?_⟩
      rcases List.mem_append.mp hl with hl | hl
      · exact h l hl q1 q2
      · rw [List.mem_singleton.mp hl] at q1; exact ha q1
    · refine .inr ⟨M, e, List.mem_append_left _ h1, h2, h3, fun l hl q1 q2 => ?_⟩
      rcases List.mem_append.mp hl with hl | hl
      · exact h4 l hl q1 q2
      · rw [List.mem_singleton.mp hl] at q1; exact (ha q1).elim
theorem mem_full {n : Int} {rods : List (Int × Int)} {l : List Int} : l ∈ m_full_lots (n, rods) ↔ l.Sublist (rng 0 n) ∧ Tight n rods (inL l) := by
  have e : m_full_lots (n, rods) = (m_lots_of_joints n).filter fun lot => decide ((((m_rods_within_lot rods lot).length : Nat) : Int) = m_lot_room lot) := rfl
  rw [e, List.mem_filter, mem_lots, decide_eq_true_eq, within_ins]
  unfold m_lot_room
  constructor
  · rintro ⟨⟨h1, h2⟩, h3⟩
    exact ⟨h1, (LAM.tight_lot h1).mpr ⟨h2, by omega⟩⟩
  · rintro ⟨h1, h2⟩
    obtain ⟨c1, c2⟩ := (LAM.tight_lot h1).mp h2
    exact ⟨⟨h1, c1⟩, by omega⟩
/-- the least full lot with a pair -/
theorem least_law {n : Int} {rods : List (Int × Int)} {r : Int × Int} (hF : Free n rods) (ho : ∀ r ∈ rods, RodOk n r) (hr : RodOk n r) :
    (m_least_full_lot (n, rods) r.1 r.2 = none ∧ Free n (r :: rods)) ∨ ∃ M, m_least_full_lot (n, rods) r.1 r.2 = some M ∧ ¬ Free n (r :: rods) ∧ Tight n rods (inL M) ∧ inn (inL M) r = true ∧ ∀ p, Tight n rods p → inn p r = true → LAM.sub n (inL M) p := by
  have e : m_least_full_lot (n, rods) r.1 r.2 = List.foldl (lfS r.1 r.2) none (m_full_lots (n, rods)) := rfl
  rw [e]
  obtain ⟨o1, o2, o3⟩ := hr
  have pin : ∀ p, Tight n rods p → inn p r = true → LAM.lotP n p ∈ m_full_lots (n, rods) ∧ r.1 ∈ LAM.lotP n p ∧ r.2 ∈ LAM.lotP n p := fun p t q => by
    unfold inn at q
    rw [Bool.and_eq_true] at q
    exact ⟨mem_full.mpr ⟨LAM.lotP_sub n p, LAM.tight_agree ho (LAM.agree_lot n p) t⟩, List.mem_filter.mpr ⟨mem_rng.mpr ⟨o1, by omega⟩, q.1⟩, List.mem_filter.mpr ⟨mem_rng.mpr ⟨by omega, o3⟩, q.2⟩⟩
  rcases lf_law r.1 r.2 (m_full_lots (n, rods)) with ⟨e, h⟩ | ⟨M, e, h1, h2, h3, h4⟩
  · refine .inl ⟨e, (LAM.free_cons hF ⟨o1, o2, o3⟩).mpr fun p t => ?_⟩
    cases q : inn p r with
    | false => rfl
    | true =>
      obtain ⟨w1, w2, w3⟩ := pin p t q
      exact (h _ w1 w2 w3).elim
  · obtain ⟨s1, t1⟩ := mem_full.mp h1
    have i1 : inn (inL M) r = true := by unfold inn inL; simp [h2, h3]
    refine .inr ⟨M, e, LAM.not_free hF ⟨o1, o2, o3⟩ t1 (by simpa [inL] using h2) (by simpa [inL] using h3), t1, i1, fun p t q => ?_⟩
    have two : 2 ≤ cnt n (LAM.pand p (inL M)) := LAM.cnt_rod (r := r) ⟨o1, o2, o3⟩ (by
      unfold inn at q i1 ⊢
      unfold LAM.pand
      rw [Bool.and_eq_true] at q i1
      simp [q.1, q.2, i1.1, i1.2])
    have tj := (LAM.tight_join hF t t1 two).1
    have qj : inn (LAM.pand p (inL M)) r = true := by
      unfold inn at q i1 ⊢
      unfold LAM.pand
      rw [Bool.and_eq_true] at q i1
      simp [q.1, q.2, i1.1, i1.2]
    obtain ⟨w1, w2, w3⟩ := pin _ tj qj
    have le := h4 _ w1 w2 w3
    have c1 : (LAM.lotP n (LAM.pand p (inL M))).length = cnt n (LAM.pand p (inL M)) := rfl
    have c2 : cnt n (inL M) = M.length := LAM.cnt_inL s1
    have ag := LAM.sub_eq (n := n) (p := LAM.pand p (inL M)) (q := inL M) (fun x _ _ hx => by unfold LAM.pand at hx; rw [Bool.and_eq_true] at hx; exact hx.2) (by omega)
    intro x x0 x1 hx
    have := ag x x0 x1
    rw [hx] at this
    unfold LAM.pand at this
    rw [Bool.and_eq_true] at this
    exact this.1
theorem notf (r : Int × Int) : ∀ x : Int × Int, (!decide (x = r)) = true ↔ x ≠ r := fun x => by simp
/-- a rod is in the round of a pair just if the others are free with the pair -/
theorem drop_free {n : Int} {rods : List (Int × Int)} {pair rod : Int × Int} (hF : Free n rods) (ho : ∀ r ∈ rods, RodOk n r) (hp : RodOk n pair) (hm : rod ∈ rods) {f : Int × Int → Bool} (hf : ∀ x, f x = true ↔ x ≠ rod) {M : List Int} (t : Tight n rods (inL M)) (i : inn (inL M) pair = true) (least : ∀ p, Tight n rods p → inn p pair = true → LAM.sub n (inL M) p) :
    Free n (pair :: rods.filter f) ↔ inn (inL M) rod = true := by
  have nd := LAM.free_nodup hF ho
  have hG : Free n (rods.filter f) := LAM.free_sub List.filter_sublist hF
  have e := ins_drop nd hm hf
  rw [LAM.free_cons hG hp]
  constructor
  · intro h
    cases q : inn (inL M) rod with
    | true => rfl
    | false =>
      have := e (inL M)
      rw [q] at this
      simp only [Bool.false_eq_true, if_false, Nat.add_zero] at this
      have t2 : Tight n (rods.filter f) (inL M) := ⟨t.1, by rw [← this]; exact t.2⟩
      rw [h _ t2] at i
      cases i
  · intro h p tp
    cases q : inn p pair with
    | false => rfl
    | true =>
      have e1 := e p
      have fr := hF p tp.1
      have tp2 := tp.2
      by_cases c : inn p rod = true
      · rw [if_pos c] at e1
        omega
      · rw [if_neg c] at e1
        have sb := least p ⟨tp.1, by omega⟩ q
        obtain ⟨o1, o2, o3⟩ := ho rod hm
        unfold inn at h c
        rw [Bool.and_eq_true] at h c
        exact (c ⟨sb _ o1 (by omega) h.1, sb _ (by omega) o3 h.2⟩).elim
theorem filter_perm_eq {xs ys : List (Int × Int)} (hs : xs.Pairwise lexLe) (h : xs.Perm ys) : srtP ys = xs := sortedP_unique ((srtP_perm ys).trans h.symm) (srtP_sorted ys) hs
/-- rounds are told right -/
theorem round_law {n : Int} {rods : List (Int × Int)} {pair : Int × Int} (hF : Free n rods) (ho : ∀ r ∈ rods, RodOk n r) (hp : RodOk n pair) (hm : pair ∉ rods) {f : Int × Int → Int × Int → Bool} (hf : ∀ r x, f r x = true ↔ x ≠ r) :
    m_round_of (n, rods) pair = if m_law_is_free n (rods ++ [pair]) = true then none else some ((srtP (rods ++ [pair])).filter fun rod => m_law_is_free n ((srtP (rods ++ [pair])).filter (f rod))) := by
  have oa : ∀ r ∈ rods ++ [pair], RodOk n r := app_one ho hp
  have fr : m_law_is_free n (rods ++ [pair]) = true ↔ Free n (pair :: rods) := (is_free_law oa).trans LAM.free_append_singleton
  have e0 : m_round_of (n, rods) pair = if (m_least_full_lot (n, rods) pair.1 pair.2).isNone = true then none else some (srtP (m_rods_within_lot rods ((m_least_full_lot (n, rods) pair.1 pair.2).getD default) ++ [pair])) := rfl
  rw [e0]
  rcases least_law hF ho hp with ⟨e, h⟩ | ⟨M, e, h, t, i, least⟩
  · rw [e, if_pos (fr.mpr h)]; rfl
  · rw [e, if_neg (fun c => h (fr.mp c))]
    show some (srtP (m_rods_within_lot rods M ++ [pair])) = _
    congr 1
    have sp := srtP_perm (rods ++ [pair])
    refine filter_perm_eq (List.Pairwise.filter _ (srtP_sorted _)) ?_
    refine (sp.filter _).trans ?_
    rw [List.filter_append]
    have key : ∀ rod ∈ rods, m_law_is_free n ((srtP (rods ++ [pair])).filter (f rod)) = inn (inL M) rod := fun rod hr => by
      have ne : pair ≠ rod := fun q => hm (q ▸ hr)
      have pf : ((srtP (rods ++ [pair])).filter (f rod)).Perm (pair :: rods.filter (f rod)) := by
        refine (sp.filter _).trans ?_
        rw [List.filter_append, List.filter_cons, if_pos ((hf rod pair).mpr ne), List.filter_nil]
        exact List.perm_append_singleton _ _
      have ox : ∀ r ∈ (srtP (rods ++ [pair])).filter (f rod), RodOk n r := fun r hr => oa r (sp.mem_iff.mp (List.mem_filter.mp hr).1)
      rw [Bool.eq_iff_iff, is_free_law ox, ← drop_free hF ho hp hr (hf rod) t i least]
      exact ⟨LAM.free_perm pf, LAM.free_perm pf.symm⟩
    have last : m_law_is_free n ((srtP (rods ++ [pair])).filter (f pair)) = true := by
      have pf : ((srtP (rods ++ [pair])).filter (f pair)).Perm rods := by
        refine (sp.filter _).trans ?_
        rw [List.filter_append, List.filter_cons, if_neg (fun c => (hf pair pair).mp c rfl), List.filter_nil, List.append_nil]
        rw [List.filter_eq_self.mpr fun y hy => (hf pair y).mpr fun q => hm (q ▸ hy)]
      rw [is_free_law fun r hr => oa r (sp.mem_iff.mp (List.mem_filter.mp hr).1)]
      exact LAM.free_perm pf.symm hF
    rw [List.filter_cons, if_pos last, List.filter_nil, LAM.filter_congr key]
    exact List.Perm.refl _

end DL

local macro_rules
  | `(tactic| unfold dd $ls*) => `(tactic| try simp only [↓DL.dVar_e, ↓DL.dC_e, ↓DL.dOp_e, ↓DL.dUn_e, ↓DL.dB_e, ↓DL.dChain_e, ↓DL.dAnd_e, ↓DL.dOr_e, ↓DL.dNot_e, ↓DL.dAndV_e, ↓DL.dOrV_e, ↓DL.dNotV_e, ↓DL.dIf_e, ↓DL.dNil_e, ↓DL.dCons_e, ↓DL.dTup_e, ↓DL.dLst_e, ↓DL.dCB_e, ↓DL.dNext_e, ↓DL.dSeq_e, ↓DL.dCont_e, ↓DL.dBreak_e, ↓DL.dDrop_e, ↓DL.dRet_e, ↓DL.dRetN_e, ↓DL.dIfS_e, ↓DL.gN_e, ↓DL.gNilD_e, ↓DL.gConsD_e, ↓DL.gT_e, ↓DL.dAsg_e, ↓DL.dPar_e, ↓DL.dPar3_e, ↓DL.dYes_e, ↓DL.dISeq_e, ↓DL.dIRg1_e, ↓DL.dIRg2_e, ↓DL.dIEnum_e, ↓DL.dIZip_e, ↓DL.rIntD_e, ↓DL.rNegD_e, ↓DL.rEq_intF, ↓DL.rEq_intT, ↓DL.rAddD_e, ↓DL.rMulD_e, ↓DL.rIxD_e, ↓DL.rI1_e, ↓DL.rI2_e, ↓DL.rIntCD_e, ↓DL.rSumD_e, ↓DL.rAllD_e, ↓DL.rIsiD_e, ↓DL.rLenD_e, ↓DL.rTupD_e, ↓DL.rLstD_e, ↓DL.rIsN_e, ↓DL.rSlD_e, ↓DL.dSl_e, ↓DL.dNoPart_e, ↓DL.dPart_e, ↓DL.dRev_e, ↓DL.dGet_e, ↓DL.dIn_e, ↓DL.dStore_e, ↓DL.dBM0_e, ↓DL.dBM_e, ↓DL.dDisp_e, ↓DL.mAppend_e, ↓DL.mPop_e, ↓DL.dNewK_e, ↓DL.dNewT_e, ↓DL.dLstM_e, ↓DL.dFrz_e, ↓DL.rReprD_e, ↓DL.rNeS_e, ↓DL.rEqS_e, ↓DL.asB_e, ↓DL.walkD_e, ↓DL.lookD_e, ↓DL.storeD_e, ↓DL.ofTy_e, ↓DL.onLst_e, DL.bodyE, DL.dstart, DL.dPairs, DL.dwipe, DL.keysOf, DL.keyD, DL.isNon, DL.peek_int, DL.peek_bl, DL.peek_non, DL.peek_str, DL.peek_tup, DL.peek_lst, DL.seqOf_tup, DL.seqOf_lst, DL.listOf_lst, DL.tyOf, DL.isTy, DL.atI0, DL.atI1, DL.atI2, DL.atI3, DL.atI4, DL.atI5, DL.dupd_same, DL.dupd_dupd, List.map_cons, List.map_nil, List.length_cons, List.length_nil, List.cons_append, List.nil_append, List.replicate_succ, List.replicate_zero, Nat.reduceAdd, Nat.reduceSub, Nat.zero_add, List.getElem?_cons_zero, List.getElem?_cons_succ, List.set_cons_zero, List.set_cons_succ, true_and, and_true, Int.toNat_natCast, if_true, if_false, Bool.false_eq_true, reduceCtorEq, ne_eq, not_false_eq_true, not_true_eq_false, decide_eq_true_eq, Bool.not_eq_true', decide_eq_false_iff_not, Option.bind_some, Option.map_some, $[$ls:term],*])
local macro_rules
  | `(tactic| unfold d2 $ls*) => `(tactic| try simp only [↓DL.dFor_e, ↓DL.dLc_e, ↓DL.dVar_e, ↓DL.dC_e, ↓DL.dOp_e, ↓DL.dUn_e, ↓DL.dB_e, ↓DL.dChain_e, ↓DL.dAnd_e, ↓DL.dOr_e, ↓DL.dNot_e, ↓DL.dAndV_e, ↓DL.dOrV_e, ↓DL.dNotV_e, ↓DL.dIf_e, ↓DL.dNil_e, ↓DL.dCons_e, ↓DL.dTup_e, ↓DL.dLst_e, ↓DL.dCB_e, ↓DL.dNext_e, ↓DL.dSeq_e, ↓DL.dCont_e, ↓DL.dBreak_e, ↓DL.dDrop_e, ↓DL.dRet_e, ↓DL.dRetN_e, ↓DL.dIfS_e, ↓DL.gN_e, ↓DL.gNilD_e, ↓DL.gConsD_e, ↓DL.gT_e, ↓DL.dAsg_e, ↓DL.dPar_e, ↓DL.dPar3_e, ↓DL.dYes_e, ↓DL.dISeq_e, ↓DL.dIRg1_e, ↓DL.dIRg2_e, ↓DL.dIEnum_e, ↓DL.dIZip_e, ↓DL.rIntD_e, ↓DL.rNegD_e, ↓DL.rEq_intF, ↓DL.rEq_intT, ↓DL.rAddD_e, ↓DL.rMulD_e, ↓DL.rIxD_e, ↓DL.rI1_e, ↓DL.rI2_e, ↓DL.rIntCD_e, ↓DL.rSumD_e, ↓DL.rAllD_e, ↓DL.rIsiD_e, ↓DL.rLenD_e, ↓DL.rTupD_e, ↓DL.rLstD_e, ↓DL.rIsN_e, ↓DL.rSlD_e, ↓DL.dSl_e, ↓DL.dNoPart_e, ↓DL.dPart_e, ↓DL.dRev_e, ↓DL.dGet_e, ↓DL.dIn_e, ↓DL.dStore_e, ↓DL.dBM0_e, ↓DL.dBM_e, ↓DL.dDisp_e, ↓DL.mAppend_e, ↓DL.mPop_e, ↓DL.dNewK_e, ↓DL.dNewT_e, ↓DL.dLstM_e, ↓DL.dFrz_e, ↓DL.rReprD_e, ↓DL.rNeS_e, ↓DL.rEqS_e, ↓DL.asB_e, ↓DL.walkD_e, ↓DL.lookD_e, ↓DL.storeD_e, ↓DL.ofTy_e, ↓DL.onLst_e, DL.bodyE, DL.dstart, DL.dPairs, DL.dwipe, DL.keysOf, DL.keyD, DL.isNon, DL.peek_int, DL.peek_bl, DL.peek_non, DL.peek_str, DL.peek_tup, DL.peek_lst, DL.seqOf_tup, DL.seqOf_lst, DL.listOf_lst, DL.tyOf, DL.isTy, DL.atI0, DL.atI1, DL.atI2, DL.atI3, DL.atI4, DL.atI5, DL.dupd_same, DL.dupd_dupd, List.map_cons, List.map_nil, List.length_cons, List.length_nil, List.cons_append, List.nil_append, List.replicate_succ, List.replicate_zero, Nat.reduceAdd, Nat.reduceSub, Nat.zero_add, List.getElem?_cons_zero, List.getElem?_cons_succ, List.set_cons_zero, List.set_cons_succ, true_and, and_true, Int.toNat_natCast, if_true, if_false, Bool.false_eq_true, reduceCtorEq, ne_eq, not_false_eq_true, not_true_eq_false, decide_eq_true_eq, Bool.not_eq_true', decide_eq_false_iff_not, Option.bind_some, Option.map_some, $[$ls:term],*])
local macro_rules
  | `(tactic| unfold d3 $ls*) => `(tactic| try simp only [↓DL.dLstRg1_e, ↓DL.dLstRg2_e, ↓DL.rSortD_e, ↓DL.rMaxL_e, ↓DL.rMinL_e, ↓DL.tell_F, ↓DL.tell_T, DL.ints_map, DL.bls_map, DL.pairs_map, ↓DL.dFor_e, ↓DL.dLc_e, ↓DL.dVar_e, ↓DL.dC_e, ↓DL.dOp_e, ↓DL.dUn_e, ↓DL.dB_e, ↓DL.dChain_e, ↓DL.dAnd_e, ↓DL.dOr_e, ↓DL.dNot_e, ↓DL.dAndV_e, ↓DL.dOrV_e, ↓DL.dNotV_e, ↓DL.dIf_e, ↓DL.dNil_e, ↓DL.dCons_e, ↓DL.dTup_e, ↓DL.dLst_e, ↓DL.dCB_e, ↓DL.dNext_e, ↓DL.dSeq_e, ↓DL.dCont_e, ↓DL.dBreak_e, ↓DL.dDrop_e, ↓DL.dRet_e, ↓DL.dRetN_e, ↓DL.dIfS_e, ↓DL.gN_e, ↓DL.gNilD_e, ↓DL.gConsD_e, ↓DL.gT_e, ↓DL.dAsg_e, ↓DL.dPar_e, ↓DL.dPar3_e, ↓DL.dYes_e, ↓DL.dISeq_e, ↓DL.dIRg1_e, ↓DL.dIRg2_e, ↓DL.dIEnum_e, ↓DL.dIZip_e, ↓DL.rIntD_e, ↓DL.rNegD_e, ↓DL.rEq_intF, ↓DL.rEq_intT, ↓DL.rAddD_e, ↓DL.rMulD_e, ↓DL.rIxD_e, ↓DL.rI1_e, ↓DL.rI2_e, ↓DL.rIntCD_e, ↓DL.rSumD_e, ↓DL.rAllD_e, ↓DL.rIsiD_e, ↓DL.rLenD_e, ↓DL.rTupD_e, ↓DL.rLstD_e, ↓DL.rIsN_e, ↓DL.rSlD_e, ↓DL.dSl_e, ↓DL.dNoPart_e, ↓DL.dPart_e, ↓DL.dRev_e, ↓DL.dGet_e, ↓DL.dIn_e, ↓DL.dStore_e, ↓DL.dBM0_e, ↓DL.dBM_e, ↓DL.dDisp_e, ↓DL.mAppend_e, ↓DL.mPop_e, ↓DL.dNewK_e, ↓DL.dNewT_e, ↓DL.dLstM_e, ↓DL.dFrz_e, ↓DL.rReprD_e, ↓DL.rNeS_e, ↓DL.rEqS_e, ↓DL.asB_e, ↓DL.walkD_e, ↓DL.lookD_e, ↓DL.storeD_e, ↓DL.ofTy_e, ↓DL.onLst_e, DL.bodyE, DL.dstart, DL.dPairs, DL.dwipe, DL.keysOf, DL.keyD, DL.isNon, DL.peek_int, DL.peek_bl, DL.peek_non, DL.peek_str, DL.peek_tup, DL.peek_lst, DL.seqOf_tup, DL.seqOf_lst, DL.listOf_lst, DL.tyOf, DL.isTy, DL.atI0, DL.atI1, DL.atI2, DL.atI3, DL.atI4, DL.atI5, DL.dupd_same, DL.dupd_dupd, List.map_cons, List.map_nil, List.length_cons, List.length_nil, List.cons_append, List.nil_append, List.replicate_succ, List.replicate_zero, Nat.reduceAdd, Nat.reduceSub, Nat.zero_add, List.getElem?_cons_zero, List.getElem?_cons_succ, List.set_cons_zero, List.set_cons_succ, true_and, and_true, Int.toNat_natCast, if_true, if_false, Bool.false_eq_true, reduceCtorEq, ne_eq, not_false_eq_true, not_true_eq_false, decide_eq_true_eq, Bool.not_eq_true', decide_eq_false_iff_not, Option.bind_some, Option.map_some, $[$ls:term],*])
local macro_rules
  | `(tactic| unfold ob) => `(tactic| first | decide | assumption | omega | exact DL.mulD_l (by omega) (by omega) | exact DL.mulD_r (by omega) (by omega) | (refine DL.size_le4 ?_; (try simp only [List.length_map, DL.rng_length, DL.enumF_length, List.length_cons, List.length_nil, List.length_append, List.length_zip]); omega) | (exact DL.size_le4 (Nat.le_trans (List.length_filter_le _ _) (by (try simp only [List.length_map, DL.rng_length, DL.enumF_length]); omega))) | (unfold DL.inIx; omega) | (unfold DL.inIx; (try simp only [List.length_map, List.length_cons, List.length_nil, List.length_append, List.length_dropLast]); omega) | (simp_all; done))
namespace DL
open PySem PySem.Spec PyProof.Rows L2 DLM
open LAM (Free Tight RodOk ins inn cnt inL greedy)
theorem shw_rods {xs : List (Int × Int)} (ho : ∀ r ∈ xs, RodOk 12 r) (hl : xs.length ≤ 1000) : Shw 8 3001 2 (eT eR xs) := shw_T (m := 3) (r := 1) 1000 (fun r hr => by
  obtain ⟨a, b, c⟩ := ho r hr
  exact shw_R (k := 8) ⟨by omega, by omega⟩ ⟨by omega, by omega⟩) hl
theorem show_rods {xs : List (Int × Int)} (ho : ∀ r ∈ xs, RodOk 12 r) (hl : xs.length ≤ 1000) : showOk (eT eR xs) := (shw_rods ho hl).ok
theorem show_round {b : Bool} {xs : List (Int × Int)} (ho : ∀ r ∈ xs, RodOk 12 r) (hl : xs.length ≤ 1000) : showOk (eO (eT eR) (if b = true then none else some xs)) := (shw_O (k := 8) (m := 3001) (r := 2) (by decide) fun x hx => by
  cases b with
  | true => cases hx
  | false => cases hx; exact shw_rods ho hl).ok
theorem can_law {n : Int} (hn : n ≤ 12) {rods : List (Int × Int)} {pair : Int × Int} (hF : Free n rods) (ho : ∀ r ∈ rods, RodOk n r) (hp : RodOk n pair) (hm : pair ∉ rods) : m_can_be_put (n, rods) pair = m_law_is_free n (rods ++ [pair]) := by
  have e : m_can_be_put (n, rods) pair = decide ((((m_taken_freely rods [pair]).length : Nat) : Int) = 1) := rfl
  rw [e, Bool.eq_iff_iff, decide_eq_true_eq, is_free_law (app_one ho hp), LAM.free_append_singleton, ← put_law hn hF ho hp hm]
  omega
theorem pair_in {n : Int} {rods pre post : List (Int × Int)} {pair1 : Int × Int} (h : List.filter (fun pair => !decide (pair ∈ rods)) (m_law_pairsT n) = pre ++ pair1 :: post) : RodOk n pair1 ∧ pair1 ∉ rods := by
  have : pair1 ∈ List.filter (fun pair => !decide (pair ∈ rods)) (m_law_pairsT n) := by rw [h]; simp
  obtain ⟨a, b⟩ := List.mem_filter.mp this
  exact ⟨(pairs_law n).1 _ a, by simpa using b⟩
theorem late_in {n : Int} {rods : List (Int × Int)} {pair1 : Int × Int} (h2 : ∀ x ∈ rods, RodOk n x) (hp : RodOk n pair1) : ∀ r ∈ srtP (rods ++ [pair1]), RodOk n r := fun r hr => app_one h2 hp r ((srtP_perm _).mem_iff.mp hr)
theorem late_len {rods : List (Int × Int)} {pair1 : Int × Int} (h1 : rods.length ≤ 200) : (srtP (rods ++ [pair1])).length ≤ 201 := by
  rw [(srtP_perm _).length_eq, List.length_append, List.length_singleton]; omega
/-! ### _law_rounds_right -/
def rd_law_rounds_right : DS :=
  (dSeq (dFor (dISeq (dLc false (dISeq (dCB sp_law_pairsT (dCons (dVar 0) dNil))) (gN 2) (dB (dOp (rInD true) (dVar 2) (dVar 1))) (dVar 2) [2])) (gN 2) (dSeq (dAsg (dCB sp_law_is_free (dCons (dVar 0) (dCons (dOp rAddD (dVar 1) (dTup (dCons (dVar 2) dNil))) dNil))) (gN 3))
    (dSeq (dIfS (dB (dOp rNeS (dCB rReprD (dCons (dCB sp_can_be_put (dCons (dTup (dCons (dVar 0) (dCons (dVar 1) dNil))) (dCons (dVar 2) dNil))) dNil)) (dCB rReprD (dCons (dVar 3) dNil)))) (dRet (dC (.bl false))) dNext)
    (dSeq (dAsg (dCB rTupD (dCons (dCB (rSortX false) (dCons (dOp rAddD (dVar 1) (dTup (dCons (dVar 2) dNil))) dNil)) dNil)) (gN 4))
    (dSeq (dAsg (dLc false (dISeq (dVar 4)) (gN 6) (dB (dCB sp_law_is_free (dCons (dVar 0) (dCons (dLc false (dISeq (dVar 4)) (gN 7) (dB (dOp (rEqD true) (dVar 7) (dVar 6))) (dVar 7) [7]) dNil)))) (dVar 6) [6]) (gN 5))
    (dIfS (dB (dOp rNeS (dCB rReprD (dCons (dCB sp_round_of (dCons (dTup (dCons (dVar 0) (dCons (dVar 1) dNil))) (dCons (dVar 2) dNil))) dNil)) (dCB rReprD (dCons (dIf (dB (dVar 3)) (dC .non) (dCB rTupD (dCons (dVar 5) dNil))) dNil)))) (dRet (dC (.bl false))) dNext))))))
    (dRet (dC (.bl true))))
noncomputable def m_law_rounds_right (n : Int) (rods : (List (Int × Int))) : Bool :=
  onR (forR (fun (st : Unit) (pair1 : (Int × Int)) => (bnd ((m_law_is_free (n) ((rods ++ [pair1]))) : Bool) fun (is_one : Bool) => (if (!((rpr (eB (m_can_be_put ((n, rods)) (pair1)))) == (rpr (eB is_one)))) = true then Ctl.ret (false) else bnd ((srtP (rods ++ [pair1])) : (List (Int × Int))) fun (late : (List (Int × Int))) => bnd ((late.filter (fun (rod : (Int × Int)) => (m_law_is_free (n) ((late.filter (fun (one : (Int × Int)) => (!decide (one = rod)))))))) : (List (Int × Int))) fun (due : (List (Int × Int))) => (if (!((rpr ((eO (eT (eTup (cc eI (c1 eI))))) (m_round_of ((n, rods)) (pair1)))) == (rpr ((eO (eT (eTup (cc eI (c1 eI))))) (if is_one = true then none else (some due)))))) = true then Ctl.ret (false) else Ctl.nxt ())) : Ctl Bool Unit)) ((m_law_pairsT (n)).filter (fun (pair : (Int × Int)) => (!decide (pair ∈ rods)))) ()) (fun r => r) (fun (st : Unit) => true)
def sp_law_rounds_right : DSp := fun ds DH Q => ∃ (n : Int) (rods : (List (Int × Int))), ds = [eI n, (eT (eTup (cc eI (c1 eI)))) rods] ∧ (2 ≤ n ∧ n ≤ 9) ∧ (rods.length ≤ 200) ∧ (∀ x ∈ rods, LAM.RodOk n x) ∧ (LAM.Free n rods) ∧ Q (eB (m_law_rounds_right n rods)) DH
theorem call_law_rounds_right {DH : DHp} (n : Int) (rods : (List (Int × Int))) (h0 : 2 ≤ n ∧ n ≤ 9) (h1 : rods.length ≤ 200) (h2 : ∀ x ∈ rods, LAM.RodOk n x) (h3 : LAM.Free n rods) : RvC sp_law_rounds_right [eI n, (eT (eTup (cc eI (c1 eI)))) rods] DH (eB (m_law_rounds_right n rods)) := fun Q q => ⟨n, rods, rfl, h0, h1, h2, h3, q⟩
set_option maxHeartbeats 0 in
theorem law_rounds_right_ok {ds : List D} {DH : DHp} {Q : DK} (h : sp_law_rounds_right ds DH Q) : rd_law_rounds_right (bodyE Q) (dstart ["n", "rods", "pair", "is_one", "late", "due", "rod", "one"] ds) DH := by
  obtain ⟨n, rods, rfl, h0, h1, h2, h3, hQ⟩ := h
  replace hQ : Tk (fun r => ∀ d H', RPv eB DH r d H' → (bodyE Q).rt d H') (m_law_rounds_right n rods) := rpv hQ
  have hs := DSub.refl DH
  unfold rd_law_rounds_right
  unfold m_law_rounds_right at hQ
  show (_ : DS) _ [some (eI n), some ((eT (eTup (cc eI (c1 eI)))) rods), none, none, none, none, none, none] _
  refine s_forR (eTup (cc eI (c1 eI))) (RPv eB DH) ((m_law_pairsT (n)).filter (fun (pair : (Int × Int)) => (!decide (pair ∈ rods)))) (fun (st : Unit) (pair1 : (Int × Int)) => bnd ((m_law_is_free (n) ((rods ++ [pair1]))) : Bool) fun (is_one : Bool) => (if (!((rpr (eB (m_can_be_put ((n, rods)) (pair1)))) == (rpr (eB is_one)))) = true then Ctl.ret (false) else bnd ((srtP (rods ++ [pair1])) : (List (Int × Int))) fun (late : (List (Int × Int))) => bnd ((late.filter (fun (rod : (Int × Int)) => (m_law_is_free (n) ((late.filter (fun (one : (Int × Int)) => (!decide (one = rod)))))))) : (List (Int × Int))) fun (due : (List (Int × Int))) => (if (!((rpr ((eO (eT (eTup (cc eI (c1 eI))))) (m_round_of ((n, rods)) (pair1)))) == (rpr ((eO (eT (eTup (cc eI (c1 eI))))) (if is_one = true then none else (some due)))))) = true then Ctl.ret (false) else Ctl.nxt ()))) () (fun (st : Unit) τ' H' => ∃ t2 t3 t4 t5 : Option D, τ' = [some (eI n), some ((eT (eTup (cc eI (c1 eI)))) rods), t2, t3, t4, t5, none, none] ∧ DSub DH H') hQ (ei_L (e := (eTup (cc eI (c1 eI)))) (xs := ((m_law_pairsT (n)).filter (fun (pair : (Int × Int)) => (!decide (pair ∈ rods))))) (evd ((eL (eTup (cc eI (c1 eI)))) ((m_law_pairsT (n)).filter (fun (pair : (Int × Int)) => (!decide (pair ∈ rods))))) (ev_lcf (eTup (cc eI (c1 eI))) (m_law_pairsT (n)) (fun (pair : (Int × Int)) => (!decide (pair ∈ rods))) _ ⟨_, (ei_L (e := (eTup (cc eI (c1 eI)))) (xs := (m_law_pairsT (n))) (evd ((eL (eTup (cc eI (c1 eI)))) (m_law_pairsT (n))) (ev_cb (ea_cons (evd (eI n) (ev_var rfl)) ea_nil) (call_law_pairsT (n) (by unfold ob) (by unfold ob)))))⟩ (by exact Nat.le_trans ((pairs_law n).2 (by omega)) (size_le4 (by decide))) (fun pair => gv_N) (fun pair h_pair => (et_b (ev_op (evd ((eTup (cc eI (c1 eI))) pair) (ev_var rfl)) (evd ((eT (eTup (cc eI (c1 eI)))) rods) (ev_var rfl)) (r_nin (e := (eTup (cc eI (c1 eI)))) (x := pair) (xs := rods) (by decide) seqT)))) (fun pair h_pair hc => (evd ((eTup (cc eI (c1 eI))) pair) (ev_var rfl)))))) (fun st τ' H' h => trivial) ⟨_, _, _, _, rfl, hs⟩ (fun pre pair1 post st τ' H' hx_st hs_st hst E' hQ => ?_) (fun r d H' hrp hr hQ => ?_) (fun st τ' H' hst hs_st hQ => ?_)
  · obtain ⟨t2, t3, t4, t5, rfl, hs⟩ := hst
    have hm_pair1 : pair1 ∈ ((m_law_pairsT (n)).filter (fun (pair : (Int × Int)) => (!decide (pair ∈ rods)))) := by rw [hx_st]; simp
    refine (show Gv _ ((eTup (cc eI (c1 eI))) pair1) _ _ _ from gv_N) _ ?_
    show (_ : DS) _ [some (eI n), some ((eT (eTup (cc eI (c1 eI)))) rods), some ((eTup (cc eI (c1 eI))) pair1), t3, t4, t5, none, none] _
    refine s_asg eB hQ (evd (eB (m_law_is_free (n) ((rods ++ [pair1])))) (ev_cb (ea_cons (evd (eI n) (ev_var rfl)) (ea_cons (evd ((eT (eTup (cc eI (c1 eI)))) (rods ++ [pair1])) (ev_op (evd ((eT (eTup (cc eI (c1 eI)))) rods) (ev_var rfl)) (evd ((eT (eTup (cc eI (c1 eI)))) [pair1]) (ev_tupK 1 (ea_cons (evd ((eTup (cc eI (c1 eI))) pair1) (ev_var rfl)) ea_nil) rfl (by decide))) (r_catT (e := (eTup (cc eI (c1 eI)))) (xs := rods) (ys := [pair1]) (by unfold ob)))) ea_nil)) (call_law_is_free (n) ((rods ++ [pair1])) ((eT (eTup (cc eI (c1 eI)))) (rods ++ [pair1])) seqT (by unfold ob) (by unfold ob) (by rw [List.length_append, List.length_singleton]; omega)))) (fun is_one h_is_one hQ => ?_)
    show (_ : DS) _ [some (eI n), some ((eT (eTup (cc eI (c1 eI)))) rods), some ((eTup (cc eI (c1 eI))) pair1), some (eB is_one), t4, t5, none, none] _
    refine s_if (b := (!((rpr (eB (m_can_be_put ((n, rods)) (pair1)))) == (rpr (eB is_one))))) hQ (et_b (ev_op (ev_cb (ea_cons (evd (eB (m_can_be_put ((n, rods)) (pair1))) (ev_cb (ea_cons (evd ((eTup (cc eI (c1 (eT (eTup (cc eI (c1 eI))))))) (n, rods)) (ev_tupK 2 (ea_cons (evd (eI n) (ev_var rfl)) (ea_cons (evd ((eT (eTup (cc eI (c1 eI)))) rods) (ev_var rfl)) ea_nil)) rfl (by decide))) (ea_cons (evd ((eTup (cc eI (c1 eI))) pair1) (ev_var rfl)) ea_nil)) (call_can_be_put ((n, rods)) (pair1) (by show rods.length ≤ 900; omega) (by exact up12 (by omega) h2) (by exact LAM.rodok_up (by omega) (pair_in hx_st).1)))) ea_nil) (c_reprD (d := eB (m_can_be_put ((n, rods)) (pair1))) (by exact (shw_B (k := 8)).ok))) (ev_cb (ea_cons (evd (eB is_one) (ev_var rfl)) ea_nil) (c_reprD (d := eB is_one) (by exact (shw_B (k := 8)).ok))) r_neS)) (fun hc hQ => ?_) (fun hc hQ => ?_)
    · skip
      show (_ : DS) _ [some (eI n), some ((eT (eTup (cc eI (c1 eI)))) rods), some ((eTup (cc eI (c1 eI))) pair1), some (eB is_one), t4, t5, none, none] _
      exact s_ret (evd (eB false) ev_c) (out_ret hQ ⟨rfl, hs⟩)
    · skip
      refine s_skip ?_
      show (_ : DS) _ [some (eI n), some ((eT (eTup (cc eI (c1 eI)))) rods), some ((eTup (cc eI (c1 eI))) pair1), some (eB is_one), t4, t5, none, none] _
      refine s_asg (eT (eTup (cc eI (c1 eI)))) hQ (evd ((eT (eTup (cc eI (c1 eI)))) (srtP (rods ++ [pair1]))) (ev_cb (ea_cons (evd ((eL (eTup (cc eI (c1 eI)))) (srtP (rods ++ [pair1]))) (ev_cb (ea_cons (evd ((eT (eTup (cc eI (c1 eI)))) (rods ++ [pair1])) (ev_op (evd ((eT (eTup (cc eI (c1 eI)))) rods) (ev_var rfl)) (evd ((eT (eTup (cc eI (c1 eI)))) [pair1]) (ev_tupK 1 (ea_cons (evd ((eTup (cc eI (c1 eI))) pair1) (ev_var rfl)) ea_nil) rfl (by decide))) (r_catT (e := (eTup (cc eI (c1 eI)))) (xs := rods) (ys := [pair1]) (by unfold ob)))) ea_nil) (c_srtP (xs := (rods ++ [pair1])) seqT))) ea_nil) (c_tup (e := (eTup (cc eI (c1 eI)))) (xs := (srtP (rods ++ [pair1]))) seqL))) (fun late h_late hQ => ?_)
      show (_ : DS) _ [some (eI n), some ((eT (eTup (cc eI (c1 eI)))) rods), some ((eTup (cc eI (c1 eI))) pair1), some (eB is_one), some ((eT (eTup (cc eI (c1 eI)))) late), t5, none, none] _
      refine s_asg (eL (eTup (cc eI (c1 eI)))) hQ (evd ((eL (eTup (cc eI (c1 eI)))) (late.filter (fun (rod : (Int × Int)) => (m_law_is_free (n) ((late.filter (fun (one : (Int × Int)) => (!decide (one = rod))))))))) (ev_lcf (eTup (cc eI (c1 eI))) late (fun (rod : (Int × Int)) => (m_law_is_free (n) ((late.filter (fun (one : (Int × Int)) => (!decide (one = rod))))))) _ ⟨_, (ei_T (e := (eTup (cc eI (c1 eI)))) (xs := late) (evd ((eT (eTup (cc eI (c1 eI)))) late) (ev_var rfl)))⟩ (by rw [h_late]; exact Nat.le_trans (late_len h1) (size_le4 (by decide))) (fun rod => gv_N) (fun rod h_rod => (et_b (ev_cb (ea_cons (evd (eI n) (ev_var rfl)) (ea_cons (evd ((eL (eTup (cc eI (c1 eI)))) (late.filter (fun (one : (Int × Int)) => (!decide (one = rod))))) (ev_lcf (eTup (cc eI (c1 eI))) late (fun (one : (Int × Int)) => (!decide (one = rod))) _ ⟨_, (ei_T (e := (eTup (cc eI (c1 eI)))) (xs := late) (evd ((eT (eTup (cc eI (c1 eI)))) late) (ev_var rfl)))⟩ (by rw [h_late]; exact Nat.le_trans (late_len h1) (size_le4 (by decide))) (fun one => gv_N) (fun one h_one => (et_b (ev_op (evd ((eTup (cc eI (c1 eI))) one) (ev_var rfl)) (evd ((eTup (cc eI (c1 eI))) rod) (ev_var rfl)) (r_ne (e := (eTup (cc eI (c1 eI)))) (x := one) (y := rod) (by decide) (peek_gd _ _) (peek_gd _ _))))) (fun one h_one hc => (evd ((eTup (cc eI (c1 eI))) one) (ev_var rfl))))) ea_nil)) (call_law_is_free (n) ((late.filter (fun (one : (Int × Int)) => (!decide (one = rod))))) ((eL (eTup (cc eI (c1 eI)))) (late.filter (fun (one : (Int × Int)) => (!decide (one = rod))))) seqL (by unfold ob) (by unfold ob) (by rw [h_late]; exact Nat.le_trans (le_filter _ (late_len h1)) (by decide)))))) (fun rod h_rod hc => (evd ((eTup (cc eI (c1 eI))) rod) (ev_var rfl))))) (fun due h_due hQ => ?_)
      show (_ : DS) _ [some (eI n), some ((eT (eTup (cc eI (c1 eI)))) rods), some ((eTup (cc eI (c1 eI))) pair1), some (eB is_one), some ((eT (eTup (cc eI (c1 eI)))) late), some ((eL (eTup (cc eI (c1 eI)))) due), none, none] _
      refine s_last ?_
      refine s_if (b := (!((rpr ((eO (eT (eTup (cc eI (c1 eI))))) (m_round_of ((n, rods)) (pair1)))) == (rpr ((eO (eT (eTup (cc eI (c1 eI))))) (if is_one = true then none else (some due))))))) hQ (et_b (ev_op (ev_cb (ea_cons (evd ((eO (eT (eTup (cc eI (c1 eI))))) (m_round_of ((n, rods)) (pair1))) (ev_cb (ea_cons (evd ((eTup (cc eI (c1 (eT (eTup (cc eI (c1 eI))))))) (n, rods)) (ev_tupK 2 (ea_cons (evd (eI n) (ev_var rfl)) (ea_cons (evd ((eT (eTup (cc eI (c1 eI)))) rods) (ev_var rfl)) ea_nil)) rfl (by decide))) (ea_cons (evd ((eTup (cc eI (c1 eI))) pair1) (ev_var rfl)) ea_nil)) (call_round_of ((n, rods)) (pair1) (by unfold ob) (by show rods.length ≤ 900; omega) (by unfold ob)))) ea_nil) (c_reprD (d := (eO (eT (eTup (cc eI (c1 eI))))) (m_round_of ((n, rods)) (pair1))) (by rw [round_law h3 h2 (pair_in hx_st).1 (pair_in hx_st).2 (f := fun r x => !decide (x = r)) (fun r x => notf r x)]; exact show_round (fun r hr => LAM.rodok_up (by omega) (late_in h2 (pair_in hx_st).1 r (List.mem_filter.mp hr).1)) (le_filter _ (Nat.le_trans (late_len h1) (by decide)))))) (ev_cb (ea_cons (evd ((eO (eT (eTup (cc eI (c1 eI))))) (if is_one = true then none else (some due))) (ev_if (eO (eT (eTup (cc eI (c1 eI))))) (et_b (ev_var rfl)) (fun hc1 => (evd ((eO (eT (eTup (cc eI (c1 eI))))) none) ev_c)) (fun hc2 => (evd ((eO (eT (eTup (cc eI (c1 eI))))) (some due)) (ev_cb (ea_cons (evd ((eL (eTup (cc eI (c1 eI)))) due) (ev_var rfl)) ea_nil) (c_tup (e := (eTup (cc eI (c1 eI)))) (xs := due) seqL)))))) ea_nil) (c_reprD (d := (eO (eT (eTup (cc eI (c1 eI))))) (if is_one = true then none else (some due))) (by rw [h_due, h_late]; exact show_round (fun r hr => LAM.rodok_up (by omega) (late_in h2 (pair_in hx_st).1 r (List.mem_filter.mp hr).1)) (le_filter _ (Nat.le_trans (late_len h1) (by decide)))))) r_neS)) (fun hc3 hQ => ?_) (fun hc3 hQ => ?_)
      · skip
        show (_ : DS) _ [some (eI n), some ((eT (eTup (cc eI (c1 eI)))) rods), some ((eTup (cc eI (c1 eI))) pair1), some (eB is_one), some ((eT (eTup (cc eI (c1 eI)))) late), some ((eL (eTup (cc eI (c1 eI)))) due), none, none] _
        exact s_ret (evd (eB false) ev_c) (out_ret hQ ⟨rfl, hs⟩)
      · skip
        refine s_skip ?_
        exact out_nx hQ ⟨_, _, _, _, rfl, hs⟩
  · exact tk_rt hQ hrp
  · obtain ⟨t2, t3, t4, t5, rfl, hs⟩ := hst
    show (_ : DS) _ [some (eI n), some ((eT (eTup (cc eI (c1 eI)))) rods), t2, t3, t4, t5, none, none] _
    refine s_last ?_
    exact s_ret (evd (eB true) ev_c) (tk_rt hQ ⟨rfl, hs⟩)
theorem rounds_law {n : Int} {rods : List (Int × Int)} (hn : n ≤ 12) (h2 : ∀ x ∈ rods, RodOk n x) (h3 : Free n rods) : m_law_rounds_right n rods = true := by
  unfold m_law_rounds_right
  have f := for_by (step := fun (st : Unit) (pair1 : (Int × Int)) => (bnd (m_law_is_free (n) ((rods ++ [pair1])) : Bool) fun (is_one : Bool) => (if (!((rpr (eB (m_can_be_put ((n, rods)) (pair1)))) == (rpr (eB is_one)))) = true then Ctl.ret (false) else bnd ((srtP (rods ++ [pair1])) : (List (Int × Int))) fun (late : (List (Int × Int))) => bnd ((late.filter (fun (rod : (Int × Int)) => (m_law_is_free (n) ((late.filter (fun (one : (Int × Int)) => (!decide (one = rod)))))))) : (List (Int × Int))) fun (due : (List (Int × Int))) => (if (!((rpr ((eO (eT (eTup (cc eI (c1 eI))))) (m_round_of ((n, rods)) (pair1)))) == (rpr ((eO (eT (eTup (cc eI (c1 eI))))) (if is_one = true then none else (some due)))))) = true then Ctl.ret (false) else Ctl.nxt ())) : Ctl Bool Unit)) (fun _ _ => True) (fun _ => False) ((m_law_pairsT (n)).filter (fun (pair : (Int × Int)) => (!decide (pair ∈ rods)))) [] ((m_law_pairsT (n)).filter (fun (pair : (Int × Int)) => (!decide (pair ∈ rods)))) () rfl (fun pre x post s hx _ => by
    obtain ⟨hp, hm⟩ := pair_in hx
    have e1 := can_law hn h3 h2 hp hm
    have e2 := round_law h3 h2 hp hm (f := fun r x => !decide (x = r)) (fun r x => notf r x)
    show ctlP _ _ (if _ then _ else _ : Ctl Bool Unit)
    rw [if_neg (by rw [e1]; simp)]
    show ctlP _ _ (if _ then _ else _ : Ctl Bool Unit)
    rw [if_neg (by rw [e2]; simp)]
    trivial) trivial
  cases q : forR _ _ _ with
  | inl r => rw [q] at f; exact f.elim
  | inr s => rfl
/-! ### exchange -/
theorem grd {n : Int} {rods l : List (Int × Int)} (hp : l.Perm rods) (ho : ∀ r ∈ rods, RodOk n r) : Free n (m_law_first n [] l) ∧ (∀ r ∈ m_law_first n [] l, r ∈ rods) ∧ (m_law_first n [] l).length ≤ rods.length := by
  rw [first_law fun r hr => ho r (hp.mem_iff.mp hr)]
  obtain ⟨_, t, e, ts⟩ := LAM.greedy_sub n l []
  refine ⟨LAM.greedy_free _ _ (LAM.free_nil n), fun r hr => ?_, ?_⟩
  · rw [e, List.nil_append] at hr
    exact hp.mem_iff.mp (ts.subset hr)
  · rw [e, List.nil_append, ← hp.length_eq]
    exact ts.length_le
/-- free rods out of some -/
structure Out14 (n : Int) (rods xs : List (Int × Int)) : Prop where
  fr : Free n xs
  sub : ∀ r ∈ xs, r ∈ rods
  len : xs.length ≤ rods.length
theorem Out14.srt {n : Int} {rods xs : List (Int × Int)} (h : Out14 n rods xs) : Out14 n rods (srtP xs) := ⟨LAM.free_perm (srtP_perm _).symm h.fr, fun r hr => h.sub r ((srtP_perm _).mem_iff.mp hr), by rw [(srtP_perm _).length_eq]; exact h.len⟩
theorem Out14.cut {n : Int} {rods xs : List (Int × Int)} (h : Out14 n rods xs) {k : Int} (hk : 0 ≤ k) : Out14 n rods (cut xs none (some k)) := by
  rw [cut_to _ hk]
  exact ⟨LAM.free_sub (List.take_sublist _ _) h.fr, fun r hr => h.sub r (List.mem_of_mem_take hr), Nat.le_trans (List.length_take_le' _ _) h.len⟩
theorem out_first {n : Int} {rods l : List (Int × Int)} (hp : l.Perm rods) (ho : ∀ r ∈ rods, RodOk n r) : Out14 n rods (m_law_first n [] l) := let ⟨a, b, c⟩ := grd hp ho; ⟨a, b, c⟩
theorem exch_eq {n : Int} (hn : n ≤ 12) {rods one other : List (Int × Int)} (ho : ∀ r ∈ rods, RodOk n r) (h1 : Out14 n rods one) (h2 : Out14 n rods other) : (other.filter fun rod => !decide (rod ∈ one) && decide ((((m_taken_freely one [rod]).length : Nat) : Int) = 1)) = other.filter fun rod => !decide (rod ∈ one) && m_law_is_free n (one ++ [rod]) := by
  refine LAM.filter_congr fun r hr => ?_
  by_cases hm : r ∈ one
  · simp [hm]
  · have e := put_law hn h1.fr (fun x hx => ho x (h1.sub x hx)) (ho r (h2.sub r hr)) hm
    have e2 := is_free_law (n := n) (F := one ++ [r]) (app_one (fun x hx => ho x (h1.sub x hx)) (ho r (h2.sub r hr)))
    congr 1
    rw [Bool.eq_iff_iff, decide_eq_true_eq, e2, LAM.free_append_singleton, ← e]
    omega
theorem exch_some {n : Int} (hn : n ≤ 12) {rods one other : List (Int × Int)} (ho : ∀ r ∈ rods, RodOk n r) (h1 : Out14 n rods one) (h2 : Out14 n rods other) (hl : one.length < other.length) : ∃ r ∈ other, r ∉ one ∧ (m_taken_freely one [r]).length = 1 := by
  obtain ⟨e, he, hm, hf⟩ := LAM.augment h1.fr h2.fr (fun r hr => ho r (h1.sub r hr)) (fun r hr => ho r (h2.sub r hr)) hl
  exact ⟨e, he, hm, (put_law hn h1.fr (fun x hx => ho x (h1.sub x hx)) (ho e (h2.sub e he)) hm).mpr hf⟩
theorem exch_law {n : Int} (hn : n ≤ 12) {rods one other due : List (Int × Int)} (ho : ∀ r ∈ rods, RodOk n r) (h1 : Out14 n rods one) (h2 : Out14 n rods other) (hl : one.length < other.length) (hd : due = other.filter fun rod => !decide (rod ∈ one) && m_law_is_free n (one ++ [rod])) : due ≠ [] ∧ m_exchanged_rod (n, rods) one other = ix due 0 ∧ ∀ r ∈ due, r ∈ rods := by
  have e : m_exchanged_rod (n, rods) one other = ix (other.filter fun rod => !decide (rod ∈ one) && decide ((((m_taken_freely one [rod]).length : Nat) : Int) = 1)) 0 := rfl
  rw [e, exch_eq hn ho h1 h2, ← hd]
  refine ⟨fun c => ?_, rfl, fun r hr => ?_⟩
  · obtain ⟨r, hr, hm, ht⟩ := exch_some hn ho h1 h2 hl
    rw [← exch_eq hn ho h1 h2] at hd
    have : r ∈ due := by rw [hd, List.mem_filter]; exact ⟨hr, by simp [hm, ht]⟩
    rw [c] at this
    cases this
  · rw [hd] at hr
    exact h2.sub r (List.mem_filter.mp hr).1
theorem show_rod {r : Int × Int} (h : RodOk 12 r) : showOk (eR r) := by
  obtain ⟨a, b, c⟩ := h
  exact (shw_R (k := 8) ⟨by omega, by omega⟩ ⟨by omega, by omega⟩).ok
theorem ix0_in {xs : List (Int × Int)} (h : xs ≠ []) : ix xs 0 ∈ xs := by
  cases xs with
  | nil => exact (h rfl).elim
  | cons x xs => rw [ix_nat (k := 0) (Int.le_refl 0) (by simp)]; simp
/-! ### _law_exchange_right -/
def rd_law_exchange_right : DS :=
  (dSeq (dAsg (dCB sp_law_first (dCons (dVar 1) (dCons (dTup dNil) (dCons (dCB sp_law_mixed (dCons (dVar 0) (dCons (dVar 2) dNil))) dNil)))) (gN 3))
    (dSeq (dAsg (dCB rTupD (dCons (dCB (rSortX false) (dCons (dSl (rSlD false) (dVar 3) dNoPart (dPart (dCB sp_law_pick (dCons (dVar 0) (dCons (dOp rAddD (dCB rLenD (dCons (dVar 3) dNil)) (dC (.int 1))) dNil))))) dNil)) dNil)) (gN 3))
    (dSeq (dAsg (dCB rTupD (dCons (dCB (rSortX false) (dCons (dCB sp_law_first (dCons (dVar 1) (dCons (dTup dNil) (dCons (dCB sp_law_mixed (dCons (dVar 0) (dCons (dVar 2) dNil))) dNil)))) dNil)) dNil)) (gN 4))
    (dSeq (dIfS (dB (dOp (rIntD (fun _ _ => True) fun i j => .bl (decide (j ≤ i))) (dCB rLenD (dCons (dVar 3) dNil)) (dCB rLenD (dCons (dVar 4) dNil)))) (dRet (dC (.bl true))) dNext)
    (dSeq (dAsg (dLc false (dISeq (dVar 4)) (gN 6) (dAnd (dB (dOp (rInD true) (dVar 6) (dVar 3))) (dB (dCB sp_law_is_free (dCons (dVar 1) (dCons (dOp rAddD (dVar 3) (dTup (dCons (dVar 6) dNil))) dNil))))) (dVar 6) [6]) (gN 5))
    (dRet (dAndV (dOp (rEqD true) (dVar 5) (dLst dNil)) (dOp rEqS (dCB rReprD (dCons (dCB sp_exchanged_rod (dCons (dTup (dCons (dVar 1) (dCons (dVar 2) dNil))) (dCons (dVar 3) (dCons (dVar 4) dNil)))) dNil)) (dCB rReprD (dCons (dOp rIxD (dVar 5) (dC (.int 0))) dNil))))))))))
def sp_law_exchange_right : DSp := fun ds DH Q => ∃ (a_ : Addr) (n : Int) (rods : (List (Int × Int))), ds = [.ref a_, eI n, (eT (eTup (cc eI (c1 eI)))) rods] ∧ (DH a_ = some .src) ∧ (2 ≤ n ∧ n ≤ 9) ∧ (rods.length ≤ 200) ∧ (∀ x ∈ rods, LAM.RodOk n x) ∧ (∀ r : Bool, r = true → Q (eB r) DH)
theorem call_law_exchange_right {H : DHp} {K : DK} {a_ : Addr} (ha : H a_ = some .src) (n : Int) (rods : (List (Int × Int))) (h0 : 2 ≤ n ∧ n ≤ 9) (h1 : rods.length ≤ 200) (h2 : ∀ x ∈ rods, LAM.RodOk n x) (k : ∀ r : Bool, r = true → K (eB r) H) : sp_law_exchange_right [.ref a_, eI n, (eT (eTup (cc eI (c1 eI)))) rods] H K := ⟨a_, n, rods, rfl, ha, h0, h1, h2, k⟩
set_option maxHeartbeats 0 in
theorem law_exchange_right_ok {ds : List D} {DH : DHp} {Q : DK} (h : sp_law_exchange_right ds DH Q) : rd_law_exchange_right (bodyE Q) (dstart ["source", "n", "rods", "one", "other", "due", "rod"] ds) DH := by
  obtain ⟨a_, n, rods, rfl, ha, h0, h1, h2, hQ⟩ := h
  have hs := DSub.refl DH
  unfold rd_law_exchange_right
  show (_ : DS) _ [some (.ref a_), some (eI n), some ((eT (eTup (cc eI (c1 eI)))) rods), none, none, none, none] _
  refine n_asgX ?_
  refine x_cb ?_
  refine x_cons ?_
  refine x_ev (evd (eI n) (ev_var rfl)) ?_
  refine x_cons ?_
  refine x_ev (evd ((eT (eTup (cc eI (c1 eI)))) ([] : List (Int × Int))) (ev_tupK 0 ea_nil rfl (by decide))) ?_
  refine x_cons ?_
  refine x_cb ?_
  refine x_cons ?_
  refine x_ev (ev_var rfl : Ev _ _ _ (.ref a_)) ?_
  refine x_cons ?_
  refine x_ev (evd ((eT (eTup (cc eI (c1 eI)))) rods) (ev_var rfl)) ?_
  refine x_nil ?_
  refine call_mixed (hs _ _ ha) (rods) (seqT : seqOf _ ((eT (eTup (cc eI (c1 eI)))) rods) = some (List.map (eTup (cc eI (c1 eI))) (rods))) (by unfold ob) (fun r_mixed h_r_mixed => ?_)
  refine x_nil ?_
  refine x_rc (call_law_first (n) (([] : List (Int × Int))) (r_mixed) ((eL (eTup (cc eI (c1 eI)))) r_mixed) (seqL) (by unfold ob) (by unfold ob) (by have := h_r_mixed.length_eq; simp only [List.length_nil]; omega)) ?_
  obtain ⟨one, h_one⟩ : ∃ x : (List (Int × Int)), x = (m_law_first (n) (([] : List (Int × Int))) (r_mixed)) := ⟨_, rfl⟩
  rw [← h_one]
  show (_ : DS) _ [some (.ref a_), some (eI n), some ((eT (eTup (cc eI (c1 eI)))) rods), some ((eL (eTup (cc eI (c1 eI)))) one), none, none, none] _
  refine n_asgX ?_
  refine x_cb ?_
  refine x_cons ?_
  refine x_cb ?_
  refine x_cons ?_
  refine x_sl ?_
  refine x_ev (evd ((eL (eTup (cc eI (c1 eI)))) one) (ev_var rfl)) ?_
  refine x_o eo_none ?_
  refine x_part ?_
  refine x_cb ?_
  refine x_cons ?_
  refine x_ev (ev_var rfl : Ev _ _ _ (.ref a_)) ?_
  refine x_cons ?_
  refine x_ev (evd (eI ((one.length : Int) + (1 : Int))) (ev_op (ev_cb (ea_cons (evd ((eL (eTup (cc eI (c1 eI)))) one) (ev_var rfl)) ea_nil) (c_len (e := (eTup (cc eI (c1 eI)))) (xs := one) seqL)) ev_c r_add)) ?_
  refine x_nil ?_
  refine call_pick (hs _ _ ha) (((one.length : Int) + (1 : Int))) (by have := (out_first h_r_mixed h2).len; rw [← h_one] at this; omega) (fun r_pick h_r_pick => ?_)
  refine x_slL (e := (eTup (cc eI (c1 eI)))) (xs := one) rfl ?_
  refine x_nil ?_
  refine x_rc (c_srtP (xs := (cut one none (some r_pick))) seqL) ?_
  refine x_nil ?_
  refine x_rc (c_tup (e := (eTup (cc eI (c1 eI)))) (xs := (srtP (cut one none (some r_pick)))) seqL) ?_
  obtain ⟨one1, h_one1⟩ : ∃ x : (List (Int × Int)), x = (srtP (cut one none (some r_pick))) := ⟨_, rfl⟩
  rw [← h_one1]
  show (_ : DS) _ [some (.ref a_), some (eI n), some ((eT (eTup (cc eI (c1 eI)))) rods), some ((eT (eTup (cc eI (c1 eI)))) one1), none, none, none] _
  refine n_asgX ?_
  refine x_cb ?_
  refine x_cons ?_
  refine x_cb ?_
  refine x_cons ?_
  refine x_cb ?_
  refine x_cons ?_
  refine x_ev (evd (eI n) (ev_var rfl)) ?_
  refine x_cons ?_
  refine x_ev (evd ((eT (eTup (cc eI (c1 eI)))) ([] : List (Int × Int))) (ev_tupK 0 ea_nil rfl (by decide))) ?_
  refine x_cons ?_
  refine x_cb ?_
  refine x_cons ?_
  refine x_ev (ev_var rfl : Ev _ _ _ (.ref a_)) ?_
  refine x_cons ?_
  refine x_ev (evd ((eT (eTup (cc eI (c1 eI)))) rods) (ev_var rfl)) ?_
  refine x_nil ?_
  refine call_mixed (hs _ _ ha) (rods) (seqT : seqOf _ ((eT (eTup (cc eI (c1 eI)))) rods) = some (List.map (eTup (cc eI (c1 eI))) (rods))) (by unfold ob) (fun r_mixed1 h_r_mixed1 => ?_)
  refine x_nil ?_
  refine x_rc (call_law_first (n) (([] : List (Int × Int))) (r_mixed1) ((eL (eTup (cc eI (c1 eI)))) r_mixed1) (seqL) (by unfold ob) (by unfold ob) (by have := h_r_mixed1.length_eq; simp only [List.length_nil]; omega)) ?_
  refine x_nil ?_
  refine x_rc (c_srtP (xs := (m_law_first (n) (([] : List (Int × Int))) (r_mixed1))) seqL) ?_
  refine x_nil ?_
  refine x_rc (c_tup (e := (eTup (cc eI (c1 eI)))) (xs := (srtP (m_law_first (n) (([] : List (Int × Int))) (r_mixed1)))) seqL) ?_
  obtain ⟨other, h_other⟩ : ∃ x : (List (Int × Int)), x = (srtP (m_law_first (n) (([] : List (Int × Int))) (r_mixed1))) := ⟨_, rfl⟩
  rw [← h_other]
  show (_ : DS) _ [some (.ref a_), some (eI n), some ((eT (eTup (cc eI (c1 eI)))) rods), some ((eT (eTup (cc eI (c1 eI)))) one1), some ((eT (eTup (cc eI (c1 eI)))) other), none, none] _
  refine n_if (b := (decide ((other.length : Int) ≤ (one1.length : Int)))) (et_b (ev_op (ev_cb (ea_cons (evd ((eT (eTup (cc eI (c1 eI)))) one1) (ev_var rfl)) ea_nil) (c_len (e := (eTup (cc eI (c1 eI)))) (xs := one1) seqT)) (ev_cb (ea_cons (evd ((eT (eTup (cc eI (c1 eI)))) other) (ev_var rfl)) ea_nil) (c_len (e := (eTup (cc eI (c1 eI)))) (xs := other) seqT)) r_ge)) (fun hc => ?_) (fun hc => ?_)
  · skip
    show (_ : DS) _ [some (.ref a_), some (eI n), some ((eT (eTup (cc eI (c1 eI)))) rods), some ((eT (eTup (cc eI (c1 eI)))) one1), some ((eT (eTup (cc eI (c1 eI)))) other), none, none] _
    exact s_ret (evd (eB true) ev_c) ⟨DH, hs, hQ _ (by unfold ob)⟩
  · skip
    refine s_skip ?_
    show (_ : DS) _ [some (.ref a_), some (eI n), some ((eT (eTup (cc eI (c1 eI)))) rods), some ((eT (eTup (cc eI (c1 eI)))) one1), some ((eT (eTup (cc eI (c1 eI)))) other), none, none] _
    refine n_asg (eL (eTup (cc eI (c1 eI)))) (evd ((eL (eTup (cc eI (c1 eI)))) (other.filter (fun (rod : (Int × Int)) => ((!decide (rod ∈ one1)) && (m_law_is_free (n) ((one1 ++ [rod]))))))) (ev_lcf (eTup (cc eI (c1 eI))) other (fun (rod : (Int × Int)) => ((!decide (rod ∈ one1)) && (m_law_is_free (n) ((one1 ++ [rod]))))) _ ⟨_, (ei_T (e := (eTup (cc eI (c1 eI)))) (xs := other) (evd ((eT (eTup (cc eI (c1 eI)))) other) (ev_var rfl)))⟩ (by have o2 := (out_first h_r_mixed1 h2).srt; rw [← h_other] at o2; have := o2.len; exact size_le4 (by omega)) (fun rod => gv_N) (fun rod h_rod => (et_and (et_b (ev_op (evd ((eTup (cc eI (c1 eI))) rod) (ev_var rfl)) (evd ((eT (eTup (cc eI (c1 eI)))) one1) (ev_var rfl)) (r_nin (e := (eTup (cc eI (c1 eI)))) (x := rod) (xs := one1) (by decide) seqT))) (fun hc1 => (et_b (ev_cb (ea_cons (evd (eI n) (ev_var rfl)) (ea_cons (evd ((eT (eTup (cc eI (c1 eI)))) (one1 ++ [rod])) (ev_op (evd ((eT (eTup (cc eI (c1 eI)))) one1) (ev_var rfl)) (evd ((eT (eTup (cc eI (c1 eI)))) [rod]) (ev_tupK 1 (ea_cons (evd ((eTup (cc eI (c1 eI))) rod) (ev_var rfl)) ea_nil) rfl (by decide))) (r_catT (e := (eTup (cc eI (c1 eI)))) (xs := one1) (ys := [rod]) (by have o1 := ((out_first h_r_mixed h2).cut h_r_pick.1).srt; rw [← h_one, ← h_one1] at o1; have := o1.len; exact size_le4 (by simp only [List.length_singleton]; omega))))) ea_nil)) (call_law_is_free (n) ((one1 ++ [rod])) ((eT (eTup (cc eI (c1 eI)))) (one1 ++ [rod])) seqT (by unfold ob) (by unfold ob) (by have o1 := ((out_first h_r_mixed h2).cut h_r_pick.1).srt; rw [← h_one, ← h_one1] at o1; have := o1.len; rw [List.length_append, List.length_singleton]; omega))))))) (fun rod h_rod hc => (evd ((eTup (cc eI (c1 eI))) rod) (ev_var rfl))))) (fun due h_due => ?_)
    show (_ : DS) _ [some (.ref a_), some (eI n), some ((eT (eTup (cc eI (c1 eI)))) rods), some ((eT (eTup (cc eI (c1 eI)))) one1), some ((eT (eTup (cc eI (c1 eI)))) other), some ((eL (eTup (cc eI (c1 eI)))) due), none] _
    refine s_last ?_
    exact s_ret (evd (eB ((!decide (due = ([] : List (Int × Int)))) && (((rpr ((eTup (cc eI (c1 eI))) (m_exchanged_rod ((n, rods)) (one1) (other)))) == (rpr ((eTup (cc eI (c1 eI))) (ix due (0 : Int)))))))) (ev_andV (ev_op (evd ((eL (eTup (cc eI (c1 eI)))) due) (ev_var rfl)) (evd ((eL (eTup (cc eI (c1 eI)))) ([] : List (Int × Int))) (ev_lstK 0 ea_nil rfl (by decide))) (r_ne (e := (eL (eTup (cc eI (c1 eI))))) (x := due) (y := ([] : List (Int × Int))) (by decide) (peek_gd _ _) (peek_gd _ _))) (fun hc2 => (ev_op (ev_cb (ea_cons (evd ((eTup (cc eI (c1 eI))) (m_exchanged_rod ((n, rods)) (one1) (other))) (ev_cb (ea_cons (evd ((eTup (cc eI (c1 (eT (eTup (cc eI (c1 eI))))))) (n, rods)) (ev_tupK 2 (ea_cons (evd (eI n) (ev_var rfl)) (ea_cons (evd ((eT (eTup (cc eI (c1 eI)))) rods) (ev_var rfl)) ea_nil)) rfl (by decide))) (ea_cons (evd ((eT (eTup (cc eI (c1 eI)))) one1) (ev_var rfl)) (ea_cons (evd ((eT (eTup (cc eI (c1 eI)))) other) (ev_var rfl)) ea_nil))) (call_exchanged_rod ((n, rods)) (one1) (other) (by have o1 := ((out_first h_r_mixed h2).cut h_r_pick.1).srt; rw [← h_one, ← h_one1] at o1; have o2 := (out_first h_r_mixed1 h2).srt; rw [← h_other] at o2; have := o1.len; have := o2.len; omega) (by have o1 := ((out_first h_r_mixed h2).cut h_r_pick.1).srt; rw [← h_one, ← h_one1] at o1; have o2 := (out_first h_r_mixed1 h2).srt; rw [← h_other] at o2; exact fun r hr => LAM.rodok_up (by omega) (h2 r ((List.mem_append.mp hr).elim (o1.sub r) (o2.sub r)))) (by have o1 := ((out_first h_r_mixed h2).cut h_r_pick.1).srt; rw [← h_one, ← h_one1] at o1; have o2 := (out_first h_r_mixed1 h2).srt; rw [← h_other] at o2; exact exch_some (by omega) h2 o1 o2 (by rw [decide_eq_false_iff_not] at hc; omega))))) ea_nil) (c_reprD (d := (eTup (cc eI (c1 eI))) (m_exchanged_rod ((n, rods)) (one1) (other))) (by have o1 := ((out_first h_r_mixed h2).cut h_r_pick.1).srt; rw [← h_one, ← h_one1] at o1; have o2 := (out_first h_r_mixed1 h2).srt; rw [← h_other] at o2; obtain ⟨a, b, c⟩ := exch_law (by omega) h2 o1 o2 (by rw [decide_eq_false_iff_not] at hc; omega) h_due; rw [b]; exact show_rod (LAM.rodok_up (by omega) (h2 _ (c _ (ix0_in a))))))) (ev_cb (ea_cons (evd ((eTup (cc eI (c1 eI))) (ix due (0 : Int))) (ev_op (evd ((eL (eTup (cc eI (c1 eI)))) due) (ev_var rfl)) ev_c (r_ix (e := (eTup (cc eI (c1 eI)))) (xs := due) seqL (by have a : due ≠ [] := by { simpa using hc2 }; have := List.length_pos_of_mem (ix0_in a); unfold inIx; omega)))) ea_nil) (c_reprD (d := (eTup (cc eI (c1 eI))) (ix due (0 : Int))) (by have o1 := ((out_first h_r_mixed h2).cut h_r_pick.1).srt; rw [← h_one, ← h_one1] at o1; have o2 := (out_first h_r_mixed1 h2).srt; rw [← h_other] at o2; obtain ⟨a, b, c⟩ := exch_law (by omega) h2 o1 o2 (by rw [decide_eq_false_iff_not] at hc; omega) h_due; exact show_rod (LAM.rodok_up (by omega) (h2 _ (c _ (ix0_in a))))))) r_eqS)))) ⟨DH, hs, hQ _ (by have o1 := ((out_first h_r_mixed h2).cut h_r_pick.1).srt; rw [← h_one, ← h_one1] at o1; have o2 := (out_first h_r_mixed1 h2).srt; rw [← h_other] at o2; obtain ⟨a, b, c⟩ := exch_law (by omega) h2 o1 o2 (by rw [decide_eq_false_iff_not] at hc; omega) h_due; rw [b]; simp [a])⟩

end DL

local macro_rules
  | `(tactic| unfold dd $ls*) => `(tactic| try simp only [↓DL.dVar_e, ↓DL.dC_e, ↓DL.dOp_e, ↓DL.dUn_e, ↓DL.dB_e, ↓DL.dChain_e, ↓DL.dAnd_e, ↓DL.dOr_e, ↓DL.dNot_e, ↓DL.dAndV_e, ↓DL.dOrV_e, ↓DL.dNotV_e, ↓DL.dIf_e, ↓DL.dNil_e, ↓DL.dCons_e, ↓DL.dTup_e, ↓DL.dLst_e, ↓DL.dCB_e, ↓DL.dNext_e, ↓DL.dSeq_e, ↓DL.dCont_e, ↓DL.dBreak_e, ↓DL.dDrop_e, ↓DL.dRet_e, ↓DL.dRetN_e, ↓DL.dIfS_e, ↓DL.gN_e, ↓DL.gNilD_e, ↓DL.gConsD_e, ↓DL.gT_e, ↓DL.dAsg_e, ↓DL.dPar_e, ↓DL.dPar3_e, ↓DL.dYes_e, ↓DL.dISeq_e, ↓DL.dIRg1_e, ↓DL.dIRg2_e, ↓DL.dIEnum_e, ↓DL.dIZip_e, ↓DL.rIntD_e, ↓DL.rNegD_e, ↓DL.rEq_intF, ↓DL.rEq_intT, ↓DL.rAddD_e, ↓DL.rMulD_e, ↓DL.rIxD_e, ↓DL.rI1_e, ↓DL.rI2_e, ↓DL.rIntCD_e, ↓DL.rSumD_e, ↓DL.rAllD_e, ↓DL.rIsiD_e, ↓DL.rLenD_e, ↓DL.rTupD_e, ↓DL.rLstD_e, ↓DL.rIsN_e, ↓DL.rSlD_e, ↓DL.dSl_e, ↓DL.dNoPart_e, ↓DL.dPart_e, ↓DL.dRev_e, ↓DL.dGet_e, ↓DL.dIn_e, ↓DL.dStore_e, ↓DL.dBM0_e, ↓DL.dBM_e, ↓DL.dDisp_e, ↓DL.mAppend_e, ↓DL.mPop_e, ↓DL.dNewK_e, ↓DL.dNewT_e, ↓DL.dLstM_e, ↓DL.dFrz_e, ↓DL.rReprD_e, ↓DL.rNeS_e, ↓DL.rEqS_e, ↓DL.asB_e, ↓DL.walkD_e, ↓DL.lookD_e, ↓DL.storeD_e, ↓DL.ofTy_e, ↓DL.onLst_e, DL.bodyE, DL.dstart, DL.dPairs, DL.dwipe, DL.keysOf, DL.keyD, DL.isNon, DL.peek_int, DL.peek_bl, DL.peek_non, DL.peek_str, DL.peek_tup, DL.peek_lst, DL.seqOf_tup, DL.seqOf_lst, DL.listOf_lst, DL.tyOf, DL.isTy, DL.atI0, DL.atI1, DL.atI2, DL.atI3, DL.atI4, DL.atI5, DL.dupd_same, DL.dupd_dupd, List.map_cons, List.map_nil, List.length_cons, List.length_nil, List.cons_append, List.nil_append, List.replicate_succ, List.replicate_zero, Nat.reduceAdd, Nat.reduceSub, Nat.zero_add, List.getElem?_cons_zero, List.getElem?_cons_succ, List.set_cons_zero, List.set_cons_succ, true_and, and_true, Int.toNat_natCast, if_true, if_false, Bool.false_eq_true, reduceCtorEq, ne_eq, not_false_eq_true, not_true_eq_false, decide_eq_true_eq, Bool.not_eq_true', decide_eq_false_iff_not, Option.bind_some, Option.map_some, $[$ls:term],*])
local macro_rules
  | `(tactic| unfold d2 $ls*) => `(tactic| try simp only [↓DL.dFor_e, ↓DL.dLc_e, ↓DL.dVar_e, ↓DL.dC_e, ↓DL.dOp_e, ↓DL.dUn_e, ↓DL.dB_e, ↓DL.dChain_e, ↓DL.dAnd_e, ↓DL.dOr_e, ↓DL.dNot_e, ↓DL.dAndV_e, ↓DL.dOrV_e, ↓DL.dNotV_e, ↓DL.dIf_e, ↓DL.dNil_e, ↓DL.dCons_e, ↓DL.dTup_e, ↓DL.dLst_e, ↓DL.dCB_e, ↓DL.dNext_e, ↓DL.dSeq_e, ↓DL.dCont_e, ↓DL.dBreak_e, ↓DL.dDrop_e, ↓DL.dRet_e, ↓DL.dRetN_e, ↓DL.dIfS_e, ↓DL.gN_e, ↓DL.gNilD_e, ↓DL.gConsD_e, ↓DL.gT_e, ↓DL.dAsg_e, ↓DL.dPar_e, ↓DL.dPar3_e, ↓DL.dYes_e, ↓DL.dISeq_e, ↓DL.dIRg1_e, ↓DL.dIRg2_e, ↓DL.dIEnum_e, ↓DL.dIZip_e, ↓DL.rIntD_e, ↓DL.rNegD_e, ↓DL.rEq_intF, ↓DL.rEq_intT, ↓DL.rAddD_e, ↓DL.rMulD_e, ↓DL.rIxD_e, ↓DL.rI1_e, ↓DL.rI2_e, ↓DL.rIntCD_e, ↓DL.rSumD_e, ↓DL.rAllD_e, ↓DL.rIsiD_e, ↓DL.rLenD_e, ↓DL.rTupD_e, ↓DL.rLstD_e, ↓DL.rIsN_e, ↓DL.rSlD_e, ↓DL.dSl_e, ↓DL.dNoPart_e, ↓DL.dPart_e, ↓DL.dRev_e, ↓DL.dGet_e, ↓DL.dIn_e, ↓DL.dStore_e, ↓DL.dBM0_e, ↓DL.dBM_e, ↓DL.dDisp_e, ↓DL.mAppend_e, ↓DL.mPop_e, ↓DL.dNewK_e, ↓DL.dNewT_e, ↓DL.dLstM_e, ↓DL.dFrz_e, ↓DL.rReprD_e, ↓DL.rNeS_e, ↓DL.rEqS_e, ↓DL.asB_e, ↓DL.walkD_e, ↓DL.lookD_e, ↓DL.storeD_e, ↓DL.ofTy_e, ↓DL.onLst_e, DL.bodyE, DL.dstart, DL.dPairs, DL.dwipe, DL.keysOf, DL.keyD, DL.isNon, DL.peek_int, DL.peek_bl, DL.peek_non, DL.peek_str, DL.peek_tup, DL.peek_lst, DL.seqOf_tup, DL.seqOf_lst, DL.listOf_lst, DL.tyOf, DL.isTy, DL.atI0, DL.atI1, DL.atI2, DL.atI3, DL.atI4, DL.atI5, DL.dupd_same, DL.dupd_dupd, List.map_cons, List.map_nil, List.length_cons, List.length_nil, List.cons_append, List.nil_append, List.replicate_succ, List.replicate_zero, Nat.reduceAdd, Nat.reduceSub, Nat.zero_add, List.getElem?_cons_zero, List.getElem?_cons_succ, List.set_cons_zero, List.set_cons_succ, true_and, and_true, Int.toNat_natCast, if_true, if_false, Bool.false_eq_true, reduceCtorEq, ne_eq, not_false_eq_true, not_true_eq_false, decide_eq_true_eq, Bool.not_eq_true', decide_eq_false_iff_not, Option.bind_some, Option.map_some, $[$ls:term],*])
local macro_rules
  | `(tactic| unfold d3 $ls*) => `(tactic| try simp only [↓DL.dLstRg1_e, ↓DL.dLstRg2_e, ↓DL.rSortD_e, ↓DL.rMaxL_e, ↓DL.rMinL_e, ↓DL.tell_F, ↓DL.tell_T, DL.ints_map, DL.bls_map, DL.pairs_map, ↓DL.dFor_e, ↓DL.dLc_e, ↓DL.dVar_e, ↓DL.dC_e, ↓DL.dOp_e, ↓DL.dUn_e, ↓DL.dB_e, ↓DL.dChain_e, ↓DL.dAnd_e, ↓DL.dOr_e, ↓DL.dNot_e, ↓DL.dAndV_e, ↓DL.dOrV_e, ↓DL.dNotV_e, ↓DL.dIf_e, ↓DL.dNil_e, ↓DL.dCons_e, ↓DL.dTup_e, ↓DL.dLst_e, ↓DL.dCB_e, ↓DL.dNext_e, ↓DL.dSeq_e, ↓DL.dCont_e, ↓DL.dBreak_e, ↓DL.dDrop_e, ↓DL.dRet_e, ↓DL.dRetN_e, ↓DL.dIfS_e, ↓DL.gN_e, ↓DL.gNilD_e, ↓DL.gConsD_e, ↓DL.gT_e, ↓DL.dAsg_e, ↓DL.dPar_e, ↓DL.dPar3_e, ↓DL.dYes_e, ↓DL.dISeq_e, ↓DL.dIRg1_e, ↓DL.dIRg2_e, ↓DL.dIEnum_e, ↓DL.dIZip_e, ↓DL.rIntD_e, ↓DL.rNegD_e, ↓DL.rEq_intF, ↓DL.rEq_intT, ↓DL.rAddD_e, ↓DL.rMulD_e, ↓DL.rIxD_e, ↓DL.rI1_e, ↓DL.rI2_e, ↓DL.rIntCD_e, ↓DL.rSumD_e, ↓DL.rAllD_e, ↓DL.rIsiD_e, ↓DL.rLenD_e, ↓DL.rTupD_e, ↓DL.rLstD_e, ↓DL.rIsN_e, ↓DL.rSlD_e, ↓DL.dSl_e, ↓DL.dNoPart_e, ↓DL.dPart_e, ↓DL.dRev_e, ↓DL.dGet_e, ↓DL.dIn_e, ↓DL.dStore_e, ↓DL.dBM0_e, ↓DL.dBM_e, ↓DL.dDisp_e, ↓DL.mAppend_e, ↓DL.mPop_e, ↓DL.dNewK_e, ↓DL.dNewT_e, ↓DL.dLstM_e, ↓DL.dFrz_e, ↓DL.rReprD_e, ↓DL.rNeS_e, ↓DL.rEqS_e, ↓DL.asB_e, ↓DL.walkD_e, ↓DL.lookD_e, ↓DL.storeD_e, ↓DL.ofTy_e, ↓DL.onLst_e, DL.bodyE, DL.dstart, DL.dPairs, DL.dwipe, DL.keysOf, DL.keyD, DL.isNon, DL.peek_int, DL.peek_bl, DL.peek_non, DL.peek_str, DL.peek_tup, DL.peek_lst, DL.seqOf_tup, DL.seqOf_lst, DL.listOf_lst, DL.tyOf, DL.isTy, DL.atI0, DL.atI1, DL.atI2, DL.atI3, DL.atI4, DL.atI5, DL.dupd_same, DL.dupd_dupd, List.map_cons, List.map_nil, List.length_cons, List.length_nil, List.cons_append, List.nil_append, List.replicate_succ, List.replicate_zero, Nat.reduceAdd, Nat.reduceSub, Nat.zero_add, List.getElem?_cons_zero, List.getElem?_cons_succ, List.set_cons_zero, List.set_cons_succ, true_and, and_true, Int.toNat_natCast, if_true, if_false, Bool.false_eq_true, reduceCtorEq, ne_eq, not_false_eq_true, not_true_eq_false, decide_eq_true_eq, Bool.not_eq_true', decide_eq_false_iff_not, Option.bind_some, Option.map_some, $[$ls:term],*])
local macro_rules
  | `(tactic| unfold ob) => `(tactic| first | decide | assumption | omega | exact DL.mulD_l (by omega) (by omega) | exact DL.mulD_r (by omega) (by omega) | (refine DL.size_le4 ?_; (try simp only [List.length_map, DL.rng_length, DL.enumF_length, List.length_cons, List.length_nil, List.length_append, List.length_zip]); omega) | (exact DL.size_le4 (Nat.le_trans (List.length_filter_le _ _) (by (try simp only [List.length_map, DL.rng_length, DL.enumF_length]); omega))) | (unfold DL.inIx; omega) | (unfold DL.inIx; (try simp only [List.length_map, List.length_cons, List.length_nil, List.length_append, List.length_dropLast]); omega) | (simp_all; done))
namespace DL
open PySem PySem.Spec PyProof.Rows L2 DLM
open LAM (Free Tight RodOk ins inn cnt inL greedy)
def freeB (n : Int) (F : List (Int × Int)) : Bool := (LAM.subs (rng 0 n)).all fun l => decide (l.length < 2) || decide (ins F (inL l) + 3 ≤ 2 * l.length)
theorem freeB_iff {n : Int} {F : List (Int × Int)} (ho : ∀ r ∈ F, RodOk n r) : freeB n F = true ↔ Free n F := by
  unfold freeB
  rw [LAM.free_lots ho, List.all_eq_true]
  constructor
  · intro h l hl h2
    have := h l ((LAM.mem_subs _ l).mpr hl)
    rw [Bool.or_eq_true, decide_eq_true_eq, decide_eq_true_eq] at this
    omega
  · intro h l hl
    rw [Bool.or_eq_true, decide_eq_true_eq, decide_eq_true_eq]
    by_cases c : l.length < 2
    · exact .inl c
    · exact .inr (h l ((LAM.mem_subs _ l).mp hl) (by omega))
def greedyB (n : Int) : List (Int × Int) → List (Int × Int) → List (Int × Int)
  | acc, [] => acc
  | acc, r :: rs => if (!decide (r ∈ acc) && freeB n (r :: acc)) = true then greedyB n (acc ++ [r]) rs else greedyB n acc rs
theorem greedyB_eq {n : Int} : ∀ (rs acc : List (Int × Int)), (∀ r ∈ acc ++ rs, RodOk n r) → greedy n acc rs = greedyB n acc rs
  | [], acc, _ => by simp [greedy, greedyB]
  | r :: rs, acc, ho => by
    have o1 : ∀ x ∈ r :: acc, RodOk n x := fun x hx => by
      rcases List.mem_cons.mp hx with rfl | hx
      · exact ho _ (by simp)
      · exact ho _ (by simp [hx])
    have key : (!decide (r ∈ acc) && freeB n (r :: acc)) = true ↔ (r ∉ acc ∧ Free n (r :: acc)) := by
      rw [Bool.and_eq_true, Bool.not_eq_true', decide_eq_false_iff_not, freeB_iff o1]
    have a1 := greedyB_eq rs (acc ++ [r]) (fun x hx => ho x (by simpa using hx))
    have a2 := greedyB_eq rs acc (fun x hx => ho x (by
      rcases List.mem_append.mp hx with hx | hx
      · exact List.mem_append_left _ hx
      · exact List.mem_append_right _ (List.mem_cons_of_mem _ hx)))
    unfold greedy greedyB
    by_cases c : r ∉ acc ∧ Free n (r :: acc)
    · rw [if_pos c, if_pos (key.mpr c)]; exact a1
    · rw [if_neg c, if_neg fun h => c (key.mp h)]; exact a2
def six6 : List (Int × Int) := [(0, 1), (0, 2), (0, 3), (1, 2), (1, 3), (2, 3)]
theorem six_ok : ∀ r ∈ six6, RodOk 4 r := by
  intro r hr
  have : r = (0, 1) ∨ r = (0, 2) ∨ r = (0, 3) ∨ r = (1, 2) ∨ r = (1, 3) ∨ r = (2, 3) := by simpa [six6] using hr
  unfold RodOk
  rcases this with rfl | rfl | rfl | rfl | rfl | rfl <;> decide
theorem six_cut : cut six6 none (some 5) = six6.take 5 := cut_to _ (by decide)
theorem first_is {n : Int} (hn : n ≤ 12) {rods : List (Int × Int)} (ho : ∀ r ∈ rods, RodOk n r) : m_first_free_rods (n, rods) = m_law_first n [] rods := by
  show m_taken_freely [] rods = _
  rw [taken_law hn ho, first_law ho]
theorem needed_law {n : Int} (hn : n ≤ 12) {rods : List (Int × Int)} (ho : ∀ r ∈ rods, RodOk n r) {f : Int × Int → Int × Int → Bool} (hf : ∀ r x, f r x = (!decide (x = r))) : m_needed_rods (n, rods) = rods.filter fun rod => decide ((((m_law_first n [] (rods.filter (f rod))).length : Nat) : Int) < (((m_law_first n [] rods).length : Nat) : Int)) := by
  show (rods.filter fun rod => decide ((((m_taken_freely [] (rods.filter fun one1 => !decide (one1 = rod))).length : Nat) : Int) < (((m_first_free_rods (n, rods)).length : Nat) : Int))) = _
  rw [first_is hn ho]
  refine LAM.filter_congr fun rod hr => ?_
  have e : (rods.filter fun one1 => !decide (one1 = rod)) = rods.filter (f rod) := LAM.filter_congr fun x _ => (hf rod x).symm
  have o2 : ∀ r ∈ rods.filter (f rod), RodOk n r := fun r h => ho r (List.mem_filter.mp h).1
  rw [e, taken_law hn o2, first_law o2]
theorem six_first : m_first_free_rods (4, six6) = six6.take 5 := by
  rw [first_is (by decide) six_ok, first_law six_ok, greedyB_eq _ _ (by simpa using six_ok)]
  decide +kernel
theorem six_needed : m_needed_rods (4, six6) = [] := by
  rw [needed_law (by decide) six_ok (f := fun r x => !decide (x = r)) fun _ _ => rfl]
  refine List.filter_eq_nil_iff.mpr fun rod hr => ?_
  have o2 : ∀ r ∈ six6.filter (fun x => !decide (x = rod)), RodOk 4 r := fun r h => six_ok r (List.mem_filter.mp h).1
  rw [first_law six_ok, first_law o2, greedyB_eq six6 [] (by rw [List.nil_append]; exact six_ok), greedyB_eq (six6.filter fun x => !decide (x = rod)) [] (by rw [List.nil_append]; exact o2)]
  have all : ∀ rod ∈ six6, ¬ decide ((((greedyB 4 [] (six6.filter fun x => !decide (x = rod))).length : Nat) : Int) < (((greedyB 4 [] six6).length : Nat) : Int)) = true := by decide +kernel
  exact all rod hr
theorem six_round : m_round_of (4, six6.take 5) (2, 3) = some six6 := by
  have ho : ∀ r ∈ six6.take 5, RodOk 4 r := fun r hr => six_ok r (List.mem_of_mem_take hr)
  have e : six6.take 5 ++ [(2, 3)] = six6 := rfl
  have hF : Free 4 (six6.take 5) := (freeB_iff ho).mp (by decide +kernel)
  have srt : srtP six6 = six6 := srtP_id (by unfold six6; simp [lexLe])
  rw [round_law hF ho (by unfold RodOk; decide) (by decide) (f := fun r x => !decide (x = r)) (fun r x => notf r x), e, srt, if_neg (fun h => ?_)]
  · congr 1
    refine List.filter_eq_self.mpr fun rod hr => ?_
    have o2 : ∀ r ∈ six6.filter (fun x => !decide (x = rod)), RodOk 4 r := fun r h => six_ok r (List.mem_filter.mp h).1
    refine (is_free_law o2).mpr ((freeB_iff o2).mp ?_)
    have all : ∀ rod ∈ six6, freeB 4 (six6.filter fun x => !decide (x = rod)) = true := by decide +kernel
    exact all rod hr
  · have := (freeB_iff six_ok).mpr ((is_free_law six_ok).mp h)
    revert this
    decide +kernel
theorem same_len {n : Int} {rods l : List (Int × Int)} (hp : l.Perm rods) (ho : ∀ r ∈ rods, RodOk n r) : (m_law_first n [] l).length = (m_law_first n [] rods).length := by
  rw [first_law ho, first_law fun r hr => ho r (hp.mem_iff.mp hr)]
  exact (LAM.base_len ho (LAM.greedy_base rods) (LAM.greedy_base l) fun r => hp.symm.mem_iff).symm
theorem first_out {n : Int} {rods : List (Int × Int)} (ho : ∀ r ∈ rods, RodOk n r) : Out14 n rods (m_law_first n [] rods) := out_first (List.Perm.refl _) ho
theorem shw_small {i : Int} (h : -200 ≤ i ∧ i ≤ 250) : Shw 8 1 0 (eI i) := shw_I (by omega) (by omega)
theorem show_told {n : Int} {first : List (Int × Int)} {a b : Int} (hf : ∀ r ∈ first, RodOk 12 r) (hl : first.length ≤ 200) (ha : -200 ≤ a ∧ a ≤ 250) (hb : -200 ≤ b ∧ b ≤ 250) : showOk (eHl (cc (eT eR) (cc eI (c1 eI))) (first, a, b)) := (shw_hl (shw_cc (shw_rods hf (by show first.length ≤ 1000; omega)) (shw_cc (shw_small ha) (shw_c1 (shw_small hb))))).ok
theorem show_six : showOk (eHl (cc (eT eR) (cc (eT eR) (c1 (eO (eT eR))))) (six6.take 5, ([] : List (Int × Int)), some six6)) := (shw_hl (shw_cc (shw_rods (fun r hr => LAM.rodok_up (by decide) (six_ok r (List.mem_of_mem_take hr))) (by decide)) (shw_cc (shw_rods (fun r hr => by cases hr) (by decide)) (shw_c1 (shw_O (k := 8) (m := 3001) (r := 2) (by decide) fun x hx => by cases hx; exact shw_rods (fun r hr => LAM.rodok_up (by decide) (six_ok r hr)) (by decide)))))).ok
theorem told_eq {n : Int} (hn : n ≤ 12) {rods : List (Int × Int)} (ho : ∀ r ∈ rods, RodOk n r) : (m_first_free_rods (n, rods), m_free_rank (n, rods), m_lack_of (n, rods)) = (m_law_first n [] rods, (((m_law_first n [] rods).length : Nat) : Int), 2 * n - 3 - (((m_law_first n [] rods).length : Nat) : Int)) := by
  show (m_first_free_rods (n, rods), (((m_first_free_rods (n, rods)).length : Nat) : Int), 2 * n - 3 - (((m_first_free_rods (n, rods)).length : Nat) : Int)) = _
  rw [first_is hn ho]
/-! ### law -/
def rd_law (K : PySem.W.Frag) : DS :=
  (dSeq (dAsg (dCB (sp_law_source K) (dCons (dVar 0) dNil)) (gN 1))
    (dSeq (dFor (dIRg1 (dCons (dC (.int 3)) dNil)) (gN 2) (dSeq (dAsg (dCB sp_law_frame14 (dCons (dVar 1) (dCons (dC (.int 6)) dNil))) (gT 2 (gConsD (gN 3) (gConsD (gN 4) gNilD))))
    (dSeq (dAsg (dTup (dCons (dCB rTupD (dCons (dCB sp_law_first (dCons (dVar 3) (dCons (dTup dNil) (dCons (dVar 4) dNil)))) dNil)) (dCons (dCB rReprD (dCons (dVar 4) dNil)) dNil))) (gT 2 (gConsD (gN 5) (gConsD (gN 6) gNilD))))
    (dSeq (dIfS (dOr (dNot (dB (dCB sp_law_is_free (dCons (dVar 3) (dCons (dVar 5) dNil))))) (dB (dOp (rEqD true) (dCB rLenD (dCons (dCB sp_law_first (dCons (dVar 3) (dCons (dTup dNil) (dCons (dCB sp_law_mixed (dCons (dVar 1) (dCons (dVar 4) dNil))) dNil)))) dNil)) (dCB rLenD (dCons (dVar 5) dNil))))) (dRet (dC (.bl false))) dNext)
    (dSeq (dAsg (dLst (dCons (dCB sp_first_free_rods (dCons (dTup (dCons (dVar 3) (dCons (dVar 4) dNil))) dNil)) (dCons (dCB sp_free_rank (dCons (dTup (dCons (dVar 3) (dCons (dVar 4) dNil))) dNil)) (dCons (dCB sp_lack_of (dCons (dTup (dCons (dVar 3) (dCons (dVar 4) dNil))) dNil)) dNil)))) (gN 7))
    (dSeq (dIfS (dB (dOp rNeS (dCB rReprD (dCons (dVar 7) dNil)) (dCB rReprD (dCons (dLst (dCons (dVar 5) (dCons (dCB rLenD (dCons (dVar 5) dNil)) (dCons (dOp (rIntD (fun _ _ => True) fun i j => .int (i - j)) (dOp (rIntD (fun _ _ => True) fun i j => .int (i - j)) (dOp rMulD (dC (.int 2)) (dVar 3)) (dC (.int 3))) (dCB rLenD (dCons (dVar 5) dNil))) dNil)))) dNil)))) (dRet (dC (.bl false))) dNext)
    (dSeq (dAsg (dLc false (dISeq (dVar 4)) (gN 9) (dB (dOp (rIntD (fun _ _ => True) fun i j => .bl (decide (i < j))) (dCB rLenD (dCons (dCB sp_law_first (dCons (dVar 3) (dCons (dTup dNil) (dCons (dLc false (dISeq (dVar 4)) (gN 10) (dB (dOp (rEqD true) (dVar 10) (dVar 9))) (dVar 10) [10]) dNil)))) dNil)) (dCB rLenD (dCons (dVar 5) dNil)))) (dVar 9) [9]) (gN 8))
    (dSeq (dIfS (dB (dOp rNeS (dCB rReprD (dCons (dCB sp_needed_rods (dCons (dTup (dCons (dVar 3) (dCons (dVar 4) dNil))) dNil)) dNil)) (dCB rReprD (dCons (dCB rTupD (dCons (dVar 8) dNil)) dNil)))) (dRet (dC (.bl false))) dNext)
    (dSeq (dAsg (dCB rTupD (dCons (dCB (rSortX false) (dCons (dCB sp_law_first (dCons (dVar 3) (dCons (dTup dNil) (dCons (dCB sp_law_mixed (dCons (dVar 1) (dCons (dVar 4) dNil))) dNil)))) dNil)) dNil)) (gN 11))
    (dIfS (dOr (dNot (dB (dCB sp_law_rounds_right (dCons (dVar 3) (dCons (dVar 11) dNil))))) (dOr (dNot (dB (dCB sp_law_exchange_right (dCons (dVar 1) (dCons (dVar 3) (dCons (dVar 4) dNil)))))) (dB (dOp rNeS (dCB rReprD (dCons (dVar 4) dNil)) (dVar 6))))) (dRet (dC (.bl false))) dNext))))))))))
    (dSeq (dAsg (dTup (dCons (dTup (dCons (dC (.int 0)) (dCons (dC (.int 1)) dNil))) (dCons (dTup (dCons (dC (.int 0)) (dCons (dC (.int 2)) dNil))) (dCons (dTup (dCons (dC (.int 0)) (dCons (dC (.int 3)) dNil))) (dCons (dTup (dCons (dC (.int 1)) (dCons (dC (.int 2)) dNil))) (dCons (dTup (dCons (dC (.int 1)) (dCons (dC (.int 3)) dNil))) (dCons (dTup (dCons (dC (.int 2)) (dCons (dC (.int 3)) dNil))) dNil))))))) (gN 12))
    (dSeq (dAsg (dLst (dCons (dCB sp_first_free_rods (dCons (dTup (dCons (dC (.int 4)) (dCons (dVar 12) dNil))) dNil)) (dCons (dCB sp_needed_rods (dCons (dTup (dCons (dC (.int 4)) (dCons (dVar 12) dNil))) dNil)) (dCons (dCB sp_round_of (dCons (dTup (dCons (dC (.int 4)) (dCons (dSl (rSlD false) (dVar 12) dNoPart (dPart (dC (.int 5)))) dNil))) (dCons (dTup (dCons (dC (.int 2)) (dCons (dC (.int 3)) dNil))) dNil))) dNil)))) (gN 7))
    (dRet (dOp rEqS (dCB rReprD (dCons (dVar 7) dNil)) (dCB rReprD (dCons (dLst (dCons (dSl (rSlD false) (dVar 12) dNoPart (dPart (dC (.int 5)))) (dCons (dTup dNil) (dCons (dVar 12) dNil)))) dNil))))))))
set_option maxHeartbeats 0 in
theorem law_ok {K : PySem.W.Frag} {ds : List D} {DH : DHp} {Q : DK} (h : spLaw K ds DH Q) : rd_law K (bodyE Q) (dstart ["script", "source", "lap", "n", "rods", "first", "kept", "told", "due", "rod", "one", "some", "six"] ds) DH := by
  obtain ⟨a0, ns, rfl, hl, hscr, hlaw⟩ := h
  unfold rd_law
  refine n_src (fun H0 => hlaw _) hl hscr (fun a_ DH ha hQ => ?_)
  have hs := DSub.refl DH
  show (_ : DS) _ [some (.ref a0), some (.ref a_), none, none, none, none, none, none, none, none, none, none, none] _
  refine n_for eI (rng 0 (3 : Int)) (fun (pre : List Int) (st : Unit) => True) () (fun (st : Unit) τ' H' => ∃ t2 t3 t4 t5 t6 t7 t8 t11 : Option D, τ' = [some (.ref a0), some (.ref a_), t2, t3, t4, t5, t6, t7, t8, none, none, t11, none] ∧ DSub DH H') (ei_rg1 ev_c (by unfold ob) (by unfold ob)) (fun st τ' H' h => trivial) ⟨_, _, _, _, _, _, _, _, rfl, hs⟩ (by unfold ob) (fun pre lap post st τ' H' hx_st hi_st hst E' hrt hE => ?_) (fun st τ' H' hst hi_st => ?_)
  · obtain ⟨t2, t3, t4, t5, t6, t7, t8, t11, rfl, hs⟩ := hst
    have hm_lap : lap ∈ (rng 0 (3 : Int)) := by rw [hx_st]; simp
    have hb_lap := mem_rng.mp hm_lap
    refine n_gv (show Gv _ (eI lap) _ _ _ from gv_N) ?_
    show (_ : DS) _ [some (.ref a0), some (.ref a_), some (eI lap), t3, t4, t5, t6, t7, t8, none, none, t11, none] _
    refine n_asgGX ?_
    refine x_cb ?_
    refine x_cons ?_
    refine x_ev (ev_var rfl : Ev _ _ _ (.ref a_)) ?_
    refine x_cons ?_
    refine x_ev (evd (eI (6 : Int)) ev_c) ?_
    refine x_nil ?_
    refine call_law_frame14 (hs _ _ ha) ((6 : Int)) (by unfold ob) (fun r_frame h_r_frame => ?_)
    refine n_gv (show Gv _ ((eTup (cc eI (c1 (eT (eTup (cc eI (c1 eI))))))) r_frame) _ _ _ from (gv_T rfl (gvs_cons gv_N (gvs_cons gv_N gvs_nil)))) ?_
    show (_ : DS) _ [some (.ref a0), some (.ref a_), some (eI lap), some (eI r_frame.1), some ((eT (eTup (cc eI (c1 eI)))) r_frame.2), t5, t6, t7, t8, none, none, t11, none] _
    refine n_asgGX ?_
    refine x_tup ?_
    refine x_cons ?_
    refine x_ev (evd ((eT (eTup (cc eI (c1 eI)))) (m_law_first (r_frame.1) (([] : List (Int × Int))) (r_frame.2))) (ev_cb (ea_cons (evd ((eL (eTup (cc eI (c1 eI)))) (m_law_first (r_frame.1) (([] : List (Int × Int))) (r_frame.2))) (ev_cb (ea_cons (evd (eI r_frame.1) (ev_var rfl)) (ea_cons (evd ((eT (eTup (cc eI (c1 eI)))) ([] : List (Int × Int))) (ev_tupK 0 ea_nil rfl (by decide))) (ea_cons (evd ((eT (eTup (cc eI (c1 eI)))) r_frame.2) (ev_var rfl)) ea_nil))) (call_law_first (r_frame.1) (([] : List (Int × Int))) (r_frame.2) ((eT (eTup (cc eI (c1 eI)))) r_frame.2) seqT (by unfold ob) (by unfold ob) (by simp only [List.length_nil]; omega)))) ea_nil) (c_tup (e := (eTup (cc eI (c1 eI)))) (xs := (m_law_first (r_frame.1) (([] : List (Int × Int))) (r_frame.2))) seqL))) ?_
    obtain ⟨first, h_first⟩ : ∃ x : (List (Int × Int)), x = (m_law_first (r_frame.1) (([] : List (Int × Int))) (r_frame.2)) := ⟨_, rfl⟩
    rw [← h_first]
    refine x_cons ?_
    refine x_ev (evd (eS (rpr ((eT (eTup (cc eI (c1 eI)))) r_frame.2))) (ev_cb (ea_cons (evd ((eT (eTup (cc eI (c1 eI)))) r_frame.2) (ev_var rfl)) ea_nil) (c_reprD (d := (eT (eTup (cc eI (c1 eI)))) r_frame.2) (by exact show_rods (up12 (by omega) h_r_frame.2.2.1) (by omega))))) ?_
    obtain ⟨kept, h_kept⟩ : ∃ x : Str, x = (rpr ((eT (eTup (cc eI (c1 eI)))) r_frame.2)) := ⟨_, rfl⟩
    rw [← h_kept]
    refine x_nil ?_
    refine x_size 2 rfl (by decide) ?_
    refine n_gv (gv_T rfl (gvs_cons gv_N (gvs_cons gv_N gvs_nil))) ?_
    show (_ : DS) _ [some (.ref a0), some (.ref a_), some (eI lap), some (eI r_frame.1), some ((eT (eTup (cc eI (c1 eI)))) r_frame.2), some ((eT (eTup (cc eI (c1 eI)))) first), some (eS kept), t7, t8, none, none, t11, none] _
    refine n_ifX ?_
    refine x_or ?_
    refine x_evT (b := (!(m_law_is_free (r_frame.1) (first)))) (et_not (et_b (ev_cb (ea_cons (evd (eI r_frame.1) (ev_var rfl)) (ea_cons (evd ((eT (eTup (cc eI (c1 eI)))) first) (ev_var rfl)) ea_nil)) (call_law_is_free (r_frame.1) (first) ((eT (eTup (cc eI (c1 eI)))) first) seqT (by unfold ob) (by unfold ob) (by have := (first_out h_r_frame.2.2.1).len; rw [← h_first] at this; omega))))) ?_
    refine x_ite (fun hc => ?_) (fun hc => ?_)
    · skip
      refine x_ite (fun _ => ?_) (fun hf => absurd hf (by decide))
      show (_ : DS) _ [some (.ref a0), some (.ref a_), some (eI lap), some (eI r_frame.1), some ((eT (eTup (cc eI (c1 eI)))) r_frame.2), some ((eT (eTup (cc eI (c1 eI)))) first), some (eS kept), t7, t8, none, none, t11, none] _
      exact s_ret (evd (eB false) ev_c) (hrt ▸ ⟨DH, hs, hQ _ (by have o := first_out h_r_frame.2.2.1; rw [← h_first] at o; rw [(is_free_law fun r hr => h_r_frame.2.2.1 r (o.sub r hr)).mpr o.fr] at hc; exact hc)⟩)
    · skip
      refine x_b ?_
      refine x_op ?_
      refine x_cb ?_
      refine x_cons ?_
      refine x_cb ?_
      refine x_cons ?_
      refine x_ev (evd (eI r_frame.1) (ev_var rfl)) ?_
      refine x_cons ?_
      refine x_ev (evd ((eT (eTup (cc eI (c1 eI)))) ([] : List (Int × Int))) (ev_tupK 0 ea_nil rfl (by decide))) ?_
      refine x_cons ?_
      refine x_cb ?_
      refine x_cons ?_
      refine x_ev (ev_var rfl : Ev _ _ _ (.ref a_)) ?_
      refine x_cons ?_
      refine x_ev (evd ((eT (eTup (cc eI (c1 eI)))) r_frame.2) (ev_var rfl)) ?_
      refine x_nil ?_
      refine call_mixed (hs _ _ ha) (r_frame.2) (seqT : seqOf _ ((eT (eTup (cc eI (c1 eI)))) r_frame.2) = some (List.map (eTup (cc eI (c1 eI))) (r_frame.2))) (by unfold ob) (fun r_mixed h_r_mixed => ?_)
      refine x_nil ?_
      refine x_rc (call_law_first (r_frame.1) (([] : List (Int × Int))) (r_mixed) ((eL (eTup (cc eI (c1 eI)))) r_mixed) (seqL) (by unfold ob) (by unfold ob) (by have := h_r_mixed.length_eq; simp only [List.length_nil]; omega)) ?_
      refine x_nil ?_
      refine x_rc (c_len (e := (eTup (cc eI (c1 eI)))) (xs := (m_law_first (r_frame.1) (([] : List (Int × Int))) (r_mixed))) seqL) ?_
      refine x_ev (evd (eI (first.length : Int)) (ev_cb (ea_cons (evd ((eT (eTup (cc eI (c1 eI)))) first) (ev_var rfl)) ea_nil) (c_len (e := (eTup (cc eI (c1 eI)))) (xs := first) seqT))) ?_
      refine x_rv (r_ne (e := eI) (x := ((m_law_first (r_frame.1) (([] : List (Int × Int))) (r_mixed)).length : Int)) (y := (first.length : Int)) (by decide) (peek_gd _ _) (peek_gd _ _)) ?_
      refine x_asb ?_
      refine x_ite (fun hc1 => ?_) (fun hc1 => ?_)
      · skip
        show (_ : DS) _ [some (.ref a0), some (.ref a_), some (eI lap), some (eI r_frame.1), some ((eT (eTup (cc eI (c1 eI)))) r_frame.2), some ((eT (eTup (cc eI (c1 eI)))) first), some (eS kept), t7, t8, none, none, t11, none] _
        exact s_ret (evd (eB false) ev_c) (hrt ▸ ⟨DH, hs, hQ _ (by have := same_len h_r_mixed h_r_frame.2.2.1; rw [← h_first] at this; rw [this] at hc1; simp at hc1)⟩)
      · skip
        refine s_skip ?_
        show (_ : DS) _ [some (.ref a0), some (.ref a_), some (eI lap), some (eI r_frame.1), some ((eT (eTup (cc eI (c1 eI)))) r_frame.2), some ((eT (eTup (cc eI (c1 eI)))) first), some (eS kept), t7, t8, none, none, t11, none] _
        refine n_asg (eHl (cc (eT (eTup (cc eI (c1 eI)))) (cc eI (c1 eI)))) (evd ((eHl (cc (eT (eTup (cc eI (c1 eI)))) (cc eI (c1 eI)))) ((m_first_free_rods ((r_frame.1, r_frame.2))), (m_free_rank ((r_frame.1, r_frame.2))), (m_lack_of ((r_frame.1, r_frame.2))))) (ev_lstK 3 (ea_cons (evd ((eT (eTup (cc eI (c1 eI)))) (m_first_free_rods ((r_frame.1, r_frame.2)))) (ev_cb (ea_cons (evd ((eTup (cc eI (c1 (eT (eTup (cc eI (c1 eI))))))) (r_frame.1, r_frame.2)) (ev_tupK 2 (ea_cons (evd (eI r_frame.1) (ev_var rfl)) (ea_cons (evd ((eT (eTup (cc eI (c1 eI)))) r_frame.2) (ev_var rfl)) ea_nil)) rfl (by decide))) ea_nil) (call_first_free_rods ((r_frame.1, r_frame.2)) (by show r_frame.2.length ≤ 900; omega) (by exact up12 (by omega) h_r_frame.2.2.1)))) (ea_cons (evd (eI (m_free_rank ((r_frame.1, r_frame.2)))) (ev_cb (ea_cons (evd ((eTup (cc eI (c1 (eT (eTup (cc eI (c1 eI))))))) (r_frame.1, r_frame.2)) (ev_tupK 2 (ea_cons (evd (eI r_frame.1) (ev_var rfl)) (ea_cons (evd ((eT (eTup (cc eI (c1 eI)))) r_frame.2) (ev_var rfl)) ea_nil)) rfl (by decide))) ea_nil) (call_free_rank ((r_frame.1, r_frame.2)) (by show r_frame.2.length ≤ 900; omega) (by exact up12 (by omega) h_r_frame.2.2.1)))) (ea_cons (evd (eI (m_lack_of ((r_frame.1, r_frame.2)))) (ev_cb (ea_cons (evd ((eTup (cc eI (c1 (eT (eTup (cc eI (c1 eI))))))) (r_frame.1, r_frame.2)) (ev_tupK 2 (ea_cons (evd (eI r_frame.1) (ev_var rfl)) (ea_cons (evd ((eT (eTup (cc eI (c1 eI)))) r_frame.2) (ev_var rfl)) ea_nil)) rfl (by decide))) ea_nil) (call_lack_of ((r_frame.1, r_frame.2)) (by show r_frame.2.length ≤ 900; omega) (by exact up12 (by omega) h_r_frame.2.2.1)))) ea_nil))) rfl (by decide))) (fun told h_told => ?_)
        show (_ : DS) _ [some (.ref a0), some (.ref a_), some (eI lap), some (eI r_frame.1), some ((eT (eTup (cc eI (c1 eI)))) r_frame.2), some ((eT (eTup (cc eI (c1 eI)))) first), some (eS kept), some ((eHl (cc (eT (eTup (cc eI (c1 eI)))) (cc eI (c1 eI)))) told), t8, none, none, t11, none] _
        refine n_if (b := (!((rpr ((eHl (cc (eT (eTup (cc eI (c1 eI)))) (cc eI (c1 eI)))) told)) == (rpr (eD (D.lst [(eT (eTup (cc eI (c1 eI)))) first, eI (first.length : Int), eI ((((2 : Int) * r_frame.1) - (3 : Int)) - (first.length : Int))])))))) (et_b (ev_op (ev_cb (ea_cons (evd ((eHl (cc (eT (eTup (cc eI (c1 eI)))) (cc eI (c1 eI)))) told) (ev_var rfl)) ea_nil) (c_reprD (d := (eHl (cc (eT (eTup (cc eI (c1 eI)))) (cc eI (c1 eI)))) told) (by have o := first_out h_r_frame.2.2.1; have := o.len; rw [h_told, told_eq (by omega) h_r_frame.2.2.1]; exact show_told (n := 12) (fun r hr => LAM.rodok_up (by omega) (h_r_frame.2.2.1 r (o.sub r hr))) (by omega) (by omega) (by omega)))) (ev_cb (ea_cons (evd (eD (D.lst [(eT (eTup (cc eI (c1 eI)))) first, eI (first.length : Int), eI ((((2 : Int) * r_frame.1) - (3 : Int)) - (first.length : Int))])) (ev_lstK 3 (ea_cons (evd ((eT (eTup (cc eI (c1 eI)))) first) (ev_var rfl)) (ea_cons (evd (eI (first.length : Int)) (ev_cb (ea_cons (evd ((eT (eTup (cc eI (c1 eI)))) first) (ev_var rfl)) ea_nil) (c_len (e := (eTup (cc eI (c1 eI)))) (xs := first) seqT))) (ea_cons (evd (eI ((((2 : Int) * r_frame.1) - (3 : Int)) - (first.length : Int))) (ev_op (ev_op (ev_op ev_c (ev_var rfl) (r_mul (mulD_l (by decide) (by decide)))) ev_c r_sub) (ev_cb (ea_cons (evd ((eT (eTup (cc eI (c1 eI)))) first) (ev_var rfl)) ea_nil) (c_len (e := (eTup (cc eI (c1 eI)))) (xs := first) seqT)) r_sub)) ea_nil))) rfl (by decide))) ea_nil) (c_reprD (d := eD (D.lst [(eT (eTup (cc eI (c1 eI)))) first, eI (first.length : Int), eI ((((2 : Int) * r_frame.1) - (3 : Int)) - (first.length : Int))])) (by have o := first_out h_r_frame.2.2.1; rw [← h_first] at o; have := o.len; exact show_told (n := 12) (a := (first.length : Int)) (b := 2 * r_frame.1 - 3 - (first.length : Int)) (fun r hr => LAM.rodok_up (by omega) (h_r_frame.2.2.1 r (o.sub r hr))) (by omega) (by omega) (by omega)))) r_neS)) (fun hc2 => ?_) (fun hc2 => ?_)
        · skip
          show (_ : DS) _ [some (.ref a0), some (.ref a_), some (eI lap), some (eI r_frame.1), some ((eT (eTup (cc eI (c1 eI)))) r_frame.2), some ((eT (eTup (cc eI (c1 eI)))) first), some (eS kept), some ((eHl (cc (eT (eTup (cc eI (c1 eI)))) (cc eI (c1 eI)))) told), t8, none, none, t11, none] _
          exact s_ret (evd (eB false) ev_c) (hrt ▸ ⟨DH, hs, hQ _ (by exact (rpr_no hc2 (by rw [h_told, told_eq (by omega) h_r_frame.2.2.1, ← h_first]; rfl)).elim)⟩)
        · skip
          refine s_skip ?_
          show (_ : DS) _ [some (.ref a0), some (.ref a_), some (eI lap), some (eI r_frame.1), some ((eT (eTup (cc eI (c1 eI)))) r_frame.2), some ((eT (eTup (cc eI (c1 eI)))) first), some (eS kept), some ((eHl (cc (eT (eTup (cc eI (c1 eI)))) (cc eI (c1 eI)))) told), t8, none, none, t11, none] _
          refine n_asg (eL (eTup (cc eI (c1 eI)))) (evd ((eL (eTup (cc eI (c1 eI)))) (r_frame.2.filter (fun (rod : (Int × Int)) => (decide (((m_law_first (r_frame.1) (([] : List (Int × Int))) ((r_frame.2.filter (fun (one1 : (Int × Int)) => (!decide (one1 = rod)))))).length : Int) < (first.length : Int)))))) (ev_lcf (eTup (cc eI (c1 eI))) r_frame.2 (fun (rod : (Int × Int)) => (decide (((m_law_first (r_frame.1) (([] : List (Int × Int))) ((r_frame.2.filter (fun (one1 : (Int × Int)) => (!decide (one1 = rod)))))).length : Int) < (first.length : Int)))) _ ⟨_, (ei_T (e := (eTup (cc eI (c1 eI)))) (xs := r_frame.2) (evd ((eT (eTup (cc eI (c1 eI)))) r_frame.2) (ev_var rfl)))⟩ (by unfold ob) (fun rod => gv_N) (fun rod h_rod => (et_b (ev_op (ev_cb (ea_cons (evd ((eL (eTup (cc eI (c1 eI)))) (m_law_first (r_frame.1) (([] : List (Int × Int))) ((r_frame.2.filter (fun (one1 : (Int × Int)) => (!decide (one1 = rod))))))) (ev_cb (ea_cons (evd (eI r_frame.1) (ev_var rfl)) (ea_cons (evd ((eT (eTup (cc eI (c1 eI)))) ([] : List (Int × Int))) (ev_tupK 0 ea_nil rfl (by decide))) (ea_cons (evd ((eL (eTup (cc eI (c1 eI)))) (r_frame.2.filter (fun (one1 : (Int × Int)) => (!decide (one1 = rod))))) (ev_lcf (eTup (cc eI (c1 eI))) r_frame.2 (fun (one1 : (Int × Int)) => (!decide (one1 = rod))) _ ⟨_, (ei_T (e := (eTup (cc eI (c1 eI)))) (xs := r_frame.2) (evd ((eT (eTup (cc eI (c1 eI)))) r_frame.2) (ev_var rfl)))⟩ (by unfold ob) (fun one1 => gv_N) (fun one1 h_one1 => (et_b (ev_op (evd ((eTup (cc eI (c1 eI))) one1) (ev_var rfl)) (evd ((eTup (cc eI (c1 eI))) rod) (ev_var rfl)) (r_ne (e := (eTup (cc eI (c1 eI)))) (x := one1) (y := rod) (by decide) (peek_gd _ _) (peek_gd _ _))))) (fun one1 h_one1 hc => (evd ((eTup (cc eI (c1 eI))) one1) (ev_var rfl))))) ea_nil))) (call_law_first (r_frame.1) (([] : List (Int × Int))) ((r_frame.2.filter (fun (one1 : (Int × Int)) => (!decide (one1 = rod))))) ((eL (eTup (cc eI (c1 eI)))) (r_frame.2.filter (fun (one1 : (Int × Int)) => (!decide (one1 = rod))))) seqL (by unfold ob) (by unfold ob) (by have := le_filter (fun one1 => !decide (one1 = rod)) h_r_frame.2.2.2; simp only [List.length_nil]; omega)))) ea_nil) (c_len (e := (eTup (cc eI (c1 eI)))) (xs := (m_law_first (r_frame.1) (([] : List (Int × Int))) ((r_frame.2.filter (fun (one1 : (Int × Int)) => (!decide (one1 = rod))))))) seqL)) (ev_cb (ea_cons (evd ((eT (eTup (cc eI (c1 eI)))) first) (ev_var rfl)) ea_nil) (c_len (e := (eTup (cc eI (c1 eI)))) (xs := first) seqT)) r_lt))) (fun rod h_rod hc => (evd ((eTup (cc eI (c1 eI))) rod) (ev_var rfl))))) (fun due h_due => ?_)
          show (_ : DS) _ [some (.ref a0), some (.ref a_), some (eI lap), some (eI r_frame.1), some ((eT (eTup (cc eI (c1 eI)))) r_frame.2), some ((eT (eTup (cc eI (c1 eI)))) first), some (eS kept), some ((eHl (cc (eT (eTup (cc eI (c1 eI)))) (cc eI (c1 eI)))) told), some ((eL (eTup (cc eI (c1 eI)))) due), none, none, t11, none] _
          refine n_if (b := (!((rpr ((eT (eTup (cc eI (c1 eI)))) (m_needed_rods ((r_frame.1, r_frame.2))))) == (rpr ((eT (eTup (cc eI (c1 eI)))) due))))) (et_b (ev_op (ev_cb (ea_cons (evd ((eT (eTup (cc eI (c1 eI)))) (m_needed_rods ((r_frame.1, r_frame.2)))) (ev_cb (ea_cons (evd ((eTup (cc eI (c1 (eT (eTup (cc eI (c1 eI))))))) (r_frame.1, r_frame.2)) (ev_tupK 2 (ea_cons (evd (eI r_frame.1) (ev_var rfl)) (ea_cons (evd ((eT (eTup (cc eI (c1 eI)))) r_frame.2) (ev_var rfl)) ea_nil)) rfl (by decide))) ea_nil) (call_needed_rods ((r_frame.1, r_frame.2)) (by show r_frame.2.length ≤ 900; omega) (by exact up12 (by omega) h_r_frame.2.2.1)))) ea_nil) (c_reprD (d := (eT (eTup (cc eI (c1 eI)))) (m_needed_rods ((r_frame.1, r_frame.2)))) (by rw [needed_law (by omega) h_r_frame.2.2.1 (f := fun r x => !decide (x = r)) fun _ _ => rfl]; exact show_rods (fun r hr => LAM.rodok_up (by omega) (h_r_frame.2.2.1 r (List.mem_filter.mp hr).1)) (le_filter _ (by omega))))) (ev_cb (ea_cons (evd ((eT (eTup (cc eI (c1 eI)))) due) (ev_cb (ea_cons (evd ((eL (eTup (cc eI (c1 eI)))) due) (ev_var rfl)) ea_nil) (c_tup (e := (eTup (cc eI (c1 eI)))) (xs := due) seqL))) ea_nil) (c_reprD (d := (eT (eTup (cc eI (c1 eI)))) due) (by rw [h_due]; exact show_rods (fun r hr => LAM.rodok_up (by omega) (h_r_frame.2.2.1 r (List.mem_filter.mp hr).1)) (le_filter _ (by omega))))) r_neS)) (fun hc3 => ?_) (fun hc3 => ?_)
          · skip
            show (_ : DS) _ [some (.ref a0), some (.ref a_), some (eI lap), some (eI r_frame.1), some ((eT (eTup (cc eI (c1 eI)))) r_frame.2), some ((eT (eTup (cc eI (c1 eI)))) first), some (eS kept), some ((eHl (cc (eT (eTup (cc eI (c1 eI)))) (cc eI (c1 eI)))) told), some ((eL (eTup (cc eI (c1 eI)))) due), none, none, t11, none] _
            exact s_ret (evd (eB false) ev_c) (hrt ▸ ⟨DH, hs, hQ _ (by exact (rpr_no hc3 (by rw [needed_law (by omega) h_r_frame.2.2.1 (f := fun r x => !decide (x = r)) fun _ _ => rfl, h_due, h_first])).elim)⟩)
          · skip
            refine s_skip ?_
            show (_ : DS) _ [some (.ref a0), some (.ref a_), some (eI lap), some (eI r_frame.1), some ((eT (eTup (cc eI (c1 eI)))) r_frame.2), some ((eT (eTup (cc eI (c1 eI)))) first), some (eS kept), some ((eHl (cc (eT (eTup (cc eI (c1 eI)))) (cc eI (c1 eI)))) told), some ((eL (eTup (cc eI (c1 eI)))) due), none, none, t11, none] _
            refine n_asgX ?_
            refine x_cb ?_
            refine x_cons ?_
            refine x_cb ?_
            refine x_cons ?_
            refine x_cb ?_
            refine x_cons ?_
            refine x_ev (evd (eI r_frame.1) (ev_var rfl)) ?_
            refine x_cons ?_
            refine x_ev (evd ((eT (eTup (cc eI (c1 eI)))) ([] : List (Int × Int))) (ev_tupK 0 ea_nil rfl (by decide))) ?_
            refine x_cons ?_
            refine x_cb ?_
            refine x_cons ?_
            refine x_ev (ev_var rfl : Ev _ _ _ (.ref a_)) ?_
            refine x_cons ?_
            refine x_ev (evd ((eT (eTup (cc eI (c1 eI)))) r_frame.2) (ev_var rfl)) ?_
            refine x_nil ?_
            refine call_mixed (hs _ _ ha) (r_frame.2) (seqT : seqOf _ ((eT (eTup (cc eI (c1 eI)))) r_frame.2) = some (List.map (eTup (cc eI (c1 eI))) (r_frame.2))) (by unfold ob) (fun r_mixed1 h_r_mixed1 => ?_)
            refine x_nil ?_
            refine x_rc (call_law_first (r_frame.1) (([] : List (Int × Int))) (r_mixed1) ((eL (eTup (cc eI (c1 eI)))) r_mixed1) (seqL) (by unfold ob) (by unfold ob) (by have := h_r_mixed1.length_eq; simp only [List.length_nil]; omega)) ?_
            refine x_nil ?_
            refine x_rc (c_srtP (xs := (m_law_first (r_frame.1) (([] : List (Int × Int))) (r_mixed1))) seqL) ?_
            refine x_nil ?_
            refine x_rc (c_tup (e := (eTup (cc eI (c1 eI)))) (xs := (srtP (m_law_first (r_frame.1) (([] : List (Int × Int))) (r_mixed1)))) seqL) ?_
            obtain ⟨some', h_some'⟩ : ∃ x : (List (Int × Int)), x = (srtP (m_law_first (r_frame.1) (([] : List (Int × Int))) (r_mixed1))) := ⟨_, rfl⟩
            rw [← h_some']
            show (_ : DS) _ [some (.ref a0), some (.ref a_), some (eI lap), some (eI r_frame.1), some ((eT (eTup (cc eI (c1 eI)))) r_frame.2), some ((eT (eTup (cc eI (c1 eI)))) first), some (eS kept), some ((eHl (cc (eT (eTup (cc eI (c1 eI)))) (cc eI (c1 eI)))) told), some ((eL (eTup (cc eI (c1 eI)))) due), none, none, some ((eT (eTup (cc eI (c1 eI)))) some'), none] _
            refine s_last ?_
            refine n_ifX ?_
            refine x_or ?_
            refine x_evT (b := (!(m_law_rounds_right (r_frame.1) (some')))) (et_not (et_b (ev_cb (ea_cons (evd (eI r_frame.1) (ev_var rfl)) (ea_cons (evd ((eT (eTup (cc eI (c1 eI)))) some') (ev_var rfl)) ea_nil)) (call_law_rounds_right (r_frame.1) (some') (by unfold ob) (by have o := (out_first h_r_mixed1 h_r_frame.2.2.1).srt; rw [← h_some'] at o; have := o.len; omega) (by have o := (out_first h_r_mixed1 h_r_frame.2.2.1).srt; rw [← h_some'] at o; exact fun r hr => h_r_frame.2.2.1 r (o.sub r hr)) (by have o := (out_first h_r_mixed1 h_r_frame.2.2.1).srt; rw [← h_some'] at o; exact o.fr))))) ?_
            refine x_ite (fun hc4 => ?_) (fun hc4 => ?_)
            · skip
              refine x_ite (fun _ => ?_) (fun hf => absurd hf (by decide))
              show (_ : DS) _ [some (.ref a0), some (.ref a_), some (eI lap), some (eI r_frame.1), some ((eT (eTup (cc eI (c1 eI)))) r_frame.2), some ((eT (eTup (cc eI (c1 eI)))) first), some (eS kept), some ((eHl (cc (eT (eTup (cc eI (c1 eI)))) (cc eI (c1 eI)))) told), some ((eL (eTup (cc eI (c1 eI)))) due), none, none, some ((eT (eTup (cc eI (c1 eI)))) some'), none] _
              exact s_ret (evd (eB false) ev_c) (hrt ▸ ⟨DH, hs, hQ _ (by have o := (out_first h_r_mixed1 h_r_frame.2.2.1).srt; rw [← h_some'] at o; rw [rounds_law (by omega) (fun r hr => h_r_frame.2.2.1 r (o.sub r hr)) o.fr] at hc4; exact hc4)⟩)
            · skip
              refine x_or ?_
              refine x_not ?_
              refine x_b ?_
              refine x_cb ?_
              refine x_cons ?_
              refine x_ev (ev_var rfl : Ev _ _ _ (.ref a_)) ?_
              refine x_cons ?_
              refine x_ev (evd (eI r_frame.1) (ev_var rfl)) ?_
              refine x_cons ?_
              refine x_ev (evd ((eT (eTup (cc eI (c1 eI)))) r_frame.2) (ev_var rfl)) ?_
              refine x_nil ?_
              refine call_law_exchange_right (hs _ _ ha) (r_frame.1) (r_frame.2) (by unfold ob) (by unfold ob) (by unfold ob) (fun r_exchange_right h_r_exchange_right => ?_)
              refine x_asb ?_
              refine x_ite (fun hc5 => ?_) (fun hc5 => ?_)
              · skip
                refine x_ite (fun _ => ?_) (fun hf => absurd hf (by decide))
                show (_ : DS) _ [some (.ref a0), some (.ref a_), some (eI lap), some (eI r_frame.1), some ((eT (eTup (cc eI (c1 eI)))) r_frame.2), some ((eT (eTup (cc eI (c1 eI)))) first), some (eS kept), some ((eHl (cc (eT (eTup (cc eI (c1 eI)))) (cc eI (c1 eI)))) told), some ((eL (eTup (cc eI (c1 eI)))) due), none, none, some ((eT (eTup (cc eI (c1 eI)))) some'), none] _
                exact s_ret (evd (eB false) ev_c) (hrt ▸ ⟨DH, hs, hQ _ (by unfold ob)⟩)
              · skip
                refine x_evT (b := (!((rpr ((eT (eTup (cc eI (c1 eI)))) r_frame.2)) == kept))) (et_b (ev_op (ev_cb (ea_cons (evd ((eT (eTup (cc eI (c1 eI)))) r_frame.2) (ev_var rfl)) ea_nil) (c_reprD (d := (eT (eTup (cc eI (c1 eI)))) r_frame.2) (by exact show_rods (up12 (by omega) h_r_frame.2.2.1) (by omega)))) (ev_var rfl) r_neS)) ?_
                refine x_ite (fun hc6 => ?_) (fun hc6 => ?_)
                · skip
                  show (_ : DS) _ [some (.ref a0), some (.ref a_), some (eI lap), some (eI r_frame.1), some ((eT (eTup (cc eI (c1 eI)))) r_frame.2), some ((eT (eTup (cc eI (c1 eI)))) first), some (eS kept), some ((eHl (cc (eT (eTup (cc eI (c1 eI)))) (cc eI (c1 eI)))) told), some ((eL (eTup (cc eI (c1 eI)))) due), none, none, some ((eT (eTup (cc eI (c1 eI)))) some'), none] _
                  exact s_ret (evd (eB false) ev_c) (hrt ▸ ⟨DH, hs, hQ _ (by unfold ob)⟩)
                · skip
                  refine s_skip ?_
                  exact (hE () _ _ (by unfold ob) ⟨_, _, _, _, _, _, _, _, rfl, hs⟩).1
  · obtain ⟨t2, t3, t4, t5, t6, t7, t8, t11, rfl, hs⟩ := hst
    show (_ : DS) _ [some (.ref a0), some (.ref a_), t2, t3, t4, t5, t6, t7, t8, none, none, t11, none] _
    refine n_asg (eT (eTup (cc eI (c1 eI)))) (evd ((eT (eTup (cc eI (c1 eI)))) [((0 : Int), (1 : Int)), ((0 : Int), (2 : Int)), ((0 : Int), (3 : Int)), ((1 : Int), (2 : Int)), ((1 : Int), (3 : Int)), ((2 : Int), (3 : Int))]) (ev_tupK 6 (ea_cons (evd ((eTup (cc eI (c1 eI))) ((0 : Int), (1 : Int))) (ev_tupK 2 (ea_cons (evd (eI (0 : Int)) ev_c) (ea_cons (evd (eI (1 : Int)) ev_c) ea_nil)) rfl (by decide))) (ea_cons (evd ((eTup (cc eI (c1 eI))) ((0 : Int), (2 : Int))) (ev_tupK 2 (ea_cons (evd (eI (0 : Int)) ev_c) (ea_cons (evd (eI (2 : Int)) ev_c) ea_nil)) rfl (by decide))) (ea_cons (evd ((eTup (cc eI (c1 eI))) ((0 : Int), (3 : Int))) (ev_tupK 2 (ea_cons (evd (eI (0 : Int)) ev_c) (ea_cons (evd (eI (3 : Int)) ev_c) ea_nil)) rfl (by decide))) (ea_cons (evd ((eTup (cc eI (c1 eI))) ((1 : Int), (2 : Int))) (ev_tupK 2 (ea_cons (evd (eI (1 : Int)) ev_c) (ea_cons (evd (eI (2 : Int)) ev_c) ea_nil)) rfl (by decide))) (ea_cons (evd ((eTup (cc eI (c1 eI))) ((1 : Int), (3 : Int))) (ev_tupK 2 (ea_cons (evd (eI (1 : Int)) ev_c) (ea_cons (evd (eI (3 : Int)) ev_c) ea_nil)) rfl (by decide))) (ea_cons (evd ((eTup (cc eI (c1 eI))) ((2 : Int), (3 : Int))) (ev_tupK 2 (ea_cons (evd (eI (2 : Int)) ev_c) (ea_cons (evd (eI (3 : Int)) ev_c) ea_nil)) rfl (by decide))) ea_nil)))))) rfl (by decide))) (fun six h_six => ?_)
    show (_ : DS) _ [some (.ref a0), some (.ref a_), t2, t3, t4, t5, t6, t7, t8, none, none, t11, some ((eT (eTup (cc eI (c1 eI)))) six)] _
    refine n_asg (eHl (cc (eT (eTup (cc eI (c1 eI)))) (cc (eT (eTup (cc eI (c1 eI)))) (c1 (eO (eT (eTup (cc eI (c1 eI))))))))) (evd ((eHl (cc (eT (eTup (cc eI (c1 eI)))) (cc (eT (eTup (cc eI (c1 eI)))) (c1 (eO (eT (eTup (cc eI (c1 eI))))))))) ((m_first_free_rods (((4 : Int), six))), (m_needed_rods (((4 : Int), six))), (m_round_of (((4 : Int), (cut six none (some (5 : Int))))) (((2 : Int), (3 : Int)))))) (ev_lstK 3 (ea_cons (evd ((eT (eTup (cc eI (c1 eI)))) (m_first_free_rods (((4 : Int), six)))) (ev_cb (ea_cons (evd ((eTup (cc eI (c1 (eT (eTup (cc eI (c1 eI))))))) ((4 : Int), six)) (ev_tupK 2 (ea_cons (evd (eI (4 : Int)) ev_c) (ea_cons (evd ((eT (eTup (cc eI (c1 eI)))) six) (ev_var rfl)) ea_nil)) rfl (by decide))) ea_nil) (call_first_free_rods (((4 : Int), six)) (by unfold ob) (by rw [h_six]; exact up12 (n := 4) (by decide) six_ok)))) (ea_cons (evd ((eT (eTup (cc eI (c1 eI)))) (m_needed_rods (((4 : Int), six)))) (ev_cb (ea_cons (evd ((eTup (cc eI (c1 (eT (eTup (cc eI (c1 eI))))))) ((4 : Int), six)) (ev_tupK 2 (ea_cons (evd (eI (4 : Int)) ev_c) (ea_cons (evd ((eT (eTup (cc eI (c1 eI)))) six) (ev_var rfl)) ea_nil)) rfl (by decide))) ea_nil) (call_needed_rods (((4 : Int), six)) (by unfold ob) (by rw [h_six]; exact up12 (n := 4) (by decide) six_ok)))) (ea_cons (evd ((eO (eT (eTup (cc eI (c1 eI))))) (m_round_of (((4 : Int), (cut six none (some (5 : Int))))) (((2 : Int), (3 : Int))))) (ev_cb (ea_cons (evd ((eTup (cc eI (c1 (eT (eTup (cc eI (c1 eI))))))) ((4 : Int), (cut six none (some (5 : Int))))) (ev_tupK 2 (ea_cons (evd (eI (4 : Int)) ev_c) (ea_cons (evd ((eT (eTup (cc eI (c1 eI)))) (cut six none (some (5 : Int)))) (ev_slT (e := (eTup (cc eI (c1 eI)))) (xs := six) (evd ((eT (eTup (cc eI (c1 eI)))) six) (ev_var rfl)) eo_none (eo_some ev_c))) ea_nil)) rfl (by decide))) (ea_cons (evd ((eTup (cc eI (c1 eI))) ((2 : Int), (3 : Int))) (ev_tupK 2 (ea_cons (evd (eI (2 : Int)) ev_c) (ea_cons (evd (eI (3 : Int)) ev_c) ea_nil)) rfl (by decide))) ea_nil)) (call_round_of (((4 : Int), (cut six none (some (5 : Int))))) (((2 : Int), (3 : Int))) (by unfold ob) (by rw [h_six]; show (cut six6 none (some 5)).length ≤ 900; rw [six_cut]; decide) (by unfold ob)))) ea_nil))) rfl (by decide))) (fun told1 h_told1 => ?_)
    show (_ : DS) _ [some (.ref a0), some (.ref a_), t2, t3, t4, t5, t6, some ((eHl (cc (eT (eTup (cc eI (c1 eI)))) (cc (eT (eTup (cc eI (c1 eI)))) (c1 (eO (eT (eTup (cc eI (c1 eI))))))))) told1), t8, none, none, t11, some ((eT (eTup (cc eI (c1 eI)))) six)] _
    refine s_last ?_
    exact s_ret (evd (eB (((rpr ((eHl (cc (eT (eTup (cc eI (c1 eI)))) (cc (eT (eTup (cc eI (c1 eI)))) (c1 (eO (eT (eTup (cc eI (c1 eI))))))))) told1)) == (rpr (eD (D.lst [(eT (eTup (cc eI (c1 eI)))) (cut six none (some (5 : Int))), (eT eI) [], (eT (eTup (cc eI (c1 eI)))) six])))))) (ev_op (ev_cb (ea_cons (evd ((eHl (cc (eT (eTup (cc eI (c1 eI)))) (cc (eT (eTup (cc eI (c1 eI)))) (c1 (eO (eT (eTup (cc eI (c1 eI))))))))) told1) (ev_var rfl)) ea_nil) (c_reprD (d := (eHl (cc (eT (eTup (cc eI (c1 eI)))) (cc (eT (eTup (cc eI (c1 eI)))) (c1 (eO (eT (eTup (cc eI (c1 eI))))))))) told1) (by have e : six = six6 := h_six; rw [h_told1, e, six_first, six_needed, six_cut, six_round]; exact show_six))) (ev_cb (ea_cons (evd (eD (D.lst [(eT (eTup (cc eI (c1 eI)))) (cut six none (some (5 : Int))), (eT eI) [], (eT (eTup (cc eI (c1 eI)))) six])) (ev_lstK 3 (ea_cons (evd ((eT (eTup (cc eI (c1 eI)))) (cut six none (some (5 : Int)))) (ev_slT (e := (eTup (cc eI (c1 eI)))) (xs := six) (evd ((eT (eTup (cc eI (c1 eI)))) six) (ev_var rfl)) eo_none (eo_some ev_c))) (ea_cons (evd ((eT eI) []) (ev_tupK 0 ea_nil rfl (by decide))) (ea_cons (evd ((eT (eTup (cc eI (c1 eI)))) six) (ev_var rfl)) ea_nil))) rfl (by decide))) ea_nil) (c_reprD (d := eD (D.lst [(eT (eTup (cc eI (c1 eI)))) (cut six none (some (5 : Int))), (eT eI) [], (eT (eTup (cc eI (c1 eI)))) six])) (by have e : six = six6 := h_six; rw [e, six_cut]; exact show_six))) r_eqS)) ⟨DH, hs, hQ _ (by have e : six = six6 := h_six; rw [h_told1, e, six_first, six_needed, six_cut, six_round]; exact rpr_eq rfl)⟩

end DL

/-! DLA: the defs as they stand at the top. -/
namespace DL
open PySem PySem.Spec PyProof.Rows L2
section
variable {K : PySem.W.Frag} {h : Heap} {mg : Str → Option Value}
def TopDef (K : PySem.W.Frag) (mg : Str → Option Value) (x : Str) (st : Stmt) : Prop := ∃ f fd, Fun K x x st f fd ∧ mg x = some (.ref f)
def TopAt (K : PySem.W.Frag) (x : Str) (st : Stmt) : Prop := ∃ f fd, Fun K x x st f fd ∧ PySem.W.nsIn K mainGlobals x = some (some (.ref f))
theorem TopAt.mk {x : Str} {st : Stmt} {f : Addr} {oc : Value} {od an : Option Addr} {osl : Array (Option Value)} {kV doc pm cdv ct : Value} (a : PySem.W.nsIn K mainGlobals x = some (some (.ref f)))
    (l : K.lookup f = some ⟨oc, od, .func (PySem.W.fnOf x x (defArgs st) (defBody st) (defScope st) .none kV doc pm an cdv ct), osl⟩) (c : PySem.W.codeIn K cdv x = true) (k : PySem.W.keepIn K (.ref f) = true) : TopAt K x st :=
  ⟨f, _, fun_mk l c k, a⟩
theorem TopAt.top {x : Str} {st : Stmt} (t : TopAt K x st) (X : K.In h) (G : h.Ns mainGlobals mg) : TopDef K mg x st := let ⟨f, fd, F, a⟩ := t; ⟨f, fd, F, PySem.W.mg_of X G a⟩
/-- the built-in names are free at the top -/
structure BlK (K : PySem.W.Frag) : Prop where
  all : PySem.W.nsIn K mainGlobals "all" = some none
  any : PySem.W.nsIn K mainGlobals "any" = some none
  abs : PySem.W.nsIn K mainGlobals "abs" = some none
  bool : PySem.W.nsIn K mainGlobals "bool" = some none
  dict : PySem.W.nsIn K mainGlobals "dict" = some none
  enumerate : PySem.W.nsIn K mainGlobals "enumerate" = some none
  int : PySem.W.nsIn K mainGlobals "int" = some none
  isinstance : PySem.W.nsIn K mainGlobals "isinstance" = some none
  len : PySem.W.nsIn K mainGlobals "len" = some none
  list : PySem.W.nsIn K mainGlobals "list" = some none
  max : PySem.W.nsIn K mainGlobals "max" = some none
  min : PySem.W.nsIn K mainGlobals "min" = some none
  range : PySem.W.nsIn K mainGlobals "range" = some none
  repr : PySem.W.nsIn K mainGlobals "repr" = some none
  set : PySem.W.nsIn K mainGlobals "set" = some none
  sorted : PySem.W.nsIn K mainGlobals "sorted" = some none
  str : PySem.W.nsIn K mainGlobals "str" = some none
  sum : PySem.W.nsIn K mainGlobals "sum" = some none
  tuple : PySem.W.nsIn K mainGlobals "tuple" = some none
  zip : PySem.W.nsIn K mainGlobals "zip" = some none
theorem BlK.top (b : BlK K) (X : K.In h) (G : h.Ns mainGlobals mg) : Bl mg :=
  have f := fun {x : Str} (z : PySem.W.nsIn K mainGlobals x = some none) => PySem.W.mg_none_of X G z
  ⟨f b.all, f b.any, f b.abs, f b.bool, f b.dict, f b.enumerate, f b.int, f b.isinstance, f b.len, f b.list, f b.max, f b.min, f b.range, f b.repr, f b.set, f b.sorted, f b.str, f b.sum, f b.tuple, f b.zip⟩
end
end DL

namespace DL
open PySem PySem.Spec PyProof.Rows L2
def topS (i : Nat) : Stmt := PySem.Challenge.pw_firmframes_k14_whole_free_rods_and_ranks.main.body.getD i (.Pass ⟨0, 0, 0, 0⟩)

/-! ### rods_within_lot -/
abbrev st_rods_within_lot : Stmt := topS 1
theorem sc_rods_within_lot : FnScope ["rods", "lot", "rod"] ["rods", "lot"] (defScope st_rods_within_lot) := ⟨rfl, rfl, rfl, by decide +kernel, rfl, by decide +kernel, by decide +kernel⟩
theorem bd_rods_within_lot {P : Program} {w : World} {K : PySem.W.Frag} {mg : Str → Option Value} {base : Heap} (b : Bl mg)  {f : Addr} {cdv : Value} {A : Around} {outer : List Env} {s : Shared} {H : Hp} (hr : Room 0 (A.deeper (envOfC "rods_within_lot" (defScope st_rods_within_lot) s.heap.objs.size f cdv))) :
    QSs (cxOf CX0 P w K mg base ["rods", "lot", "rod"] "rods_within_lot" (defScope st_rods_within_lot) f cdv A outer s H E0).nox (defBody st_rods_within_lot) (rd_rods_within_lot) := by
  have sc := sc_rods_within_lot
  exact (qss_one (qs_ret (qe_callTy cd_tuple (by rfl) b.tuple (by decide +kernel) (qa_cons (qe_lc (mu := false) (own := [(Str.ofString "rod", 2)]) rfl sc.nd (qi_seq (qv 0)) (blkOk_by (by kernel_rfl)) (fun _ _ _ _ _ => (qg_name (i := 2) sc.nd)) (fun _ _ _ _ _ => (qts_one ((qw_and (qt_cmp (od_in (room65 hr)) (qe_ix (qv 2) qe_int) (qv 1)) (qw_and1 (qt_cmp (od_in (room65 hr)) (qe_ix (qv 2) qe_int) (qv 1))))).qt)) (fun _ _ _ _ _ => (qv 2))) qa_nil))))

/-! ### lot_room -/
abbrev st_lot_room : Stmt := topS 2
theorem sc_lot_room : FnScope ["lot"] ["lot"] (defScope st_lot_room) := ⟨rfl, rfl, rfl, by decide +kernel, rfl, by decide +kernel, by decide +kernel⟩
theorem bd_lot_room {P : Program} {w : World} {K : PySem.W.Frag} {mg : Str → Option Value} {base : Heap} (b : Bl mg)  {f : Addr} {cdv : Value} {A : Around} {outer : List Env} {s : Shared} {H : Hp} (hr : Room 0 (A.deeper (envOfC "lot_room" (defScope st_lot_room) s.heap.objs.size f cdv))) :
    QSs (cxOf CX0 P w K mg base ["lot"] "lot_room" (defScope st_lot_room) f cdv A outer s H E0).nox (defBody st_lot_room) (rd_lot_room) := by
  have sc := sc_lot_room
  exact (qss_one (qs_ret (qe_op od_sub (qe_op od_mul qe_int (qe_callB cd_len (by rfl) b.len (by decide +kernel) (qa_cons (qv 0) qa_nil))) qe_int)))

/-! ### lots_of_joints -/
abbrev st_lots_of_joints : Stmt := topS 3
theorem sc_lots_of_joints : FnScope ["n", "found", "joint", "lot"] ["n"] (defScope st_lots_of_joints) := ⟨rfl, rfl, rfl, by decide +kernel, rfl, by decide +kernel, by decide +kernel⟩
theorem bd_lots_of_joints {P : Program} {w : World} {K : PySem.W.Frag} {mg : Str → Option Value} {base : Heap} (b : Bl mg)  {f : Addr} {cdv : Value} {A : Around} {outer : List Env} {s : Shared} {H : Hp} (hr : Room 0 (A.deeper (envOfC "lots_of_joints" (defScope st_lots_of_joints) s.heap.objs.size f cdv))) :
    QSs (cxOf CX0 P w K mg base ["n", "found", "joint", "lot"] "lots_of_joints" (defScope st_lots_of_joints) f cdv A outer s H E0).nox (defBody st_lots_of_joints) (rd_lots_of_joints) := by
  have sc := sc_lots_of_joints
  exact (qss_cons (qs_set (i := 1) sc.nd (qe_lst (qa_cons (qe_tup qa_nil) qa_nil)))
    (qss_cons (qs_for PassesOwn.never rfl (qi_range1 (by rfl) b.range (qa_cons (qv 0) qa_nil)) (qg_name (i := 2) sc.nd) (qss_one (qs_set (i := 1) sc.nd (qe_op od_add (qv 1) (qe_lc (mu := false) (own := [(Str.ofString "lot", 3)]) rfl sc.nd (qi_seq (qv 1)) (blkOk_by (by kernel_rfl)) (fun _ _ _ _ _ => (qg_name (i := 3) sc.nd)) (fun _ _ _ _ _ => qts_nil) (fun _ _ _ _ _ => (qe_op od_add (qv 3) (qe_tup (qa_cons (qv 2) qa_nil)))))))))
    (qss_one (qs_ret (qe_callB (cd_sortedX (mu := false)) (by rfl) b.sorted (by decide +kernel) (qa_cons (qe_lc (mu := false) (own := [(Str.ofString "lot", 3)]) rfl sc.nd (qi_seq (qv 1)) (blkOk_by (by kernel_rfl)) (fun _ _ _ _ _ => (qg_name (i := 3) sc.nd)) (fun _ _ _ _ _ => (qts_one (qt_cmp od_gt (qe_callB cd_len (by rfl) b.len (by decide +kernel) (qa_cons (qv 3) qa_nil)) qe_int))) (fun _ _ _ _ _ => (qv 3))) qa_nil))))))

/-! ### full_lots -/
abbrev st_full_lots : Stmt := topS 4
theorem sc_full_lots : FnScope ["frame", "n", "rods", "lot"] ["frame"] (defScope st_full_lots) := ⟨rfl, rfl, rfl, by decide +kernel, rfl, by decide +kernel, by decide +kernel⟩
theorem bd_full_lots {P : Program} {w : World} {K : PySem.W.Frag} {mg : Str → Option Value} {base : Heap} (b : Bl mg) (h_rods_within_lot : Has P w K mg base 1 "rods_within_lot" sp_rods_within_lot) (h_lot_room : Has P w K mg base 1 "lot_room" sp_lot_room) (h_lots_of_joints : Has P w K mg base 1 "lots_of_joints" sp_lots_of_joints) {f : Addr} {cdv : Value} {A : Around} {outer : List Env} {s : Shared} {H : Hp} (hr : Room 1 (A.deeper (envOfC "full_lots" (defScope st_full_lots) s.heap.objs.size f cdv))) :
    QSs (cxOf CX0 P w K mg base ["frame", "n", "rods", "lot"] "full_lots" (defScope st_full_lots) f cdv A outer s H E0).nox (defBody st_full_lots) (rd_full_lots) := by
  have sc := sc_full_lots
  exact (qss_cons (qs_asg (qv 0) (qg_tup rfl (qgs_cons (qg_name (i := 1) sc.nd) (qgs_cons (qg_name (i := 2) sc.nd) qgs_nil))))
    (qss_one (qs_ret (qe_callTy cd_tuple (by rfl) b.tuple (by decide +kernel) (qa_cons (qe_lc (mu := false) (own := [(Str.ofString "lot", 3)]) rfl sc.nd (qi_seq (qe_own h_lots_of_joints (hr.mono (by decide)) (by rfl) (qa_cons (qv 1) qa_nil))) (blkOk_by (by kernel_rfl)) (fun _ _ _ _ _ => (qg_name (i := 3) sc.nd)) (fun _ _ _ _ _ => (qts_one (qt_cmp (od_eq (room64 hr)) (qe_callB cd_len (by rfl) b.len (by decide +kernel) (qa_cons (qe_own h_rods_within_lot (hr.mono (by decide)) (by rfl) (qa_cons (qv 2) (qa_cons (qv 3) qa_nil))) qa_nil)) (qe_own h_lot_room (hr.mono (by decide)) (by rfl) (qa_cons (qv 3) qa_nil))))) (fun _ _ _ _ _ => (qv 3))) qa_nil)))))

/-! ### least_full_lot -/
abbrev st_least_full_lot : Stmt := topS 5
theorem sc_least_full_lot : FnScope ["frame", "a", "b", "found", "lot"] ["frame", "a", "b"] (defScope st_least_full_lot) := ⟨rfl, rfl, rfl, by decide +kernel, rfl, by decide +kernel, by decide +kernel⟩
theorem bd_least_full_lot {P : Program} {w : World} {K : PySem.W.Frag} {mg : Str → Option Value} {base : Heap} (b : Bl mg) (h_full_lots : Has P w K mg base 2 "full_lots" sp_full_lots) {f : Addr} {cdv : Value} {A : Around} {outer : List Env} {s : Shared} {H : Hp} (hr : Room 2 (A.deeper (envOfC "least_full_lot" (defScope st_least_full_lot) s.heap.objs.size f cdv))) :
    QSs (cxOf CX0 P w K mg base ["frame", "a", "b", "found", "lot"] "least_full_lot" (defScope st_least_full_lot) f cdv A outer s H E0).nox (defBody st_least_full_lot) (rd_least_full_lot) := by
  have sc := sc_least_full_lot
  exact (qss_cons (qs_set (i := 3) sc.nd qe_non)
    (qss_cons (qs_for PassesOwn.never rfl (qi_seq (qe_own h_full_lots (hr.mono (by decide)) (by rfl) (qa_cons (qv 0) qa_nil))) (qg_name (i := 4) sc.nd) (qss_one (qs_if ((qw_and (qt_cmp (od_in (room65 hr)) (qv 1) (qv 4)) (qw_and (qt_cmp (od_in (room65 hr)) (qv 2) (qv 4)) (qw_and1 ((qw_or (qt_cmp od_is (qv 3) qe_non) (qw_or1 (qt_cmp od_lt (qe_callB cd_len (by rfl) b.len (by decide +kernel) (qa_cons (qv 4) qa_nil)) (qe_callB cd_len (by rfl) b.len (by decide +kernel) (qa_cons (qv 3) qa_nil)))))).qt)))).qt (qss_one (qs_set (i := 3) sc.nd (qv 4))) qss_nil)))
    (qss_one (qs_ret (qv 3)))))

/-! ### kept_by -/
abbrev st_kept_by : Stmt := topS 7
theorem sc_kept_by : FnScope ["keeper", "joint", "rod"] ["keeper", "joint"] (defScope st_kept_by) := ⟨rfl, rfl, rfl, by decide +kernel, rfl, by decide +kernel, by decide +kernel⟩
theorem bd_kept_by {P : Program} {w : World} {K : PySem.W.Frag} {mg : Str → Option Value} {base : Heap} (b : Bl mg)  {f : Addr} {cdv : Value} {A : Around} {outer : List Env} {s : Shared} {H : Hp} (hr : Room 0 (A.deeper (envOfC "kept_by" (defScope st_kept_by) s.heap.objs.size f cdv))) :
    QSs (cxOf CX0 P w K mg base ["keeper", "joint", "rod"] "kept_by" (defScope st_kept_by) f cdv A outer s H E0).nox (defBody st_kept_by) (rd_kept_by) := by
  have sc := sc_kept_by
  exact (qss_one (qs_ret (qe_lock (qe_lc (mu := false) (own := [(Str.ofString "rod", 2)]) rfl sc.nd (qi_keys (qv 0)) (blkOk_by (by kernel_rfl)) (fun _ _ _ _ _ => (qg_name (i := 2) sc.nd)) (fun _ _ _ _ _ => (qts_one (qt_cmp (od_eq (room64 hr)) (qe_dget (hu_of hr) (qv 0) (qv 2)) (qv 1)))) (fun _ _ _ _ _ => (qv 2))))))

/-! ### spared -/
abbrev st_spared : Stmt := topS 8
theorem sc_spared : FnScope ["keeper", "joint", "barred", "ways", "line", "here", "rod", "there"] ["keeper", "joint", "barred"] (defScope st_spared) := ⟨rfl, rfl, rfl, by decide +kernel, rfl, by decide +kernel, by decide +kernel⟩
theorem bd_spared {P : Program} {w : World} {K : PySem.W.Frag} {mg : Str → Option Value} {base : Heap} (b : Bl mg) (h_kept_by : Has P w K mg base 1 "kept_by" sp_kept_by) (h_moved_along : Has P w K mg base 1 "moved_along" sp_moved_along) {f : Addr} {cdv : Value} {A : Around} {outer : List Env} {s : Shared} {H : Hp} (hr : Room 1 (A.deeper (envOfC "spared" (defScope st_spared) s.heap.objs.size f cdv))) :
    QSs (cxOf CX0 P w K mg base ["keeper", "joint", "barred", "ways", "line", "here", "rod", "there"] "spared" (defScope st_spared) f cdv A outer s H E0).nox (defBody st_spared) (rd_spared) := by
  have sc := sc_spared
  exact (qss_cons (qs_par (i := 3) (j := 4) rfl sc.nd (qa_cons (qe_disp (qps_cons (qv 1) qe_non (qps_cons (qv 2) qe_non qps_nil))) (qa_cons (qe_lstM (qa_cons (qv 1) qa_nil)) qa_nil)))
    (qss_cons (qs_while PassesOwn.never (qt_cmp (od_ne (room64 hr)) (qv 4) (qe_lst qa_nil)) (qss_cons (qs_set (i := 5) sc.nd (qe_bm0 PySem.F.plainAttrs_list PySem.F.slot_list_pop PySem.F.type_list_pop md_pop (qv 4)))
    (qss_one (qs_for PassesOwn.never rfl (qi_seq (qe_own h_kept_by (hr.mono (by decide)) (by rfl) (qa_cons (qv 0) (qa_cons (qv 5) qa_nil)))) (qg_name (i := 6) sc.nd) (qss_cons (qs_set (i := 7) sc.nd (qe_op od_sub (qe_op od_add (qe_ix (qv 6) qe_int) (qe_ix (qv 6) qe_int)) (qv 5)))
    (qss_one (qs_if (qt_dnotin (hu_of hr) (qv 7) (qv 3)) (qss_cons (qs_store (hu_of hr) (qv 3) (qv 7) (qe_tup (qa_cons (qv 5) (qa_cons (qv 6) qa_nil))))
    (qss_cons (qs_expr (qe_bm PySem.F.plainAttrs_list PySem.F.slot_list_append PySem.F.type_list_append md_append (qv 4) (qa_cons (qv 7) qa_nil)))
    (qss_one (qs_if (qt_cmp od_lt (qe_callB cd_len (by rfl) b.len (by decide +kernel) (qa_cons (qe_own h_kept_by (hr.mono (by decide)) (by rfl) (qa_cons (qv 0) (qa_cons (qv 7) qa_nil))) qa_nil)) qe_int) (qss_one (qs_ret (qe_own h_moved_along (hr.mono (by decide)) (by rfl) (qa_cons (qv 0) (qa_cons (qv 3) (qa_cons (qv 7) qa_nil)))))) qss_nil)))) qss_nil)))))))
    (qss_one (qs_ret qe_non))))

/-! ### moved_along -/
abbrev st_moved_along : Stmt := topS 9
theorem sc_moved_along : FnScope ["keeper", "ways", "joint", "late", "here", "rod"] ["keeper", "ways", "joint"] (defScope st_moved_along) := ⟨rfl, rfl, rfl, by decide +kernel, rfl, by decide +kernel, by decide +kernel⟩
theorem bd_moved_along {P : Program} {w : World} {K : PySem.W.Frag} {mg : Str → Option Value} {base : Heap} (b : Bl mg)  {f : Addr} {cdv : Value} {A : Around} {outer : List Env} {s : Shared} {H : Hp} (hr : Room 0 (A.deeper (envOfC "moved_along" (defScope st_moved_along) s.heap.objs.size f cdv))) :
    QSs (cxOf CX0 P w K mg base ["keeper", "ways", "joint", "late", "here", "rod"] "moved_along" (defScope st_moved_along) f cdv A outer s H E0).nox (defBody st_moved_along) (rd_moved_along) := by
  have sc := sc_moved_along
  exact (qss_cons (qs_set (i := 3) sc.nd (qe_callTy (cd_dictC (room4 hr)) (by rfl) b.dict (by decide +kernel) (qa_cons (qv 0) qa_nil)))
    (qss_cons (qs_while PassesOwn.never (qt_cmp od_isnot (qe_dget (hu_of hr) (qv 1) (qv 2)) qe_non) (qss_cons (qs_asg (qe_dget (hu_of hr) (qv 1) (qv 2)) (qg_tup rfl (qgs_cons (qg_name (i := 4) sc.nd) (qgs_cons (qg_name (i := 5) sc.nd) qgs_nil))))
    (qss_cons (qs_store (hu_of hr) (qv 3) (qv 5) (qv 2))
    (qss_one (qs_set (i := 2) sc.nd (qv 4))))))
    (qss_one (qs_ret (qv 3)))))

/-! ### settled -/
abbrev st_settled : Stmt := topS 10
theorem sc_settled : FnScope ["keeper", "a", "b", "one", "other"] ["keeper", "a", "b"] (defScope st_settled) := ⟨rfl, rfl, rfl, by decide +kernel, rfl, by decide +kernel, by decide +kernel⟩
theorem bd_settled {P : Program} {w : World} {K : PySem.W.Frag} {mg : Str → Option Value} {base : Heap} (b : Bl mg) (h_kept_by : Has P w K mg base 1 "kept_by" sp_kept_by) (h_spared : Has P w K mg base 2 "spared" sp_spared) {f : Addr} {cdv : Value} {A : Around} {outer : List Env} {s : Shared} {H : Hp} (hr : Room 2 (A.deeper (envOfC "settled" (defScope st_settled) s.heap.objs.size f cdv))) :
    QSs (cxOf CX0 P w K mg base ["keeper", "a", "b", "one", "other"] "settled" (defScope st_settled) f cdv A outer s H E0).nox (defBody st_settled) (rd_settled) := by
  have sc := sc_settled
  exact (qss_cons (qs_for PassesOwn.never rfl (qi_seq (qe_tup (qa_cons (qe_tup (qa_cons (qv 1) (qa_cons (qv 2) qa_nil))) (qa_cons (qe_tup (qa_cons (qv 2) (qa_cons (qv 1) qa_nil))) qa_nil)))) (qg_tup rfl (qgs_cons (qg_name (i := 3) sc.nd) (qgs_cons (qg_name (i := 4) sc.nd) qgs_nil))) (qss_one (qs_while PassesOwn.never ((qw_and (qt_cmp od_isnot (qv 0) qe_non) (qw_and1 (qt_cmp (od_ne (room64 hr)) (qe_own h_kept_by (hr.mono (by decide)) (by rfl) (qa_cons (qv 0) (qa_cons (qv 3) qa_nil))) (qe_lst qa_nil))))).qt (qss_one (qs_set (i := 0) sc.nd (qe_own h_spared (hr.mono (by decide)) (by rfl) (qa_cons (qv 0) (qa_cons (qv 3) (qa_cons (qv 4) qa_nil)))))))))
    (qss_one (qs_ret (qv 0))))

/-! ### taken_freely -/
abbrev st_taken_freely : Stmt := topS 11
theorem sc_taken_freely : FnScope ["start", "rods", "keeper", "found", "number", "a", "b", "late"] ["start", "rods"] (defScope st_taken_freely) := ⟨rfl, rfl, rfl, by decide +kernel, rfl, by decide +kernel, by decide +kernel⟩
theorem bd_taken_freely {P : Program} {w : World} {K : PySem.W.Frag} {mg : Str → Option Value} {base : Heap} (b : Bl mg) (h_settled : Has P w K mg base 3 "settled" sp_settled) {f : Addr} {cdv : Value} {A : Around} {outer : List Env} {s : Shared} {H : Hp} (hr : Room 3 (A.deeper (envOfC "taken_freely" (defScope st_taken_freely) s.heap.objs.size f cdv))) :
    QSs (cxOf CX0 P w K mg base ["start", "rods", "keeper", "found", "number", "a", "b", "late"] "taken_freely" (defScope st_taken_freely) f cdv A outer s H E0).nox (defBody st_taken_freely) (rd_taken_freely) := by
  have sc := sc_taken_freely
  exact (qss_cons (qs_par (i := 2) (j := 3) rfl sc.nd (qa_cons qe_newT (qa_cons (qe_lstM qa_nil) qa_nil)))
    (qss_cons (qs_for PassesOwn.never rfl (qi_enum (by rfl) b.enumerate (qa_cons (qe_op od_add (qe_callTy (cd_list (mu := false)) (by rfl) b.list (by decide +kernel) (qa_cons (qv 0) qa_nil)) (qe_callTy (cd_list (mu := false)) (by rfl) b.list (by decide +kernel) (qa_cons (qv 1) qa_nil))) qa_nil)) (qg_tup rfl (qgs_cons (qg_name (i := 4) sc.nd) (qgs_cons (qg_tup rfl (qgs_cons (qg_name (i := 5) sc.nd) (qgs_cons (qg_name (i := 6) sc.nd) qgs_nil))) qgs_nil))) (qss_cons (qs_set (i := 7) sc.nd (qe_own h_settled (hr.mono (by decide)) (by rfl) (qa_cons (qv 2) (qa_cons (qv 5) (qa_cons (qv 6) qa_nil)))))
    (qss_one (qs_if ((qw_and (qt_cmp od_isnot (qv 7) qe_non) (qw_and1 (qt_dnotin (hu_of hr) (qe_tup (qa_cons (qv 5) (qa_cons (qv 6) qa_nil))) (qv 7))))).qt (qss_cons (qs_set (i := 2) sc.nd (qv 7))
    (qss_cons (qs_store (hu_of hr) (qv 2) (qe_tup (qa_cons (qv 5) (qa_cons (qv 6) qa_nil))) (qv 5))
    (qss_one (qs_if (qt_cmp od_ge (qv 4) (qe_callB cd_len (by rfl) b.len (by decide +kernel) (qa_cons (qv 0) qa_nil))) (qss_one (qs_expr (qe_bm PySem.F.plainAttrs_list PySem.F.slot_list_append PySem.F.type_list_append md_append (qv 3) (qa_cons (qe_tup (qa_cons (qv 5) (qa_cons (qv 6) qa_nil))) qa_nil)))) qss_nil)))) qss_nil))))
    (qss_one (qs_ret (qe_frz (qv 3))))))

/-! ### first_free_rods -/
abbrev st_first_free_rods : Stmt := topS 12
theorem sc_first_free_rods : FnScope ["frame"] ["frame"] (defScope st_first_free_rods) := ⟨rfl, rfl, rfl, by decide +kernel, rfl, by decide +kernel, by decide +kernel⟩
theorem bd_first_free_rods {P : Program} {w : World} {K : PySem.W.Frag} {mg : Str → Option Value} {base : Heap} (b : Bl mg) (h_taken_freely : Has P w K mg base 4 "taken_freely" sp_taken_freely) {f : Addr} {cdv : Value} {A : Around} {outer : List Env} {s : Shared} {H : Hp} (hr : Room 4 (A.deeper (envOfC "first_free_rods" (defScope st_first_free_rods) s.heap.objs.size f cdv))) :
    QSs (cxOf CX0 P w K mg base ["frame"] "first_free_rods" (defScope st_first_free_rods) f cdv A outer s H E0).nox (defBody st_first_free_rods) (rd_first_free_rods) := by
  have sc := sc_first_free_rods
  exact (qss_one (qs_ret (qe_callTy cd_tuple (by rfl) b.tuple (by decide +kernel) (qa_cons (qe_own h_taken_freely (hr.mono (by decide)) (by rfl) (qa_cons (qe_tup qa_nil) (qa_cons (qe_ix (qv 0) qe_int) qa_nil))) qa_nil))))

/-! ### free_rank -/
abbrev st_free_rank : Stmt := topS 13
theorem sc_free_rank : FnScope ["frame"] ["frame"] (defScope st_free_rank) := ⟨rfl, rfl, rfl, by decide +kernel, rfl, by decide +kernel, by decide +kernel⟩
theorem bd_free_rank {P : Program} {w : World} {K : PySem.W.Frag} {mg : Str → Option Value} {base : Heap} (b : Bl mg) (h_first_free_rods : Has P w K mg base 5 "first_free_rods" sp_first_free_rods) {f : Addr} {cdv : Value} {A : Around} {outer : List Env} {s : Shared} {H : Hp} (hr : Room 5 (A.deeper (envOfC "free_rank" (defScope st_free_rank) s.heap.objs.size f cdv))) :
    QSs (cxOf CX0 P w K mg base ["frame"] "free_rank" (defScope st_free_rank) f cdv A outer s H E0).nox (defBody st_free_rank) (rd_free_rank) := by
  have sc := sc_free_rank
  exact (qss_one (qs_ret (qe_callB cd_len (by rfl) b.len (by decide +kernel) (qa_cons (qe_own h_first_free_rods (hr.mono (by decide)) (by rfl) (qa_cons (qv 0) qa_nil)) qa_nil))))

/-! ### lack_of -/
abbrev st_lack_of : Stmt := topS 14
theorem sc_lack_of : FnScope ["frame"] ["frame"] (defScope st_lack_of) := ⟨rfl, rfl, rfl, by decide +kernel, rfl, by decide +kernel, by decide +kernel⟩
theorem bd_lack_of {P : Program} {w : World} {K : PySem.W.Frag} {mg : Str → Option Value} {base : Heap} (b : Bl mg) (h_free_rank : Has P w K mg base 6 "free_rank" sp_free_rank) {f : Addr} {cdv : Value} {A : Around} {outer : List Env} {s : Shared} {H : Hp} (hr : Room 6 (A.deeper (envOfC "lack_of" (defScope st_lack_of) s.heap.objs.size f cdv))) :
    QSs (cxOf CX0 P w K mg base ["frame"] "lack_of" (defScope st_lack_of) f cdv A outer s H E0).nox (defBody st_lack_of) (rd_lack_of) := by
  have sc := sc_lack_of
  exact (qss_one (qs_ret (qe_op od_sub (qe_op od_sub (qe_op od_mul qe_int (qe_ix (qv 0) qe_int)) qe_int) (qe_own h_free_rank (hr.mono (by decide)) (by rfl) (qa_cons (qv 0) qa_nil)))))

/-! ### needed_rods -/
abbrev st_needed_rods : Stmt := topS 15
theorem sc_needed_rods : FnScope ["frame", "n", "rods", "many", "rod", "one"] ["frame"] (defScope st_needed_rods) := ⟨rfl, rfl, rfl, by decide +kernel, rfl, by decide +kernel, by decide +kernel⟩
theorem bd_needed_rods {P : Program} {w : World} {K : PySem.W.Frag} {mg : Str → Option Value} {base : Heap} (b : Bl mg) (h_taken_freely : Has P w K mg base 4 "taken_freely" sp_taken_freely) (h_free_rank : Has P w K mg base 6 "free_rank" sp_free_rank) {f : Addr} {cdv : Value} {A : Around} {outer : List Env} {s : Shared} {H : Hp} (hr : Room 6 (A.deeper (envOfC "needed_rods" (defScope st_needed_rods) s.heap.objs.size f cdv))) :
    QSs (cxOf CX0 P w K mg base ["frame", "n", "rods", "many", "rod", "one"] "needed_rods" (defScope st_needed_rods) f cdv A outer s H E0).nox (defBody st_needed_rods) (rd_needed_rods) := by
  have sc := sc_needed_rods
  exact (qss_cons (qs_asg (qv 0) (qg_tup rfl (qgs_cons (qg_name (i := 1) sc.nd) (qgs_cons (qg_name (i := 2) sc.nd) qgs_nil))))
    (qss_cons (qs_set (i := 3) sc.nd (qe_own h_free_rank (hr.mono (by decide)) (by rfl) (qa_cons (qv 0) qa_nil)))
    (qss_one (qs_ret (qe_callTy cd_tuple (by rfl) b.tuple (by decide +kernel) (qa_cons (qe_lc (mu := false) (own := [(Str.ofString "rod", 4)]) rfl sc.nd (qi_seq (qv 2)) (blkOk_by (by kernel_rfl)) (fun _ _ _ _ _ => (qg_name (i := 4) sc.nd)) (fun _ _ _ _ _ => (qts_one (qt_cmp od_lt (qe_callB cd_len (by rfl) b.len (by decide +kernel) (qa_cons (qe_own h_taken_freely (hr.mono (by decide)) (by rfl) (qa_cons (qe_tup qa_nil) (qa_cons (qe_lc (mu := false) (own := [(Str.ofString "one", 5)]) rfl sc.nd (qi_seq (qv 2)) (blkOk_by (by kernel_rfl)) (fun _ _ _ _ _ => (qg_name (i := 5) sc.nd)) (fun _ _ _ _ _ => (qts_one (qt_cmp (od_ne (room64 hr)) (qv 5) (qv 4)))) (fun _ _ _ _ _ => (qv 5))) qa_nil))) qa_nil)) (qv 3)))) (fun _ _ _ _ _ => (qv 4))) qa_nil))))))

/-! ### can_be_put -/
abbrev st_can_be_put : Stmt := topS 16
theorem sc_can_be_put : FnScope ["frame", "rod"] ["frame", "rod"] (defScope st_can_be_put) := ⟨rfl, rfl, rfl, by decide +kernel, rfl, by decide +kernel, by decide +kernel⟩
theorem bd_can_be_put {P : Program} {w : World} {K : PySem.W.Frag} {mg : Str → Option Value} {base : Heap} (b : Bl mg) (h_taken_freely : Has P w K mg base 4 "taken_freely" sp_taken_freely) {f : Addr} {cdv : Value} {A : Around} {outer : List Env} {s : Shared} {H : Hp} (hr : Room 4 (A.deeper (envOfC "can_be_put" (defScope st_can_be_put) s.heap.objs.size f cdv))) :
    QSs (cxOf CX0 P w K mg base ["frame", "rod"] "can_be_put" (defScope st_can_be_put) f cdv A outer s H E0).nox (defBody st_can_be_put) (rd_can_be_put) := by
  have sc := sc_can_be_put
  exact (qss_one (qs_ret (qe_cmp (od_eq (room64 hr)) (qe_callB cd_len (by rfl) b.len (by decide +kernel) (qa_cons (qe_own h_taken_freely (hr.mono (by decide)) (by rfl) (qa_cons (qe_ix (qv 0) qe_int) (qa_cons (qe_tup (qa_cons (qv 1) qa_nil)) qa_nil))) qa_nil)) qe_int)))

/-! ### round_of -/
abbrev st_round_of : Stmt := topS 17
theorem sc_round_of : FnScope ["frame", "rod", "lot"] ["frame", "rod"] (defScope st_round_of) := ⟨rfl, rfl, rfl, by decide +kernel, rfl, by decide +kernel, by decide +kernel⟩
theorem bd_round_of {P : Program} {w : World} {K : PySem.W.Frag} {mg : Str → Option Value} {base : Heap} (b : Bl mg) (h_rods_within_lot : Has P w K mg base 1 "rods_within_lot" sp_rods_within_lot) (h_least_full_lot : Has P w K mg base 3 "least_full_lot" sp_least_full_lot) {f : Addr} {cdv : Value} {A : Around} {outer : List Env} {s : Shared} {H : Hp} (hr : Room 3 (A.deeper (envOfC "round_of" (defScope st_round_of) s.heap.objs.size f cdv))) :
    QSs (cxOf CX0 P w K mg base ["frame", "rod", "lot"] "round_of" (defScope st_round_of) f cdv A outer s H E0).nox (defBody st_round_of) (rd_round_of) := by
  have sc := sc_round_of
  exact (qss_cons (qs_set (i := 2) sc.nd (qe_own h_least_full_lot (hr.mono (by decide)) (by rfl) (qa_cons (qv 0) (qa_cons (qe_ix (qv 1) qe_int) (qa_cons (qe_ix (qv 1) qe_int) qa_nil)))))
    (qss_one (qs_ret (qe_if (qt_cmp od_is (qv 2) qe_non) qe_non (qe_callTy cd_tuple (by rfl) b.tuple (by decide +kernel) (qa_cons (qe_callB (cd_sortedX (mu := false)) (by rfl) b.sorted (by decide +kernel) (qa_cons (qe_op od_add (qe_own h_rods_within_lot (hr.mono (by decide)) (by rfl) (qa_cons (qe_ix (qv 0) qe_int) (qa_cons (qv 2) qa_nil))) (qe_tup (qa_cons (qv 1) qa_nil))) qa_nil)) qa_nil))))))

/-! ### exchanged_rod -/
abbrev st_exchanged_rod : Stmt := topS 18
theorem sc_exchanged_rod : FnScope ["frame", "one", "other", "some", "rod"] ["frame", "one", "other"] (defScope st_exchanged_rod) := ⟨rfl, rfl, rfl, by decide +kernel, rfl, by decide +kernel, by decide +kernel⟩
theorem bd_exchanged_rod {P : Program} {w : World} {K : PySem.W.Frag} {mg : Str → Option Value} {base : Heap} (b : Bl mg) (h_taken_freely : Has P w K mg base 4 "taken_freely" sp_taken_freely) {f : Addr} {cdv : Value} {A : Around} {outer : List Env} {s : Shared} {H : Hp} (hr : Room 4 (A.deeper (envOfC "exchanged_rod" (defScope st_exchanged_rod) s.heap.objs.size f cdv))) :
    QSs (cxOf CX0 P w K mg base ["frame", "one", "other", "some", "rod"] "exchanged_rod" (defScope st_exchanged_rod) f cdv A outer s H E0).nox (defBody st_exchanged_rod) (rd_exchanged_rod) := by
  have sc := sc_exchanged_rod
  exact (qss_cons (qs_setLc (i := 3) (mu := false) (own := [(Str.ofString "rod", 4)]) rfl sc.nd (qi_seq (qv 2)) (blkOk_by (by kernel_rfl)) (fun _ _ _ _ _ => (qg_name (i := 4) sc.nd)) (fun _ _ _ _ _ => (qts_one ((qw_and (qt_cmp (od_notin (room65 hr)) (qv 4) (qv 1)) (qw_and1 (qt_cmp (od_eq (room64 hr)) (qe_callB cd_len (by rfl) b.len (by decide +kernel) (qa_cons (qe_own h_taken_freely (hr.mono (by decide)) (by rfl) (qa_cons (qv 1) (qa_cons (qe_tup (qa_cons (qv 4) qa_nil)) qa_nil))) qa_nil)) qe_int)))).qt)) (fun _ _ _ _ _ => (qv 4)))
    (qss_one (qs_ret (qe_ix (qv 3) qe_int))))

/-! ### _law_source -/
abbrev st_law_source : Stmt := topS 20
theorem sc_law_source : FnScope ["script", "mixed", "cell"] ["script"] (defScope st_law_source) := ⟨rfl, rfl, rfl, by decide +kernel, rfl, by decide +kernel, by decide +kernel⟩
theorem bd_law_source {P : Program} {w : World} {K : PySem.W.Frag} {mg : Str → Option Value} {base : Heap} (b : Bl mg)  {f : Addr} {cdv : Value} {A : Around} {outer : List Env} {s : Shared} {H : Hp} (hr : Room 0 (A.deeper (envOfC "_law_source" (defScope st_law_source) s.heap.objs.size f cdv))) :
    QSs (cxOf CX0 P w K mg base ["script", "mixed", "cell"] "_law_source" (defScope st_law_source) f cdv A outer s H E0).nox (defBody st_law_source) (rd_law_source K) := by
  have sc := sc_law_source
  exact (qss_cons (qs_set (i := 1) sc.nd qe_int)
    (qss_cons (qs_for PassesOwn.never rfl (qi_scr (qv 0)) (qg_name (i := 2) sc.nd) (qss_one (qs_set (i := 1) sc.nd (qe_op od_mod (qe_callTy cd_int (by rfl) b.int (by decide +kernel) (qa_cons (qe_op od_add (qe_op od_add (qe_op od_mul (qv 1) qe_int) (qe_op od_mul (qv 2) qe_int)) qe_int) qa_nil)) qe_int))))
    (qss_one (qs_ret (qe_disp (qps_cons qe_str (qe_rev (mu := true) (qe_lc (mu := false) (own := [(Str.ofString "cell", 2)]) rfl sc.nd (qi_scr (qv 0)) (blkOk_by (by kernel_rfl)) (fun _ _ _ _ _ => (qg_name (i := 2) sc.nd)) (fun _ _ _ _ _ => qts_nil) (fun _ _ _ _ _ => (qe_callB cd_abs (by rfl) b.abs (by decide +kernel) (qa_cons (qv 2) qa_nil))))) (qps_cons qe_str qe_int (qps_cons qe_str (qv 1) (qps_cons qe_str qe_int qps_nil)))))))))

/-! ### _law_pick -/
abbrev st_law_pick : Stmt := topS 21
theorem sc_law_pick : FnScope ["source", "many", "left", "mixed"] ["source", "many"] (defScope st_law_pick) := ⟨rfl, rfl, rfl, by decide +kernel, rfl, by decide +kernel, by decide +kernel⟩
theorem bd_law_pick {P : Program} {w : World} {K : PySem.W.Frag} {mg : Str → Option Value} {base : Heap} (b : Bl mg)  {f : Addr} {cdv : Value} {A : Around} {outer : List Env} {s : Shared} {H : Hp} (hr : Room 0 (A.deeper (envOfC "_law_pick" (defScope st_law_pick) s.heap.objs.size f cdv))) :
    QSs (cxOf CX0 P w K mg base ["source", "many", "left", "mixed"] "_law_pick" (defScope st_law_pick) f cdv A outer s H E0).nox (defBody st_law_pick) (rd_law_pick) := by
  have sc := sc_law_pick
  exact (qss_cons (qs_while PassesOwn.never ((qw_and (qt_cmp od_gt (qv 1) qe_int) (qw_and (qt_cmp od_lt (qe_dget (hu_of hr) (qv 0) qe_str) qe_int) (qw_and1 (qt_cmp od_gt (qe_callB cd_len (by rfl) b.len (by decide +kernel) (qa_cons (qe_dget (hu_of hr) (qv 0) qe_str) qa_nil)) qe_int))))).qt (qss_one (qs_store (hu_of hr) (qv 0) qe_str (qe_bm0 PySem.F.plainAttrs_list PySem.F.slot_list_pop PySem.F.type_list_pop md_pop (qe_dget (hu_of hr) (qv 0) qe_str)))))
    (qss_cons (qs_set (i := 2) sc.nd (qe_dget (hu_of hr) (qv 0) qe_str))
    (qss_cons (qs_if ((qw_or (qt_cmp od_lt (qv 1) qe_int) (qw_or1 (qt_cmp od_gt (qv 2) qe_int)))).qt (qss_cons (qs_store (hu_of hr) (qv 0) qe_str (qe_op od_fdiv (qv 2) (qe_callB (cd_max2 rfl) (by rfl) b.max (by decide +kernel) (qa_cons qe_int (qa_cons (qv 1) qa_nil)))))
    (qss_one (qs_ret (qe_op od_mod (qe_callTy cd_int (by rfl) b.int (by decide +kernel) (qa_cons (qv 2) qa_nil)) (qe_callB (cd_max2 rfl) (by rfl) b.max (by decide +kernel) (qa_cons qe_int (qa_cons (qv 1) qa_nil))))))) qss_nil)
    (qss_cons (qs_store (hu_of hr) (qv 0) qe_str (qe_op od_add (qe_dget (hu_of hr) (qv 0) qe_str) qe_int))
    (qss_cons (qs_set (i := 3) sc.nd (qe_op od_mod (qe_callTy cd_int (by rfl) b.int (by decide +kernel) (qa_cons (qe_op od_add (qe_dget (hu_of hr) (qv 0) qe_str) (qe_op od_mul (qe_dget (hu_of hr) (qv 0) qe_str) qe_int)) qa_nil)) qe_int))
    (qss_cons (qs_set (i := 3) sc.nd (qe_op od_mod (qe_callTy cd_int (by rfl) b.int (by decide +kernel) (qa_cons (qe_op od_add (qe_op od_mul (qv 3) (qv 3)) (qe_op od_mul (qe_dget (hu_of hr) (qv 0) qe_str) qe_int)) qa_nil)) qe_int))
    (qss_cons (qs_store (hu_of hr) (qv 0) qe_str (qv 3))
    (qss_one (qs_ret (qe_op od_mod (qe_callTy cd_int (by rfl) b.int (by decide +kernel) (qa_cons (qe_op od_fdiv (qv 3) qe_int) qa_nil)) (qv 1)))))))))))

/-! ### _law_mixed -/
abbrev st_law_mixed : Stmt := topS 22
theorem sc_law_mixed : FnScope ["source", "things", "rest", "lap"] ["source", "things"] (defScope st_law_mixed) := ⟨rfl, rfl, rfl, by decide +kernel, rfl, by decide +kernel, by decide +kernel⟩
theorem bd_law_mixed {P : Program} {w : World} {K : PySem.W.Frag} {mg : Str → Option Value} {base : Heap} (b : Bl mg) (h_law_pick : Has P w K mg base 1 "_law_pick" sp_law_pick) {f : Addr} {cdv : Value} {A : Around} {outer : List Env} {s : Shared} {H : Hp} (hr : Room 1 (A.deeper (envOfC "_law_mixed" (defScope st_law_mixed) s.heap.objs.size f cdv))) :
    QSs (cxOf CX0 P w K mg base ["source", "things", "rest", "lap"] "_law_mixed" (defScope st_law_mixed) f cdv A outer s H E0).nox (defBody st_law_mixed) (rd_law_mixed) := by
  have sc := sc_law_mixed
  exact (qss_cons (qs_set (i := 2) sc.nd (qe_callTy (cd_list (mu := true)) (by rfl) b.list (by decide +kernel) (qa_cons (qv 1) qa_nil)))
    (qss_one (qs_ret (qe_lc (mu := false) (own := [(Str.ofString "lap", 3)]) rfl sc.nd (qi_range1 (by rfl) b.range (qa_cons (qe_callB cd_len (by rfl) b.len (by decide +kernel) (qa_cons (qv 2) qa_nil)) qa_nil)) (blkOk_by (by kernel_rfl)) (fun _ _ _ _ _ => (qg_name (i := 3) sc.nd)) (fun _ _ _ _ _ => qts_nil) (fun _ _ _ _ _ => (qe_bm PySem.F.plainAttrs_list PySem.F.slot_list_pop PySem.F.type_list_pop md_pop (qv 2) (qa_cons (qe_own h_law_pick (hr.mono (by decide)) (by rfl) (qa_cons (qv 0) (qa_cons (qe_callB cd_len (by rfl) b.len (by decide +kernel) (qa_cons (qv 2) qa_nil)) qa_nil))) qa_nil)))))))

/-! ### _law_pairs -/
abbrev st_law_pairs : Stmt := topS 23
theorem sc_law_pairs : FnScope ["n", "found", "a", "b"] ["n"] (defScope st_law_pairs) := ⟨rfl, rfl, rfl, by decide +kernel, rfl, by decide +kernel, by decide +kernel⟩
theorem bd_law_pairs {P : Program} {w : World} {K : PySem.W.Frag} {mg : Str → Option Value} {base : Heap} (b : Bl mg)  {f : Addr} {cdv : Value} {A : Around} {outer : List Env} {s : Shared} {H : Hp} (hr : Room 0 (A.deeper (envOfC "_law_pairs" (defScope st_law_pairs) s.heap.objs.size f cdv))) :
    QSs (cxOf CX0 P w K mg base ["n", "found", "a", "b"] "_law_pairs" (defScope st_law_pairs) f cdv A outer s H E0).nox (defBody st_law_pairs) (rd_law_pairsT) := by
  have sc := sc_law_pairs
  exact (qss_cons (qs_set (i := 1) sc.nd (qe_lst qa_nil))
    (qss_cons (qs_for PassesOwn.never rfl (qi_range1 (by rfl) b.range (qa_cons (qv 0) qa_nil)) (qg_name (i := 2) sc.nd) (qss_one (qs_set (i := 1) sc.nd (qe_op od_add (qv 1) (qe_lc (mu := false) (own := [(Str.ofString "b", 3)]) rfl sc.nd (qi_range2 (by rfl) b.range (qa_cons (qe_op od_add (qv 2) qe_int) (qa_cons (qv 0) qa_nil))) (blkOk_by (by kernel_rfl)) (fun _ _ _ _ _ => (qg_name (i := 3) sc.nd)) (fun _ _ _ _ _ => qts_nil) (fun _ _ _ _ _ => (qe_tup (qa_cons (qv 2) (qa_cons (qv 3) qa_nil)))))))))
    (qss_one (qs_ret (qv 1)))))

/-! ### _law_lots -/
abbrev st_law_lots : Stmt := topS 24
theorem sc_law_lots : FnScope ["n", "found", "joint", "lot"] ["n"] (defScope st_law_lots) := ⟨rfl, rfl, rfl, by decide +kernel, rfl, by decide +kernel, by decide +kernel⟩
theorem bd_law_lots {P : Program} {w : World} {K : PySem.W.Frag} {mg : Str → Option Value} {base : Heap} (b : Bl mg)  {f : Addr} {cdv : Value} {A : Around} {outer : List Env} {s : Shared} {H : Hp} (hr : Room 0 (A.deeper (envOfC "_law_lots" (defScope st_law_lots) s.heap.objs.size f cdv))) :
    QSs (cxOf CX0 P w K mg base ["n", "found", "joint", "lot"] "_law_lots" (defScope st_law_lots) f cdv A outer s H E0).nox (defBody st_law_lots) (rd_law_lots) := by
  have sc := sc_law_lots
  exact (qss_cons (qs_set (i := 1) sc.nd (qe_lst (qa_cons (qe_tup qa_nil) qa_nil)))
    (qss_cons (qs_for PassesOwn.never rfl (qi_range1 (by rfl) b.range (qa_cons (qv 0) qa_nil)) (qg_name (i := 2) sc.nd) (qss_one (qs_set (i := 1) sc.nd (qe_op od_add (qv 1) (qe_lc (mu := false) (own := [(Str.ofString "lot", 3)]) rfl sc.nd (qi_seq (qv 1)) (blkOk_by (by kernel_rfl)) (fun _ _ _ _ _ => (qg_name (i := 3) sc.nd)) (fun _ _ _ _ _ => qts_nil) (fun _ _ _ _ _ => (qe_op od_add (qv 3) (qe_tup (qa_cons (qv 2) qa_nil)))))))))
    (qss_one (qs_ret (qe_callB (cd_sortedX (mu := false)) (by rfl) b.sorted (by decide +kernel) (qa_cons (qe_lc (mu := false) (own := [(Str.ofString "lot", 3)]) rfl sc.nd (qi_seq (qv 1)) (blkOk_by (by kernel_rfl)) (fun _ _ _ _ _ => (qg_name (i := 3) sc.nd)) (fun _ _ _ _ _ => (qts_one (qt_cmp od_gt (qe_callB cd_len (by rfl) b.len (by decide +kernel) (qa_cons (qv 3) qa_nil)) qe_int))) (fun _ _ _ _ _ => (qv 3))) qa_nil))))))

/-! ### _law_inside -/
abbrev st_law_inside : Stmt := topS 25
theorem sc_law_inside : FnScope ["rods", "lot", "rod"] ["rods", "lot"] (defScope st_law_inside) := ⟨rfl, rfl, rfl, by decide +kernel, rfl, by decide +kernel, by decide +kernel⟩
theorem bd_law_inside {P : Program} {w : World} {K : PySem.W.Frag} {mg : Str → Option Value} {base : Heap} (b : Bl mg)  {f : Addr} {cdv : Value} {A : Around} {outer : List Env} {s : Shared} {H : Hp} (hr : Room 0 (A.deeper (envOfC "_law_inside" (defScope st_law_inside) s.heap.objs.size f cdv))) :
    QSs (cxOf CX0 P w K mg base ["rods", "lot", "rod"] "_law_inside" (defScope st_law_inside) f cdv A outer s H E0).nox (defBody st_law_inside) (rd_law_inside) := by
  have sc := sc_law_inside
  exact (qss_one (qs_ret (qe_lc (mu := false) (own := [(Str.ofString "rod", 2)]) rfl sc.nd (qi_seq (qv 0)) (blkOk_by (by kernel_rfl)) (fun _ _ _ _ _ => (qg_name (i := 2) sc.nd)) (fun _ _ _ _ _ => (qts_one ((qw_and (qt_cmp (od_in (room65 hr)) (qe_ix (qv 2) qe_int) (qv 1)) (qw_and1 (qt_cmp (od_in (room65 hr)) (qe_ix (qv 2) qe_int) (qv 1))))).qt)) (fun _ _ _ _ _ => (qv 2)))))

/-! ### _law_is_free -/
abbrev st_law_is_free : Stmt := topS 26
theorem sc_law_is_free : FnScope ["n", "rods", "lot"] ["n", "rods"] (defScope st_law_is_free) := ⟨rfl, rfl, rfl, by decide +kernel, rfl, by decide +kernel, by decide +kernel⟩
theorem bd_law_is_free {P : Program} {w : World} {K : PySem.W.Frag} {mg : Str → Option Value} {base : Heap} (b : Bl mg) (h_law_lots : Has P w K mg base 1 "_law_lots" sp_law_lots) (h_law_inside : Has P w K mg base 1 "_law_inside" sp_law_inside) {f : Addr} {cdv : Value} {A : Around} {outer : List Env} {s : Shared} {H : Hp} (hr : Room 1 (A.deeper (envOfC "_law_is_free" (defScope st_law_is_free) s.heap.objs.size f cdv))) :
    QSs (cxOf CX0 P w K mg base ["n", "rods", "lot"] "_law_is_free" (defScope st_law_is_free) f cdv A outer s H E0).nox (defBody st_law_is_free) (rd_law_is_free) := by
  have sc := sc_law_is_free
  exact (qss_one (qs_ret (qe_cmp (od_eq (room64 hr)) (qe_lc (mu := false) (own := [(Str.ofString "lot", 2)]) rfl sc.nd (qi_seq (qe_own h_law_lots (hr.mono (by decide)) (by rfl) (qa_cons (qv 0) qa_nil))) (blkOk_by (by kernel_rfl)) (fun _ _ _ _ _ => (qg_name (i := 2) sc.nd)) (fun _ _ _ _ _ => (qts_one (qt_cmp od_gt (qe_callB cd_len (by rfl) b.len (by decide +kernel) (qa_cons (qe_own h_law_inside (hr.mono (by decide)) (by rfl) (qa_cons (qv 1) (qa_cons (qv 2) qa_nil))) qa_nil)) (qe_op od_sub (qe_op od_mul qe_int (qe_callB cd_len (by rfl) b.len (by decide +kernel) (qa_cons (qv 2) qa_nil))) qe_int)))) (fun _ _ _ _ _ => (qv 2))) (qe_lst qa_nil))))

/-! ### _law_first -/
abbrev st_law_first : Stmt := topS 27
theorem sc_law_first : FnScope ["n", "start", "rods", "found", "lots", "rod", "mine", "lot"] ["n", "start", "rods"] (defScope st_law_first) := ⟨rfl, rfl, rfl, by decide +kernel, rfl, by decide +kernel, by decide +kernel⟩
theorem bd_law_first {P : Program} {w : World} {K : PySem.W.Frag} {mg : Str → Option Value} {base : Heap} (b : Bl mg) (h_law_lots : Has P w K mg base 1 "_law_lots" sp_law_lots) (h_law_inside : Has P w K mg base 1 "_law_inside" sp_law_inside) {f : Addr} {cdv : Value} {A : Around} {outer : List Env} {s : Shared} {H : Hp} (hr : Room 1 (A.deeper (envOfC "_law_first" (defScope st_law_first) s.heap.objs.size f cdv))) :
    QSs (cxOf CX0 P w K mg base ["n", "start", "rods", "found", "lots", "rod", "mine", "lot"] "_law_first" (defScope st_law_first) f cdv A outer s H E0).nox (defBody st_law_first) (rd_law_first) := by
  have sc := sc_law_first
  exact (qss_cons (qs_asg (qe_tup (qa_cons (qe_callTy (cd_list (mu := true)) (by rfl) b.list (by decide +kernel) (qa_cons (qv 1) qa_nil)) (qa_cons (qe_own h_law_lots (hr.mono (by decide)) (by rfl) (qa_cons (qv 0) qa_nil)) qa_nil))) (qg_tup rfl (qgs_cons (qg_name (i := 3) sc.nd) (qgs_cons (qg_name (i := 4) sc.nd) qgs_nil))))
    (qss_cons (qs_for PassesOwn.never rfl (qi_seq (qv 2)) (qg_name (i := 5) sc.nd) (qss_cons (qs_setLc (i := 6) (mu := false) (own := [(Str.ofString "lot", 7)]) rfl sc.nd (qi_seq (qv 4)) (blkOk_by (by kernel_rfl)) (fun _ _ _ _ _ => (qg_name (i := 7) sc.nd)) (fun _ _ _ _ _ => (qts_one ((qw_and (qt_cmp (od_in (room65 hr)) (qe_ix (qv 5) qe_int) (qv 7)) (qw_and1 (qt_cmp (od_in (room65 hr)) (qe_ix (qv 5) qe_int) (qv 7))))).qt)) (fun _ _ _ _ _ => (qv 7)))
    (qss_one (qs_if ((qw_and (qt_cmp (od_notin (room65 hr)) (qv 5) (qv 3)) (qw_and1 (qt_cmp (od_eq (room64 hr)) (qe_lc (mu := false) (own := [(Str.ofString "lot", 7)]) rfl sc.nd (qi_seq (qv 6)) (blkOk_by (by kernel_rfl)) (fun _ _ _ _ _ => (qg_name (i := 7) sc.nd)) (fun _ _ _ _ _ => (qts_one (qt_cmp (od_eq (room64 hr)) (qe_callB cd_len (by rfl) b.len (by decide +kernel) (qa_cons (qe_own h_law_inside (hr.mono (by decide)) (by rfl) (qa_cons (qv 3) (qa_cons (qv 7) qa_nil))) qa_nil)) (qe_op od_sub (qe_op od_mul qe_int (qe_callB cd_len (by rfl) b.len (by decide +kernel) (qa_cons (qv 7) qa_nil))) qe_int)))) (fun _ _ _ _ _ => (qv 7))) (qe_lst qa_nil))))).qt (qss_one (qs_expr (qe_bm PySem.F.plainAttrs_list PySem.F.slot_list_append PySem.F.type_list_append md_append (qv 3) (qa_cons (qv 5) qa_nil)))) qss_nil))))
    (qss_one (qs_ret (qe_slice (sd_seq (mu := false)) (qv 3) (qo_some (qe_callB cd_len (by rfl) b.len (by decide +kernel) (qa_cons (qv 1) qa_nil))) qo_none)))))

/-! ### _law_frame -/
abbrev st_law_frame : Stmt := topS 28
theorem sc_law_frame : FnScope ["source", "most", "n", "road", "pairs", "share", "pair", "order", "found", "k", "late", "more"] ["source", "most"] (defScope st_law_frame) := ⟨rfl, rfl, rfl, by decide +kernel, rfl, by decide +kernel, by decide +kernel⟩
theorem bd_law_frame {P : Program} {w : World} {K : PySem.W.Frag} {mg : Str → Option Value} {base : Heap} (b : Bl mg) (h_law_pick : Has P w K mg base 1 "_law_pick" sp_law_pick) (h_law_mixed : Has P w K mg base 2 "_law_mixed" sp_law_mixed) (h_law_pairs : Has P w K mg base 1 "_law_pairs" sp_law_pairsT) {f : Addr} {cdv : Value} {A : Around} {outer : List Env} {s : Shared} {H : Hp} (hr : Room 2 (A.deeper (envOfC "_law_frame" (defScope st_law_frame) s.heap.objs.size f cdv))) :
    QSs (cxOf CX0 P w K mg base ["source", "most", "n", "road", "pairs", "share", "pair", "order", "found", "k", "late", "more"] "_law_frame" (defScope st_law_frame) f cdv A outer s H E0).nox (defBody st_law_frame) (rd_law_frame14) := by
  have sc := sc_law_frame
  exact (qss_cons (qs_asg (qe_tup (qa_cons (qe_op od_add qe_int (qe_own h_law_pick (hr.mono (by decide)) (by rfl) (qa_cons (qv 0) (qa_cons (qe_op od_sub (qv 1) qe_int) qa_nil)))) (qa_cons (qe_own h_law_pick (hr.mono (by decide)) (by rfl) (qa_cons (qv 0) (qa_cons qe_int qa_nil))) qa_nil))) (qg_tup rfl (qgs_cons (qg_name (i := 2) sc.nd) (qgs_cons (qg_name (i := 3) sc.nd) qgs_nil))))
    (qss_cons (qs_set (i := 4) sc.nd (qe_own h_law_pairs (hr.mono (by decide)) (by rfl) (qa_cons (qv 2) qa_nil)))
    (qss_cons (qs_if (qt_cmp od_lt (qv 3) qe_int) (qss_cons (qs_set (i := 5) sc.nd (qe_op od_add qe_int (qe_own h_law_pick (hr.mono (by decide)) (by rfl) (qa_cons (qv 0) (qa_cons qe_int qa_nil)))))
    (qss_one (qs_ret (qe_tup (qa_cons (qv 2) (qa_cons (qe_callTy cd_tuple (by rfl) b.tuple (by decide +kernel) (qa_cons (qe_lc (mu := false) (own := [(Str.ofString "pair", 6)]) rfl sc.nd (qi_seq (qv 4)) (blkOk_by (by kernel_rfl)) (fun _ _ _ _ _ => (qg_name (i := 6) sc.nd)) (fun _ _ _ _ _ => (qts_one (qt_cmp (od_eq (room64 hr)) (qe_cmp (od_eq (room64 hr)) (qe_own h_law_pick (hr.mono (by decide)) (by rfl) (qa_cons (qv 0) (qa_cons (qv 5) qa_nil))) qe_int) (qe_cmp (od_eq (room64 hr)) (qv 3) qe_int)))) (fun _ _ _ _ _ => (qv 6))) qa_nil)) qa_nil)))))) qss_nil)
    (qss_cons (qs_asg (qe_tup (qa_cons (qe_own h_law_mixed (hr.mono (by decide)) (by rfl) (qa_cons (qv 0) (qa_cons (qe_listRg1 (mu := false) rfl (by rfl) b.list (by rfl) b.range (qv 2)) qa_nil))) (qa_cons (qe_lstM qa_nil) qa_nil))) (qg_tup rfl (qgs_cons (qg_name (i := 7) sc.nd) (qgs_cons (qg_name (i := 8) sc.nd) qgs_nil))))
    (qss_cons (qs_for PassesOwn.never rfl (qi_range2 (by rfl) b.range (qa_cons qe_int (qa_cons (qv 2) qa_nil))) (qg_name (i := 9) sc.nd) (qss_one (qs_for PassesOwn.never rfl (qi_seq (qe_slice (sd_seq (mu := false)) (qe_own h_law_mixed (hr.mono (by decide)) (by rfl) (qa_cons (qv 0) (qa_cons (qe_slice (sd_seq (mu := false)) (qv 7) qo_none (qo_some (qv 9))) qa_nil))) qo_none (qo_some qe_int))) (qg_name (i := 10) sc.nd) (qss_one (qs_expr (qe_bm PySem.F.plainAttrs_list PySem.F.slot_list_append PySem.F.type_list_append md_append (qv 8) (qa_cons (qe_callTy cd_tuple (by rfl) b.tuple (by decide +kernel) (qa_cons (qe_callB (cd_sortedX (mu := false)) (by rfl) b.sorted (by decide +kernel) (qa_cons (qe_lst (qa_cons (qe_ix (qv 7) (qv 9)) (qa_cons (qv 10) qa_nil))) qa_nil)) qa_nil)) qa_nil)))))))
    (qss_cons (qs_setLc (i := 11) (mu := false) (own := [(Str.ofString "pair", 6)]) rfl sc.nd (qi_seq (qv 4)) (blkOk_by (by kernel_rfl)) (fun _ _ _ _ _ => (qg_name (i := 6) sc.nd)) (fun _ _ _ _ _ => (qts_one ((qw_and (qt_cmp (od_notin (room65 hr)) (qv 6) (qv 8)) (qw_and1 (qt_cmp (od_eq (room64 hr)) (qe_own h_law_pick (hr.mono (by decide)) (by rfl) (qa_cons (qv 0) (qa_cons qe_int qa_nil))) qe_int)))).qt)) (fun _ _ _ _ _ => (qv 6)))
    (qss_cons (qs_set (i := 8) sc.nd (qe_lc (mu := true) (own := [(Str.ofString "pair", 6)]) rfl sc.nd (qi_seq (qv 8)) (blkOk_by (by kernel_rfl)) (fun _ _ _ _ _ => (qg_name (i := 6) sc.nd)) (fun _ _ _ _ _ => (qts_one ((qw_or (qt_cmp od_gt (qe_own h_law_pick (hr.mono (by decide)) (by rfl) (qa_cons (qv 0) (qa_cons qe_int qa_nil))) qe_int) (qw_or1 (qt_cmp (od_eq (room64 hr)) (qv 3) qe_int)))).qt)) (fun _ _ _ _ _ => (qv 6))))
    (qss_one (qs_ret (qe_tup (qa_cons (qv 2) (qa_cons (qe_callTy cd_tuple (by rfl) b.tuple (by decide +kernel) (qa_cons (qe_callB (cd_sortedX (mu := false)) (by rfl) b.sorted (by decide +kernel) (qa_cons (qe_op od_add (qv 8) (qv 11)) qa_nil)) qa_nil)) qa_nil))))))))))))

/-! ### _law_rounds_right -/
abbrev st_law_rounds_right : Stmt := topS 29
theorem sc_law_rounds_right : FnScope ["n", "rods", "pair", "is_one", "late", "due", "rod", "one"] ["n", "rods"] (defScope st_law_rounds_right) := ⟨rfl, rfl, rfl, by decide +kernel, rfl, by decide +kernel, by decide +kernel⟩
theorem bd_law_rounds_right {P : Program} {w : World} {K : PySem.W.Frag} {mg : Str → Option Value} {base : Heap} (b : Bl mg) (h_can_be_put : Has P w K mg base 5 "can_be_put" sp_can_be_put) (h_round_of : Has P w K mg base 4 "round_of" sp_round_of) (h_law_pairs : Has P w K mg base 1 "_law_pairs" sp_law_pairsT) (h_law_is_free : Has P w K mg base 2 "_law_is_free" sp_law_is_free) {f : Addr} {cdv : Value} {A : Around} {outer : List Env} {s : Shared} {H : Hp} (hgd : A.guards = some []) (hr : Room 5 (A.deeper (envOfC "_law_rounds_right" (defScope st_law_rounds_right) s.heap.objs.size f cdv))) :
    QSs (cxOf CX0 P w K mg base ["n", "rods", "pair", "is_one", "late", "due", "rod", "one"] "_law_rounds_right" (defScope st_law_rounds_right) f cdv A outer s H E0).nox (defBody st_law_rounds_right) (rd_law_rounds_right) := by
  have sc := sc_law_rounds_right
  exact (qss_cons (qs_for PassesOwn.never rfl (qi_seq (qe_lc (mu := false) (own := [(Str.ofString "pair", 2)]) rfl sc.nd (qi_seq (qe_own h_law_pairs (hr.mono (by decide)) (by rfl) (qa_cons (qv 0) qa_nil))) (blkOk_by (by kernel_rfl)) (fun _ _ _ _ _ => (qg_name (i := 2) sc.nd)) (fun _ _ _ _ _ => (qts_one (qt_cmp (od_notin (room65 hr)) (qv 2) (qv 1)))) (fun _ _ _ _ _ => (qv 2)))) (qg_name (i := 2) sc.nd) (qss_cons (qs_set (i := 3) sc.nd (qe_own h_law_is_free (hr.mono (by decide)) (by rfl) (qa_cons (qv 0) (qa_cons (qe_op od_add (qv 1) (qe_tup (qa_cons (qv 2) qa_nil))) qa_nil))))
    (qss_cons (qs_if (qt_cmp od_neS (qe_callB (cd_repr hgd (room64 hr)) (by rfl) b.repr (by decide +kernel) (qa_cons (qe_own h_can_be_put (hr.mono (by decide)) (by rfl) (qa_cons (qe_tup (qa_cons (qv 0) (qa_cons (qv 1) qa_nil))) (qa_cons (qv 2) qa_nil))) qa_nil)) (qe_callB (cd_repr hgd (room64 hr)) (by rfl) b.repr (by decide +kernel) (qa_cons (qv 3) qa_nil))) (qss_one (qs_ret qe_bl)) qss_nil)
    (qss_cons (qs_set (i := 4) sc.nd (qe_callTy cd_tuple (by rfl) b.tuple (by decide +kernel) (qa_cons (qe_callB (cd_sortedX (mu := false)) (by rfl) b.sorted (by decide +kernel) (qa_cons (qe_op od_add (qv 1) (qe_tup (qa_cons (qv 2) qa_nil))) qa_nil)) qa_nil)))
    (qss_cons (qs_setLc (i := 5) (mu := false) (own := [(Str.ofString "rod", 6)]) rfl sc.nd (qi_seq (qv 4)) (blkOk_by (by kernel_rfl)) (fun _ _ _ _ _ => (qg_name (i := 6) sc.nd)) (fun _ _ _ _ _ => (qts_one (qt_val (qe_own h_law_is_free (hr.mono (by decide)) (by rfl) (qa_cons (qv 0) (qa_cons (qe_lc (mu := false) (own := [(Str.ofString "one", 7)]) rfl sc.nd (qi_seq (qv 4)) (blkOk_by (by kernel_rfl)) (fun _ _ _ _ _ => (qg_name (i := 7) sc.nd)) (fun _ _ _ _ _ => (qts_one (qt_cmp (od_ne (room64 hr)) (qv 7) (qv 6)))) (fun _ _ _ _ _ => (qv 7))) qa_nil)))))) (fun _ _ _ _ _ => (qv 6)))
    (qss_one (qs_if (qt_cmp od_neS (qe_callB (cd_repr hgd (room64 hr)) (by rfl) b.repr (by decide +kernel) (qa_cons (qe_own h_round_of (hr.mono (by decide)) (by rfl) (qa_cons (qe_tup (qa_cons (qv 0) (qa_cons (qv 1) qa_nil))) (qa_cons (qv 2) qa_nil))) qa_nil)) (qe_callB (cd_repr hgd (room64 hr)) (by rfl) b.repr (by decide +kernel) (qa_cons (qe_if (qt_val (qv 3)) qe_non (qe_callTy cd_tuple (by rfl) b.tuple (by decide +kernel) (qa_cons (qv 5) qa_nil))) qa_nil))) (qss_one (qs_ret qe_bl)) qss_nil)))))))
    (qss_one (qs_ret qe_bl)))

/-! ### _law_exchange_right -/
abbrev st_law_exchange_right : Stmt := topS 30
theorem sc_law_exchange_right : FnScope ["source", "n", "rods", "one", "other", "due", "rod"] ["source", "n", "rods"] (defScope st_law_exchange_right) := ⟨rfl, rfl, rfl, by decide +kernel, rfl, by decide +kernel, by decide +kernel⟩
theorem bd_law_exchange_right {P : Program} {w : World} {K : PySem.W.Frag} {mg : Str → Option Value} {base : Heap} (b : Bl mg) (h_exchanged_rod : Has P w K mg base 5 "exchanged_rod" sp_exchanged_rod) (h_law_pick : Has P w K mg base 1 "_law_pick" sp_law_pick) (h_law_mixed : Has P w K mg base 2 "_law_mixed" sp_law_mixed) (h_law_is_free : Has P w K mg base 2 "_law_is_free" sp_law_is_free) (h_law_first : Has P w K mg base 2 "_law_first" sp_law_first) {f : Addr} {cdv : Value} {A : Around} {outer : List Env} {s : Shared} {H : Hp} (hgd : A.guards = some []) (hr : Room 5 (A.deeper (envOfC "_law_exchange_right" (defScope st_law_exchange_right) s.heap.objs.size f cdv))) :
    QSs (cxOf CX0 P w K mg base ["source", "n", "rods", "one", "other", "due", "rod"] "_law_exchange_right" (defScope st_law_exchange_right) f cdv A outer s H E0).nox (defBody st_law_exchange_right) (rd_law_exchange_right) := by
  have sc := sc_law_exchange_right
  exact (qss_cons (qs_set (i := 3) sc.nd (qe_own h_law_first (hr.mono (by decide)) (by rfl) (qa_cons (qv 1) (qa_cons (qe_tup qa_nil) (qa_cons (qe_own h_law_mixed (hr.mono (by decide)) (by rfl) (qa_cons (qv 0) (qa_cons (qv 2) qa_nil))) qa_nil)))))
    (qss_cons (qs_set (i := 3) sc.nd (qe_callTy cd_tuple (by rfl) b.tuple (by decide +kernel) (qa_cons (qe_callB (cd_sortedX (mu := false)) (by rfl) b.sorted (by decide +kernel) (qa_cons (qe_slice (sd_seq (mu := false)) (qv 3) qo_none (qo_some (qe_own h_law_pick (hr.mono (by decide)) (by rfl) (qa_cons (qv 0) (qa_cons (qe_op od_add (qe_callB cd_len (by rfl) b.len (by decide +kernel) (qa_cons (qv 3) qa_nil)) qe_int) qa_nil))))) qa_nil)) qa_nil)))
    (qss_cons (qs_set (i := 4) sc.nd (qe_callTy cd_tuple (by rfl) b.tuple (by decide +kernel) (qa_cons (qe_callB (cd_sortedX (mu := false)) (by rfl) b.sorted (by decide +kernel) (qa_cons (qe_own h_law_first (hr.mono (by decide)) (by rfl) (qa_cons (qv 1) (qa_cons (qe_tup qa_nil) (qa_cons (qe_own h_law_mixed (hr.mono (by decide)) (by rfl) (qa_cons (qv 0) (qa_cons (qv 2) qa_nil))) qa_nil)))) qa_nil)) qa_nil)))
    (qss_cons (qs_if (qt_cmp od_ge (qe_callB cd_len (by rfl) b.len (by decide +kernel) (qa_cons (qv 3) qa_nil)) (qe_callB cd_len (by rfl) b.len (by decide +kernel) (qa_cons (qv 4) qa_nil))) (qss_one (qs_ret qe_bl)) qss_nil)
    (qss_cons (qs_setLc (i := 5) (mu := false) (own := [(Str.ofString "rod", 6)]) rfl sc.nd (qi_seq (qv 4)) (blkOk_by (by kernel_rfl)) (fun _ _ _ _ _ => (qg_name (i := 6) sc.nd)) (fun _ _ _ _ _ => (qts_one ((qw_and (qt_cmp (od_notin (room65 hr)) (qv 6) (qv 3)) (qw_and1 (qt_val (qe_own h_law_is_free (hr.mono (by decide)) (by rfl) (qa_cons (qv 1) (qa_cons (qe_op od_add (qv 3) (qe_tup (qa_cons (qv 6) qa_nil))) qa_nil))))))).qt)) (fun _ _ _ _ _ => (qv 6)))
    (qss_one (qs_ret (qe_and (qe_cmp (od_ne (room64 hr)) (qv 5) (qe_lst qa_nil)) (qe_one (qe_cmp od_eqS (qe_callB (cd_repr hgd (room64 hr)) (by rfl) b.repr (by decide +kernel) (qa_cons (qe_own h_exchanged_rod (hr.mono (by decide)) (by rfl) (qa_cons (qe_tup (qa_cons (qv 1) (qa_cons (qv 2) qa_nil))) (qa_cons (qv 3) (qa_cons (qv 4) qa_nil)))) qa_nil)) (qe_callB (cd_repr hgd (room64 hr)) (by rfl) b.repr (by decide +kernel) (qa_cons (qe_ix (qv 5) qe_int) qa_nil))))))))))))

/-! ### law -/
abbrev st_law : Stmt := topS 31
theorem sc_law : FnScope ["script", "source", "lap", "n", "rods", "first", "kept", "told", "due", "rod", "one", "some", "six"] ["script"] (defScope st_law) := ⟨rfl, rfl, rfl, by decide +kernel, rfl, by decide +kernel, by decide +kernel⟩
theorem bd_law {P : Program} {w : World} {K : PySem.W.Frag} {mg : Str → Option Value} {base : Heap} (b : Bl mg) (h_first_free_rods : Has P w K mg base 5 "first_free_rods" sp_first_free_rods) (h_free_rank : Has P w K mg base 6 "free_rank" sp_free_rank) (h_lack_of : Has P w K mg base 7 "lack_of" sp_lack_of) (h_needed_rods : Has P w K mg base 7 "needed_rods" sp_needed_rods) (h_round_of : Has P w K mg base 4 "round_of" sp_round_of) (h_law_source : Has P w K mg base 1 "_law_source" (sp_law_source K)) (h_law_mixed : Has P w K mg base 2 "_law_mixed" sp_law_mixed) (h_law_is_free : Has P w K mg base 2 "_law_is_free" sp_law_is_free) (h_law_first : Has P w K mg base 2 "_law_first" sp_law_first) (h_law_frame : Has P w K mg base 3 "_law_frame" sp_law_frame14) (h_law_rounds_right : HasG P w K mg base 6 "_law_rounds_right" sp_law_rounds_right) (h_law_exchange_right : HasG P w K mg base 6 "_law_exchange_right" sp_law_exchange_right) {f : Addr} {cdv : Value} {A : Around} {outer : List Env} {s : Shared} {H : Hp} (hgd : A.guards = some []) (hr : Room 7 (A.deeper (envOfC "law" (defScope st_law) s.heap.objs.size f cdv))) :
    QSs (cxOf CX0 P w K mg base ["script", "source", "lap", "n", "rods", "first", "kept", "told", "due", "rod", "one", "some", "six"] "law" (defScope st_law) f cdv A outer s H E0).nox (defBody st_law) (rd_law K) := by
  have sc := sc_law
  exact (qss_cons (qs_set (i := 1) sc.nd (qe_own h_law_source (hr.mono (by decide)) (by rfl) (qa_cons (qv 0) qa_nil)))
    (qss_cons (qs_for PassesOwn.never rfl (qi_range1 (by rfl) b.range (qa_cons qe_int qa_nil)) (qg_name (i := 2) sc.nd) (qss_cons (qs_asg (qe_own h_law_frame (hr.mono (by decide)) (by rfl) (qa_cons (qv 1) (qa_cons qe_int qa_nil))) (qg_tup rfl (qgs_cons (qg_name (i := 3) sc.nd) (qgs_cons (qg_name (i := 4) sc.nd) qgs_nil))))
    (qss_cons (qs_asg (qe_tup (qa_cons (qe_callTy cd_tuple (by rfl) b.tuple (by decide +kernel) (qa_cons (qe_own h_law_first (hr.mono (by decide)) (by rfl) (qa_cons (qv 3) (qa_cons (qe_tup qa_nil) (qa_cons (qv 4) qa_nil)))) qa_nil)) (qa_cons (qe_callB (cd_repr hgd (room64 hr)) (by rfl) b.repr (by decide +kernel) (qa_cons (qv 4) qa_nil)) qa_nil))) (qg_tup rfl (qgs_cons (qg_name (i := 5) sc.nd) (qgs_cons (qg_name (i := 6) sc.nd) qgs_nil))))
    (qss_cons (qs_if ((qw_or (qt_not (qt_val (qe_own h_law_is_free (hr.mono (by decide)) (by rfl) (qa_cons (qv 3) (qa_cons (qv 5) qa_nil))))) (qw_or1 (qt_cmp (od_ne (room64 hr)) (qe_callB cd_len (by rfl) b.len (by decide +kernel) (qa_cons (qe_own h_law_first (hr.mono (by decide)) (by rfl) (qa_cons (qv 3) (qa_cons (qe_tup qa_nil) (qa_cons (qe_own h_law_mixed (hr.mono (by decide)) (by rfl) (qa_cons (qv 1) (qa_cons (qv 4) qa_nil))) qa_nil)))) qa_nil)) (qe_callB cd_len (by rfl) b.len (by decide +kernel) (qa_cons (qv 5) qa_nil)))))).qt (qss_one (qs_ret qe_bl)) qss_nil)
    (qss_cons (qs_set (i := 7) sc.nd (qe_lst (qa_cons (qe_own h_first_free_rods (hr.mono (by decide)) (by rfl) (qa_cons (qe_tup (qa_cons (qv 3) (qa_cons (qv 4) qa_nil))) qa_nil)) (qa_cons (qe_own h_free_rank (hr.mono (by decide)) (by rfl) (qa_cons (qe_tup (qa_cons (qv 3) (qa_cons (qv 4) qa_nil))) qa_nil)) (qa_cons (qe_own h_lack_of (hr.mono (by decide)) (by rfl) (qa_cons (qe_tup (qa_cons (qv 3) (qa_cons (qv 4) qa_nil))) qa_nil)) qa_nil)))))
    (qss_cons (qs_if (qt_cmp od_neS (qe_callB (cd_repr hgd (room64 hr)) (by rfl) b.repr (by decide +kernel) (qa_cons (qv 7) qa_nil)) (qe_callB (cd_repr hgd (room64 hr)) (by rfl) b.repr (by decide +kernel) (qa_cons (qe_lst (qa_cons (qv 5) (qa_cons (qe_callB cd_len (by rfl) b.len (by decide +kernel) (qa_cons (qv 5) qa_nil)) (qa_cons (qe_op od_sub (qe_op od_sub (qe_op od_mul qe_int (qv 3)) qe_int) (qe_callB cd_len (by rfl) b.len (by decide +kernel) (qa_cons (qv 5) qa_nil))) qa_nil)))) qa_nil))) (qss_one (qs_ret qe_bl)) qss_nil)
    (qss_cons (qs_setLc (i := 8) (mu := false) (own := [(Str.ofString "rod", 9)]) rfl sc.nd (qi_seq (qv 4)) (blkOk_by (by kernel_rfl)) (fun _ _ _ _ _ => (qg_name (i := 9) sc.nd)) (fun _ _ _ _ _ => (qts_one (qt_cmp od_lt (qe_callB cd_len (by rfl) b.len (by decide +kernel) (qa_cons (qe_own h_law_first (hr.mono (by decide)) (by rfl) (qa_cons (qv 3) (qa_cons (qe_tup qa_nil) (qa_cons (qe_lc (mu := false) (own := [(Str.ofString "one", 10)]) rfl sc.nd (qi_seq (qv 4)) (blkOk_by (by kernel_rfl)) (fun _ _ _ _ _ => (qg_name (i := 10) sc.nd)) (fun _ _ _ _ _ => (qts_one (qt_cmp (od_ne (room64 hr)) (qv 10) (qv 9)))) (fun _ _ _ _ _ => (qv 10))) qa_nil)))) qa_nil)) (qe_callB cd_len (by rfl) b.len (by decide +kernel) (qa_cons (qv 5) qa_nil))))) (fun _ _ _ _ _ => (qv 9)))
    (qss_cons (qs_if (qt_cmp od_neS (qe_callB (cd_repr hgd (room64 hr)) (by rfl) b.repr (by decide +kernel) (qa_cons (qe_own h_needed_rods (hr.mono (by decide)) (by rfl) (qa_cons (qe_tup (qa_cons (qv 3) (qa_cons (qv 4) qa_nil))) qa_nil)) qa_nil)) (qe_callB (cd_repr hgd (room64 hr)) (by rfl) b.repr (by decide +kernel) (qa_cons (qe_callTy cd_tuple (by rfl) b.tuple (by decide +kernel) (qa_cons (qv 8) qa_nil)) qa_nil))) (qss_one (qs_ret qe_bl)) qss_nil)
    (qss_cons (qs_set (i := 11) sc.nd (qe_callTy cd_tuple (by rfl) b.tuple (by decide +kernel) (qa_cons (qe_callB (cd_sortedX (mu := false)) (by rfl) b.sorted (by decide +kernel) (qa_cons (qe_own h_law_first (hr.mono (by decide)) (by rfl) (qa_cons (qv 3) (qa_cons (qe_tup qa_nil) (qa_cons (qe_own h_law_mixed (hr.mono (by decide)) (by rfl) (qa_cons (qv 1) (qa_cons (qv 4) qa_nil))) qa_nil)))) qa_nil)) qa_nil)))
    (qss_one (qs_if ((qw_or (qt_not (qt_val (qe_ownG h_law_rounds_right hgd (hr.mono (by decide)) (by rfl) (qa_cons (qv 3) (qa_cons (qv 11) qa_nil))))) (qw_or (qt_not (qt_val (qe_ownG h_law_exchange_right hgd (hr.mono (by decide)) (by rfl) (qa_cons (qv 1) (qa_cons (qv 3) (qa_cons (qv 4) qa_nil)))))) (qw_or1 (qt_cmp od_neS (qe_callB (cd_repr hgd (room64 hr)) (by rfl) b.repr (by decide +kernel) (qa_cons (qv 4) qa_nil)) (qv 6)))))).qt (qss_one (qs_ret qe_bl)) qss_nil)))))))))))
    (qss_cons (qs_set (i := 12) sc.nd (qe_tup (qa_cons (qe_tup (qa_cons qe_int (qa_cons qe_int qa_nil))) (qa_cons (qe_tup (qa_cons qe_int (qa_cons qe_int qa_nil))) (qa_cons (qe_tup (qa_cons qe_int (qa_cons qe_int qa_nil))) (qa_cons (qe_tup (qa_cons qe_int (qa_cons qe_int qa_nil))) (qa_cons (qe_tup (qa_cons qe_int (qa_cons qe_int qa_nil))) (qa_cons (qe_tup (qa_cons qe_int (qa_cons qe_int qa_nil))) qa_nil))))))))
    (qss_cons (qs_set (i := 7) sc.nd (qe_lst (qa_cons (qe_own h_first_free_rods (hr.mono (by decide)) (by rfl) (qa_cons (qe_tup (qa_cons qe_int (qa_cons (qv 12) qa_nil))) qa_nil)) (qa_cons (qe_own h_needed_rods (hr.mono (by decide)) (by rfl) (qa_cons (qe_tup (qa_cons qe_int (qa_cons (qv 12) qa_nil))) qa_nil)) (qa_cons (qe_own h_round_of (hr.mono (by decide)) (by rfl) (qa_cons (qe_tup (qa_cons qe_int (qa_cons (qe_slice (sd_seq (mu := false)) (qv 12) qo_none (qo_some qe_int)) qa_nil))) (qa_cons (qe_tup (qa_cons qe_int (qa_cons qe_int qa_nil))) qa_nil))) qa_nil)))))
    (qss_one (qs_ret (qe_cmp od_eqS (qe_callB (cd_repr hgd (room64 hr)) (by rfl) b.repr (by decide +kernel) (qa_cons (qv 7) qa_nil)) (qe_callB (cd_repr hgd (room64 hr)) (by rfl) b.repr (by decide +kernel) (qa_cons (qe_lst (qa_cons (qe_slice (sd_seq (mu := false)) (qv 12) qo_none (qo_some qe_int)) (qa_cons (qe_tup qa_nil) (qa_cons (qv 12) qa_nil)))) qa_nil)))))))))


/-! ### the promises -/
section
variable {P : Program} {w : World} {K : PySem.W.Frag} {mg : Str → Option Value} {base : Heap}
theorem has_kept_by (b : Bl mg)  (T : TopDef K mg "kept_by" st_kept_by) : Has P w K mg base 1 "kept_by" sp_kept_by := by
  obtain ⟨f, fd, F, e⟩ := T
  exact ⟨f, fd, ["keeper", "joint"], dok F sc_kept_by (fun ds H Q h => by first | (obtain ⟨rfl, _⟩ := h; rfl) | (obtain ⟨_, rfl, _⟩ := h; rfl) | (obtain ⟨_, _, rfl, _⟩ := h; rfl) | (obtain ⟨_, _, _, rfl, _⟩ := h; rfl) | (obtain ⟨_, _, _, _, rfl, _⟩ := h; rfl) | (obtain ⟨_, _, _, _, _, rfl, _⟩ := h; rfl) | (obtain ⟨_, _, _, _, _, _, rfl, _⟩ := h; rfl) | (obtain ⟨_, _, _, _, _, _, _, rfl, _⟩ := h; rfl) | (obtain ⟨_, _, _, _, _, _, _, _, rfl, _⟩ := h; rfl)) fun cdv A outer s H ds DH Q hr h => ⟨_, bd_kept_by b  hr, kept_by_ok h⟩, e, F.kp, F.binds (ps := ["keeper", "joint"]) fun _ _ _ _ _ _ us hl => match us, hl with | [_, _], _ => rfl⟩
theorem has_moved_along (b : Bl mg)  (T : TopDef K mg "moved_along" st_moved_along) : Has P w K mg base 1 "moved_along" sp_moved_along := by
  obtain ⟨f, fd, F, e⟩ := T
  exact ⟨f, fd, ["keeper", "ways", "joint"], dok F sc_moved_along (fun ds H Q h => by first | (obtain ⟨rfl, _⟩ := h; rfl) | (obtain ⟨_, rfl, _⟩ := h; rfl) | (obtain ⟨_, _, rfl, _⟩ := h; rfl) | (obtain ⟨_, _, _, rfl, _⟩ := h; rfl) | (obtain ⟨_, _, _, _, rfl, _⟩ := h; rfl) | (obtain ⟨_, _, _, _, _, rfl, _⟩ := h; rfl) | (obtain ⟨_, _, _, _, _, _, rfl, _⟩ := h; rfl) | (obtain ⟨_, _, _, _, _, _, _, rfl, _⟩ := h; rfl) | (obtain ⟨_, _, _, _, _, _, _, _, rfl, _⟩ := h; rfl)) fun cdv A outer s H ds DH Q hr h => ⟨_, bd_moved_along b  hr, moved_along_ok h⟩, e, F.kp, F.binds (ps := ["keeper", "ways", "joint"]) fun _ _ _ _ _ _ us hl => match us, hl with | [_, _, _], _ => rfl⟩
theorem has_spared (b : Bl mg) (h_kept_by : Has P w K mg base 1 "kept_by" sp_kept_by) (h_moved_along : Has P w K mg base 1 "moved_along" sp_moved_along) (T : TopDef K mg "spared" st_spared) : Has P w K mg base 2 "spared" sp_spared := by
  obtain ⟨f, fd, F, e⟩ := T
  exact ⟨f, fd, ["keeper", "joint", "barred"], dok F sc_spared (fun ds H Q h => by first | (obtain ⟨rfl, _⟩ := h; rfl) | (obtain ⟨_, rfl, _⟩ := h; rfl) | (obtain ⟨_, _, rfl, _⟩ := h; rfl) | (obtain ⟨_, _, _, rfl, _⟩ := h; rfl) | (obtain ⟨_, _, _, _, rfl, _⟩ := h; rfl) | (obtain ⟨_, _, _, _, _, rfl, _⟩ := h; rfl) | (obtain ⟨_, _, _, _, _, _, rfl, _⟩ := h; rfl) | (obtain ⟨_, _, _, _, _, _, _, rfl, _⟩ := h; rfl) | (obtain ⟨_, _, _, _, _, _, _, _, rfl, _⟩ := h; rfl)) fun cdv A outer s H ds DH Q hr h => ⟨_, bd_spared b h_kept_by h_moved_along hr, spared_ok h⟩, e, F.kp, F.binds (ps := ["keeper", "joint", "barred"]) fun _ _ _ _ _ _ us hl => match us, hl with | [_, _, _], _ => rfl⟩
theorem has_settled (b : Bl mg) (h_kept_by : Has P w K mg base 1 "kept_by" sp_kept_by) (h_spared : Has P w K mg base 2 "spared" sp_spared) (T : TopDef K mg "settled" st_settled) : Has P w K mg base 3 "settled" sp_settled := by
  obtain ⟨f, fd, F, e⟩ := T
  exact ⟨f, fd, ["keeper", "a", "b"], dok F sc_settled (fun ds H Q h => by first | (obtain ⟨rfl, _⟩ := h; rfl) | (obtain ⟨_, rfl, _⟩ := h; rfl) | (obtain ⟨_, _, rfl, _⟩ := h; rfl) | (obtain ⟨_, _, _, rfl, _⟩ := h; rfl) | (obtain ⟨_, _, _, _, rfl, _⟩ := h; rfl) | (obtain ⟨_, _, _, _, _, rfl, _⟩ := h; rfl) | (obtain ⟨_, _, _, _, _, _, rfl, _⟩ := h; rfl) | (obtain ⟨_, _, _, _, _, _, _, rfl, _⟩ := h; rfl) | (obtain ⟨_, _, _, _, _, _, _, _, rfl, _⟩ := h; rfl)) fun cdv A outer s H ds DH Q hr h => ⟨_, bd_settled b h_kept_by h_spared hr, settled_ok h⟩, e, F.kp, F.binds (ps := ["keeper", "a", "b"]) fun _ _ _ _ _ _ us hl => match us, hl with | [_, _, _], _ => rfl⟩
theorem has_taken_freely (b : Bl mg) (h_settled : Has P w K mg base 3 "settled" sp_settled) (T : TopDef K mg "taken_freely" st_taken_freely) : Has P w K mg base 4 "taken_freely" sp_taken_freely := by
  obtain ⟨f, fd, F, e⟩ := T
  exact ⟨f, fd, ["start", "rods"], dok F sc_taken_freely (fun ds H Q h => by first | (obtain ⟨rfl, _⟩ := h; rfl) | (obtain ⟨_, rfl, _⟩ := h; rfl) | (obtain ⟨_, _, rfl, _⟩ := h; rfl) | (obtain ⟨_, _, _, rfl, _⟩ := h; rfl) | (obtain ⟨_, _, _, _, rfl, _⟩ := h; rfl) | (obtain ⟨_, _, _, _, _, rfl, _⟩ := h; rfl) | (obtain ⟨_, _, _, _, _, _, rfl, _⟩ := h; rfl) | (obtain ⟨_, _, _, _, _, _, _, rfl, _⟩ := h; rfl) | (obtain ⟨_, _, _, _, _, _, _, _, rfl, _⟩ := h; rfl)) fun cdv A outer s H ds DH Q hr h => ⟨_, bd_taken_freely b h_settled hr, taken_freely_ok h⟩, e, F.kp, F.binds (ps := ["start", "rods"]) fun _ _ _ _ _ _ us hl => match us, hl with | [_, _], _ => rfl⟩
theorem has_first_free_rods (b : Bl mg) (h_taken_freely : Has P w K mg base 4 "taken_freely" sp_taken_freely) (T : TopDef K mg "first_free_rods" st_first_free_rods) : Has P w K mg base 5 "first_free_rods" sp_first_free_rods := by
  obtain ⟨f, fd, F, e⟩ := T
  exact ⟨f, fd, ["frame"], dok F sc_first_free_rods (fun ds H Q h => by first | (obtain ⟨rfl, _⟩ := h; rfl) | (obtain ⟨_, rfl, _⟩ := h; rfl) | (obtain ⟨_, _, rfl, _⟩ := h; rfl) | (obtain ⟨_, _, _, rfl, _⟩ := h; rfl) | (obtain ⟨_, _, _, _, rfl, _⟩ := h; rfl) | (obtain ⟨_, _, _, _, _, rfl, _⟩ := h; rfl) | (obtain ⟨_, _, _, _, _, _, rfl, _⟩ := h; rfl) | (obtain ⟨_, _, _, _, _, _, _, rfl, _⟩ := h; rfl) | (obtain ⟨_, _, _, _, _, _, _, _, rfl, _⟩ := h; rfl)) fun cdv A outer s H ds DH Q hr h => ⟨_, bd_first_free_rods b h_taken_freely hr, first_free_rods_ok h⟩, e, F.kp, F.binds (ps := ["frame"]) fun _ _ _ _ _ _ us hl => match us, hl with | [_], _ => rfl⟩
theorem has_free_rank (b : Bl mg) (h_first_free_rods : Has P w K mg base 5 "first_free_rods" sp_first_free_rods) (T : TopDef K mg "free_rank" st_free_rank) : Has P w K mg base 6 "free_rank" sp_free_rank := by
  obtain ⟨f, fd, F, e⟩ := T
  exact ⟨f, fd, ["frame"], dok F sc_free_rank (fun ds H Q h => by first | (obtain ⟨rfl, _⟩ := h; rfl) | (obtain ⟨_, rfl, _⟩ := h; rfl) | (obtain ⟨_, _, rfl, _⟩ := h; rfl) | (obtain ⟨_, _, _, rfl, _⟩ := h; rfl) | (obtain ⟨_, _, _, _, rfl, _⟩ := h; rfl) | (obtain ⟨_, _, _, _, _, rfl, _⟩ := h; rfl) | (obtain ⟨_, _, _, _, _, _, rfl, _⟩ := h; rfl) | (obtain ⟨_, _, _, _, _, _, _, rfl, _⟩ := h; rfl) | (obtain ⟨_, _, _, _, _, _, _, _, rfl, _⟩ := h; rfl)) fun cdv A outer s H ds DH Q hr h => ⟨_, bd_free_rank b h_first_free_rods hr, free_rank_ok h⟩, e, F.kp, F.binds (ps := ["frame"]) fun _ _ _ _ _ _ us hl => match us, hl with | [_], _ => rfl⟩
theorem has_lack_of (b : Bl mg) (h_free_rank : Has P w K mg base 6 "free_rank" sp_free_rank) (T : TopDef K mg "lack_of" st_lack_of) : Has P w K mg base 7 "lack_of" sp_lack_of := by
  obtain ⟨f, fd, F, e⟩ := T
  exact ⟨f, fd, ["frame"], dok F sc_lack_of (fun ds H Q h => by first | (obtain ⟨rfl, _⟩ := h; rfl) | (obtain ⟨_, rfl, _⟩ := h; rfl) | (obtain ⟨_, _, rfl, _⟩ := h; rfl) | (obtain ⟨_, _, _, rfl, _⟩ := h; rfl) | (obtain ⟨_, _, _, _, rfl, _⟩ := h; rfl) | (obtain ⟨_, _, _, _, _, rfl, _⟩ := h; rfl) | (obtain ⟨_, _, _, _, _, _, rfl, _⟩ := h; rfl) | (obtain ⟨_, _, _, _, _, _, _, rfl, _⟩ := h; rfl) | (obtain ⟨_, _, _, _, _, _, _, _, rfl, _⟩ := h; rfl)) fun cdv A outer s H ds DH Q hr h => ⟨_, bd_lack_of b h_free_rank hr, lack_of_ok h⟩, e, F.kp, F.binds (ps := ["frame"]) fun _ _ _ _ _ _ us hl => match us, hl with | [_], _ => rfl⟩
theorem has_needed_rods (b : Bl mg) (h_taken_freely : Has P w K mg base 4 "taken_freely" sp_taken_freely) (h_free_rank : Has P w K mg base 6 "free_rank" sp_free_rank) (T : TopDef K mg "needed_rods" st_needed_rods) : Has P w K mg base 7 "needed_rods" sp_needed_rods := by
  obtain ⟨f, fd, F, e⟩ := T
  exact ⟨f, fd, ["frame"], dok F sc_needed_rods (fun ds H Q h => by first | (obtain ⟨rfl, _⟩ := h; rfl) | (obtain ⟨_, rfl, _⟩ := h; rfl) | (obtain ⟨_, _, rfl, _⟩ := h; rfl) | (obtain ⟨_, _, _, rfl, _⟩ := h; rfl) | (obtain ⟨_, _, _, _, rfl, _⟩ := h; rfl) | (obtain ⟨_, _, _, _, _, rfl, _⟩ := h; rfl) | (obtain ⟨_, _, _, _, _, _, rfl, _⟩ := h; rfl) | (obtain ⟨_, _, _, _, _, _, _, rfl, _⟩ := h; rfl) | (obtain ⟨_, _, _, _, _, _, _, _, rfl, _⟩ := h; rfl)) fun cdv A outer s H ds DH Q hr h => ⟨_, bd_needed_rods b h_taken_freely h_free_rank hr, needed_rods_ok h⟩, e, F.kp, F.binds (ps := ["frame"]) fun _ _ _ _ _ _ us hl => match us, hl with | [_], _ => rfl⟩
theorem has_rods_within_lot (b : Bl mg)  (T : TopDef K mg "rods_within_lot" st_rods_within_lot) : Has P w K mg base 1 "rods_within_lot" sp_rods_within_lot := by
  obtain ⟨f, fd, F, e⟩ := T
  exact ⟨f, fd, ["rods", "lot"], dok F sc_rods_within_lot (fun ds H Q h => by first | (obtain ⟨rfl, _⟩ := h; rfl) | (obtain ⟨_, rfl, _⟩ := h; rfl) | (obtain ⟨_, _, rfl, _⟩ := h; rfl) | (obtain ⟨_, _, _, rfl, _⟩ := h; rfl) | (obtain ⟨_, _, _, _, rfl, _⟩ := h; rfl) | (obtain ⟨_, _, _, _, _, rfl, _⟩ := h; rfl) | (obtain ⟨_, _, _, _, _, _, rfl, _⟩ := h; rfl) | (obtain ⟨_, _, _, _, _, _, _, rfl, _⟩ := h; rfl) | (obtain ⟨_, _, _, _, _, _, _, _, rfl, _⟩ := h; rfl)) fun cdv A outer s H ds DH Q hr h => ⟨_, bd_rods_within_lot b  hr, rods_within_lot_ok h⟩, e, F.kp, F.binds (ps := ["rods", "lot"]) fun _ _ _ _ _ _ us hl => match us, hl with | [_, _], _ => rfl⟩
theorem has_lot_room (b : Bl mg)  (T : TopDef K mg "lot_room" st_lot_room) : Has P w K mg base 1 "lot_room" sp_lot_room := by
  obtain ⟨f, fd, F, e⟩ := T
  exact ⟨f, fd, ["lot"], dok F sc_lot_room (fun ds H Q h => by first | (obtain ⟨rfl, _⟩ := h; rfl) | (obtain ⟨_, rfl, _⟩ := h; rfl) | (obtain ⟨_, _, rfl, _⟩ := h; rfl) | (obtain ⟨_, _, _, rfl, _⟩ := h; rfl) | (obtain ⟨_, _, _, _, rfl, _⟩ := h; rfl) | (obtain ⟨_, _, _, _, _, rfl, _⟩ := h; rfl) | (obtain ⟨_, _, _, _, _, _, rfl, _⟩ := h; rfl) | (obtain ⟨_, _, _, _, _, _, _, rfl, _⟩ := h; rfl) | (obtain ⟨_, _, _, _, _, _, _, _, rfl, _⟩ := h; rfl)) fun cdv A outer s H ds DH Q hr h => ⟨_, bd_lot_room b  hr, lot_room_ok h⟩, e, F.kp, F.binds (ps := ["lot"]) fun _ _ _ _ _ _ us hl => match us, hl with | [_], _ => rfl⟩
theorem has_lots_of_joints (b : Bl mg)  (T : TopDef K mg "lots_of_joints" st_lots_of_joints) : Has P w K mg base 1 "lots_of_joints" sp_lots_of_joints := by
  obtain ⟨f, fd, F, e⟩ := T
  exact ⟨f, fd, ["n"], dok F sc_lots_of_joints (fun ds H Q h => by first | (obtain ⟨rfl, _⟩ := h; rfl) | (obtain ⟨_, rfl, _⟩ := h; rfl) | (obtain ⟨_, _, rfl, _⟩ := h; rfl) | (obtain ⟨_, _, _, rfl, _⟩ := h; rfl) | (obtain ⟨_, _, _, _, rfl, _⟩ := h; rfl) | (obtain ⟨_, _, _, _, _, rfl, _⟩ := h; rfl) | (obtain ⟨_, _, _, _, _, _, rfl, _⟩ := h; rfl) | (obtain ⟨_, _, _, _, _, _, _, rfl, _⟩ := h; rfl) | (obtain ⟨_, _, _, _, _, _, _, _, rfl, _⟩ := h; rfl)) fun cdv A outer s H ds DH Q hr h => ⟨_, bd_lots_of_joints b  hr, lots_of_joints_ok h⟩, e, F.kp, F.binds (ps := ["n"]) fun _ _ _ _ _ _ us hl => match us, hl with | [_], _ => rfl⟩
theorem has_full_lots (b : Bl mg) (h_rods_within_lot : Has P w K mg base 1 "rods_within_lot" sp_rods_within_lot) (h_lot_room : Has P w K mg base 1 "lot_room" sp_lot_room) (h_lots_of_joints : Has P w K mg base 1 "lots_of_joints" sp_lots_of_joints) (T : TopDef K mg "full_lots" st_full_lots) : Has P w K mg base 2 "full_lots" sp_full_lots := by
  obtain ⟨f, fd, F, e⟩ := T
  exact ⟨f, fd, ["frame"], dok F sc_full_lots (fun ds H Q h => by first | (obtain ⟨rfl, _⟩ := h; rfl) | (obtain ⟨_, rfl, _⟩ := h; rfl) | (obtain ⟨_, _, rfl, _⟩ := h; rfl) | (obtain ⟨_, _, _, rfl, _⟩ := h; rfl) | (obtain ⟨_, _, _, _, rfl, _⟩ := h; rfl) | (obtain ⟨_, _, _, _, _, rfl, _⟩ := h; rfl) | (obtain ⟨_, _, _, _, _, _, rfl, _⟩ := h; rfl) | (obtain ⟨_, _, _, _, _, _, _, rfl, _⟩ := h; rfl) | (obtain ⟨_, _, _, _, _, _, _, _, rfl, _⟩ := h; rfl)) fun cdv A outer s H ds DH Q hr h => ⟨_, bd_full_lots b h_rods_within_lot h_lot_room h_lots_of_joints hr, full_lots_ok h⟩, e, F.kp, F.binds (ps := ["frame"]) fun _ _ _ _ _ _ us hl => match us, hl with | [_], _ => rfl⟩
theorem has_least_full_lot (b : Bl mg) (h_full_lots : Has P w K mg base 2 "full_lots" sp_full_lots) (T : TopDef K mg "least_full_lot" st_least_full_lot) : Has P w K mg base 3 "least_full_lot" sp_least_full_lot := by
  obtain ⟨f, fd, F, e⟩ := T
  exact ⟨f, fd, ["frame", "a", "b"], dok F sc_least_full_lot (fun ds H Q h => by first | (obtain ⟨rfl, _⟩ := h; rfl) | (obtain ⟨_, rfl, _⟩ := h; rfl) | (obtain ⟨_, _, rfl, _⟩ := h; rfl) | (obtain ⟨_, _, _, rfl, _⟩ := h; rfl) | (obtain ⟨_, _, _, _, rfl, _⟩ := h; rfl) | (obtain ⟨_, _, _, _, _, rfl, _⟩ := h; rfl) | (obtain ⟨_, _, _, _, _, _, rfl, _⟩ := h; rfl) | (obtain ⟨_, _, _, _, _, _, _, rfl, _⟩ := h; rfl) | (obtain ⟨_, _, _, _, _, _, _, _, rfl, _⟩ := h; rfl)) fun cdv A outer s H ds DH Q hr h => ⟨_, bd_least_full_lot b h_full_lots hr, least_full_lot_ok h⟩, e, F.kp, F.binds (ps := ["frame", "a", "b"]) fun _ _ _ _ _ _ us hl => match us, hl with | [_, _, _], _ => rfl⟩
theorem has_round_of (b : Bl mg) (h_rods_within_lot : Has P w K mg base 1 "rods_within_lot" sp_rods_within_lot) (h_least_full_lot : Has P w K mg base 3 "least_full_lot" sp_least_full_lot) (T : TopDef K mg "round_of" st_round_of) : Has P w K mg base 4 "round_of" sp_round_of := by
  obtain ⟨f, fd, F, e⟩ := T
  exact ⟨f, fd, ["frame", "rod"], dok F sc_round_of (fun ds H Q h => by first | (obtain ⟨rfl, _⟩ := h; rfl) | (obtain ⟨_, rfl, _⟩ := h; rfl) | (obtain ⟨_, _, rfl, _⟩ := h; rfl) | (obtain ⟨_, _, _, rfl, _⟩ := h; rfl) | (obtain ⟨_, _, _, _, rfl, _⟩ := h; rfl) | (obtain ⟨_, _, _, _, _, rfl, _⟩ := h; rfl) | (obtain ⟨_, _, _, _, _, _, rfl, _⟩ := h; rfl) | (obtain ⟨_, _, _, _, _, _, _, rfl, _⟩ := h; rfl) | (obtain ⟨_, _, _, _, _, _, _, _, rfl, _⟩ := h; rfl)) fun cdv A outer s H ds DH Q hr h => ⟨_, bd_round_of b h_rods_within_lot h_least_full_lot hr, round_of_ok h⟩, e, F.kp, F.binds (ps := ["frame", "rod"]) fun _ _ _ _ _ _ us hl => match us, hl with | [_, _], _ => rfl⟩
theorem has_law_source (b : Bl mg)  (T : TopDef K mg "_law_source" st_law_source) : Has P w K mg base 1 "_law_source" (sp_law_source K) := by
  obtain ⟨f, fd, F, e⟩ := T
  refine source_imp ?_
  exact ⟨f, fd, ["script"], dok F sc_law_source (fun ds H Q h => by first | (obtain ⟨rfl, _⟩ := h; rfl) | (obtain ⟨_, rfl, _⟩ := h; rfl) | (obtain ⟨_, _, rfl, _⟩ := h; rfl) | (obtain ⟨_, _, _, rfl, _⟩ := h; rfl) | (obtain ⟨_, _, _, _, rfl, _⟩ := h; rfl) | (obtain ⟨_, _, _, _, _, rfl, _⟩ := h; rfl) | (obtain ⟨_, _, _, _, _, _, rfl, _⟩ := h; rfl) | (obtain ⟨_, _, _, _, _, _, _, rfl, _⟩ := h; rfl) | (obtain ⟨_, _, _, _, _, _, _, _, rfl, _⟩ := h; rfl)) fun cdv A outer s H ds DH Q hr h => ⟨_, bd_law_source b  hr, source22 h⟩, e, F.kp, F.binds (ps := ["script"]) fun _ _ _ _ _ _ us hl => match us, hl with | [_], _ => rfl⟩
theorem has_law_pick (b : Bl mg)  (T : TopDef K mg "_law_pick" st_law_pick) : Has P w K mg base 1 "_law_pick" sp_law_pick := by
  obtain ⟨f, fd, F, e⟩ := T
  refine pick_imp ?_
  exact ⟨f, fd, ["source", "many"], dok F sc_law_pick (fun ds H Q h => by first | (obtain ⟨rfl, _⟩ := h; rfl) | (obtain ⟨_, rfl, _⟩ := h; rfl) | (obtain ⟨_, _, rfl, _⟩ := h; rfl) | (obtain ⟨_, _, _, rfl, _⟩ := h; rfl) | (obtain ⟨_, _, _, _, rfl, _⟩ := h; rfl) | (obtain ⟨_, _, _, _, _, rfl, _⟩ := h; rfl) | (obtain ⟨_, _, _, _, _, _, rfl, _⟩ := h; rfl) | (obtain ⟨_, _, _, _, _, _, _, rfl, _⟩ := h; rfl) | (obtain ⟨_, _, _, _, _, _, _, _, rfl, _⟩ := h; rfl)) fun cdv A outer s H ds DH Q hr h => ⟨_, bd_law_pick b  hr, pick22 h⟩, e, F.kp, F.binds (ps := ["source", "many"]) fun _ _ _ _ _ _ us hl => match us, hl with | [_, _], _ => rfl⟩
theorem has_law_mixed (b : Bl mg) (h_law_pick : Has P w K mg base 1 "_law_pick" sp_law_pick) (T : TopDef K mg "_law_mixed" st_law_mixed) : Has P w K mg base 2 "_law_mixed" sp_law_mixed := by
  obtain ⟨f, fd, F, e⟩ := T
  exact ⟨f, fd, ["source", "things"], dok F sc_law_mixed (fun ds H Q h => by first | (obtain ⟨rfl, _⟩ := h; rfl) | (obtain ⟨_, rfl, _⟩ := h; rfl) | (obtain ⟨_, _, rfl, _⟩ := h; rfl) | (obtain ⟨_, _, _, rfl, _⟩ := h; rfl) | (obtain ⟨_, _, _, _, rfl, _⟩ := h; rfl) | (obtain ⟨_, _, _, _, _, rfl, _⟩ := h; rfl) | (obtain ⟨_, _, _, _, _, _, rfl, _⟩ := h; rfl) | (obtain ⟨_, _, _, _, _, _, _, rfl, _⟩ := h; rfl) | (obtain ⟨_, _, _, _, _, _, _, _, rfl, _⟩ := h; rfl)) fun cdv A outer s H ds DH Q hr h => ⟨_, bd_law_mixed b h_law_pick hr, law_mixed_ok h⟩, e, F.kp, F.binds (ps := ["source", "things"]) fun _ _ _ _ _ _ us hl => match us, hl with | [_, _], _ => rfl⟩
theorem has_law_lots (b : Bl mg)  (T : TopDef K mg "_law_lots" st_law_lots) : Has P w K mg base 1 "_law_lots" sp_law_lots := by
  obtain ⟨f, fd, F, e⟩ := T
  exact ⟨f, fd, ["n"], dok F sc_law_lots (fun ds H Q h => by first | (obtain ⟨rfl, _⟩ := h; rfl) | (obtain ⟨_, rfl, _⟩ := h; rfl) | (obtain ⟨_, _, rfl, _⟩ := h; rfl) | (obtain ⟨_, _, _, rfl, _⟩ := h; rfl) | (obtain ⟨_, _, _, _, rfl, _⟩ := h; rfl) | (obtain ⟨_, _, _, _, _, rfl, _⟩ := h; rfl) | (obtain ⟨_, _, _, _, _, _, rfl, _⟩ := h; rfl) | (obtain ⟨_, _, _, _, _, _, _, rfl, _⟩ := h; rfl) | (obtain ⟨_, _, _, _, _, _, _, _, rfl, _⟩ := h; rfl)) fun cdv A outer s H ds DH Q hr h => ⟨_, bd_law_lots b  hr, law_lots_ok h⟩, e, F.kp, F.binds (ps := ["n"]) fun _ _ _ _ _ _ us hl => match us, hl with | [_], _ => rfl⟩
theorem has_law_inside (b : Bl mg)  (T : TopDef K mg "_law_inside" st_law_inside) : Has P w K mg base 1 "_law_inside" sp_law_inside := by
  obtain ⟨f, fd, F, e⟩ := T
  exact ⟨f, fd, ["rods", "lot"], dok F sc_law_inside (fun ds H Q h => by first | (obtain ⟨rfl, _⟩ := h; rfl) | (obtain ⟨_, rfl, _⟩ := h; rfl) | (obtain ⟨_, _, rfl, _⟩ := h; rfl) | (obtain ⟨_, _, _, rfl, _⟩ := h; rfl) | (obtain ⟨_, _, _, _, rfl, _⟩ := h; rfl) | (obtain ⟨_, _, _, _, _, rfl, _⟩ := h; rfl) | (obtain ⟨_, _, _, _, _, _, rfl, _⟩ := h; rfl) | (obtain ⟨_, _, _, _, _, _, _, rfl, _⟩ := h; rfl) | (obtain ⟨_, _, _, _, _, _, _, _, rfl, _⟩ := h; rfl)) fun cdv A outer s H ds DH Q hr h => ⟨_, bd_law_inside b  hr, law_inside_ok h⟩, e, F.kp, F.binds (ps := ["rods", "lot"]) fun _ _ _ _ _ _ us hl => match us, hl with | [_, _], _ => rfl⟩
theorem has_law_is_free (b : Bl mg) (h_law_lots : Has P w K mg base 1 "_law_lots" sp_law_lots) (h_law_inside : Has P w K mg base 1 "_law_inside" sp_law_inside) (T : TopDef K mg "_law_is_free" st_law_is_free) : Has P w K mg base 2 "_law_is_free" sp_law_is_free := by
  obtain ⟨f, fd, F, e⟩ := T
  exact ⟨f, fd, ["n", "rods"], dok F sc_law_is_free (fun ds H Q h => by first | (obtain ⟨rfl, _⟩ := h; rfl) | (obtain ⟨_, rfl, _⟩ := h; rfl) | (obtain ⟨_, _, rfl, _⟩ := h; rfl) | (obtain ⟨_, _, _, rfl, _⟩ := h; rfl) | (obtain ⟨_, _, _, _, rfl, _⟩ := h; rfl) | (obtain ⟨_, _, _, _, _, rfl, _⟩ := h; rfl) | (obtain ⟨_, _, _, _, _, _, rfl, _⟩ := h; rfl) | (obtain ⟨_, _, _, _, _, _, _, rfl, _⟩ := h; rfl) | (obtain ⟨_, _, _, _, _, _, _, _, rfl, _⟩ := h; rfl)) fun cdv A outer s H ds DH Q hr h => ⟨_, bd_law_is_free b h_law_lots h_law_inside hr, law_is_free_ok h⟩, e, F.kp, F.binds (ps := ["n", "rods"]) fun _ _ _ _ _ _ us hl => match us, hl with | [_, _], _ => rfl⟩
theorem has_law_first (b : Bl mg) (h_law_lots : Has P w K mg base 1 "_law_lots" sp_law_lots) (h_law_inside : Has P w K mg base 1 "_law_inside" sp_law_inside) (T : TopDef K mg "_law_first" st_law_first) : Has P w K mg base 2 "_law_first" sp_law_first := by
  obtain ⟨f, fd, F, e⟩ := T
  exact ⟨f, fd, ["n", "start", "rods"], dok F sc_law_first (fun ds H Q h => by first | (obtain ⟨rfl, _⟩ := h; rfl) | (obtain ⟨_, rfl, _⟩ := h; rfl) | (obtain ⟨_, _, rfl, _⟩ := h; rfl) | (obtain ⟨_, _, _, rfl, _⟩ := h; rfl) | (obtain ⟨_, _, _, _, rfl, _⟩ := h; rfl) | (obtain ⟨_, _, _, _, _, rfl, _⟩ := h; rfl) | (obtain ⟨_, _, _, _, _, _, rfl, _⟩ := h; rfl) | (obtain ⟨_, _, _, _, _, _, _, rfl, _⟩ := h; rfl) | (obtain ⟨_, _, _, _, _, _, _, _, rfl, _⟩ := h; rfl)) fun cdv A outer s H ds DH Q hr h => ⟨_, bd_law_first b h_law_lots h_law_inside hr, law_first_ok h⟩, e, F.kp, F.binds (ps := ["n", "start", "rods"]) fun _ _ _ _ _ _ us hl => match us, hl with | [_, _, _], _ => rfl⟩
theorem has_law_pairs (b : Bl mg)  (T : TopDef K mg "_law_pairs" st_law_pairs) : Has P w K mg base 1 "_law_pairs" sp_law_pairsT := by
  obtain ⟨f, fd, F, e⟩ := T
  exact ⟨f, fd, ["n"], dok F sc_law_pairs (fun ds H Q h => by first | (obtain ⟨rfl, _⟩ := h; rfl) | (obtain ⟨_, rfl, _⟩ := h; rfl) | (obtain ⟨_, _, rfl, _⟩ := h; rfl) | (obtain ⟨_, _, _, rfl, _⟩ := h; rfl) | (obtain ⟨_, _, _, _, rfl, _⟩ := h; rfl) | (obtain ⟨_, _, _, _, _, rfl, _⟩ := h; rfl) | (obtain ⟨_, _, _, _, _, _, rfl, _⟩ := h; rfl) | (obtain ⟨_, _, _, _, _, _, _, rfl, _⟩ := h; rfl) | (obtain ⟨_, _, _, _, _, _, _, _, rfl, _⟩ := h; rfl)) fun cdv A outer s H ds DH Q hr h => ⟨_, bd_law_pairs b  hr, law_pairsT_ok h⟩, e, F.kp, F.binds (ps := ["n"]) fun _ _ _ _ _ _ us hl => match us, hl with | [_], _ => rfl⟩
theorem has_law_frame (b : Bl mg) (h_law_pick : Has P w K mg base 1 "_law_pick" sp_law_pick) (h_law_mixed : Has P w K mg base 2 "_law_mixed" sp_law_mixed) (h_law_pairs : Has P w K mg base 1 "_law_pairs" sp_law_pairsT) (T : TopDef K mg "_law_frame" st_law_frame) : Has P w K mg base 3 "_law_frame" sp_law_frame14 := by
  obtain ⟨f, fd, F, e⟩ := T
  exact ⟨f, fd, ["source", "most"], dok F sc_law_frame (fun ds H Q h => by first | (obtain ⟨rfl, _⟩ := h; rfl) | (obtain ⟨_, rfl, _⟩ := h; rfl) | (obtain ⟨_, _, rfl, _⟩ := h; rfl) | (obtain ⟨_, _, _, rfl, _⟩ := h; rfl) | (obtain ⟨_, _, _, _, rfl, _⟩ := h; rfl) | (obtain ⟨_, _, _, _, _, rfl, _⟩ := h; rfl) | (obtain ⟨_, _, _, _, _, _, rfl, _⟩ := h; rfl) | (obtain ⟨_, _, _, _, _, _, _, rfl, _⟩ := h; rfl) | (obtain ⟨_, _, _, _, _, _, _, _, rfl, _⟩ := h; rfl)) fun cdv A outer s H ds DH Q hr h => ⟨_, bd_law_frame b h_law_pick h_law_mixed h_law_pairs hr, law_frame14_ok h⟩, e, F.kp, F.binds (ps := ["source", "most"]) fun _ _ _ _ _ _ us hl => match us, hl with | [_, _], _ => rfl⟩
theorem has_can_be_put (b : Bl mg) (h_taken_freely : Has P w K mg base 4 "taken_freely" sp_taken_freely) (T : TopDef K mg "can_be_put" st_can_be_put) : Has P w K mg base 5 "can_be_put" sp_can_be_put := by
  obtain ⟨f, fd, F, e⟩ := T
  exact ⟨f, fd, ["frame", "rod"], dok F sc_can_be_put (fun ds H Q h => by first | (obtain ⟨rfl, _⟩ := h; rfl) | (obtain ⟨_, rfl, _⟩ := h; rfl) | (obtain ⟨_, _, rfl, _⟩ := h; rfl) | (obtain ⟨_, _, _, rfl, _⟩ := h; rfl) | (obtain ⟨_, _, _, _, rfl, _⟩ := h; rfl) | (obtain ⟨_, _, _, _, _, rfl, _⟩ := h; rfl) | (obtain ⟨_, _, _, _, _, _, rfl, _⟩ := h; rfl) | (obtain ⟨_, _, _, _, _, _, _, rfl, _⟩ := h; rfl) | (obtain ⟨_, _, _, _, _, _, _, _, rfl, _⟩ := h; rfl)) fun cdv A outer s H ds DH Q hr h => ⟨_, bd_can_be_put b h_taken_freely hr, can_be_put_ok h⟩, e, F.kp, F.binds (ps := ["frame", "rod"]) fun _ _ _ _ _ _ us hl => match us, hl with | [_, _], _ => rfl⟩
theorem has_law_rounds_right (b : Bl mg) (h_can_be_put : Has P w K mg base 5 "can_be_put" sp_can_be_put) (h_round_of : Has P w K mg base 4 "round_of" sp_round_of) (h_law_pairs : Has P w K mg base 1 "_law_pairs" sp_law_pairsT) (h_law_is_free : Has P w K mg base 2 "_law_is_free" sp_law_is_free) (T : TopDef K mg "_law_rounds_right" st_law_rounds_right) : HasG P w K mg base 6 "_law_rounds_right" sp_law_rounds_right := by
  obtain ⟨f, fd, F, e⟩ := T
  exact ⟨f, fd, ["n", "rods"], gok F sc_law_rounds_right (fun ds H Q h => by first | (obtain ⟨rfl, _⟩ := h; rfl) | (obtain ⟨_, rfl, _⟩ := h; rfl) | (obtain ⟨_, _, rfl, _⟩ := h; rfl) | (obtain ⟨_, _, _, rfl, _⟩ := h; rfl) | (obtain ⟨_, _, _, _, rfl, _⟩ := h; rfl) | (obtain ⟨_, _, _, _, _, rfl, _⟩ := h; rfl) | (obtain ⟨_, _, _, _, _, _, rfl, _⟩ := h; rfl) | (obtain ⟨_, _, _, _, _, _, _, rfl, _⟩ := h; rfl) | (obtain ⟨_, _, _, _, _, _, _, _, rfl, _⟩ := h; rfl)) fun cdv A outer s H ds DH Q hgd hr h => ⟨_, bd_law_rounds_right b h_can_be_put h_round_of h_law_pairs h_law_is_free hgd hr, law_rounds_right_ok h⟩, e, F.kp, F.binds (ps := ["n", "rods"]) fun _ _ _ _ _ _ us hl => match us, hl with | [_, _], _ => rfl⟩
theorem has_exchanged_rod (b : Bl mg) (h_taken_freely : Has P w K mg base 4 "taken_freely" sp_taken_freely) (T : TopDef K mg "exchanged_rod" st_exchanged_rod) : Has P w K mg base 5 "exchanged_rod" sp_exchanged_rod := by
  obtain ⟨f, fd, F, e⟩ := T
  exact ⟨f, fd, ["frame", "one", "other"], dok F sc_exchanged_rod (fun ds H Q h => by first | (obtain ⟨rfl, _⟩ := h; rfl) | (obtain ⟨_, rfl, _⟩ := h; rfl) | (obtain ⟨_, _, rfl, _⟩ := h; rfl) | (obtain ⟨_, _, _, rfl, _⟩ := h; rfl) | (obtain ⟨_, _, _, _, rfl, _⟩ := h; rfl) | (obtain ⟨_, _, _, _, _, rfl, _⟩ := h; rfl) | (obtain ⟨_, _, _, _, _, _, rfl, _⟩ := h; rfl) | (obtain ⟨_, _, _, _, _, _, _, rfl, _⟩ := h; rfl) | (obtain ⟨_, _, _, _, _, _, _, _, rfl, _⟩ := h; rfl)) fun cdv A outer s H ds DH Q hr h => ⟨_, bd_exchanged_rod b h_taken_freely hr, exchanged_rod_ok h⟩, e, F.kp, F.binds (ps := ["frame", "one", "other"]) fun _ _ _ _ _ _ us hl => match us, hl with | [_, _, _], _ => rfl⟩
theorem has_law_exchange_right (b : Bl mg) (h_exchanged_rod : Has P w K mg base 5 "exchanged_rod" sp_exchanged_rod) (h_law_pick : Has P w K mg base 1 "_law_pick" sp_law_pick) (h_law_mixed : Has P w K mg base 2 "_law_mixed" sp_law_mixed) (h_law_is_free : Has P w K mg base 2 "_law_is_free" sp_law_is_free) (h_law_first : Has P w K mg base 2 "_law_first" sp_law_first) (T : TopDef K mg "_law_exchange_right" st_law_exchange_right) : HasG P w K mg base 6 "_law_exchange_right" sp_law_exchange_right := by
  obtain ⟨f, fd, F, e⟩ := T
  exact ⟨f, fd, ["source", "n", "rods"], gok F sc_law_exchange_right (fun ds H Q h => by first | (obtain ⟨rfl, _⟩ := h; rfl) | (obtain ⟨_, rfl, _⟩ := h; rfl) | (obtain ⟨_, _, rfl, _⟩ := h; rfl) | (obtain ⟨_, _, _, rfl, _⟩ := h; rfl) | (obtain ⟨_, _, _, _, rfl, _⟩ := h; rfl) | (obtain ⟨_, _, _, _, _, rfl, _⟩ := h; rfl) | (obtain ⟨_, _, _, _, _, _, rfl, _⟩ := h; rfl) | (obtain ⟨_, _, _, _, _, _, _, rfl, _⟩ := h; rfl) | (obtain ⟨_, _, _, _, _, _, _, _, rfl, _⟩ := h; rfl)) fun cdv A outer s H ds DH Q hgd hr h => ⟨_, bd_law_exchange_right b h_exchanged_rod h_law_pick h_law_mixed h_law_is_free h_law_first hgd hr, law_exchange_right_ok h⟩, e, F.kp, F.binds (ps := ["source", "n", "rods"]) fun _ _ _ _ _ _ us hl => match us, hl with | [_, _, _], _ => rfl⟩
theorem ok_law (b : Bl mg) (h_first_free_rods : Has P w K mg base 5 "first_free_rods" sp_first_free_rods) (h_free_rank : Has P w K mg base 6 "free_rank" sp_free_rank) (h_lack_of : Has P w K mg base 7 "lack_of" sp_lack_of) (h_needed_rods : Has P w K mg base 7 "needed_rods" sp_needed_rods) (h_round_of : Has P w K mg base 4 "round_of" sp_round_of) (h_law_source : Has P w K mg base 1 "_law_source" (sp_law_source K)) (h_law_mixed : Has P w K mg base 2 "_law_mixed" sp_law_mixed) (h_law_is_free : Has P w K mg base 2 "_law_is_free" sp_law_is_free) (h_law_first : Has P w K mg base 2 "_law_first" sp_law_first) (h_law_frame : Has P w K mg base 3 "_law_frame" sp_law_frame14) (h_law_rounds_right : HasG P w K mg base 6 "_law_rounds_right" sp_law_rounds_right) (h_law_exchange_right : HasG P w K mg base 6 "_law_exchange_right" sp_law_exchange_right) {f : Addr} {fd : FuncData} (F : Fun K "law" "law" st_law f fd) : FnG P w K mg base 8 f ["script"] fd (loP (spLaw K)) :=
  gok F sc_law (fun ds H Q h => by first | (obtain ⟨rfl, _⟩ := h; rfl) | (obtain ⟨_, rfl, _⟩ := h; rfl) | (obtain ⟨_, _, rfl, _⟩ := h; rfl) | (obtain ⟨_, _, _, rfl, _⟩ := h; rfl) | (obtain ⟨_, _, _, _, rfl, _⟩ := h; rfl) | (obtain ⟨_, _, _, _, _, rfl, _⟩ := h; rfl) | (obtain ⟨_, _, _, _, _, _, rfl, _⟩ := h; rfl) | (obtain ⟨_, _, _, _, _, _, _, rfl, _⟩ := h; rfl) | (obtain ⟨_, _, _, _, _, _, _, _, rfl, _⟩ := h; rfl)) fun cdv A outer s H ds DH Q hgd hr h => ⟨_, bd_law b h_first_free_rods h_free_rank h_lack_of h_needed_rods h_round_of h_law_source h_law_mixed h_law_is_free h_law_first h_law_frame h_law_rounds_right h_law_exchange_right hgd hr, law_ok h⟩
end
theorem all_of {l : PySem.W.OpenLaw} {w : World} {K : PySem.W.Frag} {h : Heap} {mg : Str → Option Value} {fa : Addr} (X : K.In h) (G : h.Ns mainGlobals mg) (hfa : mg "law" = some (.ref fa)) (bl : BlK K) (t_kept_by : TopAt K "kept_by" st_kept_by) (t_moved_along : TopAt K "moved_along" st_moved_along) (t_spared : TopAt K "spared" st_spared) (t_settled : TopAt K "settled" st_settled) (t_taken_freely : TopAt K "taken_freely" st_taken_freely) (t_first_free_rods : TopAt K "first_free_rods" st_first_free_rods) (t_free_rank : TopAt K "free_rank" st_free_rank) (t_lack_of : TopAt K "lack_of" st_lack_of) (t_needed_rods : TopAt K "needed_rods" st_needed_rods) (t_rods_within_lot : TopAt K "rods_within_lot" st_rods_within_lot) (t_lot_room : TopAt K "lot_room" st_lot_room) (t_lots_of_joints : TopAt K "lots_of_joints" st_lots_of_joints) (t_full_lots : TopAt K "full_lots" st_full_lots) (t_least_full_lot : TopAt K "least_full_lot" st_least_full_lot) (t_round_of : TopAt K "round_of" st_round_of) (t_law_source : TopAt K "_law_source" st_law_source) (t_law_pick : TopAt K "_law_pick" st_law_pick) (t_law_mixed : TopAt K "_law_mixed" st_law_mixed) (t_law_lots : TopAt K "_law_lots" st_law_lots) (t_law_inside : TopAt K "_law_inside" st_law_inside) (t_law_is_free : TopAt K "_law_is_free" st_law_is_free) (t_law_first : TopAt K "_law_first" st_law_first) (t_law_pairs : TopAt K "_law_pairs" st_law_pairs) (t_law_frame : TopAt K "_law_frame" st_law_frame) (t_can_be_put : TopAt K "can_be_put" st_can_be_put) (t_law_rounds_right : TopAt K "_law_rounds_right" st_law_rounds_right) (t_exchanged_rod : TopAt K "exchanged_rod" st_exchanged_rod) (t_law_exchange_right : TopAt K "_law_exchange_right" st_law_exchange_right) (t_law : TopAt K "law" st_law) :
    ∃ fd : FuncData, (∀ (s : Shared) (v : Value), BindsTo s fd ⟨[v], []⟩ [("script", v)]) ∧ ∀ base : Heap, K.In base → base.Ns mainGlobals mg → FnG l.prog w K mg base 8 fa ["script"] fd (loP (spLaw K)) := by
  have b := bl.top X G
  obtain ⟨f, fd, F, e⟩ := t_law.top X G
  have e := hfa.symm.trans e
  cases e
  refine ⟨fd, fun s v => ?_, fun base _ _ => ?_⟩
  · obtain ⟨oc, od, kV, doc, pm, an, cdv, ct, osl, rfl, lk, hcd⟩ := F.ex
    exact .of_eq rfl
  have h_kept_by := has_kept_by (P := l.prog) (w := w) (base := base) b  (t_kept_by.top X G)
  have h_moved_along := has_moved_along (P := l.prog) (w := w) (base := base) b  (t_moved_along.top X G)
  have h_spared := has_spared (P := l.prog) (w := w) (base := base) b h_kept_by h_moved_along (t_spared.top X G)
  have h_settled := has_settled (P := l.prog) (w := w) (base := base) b h_kept_by h_spared (t_settled.top X G)
  have h_taken_freely := has_taken_freely (P := l.prog) (w := w) (base := base) b h_settled (t_taken_freely.top X G)
  have h_first_free_rods := has_first_free_rods (P := l.prog) (w := w) (base := base) b h_taken_freely (t_first_free_rods.top X G)
  have h_free_rank := has_free_rank (P := l.prog) (w := w) (base := base) b h_first_free_rods (t_free_rank.top X G)
  have h_lack_of := has_lack_of (P := l.prog) (w := w) (base := base) b h_free_rank (t_lack_of.top X G)
  have h_needed_rods := has_needed_rods (P := l.prog) (w := w) (base := base) b h_taken_freely h_free_rank (t_needed_rods.top X G)
  have h_rods_within_lot := has_rods_within_lot (P := l.prog) (w := w) (base := base) b  (t_rods_within_lot.top X G)
  have h_lot_room := has_lot_room (P := l.prog) (w := w) (base := base) b  (t_lot_room.top X G)
  have h_lots_of_joints := has_lots_of_joints (P := l.prog) (w := w) (base := base) b  (t_lots_of_joints.top X G)
  have h_full_lots := has_full_lots (P := l.prog) (w := w) (base := base) b h_rods_within_lot h_lot_room h_lots_of_joints (t_full_lots.top X G)
  have h_least_full_lot := has_least_full_lot (P := l.prog) (w := w) (base := base) b h_full_lots (t_least_full_lot.top X G)
  have h_round_of := has_round_of (P := l.prog) (w := w) (base := base) b h_rods_within_lot h_least_full_lot (t_round_of.top X G)
  have h_law_source := has_law_source (P := l.prog) (w := w) (base := base) b  (t_law_source.top X G)
  have h_law_pick := has_law_pick (P := l.prog) (w := w) (base := base) b  (t_law_pick.top X G)
  have h_law_mixed := has_law_mixed (P := l.prog) (w := w) (base := base) b h_law_pick (t_law_mixed.top X G)
  have h_law_lots := has_law_lots (P := l.prog) (w := w) (base := base) b  (t_law_lots.top X G)
  have h_law_inside := has_law_inside (P := l.prog) (w := w) (base := base) b  (t_law_inside.top X G)
  have h_law_is_free := has_law_is_free (P := l.prog) (w := w) (base := base) b h_law_lots h_law_inside (t_law_is_free.top X G)
  have h_law_first := has_law_first (P := l.prog) (w := w) (base := base) b h_law_lots h_law_inside (t_law_first.top X G)
  have h_law_pairs := has_law_pairs (P := l.prog) (w := w) (base := base) b  (t_law_pairs.top X G)
  have h_law_frame := has_law_frame (P := l.prog) (w := w) (base := base) b h_law_pick h_law_mixed h_law_pairs (t_law_frame.top X G)
  have h_can_be_put := has_can_be_put (P := l.prog) (w := w) (base := base) b h_taken_freely (t_can_be_put.top X G)
  have h_law_rounds_right := has_law_rounds_right (P := l.prog) (w := w) (base := base) b h_can_be_put h_round_of h_law_pairs h_law_is_free (t_law_rounds_right.top X G)
  have h_exchanged_rod := has_exchanged_rod (P := l.prog) (w := w) (base := base) b h_taken_freely (t_exchanged_rod.top X G)
  have h_law_exchange_right := has_law_exchange_right (P := l.prog) (w := w) (base := base) b h_exchanged_rod h_law_pick h_law_mixed h_law_is_free h_law_first (t_law_exchange_right.top X G)
  exact ok_law b h_first_free_rods h_free_rank h_lack_of h_needed_rods h_round_of h_law_source h_law_mixed h_law_is_free h_law_first h_law_frame h_law_rounds_right h_law_exchange_right F
end DL
open PySem PySem.W PyProof.Rows
set_option maxRecDepth 100000 in
set_option maxHeartbeats 0 in
theorem PySem.Challenge.cw_firmframes_k14_whole_free_rods_and_ranks_holds : PySem.Challenge.rw_firmframes_k14_whole_free_rods_and_ranks.Holds := by
  w_on; o_law; k_head; (case hw => w_witness2)
  k_fill
  refine DL.law_end (l := PySem.Challenge.rw_firmframes_k14_whole_free_rods_and_ranks) (k := 8) (x := "script") rfl rfl ⟨rfl, by decide, by decide⟩ (fun w h Y => PySem.W.kIn_of Y) ?F
  case F =>
    intro w mg fa h KX G hmg
    refine' DL.all_of KX G hmg ?bl ?t_kept_by ?t_moved_along ?t_spared ?t_settled ?t_taken_freely ?t_first_free_rods ?t_free_rank ?t_lack_of ?t_needed_rods ?t_rods_within_lot ?t_lot_room ?t_lots_of_joints ?t_full_lots ?t_least_full_lot ?t_round_of ?t_law_source ?t_law_pick ?t_law_mixed ?t_law_lots ?t_law_inside ?t_law_is_free ?t_law_first ?t_law_pairs ?t_law_frame ?t_can_be_put ?t_law_rounds_right ?t_exchanged_rod ?t_law_exchange_right ?t_law
    (case bl => refine' DL.BlK.mk ?b0 ?b1 ?b2 ?b3 ?b4 ?b5 ?b6 ?b7 ?b8 ?b9 ?b10 ?b11 ?b12 ?b13 ?b14 ?b15 ?b16 ?b17 ?b18 ?b19; (case b0 => k_is); (case b1 => k_is); (case b2 => k_is); (case b3 => k_is); (case b4 => k_is); (case b5 => k_is); (case b6 => k_is); (case b7 => k_is); (case b8 => k_is); (case b9 => k_is); (case b10 => k_is); (case b11 => k_is); (case b12 => k_is); (case b13 => k_is); (case b14 => k_is); (case b15 => k_is); (case b16 => k_is); (case b17 => k_is); (case b18 => k_is); (case b19 => k_is))
    (case t_kept_by => refine' DL.TopAt.mk ?a ?l ?c ?k; (case a => k_is); (case l => k_is); (case c => k_is); (case k => k_is))
    (case t_moved_along => refine' DL.TopAt.mk ?a ?l ?c ?k; (case a => k_is); (case l => k_is); (case c => k_is); (case k => k_is))
    (case t_spared => refine' DL.TopAt.mk ?a ?l ?c ?k; (case a => k_is); (case l => k_is); (case c => k_is); (case k => k_is))
    (case t_settled => refine' DL.TopAt.mk ?a ?l ?c ?k; (case a => k_is); (case l => k_is); (case c => k_is); (case k => k_is))
    (case t_taken_freely => refine' DL.TopAt.mk ?a ?l ?c ?k; (case a => k_is); (case l => k_is); (case c => k_is); (case k => k_is))
    (case t_first_free_rods => refine' DL.TopAt.mk ?a ?l ?c ?k; (case a => k_is); (case l => k_is); (case c => k_is); (case k => k_is))
    (case t_free_rank => refine' DL.TopAt.mk ?a ?l ?c ?k; (case a => k_is); (case l => k_is); (case c => k_is); (case k => k_is))
    (case t_lack_of => refine' DL.TopAt.mk ?a ?l ?c ?k; (case a => k_is); (case l => k_is); (case c => k_is); (case k => k_is))
    (case t_needed_rods => refine' DL.TopAt.mk ?a ?l ?c ?k; (case a => k_is); (case l => k_is); (case c => k_is); (case k => k_is))
    (case t_rods_within_lot => refine' DL.TopAt.mk ?a ?l ?c ?k; (case a => k_is); (case l => k_is); (case c => k_is); (case k => k_is))
    (case t_lot_room => refine' DL.TopAt.mk ?a ?l ?c ?k; (case a => k_is); (case l => k_is); (case c => k_is); (case k => k_is))
    (case t_lots_of_joints => refine' DL.TopAt.mk ?a ?l ?c ?k; (case a => k_is); (case l => k_is); (case c => k_is); (case k => k_is))
    (case t_full_lots => refine' DL.TopAt.mk ?a ?l ?c ?k; (case a => k_is); (case l => k_is); (case c => k_is); (case k => k_is))
    (case t_least_full_lot => refine' DL.TopAt.mk ?a ?l ?c ?k; (case a => k_is); (case l => k_is); (case c => k_is); (case k => k_is))
    (case t_round_of => refine' DL.TopAt.mk ?a ?l ?c ?k; (case a => k_is); (case l => k_is); (case c => k_is); (case k => k_is))
    (case t_law_source => refine' DL.TopAt.mk ?a ?l ?c ?k; (case a => k_is); (case l => k_is); (case c => k_is); (case k => k_is))
    (case t_law_pick => refine' DL.TopAt.mk ?a ?l ?c ?k; (case a => k_is); (case l => k_is); (case c => k_is); (case k => k_is))
    (case t_law_mixed => refine' DL.TopAt.mk ?a ?l ?c ?k; (case a => k_is); (case l => k_is); (case c => k_is); (case k => k_is))
    (case t_law_lots => refine' DL.TopAt.mk ?a ?l ?c ?k; (case a => k_is); (case l => k_is); (case c => k_is); (case k => k_is))
    (case t_law_inside => refine' DL.TopAt.mk ?a ?l ?c ?k; (case a => k_is); (case l => k_is); (case c => k_is); (case k => k_is))
    (case t_law_is_free => refine' DL.TopAt.mk ?a ?l ?c ?k; (case a => k_is); (case l => k_is); (case c => k_is); (case k => k_is))
    (case t_law_first => refine' DL.TopAt.mk ?a ?l ?c ?k; (case a => k_is); (case l => k_is); (case c => k_is); (case k => k_is))
    (case t_law_pairs => refine' DL.TopAt.mk ?a ?l ?c ?k; (case a => k_is); (case l => k_is); (case c => k_is); (case k => k_is))
    (case t_law_frame => refine' DL.TopAt.mk ?a ?l ?c ?k; (case a => k_is); (case l => k_is); (case c => k_is); (case k => k_is))
    (case t_can_be_put => refine' DL.TopAt.mk ?a ?l ?c ?k; (case a => k_is); (case l => k_is); (case c => k_is); (case k => k_is))
    (case t_law_rounds_right => refine' DL.TopAt.mk ?a ?l ?c ?k; (case a => k_is); (case l => k_is); (case c => k_is); (case k => k_is))
    (case t_exchanged_rod => refine' DL.TopAt.mk ?a ?l ?c ?k; (case a => k_is); (case l => k_is); (case c => k_is); (case k => k_is))
    (case t_law_exchange_right => refine' DL.TopAt.mk ?a ?l ?c ?k; (case a => k_is); (case l => k_is); (case c => k_is); (case k => k_is))
    (case t_law => refine' DL.TopAt.mk ?a ?l ?c ?k; (case a => k_is); (case l => k_is); (case c => k_is); (case k => k_is))
#print axioms PySem.Challenge.cw_firmframes_k14_whole_free_rods_and_ranks_holds

