import PyProof.Rows.All
import Wide.All
import OpenK.AllK
import Wide.FinOn
import HandS.ForMost
import HandS.Conv
import HandS.Walk
import HandS.IsInst
import HandS.Deep
import HandS.Wide
import KE.GoesMore
import KE.GoesEnum
import HandS.Zip
import HandS.Style
import HandS.SortRule
import HandS.SortInts
import HandS.Star
import PySem.Challenge.RW_firmframes_k04_whole_places_alike
set_option Elab.async false
set_option linter.all false
set_option maxRecDepth 100000
/-! DL1: data without addresses over the hand layer. -/
namespace DL
open PySem PySem.Spec PyProof.Rows L2

/-- a value: tuples, and lists and dicts that nobody changes any more, by what they hold -/
inductive D where
  | non | bl (b : Bool) | int (i : Int) | str (x : Str)
  | tup (xs : List D) | lst (xs : List D) | dct (ks : List Key) (vs : List D)
  | ref (a : Addr) | ty (n : String)

/-- what stands at an address that may be changed -/
inductive DO where
  | lst (xs : List D) | dK (kvs : List (Key × D)) | dT (kvs : List (List Key × D)) | src | scr (xs : List D)
abbrev DHp := Addr → Option DO
abbrev DK := D → DHp → Prop

mutual
/-- v is d, by the frozen things T -/
def RepV (T : Hp) : D → V → Prop
  | .non, v => v = .non
  | .bl b, v => v = .bl b
  | .int i, v => v = .int i
  | .str x, v => v = .str x
  | .ref a, v => v = .ref a
  | .ty n, v => v = .ty n
  | .tup ds, v => ∃ p vs, v = .ref p ∧ T p = some (.tup vs) ∧ RepL T ds vs
  | .lst ds, v => ∃ p vs, v = .ref p ∧ T p = some (.lst vs) ∧ RepL T ds vs
  | .dct ks ds, v => ∃ p kvs, v = .ref p ∧ T p = some (.dK kvs) ∧ kvs.map (·.1) = ks ∧ RepL T ds (kvs.map (·.2))
def RepL (T : Hp) : List D → List V → Prop
  | [], vs => vs = []
  | d :: ds, vs => ∃ v r, vs = v :: r ∧ RepV T d v ∧ RepL T ds r
end

theorem Rd.up {T T' : Hp} {p : Addr} {u : HO} (s : Same T T') (h : Rd T p u) : Rd T' p u := by
  rcases h with h | ⟨o, h⟩
  · exact .inl (s _ _ h)
  · exact .inr ⟨o, s _ _ h⟩
mutual
theorem RepV.up {T T' : Hp} (s : Same T T') : ∀ (d : D) (v : V), RepV T d v → RepV T' d v
  | .non, _, h => h
  | .bl _, _, h => h
  | .int _, _, h => h
  | .str _, _, h => h
  | .ref _, _, h => h
  | .ty _, _, h => h
  | .tup ds, _, ⟨p, vs, e, t, r⟩ => ⟨p, vs, e, s _ _ t, RepL.up s ds vs r⟩
  | .lst ds, _, ⟨p, vs, e, t, r⟩ => ⟨p, vs, e, s _ _ t, RepL.up s ds vs r⟩
  | .dct ks ds, _, ⟨p, kvs, e, t, k, r⟩ => ⟨p, kvs, e, s _ _ t, k, RepL.up s ds _ r⟩
theorem RepL.up {T T' : Hp} (s : Same T T') : ∀ (ds : List D) (vs : List V), RepL T ds vs → RepL T' ds vs
  | [], _, h => h
  | d :: ds, _, ⟨v, r, e, h1, h2⟩ => ⟨v, r, e, RepV.up s d v h1, RepL.up s ds r h2⟩
end
/-- T but for a thing that is being made at p -/
def But (p : Addr) (T T' : Hp) : Prop := (∃ ob u, T p = some (.frz ob u)) ∧ ∀ q, q ≠ p → T' q = T q
theorem But.at {T T' : Hp} {p : Addr} (b : But p T T') {q : Addr} {o : HO} (e : T q = some o) (n : ∀ ob u, o ≠ .frz ob u) : T' q = some o := by
  obtain ⟨⟨ob, u, h⟩, b⟩ := b
  rw [b q (fun z => by subst z; rw [h] at e; cases e; exact n _ _ rfl)]
  exact e
mutual
theorem RepV.but {T T' : Hp} {p : Addr} (b : But p T T') : ∀ (d : D) (v : V), RepV T d v → RepV T' d v
  | .non, _, h => h
  | .bl _, _, h => h
  | .int _, _, h => h
  | .str _, _, h => h
  | .ref _, _, h => h
  | .ty _, _, h => h
  | .tup ds, _, ⟨p, vs, e, t, r⟩ => ⟨p, vs, e, b.at t (fun _ _ z => by cases z), RepL.but b ds vs r⟩
  | .lst ds, _, ⟨p, vs, e, t, r⟩ => ⟨p, vs, e, b.at t (fun _ _ z => by cases z), RepL.but b ds vs r⟩
  | .dct ks ds, _, ⟨p, kvs, e, t, k, r⟩ => ⟨p, kvs, e, b.at t (fun _ _ z => by cases z), k, RepL.but b ds _ r⟩
theorem RepL.but {T T' : Hp} {p : Addr} (b : But p T T') : ∀ (ds : List D) (vs : List V), RepL T ds vs → RepL T' ds vs
  | [], _, h => h
  | d :: ds, _, ⟨v, r, e, h1, h2⟩ => ⟨v, r, e, RepV.but b d v h1, RepL.but b ds r h2⟩
end
theorem But.upd {T : Hp} {p : Addr} {ob : Obj} {u : HO} (h : T p = some (.frz ob u)) (o : HO) : But p T (upd T p o) := ⟨⟨ob, u, h⟩, fun q n => upd_ne n⟩
theorem RepL.nil {T : Hp} : RepL T [] [] := rfl
theorem RepL.cons {T : Hp} {d : D} {ds : List D} {v : V} {vs : List V} (h : RepV T d v) (r : RepL T ds vs) : RepL T (d :: ds) (v :: vs) := ⟨v, vs, rfl, h, r⟩
theorem RepL.length {T : Hp} : ∀ {ds : List D} {vs : List V}, RepL T ds vs → vs.length = ds.length
  | [], _, h => by cases (show _ = [] from h); rfl
  | d :: ds, _, ⟨v, r, e, _, h2⟩ => by subst e; simp [RepL.length h2]
theorem RepL.append {T : Hp} : ∀ {ds es : List D} {vs ws : List V}, RepL T ds vs → RepL T es ws → RepL T (ds ++ es) (vs ++ ws)
  | [], _, _, _, h, r => by cases (show _ = [] from h); exact r
  | d :: ds, _, _, _, ⟨v, q, e, h1, h2⟩, r => by subst e; exact .cons h1 (RepL.append h2 r)
theorem RepL.get {T : Hp} : ∀ {ds : List D} {vs : List V} {i : Nat} {d : D}, RepL T ds vs → ds[i]? = some d → ∃ v, vs[i]? = some v ∧ RepV T d v
  | [], _, _, _, _, e => by simp at e
  | d :: ds, _, 0, _, ⟨v, r, e, h1, _⟩, q => by subst e; simp at q; subst q; exact ⟨v, by simp, h1⟩
  | d :: ds, _, i + 1, x, ⟨v, r, e, _, h2⟩, q => by
    subst e
    obtain ⟨w, a, b⟩ := RepL.get (i := i) (d := x) h2 (by simpa using q)
    exact ⟨w, by simpa using a, b⟩
theorem RepL.take {T : Hp} : ∀ {ds : List D} {vs : List V} (n : Nat), RepL T ds vs → RepL T (ds.take n) (vs.take n)
  | _, _, 0, _ => by simp only [List.take_zero]; exact .nil
  | [], _, _ + 1, h => by cases (show _ = [] from h); exact .nil
  | d :: ds, _, n + 1, ⟨v, r, e, h1, h2⟩ => by subst e; exact .cons h1 (RepL.take n h2)
theorem RepL.drop {T : Hp} : ∀ {ds : List D} {vs : List V} (n : Nat), RepL T ds vs → RepL T (ds.drop n) (vs.drop n)
  | _, _, 0, h => h
  | [], _, _ + 1, h => by cases (show _ = [] from h); exact .nil
  | d :: ds, _, n + 1, ⟨v, r, e, h1, h2⟩ => by subst e; exact RepL.drop n h2
theorem RepL.set {T : Hp} {d : D} {v : V} (h : RepV T d v) : ∀ {ds : List D} {vs : List V} (n : Nat), RepL T ds vs → RepL T (ds.set n d) (vs.set n v)
  | [], _, _, r => by cases (show _ = [] from r); exact .nil
  | _ :: _, _, 0, ⟨w, r, e, h1, h2⟩ => by subst e; exact .cons h h2
  | _ :: _, _, n + 1, ⟨w, r, e, h1, h2⟩ => by subst e; exact .cons h1 (RepL.set h n h2)
theorem RepL.dropLast {T : Hp} {ds : List D} {vs : List V} (h : RepL T ds vs) : RepL T ds.dropLast vs.dropLast := by
  rw [List.dropLast_eq_take, List.dropLast_eq_take, h.length]
  exact h.take _
theorem RepL.eraseIdx {T : Hp} : ∀ {ds : List D} {vs : List V} (n : Nat), RepL T ds vs → RepL T (ds.eraseIdx n) (vs.eraseIdx n)
  | [], _, _, r => by cases (show _ = [] from r); exact .nil
  | _ :: _, _, 0, ⟨w, r, e, h1, h2⟩ => by subst e; exact h2
  | _ :: _, _, n + 1, ⟨w, r, e, h1, h2⟩ => by subst e; exact .cons h1 (RepL.eraseIdx n h2)
theorem RepL.reverse {T : Hp} : ∀ {ds : List D} {vs : List V}, RepL T ds vs → RepL T ds.reverse vs.reverse
  | [], _, h => by cases (show _ = [] from h); exact .nil
  | d :: ds, _, ⟨v, r, e, h1, h2⟩ => by
    subst e
    rw [List.reverse_cons, List.reverse_cons]
    exact (RepL.reverse h2).append (.cons h1 .nil)
theorem RepL.ints {T : Hp} : ∀ (ns : List Int), RepL T (ns.map D.int) (ns.map V.int)
  | [] => .nil
  | _ :: ns => .cons rfl (RepL.ints ns)
theorem RepL.ints_inv {T : Hp} : ∀ {ns : List Int} {vs : List V}, RepL T (ns.map D.int) vs → vs = ns.map V.int
  | [], _, h => h
  | n :: ns, _, ⟨v, r, e, h1, h2⟩ => by
    subst e
    rw [show v = V.int n from h1, RepL.ints_inv h2]
    rfl
theorem RepL.bls_inv {T : Hp} : ∀ {ns : List Bool} {vs : List V}, RepL T (ns.map D.bl) vs → vs = ns.map V.bl
  | [], _, h => h
  | n :: ns, _, ⟨v, r, e, h1, h2⟩ => by
    subst e
    rw [show v = V.bl n from h1, RepL.bls_inv h2]
    rfl

def KVR (T : Hp) {κ : Type} (xs : List (κ × D)) (ys : List (κ × V)) : Prop := ys.map (·.1) = xs.map (·.1) ∧ RepL T (xs.map (·.2)) (ys.map (·.2))
/-- the object o stands for x -/
def RepO (T : Hp) : DO → HO → Prop
  | .lst ds, o => ∃ vs, o = .lst vs ∧ RepL T ds vs
  | .dK xs, o => ∃ ys, o = .dK ys ∧ KVR T xs ys
  | .dT xs, o => ∃ ys, o = .dT ys ∧ KVR T xs ys
  | .src, _ => False
  | .scr ds, o => ∃ ob vs, o = .frz ob (.lst vs) ∧ RepL T ds vs
theorem KVR.up {T T' : Hp} {κ : Type} {xs : List (κ × D)} {ys : List (κ × V)} (s : Same T T') (h : KVR T xs ys) : KVR T' xs ys := ⟨h.1, RepL.up s _ _ h.2⟩
theorem RepO.up {T T' : Hp} (s : Same T T') : ∀ {x : DO} {o : HO}, RepO T x o → RepO T' x o
  | .lst _, _, ⟨vs, e, r⟩ => ⟨vs, e, RepL.up s _ _ r⟩
  | .dK _, _, ⟨vs, e, r⟩ => ⟨vs, e, r.up s⟩
  | .dT _, _, ⟨vs, e, r⟩ => ⟨vs, e, r.up s⟩
  | .src, _, h => h.elim
  | .scr _, _, ⟨ob, vs, e, r⟩ => ⟨ob, vs, e, RepL.up s _ _ r⟩

/-- a source of draws: its dict, and its list of cells at c -/
def SrcAt (H : Hp) (a c : Addr) : Prop := ∃ (cells : List Int) (left mixed turn : Int), 0 ≤ left ∧ 0 ≤ mixed ∧ mixed < 2147483648 ∧ 0 ≤ turn ∧ (∀ x ∈ cells, 0 ≤ x) ∧ H c = some (.lst (cells.map V.int)) ∧
  H a = some (.dK [(.inr "cells", .ref c), (.inr "left", .int left), (.inr "mixed", .int mixed), (.inr "turn", .int turn)])

/-- locked: a thing that is being made, that nobody reads -/
def unfrz : HO → HO
  | .frz _ u => u
  | o => o
def Sb (T H : Hp) : Prop := ∀ p o, T p = some o → H p = some (unfrz o)
theorem Sb.free {T H : Hp} {p : Addr} (s : Sb T H) (h : H p = none) : T p = none := by
  cases e : T p with
  | none => rfl
  | some o => rw [s p o e] at h; cases h
/-- the heap H: T frozen, HD what may be changed, C the lists of cells of the sources -/
structure AbsC (T : Hp) (DH : DHp) (C : Addr → Option Addr) (H : Hp) : Prop where
  sub : Sb T H
  obj : ∀ a x, DH a = some x → T a = none ∧ (x = .src → ∃ c, C a = some c) ∧ (x ≠ .src → ∃ o, H a = some o ∧ RepO T x o)
  own : ∀ a c, C a = some c → DH a = some .src ∧ DH c = none ∧ T c = none ∧ SrcAt H a c ∧ ∀ b, C b = some c → b = a
def Abs (T : Hp) (DH : DHp) (H : Hp) : Prop := ∃ C, AbsC T DH C H
/-- the slots -/
abbrev DSt := List (Option D)
def RepS (T : Hp) (τ : DSt) (σ : L2.St) : Prop := τ.length = σ.length ∧ ∀ (i : Nat) (d : D), τ[i]? = some (some d) → ∃ v, σ[i]? = some (some v) ∧ RepV T d v
theorem RepS.up {T T' : Hp} {τ : DSt} {σ : L2.St} (s : Same T T') (h : RepS T τ σ) : RepS T' τ σ := ⟨h.1, fun i d e => let ⟨v, a, b⟩ := h.2 i d e; ⟨v, a, RepV.up s d v b⟩⟩
theorem RepS.set {T : Hp} {τ : DSt} {σ : L2.St} {d : D} {v : V} (h : RepS T τ σ) (r : RepV T d v) (i : Nat) : RepS T (τ.set i (some d)) (σ.set i (some v)) := by
  refine ⟨by simp [h.1], fun j e q => ?_⟩
  by_cases hj : i = j
  · subst hj
    by_cases hl : i < τ.length
    · rw [List.getElem?_set_self hl] at q
      cases q
      exact ⟨v, by rw [List.getElem?_set_self (by rw [← h.1]; exact hl)], r⟩
    · rw [List.getElem?_eq_none (by simpa using hl)] at q; cases q
  · rw [List.getElem?_set_ne hj] at q
    obtain ⟨w, a, b⟩ := h.2 j e q
    exact ⟨w, by rw [List.getElem?_set_ne hj]; exact a, b⟩

section
variable {T T' : Hp} {DH DH' : DHp} {H H' : Hp} {C : Addr → Option Addr} {a p : Addr}
theorem Abs.sub (A : Abs T DH H) : Sb T H := let ⟨_, h⟩ := A; h.sub
theorem Abs.free (A : Abs T DH H) (h : H p = none) : T p = none ∧ DH p = none := by
  obtain ⟨C, A⟩ := A
  refine ⟨A.sub.free h, ?_⟩
  cases e : DH p with
  | none => rfl
  | some x =>
    obtain ⟨_, h1, h2⟩ := A.obj p x e
    by_cases hx : x = .src
    · obtain ⟨c, hc⟩ := h1 hx
      obtain ⟨_, _, _, ⟨_, _, _, _, _, _, _, _, _, _, z⟩, _⟩ := A.own p c hc
      rw [h] at z; cases z
    · obtain ⟨o, z, _⟩ := h2 hx
      rw [h] at z; cases z
theorem Abs.lst (A : Abs T DH H) {ds : List D} (h : DH a = some (.lst ds)) : ∃ vs, H a = some (.lst vs) ∧ RepL T ds vs := by
  obtain ⟨C, A⟩ := A
  obtain ⟨_, _, h2⟩ := A.obj a _ h
  obtain ⟨o, e, vs, rfl, r⟩ := h2 (by simp)
  exact ⟨vs, e, r⟩
theorem Abs.dK (A : Abs T DH H) {xs : List (Key × D)} (h : DH a = some (.dK xs)) : ∃ ys, H a = some (.dK ys) ∧ KVR T xs ys := by
  obtain ⟨C, A⟩ := A
  obtain ⟨_, _, h2⟩ := A.obj a _ h
  obtain ⟨o, e, vs, rfl, r⟩ := h2 (by simp)
  exact ⟨vs, e, r⟩
theorem Abs.dT (A : Abs T DH H) {xs : List (List Key × D)} (h : DH a = some (.dT xs)) : ∃ ys, H a = some (.dT ys) ∧ KVR T xs ys := by
  obtain ⟨C, A⟩ := A
  obtain ⟨_, _, h2⟩ := A.obj a _ h
  obtain ⟨o, e, vs, rfl, r⟩ := h2 (by simp)
  exact ⟨vs, e, r⟩
theorem Abs.scr (A : Abs T DH H) {ds : List D} (h : DH a = some (.scr ds)) : ∃ ob vs, H a = some (.frz ob (.lst vs)) ∧ RepL T ds vs := by
  obtain ⟨C, A⟩ := A
  obtain ⟨_, _, h2⟩ := A.obj a _ h
  obtain ⟨o, e, ob, vs, rfl, r⟩ := h2 (by simp)
  exact ⟨ob, vs, e, r⟩
theorem SrcAt.frame {c : Addr} (h : SrcAt H a c) (e1 : H' a = H a) (e2 : H' c = H c) : SrcAt H' a c := by
  obtain ⟨cells, l, m, t, h0, h1, h2, h3, h4, h5, h6⟩ := h
  exact ⟨cells, l, m, t, h0, h1, h2, h3, h4, e2.trans h5, e1.trans h6⟩
theorem SrcAt.ne {c : Addr} (h : SrcAt H a c) : a ≠ c := by
  obtain ⟨cells, l, m, t, h0, h1, h2, h3, h4, h5, h6⟩ := h
  rintro rfl
  rw [h5] at h6; cases h6
theorem SrcAt.there {c : Addr} (h : SrcAt H a c) : H a ≠ none ∧ H c ≠ none := by
  obtain ⟨cells, l, m, t, h0, h1, h2, h3, h4, h5, h6⟩ := h
  exact ⟨by rw [h6]; simp, by rw [h5]; simp⟩
/-- a new object, not told of -/
theorem Abs.hid {o : HO} (A : Abs T DH H) (h : H p = none) : Abs T DH (upd H p o) := by
  have hn := A.free h
  obtain ⟨C, A⟩ := A
  refine ⟨C, fun b u e => ?_, fun b x e => ?_, fun b c e => ?_⟩
  · rw [upd_ne (ne_of_none (A.sub b u e) h)]; exact A.sub b u e
  · obtain ⟨h1, h2, h3⟩ := A.obj b x e
    refine ⟨h1, h2, fun hx => ?_⟩
    obtain ⟨u, z, r⟩ := h3 hx
    exact ⟨u, by rw [upd_ne (ne_of_none z h)]; exact z, r⟩
  · obtain ⟨h1, h2, h3, h4, h5⟩ := A.own b c e
    have n1 : b ≠ p := fun q => by subst q; exact h4.there.1 h
    have n2 : c ≠ p := fun q => by subst q; exact h4.there.2 h
    exact ⟨h1, h2, h3, h4.frame (upd_ne n1) (upd_ne n2), h5⟩
/-- a new frozen object -/
theorem Abs.frz {o : HO} (A : Abs T DH H) (h : H p = none) : Same T (upd T p o) ∧ Abs (upd T p o) DH (upd H p (unfrz o)) := by
  have hn := A.free h
  have hs : Same T (upd T p o) := fun b u e => by rw [upd_ne (ne_of_none e hn.1)]; exact e
  refine ⟨hs, ?_⟩
  obtain ⟨C, A⟩ := A
  refine ⟨C, fun b u e => ?_, fun b x e => ?_, fun b c e => ?_⟩
  · by_cases q : b = p
    · subst q; rw [upd_same] at e ⊢; cases e; rfl
    · rw [upd_ne q] at e ⊢; exact A.sub b u e
  · obtain ⟨h1, h2, h3⟩ := A.obj b x e
    have nb : b ≠ p := fun q => by subst q; rw [hn.2] at e; cases e
    refine ⟨by rw [upd_ne nb]; exact h1, h2, fun hx => ?_⟩
    obtain ⟨u, z, r⟩ := h3 hx
    exact ⟨u, by rw [upd_ne nb]; exact z, r.up hs⟩
  · obtain ⟨h1, h2, h3, h4, h5⟩ := A.own b c e
    have n1 : b ≠ p := fun q => by subst q; exact h4.there.1 h
    have n2 : c ≠ p := fun q => by subst q; exact h4.there.2 h
    exact ⟨h1, h2, by rw [upd_ne n2]; exact h3, h4.frame (upd_ne n1) (upd_ne n2), h5⟩
def dupd (H : DHp) (a : Addr) (o : DO) : DHp := fun b => if b = a then some o else H b
theorem dupd_same {H : DHp} {a : Addr} {o : DO} : dupd H a o a = some o := by unfold dupd; rw [if_pos rfl]
theorem dupd_ne {H : DHp} {a b : Addr} {o : DO} (h : b ≠ a) : dupd H a o b = H b := by unfold dupd; rw [if_neg h]
theorem dupd_dupd {H : DHp} {a : Addr} {o u : DO} : dupd (dupd H a o) a u = dupd H a u := by
  funext b; unfold dupd; split <;> rfl
theorem dupd_swap {H : DHp} {a b : Addr} {o u : DO} (h : a ≠ b) : dupd (dupd H a o) b u = dupd (dupd H b u) a o := by
  funext c; unfold dupd
  by_cases h1 : c = b
  · rw [if_pos h1, if_neg (fun e => h (e.symm.trans h1)), if_pos h1]
  · rw [if_neg h1, if_neg h1]
theorem dupd_none {H : DHp} {a b : Addr} {o : DO} : dupd H a o b = none ↔ b ≠ a ∧ H b = none := by
  unfold dupd
  by_cases h : b = a
  · rw [if_pos h]; simp [h]
  · rw [if_neg h]; simp [h]
/-- a new object that may be changed -/
theorem Abs.new {o : HO} {x : DO} (A : Abs T DH H) (h : H p = none) (r : RepO T x o) : Abs T (dupd DH p x) (upd H p o) := by
  have hn := A.free h
  have hx : x ≠ .src := fun e => by subst e; exact r
  have B := A.hid (o := o) h
  obtain ⟨C, A⟩ := A
  have hC : C p = none := by
    cases e : C p with
    | none => rfl
    | some c => rw [(A.own p c e).1] at hn; exact absurd hn.2 (by simp)
  refine ⟨C, ?_, fun b y e => ?_, fun b c e => ?_⟩
  · exact B.sub
  · by_cases q : b = p
    · subst q
      rw [dupd_same] at e; cases e
      exact ⟨hn.1, fun z => absurd z hx, fun _ => ⟨o, upd_same, r⟩⟩
    · rw [dupd_ne q] at e
      obtain ⟨h1, h2, h3⟩ := A.obj b y e
      refine ⟨h1, h2, fun hx => ?_⟩
      obtain ⟨u, z, r⟩ := h3 hx
      exact ⟨u, by rw [upd_ne q]; exact z, r⟩
  · obtain ⟨h1, h2, h3, h4, h5⟩ := A.own b c e
    have n1 : b ≠ p := fun q => by subst q; exact h4.there.1 h
    have n2 : c ≠ p := fun q => by subst q; exact h4.there.2 h
    exact ⟨by rw [dupd_ne n1]; exact h1, by rw [dupd_ne n2]; exact h2, h3, h4.frame (upd_ne n1) (upd_ne n2), h5⟩
/-- an object changed -/
theorem Abs.put {o : HO} {x y : DO} (A : Abs T DH H) (h : DH p = some y) (hy : y ≠ .src) (r : RepO T x o) : Abs T (dupd DH p x) (upd H p o) := by
  have hx : x ≠ .src := fun e => by subst e; exact r
  obtain ⟨C, A⟩ := A
  obtain ⟨hT, _, _⟩ := A.obj p y h
  refine ⟨C, fun b u e => ?_, fun b z e => ?_, fun b c e => ?_⟩
  · rw [upd_ne (fun q => by subst q; rw [hT] at e; cases e)]; exact A.sub b u e
  · by_cases q : b = p
    · subst q
      rw [dupd_same] at e; cases e
      exact ⟨hT, fun z => absurd z hx, fun _ => ⟨o, upd_same, r⟩⟩
    · rw [dupd_ne q] at e
      obtain ⟨h1, h2, h3⟩ := A.obj b z e
      refine ⟨h1, h2, fun hx => ?_⟩
      obtain ⟨u, z, r⟩ := h3 hx
      exact ⟨u, by rw [upd_ne q]; exact z, r⟩
  · obtain ⟨h1, h2, h3, h4, h5⟩ := A.own b c e
    have n1 : b ≠ p := fun q => by subst q; rw [h1] at h; cases h; exact hy rfl
    have n2 : c ≠ p := fun q => by subst q; rw [h2] at h; cases h
    exact ⟨by rw [dupd_ne n1]; exact h1, by rw [dupd_ne n2]; exact h2, h3, h4.frame (upd_ne n1) (upd_ne n2), h5⟩
def DSub (H H' : DHp) : Prop := ∀ b o, H b = some o → H' b = some o
theorem DSub.refl (H : DHp) : DSub H H := fun _ _ h => h
theorem DSub.trans {H H1 H2 : DHp} (a : DSub H H1) (b : DSub H1 H2) : DSub H H2 := fun c o h => b c o (a c o h)
theorem DSub.new {H H1 : DHp} {p : Addr} {x : DO} (s : DSub H H1) (h : H p = none) : DSub H (dupd H1 p x) := fun b o e => by
  rw [dupd_ne (fun q => by subst q; rw [h] at e; cases e)]; exact s b o e
open Classical in
/-- forgetting -/
theorem Abs.drop (A : Abs T DH' H) (s : DSub DH DH') : Abs T DH H := by
  obtain ⟨C, A⟩ := A
  refine ⟨fun a => if DH a = some .src then C a else none, A.sub, fun b x e => ?_, fun b c e => ?_⟩
  · obtain ⟨h1, h2, h3⟩ := A.obj b x (s b x e)
    refine ⟨h1, fun hx => ?_, h3⟩
    subst hx
    rw [if_pos e]
    exact h2 rfl
  · by_cases hb : DH b = some .src
    · rw [if_pos hb] at e
      obtain ⟨h1, h2, h3, h4, h5⟩ := A.own b c e
      refine ⟨hb, ?_, h3, h4, fun d hd => ?_⟩
      · cases q : DH c with
        | none => rfl
        | some u => rw [s c u q] at h2; cases h2
      · by_cases hdd : DH d = some .src
        · rw [if_pos hdd] at hd; exact h5 d hd
        · rw [if_neg hdd] at hd; cases hd
    · rw [if_neg hb] at e; cases e
def derase (H : DHp) (a : Addr) : DHp := fun b => if b = a then none else H b
theorem derase_sub {H : DHp} {a : Addr} : DSub (derase H a) H := fun b o e => by
  unfold derase at e
  split at e
  · cases e
  · exact e
theorem derase_dupd {H : DHp} {a : Addr} {x : DO} (h : H a = none) : derase (dupd H a x) a = H := by
  funext b; unfold derase dupd
  by_cases e : b = a
  · rw [if_pos e, e, h]
  · rw [if_neg e, if_neg e]
/-- a list is frozen -/
theorem Abs.freeze {ds : List D} (A : Abs T DH H) (h : DH p = some (.lst ds)) : ∃ T', Same T T' ∧ Abs T' (derase DH p) H ∧ RepV T' (.lst ds) (.ref p) := by
  obtain ⟨vs, hv, r⟩ := A.lst h
  have B := A.drop (derase_sub (H := DH) (a := p))
  obtain ⟨C0, A⟩ := A
  obtain ⟨hT, _, _⟩ := A.obj p _ h
  have hs : Same T (upd T p (.lst vs)) := fun b u e => by rw [upd_ne (ne_of_none e hT)]; exact e
  refine ⟨upd T p (.lst vs), hs, ?_, p, vs, rfl, upd_same, RepL.up hs _ _ r⟩
  obtain ⟨C, B⟩ := B
  refine ⟨C0, fun b u e => ?_, fun b x e => ?_, fun b c e => ?_⟩
  · by_cases q : b = p
    · subst q; rw [upd_same] at e; cases e; exact hv
    · rw [upd_ne q] at e; exact A.sub b u e
  · have nb : b ≠ p := fun q => by subst q; unfold derase at e; rw [if_pos rfl] at e; cases e
    obtain ⟨h1, h2, h3⟩ := A.obj b x (derase_sub b x e)
    refine ⟨by rw [upd_ne nb]; exact h1, h2, fun hx => ?_⟩
    obtain ⟨u, z, r⟩ := h3 hx
    exact ⟨u, z, r.up hs⟩
  · obtain ⟨h1, h2, h3, h4, h5⟩ := A.own b c e
    have n1 : b ≠ p := fun q => by subst q; rw [h1] at h; cases h
    have n2 : c ≠ p := fun q => by subst q; rw [h2] at h; cases h
    refine ⟨?_, ?_, by rw [upd_ne n2]; exact h3, h4, h5⟩
    · unfold derase; rw [if_neg n1]; exact h1
    · unfold derase; rw [if_neg n2]; exact h2
/-- what a source holds, as data -/
def srcD (c : Addr) (l m t : Int) : DO := .dK [(.inr "cells", .ref c), (.inr "left", .int l), (.inr "mixed", .int m), (.inr "turn", .int t)]
def SrcOk (cells : List Int) (l m t : Int) : Prop := 0 ≤ l ∧ 0 ≤ m ∧ m < 2147483648 ∧ 0 ≤ t ∧ ∀ x ∈ cells, 0 ≤ x
/-- a source, opened -/
theorem Abs.openS (A : Abs T DH H) (h : DH a = some .src) : ∃ c cells l m t, SrcOk cells l m t ∧ c ≠ a ∧ DH c = none ∧ Abs T (dupd (dupd DH a (srcD c l m t)) c (.lst (cells.map D.int))) H := by
  obtain ⟨C, A⟩ := A
  obtain ⟨hTa, ho, _⟩ := A.obj a _ h
  obtain ⟨c, hc⟩ := ho rfl
  obtain ⟨h1, h2, h3, h4, h5⟩ := A.own a c hc
  have hne := h4.ne
  obtain ⟨cells, l, m, t, c0, c1, c2, c3, c4, c5, c6⟩ := h4
  refine ⟨c, cells, l, m, t, ⟨c0, c1, c2, c3, c4⟩, hne.symm, h2, fun b => if b = a then none else C b, A.sub, fun b x e => ?_, fun b d e => ?_⟩
  · by_cases q : b = c
    · subst q
      rw [dupd_same] at e; cases e
      exact ⟨h3, fun z => (by cases z), fun _ => ⟨_, c5, _, rfl, RepL.ints _⟩⟩
    · rw [dupd_ne q] at e
      by_cases q2 : b = a
      · subst q2
        rw [dupd_same] at e; cases e
        exact ⟨hTa, fun z => (by cases z), fun _ => ⟨_, c6, _, rfl, rfl, .cons rfl (.cons rfl (.cons rfl (.cons rfl .nil)))⟩⟩
      · rw [dupd_ne q2] at e
        obtain ⟨k1, k2, k3⟩ := A.obj b x e
        exact ⟨k1, fun hx => by rw [if_neg q2]; exact k2 hx, k3⟩
  · by_cases q : b = a
    · rw [if_pos q] at e; cases e
    · rw [if_neg q] at e
      obtain ⟨k1, k2, k3, k4, k5⟩ := A.own b d e
      have nbc : b ≠ c := fun z => by subst z; rw [h2] at k1; cases k1
      have ndc : d ≠ c := fun z => by subst z; exact q (h5 b e)
      have nda : d ≠ a := fun z => by subst z; rw [k2] at h; cases h
      refine ⟨by rw [dupd_ne nbc, dupd_ne q]; exact k1, by rw [dupd_ne ndc, dupd_ne nda]; exact k2, k3, k4, fun z hz => ?_⟩
      by_cases q3 : z = a
      · rw [if_pos q3] at hz; cases hz
      · rw [if_neg q3] at hz; exact k5 z hz
/-- a source, shut -/
theorem Abs.shutS {c : Addr} {cells : List Int} {l m t : Int} (A : Abs T DH H) (ha : DH a = some (srcD c l m t)) (hc : DH c = some (.lst (cells.map D.int))) (ok : SrcOk cells l m t) : Abs T (dupd (derase DH c) a .src) H := by
  obtain ⟨vs, v1, v2⟩ := A.lst hc
  obtain ⟨ys, y1, y2, y3⟩ := A.dK ha
  have e1 := RepL.ints_inv v2
  subst e1
  have hne : a ≠ c := fun z => by subst z; rw [ha] at hc; cases hc
  have ey : ys = [(.inr "cells", .ref c), (.inr "left", .int l), (.inr "mixed", .int m), (.inr "turn", .int t)] := by
    obtain ⟨w1, r1, q1, p1, w2, r2, q2, p2, w3, r3, q3, p3, w4, r4, q4, p4, q5⟩ := y3
    have p1 : w1 = .ref c := p1
    have p2 : w2 = .int l := p2
    have p3 : w3 = .int m := p3
    have p4 : w4 = .int t := p4
    have q5 : r4 = [] := q5
    subst p1 p2 p3 p4 q5 q4 q3 q2
    have z : ys = (ys.map (·.1)).zip (ys.map (·.2)) := by
      rw [List.zip_map']
      simp
    rw [z, y2, q1]
    rfl
  subst ey
  obtain ⟨C, A⟩ := A
  have hTa := (A.obj a _ ha).1
  have hTc := (A.obj c _ hc).1
  have hCn : ∀ b d, C b = some d → d ≠ c ∧ d ≠ a ∧ b ≠ a ∧ b ≠ c := fun b d e => by
    obtain ⟨k1, k2, _⟩ := A.own b d e
    refine ⟨fun z => ?_, fun z => ?_, fun z => ?_, fun z => ?_⟩
    · subst z; rw [k2] at hc; cases hc
    · subst z; rw [k2] at ha; cases ha
    · subst z; rw [k1] at ha; cases ha
    · subst z; rw [k1] at hc; cases hc
  obtain ⟨o0, o1, o2, o3, o4⟩ := ok
  refine ⟨fun b => if b = a then some c else C b, A.sub, fun b x e => ?_, fun b d e => ?_⟩
  · by_cases q : b = a
    · subst q
      rw [dupd_same] at e; cases e
      exact ⟨hTa, fun _ => ⟨c, if_pos rfl⟩, fun z => absurd rfl z⟩
    · rw [dupd_ne q] at e
      obtain ⟨k1, k2, k3⟩ := A.obj b x (derase_sub b x e)
      exact ⟨k1, fun hx => by rw [if_neg q]; exact k2 hx, k3⟩
  · by_cases q : b = a
    · subst q
      rw [if_pos rfl] at e; cases e
      refine ⟨dupd_same, by rw [dupd_ne hne.symm]; unfold derase; rw [if_pos rfl], hTc, ⟨cells, l, m, t, o0, o1, o2, o3, o4, v1, y1⟩, fun z hz => ?_⟩
      by_cases q : z = b
      · exact q
      · rw [if_neg q] at hz; exact absurd rfl (hCn z c hz).1
    · rw [if_neg q] at e
      obtain ⟨k1, k2, k3, k4, k5⟩ := A.own b d e
      obtain ⟨n1, n2, n3, n4⟩ := hCn b d e
      refine ⟨?_, ?_, k3, k4, fun z hz => ?_⟩
      · rw [dupd_ne q]; unfold derase; rw [if_neg n4]; exact k1
      · rw [dupd_ne n2]; unfold derase; rw [if_neg n1]; exact k2
      · by_cases q : z = a
        · subst q; rw [if_pos rfl] at hz; cases hz; exact absurd rfl n1
        · rw [if_neg q] at hz; exact k5 z hz
end
end DL

/-! DL2: readings over data; expressions, tests, calls, statements. -/
namespace DL
open PySem PySem.Spec PyProof.Rows L2

abbrev DE := DSt → DHp → DK → Prop
abbrev DT := DSt → DHp → (Bool → DHp → Prop) → Prop
abbrev DA := DSt → DHp → (List D → DHp → Prop) → Prop
structure DEnds where
  nx : DSt → DHp → Prop
  rt : DK
  bk : DSt → DHp → Prop := fun _ _ => False
  ct : DSt → DHp → Prop := fun _ _ => False
abbrev DS := DEnds → DSt → DHp → Prop
abbrev DR2 := D → D → DHp → DK → Prop
abbrev DRC := List D → DHp → DK → Prop

/-! ### how a wish over data stands for one over values -/
def Up (T : Hp) (R : DK) (Q : VK) : Prop := ∀ T' DH H d v, Same T T' → Abs T' DH H → RepV T' d v → R d DH → Q v H
def UpB (T : Hp) (R : Bool → DHp → Prop) (Q : Bool → Hp → Prop) : Prop := ∀ T' DH H b, Same T T' → Abs T' DH H → R b DH → Q b H
def UpL (T : Hp) (R : List D → DHp → Prop) (Q : List V → Hp → Prop) : Prop := ∀ T' DH H ds vs, Same T T' → Abs T' DH H → RepL T' ds vs → R ds DH → Q vs H
def UpS (T : Hp) (R : DSt → DHp → Prop) (Q : L2.St → Hp → Prop) : Prop := ∀ T' DH H τ σ, Same T T' → Abs T' DH H → RepS T' τ σ → R τ DH → Q σ H
structure UpE (T : Hp) (R : DEnds) (Q : Ends) : Prop where
  nx : UpS T R.nx Q.nx
  rt : Up T R.rt Q.rt
  bk : UpS T R.bk Q.bk
  ct : UpS T R.ct Q.ct
theorem Up.up {T T' : Hp} {R : DK} {Q : VK} (u : Up T R Q) (s : Same T T') : Up T' R Q := fun T2 DH H d v s2 => u T2 DH H d v (s.trans s2)
theorem UpB.up {T T' : Hp} {R : Bool → DHp → Prop} {Q : Bool → Hp → Prop} (u : UpB T R Q) (s : Same T T') : UpB T' R Q := fun T2 DH H d s2 => u T2 DH H d (s.trans s2)
theorem UpL.up {T T' : Hp} {R : List D → DHp → Prop} {Q : List V → Hp → Prop} (u : UpL T R Q) (s : Same T T') : UpL T' R Q := fun T2 DH H d v s2 => u T2 DH H d v (s.trans s2)
theorem UpS.up {T T' : Hp} {R : DSt → DHp → Prop} {Q : L2.St → Hp → Prop} (u : UpS T R Q) (s : Same T T') : UpS T' R Q := fun T2 DH H d v s2 => u T2 DH H d v (s.trans s2)
theorem UpE.up {T T' : Hp} {R : DEnds} {Q : Ends} (u : UpE T R Q) (s : Same T T') : UpE T' R Q := ⟨u.nx.up s, u.rt.up s, u.bk.up s, u.ct.up s⟩

def lo (t : DE) : TE := fun σ H Q => ∃ T DH τ R, Abs T DH H ∧ RepS T τ σ ∧ t τ DH R ∧ Up T R Q
def loT (t : DT) : TT := fun σ H Q => ∃ T DH τ R, Abs T DH H ∧ RepS T τ σ ∧ t τ DH R ∧ UpB T R Q
def loA (t : DA) : TA := fun σ H Q => ∃ T DH τ R, Abs T DH H ∧ RepS T τ σ ∧ t τ DH R ∧ UpL T R Q
def loS (t : DS) : TS := fun E σ H => ∃ T DH τ R, Abs T DH H ∧ RepS T τ σ ∧ t R τ DH ∧ UpE T R E
def lo2 (r : DR2) : R2 := fun v u H Q => ∃ T DH x y R, Abs T DH H ∧ RepV T x v ∧ RepV T y u ∧ r x y DH R ∧ Up T R Q
def lo1 (r : D → DHp → DK → Prop) : V → Hp → VK → Prop := fun v H Q => ∃ T DH x R, Abs T DH H ∧ RepV T x v ∧ r x DH R ∧ Up T R Q
def loC (r : DRC) : List V → Hp → VK → Prop := fun vs H Q => ∃ T DH ds R, Abs T DH H ∧ RepL T ds vs ∧ r ds DH R ∧ Up T R Q

structure QE (X : Cx) (e : Expr) (t : DE) : Prop where
  run : PE X e (lo t)
structure QT (X : Cx) (e : Expr) (t : DT) : Prop where
  run : PT X e (loT t)
structure QW (X : Cx) (e : Expr) (t : DT) : Prop where
  run : PW X e (loT t)
structure QA (X : Cx) (es : List Expr) (t : DA) : Prop where
  run : PA X es (loA t)
structure QS (X : Cx) (st : Stmt) (t : DS) : Prop where
  run : PS X st (loS t)
structure QSs (X : Cx) (st : List Stmt) (t : DS) : Prop where
  run : PSs X st (loS t)

theorem peW {X : Cx} {e : Expr} {t t' : TE} (h : PE X e t) (w : ∀ σ H Q, t' σ H Q → t σ H Q) : PE X e t' := ⟨fun pins s σ H Q I q => h.run pins s σ H Q I (w σ H Q q)⟩
theorem ptW {X : Cx} {e : Expr} {t t' : TT} (h : PT X e t) (w : ∀ σ H Q, t' σ H Q → t σ H Q) : PT X e t' := ⟨fun pins s σ H Q I q => h.run pins s σ H Q I (w σ H Q q)⟩
theorem pwW {X : Cx} {e : Expr} {t t' : TT} (h : PW X e t) (w : ∀ σ H Q, t' σ H Q → t σ H Q) : PW X e t' := ⟨fun wh pins s σ H Q I q => h.run wh pins s σ H Q I (w σ H Q q)⟩
theorem paW {X : Cx} {e : List Expr} {t t' : TA} (h : PA X e t) (w : ∀ σ H Q, t' σ H Q → t σ H Q) : PA X e t' := ⟨fun pos pins s σ H Q I q => h.run pos pins s σ H Q I (w σ H Q q)⟩
theorem psW {X : Cx} {e : Stmt} {t t' : TS} (h : PS X e t) (w : ∀ E σ H, t' E σ H → t E σ H) : PS X e t' := ⟨fun pins s σ H Q I q => h.run pins s σ H Q I (w Q σ H q)⟩
theorem pssW {X : Cx} {e : List Stmt} {t t' : TS} (h : PSs X e t) (w : ∀ E σ H, t' E σ H → t E σ H) : PSs X e t' := ⟨fun pins s σ H Q I q => h.run pins s σ H Q I (w Q σ H q)⟩
theorem oprW {X : Cx} {f : Value → Value → Sem Value} {r r' : R2} (h : OpR X f r) (w : ∀ x y H Q, r' x y H Q → r x y H Q) : OpR X f r' := fun pins s σ H x y v u Q I rx ry q => h pins s σ H x y v u Q I rx ry (w x y H Q q)
theorem unrW {X : Cx} {f : Value → Sem Value} {r r' : V → Hp → VK → Prop} (h : UnR X f r) (w : ∀ x H Q, r' x H Q → r x H Q) : UnR X f r' := fun pins s σ H x v Q I rx q => h pins s σ H x v Q I rx (w x H Q q)
theorem crW {X : Cx} {f : Value} {r r' : List V → Hp → VK → Prop} (h : CallR X f r) (w : ∀ x H Q, r' x H Q → r x H Q) : CallR X f r' := fun pins s σ H x v Q I rx q => h pins s σ H x v Q I rx (w x H Q q)

/-! ### names, constants -/
def dVar (i : Nat) : DE := fun τ H Q => match τ[i]? with
  | some (some d) => Q d H
  | _ => False
def dC (d : D) : DE := fun _ H Q => Q d H
section
variable {X : Cx} {a b c e : Expr} {es : List Expr} {ta tb tc te : DE} {pos : Pos}
theorem qv (i : Nat) {x : Str} {pos : Pos} (hN : X.N[i]? = some x := by rfl) (hv : Vis X.env.scope x := by first | exact Or.inl rfl | exact Or.inr (Or.inl rfl) | exact Or.inr (Or.inr rfl)) (hd : (x == ("__debug__" : Str)) = false := by decide)
    (hcd : (x == ("__classdict__" : Str)) = false := by decide) : QE X (.Name x pos) (dVar i) := by
  refine ⟨peW (pe_var hN hv hd hcd) fun σ H Q ⟨T, DH, τ, R, A, S, h, u⟩ => ?_⟩
  unfold dVar at h
  split at h
  · rename_i d e
    obtain ⟨v, ev, r⟩ := S.2 i d e
    exact ⟨v, ev, u T DH H d v (Same.refl _) A r h⟩
  · exact h.elim
theorem qe_int {i j pos} : QE X (.Constant (.int i) j pos) (dC (.int i)) := ⟨peW pe_int fun _ H _ ⟨T, DH, _, _, A, _, h, u⟩ => u T DH H (.int i) _ (Same.refl _) A rfl h⟩
theorem qe_bl {i j pos} : QE X (.Constant (.bool i) j pos) (dC (.bl i)) := ⟨peW pe_bl fun _ H _ ⟨T, DH, _, _, A, _, h, u⟩ => u T DH H (.bl i) _ (Same.refl _) A rfl h⟩
theorem qe_non {j pos} : QE X (.Constant .none j pos) (dC .non) := ⟨peW pe_non fun _ H _ ⟨T, DH, _, _, A, _, h, u⟩ => u T DH H .non _ (Same.refl _) A rfl h⟩
theorem qe_str {i j pos} : QE X (.Constant (.str i) j pos) (dC (.str i)) := ⟨peW pe_str fun _ H _ ⟨T, DH, _, _, A, _, h, u⟩ => u T DH H (.str i) _ (Same.refl _) A rfl h⟩
theorem qe_glob {x : Str} {d : D} {v : V} {u : Value} {pos : Pos} (hg : Gl X x) (hm : X.mg x = some u) (r : RelV v u) (hr : ∀ T, RepV T d v) (hd : (x == ("__debug__" : Str)) = false := by decide) : QE X (.Name x pos) (dC d) :=
  ⟨peW (pe_glob hg hm r hd) fun _ H _ ⟨T, DH, _, _, A, _, h, u⟩ => u T DH H _ _ (Same.refl _) A (hr T) h⟩
theorem qe_bltn {x : Str} {d : D} {v : V} {u : Value} {pos : Pos} (hg : Gl X x) (hm : X.mg x = none) (hv : bootBuiltins x = some u) (r : RelV v u) (hr : ∀ T, RepV T d v) (hn : x ≠ "__name__" := by decide) (hd : (x == ("__debug__" : Str)) = false := by decide) : QE X (.Name x pos) (dC d) :=
  ⟨peW (pe_bltn hg hm hv r hn hd) fun _ H _ ⟨T, DH, _, _, A, _, h, u⟩ => u T DH H _ _ (Same.refl _) A (hr T) h⟩

/-! ### two expressions in a row; operators -/
theorem lo_two {ta tb : DE} {T : Hp} {DH : DHp} {τ : DSt} {σ : L2.St} {H : Hp} {R : D → D → DHp → Prop} {Q : V → V → Hp → Prop} (A : Abs T DH H) (S : RepS T τ σ) (h : ta τ DH fun x H1 => tb τ H1 fun y H2 => R x y H2)
    (k : ∀ T' DH' H' x y v u, Same T T' → Abs T' DH' H' → RepV T' x v → RepV T' y u → R x y DH' → Q v u H') : lo ta σ H fun v H1 => lo tb σ H1 fun u H2 => Q v u H2 := by
  refine ⟨T, DH, τ, _, A, S, h, fun T1 DH1 H1 x v s1 A1 r1 h1 => ⟨T1, DH1, τ, _, A1, S.up s1, h1, fun T2 DH2 H2 y u s2 A2 r2 h2 => ?_⟩⟩
  exact k T2 DH2 H2 x y v u (s1.trans s2) A2 (r1.up s2) r2 h2
def dOp (r : DR2) (ta tb : DE) : DE := fun τ H Q => ta τ H fun x H1 => tb τ H1 fun y H2 => r x y H2 Q
def dUn (r : D → DHp → DK → Prop) (ta : DE) : DE := fun τ H Q => ta τ H fun x H1 => r x H1 Q
theorem lo_op {r : DR2} : ∀ σ H Q, lo (dOp r ta tb) σ H Q → tOp (lo2 r) (lo ta) (lo tb) σ H Q := fun σ H Q ⟨T, DH, τ, R, A, S, h, u⟩ =>
  lo_two (Q := fun v w H2 => lo2 r v w H2 Q) A S h fun T' DH' H' x y v w s A' r1 r2 h' => ⟨T', DH', x, y, R, A', r1, r2, h', u.up s⟩
theorem qe_op {op : Operator} {r : DR2} (ho : OpR X (binaryOp op) (lo2 r)) (ha : QE X a ta) (hb : QE X b tb) : QE X (.BinOp a op b pos) (dOp r ta tb) := ⟨peW (pe_op ho ha.run hb.run) lo_op⟩
theorem qe_un {op : UnaryOp} {r : D → DHp → DK → Prop} (ho : UnR X (unaryOp op) (lo1 r)) (ha : QE X a ta) : QE X (.UnaryOp op a pos) (dUn r ta) :=
  ⟨peW (pe_un ho ha.run) fun σ H Q ⟨T, DH, τ, R, A, S, h, u⟩ => ⟨T, DH, τ, _, A, S, h, fun T1 DH1 H1 x v s1 A1 r1 h1 => ⟨T1, DH1, x, R, A1, r1, h1, u.up s1⟩⟩⟩
theorem qe_cmp {op : CmpOp} {r : DR2} (ho : OpR X (compareOp op) (lo2 r)) (ha : QE X a ta) (hb : QE X b tb) (hm : behindInMarks op b = false := by first | exact nomark _ | with_unfolding_all rfl) : QE X (.Compare a [op] [b] pos) (dOp r ta tb) := ⟨peW (pe_cmpR ho ha.run hb.run hm) lo_op⟩
/-- as a test -/
def dB (t : DE) : DT := fun τ H Q => t τ H fun x H1 => match x with
  | .bl k => Q k H1
  | _ => False
theorem lo_test {t : DE} : ∀ σ H Q, loT (dB t) σ H Q → tTest (lo t) σ H Q := fun σ H Q ⟨T, DH, τ, R, A, S, h, u⟩ => ⟨T, DH, τ, _, A, S, h, fun T1 DH1 H1 x v s1 A1 r1 h1 => by
  cases x with
  | bl k => exact ⟨k, r1, u T1 DH1 H1 k s1 A1 h1⟩
  | _ => exact h1.elim⟩
theorem ttW {t t' : TE} (w : ∀ σ H Q, t' σ H Q → t σ H Q) : ∀ σ H Q, tTest t' σ H Q → tTest t σ H Q := fun σ H Q h => w σ H _ h
theorem qt_cmp {op : CmpOp} {r : DR2} (ho : OpR X (compareOp op) (lo2 r)) (ha : QE X a ta) (hb : QE X b tb) (hm : behindInMarks op b = false := by first | exact nomark _ | with_unfolding_all rfl) : QT X (.Compare a [op] [b] pos) (dB (dOp r ta tb)) :=
  ⟨ptW (pt_cmpR ho ha.run hb.run hm) fun σ H Q h => ttW lo_op σ H Q (lo_test σ H Q h)⟩
theorem qt_val {t : DE} (h : QE X e t) (he : ∀ whole, isTrue e X.env whole = (do let v ← whole; standAt e.pos; holding [v] (truthy v)) := by intro _; rfl) : QT X e (dB t) := ⟨ptW (pt_val h.run he) lo_test⟩
/-- a op b op' c -/
def dChain (r r' : DR2) (ta tb tc : DE) : DE := fun τ H Q => ta τ H fun x H1 => tb τ H1 fun y H2 => r x y H2 fun z H3 => match z with
  | .bl true => tc τ H3 fun w H4 => r' y w H4 Q
  | .bl false => Q (.bl false) H3
  | _ => False
theorem lo_chain {r r' : DR2} : ∀ σ H Q, lo (dChain r r' ta tb tc) σ H Q → tChain (lo2 r) (lo2 r') (lo ta) (lo tb) (lo tc) σ H Q := fun σ H Q ⟨T, DH, τ, R, A, S, h, u⟩ => by
  refine lo_two (Q := fun v w H2 => lo2 r v w H2 fun z H3 => ∃ k, z = .bl k ∧ (if k = true then lo tc σ H3 fun w' H4 => lo2 r' w w' H4 Q else Q (.bl false) H3)) A S h fun T' DH' H' x y v w s A' r1 r2 h' => ?_
  refine ⟨T', DH', x, y, _, A', r1, r2, h', fun T1 DH1 H1 z vz s1 A1 rz h1 => ?_⟩
  cases z with
  | bl k =>
    refine ⟨k, rz, ?_⟩
    cases k with
    | true =>
      rw [if_pos rfl]
      exact ⟨T1, DH1, τ, _, A1, S.up (s.trans s1), h1, fun T2 DH2 H2 z2 v2 s2 A2 rz2 h2 => ⟨T2, DH2, y, z2, R, A2, (r2.up s1).up s2, rz2, h2, u.up ((s.trans s1).trans s2)⟩⟩
    | false =>
      rw [if_neg Bool.false_ne_true]
      exact u T1 DH1 H1 (.bl false) _ (s.trans s1) A1 rfl h1
  | _ => exact h1.elim
theorem qe_chain {op op' : CmpOp} {r r' : DR2} (ho : OpR X (compareOp op) (lo2 r)) (ho' : OpR X (compareOp op') (lo2 r')) (ha : QE X a ta) (hb : QE X b tb) (hc : QE X c tc)
    (hm : lastMarks [op, op'] [b, c] = false := by with_unfolding_all rfl) : QE X (.Compare a [op, op'] [b, c] pos) (dChain r r' ta tb tc) := ⟨peW (pe_chain ho ho' ha.run hb.run hc.run hm) lo_chain⟩
theorem qt_chain {op op' : CmpOp} {r r' : DR2} (ho : OpR X (compareOp op) (lo2 r)) (ho' : OpR X (compareOp op') (lo2 r')) (ha : QE X a ta) (hb : QE X b tb) (hc : QE X c tc)
    (hm : lastMarks [op, op'] [b, c] = false := by with_unfolding_all rfl) : QT X (.Compare a [op, op'] [b, c] pos) (dB (dChain r r' ta tb tc)) :=
  ⟨ptW (pt_chain ho ho' ha.run hb.run hc.run hm) fun σ H Q h => ttW lo_chain σ H Q (lo_test σ H Q h)⟩

/-! ### and, or, not, if -/
variable {tA tB : DT} {rest : List Expr}
def dAnd (t u : DT) : DT := fun τ H Q => t τ H fun c H1 => if c = true then u τ H1 Q else Q false H1
def dOr (t u : DT) : DT := fun τ H Q => t τ H fun c H1 => if c = true then Q true H1 else u τ H1 Q
def dNot (t : DT) : DT := fun τ H Q => t τ H fun c H1 => Q (!c) H1
theorem qw_and1 (ha : QT X a tA) : QW X (.BoolOp .And [a] pos) tA := ⟨pw_and1 ha.run⟩
theorem qw_or1 (ha : QT X a tA) : QW X (.BoolOp .Or [a] pos) tA := ⟨pw_or1 ha.run⟩
theorem qw_and (ha : QT X a tA) (hb : QW X (.BoolOp .And (b :: rest) pos) tB) : QW X (.BoolOp .And (a :: b :: rest) pos) (dAnd tA tB) :=
  ⟨pwW (pw_and ha.run hb.run) fun σ H Q ⟨T, DH, τ, R, A, S, h, u⟩ => ⟨T, DH, τ, _, A, S, h, fun T1 DH1 H1 k s1 A1 h1 => by
    cases k with
    | true => rw [if_pos rfl] at h1 ⊢; exact ⟨T1, DH1, τ, R, A1, S.up s1, h1, u.up s1⟩
    | false => rw [if_neg Bool.false_ne_true] at h1 ⊢; exact u T1 DH1 H1 _ s1 A1 h1⟩⟩
theorem qw_or (ha : QT X a tA) (hb : QW X (.BoolOp .Or (b :: rest) pos) tB) : QW X (.BoolOp .Or (a :: b :: rest) pos) (dOr tA tB) :=
  ⟨pwW (pw_or ha.run hb.run) fun σ H Q ⟨T, DH, τ, R, A, S, h, u⟩ => ⟨T, DH, τ, _, A, S, h, fun T1 DH1 H1 k s1 A1 h1 => by
    cases k with
    | false => rw [if_neg Bool.false_ne_true] at h1 ⊢; exact ⟨T1, DH1, τ, R, A1, S.up s1, h1, u.up s1⟩
    | true => rw [if_pos rfl] at h1 ⊢; exact u T1 DH1 H1 _ s1 A1 h1⟩⟩
theorem QW.qt (h : QW X e tA) : QT X e tA := ⟨h.run.pt⟩
theorem qt_not (ha : QT X a tA) : QT X (.UnaryOp .Not a pos) (dNot tA) := ⟨ptW (pt_not ha.run) fun σ H Q ⟨T, DH, τ, R, A, S, h, u⟩ => ⟨T, DH, τ, _, A, S, h, fun T1 DH1 H1 k s1 A1 h1 => u T1 DH1 H1 _ s1 A1 h1⟩⟩
/-- a value as a truth -/
def asB (x : D) (k : Bool → Prop) : Prop := match x with
  | .bl b => k b
  | _ => False
def dAndV (ta tb : DE) : DE := fun τ H Q => ta τ H fun x H1 => asB x fun c => if c = true then tb τ H1 Q else Q (.bl false) H1
def dOrV (ta tb : DE) : DE := fun τ H Q => ta τ H fun x H1 => asB x fun c => if c = true then Q (.bl true) H1 else tb τ H1 Q
def dNotV (ta : DE) : DE := fun τ H Q => ta τ H fun x H1 => asB x fun c => Q (.bl (!c)) H1
theorem asB_of {T : Hp} {x : D} {v : V} {k : Bool → Prop} (r : RepV T x v) (h : asB x k) : ∃ c, v = .bl c ∧ k c := by
  cases x with
  | bl b => exact ⟨b, r, h⟩
  | _ => exact (show False from h).elim
theorem qe_one {op} (h : QE X a ta) : QE X (.BoolOp op [a] pos) ta := ⟨pe_one h.run⟩
theorem qe_and (ha : QE X a ta) (hb : QE X (.BoolOp .And (b :: rest) pos) tb) : QE X (.BoolOp .And (a :: b :: rest) pos) (dAndV ta tb) :=
  ⟨peW (pe_and ha.run hb.run) fun σ H Q ⟨T, DH, τ, R, A, S, h, u⟩ => ⟨T, DH, τ, _, A, S, h, fun T1 DH1 H1 x v s1 A1 r1 h1 => by
    obtain ⟨c, rfl, h1⟩ := asB_of r1 h1
    refine ⟨c, rfl, ?_⟩
    cases c with
    | true => rw [if_pos rfl] at h1 ⊢; exact ⟨T1, DH1, τ, R, A1, S.up s1, h1, u.up s1⟩
    | false => rw [if_neg Bool.false_ne_true] at h1 ⊢; exact u T1 DH1 H1 (.bl false) _ s1 A1 rfl h1⟩⟩
theorem qe_or (ha : QE X a ta) (hb : QE X (.BoolOp .Or (b :: rest) pos) tb) : QE X (.BoolOp .Or (a :: b :: rest) pos) (dOrV ta tb) :=
  ⟨peW (pe_or ha.run hb.run) fun σ H Q ⟨T, DH, τ, R, A, S, h, u⟩ => ⟨T, DH, τ, _, A, S, h, fun T1 DH1 H1 x v s1 A1 r1 h1 => by
    obtain ⟨c, rfl, h1⟩ := asB_of r1 h1
    refine ⟨c, rfl, ?_⟩
    cases c with
    | false => rw [if_neg Bool.false_ne_true] at h1 ⊢; exact ⟨T1, DH1, τ, R, A1, S.up s1, h1, u.up s1⟩
    | true => rw [if_pos rfl] at h1 ⊢; exact u T1 DH1 H1 (.bl true) _ s1 A1 rfl h1⟩⟩
theorem qe_not (ha : QE X a ta) : QE X (.UnaryOp .Not a pos) (dNotV ta) :=
  ⟨peW (pe_not ha.run) fun σ H Q ⟨T, DH, τ, R, A, S, h, u⟩ => ⟨T, DH, τ, _, A, S, h, fun T1 DH1 H1 x v s1 A1 r1 h1 => by
    obtain ⟨c, rfl, h1⟩ := asB_of r1 h1
    exact ⟨c, rfl, u T1 DH1 H1 (.bl (!c)) _ s1 A1 rfl h1⟩⟩⟩
def dIf (t : DT) (ta tb : DE) : DE := fun τ H Q => t τ H fun c H1 => if c = true then ta τ H1 Q else tb τ H1 Q
theorem qe_if (hc : QT X c tA) (ha : QE X a ta) (hb : QE X b tb) : QE X (.IfExp c a b pos) (dIf tA ta tb) :=
  ⟨peW (pe_ifExp hc.run ha.run hb.run) fun σ H Q ⟨T, DH, τ, R, A, S, h, u⟩ => ⟨T, DH, τ, _, A, S, h, fun T1 DH1 H1 k s1 A1 h1 => by
    cases k with
    | true => rw [if_pos rfl] at h1 ⊢; exact ⟨T1, DH1, τ, R, A1, S.up s1, h1, u.up s1⟩
    | false => rw [if_neg Bool.false_ne_true] at h1 ⊢; exact ⟨T1, DH1, τ, R, A1, S.up s1, h1, u.up s1⟩⟩⟩

/-! ### arguments, displays, calls -/
variable {t : DA}
def dNil : DA := fun _ H Q => Q [] H
def dCons (ta : DE) (tr : DA) : DA := fun τ H Q => ta τ H fun x H1 => tr τ H1 fun xs H2 => Q (x :: xs) H2
theorem qa_nil : QA X [] dNil := ⟨paW pa_nil fun _ H _ ⟨T, DH, _, _, A, _, h, u⟩ => u T DH H _ _ (Same.refl _) A .nil h⟩
theorem qa_cons (ha : QE X e te) (hr : QA X es t) (hs : starEach (e :: es) X.env = (false, eval e X.env) :: starEach es X.env := by rfl) : QA X (e :: es) (dCons te t) :=
  ⟨paW (pa_cons ha.run hr.run hs) fun σ H Q ⟨T, DH, τ, R, A, S, h, u⟩ => ⟨T, DH, τ, _, A, S, h, fun T1 DH1 H1 x v s1 A1 r1 h1 =>
    ⟨T1, DH1, τ, _, A1, S.up s1, h1, fun T2 DH2 H2 xs vs s2 A2 r2 h2 => u T2 DH2 H2 _ _ (s1.trans s2) A2 (.cons (r1.up s2) r2) h2⟩⟩⟩
def dTup (t : DA) : DE := fun τ H Q => t τ H fun xs H1 => xs.length ≤ sizeLine ∧ Q (.tup xs) H1
def dLst (t : DA) : DE := fun τ H Q => t τ H fun xs H1 => xs.length ≤ sizeLine ∧ Q (.lst xs) H1
def dLstM (t : DA) : DE := fun τ H Q => t τ H fun xs H1 => xs.length ≤ sizeLine ∧ ∀ p, H1 p = none → Q (.ref p) (dupd H1 p (.lst xs))
theorem fin_tup {T : Hp} {DH : DHp} {H : Hp} {R : DK} {Q : VK} {xs : List D} {vs : List V} {p : Addr} (A : Abs T DH H) (r : RepL T xs vs) (u : Up T R Q) (h : R (.tup xs) DH) (hp : H p = none) : Q (.ref p) (upd H p (.tup vs)) := by
  obtain ⟨s, A1⟩ := A.frz (o := .tup vs) hp
  exact u _ DH _ (.tup xs) _ s A1 ⟨p, vs, rfl, upd_same, RepL.up s _ _ r⟩ h
theorem fin_lst {T : Hp} {DH : DHp} {H : Hp} {R : DK} {Q : VK} {xs : List D} {vs : List V} {p : Addr} (A : Abs T DH H) (r : RepL T xs vs) (u : Up T R Q) (h : R (.lst xs) DH) (hp : H p = none) : Q (.ref p) (upd H p (.lst vs)) := by
  obtain ⟨s, A1⟩ := A.frz (o := .lst vs) hp
  exact u _ DH _ (.lst xs) _ s A1 ⟨p, vs, rfl, upd_same, RepL.up s _ _ r⟩ h
theorem fin_lstM {T : Hp} {DH : DHp} {H : Hp} {R : DK} {Q : VK} {xs : List D} {vs : List V} {p : Addr} (A : Abs T DH H) (r : RepL T xs vs) (u : Up T R Q) (h : ∀ p, DH p = none → R (.ref p) (dupd DH p (.lst xs))) (hp : H p = none) : Q (.ref p) (upd H p (.lst vs)) :=
  u _ _ _ (.ref p) _ (Same.refl _) (A.new (x := .lst xs) hp ⟨vs, rfl, r⟩) rfl (h p (A.free hp).2)
theorem qe_tup {x1} (h : QA X es t) : QE X (.Tuple es x1 pos) (dTup t) :=
  ⟨peW (pe_tup h.run) fun σ H Q ⟨T, DH, τ, R, A, S, h, u⟩ => ⟨T, DH, τ, _, A, S, h, fun T1 DH1 H1 xs vs s1 A1 r1 h1 => ⟨by rw [r1.length]; exact h1.1, fun p hp => fin_tup A1 r1 (u.up s1) h1.2 hp⟩⟩⟩
theorem qe_lst (h : QA X es t) : QE X (.List es pos) (dLst t) :=
  ⟨peW (pe_lst h.run) fun σ H Q ⟨T, DH, τ, R, A, S, h, u⟩ => ⟨T, DH, τ, _, A, S, h, fun T1 DH1 H1 xs vs s1 A1 r1 h1 => ⟨by rw [r1.length]; exact h1.1, fun p hp => fin_lst A1 r1 (u.up s1) h1.2 hp⟩⟩⟩
theorem qe_lstM (h : QA X es t) : QE X (.List es pos) (dLstM t) :=
  ⟨peW (pe_lst h.run) fun σ H Q ⟨T, DH, τ, R, A, S, h, u⟩ => ⟨T, DH, τ, _, A, S, h, fun T1 DH1 H1 xs vs s1 A1 r1 h1 => ⟨by rw [r1.length]; exact h1.1, fun p hp => fin_lstM A1 r1 (u.up s1) h1.2 hp⟩⟩⟩
/-- a list may be frozen as soon as it is told -/
def dFrz (t : DE) : DE := fun τ H Q => t τ H fun x H1 => match x with
  | .ref p => match H1 p with
    | some (.lst xs) => Q (.lst xs) (derase H1 p)
    | _ => False
  | x => Q x H1
theorem qe_frz (h : QE X e te) : QE X e (dFrz te) :=
  ⟨peW h.run fun σ H Q ⟨T, DH, τ, R, A, S, h, u⟩ => ⟨T, DH, τ, _, A, S, h, fun T1 DH1 H1 x v s1 A1 r1 h1 => by
    cases x with
    | ref p =>
      simp only at h1
      split at h1
      · rename_i xs e
        obtain ⟨T2, s2, A2, r2⟩ := A1.freeze e
        cases (show v = .ref p from r1)
        exact u T2 _ H1 _ _ (s1.trans s2) A2 r2 h1
      · exact h1.elim
    | _ => exact u T1 DH1 H1 _ _ s1 A1 r1 h1⟩⟩

/-- a def's promise over data -/
abbrev DSp := List D → DHp → DK → Prop
def loP (sp : DSp) : Sp := fun vs H Q _ => ∃ T DH ds R, Abs T DH H ∧ RepL T ds vs ∧ sp ds DH R ∧ Up T R Q
def dCB (r : DRC) (t : DA) : DE := fun τ H Q => t τ H fun vs H1 => r vs H1 Q
theorem lo_cb {r : DRC} : ∀ σ H Q, lo (dCB r t) σ H Q → tCB (loC r) (loA t) σ H Q := fun σ H Q ⟨T, DH, τ, R, A, S, h, u⟩ =>
  ⟨T, DH, τ, _, A, S, h, fun T1 DH1 H1 xs vs s1 A1 r1 h1 => ⟨T1, DH1, xs, R, A1, r1, h1, u.up s1⟩⟩
section
variable {CX : CXT} {k : Nat} {f C : Addr} {fd : FuncData} {ps : List Str} {sp : DSp} {x m : Str} {p apos : Pos} {o : Expr} {id : String} {r : DRC}
theorem qe_call {E : XK} (F : FnOk X.prog X.w X.K X.mg X.base CX k f fd ps (loP sp)) (hr : Room k X.A) (hg : Gl X x) (hm : X.mg x = some (.ref f)) (hk : PySem.W.keepIn X.K (.ref f) = true) (hb : Binds X.K fd ps []) (hx : Passes CX X E)
    (ha : QA X (e :: es) t) (hdb : (x == ("__debug__" : Str)) = false := by decide) (he : starEach (e :: es) X.env = (false, eval e X.env) :: starEach es X.env := by rfl) (hpl : (backTo pos (starEach es X.env)).any (·.1) = false := by rfl) :
    QE X (.Call (.Name x p) (e :: es) [] pos) (dCB sp t) :=
  ⟨peW (pe_call F hr hg hm hk hb .nil hx ha.run hdb he hpl) fun σ H Q h => by
    obtain ⟨T, DH, τ, R, A, S, h, u⟩ := h
    exact ⟨T, DH, τ, _, A, S, h, fun T1 DH1 H1 xs vs s1 A1 r1 h1 => ⟨T1, DH1, xs, R, A1, by rw [List.append_nil]; exact r1, h1, u.up s1⟩⟩⟩
theorem qe_callB (hc : CallR X (.builtin id) (loC r)) (hg : Gl X x) (hm : X.mg x = none) (hv : bootBuiltins x = some (.builtin id)) (ha : QA X (e :: es) t) (hn : x ≠ "__name__" := by decide) (hdb : (x == ("__debug__" : Str)) = false := by decide)
    (he : starEach (e :: es) X.env = (false, eval e X.env) :: starEach es X.env := by rfl) (hpl : (backTo pos (starEach es X.env)).any (·.1) = false := by rfl) : QE X (.Call (.Name x p) (e :: es) [] pos) (dCB r t) := ⟨peW (pe_callB hc hg hm hv ha.run hn hdb he hpl) lo_cb⟩
theorem qe_callTy (hc : CallR X (.type id) (loC r)) (hg : Gl X x) (hm : X.mg x = none) (hv : bootBuiltins x = some (.type id)) (ha : QA X (e :: es) t) (hn : x ≠ "__name__" := by decide) (hdb : (x == ("__debug__" : Str)) = false := by decide)
    (he : starEach (e :: es) X.env = (false, eval e X.env) :: starEach es X.env := by rfl) (hpl : (backTo pos (starEach es X.env)).any (·.1) = false := by rfl) : QE X (.Call (.Name x p) (e :: es) [] pos) (dCB r t) := ⟨peW (pe_callTy hc hg hm hv ha.run hn hdb he hpl) lo_cb⟩
end

/-! ### statements -/
variable {st : Stmt} {sts : List Stmt} {ts us : DS}
def dNext : DS := fun E τ H => E.nx τ H
def dSeq (t u : DS) : DS := fun E τ H => t { E with nx := u E } τ H
theorem qss_nil : QSs X [] dNext := ⟨pssW pss_nil fun _ σ H ⟨T, DH, τ, _, A, S, h, u⟩ => u.nx T DH H τ σ (Same.refl _) A S h⟩
theorem loS_seq : ∀ E σ H, loS (dSeq ts us) E σ H → tSeq (loS ts) (loS us) E σ H := fun E σ H ⟨T, DH, τ, R, A, S, h, u⟩ =>
  ⟨T, DH, τ, _, A, S, h, ⟨fun T1 DH1 H1 τ1 σ1 s1 A1 S1 h1 => ⟨T1, DH1, τ1, R, A1, S1, h1, u.up s1⟩, u.rt, u.bk, u.ct⟩⟩
theorem qss_cons (h1 : QS X st ts) (h2 : QSs X sts us) : QSs X (st :: sts) (dSeq ts us) := ⟨pssW (pss_cons h1.run h2.run) loS_seq⟩
theorem qss_one (h1 : QS X st ts) : QSs X [st] ts := ⟨pss_one h1.run⟩
def dBreak : DS := fun E τ H => E.bk τ H
def dCont : DS := fun E τ H => E.ct τ H
theorem qs_pass : QS X (.Pass pos) dNext := ⟨psW ps_pass fun _ σ H ⟨T, DH, τ, _, A, S, h, u⟩ => u.nx T DH H τ σ (Same.refl _) A S h⟩
theorem qs_break : QS X (.Break pos) dBreak := ⟨psW ps_break fun _ σ H ⟨T, DH, τ, _, A, S, h, u⟩ => u.bk T DH H τ σ (Same.refl _) A S h⟩
theorem qs_cont : QS X (.Continue pos) dCont := ⟨psW ps_continue fun _ σ H ⟨T, DH, τ, _, A, S, h, u⟩ => u.ct T DH H τ σ (Same.refl _) A S h⟩
def dDrop (te : DE) : DS := fun E τ H => te τ H fun _ H1 => E.nx τ H1
theorem qs_expr (he : QE X e te) (hs : swapsWith e none pos.line X.env = pure false := by rfl) : QS X (.Expr e pos) (dDrop te) :=
  ⟨psW (ps_expr he.run hs) fun E σ H ⟨T, DH, τ, R, A, S, h, u⟩ => ⟨T, DH, τ, _, A, S, h, fun T1 DH1 H1 x v s1 A1 r1 h1 => u.nx T1 DH1 H1 τ σ s1 A1 (S.up s1) h1⟩⟩
def dRet (te : DE) : DS := fun E τ H => te τ H E.rt
theorem qs_ret (he : QE X e te) : QS X (.Return (some e) pos) (dRet te) := ⟨psW (ps_ret he.run) fun E σ H ⟨T, DH, τ, R, A, S, h, u⟩ => ⟨T, DH, τ, _, A, S, h, u.rt⟩⟩
def dRetN : DS := fun E _ H => E.rt .non H
theorem qs_retN : QS X (.Return none pos) dRetN := ⟨psW ps_retN fun E σ H ⟨T, DH, τ, R, A, S, h, u⟩ => u.rt T DH H .non _ (Same.refl _) A rfl h⟩
def dIfS (c : DT) (t u : DS) : DS := fun E τ H => c τ H fun b H1 => if b = true then t E τ H1 else u E τ H1
theorem qs_if {sa sb : List Stmt} (hc : QT X c tA) (ha : QSs X sa ts) (hb : QSs X sb us) : QS X (.If c sa sb pos) (dIfS tA ts us) :=
  ⟨psW (ps_if hc.run ha.run hb.run) fun E σ H ⟨T, DH, τ, R, A, S, h, u⟩ => ⟨T, DH, τ, _, A, S, h, fun T1 DH1 H1 k s1 A1 h1 => by
    cases k with
    | true => rw [if_pos rfl] at h1 ⊢; exact ⟨T1, DH1, τ, R, A1, S.up s1, h1, u.up s1⟩
    | false => rw [if_neg Bool.false_ne_true] at h1 ⊢; exact ⟨T1, DH1, τ, R, A1, S.up s1, h1, u.up s1⟩⟩⟩
def dNever : DS := fun _ _ _ => False
theorem qs_never : QS X st dNever := ⟨psW ps_never fun _ _ _ ⟨_, _, _, _, _, _, h, _⟩ => h⟩
theorem qss_never : QSs X sts dNever := ⟨pssW pss_never fun _ _ _ ⟨_, _, _, _, _, _, h, _⟩ => h⟩

/-! ### targets: the slots at ix may change, no others -/
abbrev DG := D → DSt → DHp → (DSt → DHp → Prop) → Prop
abbrev DGs := List D → DSt → DHp → (DSt → DHp → Prop) → Prop
def Far (ix : List Nat) (σ σ' : L2.St) : Prop := σ'.length = σ.length ∧ ∀ i, i ∉ ix → σ'[i]? = σ[i]?
theorem Far.refl (ix : List Nat) (σ : L2.St) : Far ix σ σ := ⟨rfl, fun _ _ => rfl⟩
theorem Far.trans {ix jx : List Nat} {σ σ1 σ2 : L2.St} (a : Far ix σ σ1) (b : Far jx σ1 σ2) : Far (ix ++ jx) σ σ2 :=
  ⟨b.1.trans a.1, fun i h => (b.2 i fun z => h (List.mem_append_right _ z)).trans (a.2 i fun z => h (List.mem_append_left _ z))⟩
def loG (ix : List Nat) (t : DG) : TG := fun v σ H Q => ∃ T DH τ d R, Abs T DH H ∧ RepS T τ σ ∧ RepV T d v ∧ t d τ DH R ∧ UpS T R (fun σ' H' => Far ix σ σ' → Q σ' H')
def loGs (ix : List Nat) (t : DGs) : TGs := fun vs σ H Q => ∃ T DH τ ds R, Abs T DH H ∧ RepS T τ σ ∧ RepL T ds vs ∧ t ds τ DH R ∧ UpS T R (fun σ' H' => Far ix σ σ' → Q σ' H')
structure QG (X : Cx) (e : Expr) (ix : List Nat) (t : DG) : Prop where
  run : PG X e (loG ix t)
structure QGs (X : Cx) (es : List Expr) (ix : List Nat) (t : DGs) : Prop where
  run : PGs X es (loGs ix t)
theorem pgW {t t' : TG} (h : PG X e t) (w : ∀ v σ H Q, t' v σ H Q → t v σ H Q) : PG X e t' := ⟨fun pins s σ H v u Q I r q => h.run pins s σ H v u Q I r (w v σ H Q q)⟩
theorem pgsW {t t' : TGs} (h : PGs X es t) (w : ∀ v σ H Q, t' v σ H Q → t v σ H Q) : PGs X es t' := ⟨fun pins s σ H v u Q I r q => h.run pins s σ H v u Q I r (w v σ H Q q)⟩
def gN (i : Nat) : DG := fun d τ H Q => Q (τ.set i (some d)) H
theorem qg_name {i : Nat} {x : Str} {pos : Pos} (hN : X.N.Nodup) (hi : X.N[i]? = some x := by rfl) (hx : Loc X.env.scope x := by first | exact Or.inl rfl | exact Or.inr rfl) (hf : X.fn x = true ∨ X.env.scope.names.lookup x = some .local := by first | exact .inl rfl | exact .inr rfl | assumption) :
    QG X (.Name x pos) [i] (gN i) := ⟨pgW (pg_name hN hi hx hf) fun v σ H Q ⟨T, DH, τ, d, R, A, S, r, h, u⟩ => u T DH H _ _ (Same.refl _) A (S.set r i) h
      ⟨by simp, fun j hj => by rw [List.getElem?_set_ne (fun z => hj (by simp [z]))]⟩⟩
def gNilD : DGs := fun ds τ H Q => match ds with
  | [] => Q τ H
  | _ => False
def gConsD (t : DG) (u : DGs) : DGs := fun ds τ H Q => match ds with
  | d :: r => t d τ H fun τ1 H1 => u r τ1 H1 Q
  | _ => False
theorem qgs_nil : QGs X [] [] gNilD := ⟨pgsW pgs_nil fun vs σ H Q ⟨T, DH, τ, ds, R, A, S, r, h, u⟩ => by
  cases ds with
  | nil => exact ⟨r, u T DH H _ _ (Same.refl _) A S h (Far.refl _ _)⟩
  | cons d ds => exact (show False from h).elim⟩
theorem qgs_cons {ix jx : List Nat} {tg : DG} {tgs : DGs} (h1 : QG X e ix tg) (h2 : QGs X es jx tgs) (hs : (assignEach (e :: es) X.env).map (·.2) = assign e X.env :: (assignEach es X.env).map (·.2) := by rfl) : QGs X (e :: es) (ix ++ jx) (gConsD tg tgs) :=
  ⟨pgsW (pgs_cons h1.run h2.run hs) fun vs σ H Q ⟨T, DH, τ, ds, R, A, S, r, h, u⟩ => by
    cases ds with
    | nil => exact (show False from h).elim
    | cons d ds =>
      obtain ⟨v, w, rfl, r1, r2⟩ := r
      refine ⟨v, w, rfl, T, DH, τ, d, _, A, S, r1, h, fun T1 DH1 H1 τ1 σ1 s1 A1 S1 q1 f1 => ?_⟩
      exact ⟨T1, DH1, τ1, ds, R, A1, S1, RepL.up s1 _ _ r2, q1, fun T2 DH2 H2 τ2 σ2 s2 A2 S2 q2 f2 => u T2 DH2 H2 τ2 σ2 (s1.trans s2) A2 S2 q2 (f1.trans f2)⟩⟩
def gT (n : Nat) (t : DGs) : DG := fun d τ H Q => match d with
  | .tup xs => xs.length = n ∧ t xs τ H Q
  | _ => False
theorem qg_tup {k : Nat} {ix : List Nat} {tgs : DGs} {n : Nat} (hc : X.calm = true) (h : QGs X es ix tgs) (hn : (assignEach es X.env).length = n := by rfl) (hst : (assignEach es X.env).findIdx? (·.1) = none := by rfl) : QG X (.Tuple es k pos) ix (gT n tgs) :=
  ⟨pgW (pg_tup hc h.run hn hst) fun v σ H Q ⟨T, DH, τ, d, R, A, S, r, h, u⟩ => by
    cases d with
    | tup xs =>
      obtain ⟨p, vs, rfl, e, r⟩ := r
      exact ⟨p, vs, rfl, .inl (.inl (A.sub _ _ e)), by rw [r.length]; exact h.1, T, DH, τ, xs, R, A, S, r, h.2, u⟩
    | _ => exact (show False from h).elim⟩
def dAsg (te : DE) (g : DG) : DS := fun E τ H => te τ H fun x H1 => g x τ H1 E.nx
theorem loS_asg {ix : List Nat} {g : DG} : ∀ E σ H, loS (dAsg te g) E σ H → tAsg (lo te) (loG ix g) E σ H := fun E σ H ⟨T, DH, τ, R, A, S, h, u⟩ =>
  ⟨T, DH, τ, _, A, S, h, fun T1 DH1 H1 x v s1 A1 r1 h1 => ⟨T1, DH1, τ, x, _, A1, S.up s1, r1, h1, fun T2 DH2 H2 τ2 σ2 s2 A2 S2 h2 _ => u.nx T2 DH2 H2 τ2 σ2 (s1.trans s2) A2 S2 h2⟩⟩
theorem qs_asg {tg : Expr} {ix : List Nat} {g : DG} (he : QE X e te) (hg : QG X tg ix g) (hs : swapsWithSole [tg] e pos.line X.env = pure false := by rfl) (hw : swappedStores [tg] e X.env = pure none := by rfl)
    (h1 : (assignEach [tg] X.env).map (·.2) = [assign tg X.env] := by rfl) : QS X (.Assign [tg] e pos) (dAsg te g) := ⟨psW (ps_asg he.run hg.run hs hw h1) loS_asg⟩
/-- name = value -/
theorem qs_set {i : Nat} {x : Str} {pos' : Pos} (hN : X.N.Nodup) (he : QE X e te) (hi : X.N[i]? = some x := by rfl) (hx : Loc X.env.scope x := by first | exact Or.inl rfl | exact Or.inr rfl) (hs : swapsWith e (some (.Name x pos')) pos.line X.env = pure false := by rfl)
    (hf : X.fn x = true ∨ X.env.scope.names.lookup x = some .local := by first | exact .inl rfl | exact .inr rfl | assumption) : QS X (.Assign [.Name x pos'] e pos) (dAsg te (gN i)) :=
  ⟨psW (ps_set hN hi hx he.run hs hf) fun E σ H ⟨T, DH, τ, R, A, S, h, u⟩ => ⟨T, DH, τ, _, A, S, h, fun T1 DH1 H1 x v s1 A1 r1 h1 => u.nx T1 DH1 H1 _ _ s1 A1 ((S.up s1).set r1 i) h1⟩⟩
/-- a, b = x, y, both sides written: stored from the right -/
def dPar (i j : Nat) (t : DA) : DS := fun E τ H => t τ H fun ds H1 => match ds with
  | [v, w] => E.nx ((τ.set i (some v)).set j (some w)) H1
  | _ => False
theorem qs_par {i j : Nat} {x y : Str} {px py pt : Pos} {kt k2 pt2} (hc : X.calm = true) (hN : X.N.Nodup) (ha : QA X [a, b] t) (hi : X.N[i]? = some x := by rfl) (hj : X.N[j]? = some y := by rfl) (hij : i ≠ j := by decide)
    (hx : X.env.scope.names.lookup x = some .local := by rfl) (hy : X.env.scope.names.lookup y = some .local := by rfl)
    (hw : swappedStores [.Tuple [.Name x px, .Name y py] kt pt] (.Tuple [a, b] k2 pt2) X.env = pure (some [x, y]) := by rfl)
    (hs : swapsWithSole [.Tuple [.Name x px, .Name y py] kt pt] (.Tuple [a, b] k2 pt2) pos.line X.env = pure false := by rfl) :
    QS X (.Assign [.Tuple [.Name x px, .Name y py] kt pt] (.Tuple [a, b] k2 pt2) pos) (dPar i j t) :=
  ⟨psW (ps_par hc hN hi hj hij hx hy ha.run hw hs) fun E σ H ⟨T, DH, τ, R, A, S, h, u⟩ => ⟨T, DH, τ, _, A, S, h, fun T1 DH1 H1 ds vs s1 A1 r1 h1 => by
    match ds, r1, h1 with
    | [d, e], ⟨v, _, e1, rv, w, _, e2, rw', e3⟩, h1 =>
      have e3 : _ = [] := e3
      subst e3 e2 e1
      exact ⟨v, w, rfl, u.nx T1 DH1 H1 _ _ s1 A1 (((S.up s1).set rv i).set rw' j) h1⟩
    | [], _, h1 => exact h1.elim
    | [_], _, h1 => exact h1.elim
    | _ :: _ :: _ :: _, _, h1 => exact h1.elim⟩⟩
end
end DL

/-! DL3: operators, comparisons, calls of built-ins, subscripts and slices, over data. -/
namespace DL
open PySem PySem.Spec PyProof.Rows L2

/-! ### what a value is as plain data -/
mutual
def D.py : D → PyData
  | .non => .none
  | .bl b => .bool b
  | .int i => .int i
  | .str x => .str x
  | .tup xs => .tuple (pyL xs)
  | .lst xs => .list (pyL xs)
  | .dct _ _ => .dict []
  | .ref _ => .none
  | .ty _ => .none
def pyL : List D → List PyData
  | [] => []
  | x :: xs => x.py :: pyL xs
end
mutual
/-- plain data, no dict in it -/
def D.plain : D → Bool
  | .non | .bl _ | .int _ => true
  | .str x => PyData.strOk x
  | .tup xs | .lst xs => plainL xs
  | .dct _ _ | .ref _ | .ty _ => false
def plainL : List D → Bool
  | [] => true
  | x :: xs => x.plain && plainL xs
end
mutual
def D.dep : D → Nat
  | .tup xs | .lst xs => depL xs + 1
  | .dct _ _ => 1
  | _ => 0
def depL : List D → Nat
  | [] => 0
  | x :: xs => max x.dep (depL xs)
end
mutual
/-- == -/
def D.eq : D → D → Bool
  | .non, y => match y with | .non => true | _ => false
  | .bl a, y => match y with | .bl b => a == b | .int j => (if a then 1 else 0) == j | _ => false
  | .int i, y => match y with | .bl b => i == (if b then 1 else 0) | .int j => i == j | _ => false
  | .str a, y => match y with | .str b => a == b | _ => false
  | .tup xs, y => match y with | .tup ys => eqL xs ys | _ => false
  | .lst xs, y => match y with | .lst ys => eqL xs ys | _ => false
  | .dct _ _, _ => false
  | .ref _, _ => false
  | .ty _, _ => false
def eqL : List D → List D → Bool
  | [], ys => match ys with | [] => true | _ => false
  | x :: xs, ys => match ys with | [] => false | y :: ys => D.eq x y && eqL xs ys
end
mutual
theorem eq_py : ∀ (x y : D), x.plain = true → y.plain = true → PyData.eqv x.py y.py = D.eq x y
  | .non, y, _, h => by cases y <;> simp_all [D.py, D.eq, PyData.eqv, D.plain]
  | .bl a, y, _, h => by cases y <;> simp_all [D.py, D.eq, PyData.eqv, D.plain]
  | .int a, y, _, h => by cases y <;> simp_all [D.py, D.eq, PyData.eqv, D.plain]
  | .str a, y, _, h => by cases y <;> simp_all [D.py, D.eq, PyData.eqv, D.plain]
  | .tup xs, y, g, h => by
    cases y with
    | tup ys =>
      simp only [D.plain] at g h
      simp only [D.py, D.eq, PyData.eqv, eqL_py xs ys g h]
    | _ => simp_all [D.py, D.eq, PyData.eqv, D.plain]
  | .lst xs, y, g, h => by
    cases y with
    | lst ys =>
      simp only [D.plain] at g h
      simp only [D.py, D.eq, PyData.eqv, eqL_py xs ys g h]
    | _ => simp_all [D.py, D.eq, PyData.eqv, D.plain]
  | .dct _ _, _, g, _ => by simp [D.plain] at g
  | .ref _, _, g, _ => by simp [D.plain] at g
  | .ty _, _, g, _ => by simp [D.plain] at g
theorem eqL_py : ∀ (xs ys : List D), plainL xs = true → plainL ys = true → PyData.eqvAll (pyL xs) (pyL ys) = eqL xs ys
  | [], ys, _, _ => by cases ys <;> simp [pyL, eqL, PyData.eqvAll]
  | x :: xs, ys, g, h => by
    cases ys with
    | nil => simp [pyL, eqL, PyData.eqvAll]
    | cons y ys =>
      simp only [plainL, Bool.and_eq_true] at g h
      simp only [pyL, eqL, PyData.eqvAll, eq_py x y g.1 h.1, eqL_py xs ys g.2 h.2]
end
mutual
theorem plain_lay : ∀ x : D, x.plain = true → x.py.canLay0 = true ∧ x.py.depth = x.dep
  | .non, _ => ⟨by simp [D.py, PyData.canLay0], by simp [D.py, PyData.depth, D.dep]⟩
  | .bl _, _ => ⟨by simp [D.py, PyData.canLay0], by simp [D.py, PyData.depth, D.dep]⟩
  | .int _, _ => ⟨by simp [D.py, PyData.canLay0], by simp [D.py, PyData.depth, D.dep]⟩
  | .str _, h => ⟨by simpa [D.py, PyData.canLay0, D.plain] using h, by simp [D.py, PyData.depth, D.dep]⟩
  | .tup xs, h => by
    have := plainL_lay xs (by simpa [D.plain] using h)
    exact ⟨by simpa [D.py, PyData.canLay0] using this.1, by simp [D.py, PyData.depth, D.dep, this.2]⟩
  | .lst xs, h => by
    have := plainL_lay xs (by simpa [D.plain] using h)
    exact ⟨by simpa [D.py, PyData.canLay0] using this.1, by simp [D.py, PyData.depth, D.dep, this.2]⟩
  | .dct _ _, h => by simp [D.plain] at h
  | .ref _, h => by simp [D.plain] at h
  | .ty _, h => by simp [D.plain] at h
theorem plainL_lay : ∀ xs : List D, plainL xs = true → PyData.canLayAll0 (pyL xs) = true ∧ PyData.depthAll (pyL xs) = depL xs
  | [], _ => ⟨by simp [pyL, PyData.canLayAll0], by simp [pyL, PyData.depthAll, depL]⟩
  | x :: xs, h => by
    simp only [plainL, Bool.and_eq_true] at h
    have h1 := plain_lay x h.1
    have h2 := plainL_lay xs h.2
    exact ⟨by simp [pyL, PyData.canLayAll0, h1.1, h2.1], by simp [pyL, PyData.depthAll, depL, h1.2, h2.2]⟩
end
mutual
theorem rep_dp {K : PySem.W.Frag} {T H : Hp} (s : Sb T H) : ∀ (d : D) (v : V), d.plain = true → RepV T d v → Dp K H v d.py
  | .non, _, _, r => by cases (show _ = V.non from r); simp only [D.py]; exact .non
  | .bl b, _, _, r => by cases (show _ = V.bl b from r); simp only [D.py]; exact .bl b
  | .int b, _, _, r => by cases (show _ = V.int b from r); simp only [D.py]; exact .int b
  | .str b, _, _, r => by cases (show _ = V.str b from r); simp only [D.py]; exact .str b
  | .tup xs, _, g, ⟨p, vs, e, t, r⟩ => by
    subst e
    simp only [D.py]
    exact .tup (SqT.of (s _ _ t)) (rep_dpL s xs vs (by simpa [D.plain] using g) r)
  | .lst xs, _, g, ⟨p, vs, e, t, r⟩ => by
    subst e
    simp only [D.py]
    exact .lst (SqL.of (s _ _ t)) (rep_dpL s xs vs (by simpa [D.plain] using g) r)
  | .dct _ _, _, g, _ => by simp [D.plain] at g
  | .ref _, _, g, _ => by simp [D.plain] at g
  | .ty _, _, g, _ => by simp [D.plain] at g
theorem rep_dpL {K : PySem.W.Frag} {T H : Hp} (s : Sb T H) : ∀ (ds : List D) (vs : List V), plainL ds = true → RepL T ds vs → DpAll K H vs (pyL ds)
  | [], _, _, r => by cases (show _ = [] from r); simp only [pyL]; exact .nil
  | d :: ds, _, g, ⟨v, q, e, r1, r2⟩ => by
    subst e
    simp only [plainL, Bool.and_eq_true] at g
    simp only [pyL]
    exact .cons (rep_dp s d v g.1 r1) (rep_dpL s ds q g.2 r2)
end

/-! ### what a name of a list shows -/
/-- a list that may be changed, as the data it holds now -/
def peek (H : DHp) (d : D) : D := match d with
  | .ref p => match H p with
    | some (.lst xs) => .lst xs
    | _ => d
  | d => d
def listOf (H : DHp) (d : D) : Option (List D) := match peek H d with
  | .lst xs => some xs
  | _ => none
def seqOf (H : DHp) (d : D) : Option (List D) := match peek H d with
  | .lst xs => some xs
  | .tup xs => some xs
  | _ => none
theorem peek_ref {H : DHp} {p : Addr} {xs : List D} (h : H p = some (.lst xs)) : peek H (.ref p) = .lst xs := by simp [peek, h]

section
variable {X : Cx} {T : Hp} {DH : DHp} {H : Hp}
theorem listOf_rep {K : PySem.W.Frag} (A : Abs T DH H) {d : D} {v : V} {xs : List D} (r : RepV T d v) (h : listOf DH d = some xs) : ∃ p vs, v = .ref p ∧ H p = some (.lst vs) ∧ RepL T xs vs := by
  cases d with
  | lst ys =>
    cases (show some ys = some xs from h)
    obtain ⟨p, vs, e, t, q⟩ := r
    exact ⟨p, vs, e, A.sub _ _ t, q⟩
  | ref p =>
    unfold listOf peek at h
    cases e : DH p with
    | none => simp [e] at h
    | some o =>
      cases o with
      | lst ys =>
        simp only [e] at h
        cases h
        obtain ⟨vs, q1, q2⟩ := A.lst e
        exact ⟨p, vs, r, q1, q2⟩
      | _ => simp [e] at h
  | _ => simp [listOf, peek] at h
theorem seqOf_rep {K : PySem.W.Frag} (A : Abs T DH H) {d : D} {v : V} {xs : List D} (r : RepV T d v) (h : seqOf DH d = some xs) : ∃ p vs, v = .ref p ∧ (SqL K H p vs ∨ SqT K H p vs) ∧ RepL T xs vs := by
  by_cases q : ∃ ys, d = .tup ys
  · obtain ⟨ys, rfl⟩ := q
    cases (show some ys = some xs from h)
    obtain ⟨p, vs, e, t, q⟩ := r
    exact ⟨p, vs, e, .inr (SqT.of (A.sub _ _ t)), q⟩
  · have h' : listOf DH d = some xs := by
      unfold seqOf at h
      unfold listOf
      split at h
      · rename_i e; rw [e]; exact h
      · rename_i ys e
        exfalso
        cases d with
        | tup zs => exact q ⟨zs, rfl⟩
        | ref p =>
          unfold peek at e
          simp only at e
          split at e <;> cases e
        | _ => simp [peek] at e
      · cases h
    obtain ⟨p, vs, e, t, r⟩ := listOf_rep (K := K) A r h'
    exact ⟨p, vs, e, .inl (SqL.of t), r⟩
theorem peek_dp {K : PySem.W.Frag} (A : Abs T DH H) {d : D} {v : V} (r : RepV T d v) (g : (peek DH d).plain = true) : Dp K H v (peek DH d).py := by
  cases d with
  | ref p =>
    unfold peek at g ⊢
    cases e : DH p with
    | none => simp [e, D.plain] at g
    | some o =>
      cases o with
      | lst ys =>
        simp only [e] at g ⊢
        obtain ⟨vs, q1, q2⟩ := A.lst e
        cases (show v = .ref p from r)
        simp only [D.py]
        exact .lst (SqL.of q1) (rep_dpL A.sub ys vs (by simpa [D.plain] using g) q2)
      | _ => simp [e, D.plain] at g
  | _ => exact rep_dp A.sub _ _ g r

/-! ### numbers -/
theorem Up.at {R : DK} {Q : VK} (u : Up T R Q) (A : Abs T DH H) {d : D} {v : V} (r : RepV T d v) (h : R d DH) : Q v H := u T DH H d v (Same.refl _) A r h
theorem Up.int {R : DK} {Q : VK} (u : Up T R Q) (A : Abs T DH H) {i : Int} (h : R (.int i) DH) : Q (.int i) H := u.at A (d := .int i) rfl h
theorem Up.bl {R : DK} {Q : VK} (u : Up T R Q) (A : Abs T DH H) {i : Bool} (h : R (.bl i) DH) : Q (.bl i) H := u.at A (d := .bl i) rfl h
theorem Up.str {R : DK} {Q : VK} (u : Up T R Q) (A : Abs T DH H) {i : Str} (h : R (.str i) DH) : Q (.str i) H := u.at A (d := .str i) rfl h
def rIntD (C : Int → Int → Prop) (g : Int → Int → D) : DR2 := fun x y H Q => match x, y with
  | .int i, .int j => C i j ∧ Q (g i j) H
  | _, _ => False
theorem intD_of {C : Int → Int → Prop} {g : Int → Int → D} {gv : Int → Int → V} {x y : D} {v u : V} {R : DK} {Q : VK} (A : Abs T DH H) (r1 : RepV T x v) (r2 : RepV T y u) (h : rIntD C g x y DH R) (w : Up T R Q) (hg : ∀ i j, RepV T (g i j) (gv i j)) : rI C gv v u H Q := by
  unfold rIntD at h
  split at h
  · rename_i i j
    exact ⟨i, j, r1, r2, h.1, w.at A (hg i j) h.2⟩
  · exact h.elim
theorem oi {f : Value → Value → Sem Value} {C : Int → Int → Prop} {g : Int → Int → Int} (o : OpR X f (rI C fun i j => .int (g i j))) : OpR X f (lo2 (rIntD C fun i j => .int (g i j))) :=
  oprW o fun v u H Q ⟨T, DH, x, y, R, A, r1, r2, h, w⟩ => intD_of A r1 r2 h w fun _ _ => rfl
theorem oi0 {f : Value → Value → Sem Value} {g : Int → Int → Int} (o : OpR X f (rI0 fun i j => .int (g i j))) : OpR X f (lo2 (rIntD (fun _ _ => True) fun i j => .int (g i j))) :=
  oprW o fun v u H Q ⟨T, DH, x, y, R, A, r1, r2, h, w⟩ => let ⟨i, j, a, b, _, q⟩ := intD_of (gv := fun i j => .int (g i j)) A r1 r2 h w fun _ _ => rfl; ⟨i, j, a, b, q⟩
theorem ob0 {f : Value → Value → Sem Value} {g : Int → Int → Bool} (o : OpR X f (rI0 fun i j => .bl (g i j))) : OpR X f (lo2 (rIntD (fun _ _ => True) fun i j => .bl (g i j))) :=
  oprW o fun v u H Q ⟨T, DH, x, y, R, A, r1, r2, h, w⟩ => let ⟨i, j, a, b, _, q⟩ := intD_of (gv := fun i j => .bl (g i j)) A r1 r2 h w fun _ _ => rfl; ⟨i, j, a, b, q⟩
def CMulD (i j : Int) : Prop := CMul i j ∨ CMulW i j
theorem od_mulI : OpR X (binaryOp .Mult) (lo2 (rIntD CMulD fun i j => .int (i * j))) := oi (opI fun i j _ _ _ _ _ hc q => mul_int q (by rcases hc with h | h; exact h.ok; exact h.ok))
theorem od_sub : OpR X (binaryOp .Sub) (lo2 (rIntD (fun _ _ => True) fun i j => .int (i - j))) := oi0 op_sub
theorem od_fdiv : OpR X (binaryOp .FloorDiv) (lo2 (rIntD (fun i j => 0 < j ∧ j.natAbs.log2 < 9000) fun i j => .int (i / j))) := oi op_fdivW
theorem od_mod : OpR X (binaryOp .Mod) (lo2 (rIntD (fun _ j => 0 < j) fun i j => .int (i % j))) := oi op_mod
/-- a power: the second one small -/
theorem od_pow : OpR X (binaryOp .Pow) (lo2 (rIntD (fun i j => 0 ≤ j ∧ (Builtin.Int.intBits i : Int) * j ≤ 2 ^ 27) fun i j => .int (i ^ j.toNat))) := oi (opI fun i j _ _ _ _ _ hc q => pow_int hc.1 hc.2 q)
theorem od_lt : OpR X (compareOp .Lt) (lo2 (rIntD (fun _ _ => True) fun i j => .bl (decide (i < j)))) := ob0 op_lt
theorem od_le : OpR X (compareOp .LtE) (lo2 (rIntD (fun _ _ => True) fun i j => .bl (decide (i ≤ j)))) := ob0 op_le
theorem od_gt : OpR X (compareOp .Gt) (lo2 (rIntD (fun _ _ => True) fun i j => .bl (decide (j < i)))) := ob0 op_gt
theorem od_ge : OpR X (compareOp .GtE) (lo2 (rIntD (fun _ _ => True) fun i j => .bl (decide (j ≤ i)))) := ob0 op_ge
def rNegD : D → DHp → DK → Prop := fun x H Q => match x with
  | .int i => Q (.int (-i)) H
  | _ => False
theorem ud_neg : UnR X (unaryOp .USub) (lo1 rNegD) := unrW un_neg fun v H Q ⟨T, DH, x, R, A, r, h, w⟩ => by
  cases x with
  | int i => exact ⟨i, r, w.int A h⟩
  | _ => exact h.elim

/-! ### ==, !=, in, is None -/
/-- two values that == may tell -/
def eqOk (x y : D) : Prop := x.plain = true ∧ y.plain = true ∧ (x.dep ≤ 60 ∨ y.dep ≤ 60)
def rEqD (neg : Bool) : DR2 := fun x y H Q => eqOk (peek H x) (peek H y) ∧ Q (.bl (if neg then !(D.eq (peek H x) (peek H y)) else D.eq (peek H x) (peek H y))) H
theorem eqOk.room {x y : D} (h : eqOk x y) {A : Around} (hu : A.units + 64 < cLine) : x.py.canLay0 = true ∧ y.py.canLay0 = true ∧ A.units + min x.py.depth y.py.depth < cLine := by
  obtain ⟨h1, h2, h3⟩ := h
  obtain ⟨a1, a2⟩ := plain_lay x h1
  obtain ⟨b1, b2⟩ := plain_lay y h2
  refine ⟨a1, b1, ?_⟩
  rw [a2, b2]
  omega
theorem od_eq (hu : X.A.units + 64 < cLine) : OpR X (compareOp .Eq) (lo2 (rEqD false)) := by
  intro pins s σ H v u vv uu Q I rv ru ⟨T, DH, x, y, R, A, r1, r2, h, w⟩
  obtain ⟨ok, h⟩ := h
  obtain ⟨as, q1⟩ := Dp.reads I _ v vv (peek_dp A r1 ok.1) rv
  obtain ⟨bs, q2⟩ := Dp.reads I _ u uu (peek_dp A r2 ok.2.1) ru
  obtain ⟨z1, z2, z3⟩ := ok.room hu
  refine SeqAt.compareEq_reads q1 q2 z1 z2 z3 ?_
  rw [eq_py _ _ ok.1 ok.2.1]
  exact ⟨.bl _, H, I, rfl, w.bl A h⟩
theorem od_ne (hu : X.A.units + 64 < cLine) : OpR X (compareOp .NotEq) (lo2 (rEqD true)) := by
  intro pins s σ H v u vv uu Q I rv ru ⟨T, DH, x, y, R, A, r1, r2, h, w⟩
  obtain ⟨ok, h⟩ := h
  obtain ⟨as, q1⟩ := Dp.reads I _ v vv (peek_dp A r1 ok.1) rv
  obtain ⟨bs, q2⟩ := Dp.reads I _ u uu (peek_dp A r2 ok.2.1) ru
  obtain ⟨z1, z2, z3⟩ := ok.room hu
  refine SeqAt.compareNe_reads q1 q2 z1 z2 z3 ?_
  rw [eq_py _ _ ok.1 ok.2.1]
  exact ⟨.bl _, H, I, rfl, w.bl A h⟩
def memD (x : D) (ys : List D) : Bool := ys.any fun y => D.eq y x
theorem any_py : ∀ (ys : List D) (x : D), plainL ys = true → x.plain = true → (pyL ys).any (fun y => PyData.eqv y x.py) = memD x ys
  | [], _, _, _ => by simp [pyL, memD]
  | y :: ys, x, g, h => by
    simp only [plainL, Bool.and_eq_true] at g
    have ih := any_py ys x g.2 h
    unfold memD at ih ⊢
    simp only [pyL, List.any_cons, eq_py y x g.1 h, ih]
def inOk (x : D) (ys : List D) : Prop := x.plain = true ∧ plainL ys = true ∧ (x.dep ≤ 60 ∨ depL ys ≤ 60)
def rInD (neg : Bool) : DR2 := fun x y H Q => match seqOf H y with
  | some ys => inOk (peek H x) ys ∧ Q (.bl (if neg then !memD (peek H x) ys else memD (peek H x) ys)) H
  | none => False
theorem in_two {K : PySem.W.Frag} (A : Abs T DH H) {d : D} {v : V} {xs : List D} (r : RepV T d v) (h : seqOf DH d = some xs) (g : plainL xs = true) : Dp K H v (.list (pyL xs)) ∨ Dp K H v (.tuple (pyL xs)) := by
  obtain ⟨p, vs, rfl, e, q⟩ := seqOf_rep (K := K) A r h
  rcases e with e | e
  · exact .inl (.lst e (rep_dpL A.sub xs vs g q))
  · exact .inr (.tup e (rep_dpL A.sub xs vs g q))
theorem od_in (hu : X.A.units + 65 < cLine) : OpR X (compareOp .In) (lo2 (rInD false)) := by
  intro pins s σ H v u vv uu Q I rv ru ⟨T, DH, x, y, R, A, r1, r2, h, w⟩
  unfold rInD at h
  split at h
  · rename_i ys e
    obtain ⟨⟨o1, o2, o3⟩, h⟩ := h
    obtain ⟨as, q1⟩ := Dp.reads I _ v vv (peek_dp A r1 o1) rv
    obtain ⟨c1, c2⟩ := plain_lay _ o1
    obtain ⟨c3, c4⟩ := plainL_lay _ o2
    have hr : X.A.units + 1 + min (PyData.depthAll (pyL ys)) (peek DH x).py.depth < cLine := by rw [c2, c4]; omega
    have fin : EP X pins σ Q (.bool ((pyL ys).any fun z => PyData.eqv z (peek DH x).py)) s := by
      rw [any_py ys _ o2 o1]
      exact ⟨.bl _, H, I, rfl, w.bl A h⟩
    rcases in_two (K := X.K) A r2 e o2 with z | z
    · obtain ⟨bs, q2⟩ := Dp.reads I _ u uu z ru
      exact SeqAt.in_list_reads q2 q1 c3 c1 hr fin
    · obtain ⟨bs, q2⟩ := Dp.reads I _ u uu z ru
      exact SeqAt.in_tuple_reads q2 q1 c3 c1 hr fin
  · exact h.elim
theorem od_notin (hu : X.A.units + 65 < cLine) : OpR X (compareOp .NotIn) (lo2 (rInD true)) := by
  intro pins s σ H v u vv uu Q I rv ru ⟨T, DH, x, y, R, A, r1, r2, h, w⟩
  unfold rInD at h
  split at h
  · rename_i ys e
    obtain ⟨⟨o1, o2, o3⟩, h⟩ := h
    obtain ⟨as, q1⟩ := Dp.reads I _ v vv (peek_dp A r1 o1) rv
    obtain ⟨c1, c2⟩ := plain_lay _ o1
    obtain ⟨c3, c4⟩ := plainL_lay _ o2
    have hr : X.A.units + 1 + min (PyData.depthAll (pyL ys)) (peek DH x).py.depth < cLine := by rw [c2, c4]; omega
    have fin : EP X pins σ Q (.bool (!(pyL ys).any fun z => PyData.eqv z (peek DH x).py)) s := by
      rw [any_py ys _ o2 o1]
      exact ⟨.bl _, H, I, rfl, w.bl A h⟩
    rcases in_two (K := X.K) A r2 e o2 with z | z
    · obtain ⟨bs, q2⟩ := Dp.reads I _ u uu z ru
      exact SeqAt.notIn_list_reads q2 q1 c3 c1 hr fin
    · obtain ⟨bs, q2⟩ := Dp.reads I _ u uu z ru
      exact SeqAt.notIn_tuple_reads q2 q1 c3 c1 hr fin
  · exact h.elim
/-- is None -/
def isNon : D → Bool
  | .non => true
  | _ => false
theorem isNon_rep {d : D} {v : V} (r : RepV T d v) : decide (v = .non) = isNon d := by
  cases d with
  | non => cases (show v = .non from r); rfl
  | bl b => cases (show v = .bl b from r); rfl
  | int b => cases (show v = .int b from r); rfl
  | str b => cases (show v = .str b from r); rfl
  | ref b => cases (show v = .ref b from r); rfl
  | ty b => cases (show v = .ty b from r); rfl
  | tup xs => obtain ⟨p, vs, rfl, _⟩ := r; rfl
  | lst xs => obtain ⟨p, vs, rfl, _⟩ := r; rfl
  | dct ks xs => obtain ⟨p, vs, rfl, _⟩ := r; rfl
def rIsN (neg : Bool) : DR2 := fun x y H Q => match y with
  | .non => Q (.bl (if neg then !isNon x else isNon x)) H
  | _ => False
theorem od_is : OpR X (compareOp .Is) (lo2 (rIsN false)) := oprW op_isN fun v u H Q ⟨T, DH, x, y, R, A, r1, r2, h, w⟩ => by
  cases y with
  | non => exact ⟨r2, by rw [isNon_rep r1]; exact w.bl A h⟩
  | _ => exact h.elim
theorem od_isnot : OpR X (compareOp .IsNot) (lo2 (rIsN true)) := oprW op_notN fun v u H Q ⟨T, DH, x, y, R, A, r1, r2, h, w⟩ => by
  cases y with
  | non => exact ⟨r2, by rw [isNon_rep r1]; exact w.bl A h⟩
  | _ => exact h.elim

/-! ### + of sequences -/
/-- () + t gives t -/
theorem cat_nilT {t b : Addr} {ws : List Value} {prog : Program} {w : World} {A : Around} {E : Value → Shared → Prop} {s : Shared} {Q : Value → Shared → Prop} (ht : IsTup s.heap t #[]) (hb : IsTup s.heap b ws.toArray) (h : Q (.ref b) s) :
    wpAny (model prog w) A (binaryOp .Add (.ref t) (.ref b)) Q E s := by
  obtain ⟨⟨cls, dd, data, sl⟩, ho, hc, n, hd⟩ := id ht
  obtain ⟨⟨cls2, dd2, data2, sl2⟩, ho2, hc2, n2, hd2⟩ := id hb
  simp only at hc hd hc2 hd2
  subst hc hd hc2 hd2
  exact concat_meets ⟨_, ho, rfl⟩ ⟨_, ho2, rfl⟩ noFill_tuple_add seq_tuple_add PySem.F.slot_tuple_add PySem.F.entry_tuple_add (PySem.F.args_tuple_add_2 _ _) (.of_wp fun prog w A R s h => by
      obtain ⟨hp, g, d, tk, os⟩ := s
      obtain ⟨h1, h2, h⟩ := h
      have f2 := AutoSeq1.sub_tuple_tuple
      wp_walk using AutoSeq1.wpAny_loadPart' h1, AutoSeq1.wpAny_loadPart' h2
      exact ⟨_, rfl, h⟩ : Meets (Builtin.«tuple.__add__» ⟨[.ref t, .ref b], []⟩) (fun _ R s => s.heap.get? t = some { cls := .type "tuple", dict := dd, data := .seq #[] n, slots := sl } ∧ s.heap.get? b = some { cls := .type "tuple", dict := dd2, data := .seq ws.toArray n2, slots := sl2 } ∧ R (.ok (.ret (Value.ref b))) s)) ⟨ho, ho2, h⟩
end
end DL

/-! DL4: + and * of sequences, subscripts, slices, calls of built-ins, over data. -/
namespace DL
open PySem PySem.Spec PyProof.Rows L2
section
variable {X : Cx} {T : Hp} {DH : DHp} {H : Hp}

/-! ### + -/
theorem op_catN : OpR X (binaryOp .Add) (fun x y H Q => ∃ a b ys, x = .ref a ∧ y = .ref b ∧ SqT X.K H a [] ∧ SqT X.K H b ys ∧ Q (.ref b) H) := by
  intro pins s σ H x y v u Q I rx ry h
  obtain ⟨a, b, ys, rfl, rfl, ha, hb, q⟩ := h
  cases rx
  cases ry
  obtain ⟨its, r1, p1, _⟩ := I.tuple ha
  obtain ⟨its2, r2, p2, _⟩ := I.tuple hb
  cases r1
  exact cat_nilT p1 p2 ⟨.ref b, H, I, rfl, q⟩
def rAddD : DR2 := fun x y H Q => match peek H x, peek H y with
  | .int i, .int j => Q (.int (i + j)) H
  | .tup xs, .tup ys => xs.length + ys.length ≤ sizeLine ∧ Q (.tup (xs ++ ys)) H
  | .lst xs, .lst ys => xs.length + ys.length ≤ sizeLine ∧ Q (.lst (xs ++ ys)) H
  | .str x, .str y => x.length + y.length ≤ sizeLine ∧ Q (.str (x ++ y)) H
  | _, _ => False
theorem peek_cases (DH : DHp) (d : D) : peek DH d = d ∨ ∃ p xs, d = .ref p ∧ DH p = some (.lst xs) ∧ peek DH d = .lst xs := by
  cases d with
  | ref p =>
    unfold peek
    cases e : DH p with
    | none => exact .inl (by simp [e])
    | some o =>
      cases o with
      | lst ys => exact .inr ⟨p, ys, rfl, e, by simp [e]⟩
      | _ => exact .inl (by simp [e])
  | _ => exact .inl rfl
theorem peek_rep (A : Abs T DH H) {d : D} {v : V} (r : RepV T d v) : (∃ xs vs p, peek DH d = .lst xs ∧ v = .ref p ∧ H p = some (.lst vs) ∧ RepL T xs vs) ∨ (peek DH d = d ∧ ∀ xs, d ≠ .lst xs) := by
  rcases peek_cases DH d with e | ⟨p, xs, rfl, e1, e2⟩
  · by_cases q : ∃ xs, d = .lst xs
    · obtain ⟨xs, rfl⟩ := q
      obtain ⟨p, vs, rfl, t, q⟩ := r
      exact .inl ⟨xs, vs, p, e, rfl, A.sub _ _ t, q⟩
    · exact .inr ⟨e, fun xs z => q ⟨xs, z⟩⟩
  · obtain ⟨vs, q1, q2⟩ := A.lst e1
    exact .inl ⟨xs, vs, p, e2, r, q1, q2⟩
theorem od_add : OpR X (binaryOp .Add) (lo2 rAddD) := by
  refine oprW (OpR.or (op_add (X := X)) (OpR.or (op_catT (X := X)) (OpR.or (op_catN (X := X)) (OpR.or (op_cat (X := X)) (op_add_str (X := X)))))) fun v u H Q ⟨T, DH, x, y, R, A, r1, r2, h, w⟩ => ?_
  unfold rAddD at h
  rcases peek_rep A r1 with ⟨xs, vs, p, e1, rfl, g1, q1⟩ | ⟨e1, n1⟩
  · rcases peek_rep A r2 with ⟨ys, ws, b, e2, rfl, g2, q2⟩ | ⟨e2, n2⟩
    · rw [e1, e2] at h
      refine .inr (.inr (.inr (.inl ⟨p, b, vs, ws, rfl, rfl, g1, g2, by rw [q1.length, q2.length]; exact h.1, fun z hz => fin_lst A (q1.append q2) w h.2 hz⟩)))
    · rw [e1, e2] at h
      cases y <;> first | exact (show False from h).elim | exact absurd rfl (n2 _)
  · rw [e1] at h
    rcases peek_rep A r2 with ⟨ys, ws, b, e2, rfl, g2, q2⟩ | ⟨e2, n2⟩
    · rw [e2] at h
      cases x <;> first | exact (show False from h).elim | exact absurd rfl (n1 _)
    · rw [e2] at h
      cases x with
      | int i =>
        cases y with
        | int j => exact .inl ⟨i, j, r1, r2, w.int A h⟩
        | _ => exact (show False from h).elim
      | str i =>
        cases y with
        | str j => exact .inr (.inr (.inr (.inr ⟨i, j, r1, r2, h.1, w.str A h.2⟩)))
        | _ => exact (show False from h).elim
      | tup xs =>
        cases y with
        | tup ys =>
          obtain ⟨p, vs, rfl, t1, q1⟩ := r1
          obtain ⟨b, ws, rfl, t2, q2⟩ := r2
          have g1 : SqT X.K H p vs := SqT.of (A.sub _ _ t1)
          have g2 : SqT X.K H b ws := SqT.of (A.sub _ _ t2)
          have l1 := q1.length
          have l2 := q2.length
          by_cases hx : vs = []
          · subst hx
            have ex : xs = [] := List.eq_nil_of_length_eq_zero l1.symm
            subst ex
            exact .inr (.inr (.inl ⟨p, b, ws, rfl, rfl, g1, g2, w.at A (d := .tup ys) ⟨b, ws, rfl, t2, q2⟩ h.2⟩))
          · refine .inr (.inl ⟨p, b, vs, ws, rfl, rfl, g1, g2, hx, by rw [l1, l2]; exact h.1, fun z => ?_, fun _ z hz => fin_tup A (q1.append q2) w h.2 hz⟩)
            subst z
            have ey : ys = [] := List.eq_nil_of_length_eq_zero l2.symm
            subst ey
            exact w.at A (d := .tup xs) ⟨p, vs, rfl, t1, q1⟩ (by have := h.2; rwa [List.append_nil] at this)
        | _ => exact (show False from h).elim
      | lst xs => exact absurd rfl (n1 _)
      | _ => exact (show False from h).elim

/-! ### * -/
theorem RepL.rep {xs : List D} {vs : List V} (h : RepL T xs vs) : ∀ n : Nat, RepL T (List.replicate n xs).flatten (List.replicate n vs).flatten
  | 0 => .nil
  | n + 1 => by
    rw [List.replicate_succ, List.replicate_succ, List.flatten_cons, List.flatten_cons]
    exact h.append (RepL.rep h n)
def rMulD : DR2 := fun x y H Q => match peek H x, y with
  | .int i, .int j => CMulD i j ∧ Q (.int (i * j)) H
  | .lst xs, .int k => (-(2 ^ 63) ≤ k ∧ k < 2 ^ 63 ∧ xs.length * k.toNat ≤ sizeLine) ∧ Q (.lst (List.replicate k.toNat xs).flatten) H
  | _, _ => False
theorem od_mul : OpR X (binaryOp .Mult) (lo2 rMulD) := by
  refine oprW (OpR.or (od_mulI (X := X)) (op_rep (X := X))) fun v u H Q ⟨T, DH, x, y, R, A, r1, r2, h, w⟩ => ?_
  unfold rMulD at h
  rcases peek_rep A r1 with ⟨xs, vs, p, e1, rfl, g1, q1⟩ | ⟨e1, n1⟩
  · rw [e1] at h
    cases y with
    | int k =>
      obtain ⟨⟨h1, h2, h3⟩, h⟩ := h
      exact .inr ⟨p, k, vs, rfl, r2, g1, h1, h2, by rw [q1.length]; exact h3, fun z hz => fin_lst A (q1.rep _) w h hz⟩
    | _ => exact (show False from h).elim
  · rw [e1] at h
    cases x with
    | int i =>
      cases y with
      | int j => exact .inl ⟨T, DH, .int i, .int j, R, A, r1, r2, h, w⟩
      | _ => exact (show False from h).elim
    | lst xs => exact absurd rfl (n1 _)
    | _ => exact (show False from h).elim

/-! ### a[i] -/
theorem RepL.atI {xs : List D} {vs : List V} (h : RepL T xs vs) {i : Int} {d : D} (e : atI xs i = some d) : ∃ v, L2.atI vs i = some v ∧ RepV T d v := by
  unfold L2.atI at e ⊢
  rw [h.length]
  cases q : ixN xs.length i with
  | none => rw [q] at e; simp at e
  | some j =>
    rw [q] at e
    simp only [Option.bind_some] at e ⊢
    exact h.get e
def rIxD : DR2 := fun x y H Q => match seqOf H x, y with
  | some xs, .int i => (match atI xs i with | some d => Q d H | none => False)
  | _, _ => False
theorem ixrW {r r' : R2} (h : IxR X r) (w : ∀ x y H Q, r' x y H Q → r x y H Q) : IxR X r' := fun value slice pins s σ H x y v u Q I rx ry q hs => h value slice pins s σ H x y v u Q I rx ry (w x y H Q q) hs
theorem xd_seq : IxR X (lo2 rIxD) := ixrW (IxR.or (ix_list (X := X)) (ix_tup (X := X))) fun v u H Q ⟨T, DH, x, y, R, A, r1, r2, h, w⟩ => by
  unfold rIxD at h
  split at h
  · rename_i xs i e
    split at h
    · rename_i d ed
      obtain ⟨p, vs, rfl, g, q⟩ := seqOf_rep (K := X.K) A r1 e
      obtain ⟨z, ez, rz⟩ := q.atI ed
      rcases g with g | g
      · exact .inl ⟨p, vs, i, z, rfl, r2, g, ez, w.at A rz h⟩
      · exact .inr ⟨p, vs, i, z, rfl, r2, g, ez, w.at A rz h⟩
    · exact h.elim
  · exact h.elim
variable {a b c e : Expr} {es : List Expr} {ta tb tc te : DE} {pos : Pos}
theorem qe_ix (ha : QE X a ta) (hb : QE X b tb) (hs : PlainIx b := by exact fun _ _ => rfl) : QE X (.Subscript a b pos) (dOp rIxD ta tb) := ⟨peW (pe_ix xd_seq ha.run hb.run hs) lo_op⟩

/-! ### a[i:j] -/
abbrev DO' := DSt → DHp → (Option Int → DHp → Prop) → Prop
def UpO (T : Hp) (R : Option Int → DHp → Prop) (Q : Option Int → Hp → Prop) : Prop := ∀ T' DH H d, Same T T' → Abs T' DH H → R d DH → Q d H
def loO (t : DO') : TO := fun σ H Q => ∃ T DH τ R, Abs T DH H ∧ RepS T τ σ ∧ t τ DH R ∧ UpO T R Q
structure QO (X : Cx) (e : Option Expr) (t : DO') : Prop where
  run : PO X e (loO t)
theorem poW {e : Option Expr} {t t' : TO} (h : PO X e t) (w : ∀ σ H Q, t' σ H Q → t σ H Q) : PO X e t' := ⟨fun pins s σ H Q I q => h.run pins s σ H Q I (w σ H Q q)⟩
def dNoPart : DO' := fun _ H Q => Q none H
def dPart (t : DE) : DO' := fun τ H Q => t τ H fun x H1 => match x with
  | .int i => Q (some i) H1
  | _ => False
theorem qo_none : QO X none dNoPart := ⟨poW po_none fun _ H _ ⟨T, DH, _, _, A, _, h, u⟩ => u T DH H none (Same.refl _) A h⟩
theorem qo_some (h : QE X e te) : QO X (some e) (dPart te) := ⟨poW (po_some h.run) fun σ H Q ⟨T, DH, τ, R, A, S, h, u⟩ => ⟨T, DH, τ, _, A, S, h, fun T1 DH1 H1 x v s1 A1 r1 h1 => by
  cases x with
  | int i => exact ⟨i, r1, u T1 DH1 H1 _ s1 A1 h1⟩
  | _ => exact (show False from h1).elim⟩⟩
def cutD (xs : List D) (lo hi : Option Int) : List D := (xs.drop (HT.sIx xs.length 0 lo)).take (HT.sIx xs.length xs.length hi - HT.sIx xs.length 0 lo)
theorem RepL.cut {xs : List D} {vs : List V} (h : RepL T xs vs) (lo hi : Option Int) : RepL T (cutD xs lo hi) (cutV vs lo hi) := by
  unfold cutD cutV
  rw [h.length]
  exact (h.drop _).take _
def loSl (r : D → Option Int → Option Int → DHp → DK → Prop) : V → Option Int → Option Int → Hp → VK → Prop := fun v l u H Q => ∃ T DH x R, Abs T DH H ∧ RepV T x v ∧ r x l u DH R ∧ Up T R Q
def dSl (r : D → Option Int → Option Int → DHp → DK → Prop) (te : DE) (tl th : DO') : DE := fun τ H Q => te τ H fun x H1 => tl τ H1 fun l H2 => th τ H2 fun u H3 => r x l u H3 Q
theorem qe_slice {r : D → Option Int → Option Int → DHp → DK → Prop} {l u : Option Expr} {tl th : DO'} {p2 : Pos} (hr : SlR X (loSl r)) (he : QE X e te) (hl : QO X l tl) (hu : QO X u th) : QE X (.Subscript e (.Slice l u none p2) pos) (dSl r te tl th) :=
  ⟨peW (pe_slice hr he.run hl.run hu.run) fun σ H Q ⟨T, DH, τ, R, A, S, h, w⟩ => ⟨T, DH, τ, _, A, S, h, fun T1 DH1 H1 x v s1 A1 r1 h1 =>
    ⟨T1, DH1, τ, _, A1, S.up s1, h1, fun T2 DH2 H2 l s2 A2 h2 => ⟨T2, DH2, τ, _, A2, S.up (s1.trans s2), h2, fun T3 DH3 H3 u s3 A3 h3 => ⟨T3, DH3, x, R, A3, (r1.up s2).up s3, h3, w.up ((s1.trans s2).trans s3)⟩⟩⟩⟩⟩
theorem slrW {r r' : V → Option Int → Option Int → Hp → VK → Prop} (h : SlR X r) (w : ∀ x l u H Q, r' x l u H Q → r x l u H Q) : SlR X r' := fun pins s σ H x v vl vu lo hi sl Q I rx hs pl pu q => h pins s σ H x v vl vu lo hi sl Q I rx hs pl pu (w x lo hi H Q q)
/-- the whole of a tuple is itself -/
theorem getItem_tuple_whole {prog : Program} {w : World} {A : Around} {E : Value → Shared → Prop} {s : Shared} {t sl : Addr} {items : Array Value} {vl vu : Value} {lo hi : Option Int} {Q : Value → Shared → Prop} (ht : IsTup s.heap t items) (hs : s.heap.IsSliceOf sl vl vu .none) (pl : IsPart vl lo) (pu : IsPart vu hi)
    (hw : HT.sIx items.size 0 lo = 0 ∧ HT.sIx items.size items.size hi = items.size) (h : Q (.ref t) s) (hsz : items.size ≤ sizeLine) : wpAny (model prog w) A (getItem (.ref t) (.ref sl)) Q E s := by
  obtain ⟨os, hos, hcs, hds⟩ := id hs
  have hTs : s.TypeIs (.ref sl) "slice" := ⟨os, hos, hcs⟩
  obtain ⟨ot, hot, hct, _⟩ := id ht
  unfold getItem
  try with_reducible refine wpAny_holding ?_
  first | refine wpAny_bind (wpAny_pure ?_) | skip
  refine wpAny_bind (wpAny_sequenceKey ht.typeIs (by decide) ?_)
  refine wpAny_bind (wpAny_callSpecial?_slot (name := Str.ofString "__getitem__") ht.typeIs PyProof.Rows.slot_tuple_getitem
    (wpAny_call_entry PyProof.Rows.slot_tuple_getitem ht.typeIs entry_tuple_getitem ?_ (args_tuple_getitem _ _)))
  show wpAny _ _ (Builtin.Tuple.tupleItemsOf (.ref t) >>= _) _ _ s
  refine wpAny_bind (tupleItemsOf_ ht ?_)
  refine wpAny_bind (wpAny_typeOf hTs ?_)
  rw [if_pos (by decide)]
  refine wpAny_bind (HT.sliceApplied_gen hs pl pu ?_)
  have hyes : ((((HT.sIx items.size 0 lo : Nat) : Int) == 0 && (1 : Int) == 1 && (HT.sIx items.size items.size hi - HT.sIx items.size 0 lo) == items.size) = true) := by
    rw [hw.1, hw.2]
    simp
  show wpAny _ _ (if (((HT.sIx items.size 0 lo : Nat) : Int) == 0 && (1 : Int) == 1 && (HT.sIx items.size items.size hi - HT.sIx items.size 0 lo) == items.size) = true then _ else _) _ _ s
  rw [if_pos hyes]
  refine wpAny_bind (m := Builtin.Tuple.tupleIsExact (.ref t)) ?_
  unfold Builtin.Tuple.tupleIsExact
  refine wpAny_bind (wpAny_typeOf ht.typeIs (wpAny_pure ?_))
  rw [if_pos (by decide)]
  refine wpAny_bind (wpAny_rule ?_)
  exact wpAny_bind (m := ret (.ref t)) (wpAny_pure (wpAny_pure ⟨_, rfl, wpAny_pure h⟩))
/-- t[::-1] -/
theorem rev_pick (items : Array Value) : ((List.range items.size).filterMap fun (k : Nat) => items[(((items.size : Int) - 1) + (k : Int) * (-1)).toNat]?).toArray = items.toList.reverse.toArray := by
  have e : (List.range items.size).filterMap (fun (k : Nat) => items[(((items.size : Int) - 1) + (k : Int) * (-1)).toNat]?) = ((List.range items.size).map fun k => items.size - 1 - k).filterMap (items[·]?) := by
    rw [List.filterMap_map]
    have gen : ∀ (l : List Nat), (∀ k ∈ l, k < items.size) → l.filterMap (fun (k : Nat) => items[(((items.size : Int) - 1) + (k : Int) * (-1)).toNat]?) = l.filterMap ((items[·]?) ∘ fun k => items.size - 1 - k) := by
      intro l
      induction l with
      | nil => intro _; rfl
      | cons k l ih =>
        intro hl
        have h1 : (((items.size : Int) - 1) + (k : Int) * (-1)).toNat = items.size - 1 - k := by
          have := hl k List.mem_cons_self
          omega
        simp only [List.filterMap_cons, Function.comp, h1]
        rw [ih fun z hz => hl z (List.mem_cons_of_mem _ hz)]
    exact gen _ fun k hk => List.mem_range.mp hk
  rw [e, PySem.W.krv_range, List.filterMap_reverse, PySem.W.krv_all]
theorem getItem_tuple_rev {prog : Program} {w : World} {A : Around} {E : Value → Shared → Prop} {s : Shared} {t sl : Addr} {items : Array Value} {vl vu vs : Value} {Q : Value → Shared → Prop} (ht : IsTup s.heap t items) (hs : s.heap.IsSliceOf sl vl vu vs) (pl : IsPart vl none) (pu : IsPart vu none) (ps : IsPart vs (some (-1)))
    (h : Q (.ref s.heap.objs.size) { s with heap := s.heap.push { cls := .type "tuple", data := .seq items.toList.reverse.toArray } }) (hsz : items.size ≤ sizeLine) : wpAny (model prog w) A (getItem (.ref t) (.ref sl)) Q E s := by
  obtain ⟨os, hos, hcs, hds⟩ := id hs
  have hTs : s.TypeIs (.ref sl) "slice" := ⟨os, hos, hcs⟩
  have htake : sizeOk (.seq items.toList.reverse.toArray) := by
    show items.toList.reverse.toArray.size ≤ sizeLine
    simpa using hsz
  unfold getItem
  try with_reducible refine wpAny_holding ?_
  first | refine wpAny_bind (wpAny_pure ?_) | skip
  refine wpAny_bind (wpAny_sequenceKey ht.typeIs (by decide) ?_)
  refine wpAny_bind (wpAny_callSpecial?_slot (name := Str.ofString "__getitem__") ht.typeIs PyProof.Rows.slot_tuple_getitem
    (wpAny_call_entry PyProof.Rows.slot_tuple_getitem ht.typeIs entry_tuple_getitem ?_ (args_tuple_getitem _ _)))
  show wpAny _ _ (Builtin.Tuple.tupleItemsOf (.ref t) >>= _) _ _ s
  refine wpAny_bind (tupleItemsOf_ ht ?_)
  refine wpAny_bind (wpAny_typeOf hTs ?_)
  rw [if_pos (by decide)]
  refine wpAny_bind ?_
  · unfold Builtin.Slice.sliceApplied Builtin.Slice.sliceFields
    refine wpAny_bind (wpAny_bind (wpAny_field hos hds (x := vl) rfl (wpAny_bind (wpAny_field hos hds (x := vu) rfl (wpAny_bind (wpAny_field hos hds (x := vs) rfl (wpAny_pure ?_)))))))
    refine wpAny_bind (HT.slicePart_ ps ?_)
    show wpAny _ _ (if ((-1 : Int) == 0) = true then _ else _) _ _ s
    rw [if_neg (by decide)]
    refine wpAny_bind (HT.slicePart_ pl (wpAny_bind (HT.slicePart_ pu (wpAny_bind (wpAny_pure ?_)))))
    show wpAny _ _ (match Builtin.Slice.sliceAdjust none none (-1) ((items.size : Nat) : Int) with | (lo, hi) => pure (lo, (-1 : Int), Builtin.Slice.slicePlaces lo hi (-1))) _ _ s
    have e1 : Builtin.Slice.sliceAdjust none none (-1) ((items.size : Nat) : Int) = ((items.size : Int) - 1, -1) := by
      unfold Builtin.Slice.sliceAdjust
      simp
    rw [e1]
    have e2 : Builtin.Slice.slicePlaces ((items.size : Int) - 1) (-1) (-1) = items.size := by
      unfold Builtin.Slice.slicePlaces
      rw [if_neg (by decide)]
      by_cases hz : ((items.size : Int) - 1) > -1
      · rw [if_pos hz]
        rw [show (- -1 : Int) = 1 by decide, Int.ediv_one]
        omega
      · rw [if_neg hz]
        omega
    show wpAny _ _ (pure (((items.size : Int) - 1), (-1 : Int), Builtin.Slice.slicePlaces ((items.size : Int) - 1) (-1) (-1))) _ _ s
    rw [e2]
    refine wpAny_pure ?_
    show wpAny _ _ (if ((((items.size : Int) - 1) == 0 && (-1 : Int) == 1 && items.size == items.size) = true) then _ else _) _ _ s
    rw [if_neg (by simp)]
    rw [rev_pick]
    first
    | exact wpAny_bind (m := Builtin.Tuple.tupleExact _) (wpAny_newObj_type (wpAny_pure ⟨_, rfl, wpAny_pure h⟩) htake)
    | exact wpAny_bind (m := Builtin.Tuple.tupleExact _) (wpAny_newObj_type (wpAny_bind (wpAny_pure (wpAny_pure ⟨_, rfl, wpAny_pure h⟩))) htake)
    | exact wpAny_bind (wpAny_bind (m := Builtin.Tuple.tupleExact _) (wpAny_newObj_type (wpAny_pure (wpAny_pure ⟨_, rfl, wpAny_pure h⟩)) htake))
    | exact wpAny_bind (wpAny_bind (m := Builtin.Tuple.tupleExact _) (wpAny_newObj_type (wpAny_pure ⟨_, rfl, wpAny_pure h⟩) htake))
def tRevT (K : PySem.W.Frag) (te : TE) : TE := fun σ H Q => te σ H fun x H1 => ∃ a xs, x = .ref a ∧ ((SqL K H1 a xs ∧ ∀ p, H1 p = none → Q (.ref p) (upd H1 p (.lst xs.reverse))) ∨ (SqT K H1 a xs ∧ ∀ p, H1 p = none → Q (.ref p) (upd H1 p (.tup xs.reverse))))
theorem pe_rev {k : Nat} {p1 p2 p3 : Pos} {tv : TE} (he : PE X e tv) : PE X (.Subscript e (.Slice none none (some (.UnaryOp .USub (.Constant (.int 1) k p1) p2)) p3) pos) (tRevT X.K tv) := by
  refine ⟨fun pins s σ H Q I h => ?_⟩
  refine Subscript_ (thn (he.run pins s σ H _ I h) fun v s1 ⟨x, H1, I1, r1, q1⟩ => ?_)
  obtain ⟨a, xs, ex, q⟩ := q1
  subst ex
  cases r1
  have hst : PO X (some (.UnaryOp .USub (.Constant (.int 1) k p1) p2)) (tPart (tUn (rU fun i => .int (-i)) (tC (.int 1)))) := po_some (pe_un un_neg pe_int)
  refine wpAny_Slice (thn (po_none.run pins s1 σ H1 (fun o H2 => o = none ∧ H2 = H1) I1 ⟨rfl, rfl⟩) fun vl s2 ⟨l, H2, I2, pl, el, e2⟩ => ?_)
  subst el e2
  refine thn (po_none.run pins s2 σ H2 (fun o H3 => o = none ∧ H3 = H2) I2 ⟨rfl, rfl⟩) fun vu s3 ⟨u, H3, I3, pu, eu, e3⟩ => ?_
  subst eu e3
  refine thn (hst.run pins s3 σ H3 (fun o H4 => o = some (-1) ∧ H4 = H3) I3 ⟨1, rfl, -1, rfl, rfl, rfl⟩) fun vs s4 ⟨o, H4, I4, ps, eo, e4⟩ => ?_
  subst eo e4
  have I5 : Inv X pins σ H4 { s4 with heap := s4.heap.push { cls := .type "slice", data := .fields #[vl, vu, vs] } } := I4.kept (t' := s4.toks) fun b ob q => Heap.get?_push_of_some _ q
  show wpAny (model X.prog X.w) X.A (subscriptTail e (.Slice none none (some (.UnaryOp .USub (.Constant (.int 1) k p1) p2)) p3) (.ref a) (.ref s4.heap.objs.size)) (EP X pins σ Q) X.xe { s4 with heap := s4.heap.push { cls := .type "slice", data := .fields #[vl, vu, vs] } }
  rcases q with ⟨hx, q⟩ | ⟨hx, q⟩
  · obtain ⟨its, r, ht, hz⟩ := I5.list hx
    have hlen := r.length
    refine tail_any (ops := [.ref a, .ref s4.heap.objs.size]) ht.isList.typeIs (PySem.slot_list_getitem.lookup) ?_ (by with_unfolding_all rfl)
    refine wpAny_getItem_list_slice ht.isList (Heap.IsSliceOf.new _ vl vu vs) pl pu ps (by decide) ?_ (by rw [List.size_toArray]; omega)
    rw [PySem.W.krv_pick]
    refine ⟨.ref _, _, I5.laid (t' := s4.toks) (o := .lst xs.reverse) (fun b ob q => Heap.get?_push_of_some _ q) (Nat.le_refl _) ?_, rfl, q _ (I5.hok.fresh (Nat.le_refl _))⟩
    exact ⟨by rw [List.length_reverse]; exact hz, _, 0, r.reverse, Heap.get?_push_size _ rfl⟩
  · obtain ⟨its, r, ht, hz⟩ := I5.tuple hx
    have hlen := r.length
    refine tail_any (ops := [.ref a, .ref s4.heap.objs.size]) ht.typeIs (PyProof.Rows.slot_tuple_getitem.lookup) ?_ (by with_unfolding_all rfl)
    refine getItem_tuple_rev ht (Heap.IsSliceOf.new _ vl vu vs) pl pu ps ?_ (by rw [List.size_toArray]; omega)
    refine ⟨.ref _, _, I5.laid (t' := s4.toks) (o := .tup xs.reverse) (fun b ob q => Heap.get?_push_of_some _ q) (Nat.le_refl _) ?_, rfl, q _ (I5.hok.fresh (Nat.le_refl _))⟩
    exact ⟨by rw [List.length_reverse]; exact hz, _, r.reverse, IsTup.new _ _⟩
def dRev (mu : Bool) (te : DE) : DE := fun τ H Q => te τ H fun x H1 => match peek H1 x with
  | .tup xs => Q (.tup xs.reverse) H1
  | .lst xs => if mu = true then ∀ p, H1 p = none → Q (.ref p) (dupd H1 p (.lst xs.reverse)) else Q (.lst xs.reverse) H1
  | _ => False
theorem qe_rev {mu : Bool} {k : Nat} {p1 p2 p3 : Pos} (he : QE X e te) : QE X (.Subscript e (.Slice none none (some (.UnaryOp .USub (.Constant (.int 1) k p1) p2)) p3) pos) (dRev mu te) :=
  ⟨peW (pe_rev he.run) fun σ H Q ⟨T, DH, τ, R, A, S, h, u⟩ => ⟨T, DH, τ, _, A, S, h, fun T1 DH1 H1 x v s1 A1 r1 h1 => by
    rcases peek_rep A1 r1 with ⟨xs, vs, p, e1, rfl, g1, q1⟩ | ⟨e1, n1⟩
    · rw [e1] at h1
      refine ⟨p, vs, rfl, .inl ⟨SqL.of g1, fun z hz => ?_⟩⟩
      cases mu with
      | true => exact fin_lstM A1 q1.reverse (u.up s1) h1 hz
      | false => exact fin_lst A1 q1.reverse (u.up s1) h1 hz
    · rw [e1] at h1
      cases x with
      | tup xs =>
        obtain ⟨p, vs, rfl, t, q⟩ := r1
        exact ⟨p, vs, rfl, .inr ⟨SqT.of (A1.sub _ _ t), fun z hz => fin_tup A1 q.reverse (u.up s1) h1 hz⟩⟩
      | lst xs => exact absurd rfl (n1 _)
      | _ => exact (show False from h1).elim⟩⟩
/-- a slice; a list's may be changed afterwards where mu says so -/
theorem sl_tupW : SlR X (fun x lo hi H Q => ∃ a xs, x = .ref a ∧ SqT X.K H a xs ∧ (HT.sIx xs.length 0 lo = 0 ∧ HT.sIx xs.length xs.length hi = xs.length) ∧ Q (.ref a) H) := by
  intro pins s σ H x v vl vu lo hi sl Q I rx hs pl pu h
  obtain ⟨a, xs, rfl, hx, hw, q⟩ := h
  cases rx
  obtain ⟨its, r, ht, hz⟩ := I.tuple hx
  have hlen : its.toArray.size = xs.length := by rw [List.size_toArray]; exact r.length.symm
  exact ⟨"tuple", _, PyProof.Rows.slot_tuple_getitem.lookup, ht.typeIs, getItem_tuple_whole ht hs pl pu (by rw [hlen]; exact hw) ⟨.ref a, H, I, rfl, q⟩ (by rw [hlen]; exact hz)⟩
def rSlD (mu : Bool) : D → Option Int → Option Int → DHp → DK → Prop := fun x lo hi H Q => match peek H x with
  | .tup xs => Q (.tup (cutD xs lo hi)) H
  | .lst xs => if mu = true then ∀ p, H p = none → Q (.ref p) (dupd H p (.lst (cutD xs lo hi))) else Q (.lst (cutD xs lo hi)) H
  | _ => False
theorem sd_seq {mu : Bool} : SlR X (loSl (rSlD mu)) := slrW (SlR.or (sl_list (X := X)) (SlR.or (sl_tup (X := X)) (sl_tupW (X := X)))) fun v lo hi H Q ⟨T, DH, x, R, A, r1, h, w⟩ => by
  unfold rSlD at h
  rcases peek_rep A r1 with ⟨xs, vs, p, e1, rfl, g1, q1⟩ | ⟨e1, n1⟩
  · rw [e1] at h
    refine .inl ⟨p, vs, rfl, SqL.of g1, fun z hz => ?_⟩
    cases mu with
    | true => exact fin_lstM A (q1.cut lo hi) w h hz
    | false => exact fin_lst A (q1.cut lo hi) w h hz
  · rw [e1] at h
    cases x with
    | tup xs =>
      have r1' := r1
      obtain ⟨p, vs, rfl, t, q⟩ := r1
      by_cases hw : HT.sIx vs.length 0 lo = 0 ∧ HT.sIx vs.length vs.length hi = vs.length
      · refine .inr (.inr ⟨p, vs, rfl, SqT.of (A.sub _ _ t), hw, ?_⟩)
        have e : cutD xs lo hi = xs := by
          unfold cutD
          rw [q.length] at hw
          rw [hw.1, hw.2]
          simp
        have h2 : R (.tup (cutD xs lo hi)) DH := h
        rw [e] at h2
        exact w.at A r1' h2
      · exact .inr (.inl ⟨p, vs, rfl, SqT.of (A.sub _ _ t), hw, fun z hz => fin_tup A (q.cut lo hi) w h hz⟩)
    | lst xs => exact absurd rfl (n1 _)
    | _ => exact (show False from h).elim

/-! ### calls of built-ins -/
theorem RepL.one {d : D} {vs : List V} (r : RepL T [d] vs) : ∃ v, vs = [v] ∧ RepV T d v := by
  obtain ⟨v, w, rfl, h1, h2⟩ := r
  cases (show w = [] from h2)
  exact ⟨v, rfl, h1⟩
theorem RepL.two {d e : D} {vs : List V} (r : RepL T [d, e] vs) : ∃ v w, vs = [v, w] ∧ RepV T d v ∧ RepV T e w := by
  obtain ⟨v, w, rfl, h1, h2⟩ := r
  obtain ⟨u, rfl, h3⟩ := RepL.one h2
  exact ⟨v, u, rfl, h1, h3⟩
def rLenD : DRC := fun ds H Q => match ds with
  | [d] => (match peek H d with
    | .str x => x.length ≤ sizeLine ∧ Q (.int x.length) H
    | .tup xs => Q (.int xs.length) H
    | .lst xs => Q (.int xs.length) H
    | .ref p => (match H p with | some (.dK kvs) => Q (.int kvs.length) H | _ => False)
    | _ => False)
  | _ => False
theorem cd_len : CallR X (.builtin "len") (loC rLenD) := crW (CallR.or (call_len_seq (X := X)) (CallR.or (call_len_str (X := X)) (call_lenD (X := X)))) fun vs H Q ⟨T, DH, ds, R, A, r, h, w⟩ => by
  match ds, r, h with
  | [d], r, h =>
    obtain ⟨v, rfl, rr⟩ := r.one
    unfold rLenD at h
    simp only at h
    rcases peek_rep A rr with ⟨xs, vs, p, e1, rfl, g1, q1⟩ | ⟨e1, n1⟩
    · rw [e1] at h
      exact .inl ⟨p, vs, rfl, .inl (SqL.of g1), by rw [q1.length]; exact w.int A h⟩
    · rw [e1] at h
      cases d with
      | str x => exact .inr (.inl ⟨x, by rw [show v = .str x from rr], h.1, w.int A h.2⟩)
      | tup xs =>
        obtain ⟨p, vs, rfl, t, q⟩ := rr
        exact .inl ⟨p, vs, rfl, .inr (SqT.of (A.sub _ _ t)), by rw [q.length]; exact w.int A h⟩
      | lst xs => exact absurd rfl (n1 _)
      | ref p =>
        simp only at h
        split at h
        · rename_i kvs e
          obtain ⟨ys, g, k1, k2⟩ := A.dK e
          have : ys.length = kvs.length := by have := congrArg List.length k1; simpa using this
          exact .inr (.inr ⟨p, ys, by rw [show v = .ref p from rr], g, by rw [this]; exact w.int A h⟩)
        · exact h.elim
      | _ => exact (show False from h).elim
  | [], _, h => exact (show False from h).elim
  | _ :: _ :: _, _, h => exact (show False from h).elim
/-- tuple(x), list(x) of a list or a tuple -/
def rTupD : DRC := fun ds H Q => match ds with
  | [d] => (match seqOf H d with | some xs => Q (.tup xs) H | none => False)
  | _ => False
theorem cd_tuple : CallR X (.type "tuple") (loC rTupD) := crW (call_tuple_of (X := X)) fun vs H Q ⟨T, DH, ds, R, A, r, h, w⟩ => by
  match ds, r, h with
  | [d], r, h =>
    obtain ⟨v, rfl, rr⟩ := r.one
    unfold rTupD at h
    simp only at h
    rcases peek_rep A rr with ⟨xs, vs, p, e1, rfl, g1, q1⟩ | ⟨e1, n1⟩
    · rw [show seqOf DH d = some xs by unfold seqOf; rw [e1]] at h
      exact ⟨p, vs, rfl, .inl ⟨SqL.of g1, fun z hz => fin_tup A q1 w h hz⟩⟩
    · cases d with
      | tup xs =>
        have r' := rr
        obtain ⟨p, vs, rfl, t, q⟩ := rr
        exact ⟨p, vs, rfl, .inr ⟨SqT.of (A.sub _ _ t), w.at A r' h⟩⟩
      | lst xs => exact absurd rfl (n1 _)
      | _ => rw [show seqOf DH _ = none by unfold seqOf; rw [e1]] at h; exact h.elim
  | [], _, h => exact (show False from h).elim
  | _ :: _ :: _, _, h => exact (show False from h).elim
def rLstD (mu : Bool) : DRC := fun ds H Q => match ds with
  | [d] => (match seqOf H d with | some xs => if mu = true then ∀ p, H p = none → Q (.ref p) (dupd H p (.lst xs)) else Q (.lst xs) H | none => False)
  | _ => False
theorem cd_list {mu : Bool} : CallR X (.type "list") (loC (rLstD mu)) := crW (call_list_of (X := X)) fun vs H Q ⟨T, DH, ds, R, A, r, h, w⟩ => by
  match ds, r, h with
  | [d], r, h =>
    obtain ⟨v, rfl, rr⟩ := r.one
    unfold rLstD at h
    simp only at h
    split at h
    · rename_i xs e
      obtain ⟨p, vs, rfl, g, q⟩ := seqOf_rep (K := X.K) A rr e
      refine ⟨p, vs, rfl, g, fun z hz => ?_⟩
      cases mu with
      | true => exact fin_lstM A q w h hz
      | false => exact fin_lst A q w h hz
    · exact h.elim
  | [], _, h => exact (show False from h).elim
  | _ :: _ :: _, _, h => exact (show False from h).elim
def rI1 (g : Int → D) : DRC := fun ds H Q => match ds with
  | [.int i] => Q (g i) H
  | _ => False
def rI2 (g : Int → Int → D) : DRC := fun ds H Q => match ds with
  | [.int i, .int j] => Q (g i j) H
  | _ => False
theorem i1_of {g : Int → D} {ds : List D} {vs : List V} {R : DK} (r : RepL T ds vs) (h : rI1 g ds DH R) : ∃ i, vs = [.int i] ∧ R (g i) DH := by
  unfold rI1 at h
  split at h
  · obtain ⟨v, rfl, rr⟩ := r.one
    exact ⟨_, by rw [show v = .int _ from rr], h⟩
  · exact h.elim
theorem i2_of {g : Int → Int → D} {ds : List D} {vs : List V} {R : DK} (r : RepL T ds vs) (h : rI2 g ds DH R) : ∃ i j, vs = [.int i, .int j] ∧ R (g i j) DH := by
  unfold rI2 at h
  split at h
  · obtain ⟨v, w, rfl, r1, r2⟩ := r.two
    exact ⟨_, _, by rw [show v = .int _ from r1, show w = .int _ from r2], h⟩
  · exact h.elim
theorem cd_abs : CallR X (.builtin "abs") (loC (rI1 fun i => .int (if i < 0 then -i else i))) := crW (call_abs (X := X)) fun vs H Q ⟨T, DH, ds, R, A, r, h, w⟩ => let ⟨i, e, h⟩ := i1_of r h; ⟨i, e, w.int A h⟩
theorem cd_max2 (hc : X.calm = true) : CallR X (.builtin "max") (loC (rI2 fun i j => .int (if j > i then j else i))) := crW (call_max2 hc) fun vs H Q ⟨T, DH, ds, R, A, r, h, w⟩ => let ⟨i, j, e, h⟩ := i2_of r h; ⟨i, j, e, w.int A h⟩
theorem cd_min2 (hc : X.calm = true) : CallR X (.builtin "min") (loC (rI2 fun i j => .int (if j < i then j else i))) := crW (call_min2 hc) fun vs H Q ⟨T, DH, ds, R, A, r, h, w⟩ => let ⟨i, j, e, h⟩ := i2_of r h; ⟨i, j, e, w.int A h⟩
def rIntCD : DRC := fun ds H Q => match ds with
  | [.int i] => Q (.int i) H
  | [.bl b] => Q (.int (if b then 1 else 0)) H
  | _ => False
theorem cd_int : CallR X (.type "int") (loC rIntCD) := crW (call_int1 (X := X)) fun vs H Q ⟨T, DH, ds, R, A, r, h, w⟩ => by
  unfold rIntCD at h
  split at h
  · obtain ⟨v, rfl, rr⟩ := r.one
    exact .inl ⟨_, by rw [show v = .int _ from rr], w.int A h⟩
  · obtain ⟨v, rfl, rr⟩ := r.one
    exact .inr ⟨_, by rw [show v = .bl _ from rr], w.int A h⟩
  · exact h.elim
/-- a list of numbers, of truths -/
def ints? : List D → Option (List Int)
  | [] => some []
  | .int i :: r => (ints? r).map (i :: ·)
  | _ => none
def bls? : List D → Option (List Bool)
  | [] => some []
  | .bl i :: r => (bls? r).map (i :: ·)
  | _ => none
theorem ints_map : ∀ ns : List Int, ints? (ns.map D.int) = some ns
  | [] => rfl
  | n :: ns => by simp [ints?, ints_map ns]
theorem bls_map : ∀ ns : List Bool, bls? (ns.map D.bl) = some ns
  | [] => rfl
  | n :: ns => by simp [bls?, bls_map ns]
theorem ints_of : ∀ {ds : List D} {ns : List Int}, ints? ds = some ns → ds = ns.map D.int
  | [], _, h => by cases h; rfl
  | .int i :: r, ns, h => by
    simp only [ints?, Option.map_eq_some_iff] at h
    obtain ⟨ms, h1, rfl⟩ := h
    rw [ints_of h1]
    rfl
  | .non :: _, _, h => by simp [ints?] at h
  | .bl _ :: _, _, h => by simp [ints?] at h
  | .str _ :: _, _, h => by simp [ints?] at h
  | .tup _ :: _, _, h => by simp [ints?] at h
  | .lst _ :: _, _, h => by simp [ints?] at h
  | .dct _ _ :: _, _, h => by simp [ints?] at h
  | .ref _ :: _, _, h => by simp [ints?] at h
  | .ty _ :: _, _, h => by simp [ints?] at h
theorem bls_of : ∀ {ds : List D} {ns : List Bool}, bls? ds = some ns → ds = ns.map D.bl
  | [], _, h => by cases h; rfl
  | .bl i :: r, ns, h => by
    simp only [bls?, Option.map_eq_some_iff] at h
    obtain ⟨ms, h1, rfl⟩ := h
    rw [bls_of h1]
    rfl
  | .non :: _, _, h => by simp [bls?] at h
  | .int _ :: _, _, h => by simp [bls?] at h
  | .str _ :: _, _, h => by simp [bls?] at h
  | .tup _ :: _, _, h => by simp [bls?] at h
  | .lst _ :: _, _, h => by simp [bls?] at h
  | .dct _ _ :: _, _, h => by simp [bls?] at h
  | .ref _ :: _, _, h => by simp [bls?] at h
  | .ty _ :: _, _, h => by simp [bls?] at h
def rSumD : DRC := fun ds H Q => match ds with
  | [d] => (match (listOf H d).bind ints? with | some ns => Q (.int ns.sum) H | none => False)
  | _ => False
theorem intsL {K : PySem.W.Frag} {d : D} {v : V} {ns : List Int} (A : Abs T DH H) (r : RepV T d v) (e : (listOf DH d).bind ints? = some ns) : ∃ p, v = .ref p ∧ H p = some (.lst (ns.map V.int)) := by
  cases q : listOf DH d with
  | none => rw [q] at e; cases e
  | some xs =>
    rw [q] at e
    have e : ints? xs = some ns := e
    obtain ⟨p, vs, rfl, g, q⟩ := listOf_rep (K := K) A r q
    rw [ints_of e] at q
    rw [RepL.ints_inv q] at g
    exact ⟨p, rfl, g⟩
theorem blsL {K : PySem.W.Frag} {d : D} {v : V} {ns : List Bool} (A : Abs T DH H) (r : RepV T d v) (e : (listOf DH d).bind bls? = some ns) : ∃ p, v = .ref p ∧ H p = some (.lst (ns.map V.bl)) := by
  cases q : listOf DH d with
  | none => rw [q] at e; cases e
  | some xs =>
    rw [q] at e
    have e : bls? xs = some ns := e
    obtain ⟨p, vs, rfl, g, q⟩ := listOf_rep (K := K) A r q
    rw [bls_of e] at q
    rw [RepL.bls_inv q] at g
    exact ⟨p, rfl, g⟩
theorem cd_sum (hc : X.calm = true) : CallR X (.builtin "sum") (loC rSumD) := crW (cr_sum hc) fun vs H Q ⟨T, DH, ds, R, A, r, h, w⟩ => by
  match ds, r, h with
  | [d], r, h =>
    obtain ⟨v, rfl, rr⟩ := r.one
    unfold rSumD at h
    simp only at h
    split at h
    · rename_i ns e
      obtain ⟨p, rfl, g⟩ := intsL (K := X.K) A rr e
      exact ⟨p, ns, rfl, SqL.of g, w.int A h⟩
    · exact h.elim
  | [], _, h => exact (show False from h).elim
  | _ :: _ :: _, _, h => exact (show False from h).elim
def rAllD (all : Bool) : DRC := fun ds H Q => match ds with
  | [d] => (match (listOf H d).bind bls? with | some ns => Q (.bl (if all then ns.all id else ns.any id)) H | none => False)
  | _ => False
theorem cd_all (hc : X.calm = true) : CallR X (.builtin "all") (loC (rAllD true)) := crW (cr_all hc) fun vs H Q ⟨T, DH, ds, R, A, r, h, w⟩ => by
  match ds, r, h with
  | [d], r, h =>
    obtain ⟨v, rfl, rr⟩ := r.one
    unfold rAllD at h
    simp only at h
    split at h
    · rename_i ns e
      obtain ⟨p, rfl, g⟩ := blsL (K := X.K) A rr e
      exact ⟨p, ns, rfl, SqL.of g, w.bl A h⟩
    · exact h.elim
  | [], _, h => exact (show False from h).elim
  | _ :: _ :: _, _, h => exact (show False from h).elim
theorem cd_any (hc : X.calm = true) : CallR X (.builtin "any") (loC (rAllD false)) := crW (cr_any hc) fun vs H Q ⟨T, DH, ds, R, A, r, h, w⟩ => by
  match ds, r, h with
  | [d], r, h =>
    obtain ⟨v, rfl, rr⟩ := r.one
    unfold rAllD at h
    simp only at h
    split at h
    · rename_i ns e
      obtain ⟨p, rfl, g⟩ := blsL (K := X.K) A rr e
      exact ⟨p, ns, rfl, SqL.of g, w.bl A h⟩
    · exact h.elim
  | [], _, h => exact (show False from h).elim
  | _ :: _ :: _, _, h => exact (show False from h).elim
/-- isinstance of a built-in class -/
def tyOf (H : DHp) : D → String
  | .non => "NoneType"
  | .bl _ => "bool"
  | .int _ => "int"
  | .str _ => "str"
  | .tup _ => "tuple"
  | .lst _ => "list"
  | .dct _ _ => "dict"
  | .ref p => (match H p with | some (.lst _) => "list" | some (.dK _) => "dict" | some (.dT _) => "dict" | _ => "")
  | .ty _ => ""
def isTy (t n : String) : Bool := t == n || (t == "bool" && n == "int")
def rIsiD : DRC := fun ds H Q => match ds with
  | [d, .ty n] => (tyOf H d ≠ "" ∧ (["int", "bool", "str", "tuple", "list", "dict"] : List String).contains n = true) ∧ Q (.bl (isTy (tyOf H d) n)) H
  | _ => False
theorem kit_all : ∀ t ∈ (["NoneType", "bool", "int", "str", "tuple", "list", "dict"] : List String), ∀ n ∈ (["int", "bool", "str", "tuple", "list", "dict"] : List String), kitB t n = some (isTy t n) := by decide +kernel
theorem tyOf_rep {K : PySem.W.Frag} (A : Abs T DH H) {d : D} {v : V} (r : RepV T d v) (h : tyOf DH d ≠ "") : TyX K H v (.type (tyOf DH d)) ∧ tyOf DH d ∈ (["NoneType", "bool", "int", "str", "tuple", "list", "dict"] : List String) := by
  cases d with
  | non => cases (show v = .non from r); exact ⟨.base .non, by simp [tyOf]⟩
  | bl b => cases (show v = .bl b from r); exact ⟨.base (.bl b), by simp [tyOf]⟩
  | int b => cases (show v = .int b from r); exact ⟨.base (.int b), by simp [tyOf]⟩
  | str b => cases (show v = .str b from r); exact ⟨.base (.str b), by simp [tyOf]⟩
  | tup xs => obtain ⟨p, vs, rfl, t, _⟩ := r; exact ⟨.base (.tup (A.sub _ _ t)), by simp [tyOf]⟩
  | lst xs => obtain ⟨p, vs, rfl, t, _⟩ := r; exact ⟨.base (.lst (A.sub _ _ t)), by simp [tyOf]⟩
  | dct ks xs => obtain ⟨p, vs, rfl, t, _⟩ := r; exact ⟨.base (.dK (A.sub _ _ t)), by simp [tyOf]⟩
  | ref p =>
    cases (show v = .ref p from r)
    cases e : DH p with
    | none => exact absurd (by simp [tyOf, e]) h
    | some o =>
      cases o with
      | lst xs =>
        obtain ⟨vs, g, _⟩ := A.lst e
        rw [show tyOf DH (.ref p) = "list" by simp [tyOf, e]]
        exact ⟨.base (.lst g), by simp⟩
      | dK xs =>
        obtain ⟨vs, g, _⟩ := A.dK e
        rw [show tyOf DH (.ref p) = "dict" by simp [tyOf, e]]
        exact ⟨.base (.dK g), by simp⟩
      | dT xs =>
        obtain ⟨vs, g, _⟩ := A.dT e
        rw [show tyOf DH (.ref p) = "dict" by simp [tyOf, e]]
        exact ⟨.base (.dT g), by simp⟩
      | src => exact absurd (by simp [tyOf, e]) h
      | scr xs => exact absurd (by simp [tyOf, e]) h
  | ty n => exact absurd rfl h
theorem cd_isi : CallR X (.builtin "isinstance") (loC rIsiD) := crW (call_isi (X := X)) fun vs H Q ⟨T, DH, ds, R, A, r, h, w⟩ => by
  unfold rIsiD at h
  split at h
  · rename_i d n
    obtain ⟨⟨h1, h2⟩, h3⟩ := h
    obtain ⟨v, u, rfl, r1, r2⟩ := r.two
    cases (show u = .ty n from r2)
    obtain ⟨t1, t2⟩ := tyOf_rep (K := X.K) A r1 h1
    exact ⟨v, .ty n, _, _, _, rfl, .ty n, t1, kit_ty (kit_all _ t2 n (by simpa using h2)), w.bl A h3⟩
  · exact h.elim
end
end DL

/-! DL5: loops, comprehensions, bodies of defs, over data. -/
namespace DL
open PySem PySem.Spec PyProof.Rows L2

/-! ### what is walked -/
/-- J walks the items xs, as long as ok holds -/
structure Wk (J : It) (T : Hp) (xs : List D) (ok : DHp → Prop) : Prop where
  goes : ∀ i T' DH H, Same T T' → Abs T' DH H → ok DH → i < xs.length → J.go i H
  stops : ∀ T' DH H, Same T T' → Abs T' DH H → ok DH → J.stop xs.length H
  yields : ∀ i T' DH H x H' d, Same T T' → Abs T' DH H → ok DH → xs[i]? = some d → J.yld i H x H' → ∃ T2, Same T' T2 ∧ Abs T2 DH H' ∧ RepV T2 d x
theorem Wk.up {J : It} {T T' : Hp} {xs : List D} {ok : DHp → Prop} (w : Wk J T xs ok) (s : Same T T') : Wk J T' xs ok :=
  ⟨fun i T2 DH H s2 => w.goes i T2 DH H (s.trans s2), fun T2 DH H s2 => w.stops T2 DH H (s.trans s2), fun i T2 DH H x H' d s2 => w.yields i T2 DH H x H' d (s.trans s2)⟩
abbrev DI := DSt → DHp → (List D → (DHp → Prop) → DHp → Prop) → Prop
def loI (t : DI) : TI := fun σ H R => ∃ T DH τ RD, Abs T DH H ∧ RepS T τ σ ∧ t τ DH RD ∧ ∀ T' DH' H' xs ok J, Same T T' → Abs T' DH' H' → Wk J T' xs ok → RD xs ok DH' → R J H'
structure QI (X : Cx) (tg iter : Expr) (t : DI) : Prop where
  run : PI X tg iter (loI t)
theorem piW {X : Cx} {tg e : Expr} {t t' : TI} (h : PI X tg e t) (w : ∀ σ H R, t' σ H R → t σ H R) : PI X tg e t' := ⟨fun pins s σ H R I q => h.run pins s σ H R I (w σ H R q)⟩
abbrev okT : DHp → Prop := fun _ => True

section
variable {X : Cx} {tg e a b : Expr} {te ta tb : DE} {t : DA} {p pos : Pos}
/-- a list or a tuple, whichever it is -/
def iLT (K : PySem.W.Frag) (tl : TE) : TI := fun σ H R => tl σ H fun x H1 => ∃ a, x = .ref a ∧ (((∃ xs, SqL K H1 a xs) ∧ R (Itl K a) H1) ∨ ((∃ xs, SqT K H1 a xs) ∧ R (Itt K a) H1))
theorem pi_lt {l : Expr} {tl : TE} (hl : PE X l tl) : PI X tg l (iLT X.K tl) := by
  refine ⟨fun pins s σ H R I h => ?_⟩
  refine thn (hl.run pins s σ H _ I h) fun v s1 ⟨x, H1, I1, r1, q1⟩ => ?_
  obtain ⟨a, e, q⟩ := q1
  subst e
  cases r1
  have fin : ∀ (h' : Heap), FpOk X pins H1 s1.heap.objs.size := fun _ => I1.fpOk (Nat.le_refl _) (I1.hok.fresh (Nat.le_refl _))
  rcases q with ⟨⟨xs, hq⟩, q⟩ | ⟨⟨xs, hq⟩, q⟩
  · obtain ⟨its, rv, pl, hz⟩ := I1.list hq
    refine wpAny_pyIter_list pl.isList ⟨s1.heap.objs.size, [s1.heap.objs.size], _, _, H1, rfl, I1.kept (t' := s1.toks) fun b o e => Heap.get?_push_of_some _ e, turn_list a _, ⟨_, Heap.get?_push_size _ rfl, rfl, rfl⟩, fun b hb => ?_, q⟩
    rw [show b = s1.heap.objs.size by simpa using hb]
    exact fin s1.heap
  · obtain ⟨its, rv, pl, hz⟩ := I1.tuple hq
    refine wpAny_pyIter_tuple (show s1.heap.IsTuple a its.toArray from pl) ⟨s1.heap.objs.size, [s1.heap.objs.size], _, _, H1, rfl, I1.kept (t' := s1.toks) fun b o e => Heap.get?_push_of_some _ e, turn_tuple a _, ⟨_, Heap.get?_push_size _ rfl, rfl, rfl⟩, fun b hb => ?_, q⟩
    rw [show b = s1.heap.objs.size by simpa using hb]
    exact fin s1.heap
/-- what is walked, and what must hold of the heap at each turn -/
def walkD (H : DHp) (d : D) (k : List D → (DHp → Prop) → Prop) : Prop := match d with
  | .tup xs => k xs okT
  | .lst xs => k xs okT
  | .ref p => (match H p with
    | some (.lst xs) => k xs fun H' => H' p = some (.lst xs)
    | some (.scr xs) => k xs fun H' => H' p = some (.scr xs)
    | _ => False)
  | _ => False
def dISeq (te : DE) : DI := fun τ H R => te τ H fun x H1 => walkD H1 x fun xs ok => R xs ok H1
theorem wk_list {K : PySem.W.Frag} {T : Hp} {p : Addr} {vs : List V} {xs : List D} {ok : DHp → Prop} (r : RepL T xs vs) (h : ∀ T' DH H, Same T T' → Abs T' DH H → ok DH → SqL K H p vs) : Wk (Itl K p) T xs ok := by
  have hl := r.length
  refine ⟨fun i T' DH H s A o hi => ?_, fun T' DH H s A o => ⟨vs, h T' DH H s A o, by rw [hl]; exact Nat.le_refl _⟩, fun i T' DH H x H' d s A o ed y => ?_⟩
  · exact ⟨vs, vs[i]'(by rw [hl]; exact hi), h T' DH H s A o, by simp [hl, hi]⟩
  · obtain ⟨rfl, y⟩ := y
    obtain ⟨v, e1, r1⟩ := r.get ed
    have := y vs (h T' DH _ s A o)
    rw [e1] at this
    cases this
    exact ⟨T', Same.refl _, A, r1.up s⟩
theorem wk_tup {K : PySem.W.Frag} {T : Hp} {p : Addr} {vs : List V} {xs : List D} {ok : DHp → Prop} (r : RepL T xs vs) (h : ∀ T' DH H, Same T T' → Abs T' DH H → ok DH → SqT K H p vs) : Wk (Itt K p) T xs ok := by
  have hl := r.length
  refine ⟨fun i T' DH H s A o hi => ?_, fun T' DH H s A o => ⟨vs, h T' DH H s A o, by rw [hl]; exact Nat.le_refl _⟩, fun i T' DH H x H' d s A o ed y => ?_⟩
  · exact ⟨vs, vs[i]'(by rw [hl]; exact hi), h T' DH H s A o, by simp [hl, hi]⟩
  · obtain ⟨rfl, y⟩ := y
    obtain ⟨v, e1, r1⟩ := r.get ed
    have := y vs (h T' DH _ s A o)
    rw [e1] at this
    cases this
    exact ⟨T', Same.refl _, A, r1.up s⟩
theorem ok_of_eq {T' : Hp} {DH : DHp} {H : Hp} {p : Addr} {T : Hp} {vs : List V} {xs : List D} (r : RepL T xs vs) (A : Abs T DH H) (hp : H p = some (.lst vs)) : True := trivial
/-- two readings of one list of data are one where they are read at the same address -/
theorem qi_seq (he : QE X e te) : QI X tg e (dISeq te) := ⟨piW (pi_lt he.run) fun σ H R ⟨T, DH, τ, RD, A, S, h, u⟩ => ⟨T, DH, τ, _, A, S, h, fun T1 DH1 H1 x v s1 A1 r1 h1 => by
  unfold walkD at h1
  cases x with
  | tup xs =>
    obtain ⟨p, vs, rfl, t, q⟩ := r1
    exact ⟨p, rfl, .inr ⟨⟨vs, SqT.of (A1.sub _ _ t)⟩, u T1 DH1 H1 xs _ _ s1 A1 (wk_tup q fun T' DH' H' s A o => SqT.of (A.sub _ _ (s _ _ t))) h1⟩⟩
  | lst xs =>
    obtain ⟨p, vs, rfl, t, q⟩ := r1
    exact ⟨p, rfl, .inl ⟨⟨vs, SqL.of (A1.sub _ _ t)⟩, u T1 DH1 H1 xs _ _ s1 A1 (wk_list q fun T' DH' H' s A o => SqL.of (A.sub _ _ (s _ _ t))) h1⟩⟩
  | ref p =>
    cases (show v = .ref p from r1)
    simp only at h1
    split at h1
    · rename_i xs e
      obtain ⟨vs, g, q⟩ := A1.lst e
      refine ⟨p, rfl, .inl ⟨⟨vs, SqL.of g⟩, u T1 DH1 H1 xs _ _ s1 A1 ?_ h1⟩⟩
      have hl := q.length
      refine ⟨fun i T' DH H s A o hi => ?_, fun T' DH H s A o => ?_, fun i T' DH H x H' d s A o ed y => ?_⟩
      · obtain ⟨ws, g', q'⟩ := A.lst o
        exact ⟨ws, ws[i]'(by rw [q'.length]; exact hi), SqL.of g', by simp [q'.length, hi]⟩
      · obtain ⟨ws, g', q'⟩ := A.lst o
        exact ⟨ws, SqL.of g', by rw [q'.length]; exact Nat.le_refl _⟩
      · obtain ⟨ws, g', q'⟩ := A.lst o
        obtain ⟨rfl, y⟩ := y
        obtain ⟨v, e1, r1⟩ := q'.get ed
        have := y ws (SqL.of g')
        rw [e1] at this
        cases this
        exact ⟨T', Same.refl _, A, r1⟩
    · rename_i xs e
      obtain ⟨ob, vs, g, q⟩ := A1.scr e
      refine ⟨p, rfl, .inl ⟨⟨vs, .inl (.inr ⟨ob, g⟩)⟩, u T1 DH1 H1 xs _ _ s1 A1 ?_ h1⟩⟩
      refine ⟨fun i T' DH H s A o hi => ?_, fun T' DH H s A o => ?_, fun i T' DH H x H' d s A o ed y => ?_⟩
      · obtain ⟨ob', ws, g', q'⟩ := A.scr o
        exact ⟨ws, ws[i]'(by rw [q'.length]; exact hi), .inl (.inr ⟨ob', g'⟩), by simp [q'.length, hi]⟩
      · obtain ⟨ob', ws, g', q'⟩ := A.scr o
        exact ⟨ws, .inl (.inr ⟨ob', g'⟩), by rw [q'.length]; exact Nat.le_refl _⟩
      · obtain ⟨ob', ws, g', q'⟩ := A.scr o
        obtain ⟨rfl, y⟩ := y
        obtain ⟨v, e1, r1⟩ := q'.get ed
        have := y ws (.inl (.inr ⟨ob', g'⟩))
        rw [e1] at this
        cases this
        exact ⟨T', Same.refl _, A, r1⟩
    · exact h1.elim
  | _ => exact h1.elim⟩⟩
/-- lo, lo + 1, .. -/
def rgD (lo : Int) (n : Nat) : List D := (List.range n).map fun i => .int (lo + (i : Nat))
theorem rgD_get {lo : Int} {n i : Nat} {d : D} (h : (rgD lo n)[i]? = some d) : i < n ∧ d = .int (lo + (i : Nat)) := by
  unfold rgD at h
  rw [List.getElem?_map] at h
  by_cases hi : i < n
  · rw [List.getElem?_range hi] at h
    cases h
    exact ⟨hi, rfl⟩
  · rw [List.getElem?_eq_none (by simpa using hi)] at h
    cases h
theorem wk_range {lo : Int} {n : Nat} {T : Hp} : Wk (Itr lo n) T (rgD lo n) okT := by
  refine ⟨fun i T' DH H s A o hi => (by simpa [rgD] using hi : i < n), fun T' DH H s A o => (by simp [rgD] : n ≤ (rgD lo n).length), fun i T' DH H x H' d s A o ed y => ?_⟩
  obtain ⟨hi, rfl⟩ := rgD_get ed
  obtain ⟨rfl, rfl⟩ := y
  exact ⟨T', Same.refl _, A, rfl⟩
def dIRg1 (t : DA) : DI := fun τ H R => t τ H fun ds H1 => match ds with
  | [.int j] => (-(2 ^ 62) ≤ j ∧ j < 2 ^ 62) ∧ R (rgD 0 j.toNat) okT H1
  | _ => False
def dIRg2 (t : DA) : DI := fun τ H R => t τ H fun ds H1 => match ds with
  | [.int i, .int j] => (-(2 ^ 62) ≤ i ∧ i < 2 ^ 62 ∧ -(2 ^ 62) ≤ j ∧ j < 2 ^ 62) ∧ R (rgD i (j - i).toNat) okT H1
  | _ => False
theorem qi_range1 (hg : Gl X "range") (hm : X.mg "range" = none) (ha : QA X [a] t) (hs : starEach [a] X.env = [(false, eval a X.env)] := by rfl) : QI X tg (.Call (.Name "range" p) [a] [] pos) (dIRg1 t) :=
  ⟨piW (pi_range1 hg hm ha.run hs) fun σ H R ⟨T, DH, τ, RD, A, S, h, u⟩ => ⟨T, DH, τ, _, A, S, h, fun T1 DH1 H1 xs vs s1 A1 r1 h1 => by
    split at h1
    · rename_i j
      obtain ⟨v, rfl, r⟩ := r1.one
      exact ⟨j, by rw [show v = .int j from r], h1.1.1, h1.1.2, u T1 DH1 H1 _ _ _ s1 A1 wk_range h1.2⟩
    · exact h1.elim⟩⟩
theorem qi_range2 (hg : Gl X "range") (hm : X.mg "range" = none) (ha : QA X [a, b] t) (hs : starEach [a, b] X.env = [(false, eval a X.env), (false, eval b X.env)] := by rfl) (hs2 : starEach [b] X.env = [(false, eval b X.env)] := by rfl) :
    QI X tg (.Call (.Name "range" p) [a, b] [] pos) (dIRg2 t) :=
  ⟨piW (pi_range2 hg hm ha.run hs hs2) fun σ H R ⟨T, DH, τ, RD, A, S, h, u⟩ => ⟨T, DH, τ, _, A, S, h, fun T1 DH1 H1 xs vs s1 A1 r1 h1 => by
    split at h1
    · rename_i i j
      obtain ⟨v, w, rfl, ra, rb⟩ := r1.two
      exact ⟨i, j, by rw [show v = .int i from ra, show w = .int j from rb], h1.1, u T1 DH1 H1 _ _ _ s1 A1 wk_range h1.2⟩
    · exact h1.elim⟩⟩

/-! ### for -/
def dForL (ok : DHp → Prop) (g : DG) (tb : DS) : List D → DEnds → DSt → DHp → Prop
  | [], E, τ, H => ok H ∧ E.nx τ H
  | x :: r, E, τ, H => ok H ∧ g x τ H fun τ1 H1 => tb { E with nx := dForL ok g tb r E, ct := dForL ok g tb r E, bk := E.nx } τ1 H1
def dFor (ti : DI) (g : DG) (tb : DS) : DS := fun E τ H => ti τ H fun xs ok H1 => dForL ok g tb xs E τ H1
theorem dFor_ok {ok : DHp → Prop} {g : DG} {tb : DS} {xs : List D} {E : DEnds} {τ : DSt} {H : DHp} (h : dForL ok g tb xs E τ H) : ok H := by
  cases xs <;> exact h.1
theorem qs_for {iter : Expr} {body : List Stmt} {ix : List Nat} {ti : DI} {g : DG} {tb : DS} (hp : PassesOwn (model X.prog X.w) X.A X.env X.xe) (hc : X.calm = true) (hi : QI X tg iter ti) (hg : QG X tg ix g) (hb : QSs X body tb)
    (hs : ∀ x, foldedSetIterable iter X.env x = pure x := by intro _; rfl) : QS X (.For tg iter body [] pos) (dFor ti g tb) :=
  ⟨psW (ps_for hp hc hi.run hg.run hb.run hs) fun E σ H ⟨T, DH, τ, R, A, S, h, u⟩ => ⟨T, DH, τ, _, A, S, h, fun T1 DH1 H1 xs ok J s1 A1 wk h1 => by
    refine ⟨fun i m σ' H' => ∃ T2 DH2 τ2, Same T1 T2 ∧ Abs T2 DH2 H' ∧ RepS T2 τ2 σ' ∧ i ≤ xs.length ∧ m = xs.length - i ∧ dForL ok g tb (xs.drop i) R τ2 DH2, ⟨_, T1, DH1, τ, Same.refl _, A1, S.up s1, Nat.zero_le _, rfl, h1⟩, fun i m σ' H' w => ?_⟩
    obtain ⟨T2, DH2, τ2, s2, A2, S2, hi, rfl, h2⟩ := w
    by_cases hlt : i < xs.length
    · rw [List.drop_eq_getElem_cons hlt] at h2
      refine .inr ⟨wk.goes i T2 DH2 H' s2 A2 h2.1 hlt, fun σ3 H3 => ∃ T3 DH3 τ3, Same T1 T3 ∧ Abs T3 DH3 H3 ∧ RepS T3 τ3 σ3 ∧ dForL ok g tb (xs.drop (i + 1)) R τ3 DH3, fun σ3 H3 n => ?_, fun x H3 y => ?_⟩
      · obtain ⟨T3, DH3, τ3, s3, A3, S3, h3⟩ := n
        exact ⟨xs.length - (i + 1), by omega, T3, DH3, τ3, s3, A3, S3, by omega, rfl, h3⟩
      · obtain ⟨T3, s3, A3, r3⟩ := wk.yields i T2 DH2 H' x H3 xs[i] s2 A2 h2.1 (by simp [hlt]) y
        refine ⟨T3, DH2, τ2, xs[i], _, A3, S2.up s3, r3, h2.2, fun T4 DH4 H4 τ4 σ4 s4 A4 S4 h4 _ => ⟨T4, DH4, τ4, _, A4, S4, h4, ?_⟩⟩
        have s14 : Same T1 T4 := s2.trans (s3.trans s4)
        have ss : Same T T4 := s1.trans s14
        exact ⟨fun T5 DH5 H5 τ5 σ5 s5 A5 S5 h5 => ⟨T5, DH5, τ5, s14.trans s5, A5, S5, h5⟩, (u.up ss).rt, (u.up ss).nx, fun T5 DH5 H5 τ5 σ5 s5 A5 S5 h5 => ⟨T5, DH5, τ5, s14.trans s5, A5, S5, h5⟩⟩
    · have e : i = xs.length := by omega
      subst e
      rw [List.drop_length] at h2
      exact .inl ⟨wk.stops T2 DH2 H' s2 A2 h2.1, u.nx T2 DH2 H' τ2 σ' (s1.trans s2) A2 S2 h2.2⟩⟩⟩

/-! ### while -/
def dWhile (c : DT) (tb : DS) : DS := fun E τ H => ∃ W : Nat → DSt → DHp → Prop, (∃ m, W m τ H) ∧ ∀ m τ H, W m τ H →
  c τ H fun b H1 => if b = true then tb { E with nx := fun τ' H' => ∃ m', m' < m ∧ W m' τ' H', ct := fun τ' H' => ∃ m', m' < m ∧ W m' τ' H', bk := E.nx } τ H1 else E.nx τ H1
theorem qs_while {c : Expr} {body : List Stmt} {tc : DT} {tb : DS} (hp : PassesOwn (model X.prog X.w) X.A X.env X.xe) (hc : QT X c tc) (hb : QSs X body tb) : QS X (.While c body [] pos) (dWhile tc tb) :=
  ⟨psW (ps_while hp hc.run hb.run) fun E σ H ⟨T, DH, τ, R, A, S, h, u⟩ => by
    obtain ⟨W, ⟨m0, w0⟩, turn⟩ := h
    refine ⟨fun m σ' H' => ∃ T2 DH2 τ2, Same T T2 ∧ Abs T2 DH2 H' ∧ RepS T2 τ2 σ' ∧ W m τ2 DH2, ⟨m0, T, DH, τ, Same.refl _, A, S, w0⟩, fun m σ' H' w => ?_⟩
    obtain ⟨T2, DH2, τ2, s2, A2, S2, w2⟩ := w
    refine ⟨T2, DH2, τ2, _, A2, S2, turn m τ2 DH2 w2, fun T3 DH3 H3 b s3 A3 h3 => ?_⟩
    cases b with
    | true =>
      rw [if_pos rfl] at h3 ⊢
      refine ⟨fun σ4 H4 => ∃ T4 DH4 τ4, Same T T4 ∧ Abs T4 DH4 H4 ∧ RepS T4 τ4 σ4 ∧ ∃ m', m' < m ∧ W m' τ4 DH4, fun σ4 H4 n => ?_, T3, DH3, τ2, _, A3, S2.up s3, h3, ?_⟩
      · obtain ⟨T4, DH4, τ4, s4, A4, S4, m', hm, w4⟩ := n
        exact ⟨m', hm, T4, DH4, τ4, s4, A4, S4, w4⟩
      · have ss := s2.trans s3
        exact ⟨fun T5 DH5 H5 τ5 σ5 s5 A5 S5 h5 => ⟨T5, DH5, τ5, ss.trans s5, A5, S5, h5⟩, (u.up ss).rt, (u.up ss).nx, fun T5 DH5 H5 τ5 σ5 s5 A5 S5 h5 => ⟨T5, DH5, τ5, ss.trans s5, A5, S5, h5⟩⟩
    | false =>
      rw [if_neg Bool.false_ne_true] at h3 ⊢
      exact u.nx T3 DH3 H3 τ2 σ' (s2.trans s3) A3 (S2.up s3) h3⟩

/-! ### comprehensions -/
def dwipe (τ : DSt) : List Nat → DSt
  | [] => τ
  | v :: vs => (dwipe τ vs).set v none
theorem dwipe_length (τ : DSt) : ∀ vs : List Nat, (dwipe τ vs).length = τ.length
  | [] => rfl
  | v :: vs => by unfold dwipe; rw [List.length_set, dwipe_length τ vs]
theorem RepS.wipe {T : Hp} {τ : DSt} {σ : L2.St} (h : RepS T τ σ) : ∀ vs : List Nat, RepS T (dwipe τ vs) (L2.wipe σ vs)
  | [] => h
  | v :: vs => by
    have ih := RepS.wipe h vs
    unfold dwipe L2.wipe
    refine ⟨by simp [ih.1], fun i d e => ?_⟩
    by_cases hi : v = i
    · subst hi
      by_cases hv : v < (dwipe τ vs).length
      · rw [List.getElem?_set_self hv] at e; cases e
      · rw [List.getElem?_eq_none (by simpa using hv)] at e; cases e
    · rw [List.getElem?_set_ne hi] at e
      obtain ⟨w, a, b⟩ := ih.2 i d e
      exact ⟨w, by rw [List.getElem?_set_ne hi]; exact a, b⟩
theorem wipe_at (σ : L2.St) : ∀ (vs : List Nat) (i : Nat), (L2.wipe σ vs)[i]? = if i ∈ vs ∧ i < σ.length then some none else σ[i]?
  | [], i => by simp [L2.wipe]
  | v :: vs, i => by
    have ih := wipe_at σ vs i
    unfold L2.wipe
    by_cases hi : v = i
    · subst hi
      by_cases hv : v < σ.length
      · rw [List.getElem?_set_self (by rw [L2.wipe_length]; exact hv)]
        simp [hv]
      · rw [List.getElem?_eq_none (by rw [List.length_set, L2.wipe_length]; omega), List.getElem?_eq_none (by omega)]
        simp [hv]
    · rw [List.getElem?_set_ne hi, ih]
      simp [Ne.symm hi]
theorem wipe_far {ix vs : List Nat} {σ σ' : L2.St} (f : Far ix (L2.wipe σ vs) σ') (h : ∀ i ∈ ix, i ∈ vs) : L2.wipe σ' vs = L2.wipe σ vs := by
  have hl : σ'.length = σ.length := by rw [f.1, L2.wipe_length]
  apply List.ext_getElem?
  intro i
  rw [wipe_at, wipe_at, hl]
  by_cases hi : i ∈ vs
  · by_cases hz : i < σ.length
    · rw [if_pos ⟨hi, hz⟩, if_pos ⟨hi, hz⟩]
    · rw [if_neg (fun q => hz q.2), if_neg (fun q => hz q.2), List.getElem?_eq_none (by omega), List.getElem?_eq_none (by omega)]
  · rw [if_neg (fun q => hi q.1), if_neg (fun q => hi q.1), f.2 i (fun q => hi (h i q)), wipe_at, if_neg (fun q => hi q.1)]
/-- the turns of a comprehension: acc is what was made so far -/
def dCompL (ok : DHp → Prop) (g : DG) (tt : DT) (te : DE) (τ : DSt) : List D → List D → DHp → (List D → DHp → Prop) → Prop
  | [], acc, H, K => ok H ∧ K acc H
  | x :: r, acc, H, K => ok H ∧ g x τ H fun τ2 H2 => tt τ2 H2 fun b H3 => if b = true then te τ2 H3 fun y H4 => dCompL ok g tt te τ r (acc ++ [y]) H4 K else dCompL ok g tt te τ r acc H3 K
def dLc (mu : Bool) (ti : DI) (g : DG) (tt : DT) (te : DE) (vs : List Nat) : DE := fun τ H Q => ti τ H fun xs ok H1 => xs.length ≤ sizeLine ∧ dCompL ok g tt te (dwipe τ vs) xs [] H1 fun acc H2 =>
  if mu = true then ∀ p, H2 p = none → Q (.ref p) (dupd H2 p (.lst acc)) else Q (.lst acc) H2
structure QTs (X : Cx) (ifs : List Expr) (t : DT) : Prop where
  run : PTs X ifs (loT t)
theorem ptsW {ifs : List Expr} {t t' : TT} (h : PTs X ifs t) (w : ∀ σ H Q, t' σ H Q → t σ H Q) : PTs X ifs t' := ⟨fun pins s σ H Q I q => h.run pins s σ H Q I (w σ H Q q)⟩
def dYes : DT := fun _ H Q => Q true H
theorem qts_nil : QTs X [] dYes := ⟨ptsW pts_nil fun _ H _ ⟨T, DH, _, _, A, _, h, u⟩ => u T DH H true (Same.refl _) A h⟩
theorem qts_one {c : Expr} {t : DT} (h : QT X c t) : QTs X [c] t := ⟨pts_one h.run⟩
theorem RepS.but {T T' : Hp} {p : Addr} (b : But p T T') {τ : DSt} {σ : L2.St} (r : RepS T τ σ) : RepS T' τ σ :=
  ⟨r.1, fun i d e => let ⟨v, a, c⟩ := r.2 i d e; ⟨v, a, RepV.but b d v c⟩⟩
theorem KVR.but {T T' : Hp} {p : Addr} (b : But p T T') {κ : Type} {xs : List (κ × D)} {ys : List (κ × V)} (r : KVR T xs ys) : KVR T' xs ys := ⟨r.1, RepL.but b _ _ r.2⟩
theorem RepO.but {T T' : Hp} {p : Addr} (b : But p T T') : ∀ {x : DO} {o : HO}, RepO T x o → RepO T' x o
  | .lst _, _, ⟨vs, e, r⟩ => ⟨vs, e, RepL.but b _ _ r⟩
  | .dK _, _, ⟨vs, e, r⟩ => ⟨vs, e, r.but b⟩
  | .dT _, _, ⟨vs, e, r⟩ => ⟨vs, e, r.but b⟩
  | .src, _, h => h.elim
  | .scr _, _, ⟨ob, vs, e, r⟩ => ⟨ob, vs, e, RepL.but b _ _ r⟩
/-- the thing that is being made at p is changed, or told at last -/
theorem Abs.mod {T : Hp} {DH : DHp} {H : Hp} {p : Addr} {ob : Obj} {u o : HO} (A : Abs T DH H) (h : T p = some (.frz ob u)) : Abs (upd T p o) DH (upd H p (unfrz o)) := by
  have bt := But.upd h o
  obtain ⟨C, A⟩ := A
  have hd : DH p = none := by
    cases e : DH p with
    | none => rfl
    | some x => rw [(A.obj p x e).1] at h; cases h
  refine ⟨C, fun b z e => ?_, fun b x e => ?_, fun b c e => ?_⟩
  · by_cases q : b = p
    · subst q; rw [upd_same] at e ⊢; cases e; rfl
    · rw [upd_ne q] at e ⊢; exact A.sub b z e
  · have nb : b ≠ p := fun q => by subst q; rw [hd] at e; cases e
    obtain ⟨h1, h2, h3⟩ := A.obj b x e
    refine ⟨by rw [upd_ne nb]; exact h1, h2, fun hx => ?_⟩
    obtain ⟨z, g, r⟩ := h3 hx
    exact ⟨z, by rw [upd_ne nb]; exact g, r.but bt⟩
  · obtain ⟨h1, h2, h3, h4, h5⟩ := A.own b c e
    have n1 : b ≠ p := fun q => by subst q; rw [hd] at h1; cases h1
    have n2 : c ≠ p := fun q => by subst q; rw [h3] at h; cases h
    exact ⟨h1, h2, by rw [upd_ne n2]; exact h3, h4.frame (upd_ne n1) (upd_ne n2), h5⟩
theorem upd_id {H : Hp} {p : Addr} {o : HO} (h : H p = some o) : upd H p o = H := by
  funext b
  by_cases q : b = p
  · subst q; rw [upd_same, h]
  · rw [upd_ne q]
theorem sameMod {T T1 : Hp} {p : Addr} {o : HO} (s : Same T T1) (h : T p = none) : Same T (upd T1 p o) := fun b u e => by
  rw [upd_ne (ne_of_none e h)]; exact s b u e
/-- told at last: frozen -/
theorem Abs.toldF {T : Hp} {DH : DHp} {H : Hp} {p : Addr} {ob : Obj} {vs : List V} (A : Abs T DH H) (h : T p = some (.frz ob (.lst vs))) : Abs (upd T p (.lst vs)) DH H := by
  have B := A.mod (o := .lst vs) h
  have e : H p = some (.lst vs) := A.sub p _ h
  rw [show unfrz (.lst vs) = .lst vs from rfl, upd_id e] at B
  exact B
/-- told at last: free to be changed -/
theorem Abs.toldM {T : Hp} {DH : DHp} {H : Hp} {p : Addr} {ob : Obj} {vs : List V} {acc : List D} (A : Abs T DH H) (h : T p = some (.frz ob (.lst vs))) (r : RepL T acc vs) :
    Abs (fun q => if q = p then none else T q) (dupd DH p (.lst acc)) H ∧ DH p = none := by
  have bt : But p T (fun q => if q = p then none else T q) := ⟨⟨ob, _, h⟩, fun q n => if_neg n⟩
  have e : H p = some (.lst vs) := A.sub p _ h
  obtain ⟨C, A⟩ := A
  have hd : DH p = none := by
    cases e : DH p with
    | none => rfl
    | some x => rw [(A.obj p x e).1] at h; cases h
  refine ⟨⟨C, fun b z q => ?_, fun b x q => ?_, fun b c q => ?_⟩, hd⟩
  · by_cases n : b = p
    · rw [if_pos n] at q; cases q
    · rw [if_neg n] at q; exact A.sub b z q
  · by_cases n : b = p
    · subst n
      rw [dupd_same] at q; cases q
      exact ⟨if_pos rfl, fun z => (by cases z), fun _ => ⟨_, e, vs, rfl, RepL.but bt _ _ r⟩⟩
    · rw [dupd_ne n] at q
      obtain ⟨h1, h2, h3⟩ := A.obj b x q
      refine ⟨by rw [if_neg n]; exact h1, h2, fun hx => ?_⟩
      obtain ⟨z, g, r⟩ := h3 hx
      exact ⟨z, g, r.but bt⟩
  · obtain ⟨h1, h2, h3, h4, h5⟩ := A.own b c q
    have n1 : b ≠ p := fun q => by subst q; rw [hd] at h1; cases h1
    have n2 : c ≠ p := fun q => by subst q; rw [h3] at h; cases h
    exact ⟨by rw [dupd_ne n1]; exact h1, by rw [dupd_ne n2]; exact h2, by rw [if_neg n2]; exact h3, h4, h5⟩
theorem dComp_len {ok : DHp → Prop} {g : DG} {tt : DT} {te : DE} {τ : DSt} {H : DHp} {K : List D → DHp → Prop} : ∀ {xs acc : List D}, dCompL ok g tt te τ xs acc H K → ok H
  | [], _, h => h.1
  | _ :: _, _, h => h.1
/-- the turns, told to the layer beneath -/
theorem lc_lo {mu : Bool} {ix vs : List Nat} {ti : DI} {g : DG} {tt : DT} {te : DE} (hx : ∀ i ∈ ix, i ∈ vs) : ∀ σ H Q, lo (dLc mu ti g tt te vs) σ H Q → tLc (loI ti) (loG ix g) (loT tt) (lo te) vs σ H Q := fun σ H Q ⟨T, DH, τ, R, A, S, h, u⟩ => by
  refine ⟨T, DH, τ, _, A, S, h, fun T1 DH1 H1 xs ok J s1 A1 wk h1 => fun D hD => ?_⟩
  obtain ⟨hlen, h1⟩ := h1
  have hT1 : T1 D = none := (A1.free hD).1
  have ob : Obj := default
  obtain ⟨s2, A2⟩ := A1.frz (o := .frz ob (.lst [])) hD
  have A2 : Abs (upd T1 D (.frz ob (.lst []))) DH1 (upd H1 D (.lst [])) := A2
  have S1 := (S.up s1).wipe vs
  refine ⟨fun i m H' => ∃ T' DH' acc ws, Same T1 T' ∧ T' D = some (.frz ob (.lst ws)) ∧ RepL T' acc ws ∧ Abs T' DH' H' ∧ i ≤ xs.length ∧ m = xs.length - i ∧ acc.length ≤ i ∧ dCompL ok g tt te (dwipe τ vs) (xs.drop i) acc DH' (fun acc H2 => if mu = true then ∀ p, H2 p = none → R (.ref p) (dupd H2 p (.lst acc)) else R (.lst acc) H2),
    ⟨_, _, DH1, [], [], s2, upd_same, .nil, A2, Nat.zero_le _, rfl, Nat.le_refl _, h1⟩, fun i m H' w => ?_⟩
  obtain ⟨T', DH', acc, ws, s3, eD, rw', A3, hi, rfl, hacc, h3⟩ := w
  by_cases hlt : i < xs.length
  · rw [List.drop_eq_getElem_cons hlt] at h3
    refine .inr ⟨wk.goes i T' DH' H' s3 A3 h3.1 hlt, fun H4 => ∃ T4 DH4 acc ws, Same T1 T4 ∧ T4 D = some (.frz ob (.lst ws)) ∧ RepL T4 acc ws ∧ Abs T4 DH4 H4 ∧ acc.length ≤ i + 1 ∧ dCompL ok g tt te (dwipe τ vs) (xs.drop (i + 1)) acc DH4 (fun acc H2 => if mu = true then ∀ p, H2 p = none → R (.ref p) (dupd H2 p (.lst acc)) else R (.lst acc) H2), fun H4 n => ?_, fun x H4 y => ?_⟩
    · obtain ⟨T4, DH4, acc, ws, a1, a2, a3, a4, a5, a6⟩ := n
      exact ⟨xs.length - (i + 1), by omega, T4, DH4, acc, ws, a1, a2, a3, a4, by omega, rfl, a5, a6⟩
    · obtain ⟨T4, s4, A4, r4⟩ := wk.yields i T' DH' H' x H4 xs[i] s3 A3 h3.1 (by simp [hlt]) y
      refine ⟨T4, DH', dwipe τ vs, xs[i], _, A4, S1.up (s3.trans s4), r4, h3.2, fun T5 DH5 H5 τ5 σ5 s5 A5 S5 h5 far => ⟨wipe_far far hx, T5, DH5, τ5, _, A5, S5, h5, fun T6 DH6 H6 b s6 A6 h6 => ?_⟩⟩
      have s46 := s4.trans (s5.trans s6)
      cases b with
      | true =>
        dsimp only
        rw [if_pos rfl] at h6 ⊢
        refine ⟨T6, DH6, τ5, _, A6, S5.up s6, h6, fun T7 DH7 H7 d v s7 A7 r7 h7 => ?_⟩
        have e7 : T7 D = some (.frz ob (.lst ws)) := s7 _ _ (s46 _ _ eD)
        have eH : H7 D = some (.lst ws) := A7.sub D _ e7
        have r8 := RepL.up (s46.trans s7) _ _ rw'
        have bt := But.upd e7 (.frz ob (.lst (ws ++ [v])))
        refine ⟨ws, eH, by rw [r8.length]; omega, upd T7 D (.frz ob (.lst (ws ++ [v]))), DH7, acc ++ [d], ws ++ [v], sameMod (s3.trans (s46.trans s7)) hT1, upd_same, RepL.but bt _ _ (r8.append (.cons r7 .nil)), A7.mod e7, by simp; omega, h7⟩
      | false =>
        dsimp only
        rw [if_neg Bool.false_ne_true] at h6 ⊢
        exact ⟨T6, DH6, acc, ws, s3.trans s46, s46 _ _ eD, RepL.up s46 _ _ rw', A6, by omega, h6⟩
  · have e : i = xs.length := by omega
    subst e
    rw [List.drop_length] at h3
    refine .inl ⟨wk.stops T' DH' H' s3 A3 h3.1, ?_⟩
    have h4 := h3.2
    cases mu with
    | true =>
      rw [if_pos rfl] at h4
      obtain ⟨A5, n⟩ := A3.toldM eD rw'
      refine u _ _ H' (.ref D) _ (s1.trans (fun b z q => ?_)) A5 rfl (h4 D n)
      rw [if_neg (ne_of_none q hT1)]
      exact s3 b z q
    | false =>
      rw [if_neg Bool.false_ne_true] at h4
      have bt := But.upd eD (.lst ws)
      exact u _ _ H' (.lst acc) _ (s1.trans (sameMod s3 hT1)) (A3.toldF eD) ⟨D, ws, rfl, upd_same, RepL.but bt _ _ rw'⟩ h4
theorem qe_lc {mu : Bool} {elt iter : Expr} {ifs : List Expr} {scope : Scope} {own : List (Str × Nat)} {ix : List Nat} {ti : DI} {g : DG} {tt : DT} (hc : X.calm = true) (hN : X.N.Nodup) (hi : QI X tg iter ti) (ok : BlkOk X.N X.env.scope scope own)
    (hg : ∀ (s : Shared) (H : Hp) (C : Addr) (cl : List (Str × Addr)) (fp : List Addr), QG (X.blk s H scope (compEnvC scope cl C X.env) fp) tg ix g) (ht : ∀ (s : Shared) (H : Hp) (C : Addr) (cl : List (Str × Addr)) (fp : List Addr), QTs (X.blk s H scope (compEnvC scope cl C X.env) fp) ifs tt)
    (he : ∀ (s : Shared) (H : Hp) (C : Addr) (cl : List (Str × Addr)) (fp : List Addr), QE (X.blk s H scope (compEnvC scope cl C X.env) fp) elt te) (hx : ∀ i ∈ ix, i ∈ own.map (·.2) := by decide) (hs : ∀ x, foldedSetIterable iter X.env x = pure x := by intro _; rfl) :
    QE X (.ListComp elt [⟨tg, iter, ifs, 0⟩] scope pos) (dLc mu ti g tt te (own.map (·.2))) :=
  ⟨peW (pe_lc hc hN hi.run ok (fun s H C cl fp => (hg s H C cl fp).run) (fun s H C cl fp => (ht s H C cl fp).run) (fun s H C cl fp => (he s H C cl fp).run) hs) (lc_lo hx)⟩
theorem qs_setLc {mu : Bool} {i : Nat} {y : Str} {py spos : Pos} {elt iter : Expr} {ifs : List Expr} {scope : Scope} {own : List (Str × Nat)} {ix : List Nat} {ti : DI} {g : DG} {tt : DT} (hc : X.calm = true) (hN : X.N.Nodup) (hi : QI X tg iter ti) (ok : BlkOk X.N X.env.scope scope own)
    (hg : ∀ (s : Shared) (H : Hp) (C : Addr) (cl : List (Str × Addr)) (fp : List Addr), QG (X.blk s H scope (compEnvC scope cl C X.env) fp) tg ix g) (ht : ∀ (s : Shared) (H : Hp) (C : Addr) (cl : List (Str × Addr)) (fp : List Addr), QTs (X.blk s H scope (compEnvC scope cl C X.env) fp) ifs tt)
    (he : ∀ (s : Shared) (H : Hp) (C : Addr) (cl : List (Str × Addr)) (fp : List Addr), QE (X.blk s H scope (compEnvC scope cl C X.env) fp) elt te) (hy : X.N[i]? = some y := by rfl) (hyl : X.env.scope.names.lookup y = some .local := by rfl)
    (hsw : swapsWith (.ListComp elt [⟨tg, iter, ifs, 0⟩] scope pos) (some (.Name y py)) spos.line X.env = pure true := by exact sw_true rfl rfl rfl (by decide +kernel)) (hx : ∀ i ∈ ix, i ∈ own.map (·.2) := by decide) (hs : ∀ x, foldedSetIterable iter X.env x = pure x := by intro _; rfl) :
    QS X (.Assign [.Name y py] (.ListComp elt [⟨tg, iter, ifs, 0⟩] scope pos) spos) (dAsg (dLc mu ti g tt te (own.map (·.2))) (gN i)) :=
  ⟨psW (ps_setLc hc hN hy hyl hsw hi.run ok (fun s H C cl fp => (hg s H C cl fp).run) (fun s H C cl fp => (ht s H C cl fp).run) (fun s H C cl fp => (he s H C cl fp).run) hs) fun E σ H ⟨T, DH, τ, R, A, S, h, u⟩ => by
    show tLc _ _ _ _ _ σ H (fun x H1 => L2.gName i x σ H1 E.nx)
    exact lc_lo hx σ H _ ⟨T, DH, τ, _, A, S, h, fun T1 DH1 H1 x v s1 A1 r1 h1 => u.nx T1 DH1 H1 _ _ s1 A1 ((S.up s1).set r1 i) h1⟩⟩

/-! ### the body of a def -/
def dstart (N : List Str) (ds : List D) : DSt := ds.map some ++ List.replicate (N.length - ds.length) none
theorem start_rep {N : List Str} {T : Hp} {ds : List D} {vs : List V} (r : RepL T ds vs) : RepS T (dstart N ds) (L2.start N vs) := by
  unfold dstart L2.start
  refine ⟨by simp [r.length], fun i d e => ?_⟩
  by_cases hi : i < ds.length
  · rw [List.getElem?_append_left (by simpa using hi), List.getElem?_map] at e
    cases q : ds[i]? with
    | none => rw [q] at e; cases e
    | some d' =>
      rw [q] at e; cases e
      obtain ⟨v, e1, r1⟩ := r.get q
      exact ⟨v, by rw [List.getElem?_append_left (by simp [r.length, hi]), List.getElem?_map, e1]; rfl, r1⟩
  · rw [List.getElem?_append_right (by simpa using hi), List.getElem?_replicate] at e
    split at e <;> cases e
/-- what a body is to reach: what it made is forgotten -/
def bodyE (Q : DK) : DEnds := { nx := fun _ H => ∃ H2, DSub H2 H ∧ Q .non H2, rt := fun d H => ∃ H2, DSub H2 H ∧ Q d H2 }
end
section
variable {P : Program} {w : World} {K : PySem.W.Frag} {mg : Str → Option Value} {base : Heap}
/-- a def's promise by its body, over data -/
theorem dok {x qual : Str} {st : Stmt} {f : Addr} {fd : FuncData} {N ps : List Str} {k : Nat} {sp : DSp} (F : Fun K x qual st f fd) (S : FnScope N ps (defScope st)) (len : ∀ ds H Q, sp ds H Q → ds.length = ps.length)
    (hbody : ∀ (cdv : Value) (A : Around) (outer : List Env) (s : Shared) (H : Hp) (ds : List D) (DH : DHp) (Q : DK), Room k (A.deeper (envOfC qual (defScope st) s.heap.objs.size f cdv)) → sp ds DH Q →
      ∃ t, QSs (cxOf CX0 P w K mg base N qual (defScope st) f cdv A outer s H E0).nox (defBody st) t ∧ t (bodyE Q) (dstart N ds) DH) : FnOk P w K mg base CX0 (k + 1) f fd ps (loP sp) := by
  refine F.ok S (fun vs H Q E h => ?_) fun cdv A outer s H vs Q E hr h => ?_
  · obtain ⟨T, DH, ds, R, A, r, h, u⟩ := h
    rw [r.length]
    exact len _ _ _ h
  · obtain ⟨T, DH, ds, R, AA, r, h, u⟩ := h
    obtain ⟨t, ht, hq⟩ := hbody cdv A outer s H ds DH R hr h
    refine ⟨_, ht.run, T, DH, dstart N ds, _, AA, start_rep r, hq, ⟨fun T1 DH1 H1 τ1 σ1 s1 A1 S1 h1 => ?_, fun T1 DH1 H1 d v s1 A1 r1 h1 => ?_, fun _ _ _ _ _ _ _ _ h1 => h1, fun _ _ _ _ _ _ _ _ h1 => h1⟩⟩
    · obtain ⟨H2, hs, h1⟩ := h1
      exact u T1 H2 H1 .non _ s1 (A1.drop hs) rfl h1
    · obtain ⟨H2, hs, h1⟩ := h1
      exact u T1 H2 H1 d v s1 (A1.drop hs) r1 h1
end
end DL

/-! DL6: dicts, methods of lists, enumerate of a tuple, the text of a value, over data. -/
namespace DL
open PySem PySem.Spec PyProof.Rows L2

/-! ### dicts -/
section
variable {κ : Type} [DecidableEq κ]
def dval (kvs : List (κ × D)) (k : κ) : Option D := (kvs.find? fun kv => decide (kv.1 = k)).map (·.2)
def dput (kvs : List (κ × D)) (k : κ) (v : D) : List (κ × D) :=
  if (kvs.any fun kv => decide (kv.1 = k)) = true then kvs.map (fun kv => if kv.1 = k then (kv.1, v) else kv) else kvs ++ [(k, v)]
theorem KVR.cons_inv {T : Hp} {x : κ × D} {xs : List (κ × D)} {ys : List (κ × V)} (h : KVR T (x :: xs) ys) : ∃ v r, ys = (x.1, v) :: r ∧ RepV T x.2 v ∧ KVR T xs r := by
  obtain ⟨h1, v, r, h2, h3, h4⟩ := h
  cases ys with
  | nil => cases h2
  | cons y ys =>
    simp only [List.map_cons, List.cons.injEq] at h1 h2
    exact ⟨y.2, ys, by rw [← h1.1], h2.1 ▸ h3, h1.2, by rw [h2.2]; exact h4⟩
theorem KVR.cons {T : Hp} {x : κ × D} {v : V} {xs : List (κ × D)} {ys : List (κ × V)} (h : RepV T x.2 v) (r : KVR T xs ys) : KVR T (x :: xs) ((x.1, v) :: ys) := ⟨by simp [r.1], .cons h r.2⟩
theorem KVR.val {T : Hp} (k : κ) : ∀ {xs : List (κ × D)} {ys : List (κ × V)}, KVR T xs ys → (dval xs k = none ∧ valV ys k = none) ∨ ∃ d v, dval xs k = some d ∧ valV ys k = some v ∧ RepV T d v
  | [], ys, h => by
    have : ys = [] := by have := h.1; simpa using this
    subst this
    exact .inl ⟨rfl, rfl⟩
  | x :: xs, ys, h => by
    obtain ⟨v, r, rfl, h1, h2⟩ := h.cons_inv
    by_cases e : x.1 = k
    · exact .inr ⟨x.2, v, by simp [dval, List.find?_cons, e], by simp [valV, List.find?_cons, e], h1⟩
    · have ih := KVR.val k h2
      simpa [dval, valV, List.find?_cons, e] using ih
theorem KVR.any {T : Hp} (k : κ) {xs : List (κ × D)} {ys : List (κ × V)} (h : KVR T xs ys) : (ys.any fun kv => decide (kv.1 = k)) = xs.any fun kv => decide (kv.1 = k) := by
  have a : ∀ {β : Type} (l : List (κ × β)), (l.any fun kv => decide (kv.1 = k)) = (l.map (·.1)).any fun z => decide (z = k) := by
    intro β l
    rw [List.any_map]
    rfl
  rw [a, a, h.1]
theorem KVR.map {T : Hp} (k : κ) {d : D} {v : V} (r : RepV T d v) : ∀ {xs : List (κ × D)} {ys : List (κ × V)}, KVR T xs ys → KVR T (xs.map fun kv => if kv.1 = k then (kv.1, d) else kv) (ys.map fun kv => if kv.1 = k then (kv.1, v) else kv)
  | [], ys, h => by
    have : ys = [] := by have := h.1; simpa using this
    subst this
    exact h
  | x :: xs, ys, h => by
    obtain ⟨w, q, rfl, h1, h2⟩ := h.cons_inv
    have ih := KVR.map k r h2
    rw [List.map_cons, List.map_cons]
    by_cases e : x.1 = k
    · rw [if_pos e, if_pos e]
      exact KVR.cons (x := (x.1, d)) r ih
    · rw [if_neg e, if_neg e]
      exact KVR.cons (x := x) h1 ih
theorem KVR.put {T : Hp} (k : κ) {d : D} {v : V} (r : RepV T d v) {xs : List (κ × D)} {ys : List (κ × V)} (h : KVR T xs ys) : KVR T (dput xs k d) (putK ys k v) := by
  unfold dput putK
  rw [h.any]
  split
  · exact h.map k r
  · exact ⟨by simp [h.1], by rw [List.map_append, List.map_append]; exact h.2.append (.cons r .nil)⟩
theorem KVR.length {T : Hp} {xs : List (κ × D)} {ys : List (κ × V)} (h : KVR T xs ys) : ys.length = xs.length := by have := congrArg List.length h.1; simpa using this
end
/-- a value as a key -/
def keyD : D → Option Key
  | .int i => some (.inl i)
  | .str x => some (.inr x)
  | _ => none
def keyT : D → Option (List Key)
  | .tup xs => xs.mapM keyD
  | _ => none
theorem keyD_rep {T : Hp} {d : D} {v : V} {k : Key} (r : RepV T d v) (h : keyD d = some k) : v = kV k := by
  cases d with
  | int i => cases h; exact r
  | str i => cases h; exact r
  | _ => cases h
theorem keysD_rep {T : Hp} : ∀ {ds : List D} {vs : List V} {ks : List Key}, RepL T ds vs → ds.mapM keyD = some ks → vs = ks.map kV
  | [], vs, ks, r, h => by
    cases (show vs = [] from r)
    simp at h
    subst h
    rfl
  | d :: ds, vs, ks, r, h => by
    obtain ⟨v, q, rfl, h1, h2⟩ := r
    rw [List.mapM_cons] at h
    cases e : keyD d with
    | none => rw [e] at h; cases h
    | some k =>
      rw [e] at h
      cases e2 : ds.mapM keyD with
      | none => rw [e2] at h; cases h
      | some js =>
        rw [e2] at h
        cases h
        rw [keyD_rep h1 e, keysD_rep h2 e2]
        rfl
/-- d[k] -/
def lookD (H : DHp) (x y : D) (K : Option D → Prop) : Prop := match x with
  | .ref p => (match H p with
    | some (.dK kvs) => (match keyD y with | some k => K (dval kvs k) | none => False)
    | some (.dT kvs) => (match keyT y with | some k => K (dval kvs k) | none => False)
    | _ => False)
  | _ => False
section
variable {X : Cx} {T : Hp} {DH : DHp} {H : Hp} {a b c e : Expr} {es : List Expr} {ta tb tc te : DE} {t : DA} {pos apos cpos : Pos}
theorem look_rep (A : Abs T DH H) {x y : D} {v u : V} {K : Option D → Prop} (r1 : RepV T x v) (r2 : RepV T y u) (h : lookD DH x y K) : ∃ p o d, v = .ref p ∧ DGet H p u o ∧ K d ∧ ((d = none ∧ o = none) ∨ ∃ z w, d = some z ∧ o = some w ∧ RepV T z w) := by
  cases x with
  | ref p =>
    cases (show v = .ref p from r1)
    unfold lookD at h
    simp only at h
    split at h
    · rename_i kvs e1
      split at h
      · rename_i k e2
        obtain ⟨ys, g, q⟩ := A.dK e1
        have eu := keyD_rep r2 e2
        subst eu
        refine ⟨p, valV ys k, _, rfl, DGet.k g, h, ?_⟩
        rcases q.val k with ⟨q1, q2⟩ | ⟨d, v, q1, q2, q3⟩
        · exact .inl ⟨q1, q2⟩
        · exact .inr ⟨d, v, q1, q2, q3⟩
      · exact h.elim
    · rename_i kvs e1
      split at h
      · rename_i k e2
        obtain ⟨ys, g, q⟩ := A.dT e1
        cases y with
        | tup xs =>
          obtain ⟨b, ws, rfl, tb, rw'⟩ := r2
          have ek := keysD_rep rw' e2
          subst ek
          refine ⟨p, valV ys k, _, rfl, DGet.t g (A.sub _ _ tb), h, ?_⟩
          rcases q.val k with ⟨q1, q2⟩ | ⟨d, v, q1, q2, q3⟩
          · exact .inl ⟨q1, q2⟩
          · exact .inr ⟨d, v, q1, q2, q3⟩
        | _ => cases e2
      · exact h.elim
    · exact h.elim
  | _ => exact (show False from h).elim
def dGet (td ty : DE) : DE := fun τ H Q => td τ H fun x H1 => ty τ H1 fun y H2 => lookD H2 x y fun o => match o with
  | some d => Q d H2
  | none => False
theorem qe_dget (hu : X.A.units + 1 < cLine) (ha : QE X a ta) (hb : QE X b tb) (hs : NoSl b := by exact fun _ _ => rfl) : QE X (.Subscript a b pos) (dGet ta tb) :=
  ⟨peW (pe_dget hu ha.run hb.run hs) fun σ H Q ⟨T, DH, τ, R, A, S, h, u⟩ => by
    refine lo_two (Q := fun v w H2 => ∃ a z, v = .ref a ∧ DGet H2 a w (some z) ∧ Q z H2) A S h fun T' DH' H' x y v w s A' r1 r2 h' => ?_
    obtain ⟨p, o, d, rfl, g, k, q⟩ := look_rep A' r1 r2 h'
    rcases q with ⟨rfl, rfl⟩ | ⟨z, w', rfl, rfl, q⟩
    · exact k.elim
    · exact ⟨p, w', rfl, g, u T' DH' H' z w' s A' q k⟩⟩
def dIn (neg : Bool) (ty td : DE) : DE := fun τ H Q => ty τ H fun y H1 => td τ H1 fun x H2 => lookD H2 x y fun o => Q (.bl (if neg then !o.isSome else o.isSome)) H2
theorem loIn {neg : Bool} {f : Option V → Bool} (hf : ∀ o : Option V, f o = if neg then !o.isSome else o.isSome) : ∀ σ H Q, lo (dIn neg ta tb) σ H Q → lo ta σ H fun y H1 => lo tb σ H1 fun x H2 => ∃ a o, x = .ref a ∧ DGet H2 a y o ∧ Q (.bl (f o)) H2 := fun σ H Q ⟨T, DH, τ, R, A, S, h, u⟩ => by
  refine lo_two (Q := fun w v H2 => ∃ a o, v = .ref a ∧ DGet H2 a w o ∧ Q (.bl (f o)) H2) A S h fun T' DH' H' y x w v s A' r2 r1 h' => ?_
  obtain ⟨p, o, d, rfl, g, k, q⟩ := look_rep A' r1 r2 h'
  refine ⟨p, o, rfl, g, ?_⟩
  have e : o.isSome = d.isSome := by
    rcases q with ⟨rfl, rfl⟩ | ⟨z, w', rfl, rfl, _⟩ <;> rfl
  rw [hf, e]
  exact u T' DH' H' _ _ s A' (show RepV T' (.bl _) (.bl _) from rfl) k
theorem qe_din (hu : X.A.units + 1 < cLine) (ha : QE X a ta) (hb : QE X b tb) (hm : behindInMarks .In b = false := by first | rfl | with_unfolding_all rfl) : QE X (.Compare a [.In] [b] pos) (dIn false ta tb) := ⟨peW (pe_cmp (pc_din hu ha.run hb.run) hm) fun σ H Q h => loIn (neg := false) (f := fun o => o.isSome) (fun _ => rfl) σ H Q h⟩
theorem qe_dnotin (hu : X.A.units + 1 < cLine) (ha : QE X a ta) (hb : QE X b tb) (hm : behindInMarks .NotIn b = false := by first | rfl | with_unfolding_all rfl) : QE X (.Compare a [.NotIn] [b] pos) (dIn true ta tb) := ⟨peW (pe_cmp (pc_dnotin hu ha.run hb.run) hm) fun σ H Q h => loIn (neg := true) (f := fun o => !o.isSome) (fun _ => rfl) σ H Q h⟩
theorem qt_din (hu : X.A.units + 1 < cLine) (ha : QE X a ta) (hb : QE X b tb) (hm : behindInMarks .In b = false := by first | rfl | with_unfolding_all rfl) : QT X (.Compare a [.In] [b] pos) (dB (dIn false ta tb)) :=
  ⟨ptW (pt_cmp (pc_din hu ha.run hb.run) hm) fun σ H Q h => loIn (neg := false) (f := fun o => o.isSome) (fun _ => rfl) σ H _ (lo_test σ H Q h)⟩
theorem qt_dnotin (hu : X.A.units + 1 < cLine) (ha : QE X a ta) (hb : QE X b tb) (hm : behindInMarks .NotIn b = false := by first | rfl | with_unfolding_all rfl) : QT X (.Compare a [.NotIn] [b] pos) (dB (dIn true ta tb)) :=
  ⟨ptW (pt_cmp (pc_dnotin hu ha.run hb.run) hm) fun σ H Q h => loIn (neg := true) (f := fun o => !o.isSome) (fun _ => rfl) σ H _ (lo_test σ H Q h)⟩
/-- d[k] = v -/
def storeD (H : DHp) (x y v : D) (K : DHp → Prop) : Prop := match x with
  | .ref p => (match H p with
    | some (.dK kvs) => (match keyD y with | some k => kvs.length < sizeLine ∧ K (dupd H p (.dK (dput kvs k v))) | none => False)
    | some (.dT kvs) => (match keyT y with | some k => kvs.length < sizeLine ∧ K (dupd H p (.dT (dput kvs k v))) | none => False)
    | some (.lst xs) => (match y with | .int i => (match ixN xs.length i with | some j => K (dupd H p (.lst (xs.set j v))) | none => False) | _ => False)
    | _ => False)
  | _ => False
theorem store_rep (A : Abs T DH H) {x y z : D} {v u w : V} {K : DHp → Prop} (r1 : RepV T x v) (r2 : RepV T y u) (r3 : RepV T z w) (h : storeD DH x y z K) : ∃ p, v = .ref p ∧ ((∃ H' DH', DPut H p u w H' ∧ Abs T DH' H' ∧ K DH') ∨ ∃ vs i j DH', u = .int i ∧ H p = some (.lst vs) ∧ ixN vs.length i = some j ∧ Abs T DH' (upd H p (.lst (vs.set j w))) ∧ K DH') := by
  cases x with
  | ref p =>
    cases (show v = .ref p from r1)
    unfold storeD at h
    simp only at h
    refine ⟨p, rfl, ?_⟩
    split at h
    · rename_i kvs e1
      split at h
      · rename_i k e2
        obtain ⟨ys, g, q⟩ := A.dK e1
        have eu := keyD_rep r2 e2
        subst eu
        exact .inl ⟨_, _, DPut.k g (by rw [q.length]; exact h.1), A.put (x := .dK (dput kvs k z)) e1 (by simp) ⟨_, rfl, q.put k r3⟩, h.2⟩
      · exact h.elim
    · rename_i kvs e1
      split at h
      · rename_i k e2
        obtain ⟨ys, g, q⟩ := A.dT e1
        cases y with
        | tup xs =>
          obtain ⟨b, ws, rfl, tb, rw'⟩ := r2
          have ek := keysD_rep rw' e2
          subst ek
          exact .inl ⟨_, _, .inr ⟨ys, k, b, g, rfl, A.sub _ _ tb, by rw [q.length]; exact h.1, rfl⟩, A.put (x := .dT (dput kvs k z)) e1 (by simp) ⟨_, rfl, q.put k r3⟩, h.2⟩
        | _ => cases e2
      · exact h.elim
    · rename_i xs e1
      split at h
      · rename_i i
        split at h
        · rename_i j ej
          obtain ⟨vs, g, q⟩ := A.lst e1
          exact .inr ⟨vs, i, j, _, r2, g, by rw [q.length]; exact ej, A.put (x := .lst (xs.set j z)) e1 (by simp) ⟨_, rfl, q.set r3 j⟩, h⟩
        · exact h.elim
      · exact h.elim
    · exact h.elim
  | _ => exact (show False from h).elim
theorem ps_any (hu : X.A.units + 1 < cLine) {o i value : Expr} {td ty tv : TE} {pos' : Pos} (ho : PE X o td) (hi : PE X i ty) (hv : PE X value tv) (hs : swapsWith value (some (.Subscript o i pos')) pos.line X.env = pure false) :
    PS X (.Assign [.Subscript o i pos'] value pos) (fun D σ H => tv σ H fun v H1 => td σ H1 fun x H2 => ty σ H2 fun y H3 => ∃ a, x = .ref a ∧ ((∃ H4, DPut H3 a y v H4 ∧ D.nx σ H4) ∨ ∃ xs k j, y = .int k ∧ H3 a = some (.lst xs) ∧ ixN xs.length k = some j ∧ D.nx σ (upd H3 a (.lst (xs.set j v))))) := by
  refine ⟨fun pins s σ H D I h => ?_⟩
  refine wpAny_Assign_Subscript (thn (hv.run pins s σ H _ I h) fun r s1 ⟨v, H1, I1, rv, q1⟩ => thn (ho.run pins s1 σ H1 _ I1 q1) fun u s2 ⟨x, H2, I2, rx, q2⟩ => thn (hi.run pins s2 σ H2 _ I2 q2) fun iv s3 ⟨y, H3, I3, ry, a, ex, q3⟩ => ?_) hs
  subst ex
  rcases q3 with ⟨H4, g, q3⟩ | ⟨xs, k, j, ey, g, ej, q3⟩
  · obtain rfl : u = Value.ref a := rx
    exact d_setItem hu I3 g ry rv fun s4 I4 => ⟨σ, H4, I4, q3⟩
  · exact thn (set_list pins s3 σ H3 (.ref a) y v u iv r (fun H4 => D.nx σ H4) I3 rx ry rv ⟨a, xs, k, j, rfl, ey, g, ej, q3⟩) fun _ s4 ⟨H4, I4, q4⟩ => ⟨σ, H4, I4, q4⟩
def dStore (td ty tv : DE) : DS := fun E τ H => tv τ H fun v H1 => td τ H1 fun x H2 => ty τ H2 fun y H3 => storeD H3 x y v (E.nx τ)
theorem qs_store {o i value : Expr} {td ty tv : DE} {pos' : Pos} (hu : X.A.units + 1 < cLine) (ho : QE X o td) (hi : QE X i ty) (hv : QE X value tv) (hs : swapsWith value (some (.Subscript o i pos')) pos.line X.env = pure false := by rfl) : QS X (.Assign [.Subscript o i pos'] value pos) (dStore td ty tv) :=
  ⟨psW (ps_any hu ho.run hi.run hv.run hs) fun E σ H ⟨T, DH, τ, R, A, S, h, u⟩ => ⟨T, DH, τ, _, A, S, h, fun T1 DH1 H1 z w s1 A1 r1 h1 => by
    refine lo_two (Q := fun x y H3 => ∃ a, x = .ref a ∧ ((∃ H4, DPut H3 a y w H4 ∧ E.nx σ H4) ∨ ∃ xs k j, y = .int k ∧ H3 a = some (.lst xs) ∧ ixN xs.length k = some j ∧ E.nx σ (upd H3 a (.lst (xs.set j w))))) A1 (S.up s1) h1 fun T' DH' H' x y v u' s A' r2 r3 h' => ?_
    obtain ⟨p, rfl, q⟩ := store_rep A' r2 r3 (r1.up s) h'
    have ss := s1.trans s
    rcases q with ⟨H4, DH4, g, A4, k⟩ | ⟨vs, i, j, DH4, rfl, g, ej, A4, k⟩
    · exact ⟨p, rfl, .inl ⟨H4, g, u.nx T' DH4 H4 τ σ ss A4 (S.up ss) k⟩⟩
    · exact ⟨p, rfl, .inr ⟨vs, i, j, rfl, g, ej, u.nx T' DH4 _ τ σ ss A4 (S.up ss) k⟩⟩⟩⟩
/-- {}, free to be filled -/
def dNewK : DE := fun _ H Q => ∀ p, H p = none → Q (.ref p) (dupd H p (.dK []))
def dNewT : DE := fun _ H Q => ∀ p, H p = none → Q (.ref p) (dupd H p (.dT []))
theorem qe_newK : QE X (.Dict [] [] pos) dNewK := ⟨peW pe_dnewK fun σ H Q ⟨T, DH, τ, R, A, S, h, u⟩ => fun p hp => u T _ _ (.ref p) _ (Same.refl _) (A.new (x := .dK []) hp ⟨[], rfl, rfl, .nil⟩) rfl (h p (A.free hp).2)⟩
theorem qe_newT : QE X (.Dict [] [] pos) dNewT := ⟨peW pe_dnewT fun σ H Q ⟨T, DH, τ, R, A, S, h, u⟩ => fun p hp => u T _ _ (.ref p) _ (Same.refl _) (A.new (x := .dT []) hp ⟨[], rfl, rfl, .nil⟩) rfl (h p (A.free hp).2)⟩
/-- {k: v, ..} -/
def dPairs : List (DE × DE) → DSt → DHp → (List (D × D) → DHp → Prop) → Prop
  | [], _, H, Q => Q [] H
  | (tk, tv) :: r, τ, H, Q => tk τ H fun k H1 => tv τ H1 fun v H2 => dPairs r τ H2 fun ps H3 => Q ((k, v) :: ps) H3
def keysOf : List (D × D) → Option (List (Key × D))
  | [] => some []
  | (k, v) :: r => (keyD k).bind fun k' => (keysOf r).map fun r' => (k', v) :: r'
structure QPs (X : Cx) (pos : Pos) (ks : List (Option Expr)) (vs : List Expr) (trs : List (DE × DE)) : Prop where
  run : PPs X pos ks vs (trs.map fun p => (lo p.1, lo p.2))
theorem qps_nil : QPs X pos [] [] [] := ⟨pps_nil⟩
theorem qps_cons {k v : Expr} {ks : List (Option Expr)} {vs : List Expr} {tk tv : DE} {trs : List (DE × DE)} (hk : QE X k tk) (hv : QE X v tv) (hr : QPs X pos ks vs trs) : QPs X pos (some k :: ks) (v :: vs) ((tk, tv) :: trs) := ⟨pps_cons hk.run hv.run hr.run⟩
def dDisp (trs : List (DE × DE)) : DE := fun τ H Q => ∀ p, H p = none → dPairs trs τ (dupd H p (.dK [])) fun ps H2 => H2 p = some (.dK []) ∧ match keysOf ps with
  | some kvs => (kvs.map (·.1)).Nodup ∧ kvs.length ≤ 15 ∧ Q (.ref p) (dupd H2 p (.dK kvs))
  | none => False
def RepPs (T : Hp) : List (D × D) → List (V × V) → Prop
  | [], ws => ws = []
  | (k, v) :: r, ws => ∃ a b q, ws = (a, b) :: q ∧ RepV T k a ∧ RepV T v b ∧ RepPs T r q
theorem RepPs.up {T T' : Hp} (s : Same T T') : ∀ (ps : List (D × D)) (ws : List (V × V)), RepPs T ps ws → RepPs T' ps ws
  | [], _, h => h
  | (k, v) :: r, _, ⟨a, b, q, e, h1, h2, h3⟩ => ⟨a, b, q, e, h1.up s, h2.up s, RepPs.up s r q h3⟩
theorem lo_pairs : ∀ (trs : List (DE × DE)) (T : Hp) (DH : DHp) (τ : DSt) (σ : L2.St) (H : Hp) (R : List (D × D) → DHp → Prop) (Q : List (V × V) → Hp → Prop), Abs T DH H → RepS T τ σ → dPairs trs τ DH R →
    (∀ T' DH' H' ps ws, Same T T' → Abs T' DH' H' → RepPs T' ps ws → R ps DH' → Q ws H') → tPairs (trs.map fun p => (lo p.1, lo p.2)) σ H Q
  | [], T, DH, τ, σ, H, R, Q, A, S, h, u => u T DH H [] [] (Same.refl _) A rfl h
  | (tk, tv) :: r, T, DH, τ, σ, H, R, Q, A, S, h, u =>
    ⟨T, DH, τ, _, A, S, h, fun T1 DH1 H1 k a s1 A1 r1 h1 => ⟨T1, DH1, τ, _, A1, S.up s1, h1, fun T2 DH2 H2 v b s2 A2 r2 h2 =>
      lo_pairs r T2 DH2 τ σ H2 _ _ A2 (S.up (s1.trans s2)) h2 fun T3 DH3 H3 ps ws s3 A3 r3 h3 => u T3 DH3 H3 ((k, v) :: ps) _ (s1.trans (s2.trans s3)) A3 ⟨a, b, ws, rfl, r1.up (s2.trans s3), r2.up s3, r3⟩ h3⟩⟩
theorem keysOf_rep {T : Hp} : ∀ {ps : List (D × D)} {ws : List (V × V)} {kvs : List (Key × D)}, RepPs T ps ws → keysOf ps = some kvs → ∃ ys : List (Key × V), ws = ys.map (fun kv => (kV kv.1, kv.2)) ∧ KVR T kvs ys
  | [], _, kvs, h, e => by
    cases (show _ = [] from h)
    cases e
    exact ⟨[], rfl, rfl, .nil⟩
  | (k, v) :: r, _, kvs, ⟨a, b, q, rfl, h1, h2, h3⟩, e => by
    unfold keysOf at e
    cases e1 : keyD k with
    | none => rw [e1] at e; cases e
    | some k' =>
      rw [e1] at e
      cases e2 : keysOf r with
      | none => rw [e2] at e; cases e
      | some r' =>
        rw [e2] at e
        cases e
        obtain ⟨ys, rfl, q2⟩ := keysOf_rep h3 e2
        exact ⟨(k', b) :: ys, by rw [List.map_cons, keyD_rep h1 e1], KVR.cons (x := (k', v)) h2 q2⟩
theorem merge_fresh : ∀ (ys acc : List (Key × V)), (acc.map (·.1) ++ ys.map (·.1)).Nodup → mergeK acc ys = acc ++ ys
  | [], acc, _ => by simp [mergeK]
  | y :: ys, acc, h => by
    have hn : (acc.any fun kv => decide (kv.1 = y.1)) = false := by
      rw [List.any_eq_false]
      intro z hz q
      have q : z.1 = y.1 := by simpa using q
      rw [List.map_cons, List.nodup_append] at h
      exact h.2.2 z.1 (List.mem_map_of_mem hz) y.1 List.mem_cons_self q
    have ih := merge_fresh ys (acc ++ [y]) (by simpa [List.append_assoc] using h)
    unfold mergeK at ih ⊢
    rw [List.foldl_cons]
    have e : putK acc y.1 y.2 = acc ++ [y] := by
      unfold putK
      rw [hn]
      rfl
    rw [e, ih]
    simp
theorem qe_disp {ks : List (Option Expr)} {vs : List Expr} {trs : List (DE × DE)} (h : QPs X pos ks vs trs) (hall : ks.all (·.isSome) = true := by rfl) (hl : ks.length = vs.length := by rfl) (h0 : ks ≠ [] := by exact fun z => by cases z) (h15 : ks.length ≤ 15 := by decide) : QE X (.Dict ks vs pos) (dDisp trs) :=
  ⟨peW (pe_disp h.run hall hl h0 h15) fun σ H Q ⟨T, DH, τ, R, A, S, h, u⟩ => fun p hp => by
    have A1 := A.new (x := .dK []) hp ⟨[], rfl, rfl, .nil⟩
    refine lo_pairs trs T _ τ σ _ _ _ A1 S (h p (A.free hp).2) fun T' DH' H' ps ws s' A' rp q => ?_
    obtain ⟨q1, q2⟩ := q
    split at q2
    · rename_i kvs e
      obtain ⟨ys, rfl, k2⟩ := keysOf_rep rp e
      obtain ⟨zs, g, z1, z2⟩ := A'.dK q1
      have ez : zs = [] := by simpa using z1
      subst ez
      refine ⟨g, ys, rfl, by rw [k2.length]; exact q2.2.1, ?_⟩
      rw [merge_fresh ys [] (by rw [List.map_nil, List.nil_append, k2.1]; exact q2.1), List.nil_append]
      exact u T' _ _ (.ref p) _ s' (A'.put (x := .dK kvs) q1 (by simp) ⟨ys, rfl, k2⟩) rfl q2.2.2
    · exact q2.elim⟩

/-! ### methods of lists -/
def loM (r : D → List D → DHp → DK → Prop) : V → List V → Hp → VK → Prop := fun v vs H Q => ∃ T DH x ds R, Abs T DH H ∧ RepV T x v ∧ RepL T ds vs ∧ r x ds DH R ∧ Up T R Q
theorem mtrW {id : String} {r r' : V → List V → Hp → VK → Prop} (h : MtR X id r) (w : ∀ x xs H Q, r' x xs H Q → r x xs H Q) : MtR X id r' := fun pins s σ H x xs v us Q I rx rs q => h pins s σ H x xs v us Q I rx rs (w x xs H Q q)
/-- the value is of the type -/
def ofTy (T : String) (H : DHp) (x : D) : Prop := match x with
  | .str _ => T = "str"
  | .lst _ => T = "list"
  | .ref p => (match H p with
    | some (.lst _) => T = "list"
    | some (.dK _) => T = "dict"
    | some (.dT _) => T = "dict"
    | _ => False)
  | _ => False
theorem ofTy_rep {K : PySem.W.Frag} (A : Abs T DH H) {ty : String} {x : D} {v : V} (r : RepV T x v) (h : ofTy ty DH x) : tyV K ty v H := by
  cases x with
  | str y => cases (show v = .str y from r); exact h
  | lst xs =>
    obtain ⟨p, vs, rfl, t, _⟩ := r
    exact .inl ⟨h, vs, SqL.of (A.sub _ _ t)⟩
  | ref p =>
    cases (show v = .ref p from r)
    unfold ofTy at h
    simp only at h
    split at h
    · rename_i xs e
      obtain ⟨vs, g, _⟩ := A.lst e
      exact .inl ⟨h, vs, SqL.of g⟩
    · rename_i xs e
      obtain ⟨vs, g, _⟩ := A.dK e
      exact .inr (.inr (.inl ⟨h, .inl ⟨vs, g⟩⟩))
    · rename_i xs e
      obtain ⟨vs, g, _⟩ := A.dT e
      exact .inr (.inr (.inl ⟨h, .inr ⟨vs, g⟩⟩))
    · exact h.elim
  | _ => exact (show False from h).elim
def dBM0 (ty : String) (r : D → List D → DHp → DK → Prop) (to : DE) : DE := fun τ H Q => to τ H fun x H1 => ofTy ty H1 x ∧ r x [] H1 Q
def dBM (ty : String) (r : D → List D → DHp → DK → Prop) (to : DE) (t : DA) : DE := fun τ H Q => to τ H fun x H1 => ofTy ty H1 x ∧ t τ H1 fun xs H2 => r x xs H2 Q
variable {o : Expr} {to : DE} {name : Str} {id ty : String} {r : D → List D → DHp → DK → Prop}
theorem qe_bm0 (pa : PlainAttrs ty) (slot : Slot ty name id) (hty : typeOf (.builtin id) = pure (.type "method_descriptor")) (hm : MtR X id (loM r)) (ho : QE X o to)
    (hbase : attributeBase o name X.env (eval o X.env) = eval o X.env := by rfl) (hline : (apos.endLine == cpos.line) = true := by rfl) : QE X (.Call (.Attribute o name apos) [] [] cpos) (dBM0 ty r to) :=
  ⟨peW (pe_bm0 pa slot hty hm ho.run hbase hline) fun σ H Q ⟨T, DH, τ, R, A, S, h, u⟩ => ⟨T, DH, τ, _, A, S, h, fun T1 DH1 H1 x v s1 A1 r1 h1 => ⟨ofTy_rep A1 r1 h1.1, T1, DH1, x, [], R, A1, r1, .nil, h1.2, u.up s1⟩⟩⟩
theorem qe_bm (pa : PlainAttrs ty) (slot : Slot ty name id) (hty : typeOf (.builtin id) = pure (.type "method_descriptor")) (hm : MtR X id (loM r)) (ho : QE X o to) (ha : QA X (e :: es) t)
    (hbase : attributeBase o name X.env (eval o X.env) = eval o X.env := by rfl)
    (hfew : ((backTo cpos (starEach (e :: es) X.env)).all (fun x => !x.1) && (backToKw cpos (keywordEach [] X.env)).all (fun x => x.1.isSome) && decide ((e :: es).length + ([] : List Keyword).length + (if ([] : List Keyword).isEmpty then 0 else 1) < 30)) = true := by rfl)
    (hline : (apos.endLine == cpos.line) = true := by rfl) (hs : starEach (e :: es) X.env = (false, eval e X.env) :: starEach es X.env := by rfl) (hplain : (backTo cpos (starEach es X.env)).any (·.1) = false := by rfl) :
    QE X (.Call (.Attribute o name apos) (e :: es) [] cpos) (dBM ty r to t) :=
  ⟨peW (pe_bm pa slot hty hm ho.run ha.run hbase hfew hline hs hplain) fun σ H Q ⟨T, DH, τ, R, A, S, h, u⟩ => ⟨T, DH, τ, _, A, S, h, fun T1 DH1 H1 x v s1 A1 r1 h1 => ⟨ofTy_rep A1 r1 h1.1, T1, DH1, τ, _, A1, S.up s1, h1.2, fun T2 DH2 H2 xs vs s2 A2 r2 h2 => ⟨T2, DH2, x, xs, R, A2, r1.up s2, r2, h2, u.up (s1.trans s2)⟩⟩⟩⟩
/-- a list that may be changed -/
def onLst (H : DHp) (x : D) (k : Addr → List D → Prop) : Prop := match x with
  | .ref p => (match H p with | some (.lst xs) => k p xs | _ => False)
  | _ => False
theorem onLst_rep (A : Abs T DH H) {x : D} {v : V} {k : Addr → List D → Prop} (r : RepV T x v) (h : onLst DH x k) : ∃ p xs vs, x = .ref p ∧ v = .ref p ∧ DH p = some (.lst xs) ∧ H p = some (.lst vs) ∧ RepL T xs vs ∧ k p xs := by
  cases x with
  | ref p =>
    unfold onLst at h
    simp only at h
    split at h
    · rename_i xs e
      obtain ⟨vs, g, q⟩ := A.lst e
      exact ⟨p, xs, vs, rfl, r, e, g, q, h⟩
    · exact h.elim
  | _ => exact (show False from h).elim
def mAppend : D → List D → DHp → DK → Prop := fun x ds H Q => onLst H x fun p xs => match ds with
  | [d] => xs.length < sizeLine ∧ Q .non (dupd H p (.lst (xs ++ [d])))
  | _ => False
theorem md_append : MtR X "list.append" (loM mAppend) := mtrW (mt_append (X := X)) fun v vs H Q ⟨T, DH, x, ds, R, A, r1, r2, h, w⟩ => by
  obtain ⟨p, xs, us, rfl, rfl, e, g, q, h⟩ := onLst_rep A r1 h
  split at h
  · obtain ⟨u, rfl, ru⟩ := r2.one
    exact ⟨p, us, u, rfl, rfl, g, by rw [q.length]; exact h.1, w T _ _ .non _ (Same.refl _) (A.put (x := .lst (xs ++ [_])) e (by simp) ⟨_, rfl, q.append (.cons ru .nil)⟩) rfl h.2⟩
  · exact h.elim
def mPop : D → List D → DHp → DK → Prop := fun x ds H Q => onLst H x fun p xs => match ds with
  | [] => (match xs[xs.length - 1]? with | some d => Q d (dupd H p (.lst xs.dropLast)) | none => False)
  | [.int i] => (-(2 ^ 63) ≤ i ∧ i < 2 ^ 63) ∧ (match ixN xs.length i with | some j => (match xs[j]? with | some d => Q d (dupd H p (.lst (xs.eraseIdx j))) | none => False) | none => False)
  | _ => False
theorem md_pop : MtR X "list.pop" (loM mPop) := mtrW (MtR.or (mt_pop (X := X)) (mt_popAt (X := X))) fun v vs H Q ⟨T, DH, x, ds, R, A, r1, r2, h, w⟩ => by
  obtain ⟨p, xs, us, rfl, rfl, e, g, q, h⟩ := onLst_rep A r1 h
  split at h
  · split at h
    · rename_i d ed
      obtain ⟨u, eu, ru⟩ := q.get ed
      cases (show vs = [] from r2)
      exact .inl ⟨p, us, u, rfl, rfl, g, by rw [q.length]; exact eu, w T _ _ d _ (Same.refl _) (A.put (x := .lst xs.dropLast) e (by simp) ⟨_, rfl, q.dropLast⟩) ru h⟩
    · exact h.elim
  · rename_i i _
    obtain ⟨hb, h⟩ := h
    split at h
    · rename_i j ej
      split at h
      · rename_i d ed
        obtain ⟨u, eu, ru⟩ := q.get ed
        obtain ⟨z, rfl, rz⟩ := r2.one
        cases (show z = .int i from rz)
        have ej' : ixN us.length i = some j := by rw [q.length]; exact ej
        exact .inr ⟨p, us, i, j, u, rfl, rfl, g, hb.1, hb.2, (ixN_seq ej').1, eu, w T _ _ d _ (Same.refl _) (A.put (x := .lst (xs.eraseIdx j)) e (by simp) ⟨_, rfl, q.eraseIdx j⟩) ru h⟩
      · exact h.elim
    · exact h.elim
  · exact h.elim
end
end DL

/-! DL7: the text of a value; defs that ask for it; the end of a law; the script. -/
namespace DL
open PySem PySem.Spec PyProof.Rows L2

/-! ### repr -/
/-- a value whose text may be told -/
def showOk (d : D) : Prop := d.plain = true ∧ d.dep ≤ 60 ∧ d.py.showable = true ∧ d.py.shown.length ≤ sizeLine
def rReprD : DRC := fun ds H Q => match ds with
  | [d] => showOk (peek H d) ∧ Q (.str (peek H d).py.shown) H
  | _ => False
section
variable {X : Cx} {T : Hp} {DH : DHp} {H : Hp} {a b c e : Expr} {es : List Expr} {ta tb tc te : DE} {t : DA} {pos : Pos}
theorem cd_repr (hg : X.A.guards = some []) (hu : X.A.units + 64 < cLine) : CallR X (.builtin "repr") (loC rReprD) := by
  intro pins s σ H xs us Q I rv ⟨T, DH, ds, R, A, r, h, w⟩
  match ds, r, h with
  | [d], r, h =>
    obtain ⟨v, rfl, rr⟩ := r.one
    obtain ⟨u, rfl, ru⟩ := vals1 rv
    obtain ⟨⟨h1, h2, h3, h4⟩, h5⟩ := h
    have hd := peek_dp (K := X.K) A rr h1
    obtain ⟨as, rd⟩ := Dp.reads I _ v u hd ru
    obtain ⟨l1, l2⟩ := plain_lay _ h1
    have hnd := PyData.hasDict_of_canLay _ l1
    have fin : ∀ (h' : Heap) (tk : Tok) (tk' : Nat), (∀ b o, s.heap.get? b = some o → h'.get? b = some o) → EP X pins σ Q (.str (peek DH d).py.shown tk) { s with heap := h', toks := tk' } := fun h' tk tk' k =>
      ⟨.str _, H, I.kept k, ⟨_, rfl⟩, w.str A h5⟩
    generalize hp : (peek DH d).py = pd at *
    cases pd with
    | none =>
      cases rd
      exact PySem.P.repr_of_none (fin s.heap _ _ fun _ _ e => e)
    | bool k =>
      cases rd
      have := fin s.heap s.toks (s.toks + 1) fun _ _ e => e
      refine PySem.P.repr_of_bool ?_
      cases k <;> exact this
    | int i =>
      cases rd
      exact PySem.P.repr_of_int (by simpa [PyData.showable] using h3) (fin s.heap _ _ fun _ _ e => e)
    | str z =>
      cases rd
      exact PySem.P.repr_of_str (fin s.heap _ _ fun _ _ e => e) h4
    | list zs =>
      cases rd with
      | list a1 a2 a3 a4 =>
        exact repr_of_reads' (.list a1 a2 a3 a4) h3 (PyData.noDict_hsm hnd) hg (by rw [l2]; omega) (fun _ _ e => e) (fun h' u tk k => fin h' u tk k) h4
    | tuple zs =>
      cases rd with
      | tuple a1 a2 a3 a4 =>
        exact repr_of_reads' (.tuple a1 a2 a3 a4) h3 (PyData.noDict_hsm hnd) hg (by rw [l2]; omega) (fun _ _ e => e) (fun h' u tk k => fin h' u tk k) h4
    | dict kvs => simp [PyData.canLay0] at l1
  | [], _, h => exact (show False from h).elim
  | _ :: _ :: _, _, h => exact (show False from h).elim
/-- != of two texts -/
def rNeS : DR2 := fun x y H Q => match x, y with
  | .str a, .str b => Q (.bl (!(a == b))) H
  | _, _ => False
theorem od_neS : OpR X (compareOp .NotEq) (lo2 rNeS) := oprW (op_ne (X := X)) fun v u H Q ⟨T, DH, x, y, R, A, r1, r2, h, w⟩ => by
  unfold rNeS at h
  split at h
  · rename_i a b
    cases (show v = .str a from r1)
    cases (show u = .str b from r2)
    refine ⟨rfl, ?_⟩
    rw [dec_str]
    exact w.bl A h
  · exact h.elim
def rEqS : DR2 := fun x y H Q => match x, y with
  | .str a, .str b => Q (.bl (a == b)) H
  | _, _ => False
theorem od_eqS : OpR X (compareOp .Eq) (lo2 rEqS) := oprW (op_eq (X := X)) fun v u H Q ⟨T, DH, x, y, R, A, r1, r2, h, w⟩ => by
  unfold rEqS at h
  split at h
  · rename_i a b
    cases (show v = .str a from r1)
    cases (show u = .str b from r2)
    refine ⟨rfl, ?_⟩
    rw [dec_str]
    exact w.bl A h
  · exact h.elim

/-! ### the script -/
/-- a list of the written part -/
def KL (K : PySem.W.Frag) (a : Addr) (xs : List V) : Prop := ∃ (o : Obj) (its : Array Value) (n : Nat), K.lookup a = some o ∧ o.cls = .type "list" ∧ o.dict = none ∧ o.data = .seq its n ∧ its.size ≤ sizeLine ∧ Vals xs its.toList
def ScrAt (K : PySem.W.Frag) (DH : DHp) (a : Addr) (ns : List Int) : Prop := DH a = some (.scr (ns.map D.int)) ∨ KL K a (ns.map V.int)
theorem ScrAt.seq {K : PySem.W.Frag} {ns : List Int} {p : Addr} (A : Abs T DH H) (h : ScrAt K DH p ns) : SqL K H p (ns.map V.int) := by
  rcases h with h | h
  · obtain ⟨ob, vs, g, q⟩ := A.scr h
    rw [RepL.ints_inv q] at g
    exact .inl (.inr ⟨ob, g⟩)
  · exact .inr h
def dIScr (K : PySem.W.Frag) (te : DE) : DI := fun τ H R => te τ H fun x H1 => ∃ p ns, x = .ref p ∧ ScrAt K H1 p ns ∧ R (ns.map D.int) (fun H' => ScrAt K H' p ns) H1
theorem qi_scr {tg : Expr} (he : QE X e te) : QI X tg e (dIScr X.K te) := ⟨piW (pi_list he.run) fun σ H R ⟨T, DH, τ, RD, A, S, h, u⟩ => ⟨T, DH, τ, _, A, S, h, fun T1 DH1 H1 x v s1 A1 r1 h1 => by
  obtain ⟨p, ns, rfl, hs, h1⟩ := h1
  refine ⟨p, r1, ⟨_, hs.seq A1⟩, u T1 DH1 H1 _ _ _ s1 A1 (wk_list (RepL.ints ns) fun T' DH' H' s A' o => ScrAt.seq A' o) h1⟩⟩⟩
end

/-! ### defs that ask for the text of a value: nothing is being told around them -/
structure FnG (P : Program) (w : World) (K : PySem.W.Frag) (mg : Str → Option Value) (base : Heap) (k : Nat) (f : Addr) (ps : List Str) (fd : FuncData) (sp : Sp) : Prop where
  many : ∀ vs H Q E, sp vs H Q E → vs.length = ps.length
  goes : ∀ (A : Around) (outer : List Env) (s : Shared) (H : Hp) (args : Args) (us : List Value) (vs : List V) (Q : VK) (E : XK), A.guards = some [] → Room k A → Env0 P w K mg base A outer s H →
    BindsTo s fd args (ps.zip us) → Vals vs us → sp vs H Q E → codeAny (model P w) A (.call (.ref f) args) (CR CX0 outer P w H s Q E) s
section
variable {P : Program} {w : World} {K : PySem.W.Frag} {mg : Str → Option Value} {base : Heap}
theorem FnG.of {k : Nat} {f : Addr} {fd : FuncData} {ps : List Str} {sp : Sp} (F : FnOk P w K mg base CX0 k f fd ps sp) : FnG P w K mg base k f ps fd sp :=
  ⟨F.len, fun A outer s H args us vs Q E _ hr e0 hb r h => F.run A outer s H args us vs Q E hr e0 hb r h⟩
/-- by its body -/
theorem gok {x qual : Str} {st : Stmt} {f : Addr} {fd : FuncData} {N ps : List Str} {k : Nat} {sp : DSp} (F : Fun K x qual st f fd) (S : FnScope N ps (defScope st)) (len : ∀ ds H Q, sp ds H Q → ds.length = ps.length)
    (hbody : ∀ (cdv : Value) (A : Around) (outer : List Env) (s : Shared) (H : Hp) (ds : List D) (DH : DHp) (Q : DK), A.guards = some [] → Room k (A.deeper (envOfC qual (defScope st) s.heap.objs.size f cdv)) → sp ds DH Q →
      ∃ t, QSs (cxOf CX0 P w K mg base N qual (defScope st) f cdv A outer s H E0).nox (defBody st) t ∧ t (bodyE Q) (dstart N ds) DH) : FnG P w K mg base (k + 1) f ps fd (loP sp) := by
  have lenV : ∀ vs H Q E, loP sp vs H Q E → vs.length = ps.length := fun vs H Q E ⟨T, DH, ds, R, A, r, h, u⟩ => by rw [r.length]; exact len _ _ _ h
  refine ⟨lenV, fun A outer s H args us vs Q E hgd hr e0 hb r hsp => ?_⟩
  obtain ⟨oc, od, kV, doc, pm, an, cdv, ct, osl, rfl, lk, hcd⟩ := F.ex
  have many := lenV _ _ _ _ hsp
  have inBase : ∀ b o, base.get? b = some o → s.heap.get? b = some o := fun b o e => (e0.bs b o e).1
  have KX := e0.mod.kin.keeps inBase
  refine codeAny_call_function hr.depth (KX _ _ lk) rfl S.co S.gen rfl (PySem.W.codeRec_of KX hcd) (hb _ _ _ _ (wpAny_newFunctionEnv_cells S.kind (fun y hy => ?_) fun env he s1 x => ?_))
  · obtain ⟨n, z⟩ := y
    rcases S.par n (List.of_mem_zip hy).1 with q | q
    · exact .inl q
    · exact .inr ⟨q, PySem.W.cellsFrom_some _ _ _ (.inl q)⟩
  · subst he
    refine ⟨(e0.mod.nolimit.keeps inBase).keeps x.toInCall.keep, codeAny_func ?_⟩
    have I0 := inv_start (CX := CX0) (mg := mg) (cd := cdv) (f := f) (qual := qual) (E := E) S hr.hd e0 many r x
    obtain ⟨T, DH, ds, R, AA, rr, h, u⟩ := hsp
    obtain ⟨t, ht, hq⟩ := hbody cdv A outer s H ds DH R hgd (hr.deeper _) h
    have body := ht.run.nox.run [] s1 (L2.start N vs) H { nx := fun _ H' => Q .non H', rt := Q } I0 ⟨T, DH, dstart N ds, bodyE R, AA, start_rep rr, hq, ⟨fun T1 DH1 H1 τ1 σ1 q1 A1 S1 h1 => ?_, fun T1 DH1 H1 d v q1 A1 r1 h1 => ?_, fun _ _ _ _ _ _ _ _ h1 => h1, fun _ _ _ _ _ _ _ _ h1 => h1⟩⟩
    · refine wpAny_mono body (fun fl s' hs => ?_) fun e s' hs => hs
      cases fl with
      | ret z =>
        obtain ⟨v, σ', H', J, rv, q⟩ := hs
        exact ⟨v, H', J.os, J.bare, J.base, J.hok, rv, q⟩
      | next =>
        obtain ⟨σ', H', J, q⟩ := hs
        exact ⟨.non, H', J.os, J.bare, J.base, J.hok, rfl, q⟩
      | brk => exact (show False from hs.elim fun _ z => z.elim fun _ z => z.2).elim
      | cont => exact (show False from hs.elim fun _ z => z.elim fun _ z => z.2).elim
    · obtain ⟨H2, hs, h1⟩ := h1
      exact u T1 H2 H1 .non _ q1 (A1.drop hs) rfl h1
    · obtain ⟨H2, hs, h1⟩ := h1
      exact u T1 H2 H1 d v q1 (A1.drop hs) r1 h1
/-- its call -/
theorem qe_callG {X : Cx} {e : Expr} {es : List Expr} {t : DA} {x : Str} {p pos : Pos} {k : Nat} {f : Addr} {fd : FuncData} {ps : List Str} {sp : DSp} (F : FnG X.prog X.w X.K X.mg X.base k f ps fd (loP sp)) (hgd : X.A.guards = some []) (hr : Room k X.A) (hg : Gl X x) (hm : X.mg x = some (.ref f)) (hk : PySem.W.keepIn X.K (.ref f) = true) (hb : Binds X.K fd ps [])
    (ha : QA X (e :: es) t) (hdb : (x == ("__debug__" : Str)) = false := by decide) (he : starEach (e :: es) X.env = (false, eval e X.env) :: starEach es X.env := by rfl) (hpl : (backTo pos (starEach es X.env)).any (·.1) = false := by rfl) :
    QE X (.Call (.Name x p) (e :: es) [] pos) (dCB sp t) := by
  have raw : PE X (.Call (.Name x p) (e :: es) [] pos) (tCall (loP sp) [] E0 (loA t)) := by
    refine ⟨fun pins s σ H Q I h => wpAny_Call_Name_kw (ld_glob I hg hm (PySem.W.callWith_K (h₀ := X.base) I.ok.mod.kin hk (thn (ha.run.run pos pins s σ H _ I h) fun us s1 ⟨vs, H1, I1, r, q⟩ => ⟨I1.kIn, ?_⟩) he hpl) hdb)⟩
    have q : loP sp (vs ++ []) H1 Q E0 := q
    rw [List.append_nil] at q
    have hl : (us ++ []).length = ps.length := by rw [List.append_nil, ← r.length]; exact F.many _ _ _ _ q
    have hb2 := hb s1 us I1.kIn hl
    rw [List.append_nil] at hb2
    refine wpAny_call (codeAny_mono (F.goes X.A X.stack s1 H1 _ us vs Q E0 hgd hr I1.env0 hb2 r q) fun r' s' hq => ?_)
    cases r' with
    | error e => exact (show False from hq).elim
    | ok fl =>
      cases fl with
      | ret u => exact I1.after hq
      | next => exact (show False from hq).elim
      | brk => exact (show False from hq).elim
      | cont => exact (show False from hq).elim
  exact ⟨peW raw fun σ H Q ⟨T, DH, τ, R, A, S, h, u⟩ => ⟨T, DH, τ, _, A, S, h, fun T1 DH1 H1 xs vs s1 A1 r1 h1 => ⟨T1, DH1, xs, R, A1, by rw [List.append_nil]; exact r1, h1, u.up s1⟩⟩⟩

/-! ### the end of a law -/
/-- what a law promises -/
def spLaw (K : PySem.W.Frag) : DSp := fun ds DH Q => ∃ a ns, ds = [.ref a] ∧ ns.length ≤ 63 ∧ ScrAt K DH a ns ∧ ∀ DH', Q (.bl true) DH'
theorem spLaw_at {K : PySem.W.Frag} {H : Hp} {a : Addr} {ns : List Int} (hl : ns.length ≤ 63) (hO : Only H) (hS : SqL K H a (ns.map V.int)) : loP (spLaw K) [.ref a] H (fun v _ => v = .bl true) E0 := by
  have u : Up (fun _ => none) (fun d _ => d = .bl true) (fun v _ => v = V.bl true) := fun T' DH H' d v _ _ r e => by subst e; exact r
  rcases hS with hS | hS
  · have hf : ∃ o, H a = some (.frz o (.lst (ns.map V.int))) := by
      rcases hO a with z | ⟨o, xs, z⟩
      · rcases hS with q | ⟨o, q⟩ <;> (rw [z] at q; cases q)
      · rcases hS with q | ⟨o', q⟩
        · rw [z] at q; cases q
        · exact ⟨o', q⟩
    obtain ⟨o, hf⟩ := hf
    refine ⟨fun _ => none, fun b => if b = a then some (.scr (ns.map D.int)) else none, [.ref a], _, ⟨fun _ => none, fun _ _ e => (by cases e), fun b x e => ?_, fun _ _ e => (by cases e)⟩, .cons rfl .nil, ⟨a, ns, rfl, hl, .inl (if_pos rfl), fun _ => rfl⟩, u⟩
    by_cases q : b = a
    · rw [if_pos q] at e; cases e; subst q
      exact ⟨rfl, fun z => (by cases z), fun _ => ⟨_, hf, o, _, rfl, RepL.ints _⟩⟩
    · rw [if_neg q] at e; cases e
  · exact ⟨fun _ => none, fun _ => none, [.ref a], _, ⟨fun _ => none, fun _ _ e => (by cases e), fun _ _ e => (by cases e), fun _ _ e => (by cases e)⟩, .cons rfl .nil, ⟨a, ns, rfl, hl, .inr hS, fun _ => rfl⟩, u⟩
/-- the law's own call, behind the top -/
theorem law_runs {mb : Str → Option Value} {k : Nat} {fa a : Addr} {fd : FuncData} {x : Str} {s₁ : Shared} {vs : List Value} {ns : List Int} (KX : K.In s₁.heap) (hns : s₁.heap.Ns mainGlobals mg) (hb : s₁.heap.Ns builtinsNs mb) (hbb : ∀ x : Str, x ≠ "__name__" → mb x = bootBuiltins x) (hlim : s₁.heap.NoLimit) (hg : s₁.gens = #[])
    (ha : s₁.heap.get? a = some { cls := .type "list", data := .seq vs.toArray }) (hi : IntsAre vs ns) (hl : ns.length ≤ 63) (hr : Room k callerA) (F : ∀ base : Heap, K.In base → base.Ns mainGlobals mg → FnG P w K mg base k fa [x] fd (loP (spLaw K))) (hbind : ∀ (s : Shared) (u : Value), BindsTo s fd ⟨[u], []⟩ [(x, u)]) :
    codeAny (model P w) callerA (.call (.ref fa) ⟨[.ref a], []⟩) (fun r s' => r = .ok (.ret (.bool true)) ∧ OldK s₁.heap s'.heap ∧ s'.os = s₁.os ∧ AllBare s'.gens) s₁ := by
  have rv := vals_ints hi
  have hlen := hi.length
  have z63 : ns.length ≤ sizeLine := by rw [sizeLine_eq]; omega
  have main : ∀ H : Hp, Only H → SqL K H a (ns.map V.int) → HOk P w H s₁.heap → (∀ b, H b ≠ none → b = a) → (H a ≠ none → K.lookup a = none) → codeAny (model P w) callerA (.call (.ref fa) ⟨[.ref a], []⟩) (fun r s' => r = .ok (.ret (.bool true)) ∧ OldK s₁.heap s'.heap ∧ s'.os = s₁.os ∧ AllBare s'.gens) s₁ := by
    intro H hO hS hok only notK
    have isA : ∀ {b : Addr} {u : HO}, H b = some u → b = a := fun {b u} q => only b (by rw [q]; simp)
    have ofDict : ∀ {b : Addr} {o : Obj} {es : Array DictEntry} {ep : Nat}, s₁.heap.get? b = some o → o.data = .dict es ep → H b = none := fun {b o es ep} e d => by
      cases q : H b with
      | none => rfl
      | some u => rw [isA q, ha] at e; cases e; cases (show Data.seq vs.toArray _ = Data.dict es ep from d)
    have ofNs : ∀ {b : Addr} {m : Str → Option Value}, s₁.heap.Ns b m → (hidT s₁.heap H).Ns b m := fun {b m} z => by
      obtain ⟨o, es, ep, e, d, r⟩ := z
      exact ⟨o, es, ep, hidT_get e (ofDict e d), d, r⟩
    have KB : K.In (hidT s₁.heap H) := fun b o e => hidT_get (KX b o e) (by
      cases q : H b with
      | none => rfl
      | some u =>
        have eb := isA q
        subst eb
        rw [notK (by rw [q]; simp)] at e; cases e)
    obtain ⟨mc, c1, c2⟩ := hlim
    have e0 : Env0 P w K mg (hidT s₁.heap H) callerA [] s₁ H := ⟨rfl, ⟨KB, ofNs hns, ⟨mb, ofNs hb, hbb⟩, mc, ofNs c1, c2⟩, fun b o e => of_hidT e, Nat.le_of_eq (hidT_size _ _), trivial, fun b hb => absurd (show b ∈ ([] : List Addr) from hb) (by simp), hok, .of_eq hg⟩
    refine codeAny_mono ((F _ KB (ofNs hns)).goes callerA [] s₁ H ⟨[.ref a], []⟩ [.ref a] [.ref a] _ _ rfl hr e0 (hbind s₁ (.ref a)) (.cons rfl .nil) (spLaw_at hl hO hS)) fun r s' h => ?_
    cases r with
    | error e => exact (show False from h).elim
    | ok fl =>
      cases fl with
      | next => exact (show False from h).elim
      | brk => exact (show False from h).elim
      | cont => exact (show False from h).elim
      | ret u =>
        obtain ⟨v, H', os, bare, un, hok', r', q⟩ := h
        have q' : v = .bl true := q
        subst q'
        obtain rfl : u = Value.bool true := r'
        refine ⟨rfl, OldK.of_keep fun b o e => ?_, os, bare⟩
        cases q : H b with
        | none => exact un.keep b o e q (by simp [frs]) (by simp)
        | some u =>
          rcases hO b with z | ⟨ob, xs, z⟩
          · rw [q] at z; cases z
          · have f1 := (hok b _ z).1
            have f2 := (hok' b _ (un.frzs b ob _ z)).1
            rw [e] at f1; cases f1
            exact f2
  cases hk : K.lookup a with
  | some o =>
    have e := KX a o hk
    rw [ha] at e
    cases e
    exact main (fun _ => none) (fun _ => .inl rfl) (.inr ⟨_, vs.toArray, _, hk, rfl, rfl, rfl, by rw [List.size_toArray, hlen]; exact z63, by simpa using rv⟩) (fun b u z => (by cases z)) (fun b z => absurd rfl z) fun z => absurd rfl z
  | none =>
    have at' : ∀ {b : Addr} {u : HO}, (if b = a then some (HO.frz { cls := .type "list", data := .seq vs.toArray } (.lst (ns.map V.int))) else none) = some u → b = a ∧ u = .frz { cls := .type "list", data := .seq vs.toArray } (.lst (ns.map V.int)) := fun {b u} z => by
      by_cases q : b = a
      · rw [if_pos q] at z; cases z; exact ⟨q, rfl⟩
      · rw [if_neg q] at z; cases z
    refine main (fun b => if b = a then some (.frz { cls := .type "list", data := .seq vs.toArray } (.lst (ns.map V.int))) else none) (fun b => ?_) (.inl (.inr ⟨_, if_pos rfl⟩)) (fun b u z => ?_) (fun b z => ?_) fun _ => hk
    · by_cases q : b = a
      · exact .inr ⟨_, _, if_pos q⟩
      · exact .inl (if_neg q)
    · obtain ⟨rfl, rfl⟩ := at' z
      exact ⟨ha, by rw [List.length_map]; exact z63, vs, _, rv, ha⟩
    · by_cases q : b = a
      · exact q
      · exact absurd (if_neg q) z
/-- what k_head leaves -/
theorem law_end {l : PySem.W.OpenLaw} {k : Nat} {q : Program} {loose : List Str} {XP : (Str → Option Value) → Heap → Prop} {YP : World → Heap → Prop} {d : DefRec} {K : Params → PySem.W.Frag} {x : Str} (hn : l.most = some 63) (hdf : d.params.defaults = []) (hr : Room k callerA)
    (hY : ∀ (w : World) (h : Heap), YP w h → (K w.params).In h) (F : ∀ (w : World) (mg : Str → Option Value) (fa : Addr) (h : Heap), (K w.params).In h → h.Ns mainGlobals mg → mg d.name = some (.ref fa) →
      ∃ fd : FuncData, (∀ (s : Shared) (u : Value), BindsTo s fd ⟨[u], []⟩ [(x, u)]) ∧ ∀ base : Heap, (K w.params).In base → base.Ns mainGlobals mg → FnG l.prog w (K w.params) mg base k fa [x] fd (loP (spLaw (K w.params)))) :
    PySem.W.WalkO q loose XP YP l.row.toRowW d [] (fun f vs => PySem.call f vs) := by
  refine Att.attach_call hn hdf fun w s₀ s₁ mg mb fa o pm cd doc a vs ns G Y ho hd hcd hmg hobj hints hlen hg => ?_
  obtain ⟨fd, hb, hF⟩ := F w mg fa _ (hY w _ Y) G.T.g hmg
  exact law_runs (hY w _ Y) G.T.g G.T.b G.T.builtins G.T.nolimit hg hobj hints hlen hr hF hb
end
end DL

/-! DL8: enumerate and zip over data; names of readings; promises of defs at a top. -/
namespace DL
open PySem PySem.Spec PyProof.Rows L2

/-! ### enumerate of a tuple -/
set_option maxHeartbeats 1000000 in
theorem en_meets {v : Value} {ob : Obj} {Z : Heap → Prop} (B : Begins v ob Z) :
    Meets (Builtin.«enumerate.__new__» ⟨[.type "enumerate", v], []⟩) (fun _ R s =>
      Z s.heap ∧ R (.ok (.ret (.ref (s.heap.push ob).objs.size)))
        { s with heap := (s.heap.push ob).push { cls := .type "enumerate", data := .fields #[.none, .bool false, .ref s.heap.objs.size, rawInt 0, .none, .none] } }) :=
  .of_wp fun prog w A R s h => by
    obtain ⟨hp, gn, dd, tk, os⟩ := s
    obtain ⟨hz, h⟩ := h
    have isub := sub_enumerate
    have go : ∀ {A' : Around} {E : Value → Shared → Prop} {Q : Value → Shared → Prop}, Q (.ref hp.objs.size) ⟨hp.push ob, gn, dd, tk, os⟩ →
        wpAny (model prog w) A' (pyIter v) Q E ⟨hp, gn, dd, tk, os⟩ := fun q => B.iter prog w _ _ ⟨hp, gn, dd, tk, os⟩ _ hz q
    wp_walk using go
    refine wpAny_stack_any fun _ => wpAny_pure ?_
    split
    · rename_i kk _ _ _ _ _
      cases (kk == Value.type "enumerate") <;>
      · wp_walk using go
        exact ⟨_, rfl, h⟩
    · wp_walk using go
      exact ⟨_, rfl, h⟩
section
variable {prog : Program} {w : World} {A : Around} {E : Value → Shared → Prop} {s : Shared}
theorem en_new {v : Value} {ob : Obj} {Z : Heap → Prop} {Q : Value → Shared → Prop} (B : Begins v ob Z) (hz : Z s.heap)
    (k : ∀ hx, IsEnum hx (s.heap.objs.size + 1) s.heap.objs.size 0 .none → hx.get? s.heap.objs.size = some ob →
      (∀ b o, s.heap.get? b = some o → hx.get? b = some o) → Q (.ref (s.heap.objs.size + 1)) { s with heap := hx }) :
    wpAny (model prog w) A (call (.type "enumerate") [v]) Q E s := by
  refine callType_new F.called_enumerate (by decide) (F.typeCall_enumerate_1 _) (F.newCall_enumerate_1 _) (fun obj => F.args_object_init_2 obj _)
    F.entry_enumerate_new (en_meets B) ⟨hz, ?_⟩
  have sz : (s.heap.push ob).objs.size = s.heap.objs.size + 1 := Heap.size_push ..
  show _ ∧ _
  rw [sz]
  have made : IsEnum ((s.heap.push ob).push { cls := .type "enumerate", data := .fields #[.none, .bool false, .ref s.heap.objs.size, rawInt 0, .none, .none] })
      (s.heap.objs.size + 1) s.heap.objs.size 0 .none := by
    have z := Heap.get?_push_size (s.heap.push ob) (o := { cls := .type "enumerate", data := .fields #[.none, .bool false, .ref s.heap.objs.size, rawInt 0, .none, .none] }) rfl
    rw [sz] at z
    exact z
  exact ⟨⟨_, made, rfl⟩, k _ made (Heap.get?_push_of_some _ (Heap.get?_push_size _ B.free)) fun b o z => Heap.get?_push_of_some _ (Heap.get?_push_of_some _ z)⟩
end
/-- the tuple at a, each item in a new pair with its index -/
def ItnT (K : PySem.W.Frag) (a : Addr) : It where
  go i H := ∃ (xs : List V) (x : V), SqT K H a xs ∧ xs[i]? = some x
  yld i H v H' := ∃ q x, v = .ref q ∧ H q = none ∧ H' = upd H q (.tup [.int (i : Nat), x]) ∧ ∀ xs, SqT K H a xs → xs[i]? = some x
  stop i H := ∃ xs : List V, SqT K H a xs ∧ xs.length = i
theorem turn_enT {P : Program} {w : World} {K : PySem.W.Frag} {tgs : List Expr} {kk : Nat} {tpos : Pos} {a e it : Addr} (ne : e ≠ it) (na : e ≠ a) (nt : a ≠ it) :
    Turn P w K (.Tuple tgs kk tpos) (ItnT K a) [e, it] e (fun i h => (∃ old, IsEnum h e it ((i : Nat) : Int) old) ∧ h.IsTupleIter it a i) where
  mem := by simp
  obj := fun i h ⟨⟨_, he⟩, o, ho, _, hd⟩ b hb => by
    rcases (by simpa using hb : b = e ∨ b = it) with rfl | rfl
    · exact ⟨_, he, fun v q => nomatch q⟩
    · exact ⟨o, ho, fun v q => by rw [hd] at q; cases q⟩
  keep := fun i h h' ⟨⟨old, he⟩, ht⟩ k => ⟨⟨old, k e (by simp) _ he⟩, ht.at fun o q => k it (by simp) o q⟩
  item := by
    rintro X rfl rfl rfl hc i pins s σ H E I hf ⟨⟨old, he⟩, ht⟩ ⟨xs, x, hq, hx⟩
    obtain ⟨its, rv, p, hz⟩ := I.tuple hq
    obtain ⟨u, hu, ru⟩ := rv.get hx
    have le : e < s.heap.objs.size := Heap.lt_size he
    have li : it < s.heap.objs.size := by obtain ⟨_, q, _⟩ := ht; exact Heap.lt_size q
    have hlt : i < its.toArray.size := by
      have := (List.getElem?_eq_some_iff.mp hu).1
      simpa using this
    refine wpAny_pyNext_enum_itemD (D := Draws.tuple (A := X.A.in1) (show X.A.in1.handled = none from I.ok.hd hc) it a nt its.toArray) he ⟨ht, show s.heap.IsTuple a its.toArray from p⟩ hlt ne (by simp [ne, na]) fun y hy tk py out st hT hsz hk => ?_
    have ey : y = u := by
      have py' : its.toArray[i]? = some y := py
      rw [List.getElem?_toArray, hu] at py'
      exact (Option.some.inj py').symm
    subst ey
    refine ⟨_, rfl, wpAny_letOwnedTupleGo_enum (s := { s with heap := hy, toks := tk + 1 }) out fun h2 he2 sb => ?_⟩
    have hT2 : h2.get? s.heap.objs.size = some { cls := .type "tuple", data := .seq #[.int i tk, y] } := (sb.2 _ (Nat.ne_of_gt le)).trans hT
    have new : ObjOk X.prog X.w (upd H s.heap.objs.size (.tup [.int (i : Nat), x])) h2 s.heap.objs.size (.tup [.int (i : Nat), x]) :=
      ⟨by show 2 ≤ sizeLine; decide, [.int i tk, y], .cons ⟨_, rfl⟩ (.cons ru .nil), ⟨_, hT2, rfl, _, rfl⟩⟩
    have J : Inv X pins σ (upd H s.heap.objs.size (.tup [.int (i : Nat), x])) { s with heap := h2, toks := tk + 1 } :=
      I.turnedNew (ch := [e, it]) (fun b ob hb q => (sb.2 b (fun z => hb (by simp [z]))).trans (hk b ob (fun z => hb (by simp [z])) (fun z => hb (by simp [z])) q)) hf (Nat.le_refl _) new
    refine ⟨.ref s.heap.objs.size, _, J, rfl, ⟨_, x, rfl, I.hok.fresh (Nat.le_refl _), rfl, fun ys hy => by rw [I.tuple_inj hy hq]; exact hx⟩, ⟨⟨y, ?_⟩, ?_⟩, fun b hb => ?_⟩
    · have e1 : ((i + 1 : Nat) : Int) = (i : Int) + 1 := by omega
      rw [e1]
      exact he2
    · exact st.1.at fun o q => (sb.2 it (Ne.symm ne)).trans q
    · have lb : b < s.heap.objs.size := by
        rcases (by simpa using hb : b = e ∨ b = it) with rfl | rfl
        · exact le
        · exact li
      rw [upd_ne (Nat.ne_of_lt lb)]
      exact (hf b hb).1
  done := by
    rintro X rfl rfl rfl hc i pins s σ H E I hf ⟨⟨old, he⟩, ht⟩ ⟨xs, hq, hx⟩
    obtain ⟨its, rv, p, hz⟩ := I.tuple hq
    have hl := rv.length
    obtain ⟨f0, f1, f2, f3, f4, f5⟩ := hf it (by simp)
    have hn : its.toArray.size = i := by simp; omega
    refine wpAny_pyNext_enum_endD (D := Draws.tuple (A := X.A.in1) (show X.A.in1.handled = none from I.ok.hd hc) it a nt its.toArray) he ⟨by rw [hn]; exact ht, show s.heap.IsTuple a its.toArray from p⟩ fun hx eb => ?_
    exact ⟨rfl, I.turned (t' := s.toks) (fun b o hb q => eb b o hb q) f0 f1 f3 f4 f5⟩
  self := fun A i s Q E ⟨⟨_, he⟩, _⟩ h => wpAny_pyIter_enum he h
def iEnA (K : PySem.W.Frag) (ta : TA) : TI := fun σ H R => ta σ H fun vs H1 => ∃ a xs, vs = [.ref a] ∧ ((SqL K H1 a xs ∧ R (Ite K a) H1) ∨ (SqT K H1 a xs ∧ R (ItnT K a) H1))
theorem pi_enA {X : Cx} {e : Expr} {ta : TA} {p pos tpos : Pos} {tgs : List Expr} {kk : Nat} (hg : Gl X "enumerate") (hm : X.mg "enumerate" = none) (ha : PA X [e] ta) (one : starEach [e] X.env = [(false, eval e X.env)] := by rfl) :
    PI X (.Tuple tgs kk tpos) (.Call (.Name "enumerate" p) [e] [] pos) (iEnA X.K ta) := by
  refine ⟨fun pins s σ H R I h => Call_ (ld_blt I hg hm boot_enumerate (PyProof.Rows.callWith_type1 (thn (ha.run pos pins s σ H _ I h) fun us s1 ⟨vs, H1, J, r, q⟩ => ?_) one rfl))⟩
  obtain ⟨a, xs, rfl, q⟩ := q
  cases r with
  | cons r rr =>
    cases rr
    cases r
    have two : ∀ b, b ∈ [s1.heap.objs.size + 1, s1.heap.objs.size] → FpOk X pins H1 b := fun b hb => by
      have hle : s1.heap.objs.size ≤ b := by
        rcases (by simpa using hb : b = s1.heap.objs.size + 1 ∨ b = s1.heap.objs.size) with rfl | rfl
        · exact Nat.le_add_right _ _
        · exact Nat.le_refl _
      exact J.fpOk hle (J.hok.fresh hle)
    rcases q with ⟨hq, q⟩ | ⟨hq, q⟩
    · obtain ⟨its, rv, pl, _⟩ := J.list hq
      refine call_enumerate_list pl.isList fun hx he hit hsz hk => wpAny_pyIter_enum he ?_
      exact ⟨s1.heap.objs.size + 1, _, _, _, H1, rfl, J.kept (t' := s1.toks) hk, turn_enum a (s1.heap.objs.size + 1) s1.heap.objs.size, ⟨⟨.none, he⟩, hit, Nat.succ_ne_self _⟩, two, q⟩
    · obtain ⟨its, rv, pl, _⟩ := J.tuple hq
      have la : a < s1.heap.objs.size := by obtain ⟨_, z, _⟩ := id pl; exact Heap.lt_size z
      refine en_new (begins_tuple a its.toArray) (show s1.heap.IsTuple a its.toArray from pl) fun hx he hit hk => wpAny_pyIter_enum he ?_
      exact ⟨s1.heap.objs.size + 1, _, _, _, H1, rfl, J.kept (t' := s1.toks) hk, turn_enT (a := a) (Nat.succ_ne_self _) (Nat.ne_of_gt (Nat.lt_succ_of_lt la)) (Nat.ne_of_lt la), ⟨⟨.none, he⟩, ⟨_, hit, rfl, rfl⟩⟩, two, q⟩

/-! ### over data -/
def enumD : Int → List D → List D
  | _, [] => []
  | i, x :: r => .tup [.int i, x] :: enumD (i + 1) r
theorem enumD_length : ∀ (i : Int) (xs : List D), (enumD i xs).length = xs.length
  | _, [] => rfl
  | i, _ :: r => by simp [enumD, enumD_length]
theorem enumD_get : ∀ (k : Int) (xs : List D) (i : Nat) (d : D), (enumD k xs)[i]? = some d → ∃ x, xs[i]? = some x ∧ d = .tup [.int (k + (i : Nat)), x]
  | _, [], _, _, h => by simp [enumD] at h
  | k, x :: r, 0, d, h => by
    simp [enumD] at h
    exact ⟨x, by simp, by rw [← h]; simp⟩
  | k, x :: r, i + 1, d, h => by
    obtain ⟨y, e, q⟩ := enumD_get (k + 1) r i d (by simpa [enumD] using h)
    refine ⟨y, by simpa using e, ?_⟩
    rw [q, show k + 1 + ((i : Nat) : Int) = k + ((i + 1 : Nat) : Int) by omega]
/-- a walk that puts each item into a pair with its index -/
theorem wk_pairs {J : It} {T : Hp} {p : Addr} {xs : List D} {ok : DHp → Prop} {S : Hp → List V → Prop} (rd : ∀ T' DH H, Same T T' → Abs T' DH H → ok DH → ∃ vs, S H vs ∧ RepL T' xs vs)
    (go : ∀ i H vs x, S H vs → vs[i]? = some x → J.go i H) (stop : ∀ H vs, S H vs → J.stop vs.length H) (yld : ∀ i H x H', J.yld i H x H' → ∃ q y, x = .ref q ∧ H q = none ∧ H' = upd H q (.tup [.int (i : Nat), y]) ∧ ∀ vs, S H vs → vs[i]? = some y) :
    Wk J T (enumD 0 xs) ok := by
  refine ⟨fun i T' DH H s A o hi => ?_, fun T' DH H s A o => ?_, fun i T' DH H x H' d s A o ed y => ?_⟩
  · obtain ⟨vs, hS, r⟩ := rd T' DH H s A o
    rw [enumD_length] at hi
    exact go i H vs (vs[i]'(by rw [r.length]; exact hi)) hS (by simp [r.length, hi])
  · obtain ⟨vs, hS, r⟩ := rd T' DH H s A o
    rw [enumD_length, ← r.length]
    exact stop H vs hS
  · obtain ⟨vs, hS, r⟩ := rd T' DH H s A o
    obtain ⟨z, ez, rfl⟩ := enumD_get 0 xs i d ed
    obtain ⟨q, v, rfl, hq, rfl, hy⟩ := yld i H x H' y
    obtain ⟨v', ev, rv⟩ := r.get ez
    rw [hy vs hS] at ev
    cases ev
    obtain ⟨s2, A2⟩ := A.frz (o := .tup [.int (i : Nat), v]) hq
    exact ⟨_, s2, A2, q, _, rfl, upd_same, .cons (by rw [Int.zero_add]; rfl) (.cons (RepV.up s2 _ _ rv) .nil)⟩
section
variable {X : Cx} {a b e : Expr} {t : DA} {p pos tpos : Pos} {tgs : List Expr} {kk : Nat}
def dIEnum (t : DA) : DI := fun τ H R => t τ H fun ds H1 => match ds with
  | [d] => walkD H1 d fun xs ok => R (enumD 0 xs) ok H1
  | _ => False
/-- the readings of what walkD finds -/
theorem walkD_rep {K : PySem.W.Frag} {T : Hp} {DH : DHp} {H : Hp} {d : D} {v : V} {k : List D → (DHp → Prop) → Prop} (A : Abs T DH H) (r : RepV T d v) (h : walkD DH d k) :
    ∃ p xs ok, v = .ref p ∧ k xs ok ∧ ((∀ T' DH' H', Same T T' → Abs T' DH' H' → ok DH' → ∃ vs, SqL K H' p vs ∧ RepL T' xs vs) ∧ ok DH ∨ (∀ T' DH' H', Same T T' → Abs T' DH' H' → ok DH' → ∃ vs, SqT K H' p vs ∧ RepL T' xs vs) ∧ ok DH) := by
  unfold walkD at h
  cases d with
  | tup xs =>
    obtain ⟨p, vs, rfl, t, q⟩ := r
    exact ⟨p, xs, _, rfl, h, .inr ⟨fun T' DH' H' s A' _ => ⟨vs, SqT.of (A'.sub _ _ (s _ _ t)), RepL.up s _ _ q⟩, trivial⟩⟩
  | lst xs =>
    obtain ⟨p, vs, rfl, t, q⟩ := r
    exact ⟨p, xs, _, rfl, h, .inl ⟨fun T' DH' H' s A' _ => ⟨vs, SqL.of (A'.sub _ _ (s _ _ t)), RepL.up s _ _ q⟩, trivial⟩⟩
  | ref p =>
    cases (show v = .ref p from r)
    simp only at h
    split at h
    · rename_i xs e
      exact ⟨p, xs, _, rfl, h, .inl ⟨fun T' DH' H' s A' o => let ⟨ws, g, q⟩ := A'.lst o; ⟨ws, SqL.of g, q⟩, e⟩⟩
    · rename_i xs e
      exact ⟨p, xs, _, rfl, h, .inl ⟨fun T' DH' H' s A' o => let ⟨ob, ws, g, q⟩ := A'.scr o; ⟨ws, .inl (.inr ⟨ob, g⟩), q⟩, e⟩⟩
    · exact h.elim
  | _ => exact h.elim
theorem qi_enum (hg : Gl X "enumerate") (hm : X.mg "enumerate" = none) (ha : QA X [e] t) (one : starEach [e] X.env = [(false, eval e X.env)] := by rfl) : QI X (.Tuple tgs kk tpos) (.Call (.Name "enumerate" p) [e] [] pos) (dIEnum t) :=
  ⟨piW (pi_enA hg hm ha.run one) fun σ H R ⟨T, DH, τ, RD, A, S, h, u⟩ => ⟨T, DH, τ, _, A, S, h, fun T1 DH1 H1 ds vs s1 A1 r1 h1 => by
    match ds, r1, h1 with
    | [], _, h1 => exact h1.elim
    | [d], r1, h1 =>
      obtain ⟨v, rfl, r⟩ := r1.one
      obtain ⟨p, xs, ok, rfl, h2, z⟩ := walkD_rep (K := X.K) A1 r h1
      rcases z with ⟨z, o⟩ | ⟨z, o⟩
      · obtain ⟨vs, hv, _⟩ := z T1 DH1 H1 (Same.refl _) A1 o
        refine ⟨p, vs, rfl, .inl ⟨hv, u T1 DH1 H1 _ ok _ s1 A1 (wk_pairs (p := p) (S := fun H vs => SqL X.K H p vs) z ?_ ?_ ?_) h2⟩⟩
        · exact fun i H vs x hS hx => ⟨vs, x, hS, hx⟩
        · exact fun H vs hS => ⟨vs, hS, Nat.le_refl _⟩
        · exact fun i H x H' y => y
      · obtain ⟨vs, hv, _⟩ := z T1 DH1 H1 (Same.refl _) A1 o
        refine ⟨p, vs, rfl, .inr ⟨hv, u T1 DH1 H1 _ ok _ s1 A1 (wk_pairs (p := p) (S := fun H vs => SqT X.K H p vs) z ?_ ?_ ?_) h2⟩⟩
        · exact fun i H vs x hS hx => ⟨vs, x, hS, hx⟩
        · exact fun H vs hS => ⟨vs, hS, rfl⟩
        · exact fun i H x H' y => y
    | _ :: _ :: _, _, h1 => exact h1.elim⟩⟩
def zipD (xs ys : List D) : List D := List.zipWith (fun x y => .tup [x, y]) xs ys
theorem zipD_get {xs ys : List D} {i : Nat} {d : D} (h : (zipD xs ys)[i]? = some d) : ∃ x y, xs[i]? = some x ∧ ys[i]? = some y ∧ d = .tup [x, y] := by
  unfold zipD at h
  rw [List.getElem?_zipWith] at h
  cases e1 : xs[i]? with
  | none => rw [e1] at h; simp at h
  | some x =>
    cases e2 : ys[i]? with
    | none => rw [e1, e2] at h; simp at h
    | some y => rw [e1, e2] at h; simp at h; exact ⟨x, y, rfl, rfl, h.symm⟩
theorem wk_zip {J : It} {T : Hp} {xs ys : List D} {ok ok' : DHp → Prop} {S S' : Hp → List V → Prop} (rd : ∀ T' DH H, Same T T' → Abs T' DH H → ok DH → ∃ vs, S H vs ∧ RepL T' xs vs) (rd' : ∀ T' DH H, Same T T' → Abs T' DH H → ok' DH → ∃ vs, S' H vs ∧ RepL T' ys vs)
    (go : ∀ i H vs ws x y, S H vs → S' H ws → vs[i]? = some x → ws[i]? = some y → J.go i H) (stop : ∀ i H vs ws, S H vs → S' H ws → vs.length ≤ i ∨ ws.length ≤ i → J.stop i H)
    (yld : ∀ i H x H', J.yld i H x H' → ∃ q y z, x = .ref q ∧ H q = none ∧ H' = upd H q (.tup [y, z]) ∧ (∀ vs, S H vs → vs[i]? = some y) ∧ ∀ vs, S' H vs → vs[i]? = some z) : Wk J T (zipD xs ys) (fun DH => ok DH ∧ ok' DH) := by
  have zl : (zipD xs ys).length = min xs.length ys.length := by unfold zipD; simp
  refine ⟨fun i T' DH H s A o hi => ?_, fun T' DH H s A o => ?_, fun i T' DH H x H' d s A o ed y => ?_⟩
  · obtain ⟨vs, hS, r⟩ := rd T' DH H s A o.1
    obtain ⟨ws, hS', r'⟩ := rd' T' DH H s A o.2
    rw [zl] at hi
    exact go i H vs ws (vs[i]'(by rw [r.length]; omega)) (ws[i]'(by rw [r'.length]; omega)) hS hS' (by simp) (by simp)
  · obtain ⟨vs, hS, r⟩ := rd T' DH H s A o.1
    obtain ⟨ws, hS', r'⟩ := rd' T' DH H s A o.2
    have l1 := r.length
    have l2 := r'.length
    exact stop _ H vs ws hS hS' (by rw [zl]; omega)
  · obtain ⟨vs, hS, r⟩ := rd T' DH H s A o.1
    obtain ⟨ws, hS', r'⟩ := rd' T' DH H s A o.2
    obtain ⟨y', z', e1, e2, rfl⟩ := zipD_get ed
    obtain ⟨q, v, w, rfl, hq, rfl, hy, hz⟩ := yld i H x H' y
    obtain ⟨v', ev, rv⟩ := r.get e1
    obtain ⟨w', ew, rw'⟩ := r'.get e2
    rw [hy vs hS] at ev
    rw [hz ws hS'] at ew
    cases ev
    cases ew
    obtain ⟨s2, A2⟩ := A.frz (o := .tup [v, w]) hq
    exact ⟨_, s2, A2, q, _, rfl, upd_same, .cons (RepV.up s2 _ _ rv) (.cons (RepV.up s2 _ _ rw') .nil)⟩
/-- both are lists, or both are tuples -/
def kindD (H : DHp) : D → Bool
  | .tup _ => true
  | _ => false
def dIZip (t : DA) : DI := fun τ H R => t τ H fun ds H1 => match ds with
  | [d, e] => kindD H1 d = kindD H1 e ∧ walkD H1 d fun xs ok => walkD H1 e fun ys ok' => R (zipD xs ys) (fun DH => ok DH ∧ ok' DH) H1
  | _ => False
theorem walkD_k {K : PySem.W.Frag} {T : Hp} {DH : DHp} {H : Hp} {d : D} {v : V} {k : List D → (DHp → Prop) → Prop} (A : Abs T DH H) (r : RepV T d v) (h : walkD DH d k) :
    ∃ p xs ok, v = .ref p ∧ k xs ok ∧ ok DH ∧ ∀ T' DH' H', Same T T' → Abs T' DH' H' → ok DH' → ∃ vs, (if kindD DH d = true then SqT K H' p vs else SqL K H' p vs) ∧ RepL T' xs vs := by
  unfold walkD at h
  cases d with
  | tup xs =>
    obtain ⟨p, vs, rfl, t, q⟩ := r
    exact ⟨p, xs, _, rfl, h, trivial, fun T' DH' H' s A' _ => ⟨vs, by simpa [kindD] using SqT.of (A'.sub _ _ (s _ _ t)), RepL.up s _ _ q⟩⟩
  | lst xs =>
    obtain ⟨p, vs, rfl, t, q⟩ := r
    exact ⟨p, xs, _, rfl, h, trivial, fun T' DH' H' s A' _ => ⟨vs, by simpa [kindD] using SqL.of (A'.sub _ _ (s _ _ t)), RepL.up s _ _ q⟩⟩
  | ref p =>
    cases (show v = .ref p from r)
    simp only at h
    split at h
    · rename_i xs e
      exact ⟨p, xs, _, rfl, h, e, fun T' DH' H' s A' o => let ⟨ws, g, q⟩ := A'.lst o; ⟨ws, by simpa [kindD] using SqL.of g, q⟩⟩
    · rename_i xs e
      exact ⟨p, xs, _, rfl, h, e, fun T' DH' H' s A' o => let ⟨ob, ws, g, q⟩ := A'.scr o; ⟨ws, by simpa [kindD] using (show SqL K H' p ws from .inl (.inr ⟨ob, g⟩)), q⟩⟩
    · exact h.elim
  | _ => exact h.elim
theorem qi_zip (hg : Gl X "zip") (hm : X.mg "zip" = none) (ha : QA X [a, b] t) (hs : starEach [a, b] X.env = (false, eval a X.env) :: starEach [b] X.env := by rfl) (hpl : (backTo pos (starEach [b] X.env)).any (·.1) = false := by rfl) :
    QI X (.Tuple tgs kk tpos) (.Call (.Name "zip" p) [a, b] [] pos) (dIZip t) :=
  ⟨piW (RZ.pi_zipA hg hm ha.run hs hpl) fun σ H R ⟨T, DH, τ, RD, A, S, h, u⟩ => ⟨T, DH, τ, _, A, S, h, fun T1 DH1 H1 ds vs s1 A1 r1 h1 => by
    match ds, r1, h1 with
    | [], _, h1 => exact h1.elim
    | [_], _, h1 => exact h1.elim
    | [d, e], r1, h1 =>
      obtain ⟨v, w, rfl, r, r'⟩ := r1.two
      obtain ⟨hk, h1⟩ := h1
      obtain ⟨p, xs, ok, rfl, h2, o, z⟩ := walkD_k (K := X.K) A1 r h1
      obtain ⟨p', ys, ok', rfl, h3, o', z'⟩ := walkD_k (K := X.K) A1 r' h2
      rw [hk] at z
      cases hd : kindD DH1 e with
      | true =>
        simp only [hd, if_true] at z z'
        obtain ⟨vs, hv, _⟩ := z T1 DH1 H1 (Same.refl _) A1 o
        obtain ⟨ws, hw, _⟩ := z' T1 DH1 H1 (Same.refl _) A1 o'
        refine ⟨p, p', vs, ws, rfl, .inr ⟨hv, hw, u T1 DH1 H1 _ _ _ s1 A1 (wk_zip (S := fun H vs => SqT X.K H p vs) (S' := fun H vs => SqT X.K H p' vs) z z' ?_ ?_ ?_) h3⟩⟩
        · exact fun i H vs ws x y hS hS' hx hy => ⟨vs, ws, x, y, hS, hS', hx, hy⟩
        · exact fun i H vs ws hS hS' hi => ⟨vs, ws, hS, hS', hi⟩
        · exact fun i H x H' y => y
      | false =>
        simp only [hd, Bool.false_eq_true, if_false] at z z'
        obtain ⟨vs, hv, _⟩ := z T1 DH1 H1 (Same.refl _) A1 o
        obtain ⟨ws, hw, _⟩ := z' T1 DH1 H1 (Same.refl _) A1 o'
        refine ⟨p, p', vs, ws, rfl, .inl ⟨hv, hw, u T1 DH1 H1 _ _ _ s1 A1 (wk_zip (S := fun H vs => SqL X.K H p vs) (S' := fun H vs => SqL X.K H p' vs) z z' ?_ ?_ ?_) h3⟩⟩
        · exact fun i H vs ws x y hS hS' hx hy => ⟨vs, ws, x, y, hS, hS', hx, hy⟩
        · exact fun i H vs ws hS hS' hi => ⟨vs, ws, hS, hS', hi⟩
        · exact fun i H x H' y => y
    | _ :: _ :: _ :: _, _, h1 => exact h1.elim⟩⟩

/-! ### three at once -/
def dPar3 (i j l : Nat) (t : DA) : DS := fun E τ H => t τ H fun ds H1 => match ds with
  | [u, v, w] => E.nx (((τ.set i (some u)).set j (some v)).set l (some w)) H1
  | _ => False
theorem qs_par3 {c : Expr} {i j l : Nat} {x y z : Str} {px py pz pt : Pos} {kt k2 pt2} (hc : X.calm = true) (hN : X.N.Nodup) (ha : QA X [a, b, c] t) (hi : X.N[i]? = some x := by rfl) (hj : X.N[j]? = some y := by rfl) (hl : X.N[l]? = some z := by rfl) (hij : i ≠ j := by decide) (hil : i ≠ l := by decide) (hjl : j ≠ l := by decide)
    (hx : X.env.scope.names.lookup x = some .local := by rfl) (hy : X.env.scope.names.lookup y = some .local := by rfl) (hz : X.env.scope.names.lookup z = some .local := by rfl)
    (hw : swappedStores [.Tuple [.Name x px, .Name y py, .Name z pz] kt pt] (.Tuple [a, b, c] k2 pt2) X.env = pure (some [x, y, z]) := by rfl)
    (hs : swapsWithSole [.Tuple [.Name x px, .Name y py, .Name z pz] kt pt] (.Tuple [a, b, c] k2 pt2) pos.line X.env = pure false := by rfl) :
    QS X (.Assign [.Tuple [.Name x px, .Name y py, .Name z pz] kt pt] (.Tuple [a, b, c] k2 pt2) pos) (dPar3 i j l t) :=
  ⟨psW (ps_par3 hc hN hi hj hl hij hil hjl hx hy hz ha.run hw hs) fun E σ H ⟨T, DH, τ, R, A, S, h, u⟩ => ⟨T, DH, τ, _, A, S, h, fun T1 DH1 H1 ds vs s1 A1 r1 h1 => by
    match ds, r1, h1 with
    | [d, e, f], ⟨v, _, e1, rv, w, _, e2, rw', g, _, e3, rg, e4⟩, h1 =>
      have e4 : _ = [] := e4
      subst e4 e3 e2 e1
      exact ⟨v, w, g, rfl, u.nx T1 DH1 H1 _ _ s1 A1 ((((S.up s1).set rv i).set rw' j).set rg l) h1⟩
    | [], _, h1 => exact h1.elim
    | [_], _, h1 => exact h1.elim
    | [_, _], _, h1 => exact h1.elim
    | _ :: _ :: _ :: _ :: _, _, h1 => exact h1.elim⟩⟩
end

/-! ### names -/
abbrev rFdiv : DR2 := rIntD (fun i j => 0 < j ∧ j.natAbs.log2 < 9000) fun i j => .int (i / j)
abbrev rMod : DR2 := rIntD (fun _ j => 0 < j) fun i j => .int (i % j)
abbrev rPow : DR2 := rIntD (fun i j => 0 ≤ j ∧ (Builtin.Int.intBits i : Int) * j ≤ 2 ^ 27) fun i j => .int (i ^ j.toNat)
abbrev rAbsD : DRC := rI1 fun i => .int (if i < 0 then -i else i)
abbrev rMax2 : DRC := rI2 fun i j => .int (if j > i then j else i)
abbrev rMin2 : DRC := rI2 fun i j => .int (if j < i then j else i)
/-- the built-in names are not the program's own -/
structure Bl (mg : Str → Option Value) : Prop where
  all : mg "all" = none
  any : mg "any" = none
  abs : mg "abs" = none
  bool : mg "bool" = none
  dict : mg "dict" = none
  enumerate : mg "enumerate" = none
  int : mg "int" = none
  isinstance : mg "isinstance" = none
  len : mg "len" = none
  list : mg "list" = none
  max : mg "max" = none
  min : mg "min" = none
  range : mg "range" = none
  repr : mg "repr" = none
  set : mg "set" = none
  sorted : mg "sorted" = none
  str : mg "str" = none
  sum : mg "sum" = none
  tuple : mg "tuple" = none
  zip : mg "zip" = none
theorem room64 {k : Nat} {A : Around} (h : Room k A) : A.units + 64 < cLine := h.units
theorem room65 {k : Nat} {A : Around} (h : Room k A) : A.units + 65 < cLine := by have := h.un; omega
/-- the def x stands at the top, and keeps its promise -/
def Has (P : Program) (w : World) (K : PySem.W.Frag) (mg : Str → Option Value) (base : Heap) (k : Nat) (x : Str) (sp : DSp) : Prop :=
  ∃ f fd ps, FnOk P w K mg base CX0 k f fd ps (loP sp) ∧ mg x = some (.ref f) ∧ PySem.W.keepIn K (.ref f) = true ∧ Binds K fd ps []
def HasG (P : Program) (w : World) (K : PySem.W.Frag) (mg : Str → Option Value) (base : Heap) (k : Nat) (x : Str) (sp : DSp) : Prop :=
  ∃ f fd ps, FnG P w K mg base k f ps fd (loP sp) ∧ mg x = some (.ref f) ∧ PySem.W.keepIn K (.ref f) = true ∧ Binds K fd ps []
section
variable {X : Cx} {e : Expr} {es : List Expr} {t : DA} {x : Str} {p pos : Pos} {k : Nat} {sp : DSp}
theorem qe_own (F : Has X.prog X.w X.K X.mg X.base k x sp) (hr : Room k X.A) (hg : Gl X x) (ha : QA X (e :: es) t) (hdb : (x == ("__debug__" : Str)) = false := by decide) (he : starEach (e :: es) X.env = (false, eval e X.env) :: starEach es X.env := by rfl)
    (hpl : (backTo pos (starEach es X.env)).any (·.1) = false := by rfl) : QE X (.Call (.Name x p) (e :: es) [] pos) (dCB sp t) := by
  obtain ⟨f, fd, ps, F, hm, hk, hb⟩ := F
  exact qe_call F hr hg hm hk hb pass0 ha hdb he hpl
theorem qe_ownG (F : HasG X.prog X.w X.K X.mg X.base k x sp) (hgd : X.A.guards = some []) (hr : Room k X.A) (hg : Gl X x) (ha : QA X (e :: es) t) (hdb : (x == ("__debug__" : Str)) = false := by decide) (he : starEach (e :: es) X.env = (false, eval e X.env) :: starEach es X.env := by rfl)
    (hpl : (backTo pos (starEach es X.env)).any (·.1) = false := by rfl) : QE X (.Call (.Name x p) (e :: es) [] pos) (dCB sp t) := by
  obtain ⟨f, fd, ps, F, hm, hk, hb⟩ := F
  exact qe_callG F hgd hr hg hm hk hb ha hdb he hpl
end
section
variable {P : Program} {w : World} {K : PySem.W.Frag} {mg : Str → Option Value} {base : Heap} {x : Str} {k : Nat} {sp sp' : DSp}
/-- a weaker promise -/
theorem Has.imp (h : Has P w K mg base k x sp) (i : ∀ ds DH Q, sp' ds DH Q → sp ds DH Q) : Has P w K mg base k x sp' := by
  obtain ⟨f, fd, ps, F, r⟩ := h
  exact ⟨f, fd, ps, F.imp fun vs H Q E ⟨T, DH, ds, R, A, r, h, u⟩ => ⟨T, DH, ds, R, A, r, i _ _ _ h, u⟩, r⟩
end
end DL

/-! DL9: how readings are told: d_simp. -/
namespace DL
open PySem PySem.Spec PyProof.Rows L2

theorem peek_int {H : DHp} {i : Int} : peek H (.int i) = .int i := rfl
theorem peek_bl {H : DHp} {i : Bool} : peek H (.bl i) = .bl i := rfl
theorem peek_non {H : DHp} : peek H .non = .non := rfl
theorem peek_str {H : DHp} {x : Str} : peek H (.str x) = .str x := rfl
theorem peek_tup {H : DHp} {xs : List D} : peek H (.tup xs) = .tup xs := rfl
theorem peek_lst {H : DHp} {xs : List D} : peek H (.lst xs) = .lst xs := rfl
theorem seqOf_tup {H : DHp} {xs : List D} : seqOf H (.tup xs) = some xs := rfl
theorem seqOf_lst {H : DHp} {xs : List D} : seqOf H (.lst xs) = some xs := rfl
theorem seqOf_ref {H : DHp} {p : Addr} {xs : List D} (h : H p = some (.lst xs)) : seqOf H (.ref p) = some xs := by simp [seqOf, peek_ref h]
theorem listOf_lst {H : DHp} {xs : List D} : listOf H (.lst xs) = some xs := rfl
theorem listOf_ref {H : DHp} {p : Addr} {xs : List D} (h : H p = some (.lst xs)) : listOf H (.ref p) = some xs := by simp [listOf, peek_ref h]
theorem dupd_ne' {H : DHp} {a b : Addr} {o : DO} (h : a ≠ b) : dupd H a o b = H b := dupd_ne (Ne.symm h)
/-- the i-th slot -/
theorem slot0 {α : Type} {x : α} {r : List α} : (x :: r)[0]? = some x := rfl
theorem slotS {α : Type} {x : α} {r : List α} {i : Nat} : (x :: r)[i + 1]? = r[i]? := rfl
theorem atI_nat {α : Type} (xs : List α) (i : Nat) : atI xs (i : Int) = xs[i]? := by
  unfold atI ixN
  by_cases h : i < xs.length
  · rw [if_pos (by omega), if_pos (by omega)]
    simp
  · rw [if_pos (by omega), if_neg (by omega), List.getElem?_eq_none (by omega)]
    rfl
theorem atI0 {α : Type} {x : α} {r : List α} : atI (x :: r) 0 = some x := atI_nat (x :: r) 0
theorem atI1 {α : Type} {x y : α} {r : List α} : atI (x :: y :: r) 1 = some y := atI_nat (x :: y :: r) 1
theorem atI2 {α : Type} {x y z : α} {r : List α} : atI (x :: y :: z :: r) 2 = some z := atI_nat (x :: y :: z :: r) 2
theorem atI3 {α : Type} {x y z u : α} {r : List α} : atI (x :: y :: z :: u :: r) 3 = some u := atI_nat (x :: y :: z :: u :: r) 3
theorem atI4 {α : Type} {x y z u v : α} {r : List α} : atI (x :: y :: z :: u :: v :: r) 4 = some v := atI_nat (x :: y :: z :: u :: v :: r) 4
theorem atI5 {α : Type} {x y z u v w : α} {r : List α} : atI (x :: y :: z :: u :: v :: w :: r) 5 = some w := atI_nat (x :: y :: z :: u :: v :: w :: r) 5
theorem mulD_l {i j : Int} (h0 : -(2 ^ 64) < i) (h1 : i < 2 ^ 64) : CMulD i j := .inl (.inl ⟨h0, h1⟩)
theorem mulD_r {i j : Int} (h0 : -(2 ^ 64) < j) (h1 : j < 2 ^ 64) : CMulD i j := .inl (.inr ⟨h0, h1⟩)
theorem size_le {n : Nat} (h : n ≤ 1000) : n ≤ sizeLine := Nat.le_of_lt (small1000 h)

/-! ### comprehensions and loops by what holds at each turn -/
section
variable {ok : DHp → Prop} {g : DG} {tt : DT} {te : DE} {tb : DS} {τ : DSt} {H : DHp} {K : List D → DHp → Prop} {E : DEnds}
theorem comp_inv (I : List D → List D → DHp → Prop) (fin : ∀ acc H, I [] acc H → ok H ∧ K acc H)
    (turn : ∀ x r acc H, I (x :: r) acc H → ok H ∧ ∀ (Q : DK) (Z : DHp → Prop), (∀ y H', I r (acc ++ [y]) H' → Q y H') → (∀ H', I r acc H' → Z H') → g x τ H fun τ2 H2 => tt τ2 H2 fun b H3 => if b = true then te τ2 H3 Q else Z H3) :
    ∀ (xs acc : List D) (H : DHp), I xs acc H → dCompL ok g tt te τ xs acc H K
  | [], acc, H, h => fin acc H h
  | x :: r, acc, H, h => ⟨(turn x r acc H h).1, (turn x r acc H h).2 _ _ (fun y H' z => comp_inv I fin turn r _ H' z) fun H' z => comp_inv I fin turn r _ H' z⟩
theorem comp_map (f : D → D) (hok : ok H) : ∀ (xs acc : List D), (∀ x ∈ xs, ∀ Q : DK, Q (f x) H → g x τ H fun τ2 H2 => te τ2 H2 Q) → K (acc ++ xs.map f) H → dCompL ok g dYes te τ xs acc H K
  | [], acc, _, k => ⟨hok, by simpa using k⟩
  | x :: r, acc, h, k => ⟨hok, h x (by simp) _ (comp_map f hok r (acc ++ [f x]) (fun y hy => h y (by simp [hy])) (by simpa using k))⟩
theorem comp_filter (p : D → Bool) (f : D → D) (hok : ok H) : ∀ (xs acc : List D), (∀ x ∈ xs, ∀ (Q : DK) (Z : DHp → Prop), (p x = true → Q (f x) H) → (p x = false → Z H) → g x τ H fun τ2 H2 => tt τ2 H2 fun b H3 => if b = true then te τ2 H3 Q else Z H3) →
    K (acc ++ (xs.filter p).map f) H → dCompL ok g tt te τ xs acc H K
  | [], acc, _, k => ⟨hok, by simpa using k⟩
  | x :: r, acc, h, k => ⟨hok, h x (by simp) _ _ (fun e => comp_filter p f hok r (acc ++ [f x]) (fun y hy => h y (by simp [hy])) (by simpa [List.filter_cons, e] using k)) fun e => comp_filter p f hok r acc (fun y hy => h y (by simp [hy])) (by simpa [List.filter_cons, e] using k)⟩
/-- some of the items, whichever -/
theorem comp_some (hok : ok H) (f : D → D) : ∀ (xs acc : List D), (∀ x ∈ xs, ∀ (Q : DK) (Z : DHp → Prop), Q (f x) H → Z H → g x τ H fun τ2 H2 => tt τ2 H2 fun b H3 => if b = true then te τ2 H3 Q else Z H3) →
    (∀ ys : List D, ys.Sublist xs → K (acc ++ ys.map f) H) → dCompL ok g tt te τ xs acc H K
  | [], acc, _, k => ⟨hok, by simpa using k [] (List.Sublist.refl _)⟩
  | x :: r, acc, h, k => ⟨hok, h x (by simp) _ _ (comp_some hok f r (acc ++ [f x]) (fun y hy => h y (by simp [hy])) fun ys hy => by simpa using k (x :: ys) (hy.cons₂ x)) (comp_some hok f r acc (fun y hy => h y (by simp [hy])) fun ys hy => k ys (hy.cons x))⟩
/-- each item by one of what is allowed for it -/
inductive Each {α β : Type} (R : α → β → Prop) : List α → List β → Prop where
  | nil : Each R [] []
  | cons {x : α} {y : β} {xs : List α} {ys : List β} (h : R x y) (r : Each R xs ys) : Each R (x :: xs) (y :: ys)
theorem Each.length {α β : Type} {R : α → β → Prop} : ∀ {xs : List α} {ys : List β}, Each R xs ys → ys.length = xs.length
  | _, _, .nil => rfl
  | _, _, .cons _ r => by simp [Each.length r]
theorem Each.all {α β : Type} {R : α → β → Prop} {P : β → Prop} : ∀ {xs : List α} {ys : List β}, Each R xs ys → (∀ x ∈ xs, ∀ y, R x y → P y) → ∀ y ∈ ys, P y
  | _, _, .nil, _, y, hy => by simp at hy
  | _, _, .cons (x := x) h r, f, y, hy => by
    rcases List.mem_cons.mp hy with rfl | hy
    · exact f x (by simp) _ h
    · exact Each.all r (fun x hx => f x (by simp [hx])) y hy
theorem comp_each (R : D → D → Prop) (hok : ok H) : ∀ (xs acc : List D), (∀ x ∈ xs, ∀ Q : DK, (∀ y, R x y → Q y H) → g x τ H fun τ2 H2 => te τ2 H2 Q) → (∀ ys : List D, Each R xs ys → K (acc ++ ys) H) → dCompL ok g dYes te τ xs acc H K
  | [], acc, _, k => ⟨hok, by simpa using k [] .nil⟩
  | x :: r, acc, h, k => ⟨hok, h x (by simp) _ fun y hy => comp_each R hok r (acc ++ [y]) (fun y hy => h y (by simp [hy])) fun ys z => by simpa using k (y :: ys) (.cons hy z)⟩
theorem for_inv (I : List D → DSt → DHp → Prop) (fin : ∀ τ H, I [] τ H → ok H ∧ E.nx τ H)
    (turn : ∀ x r τ H, I (x :: r) τ H → ok H ∧ ∀ E' : DEnds, E'.rt = E.rt → E'.bk = E.nx → (∀ τ' H', I r τ' H' → E'.nx τ' H') → (∀ τ' H', I r τ' H' → E'.ct τ' H') → g x τ H fun τ1 H1 => tb E' τ1 H1) :
    ∀ (xs : List D) (τ : DSt) (H : DHp), I xs τ H → dForL ok g tb xs E τ H
  | [], τ, H, h => fin τ H h
  | x :: r, τ, H, h => ⟨(turn x r τ H h).1, (turn x r τ H h).2 { E with nx := dForL ok g tb r E, ct := dForL ok g tb r E, bk := E.nx } rfl rfl (fun τ' H' z => for_inv I fin turn r τ' H' z) fun τ' H' z => for_inv I fin turn r τ' H' z⟩
end

/-! ### each reading at all its arguments (printed by eqs.py) -/
theorem dVar_e (i : Nat) (τ : DSt) (H : DHp) (Q : DK) : dVar i τ H Q = (match τ[i]? with
  | some (some d) => Q d H
  | _ => False) := (rfl)
theorem dC_e (d : D) (z0 : DSt) (H : DHp) (Q : DK) : dC d z0 H Q = (Q d H) := (rfl)
theorem dOp_e (r : DR2) (ta tb : DE) (τ : DSt) (H : DHp) (Q : DK) : dOp r ta tb τ H Q = (ta τ H fun x H1 => tb τ H1 fun y H2 => r x y H2 Q) := (rfl)
theorem dUn_e (r : D → DHp → DK → Prop) (ta : DE) (τ : DSt) (H : DHp) (Q : DK) : dUn r ta τ H Q = (ta τ H fun x H1 => r x H1 Q) := (rfl)
theorem dB_e (t : DE) (τ : DSt) (H : DHp) (Q : Bool → DHp → Prop) : dB t τ H Q = (t τ H fun x H1 => match x with
  | .bl k => Q k H1
  | _ => False) := (rfl)
theorem dChain_e (r r' : DR2) (ta tb tc : DE) (τ : DSt) (H : DHp) (Q : DK) : dChain r r' ta tb tc τ H Q = (ta τ H fun x H1 => tb τ H1 fun y H2 => r x y H2 fun z H3 => match z with
  | .bl true => tc τ H3 fun w H4 => r' y w H4 Q
  | .bl false => Q (.bl false) H3
  | _ => False) := (rfl)
theorem dAnd_e (t u : DT) (τ : DSt) (H : DHp) (Q : Bool → DHp → Prop) : dAnd t u τ H Q = (t τ H fun c H1 => if c = true then u τ H1 Q else Q false H1) := (rfl)
theorem dOr_e (t u : DT) (τ : DSt) (H : DHp) (Q : Bool → DHp → Prop) : dOr t u τ H Q = (t τ H fun c H1 => if c = true then Q true H1 else u τ H1 Q) := (rfl)
theorem dNot_e (t : DT) (τ : DSt) (H : DHp) (Q : Bool → DHp → Prop) : dNot t τ H Q = (t τ H fun c H1 => Q (!c) H1) := (rfl)
theorem dAndV_e (ta tb : DE) (τ : DSt) (H : DHp) (Q : DK) : dAndV ta tb τ H Q = (ta τ H fun x H1 => asB x fun c => if c = true then tb τ H1 Q else Q (.bl false) H1) := (rfl)
theorem dOrV_e (ta tb : DE) (τ : DSt) (H : DHp) (Q : DK) : dOrV ta tb τ H Q = (ta τ H fun x H1 => asB x fun c => if c = true then Q (.bl true) H1 else tb τ H1 Q) := (rfl)
theorem dNotV_e (ta : DE) (τ : DSt) (H : DHp) (Q : DK) : dNotV ta τ H Q = (ta τ H fun x H1 => asB x fun c => Q (.bl (!c)) H1) := (rfl)
theorem dIf_e (t : DT) (ta tb : DE) (τ : DSt) (H : DHp) (Q : DK) : dIf t ta tb τ H Q = (t τ H fun c H1 => if c = true then ta τ H1 Q else tb τ H1 Q) := (rfl)
theorem dNil_e  (z0 : DSt) (H : DHp) (Q : List D → DHp → Prop) : dNil z0 H Q = (Q [] H) := (rfl)
theorem dCons_e (ta : DE) (tr : DA) (τ : DSt) (H : DHp) (Q : List D → DHp → Prop) : dCons ta tr τ H Q = (ta τ H fun x H1 => tr τ H1 fun xs H2 => Q (x :: xs) H2) := (rfl)
theorem dTup_e (t : DA) (τ : DSt) (H : DHp) (Q : DK) : dTup t τ H Q = (t τ H fun xs H1 => xs.length ≤ sizeLine ∧ Q (.tup xs) H1) := (rfl)
theorem dLst_e (t : DA) (τ : DSt) (H : DHp) (Q : DK) : dLst t τ H Q = (t τ H fun xs H1 => xs.length ≤ sizeLine ∧ Q (.lst xs) H1) := (rfl)
theorem dCB_e (r : DRC) (t : DA) (τ : DSt) (H : DHp) (Q : DK) : dCB r t τ H Q = (t τ H fun vs H1 => r vs H1 Q) := (rfl)
theorem dNext_e  (E : DEnds) (τ : DSt) (H : DHp) : dNext E τ H = (E.nx τ H) := (rfl)
theorem dSeq_e (t u : DS) (E : DEnds) (τ : DSt) (H : DHp) : dSeq t u E τ H = (t { E with nx := u E } τ H) := (rfl)
theorem dCont_e  (E : DEnds) (τ : DSt) (H : DHp) : dCont E τ H = (E.ct τ H) := (rfl)
theorem dBreak_e  (E : DEnds) (τ : DSt) (H : DHp) : dBreak E τ H = (E.bk τ H) := (rfl)
theorem dDrop_e (te : DE) (E : DEnds) (τ : DSt) (H : DHp) : dDrop te E τ H = (te τ H fun _ H1 => E.nx τ H1) := (rfl)
theorem dRet_e (te : DE) (E : DEnds) (τ : DSt) (H : DHp) : dRet te E τ H = (te τ H E.rt) := (rfl)
theorem dRetN_e  (E : DEnds) (z1 : DSt) (H : DHp) : dRetN E z1 H = (E.rt .non H) := (rfl)
theorem dIfS_e (c : DT) (t u : DS) (E : DEnds) (τ : DSt) (H : DHp) : dIfS c t u E τ H = (c τ H fun b H1 => if b = true then t E τ H1 else u E τ H1) := (rfl)
theorem gN_e (i : Nat) (d : D) (τ : DSt) (H : DHp) (Q : DSt → DHp → Prop) : gN i d τ H Q = (Q (τ.set i (some d)) H) := (rfl)
theorem gNilD_e  (ds : List D) (τ : DSt) (H : DHp) (Q : DSt → DHp → Prop) : gNilD ds τ H Q = (match ds with
  | [] => Q τ H
  | _ => False) := (rfl)
theorem gConsD_e (t : DG) (u : DGs) (ds : List D) (τ : DSt) (H : DHp) (Q : DSt → DHp → Prop) : gConsD t u ds τ H Q = (match ds with
  | d :: r => t d τ H fun τ1 H1 => u r τ1 H1 Q
  | _ => False) := (rfl)
theorem gT_e (n : Nat) (t : DGs) (d : D) (τ : DSt) (H : DHp) (Q : DSt → DHp → Prop) : gT n t d τ H Q = (match d with
  | .tup xs => xs.length = n ∧ t xs τ H Q
  | _ => False) := (rfl)
theorem dAsg_e (te : DE) (g : DG) (E : DEnds) (τ : DSt) (H : DHp) : dAsg te g E τ H = (te τ H fun x H1 => g x τ H1 E.nx) := (rfl)
theorem dPar_e (i j : Nat) (t : DA) (E : DEnds) (τ : DSt) (H : DHp) : dPar i j t E τ H = (t τ H fun ds H1 => match ds with
  | [v, w] => E.nx ((τ.set i (some v)).set j (some w)) H1
  | _ => False) := (rfl)
theorem dPar3_e (i j l : Nat) (t : DA) (E : DEnds) (τ : DSt) (H : DHp) : dPar3 i j l t E τ H = (t τ H fun ds H1 => match ds with
  | [u, v, w] => E.nx (((τ.set i (some u)).set j (some v)).set l (some w)) H1
  | _ => False) := (rfl)
theorem dYes_e  (z0 : DSt) (H : DHp) (Q : Bool → DHp → Prop) : dYes z0 H Q = (Q true H) := (rfl)
theorem dFor_e (ti : DI) (g : DG) (tb : DS) (E : DEnds) (τ : DSt) (H : DHp) : dFor ti g tb E τ H = (ti τ H fun xs ok H1 => dForL ok g tb xs E τ H1) := (rfl)
theorem dLc_e (mu : Bool) (ti : DI) (g : DG) (tt : DT) (te : DE) (vs : List Nat) (τ : DSt) (H : DHp) (Q : DK) : dLc mu ti g tt te vs τ H Q = (ti τ H fun xs ok H1 => xs.length ≤ sizeLine ∧ dCompL ok g tt te (dwipe τ vs) xs [] H1 fun acc H2 =>
  if mu = true then ∀ p, H2 p = none → Q (.ref p) (dupd H2 p (.lst acc)) else Q (.lst acc) H2) := (rfl)
theorem dISeq_e (te : DE) (τ : DSt) (H : DHp) (R : List D → (DHp → Prop) → DHp → Prop) : dISeq te τ H R = (te τ H fun x H1 => walkD H1 x fun xs ok => R xs ok H1) := (rfl)
theorem dIRg1_e (t : DA) (τ : DSt) (H : DHp) (R : List D → (DHp → Prop) → DHp → Prop) : dIRg1 t τ H R = (t τ H fun ds H1 => match ds with
  | [.int j] => (-(2 ^ 62) ≤ j ∧ j < 2 ^ 62) ∧ R (rgD 0 j.toNat) okT H1
  | _ => False) := (rfl)
theorem dIRg2_e (t : DA) (τ : DSt) (H : DHp) (R : List D → (DHp → Prop) → DHp → Prop) : dIRg2 t τ H R = (t τ H fun ds H1 => match ds with
  | [.int i, .int j] => (-(2 ^ 62) ≤ i ∧ i < 2 ^ 62 ∧ -(2 ^ 62) ≤ j ∧ j < 2 ^ 62) ∧ R (rgD i (j - i).toNat) okT H1
  | _ => False) := (rfl)
theorem dIEnum_e (t : DA) (τ : DSt) (H : DHp) (R : List D → (DHp → Prop) → DHp → Prop) : dIEnum t τ H R = (t τ H fun ds H1 => match ds with
  | [d] => walkD H1 d fun xs ok => R (enumD 0 xs) ok H1
  | _ => False) := (rfl)
theorem dIZip_e (t : DA) (τ : DSt) (H : DHp) (R : List D → (DHp → Prop) → DHp → Prop) : dIZip t τ H R = (t τ H fun ds H1 => match ds with
  | [d, e] => kindD H1 d = kindD H1 e ∧ walkD H1 d fun xs ok => walkD H1 e fun ys ok' => R (zipD xs ys) (fun DH => ok DH ∧ ok' DH) H1
  | _ => False) := (rfl)
theorem dIScr_e (K : PySem.W.Frag) (te : DE) (τ : DSt) (H : DHp) (R : List D → (DHp → Prop) → DHp → Prop) : dIScr K te τ H R = (te τ H fun x H1 => ∃ p ns, x = .ref p ∧ ScrAt K H1 p ns ∧ R (ns.map D.int) (fun H' => ScrAt K H' p ns) H1) := (rfl)
theorem rIntD_e (C : Int → Int → Prop) (g : Int → Int → D) (x : D) (y : D) (H : DHp) (Q : DK) : rIntD C g x y H Q = (match x, y with
  | .int i, .int j => C i j ∧ Q (g i j) H
  | _, _ => False) := (rfl)
theorem rNegD_e  (x : D) (H : DHp) (Q : DK) : rNegD x H Q = (match x with
  | .int i => Q (.int (-i)) H
  | _ => False) := (rfl)
theorem rEqD_e (neg : Bool) (x : D) (y : D) (H : DHp) (Q : DK) : rEqD neg x y H Q = (eqOk (peek H x) (peek H y) ∧ Q (.bl (if neg then !(D.eq (peek H x) (peek H y)) else D.eq (peek H x) (peek H y))) H) := (rfl)
theorem rAddD_e  (x : D) (y : D) (H : DHp) (Q : DK) : rAddD x y H Q = (match peek H x, peek H y with
  | .int i, .int j => Q (.int (i + j)) H
  | .tup xs, .tup ys => xs.length + ys.length ≤ sizeLine ∧ Q (.tup (xs ++ ys)) H
  | .lst xs, .lst ys => xs.length + ys.length ≤ sizeLine ∧ Q (.lst (xs ++ ys)) H
  | .str x, .str y => x.length + y.length ≤ sizeLine ∧ Q (.str (x ++ y)) H
  | _, _ => False) := (rfl)
theorem rMulD_e  (x : D) (y : D) (H : DHp) (Q : DK) : rMulD x y H Q = (match peek H x, y with
  | .int i, .int j => CMulD i j ∧ Q (.int (i * j)) H
  | .lst xs, .int k => (-(2 ^ 63) ≤ k ∧ k < 2 ^ 63 ∧ xs.length * k.toNat ≤ sizeLine) ∧ Q (.lst (List.replicate k.toNat xs).flatten) H
  | _, _ => False) := (rfl)
theorem rIxD_e  (x : D) (y : D) (H : DHp) (Q : DK) : rIxD x y H Q = (match seqOf H x, y with
  | some xs, .int i => (match atI xs i with | some d => Q d H | none => False)
  | _, _ => False) := (rfl)
theorem rI1_e (g : Int → D) (ds : List D) (H : DHp) (Q : DK) : rI1 g ds H Q = (match ds with
  | [.int i] => Q (g i) H
  | _ => False) := (rfl)
theorem rI2_e (g : Int → Int → D) (ds : List D) (H : DHp) (Q : DK) : rI2 g ds H Q = (match ds with
  | [.int i, .int j] => Q (g i j) H
  | _ => False) := (rfl)
theorem rIntCD_e  (ds : List D) (H : DHp) (Q : DK) : rIntCD ds H Q = (match ds with
  | [.int i] => Q (.int i) H
  | [.bl b] => Q (.int (if b then 1 else 0)) H
  | _ => False) := (rfl)
theorem rSumD_e  (ds : List D) (H : DHp) (Q : DK) : rSumD ds H Q = (match ds with
  | [d] => (match (listOf H d).bind ints? with | some ns => Q (.int ns.sum) H | none => False)
  | _ => False) := (rfl)
theorem rAllD_e (all : Bool) (ds : List D) (H : DHp) (Q : DK) : rAllD all ds H Q = (match ds with
  | [d] => (match (listOf H d).bind bls? with | some ns => Q (.bl (if all then ns.all id else ns.any id)) H | none => False)
  | _ => False) := (rfl)
theorem rIsiD_e  (ds : List D) (H : DHp) (Q : DK) : rIsiD ds H Q = (match ds with
  | [d, .ty n] => (tyOf H d ≠ "" ∧ (["int", "bool", "str", "tuple", "list", "dict"] : List String).contains n = true) ∧ Q (.bl (isTy (tyOf H d) n)) H
  | _ => False) := (rfl)
theorem rLenD_e  (ds : List D) (H : DHp) (Q : DK) : rLenD ds H Q = (match ds with
  | [d] => (match peek H d with
    | .str x => x.length ≤ sizeLine ∧ Q (.int x.length) H
    | .tup xs => Q (.int xs.length) H
    | .lst xs => Q (.int xs.length) H
    | .ref p => (match H p with | some (.dK kvs) => Q (.int kvs.length) H | _ => False)
    | _ => False)
  | _ => False) := (rfl)
theorem rTupD_e  (ds : List D) (H : DHp) (Q : DK) : rTupD ds H Q = (match ds with
  | [d] => (match seqOf H d with | some xs => Q (.tup xs) H | none => False)
  | _ => False) := (rfl)
theorem rLstD_e (mu : Bool) (ds : List D) (H : DHp) (Q : DK) : rLstD mu ds H Q = (match ds with
  | [d] => (match seqOf H d with | some xs => if mu = true then ∀ p, H p = none → Q (.ref p) (dupd H p (.lst xs)) else Q (.lst xs) H | none => False)
  | _ => False) := (rfl)
theorem rIsN_e (neg : Bool) (x : D) (y : D) (H : DHp) (Q : DK) : rIsN neg x y H Q = (match y with
  | .non => Q (.bl (if neg then !isNon x else isNon x)) H
  | _ => False) := (rfl)
theorem rSlD_e (mu : Bool) (x : D) (lo : Option Int) (hi : Option Int) (H : DHp) (Q : DK) : rSlD mu x lo hi H Q = (match peek H x with
  | .tup xs => Q (.tup (cutD xs lo hi)) H
  | .lst xs => if mu = true then ∀ p, H p = none → Q (.ref p) (dupd H p (.lst (cutD xs lo hi))) else Q (.lst (cutD xs lo hi)) H
  | _ => False) := (rfl)
theorem dSl_e (r : D → Option Int → Option Int → DHp → DK → Prop) (te : DE) (tl th : DO') (τ : DSt) (H : DHp) (Q : DK) : dSl r te tl th τ H Q = (te τ H fun x H1 => tl τ H1 fun l H2 => th τ H2 fun u H3 => r x l u H3 Q) := (rfl)
theorem dNoPart_e  (z0 : DSt) (H : DHp) (Q : Option Int → DHp → Prop) : dNoPart z0 H Q = (Q none H) := (rfl)
theorem dPart_e (t : DE) (τ : DSt) (H : DHp) (Q : Option Int → DHp → Prop) : dPart t τ H Q = (t τ H fun x H1 => match x with
  | .int i => Q (some i) H1
  | _ => False) := (rfl)
theorem dRev_e (mu : Bool) (te : DE) (τ : DSt) (H : DHp) (Q : DK) : dRev mu te τ H Q = (te τ H fun x H1 => match peek H1 x with
  | .tup xs => Q (.tup xs.reverse) H1
  | .lst xs => if mu = true then ∀ p, H1 p = none → Q (.ref p) (dupd H1 p (.lst xs.reverse)) else Q (.lst xs.reverse) H1
  | _ => False) := (rfl)
theorem dGet_e (td ty : DE) (τ : DSt) (H : DHp) (Q : DK) : dGet td ty τ H Q = (td τ H fun x H1 => ty τ H1 fun y H2 => lookD H2 x y fun o => match o with
  | some d => Q d H2
  | none => False) := (rfl)
theorem dIn_e (neg : Bool) (ty td : DE) (τ : DSt) (H : DHp) (Q : DK) : dIn neg ty td τ H Q = (ty τ H fun y H1 => td τ H1 fun x H2 => lookD H2 x y fun o => Q (.bl (if neg then !o.isSome else o.isSome)) H2) := (rfl)
theorem dStore_e (td ty tv : DE) (E : DEnds) (τ : DSt) (H : DHp) : dStore td ty tv E τ H = (tv τ H fun v H1 => td τ H1 fun x H2 => ty τ H2 fun y H3 => storeD H3 x y v (E.nx τ)) := (rfl)
theorem dBM0_e (ty : String) (r : D → List D → DHp → DK → Prop) (to : DE) (τ : DSt) (H : DHp) (Q : DK) : dBM0 ty r to τ H Q = (to τ H fun x H1 => ofTy ty H1 x ∧ r x [] H1 Q) := (rfl)
theorem dBM_e (ty : String) (r : D → List D → DHp → DK → Prop) (to : DE) (t : DA) (τ : DSt) (H : DHp) (Q : DK) : dBM ty r to t τ H Q = (to τ H fun x H1 => ofTy ty H1 x ∧ t τ H1 fun xs H2 => r x xs H2 Q) := (rfl)
theorem dDisp_e (trs : List (DE × DE)) (τ : DSt) (H : DHp) (Q : DK) : dDisp trs τ H Q = (∀ p, H p = none → dPairs trs τ (dupd H p (.dK [])) fun ps H2 => H2 p = some (.dK []) ∧ match keysOf ps with
  | some kvs => (kvs.map (·.1)).Nodup ∧ kvs.length ≤ 15 ∧ Q (.ref p) (dupd H2 p (.dK kvs))
  | none => False) := (rfl)
theorem mAppend_e  (x : D) (ds : List D) (H : DHp) (Q : DK) : mAppend x ds H Q = (onLst H x fun p xs => match ds with
  | [d] => xs.length < sizeLine ∧ Q .non (dupd H p (.lst (xs ++ [d])))
  | _ => False) := (rfl)
theorem mPop_e  (x : D) (ds : List D) (H : DHp) (Q : DK) : mPop x ds H Q = (onLst H x fun p xs => match ds with
  | [] => (match xs[xs.length - 1]? with | some d => Q d (dupd H p (.lst xs.dropLast)) | none => False)
  | [.int i] => (-(2 ^ 63) ≤ i ∧ i < 2 ^ 63) ∧ (match ixN xs.length i with | some j => (match xs[j]? with | some d => Q d (dupd H p (.lst (xs.eraseIdx j))) | none => False) | none => False)
  | _ => False) := (rfl)
theorem dNewK_e  (z0 : DSt) (H : DHp) (Q : DK) : dNewK z0 H Q = (∀ p, H p = none → Q (.ref p) (dupd H p (.dK []))) := (rfl)
theorem dNewT_e  (z0 : DSt) (H : DHp) (Q : DK) : dNewT z0 H Q = (∀ p, H p = none → Q (.ref p) (dupd H p (.dT []))) := (rfl)
theorem dLstM_e (t : DA) (τ : DSt) (H : DHp) (Q : DK) : dLstM t τ H Q = (t τ H fun xs H1 => xs.length ≤ sizeLine ∧ ∀ p, H1 p = none → Q (.ref p) (dupd H1 p (.lst xs))) := (rfl)
theorem dFrz_e (t : DE) (τ : DSt) (H : DHp) (Q : DK) : dFrz t τ H Q = (t τ H fun x H1 => match x with
  | .ref p => match H1 p with
    | some (.lst xs) => Q (.lst xs) (derase H1 p)
    | _ => False
  | x => Q x H1) := (rfl)
theorem rReprD_e  (ds : List D) (H : DHp) (Q : DK) : rReprD ds H Q = (match ds with
  | [d] => showOk (peek H d) ∧ Q (.str (peek H d).py.shown) H
  | _ => False) := (rfl)
theorem rNeS_e  (x : D) (y : D) (H : DHp) (Q : DK) : rNeS x y H Q = (match x, y with
  | .str a, .str b => Q (.bl (!(a == b))) H
  | _, _ => False) := (rfl)
theorem rEqS_e  (x : D) (y : D) (H : DHp) (Q : DK) : rEqS x y H Q = (match x, y with
  | .str a, .str b => Q (.bl (a == b)) H
  | _, _ => False) := (rfl)
theorem asB_e (x : D) (k : Bool → Prop)  : asB x k = (match x with
  | .bl b => k b
  | _ => False) := (rfl)
theorem walkD_e (H : DHp) (d : D) (k : List D → (DHp → Prop) → Prop)  : walkD H d k = (match d with
  | .tup xs => k xs okT
  | .lst xs => k xs okT
  | .ref p => (match H p with
    | some (.lst xs) => k xs fun H' => H' p = some (.lst xs)
    | some (.scr xs) => k xs fun H' => H' p = some (.scr xs)
    | _ => False)
  | _ => False) := (rfl)
theorem lookD_e (H : DHp) (x y : D) (K : Option D → Prop)  : lookD H x y K = (match x with
  | .ref p => (match H p with
    | some (.dK kvs) => (match keyD y with | some k => K (dval kvs k) | none => False)
    | some (.dT kvs) => (match keyT y with | some k => K (dval kvs k) | none => False)
    | _ => False)
  | _ => False) := (rfl)
theorem storeD_e (H : DHp) (x y v : D) (K : DHp → Prop)  : storeD H x y v K = (match x with
  | .ref p => (match H p with
    | some (.dK kvs) => (match keyD y with | some k => kvs.length < sizeLine ∧ K (dupd H p (.dK (dput kvs k v))) | none => False)
    | some (.dT kvs) => (match keyT y with | some k => kvs.length < sizeLine ∧ K (dupd H p (.dT (dput kvs k v))) | none => False)
    | some (.lst xs) => (match y with | .int i => (match ixN xs.length i with | some j => K (dupd H p (.lst (xs.set j v))) | none => False) | _ => False)
    | _ => False)
  | _ => False) := (rfl)
theorem ofTy_e (T : String) (H : DHp) (x : D)  : ofTy T H x = (match x with
  | .str _ => T = "str"
  | .lst _ => T = "list"
  | .ref p => (match H p with
    | some (.lst _) => T = "list"
    | some (.dK _) => T = "dict"
    | some (.dT _) => T = "dict"
    | _ => False)
  | _ => False) := (rfl)
theorem onLst_e (H : DHp) (x : D) (k : Addr → List D → Prop)  : onLst H x k = (match x with
  | .ref p => (match H p with | some (.lst xs) => k p xs | _ => False)
  | _ => False) := (rfl)

theorem rEq_intF (i j : Int) (H : DHp) (Q : DK) : rEqD false (.int i) (.int j) H Q = Q (.bl (decide (i = j))) H := by
  have e : D.eq (.int i) (.int j) = decide (i = j) := by simp only [D.eq]; exact Bool.beq_eq_decide_eq i j
  refine propext ⟨fun h => e ▸ h.2, fun h => ⟨⟨rfl, rfl, .inl (Nat.zero_le _)⟩, ?_⟩⟩
  show Q (.bl (D.eq (.int i) (.int j))) H
  rw [e]
  exact h
theorem rEq_intT (i j : Int) (H : DHp) (Q : DK) : rEqD true (.int i) (.int j) H Q = Q (.bl (!decide (i = j))) H := by
  have e : D.eq (.int i) (.int j) = decide (i = j) := by simp only [D.eq]; exact Bool.beq_eq_decide_eq i j
  refine propext ⟨fun h => e ▸ h.2, fun h => ⟨⟨rfl, rfl, .inl (Nat.zero_le _)⟩, ?_⟩⟩
  show Q (.bl (!D.eq (.int i) (.int j))) H
  rw [e]
  exact h

/-! ### one statement, then the rest; while -/
theorem seq_step {t u : DS} {E : DEnds} {τ : DSt} {H : DHp} (P : DSt → DHp → Prop) (h : ∀ E' : DEnds, E'.rt = E.rt → E'.bk = E.bk → E'.ct = E.ct → (∀ τ H, P τ H → E'.nx τ H) → t E' τ H) (k : ∀ τ H, P τ H → u E τ H) : dSeq t u E τ H :=
  h { E with nx := u E } rfl rfl rfl k
theorem while_inv {c : DT} {tb : DS} {E : DEnds} {τ : DSt} {H : DHp} (W : Nat → DSt → DHp → Prop) {m : Nat} (h0 : W m τ H)
    (turn : ∀ m τ H, W m τ H → ∀ (E' : DEnds), E'.rt = E.rt → E'.bk = E.nx → (∀ m' τ' H', m' < m → W m' τ' H' → E'.nx τ' H') → (∀ m' τ' H', m' < m → W m' τ' H' → E'.ct τ' H') → c τ H fun b H1 => if b = true then tb E' τ H1 else E.nx τ H1) : dWhile c tb E τ H :=
  ⟨W, ⟨m, h0⟩, fun m τ H w => turn m τ H w { E with nx := fun τ' H' => ∃ m', m' < m ∧ W m' τ' H', ct := fun τ' H' => ∃ m', m' < m ∧ W m' τ' H', bk := E.nx } rfl rfl (fun m' _ _ hm z => ⟨m', hm, z⟩) fun m' _ _ hm z => ⟨m', hm, z⟩⟩
end DL

/-! DL10: sorted, max and min of a list, list(range(..)), over data. -/
namespace DL
open PySem PySem.Spec PyProof.Rows L2

/-! ### pairs of whole numbers -/
def pairs? : List D → Option (List (Int × Int))
  | [] => some []
  | .tup [.int a, .int b] :: r => (pairs? r).map ((a, b) :: ·)
  | _ => none
theorem pairs_of : ∀ {ds : List D} {ps : List (Int × Int)}, pairs? ds = some ps → ds = ps.map fun p => .tup [.int p.1, .int p.2]
  | [], ps, h => by cases h; rfl
  | d :: r, ps, h => by
    unfold pairs? at h
    split at h
    · rename_i e; cases e
    · rename_i a b r' e
      cases e
      cases q : pairs? r with
      | none => rw [q] at h; cases h
      | some qs =>
        rw [q] at h
        cases h
        rw [pairs_of q]
        rfl
    · cases h
theorem pairs_map : ∀ ps : List (Int × Int), pairs? (ps.map fun p => .tup [.int p.1, .int p.2]) = some ps
  | [] => rfl
  | p :: r => by simp [pairs?, pairs_map r]
/-- before, by the first number, then by the second -/
def lexLe (p q : Int × Int) : Prop := p.1 < q.1 ∨ (p.1 = q.1 ∧ p.2 ≤ q.2)
def tellL (mu : Bool) (xs : List D) (H : DHp) (Q : DK) : Prop := if mu = true then ∀ p, H p = none → Q (.ref p) (dupd H p (.lst xs)) else Q (.lst xs) H
def rSortD (mu : Bool) : DRC := fun ds H Q => match ds with
  | [d] => (match listOf H d with
    | some xs => (match ints? xs with
      | some ns => ∀ ns' : List Int, ns'.Perm ns → ns'.Pairwise (· ≤ ·) → tellL mu (ns'.map D.int) H Q
      | none => (match pairs? xs with
        | some ps => ∀ qs : List (Int × Int), qs.Perm ps → qs.Pairwise lexLe → tellL mu (qs.map fun p => .tup [.int p.1, .int p.2]) H Q
        | none => False))
    | none => False)
  | _ => False
section
variable {X : Cx} {T : Hp} {DH : DHp} {H : Hp} {a b c e : Expr} {es : List Expr} {ta tb tc te : DE} {t : DA} {pos : Pos}
theorem tell_fin {mu : Bool} {R : DK} {Q : VK} {xs : List D} {vs : List V} {p : Addr} (A : Abs T DH H) (r : RepL T xs vs) (u : Up T R Q) (h : tellL mu xs DH R) (hp : H p = none) : Q (.ref p) (upd H p (.lst vs)) := by
  unfold tellL at h
  cases mu with
  | true => rw [if_pos rfl] at h; exact fin_lstM A r u h hp
  | false => rw [if_neg Bool.false_ne_true] at h; exact fin_lst A r u h hp
/-- the two numbers of a pair, as it stands -/
noncomputable def keyV (H : Hp) (v : V) : Int × Int := open Classical in if h : ∃ (t : Addr) (i j : Int), v = .ref t ∧ H t = some (.tup [.int i, .int j]) then (h.choose_spec.choose, h.choose_spec.choose_spec.choose) else (0, 0)
theorem keyV_at {H : Hp} {t : Addr} {i j : Int} (h : H t = some (.tup [.int i, .int j])) : keyV H (.ref t) = (i, j) := by
  unfold keyV
  have ex : ∃ (t' : Addr) (i j : Int), (V.ref t) = .ref t' ∧ H t' = some (.tup [.int i, .int j]) := ⟨t, i, j, rfl, h⟩
  rw [dif_pos ex]
  have sp := ex.choose_spec.choose_spec.choose_spec
  have e1 : t = ex.choose := by injection sp.1
  have e3 : H ex.choose = some (.tup [.int i, .int j]) := by rw [← e1]; exact h
  have e2 := sp.2.symm.trans e3
  injection e2 with e2
  injection e2 with e2
  injection e2 with x1 e2
  injection e2 with x2 e2
  injection x1 with x1
  injection x2 with x2
  exact Prod.ext x1 x2
theorem pairs_rep : ∀ {ps : List (Int × Int)} {vs : List V}, RepL T (ps.map fun p => .tup [.int p.1, .int p.2]) vs → ∀ v ∈ vs, ∃ t i j, v = V.ref t ∧ T t = some (.tup [.int i, .int j])
  | [], vs, r, v, hv => by cases (show vs = [] from r); cases hv
  | p :: ps, vs, ⟨w, r, e, ⟨t, us, ew, et, eu⟩, r2⟩, v, hv => by
    subst e
    rcases List.mem_cons.mp hv with rfl | hv
    · obtain ⟨x, y, rfl, rx, ry⟩ := RepL.two eu
      exact ⟨t, p.1, p.2, ew, by rw [et]; rw [show x = .int p.1 from rx, show y = .int p.2 from ry]⟩
    · exact pairs_rep r2 v hv
theorem pairs_keys (sb : Sb T H) : ∀ {ps : List (Int × Int)} {vs : List V}, RepL T (ps.map fun p => .tup [.int p.1, .int p.2]) vs → vs.map (keyV H) = ps
  | [], vs, r => by cases (show vs = [] from r); rfl
  | p :: ps, vs, ⟨w, r, e, ⟨t, us, ew, et, eu⟩, r2⟩ => by
    subst e
    obtain ⟨x, y, rfl, rx, ry⟩ := RepL.two eu
    rw [show x = .int p.1 from rx, show y = .int p.2 from ry] at et
    rw [List.map_cons, pairs_keys sb r2, ew, keyV_at (sb _ _ et)]
theorem pairs_back (sb : Sb T H) : ∀ {vs : List V}, (∀ v ∈ vs, ∃ t i j, v = V.ref t ∧ T t = some (.tup [.int i, .int j])) → RepL T ((vs.map (keyV H)).map fun p => .tup [.int p.1, .int p.2]) vs
  | [], _ => .nil
  | v :: vs, h => by
    obtain ⟨t, i, j, rfl, et⟩ := h v (by simp)
    refine .cons ⟨t, _, rfl, et, ?_⟩ (pairs_back sb fun w hw => h w (by simp [hw]))
    rw [keyV_at (sb _ _ et)]
    exact .cons rfl (.cons rfl .nil)
theorem ints_none {vs : List V} : True := trivial
theorem cd_sorted {mu : Bool} : CallR X (.builtin "sorted") (loC (rSortD mu)) := crW (CallR.or (cr_sortedI (X := X)) (cr_sortedPO (X := X))) fun vs H Q ⟨T, DH, ds, R, A, r, h, w⟩ => by
  unfold rSortD at h
  split at h
  · rename_i d
    obtain ⟨v, rfl, rv⟩ := r.one
    split at h
    · rename_i xs el
      obtain ⟨p, us, rfl, hp, ru⟩ := listOf_rep (K := X.K) A rv el
      split at h
      · rename_i ns ei
        have e1 := ints_of ei
        subst e1
        have e2 := RepL.ints_inv ru
        subst e2
        exact .inl ⟨p, ns, rfl, SqL.of hp, fun ns' q h1 h2 h3 => tell_fin A (RepL.ints ns') w (h ns' h1 h2) h3⟩
      · split at h
        · rename_i ps ep
          have e1 := pairs_of ep
          subst e1
          refine .inr ⟨p, us, keyV H, rfl, SqL.of hp, fun x hx => ?_, fun ys q h1 h2 h3 => ?_⟩
          · obtain ⟨t, i, j, rfl, et⟩ := pairs_rep ru x hx
            exact ⟨t, rfl, by rw [keyV_at (A.sub _ _ et)]; exact A.sub _ _ et⟩
          · have hy : ∀ v ∈ ys, ∃ t i j, v = V.ref t ∧ T t = some (.tup [.int i, .int j]) := fun v hv => pairs_rep ru v (h2.perm.mem_iff.mp hv)
            refine tell_fin A (pairs_back A.sub hy) w (h _ ?_ ?_) h3
            · have := h2.perm.map (keyV H)
              rw [pairs_keys A.sub ru] at this
              exact this
            · refine List.pairwise_map.mpr (h1.imp fun {x y} z => ?_)
              have := SrtO.lexB_no.mp z
              unfold lexLe
              omega
        · exact h.elim
    · exact h.elim
  · exact h.elim
def rMaxL : DRC := fun ds H Q => match ds with
  | [d] => (match (listOf H d).bind ints? with | some ns => 0 < ns.length ∧ ∀ m, m ∈ ns → (∀ y, y ∈ ns → y ≤ m) → Q (.int m) H | none => False)
  | _ => False
def rMinL : DRC := fun ds H Q => match ds with
  | [d] => (match (listOf H d).bind ints? with | some ns => 0 < ns.length ∧ ∀ m, m ∈ ns → (∀ y, y ∈ ns → m ≤ y) → Q (.int m) H | none => False)
  | _ => False
theorem cd_max1 (hc : X.calm = true) : CallR X (.builtin "max") (loC rMaxL) := crW (cr_max hc) fun vs H Q ⟨T, DH, ds, R, A, r, h, w⟩ => by
  unfold rMaxL at h
  split at h
  · obtain ⟨v, rfl, rv⟩ := r.one
    split at h
    · rename_i ns e
      obtain ⟨p, rfl, hp⟩ := intsL (K := X.K) A rv e
      exact ⟨p, ns, rfl, SqL.of hp, h.1, fun m h1 h2 => w.int A (h.2 m h1 h2)⟩
    · exact h.elim
  · exact h.elim
theorem cd_min1 (hc : X.calm = true) : CallR X (.builtin "min") (loC rMinL) := crW (cr_min hc) fun vs H Q ⟨T, DH, ds, R, A, r, h, w⟩ => by
  unfold rMinL at h
  split at h
  · obtain ⟨v, rfl, rv⟩ := r.one
    split at h
    · rename_i ns e
      obtain ⟨p, rfl, hp⟩ := intsL (K := X.K) A rv e
      exact ⟨p, ns, rfl, SqL.of hp, h.1, fun m h1 h2 => w.int A (h.2 m h1 h2)⟩
    · exact h.elim
  · exact h.elim
/-! ### list(range(..)) -/
theorem rg_rep (lo hi : Int) : RepL T (rgD lo (hi - lo).toNat) (rgV lo hi) := by
  have e1 : rgD lo (hi - lo).toNat = ((List.range (hi - lo).toNat).map fun i => lo + (i : Nat)).map D.int := by unfold rgD; rw [List.map_map]; rfl
  have e2 : rgV lo hi = ((List.range (hi - lo).toNat).map fun i => lo + (i : Nat)).map V.int := by unfold rgV; rw [List.map_map]; rfl
  rw [e1, e2]
  exact RepL.ints _
def dLstRg1 (mu : Bool) (ta : DE) : DE := fun τ H Q => ta τ H fun x H1 => match x with
  | .int n => (0 ≤ n ∧ n ≤ 1000000) ∧ tellL mu (rgD 0 n.toNat) H1 Q
  | _ => False
def dLstRg2 (mu : Bool) (ta tb : DE) : DE := fun τ H Q => ta τ H fun x H1 => tb τ H1 fun y H2 => match x, y with
  | .int m, .int n => (0 ≤ m ∧ m ≤ 1000000 ∧ 0 ≤ n ∧ n ≤ 1000000) ∧ tellL mu (rgD m (n - m).toNat) H2 Q
  | _, _ => False
theorem qe_listRg1 {mu : Bool} {p p2 pos2 : Pos} (hc : X.calm = true) (hg : Gl X "list") (hm : X.mg "list" = none) (hg2 : Gl X "range") (hm2 : X.mg "range" = none) (ha : QE X a ta) (na : starEach [a] X.env = (false, eval a X.env) :: starEach [] X.env := by rfl)
    (nb : starEach [.Call (.Name "range" p2) [a] [] pos2] X.env = (false, eval (.Call (.Name "range" p2) [a] [] pos2) X.env) :: starEach [] X.env := by rfl) : QE X (.Call (.Name "list" p) [.Call (.Name "range" p2) [a] [] pos2] [] pos) (dLstRg1 mu ta) :=
  ⟨peW (pe_listRg hc hg hm (prg_1 hg2 hm2 ha.run na) nb) fun σ H Q ⟨T, DH, τ, R, A, S, h, u⟩ => ⟨T, DH, τ, _, A, S, h, fun T1 DH1 H1 x v s1 A1 r1 h1 => by
    split at h1
    · rename_i n
      refine ⟨n, r1, RgOk.of_le (by decide) (by omega) (by decide) h1.1.1, fun q hq => tell_fin A1 ?_ (u.up s1) h1.2 hq⟩
      have := rg_rep (T := T1) 0 n
      rwa [Int.sub_zero] at this
    · exact h1.elim⟩⟩
theorem qe_listRg2 {mu : Bool} {p p2 pos2 : Pos} (hc : X.calm = true) (hg : Gl X "list") (hm : X.mg "list" = none) (hg2 : Gl X "range") (hm2 : X.mg "range" = none) (ha : QE X a ta) (hb : QE X b tb) (na : starEach [a, b] X.env = (false, eval a X.env) :: starEach [b] X.env := by rfl)
    (nb : starEach [b] X.env = (false, eval b X.env) :: starEach [] X.env := by rfl) (hp : (backTo pos2 (starEach [b] X.env)).any (·.1) = false := by rfl)
    (nc : starEach [.Call (.Name "range" p2) [a, b] [] pos2] X.env = (false, eval (.Call (.Name "range" p2) [a, b] [] pos2) X.env) :: starEach [] X.env := by rfl) : QE X (.Call (.Name "list" p) [.Call (.Name "range" p2) [a, b] [] pos2] [] pos) (dLstRg2 mu ta tb) :=
  ⟨peW (pe_listRg hc hg hm (prg_2 hg2 hm2 ha.run hb.run na nb hp) nc) fun σ H Q ⟨T, DH, τ, R, A, S, h, u⟩ => ⟨T, DH, τ, _, A, S, h, fun T1 DH1 H1 x v s1 A1 r1 h1 => ⟨T1, DH1, τ, _, A1, S.up s1, h1, fun T2 DH2 H2 y z s2 A2 r2 h2 => by
    split at h2
    · rename_i m n
      refine ⟨m, n, r1.up s2, r2, RgOk.of_le h2.1.1 (by omega) (by omega) h2.1.2.2.1, fun q hq => tell_fin A2 (rg_rep m n) (u.up (s1.trans s2)) h2.2 hq⟩
    · exact h2.elim⟩⟩⟩
end
theorem tell_F (xs : List D) (H : DHp) (Q : DK) : tellL false xs H Q = Q (.lst xs) H := (rfl)
theorem tell_T (xs : List D) (H : DHp) (Q : DK) : tellL true xs H Q = ∀ p, H p = none → Q (.ref p) (dupd H p (.lst xs)) := (rfl)
theorem dLstRg1_e (mu : Bool) (ta : DE) (τ : DSt) (H : DHp) (Q : DK) : dLstRg1 mu ta τ H Q = (ta τ H fun x H1 => match x with
  | .int n => (0 ≤ n ∧ n ≤ 1000000) ∧ tellL mu (rgD 0 n.toNat) H1 Q
  | _ => False) := (rfl)
theorem dLstRg2_e (mu : Bool) (ta tb : DE) (τ : DSt) (H : DHp) (Q : DK) : dLstRg2 mu ta tb τ H Q = (ta τ H fun x H1 => tb τ H1 fun y H2 => match x, y with
  | .int m, .int n => (0 ≤ m ∧ m ≤ 1000000 ∧ 0 ≤ n ∧ n ≤ 1000000) ∧ tellL mu (rgD m (n - m).toNat) H2 Q
  | _, _ => False) := (rfl)
theorem rSortD_e (mu : Bool) (ds : List D) (H : DHp) (Q : DK) : rSortD mu ds H Q = (match ds with
  | [d] => (match listOf H d with
    | some xs => (match ints? xs with
      | some ns => ∀ ns' : List Int, ns'.Perm ns → ns'.Pairwise (· ≤ ·) → tellL mu (ns'.map D.int) H Q
      | none => (match pairs? xs with
        | some ps => ∀ qs : List (Int × Int), qs.Perm ps → qs.Pairwise lexLe → tellL mu (qs.map fun p => .tup [.int p.1, .int p.2]) H Q
        | none => False))
    | none => False)
  | _ => False) := (rfl)
theorem rMaxL_e (ds : List D) (H : DHp) (Q : DK) : rMaxL ds H Q = (match ds with
  | [d] => (match (listOf H d).bind ints? with | some ns => 0 < ns.length ∧ ∀ m, m ∈ ns → (∀ y, y ∈ ns → y ≤ m) → Q (.int m) H | none => False)
  | _ => False) := (rfl)
theorem rMinL_e (ds : List D) (H : DHp) (Q : DK) : rMinL ds H Q = (match ds with
  | [d] => (match (listOf H d).bind ints? with | some ns => 0 < ns.length ∧ ∀ m, m ∈ ns → (∀ y, y ∈ ns → m ≤ y) → Q (.int m) H | none => False)
  | _ => False) := (rfl)
end DL

/-! DL11: starred items of a display. -/
namespace DL
open PySem PySem.Spec PyProof.Rows L2
section
variable {X : Cx} {e : Expr} {es : List Expr} {te : DE} {t : DA} {p : Pos}
def dStar (te : DE) (t : DA) : DA := fun τ H Q => te τ H fun x H1 => match seqOf H1 x with
  | some xs => t τ H1 fun ys H2 => Q (xs ++ ys) H2
  | none => False
theorem qa_star (he : QE X e te) (hr : QA X es t) (hs : starEach (.Starred e p :: es) X.env = (true, eval e X.env) :: starEach es X.env := by rfl) : QA X (.Starred e p :: es) (dStar te t) :=
  ⟨paW (StX.pa_star he.run hr.run hs) fun σ H Q ⟨T, DH, τ, R, A, S, h, u⟩ => ⟨T, DH, τ, _, A, S, h, fun T1 DH1 H1 x v s1 A1 r1 h1 => by
    split at h1
    · rename_i xs el
      obtain ⟨q, vs, rfl, hq, rr⟩ := seqOf_rep (K := X.K) A1 r1 el
      exact ⟨q, vs, rfl, hq.symm, T1, DH1, τ, _, A1, S.up s1, h1, fun T2 DH2 H2 ys ws s2 A2 r2 h2 => u T2 DH2 H2 _ _ (s1.trans s2) A2 ((RepL.up s2 _ _ rr).append r2) h2⟩
    · exact h1.elim⟩⟩
end
theorem dStar_e (te : DE) (t : DA) (τ : DSt) (H : DHp) (Q : List D → DHp → Prop) : dStar te t τ H Q = (te τ H fun x H1 => match seqOf H1 x with
  | some xs => t τ H1 fun ys H2 => Q (xs ++ ys) H2
  | none => False) := (rfl)
end DL

/-! DLA: the defs as they stand at the top. -/
namespace DL
open PySem PySem.Spec PyProof.Rows L2
section
variable {K : PySem.W.Frag} {h : Heap} {mg : Str → Option Value}
def TopDef (K : PySem.W.Frag) (mg : Str → Option Value) (x : Str) (st : Stmt) : Prop := ∃ f fd, Fun K x x st f fd ∧ mg x = some (.ref f)
def TopAt (K : PySem.W.Frag) (x : Str) (st : Stmt) : Prop := ∃ f fd, Fun K x x st f fd ∧ PySem.W.nsIn K mainGlobals x = some (some (.ref f))
theorem TopAt.mk {x : Str} {st : Stmt} {f : Addr} {oc : Value} {od an : Option Addr} {osl : Array (Option Value)} {kV doc pm cdv ct : Value} (a : PySem.W.nsIn K mainGlobals x = some (some (.ref f)))
    (l : K.lookup f = some ⟨oc, od, .func (PySem.W.fnOf x x (defArgs st) (defBody st) (defScope st) .none kV doc pm an cdv ct), osl⟩) (c : PySem.W.codeIn K cdv x = true) (k : PySem.W.keepIn K (.ref f) = true) : TopAt K x st :=
  ⟨f, _, fun_mk l c k, a⟩
theorem TopAt.top {x : Str} {st : Stmt} (t : TopAt K x st) (X : K.In h) (G : h.Ns mainGlobals mg) : TopDef K mg x st := let ⟨f, fd, F, a⟩ := t; ⟨f, fd, F, PySem.W.mg_of X G a⟩
/-- the built-in names are free at the top -/
structure BlK (K : PySem.W.Frag) : Prop where
  all : PySem.W.nsIn K mainGlobals "all" = some none
  any : PySem.W.nsIn K mainGlobals "any" = some none
  abs : PySem.W.nsIn K mainGlobals "abs" = some none
  bool : PySem.W.nsIn K mainGlobals "bool" = some none
  dict : PySem.W.nsIn K mainGlobals "dict" = some none
  enumerate : PySem.W.nsIn K mainGlobals "enumerate" = some none
  int : PySem.W.nsIn K mainGlobals "int" = some none
  isinstance : PySem.W.nsIn K mainGlobals "isinstance" = some none
  len : PySem.W.nsIn K mainGlobals "len" = some none
  list : PySem.W.nsIn K mainGlobals "list" = some none
  max : PySem.W.nsIn K mainGlobals "max" = some none
  min : PySem.W.nsIn K mainGlobals "min" = some none
  range : PySem.W.nsIn K mainGlobals "range" = some none
  repr : PySem.W.nsIn K mainGlobals "repr" = some none
  set : PySem.W.nsIn K mainGlobals "set" = some none
  sorted : PySem.W.nsIn K mainGlobals "sorted" = some none
  str : PySem.W.nsIn K mainGlobals "str" = some none
  sum : PySem.W.nsIn K mainGlobals "sum" = some none
  tuple : PySem.W.nsIn K mainGlobals "tuple" = some none
  zip : PySem.W.nsIn K mainGlobals "zip" = some none
theorem BlK.top (b : BlK K) (X : K.In h) (G : h.Ns mainGlobals mg) : Bl mg :=
  have f := fun {x : Str} (z : PySem.W.nsIn K mainGlobals x = some none) => PySem.W.mg_none_of X G z
  ⟨f b.all, f b.any, f b.abs, f b.bool, f b.dict, f b.enumerate, f b.int, f b.isinstance, f b.len, f b.list, f b.max, f b.min, f b.range, f b.repr, f b.set, f b.sorted, f b.str, f b.sum, f b.tuple, f b.zip⟩
end
end DL

local macro_rules
  | `(tactic| unfold dd $ls*) => `(tactic| try simp only [↓DL.dVar_e, ↓DL.dC_e, ↓DL.dOp_e, ↓DL.dUn_e, ↓DL.dB_e, ↓DL.dChain_e, ↓DL.dAnd_e, ↓DL.dOr_e, ↓DL.dNot_e, ↓DL.dAndV_e, ↓DL.dOrV_e, ↓DL.dNotV_e, ↓DL.dIf_e, ↓DL.dNil_e, ↓DL.dCons_e, ↓DL.dTup_e, ↓DL.dLst_e, ↓DL.dCB_e, ↓DL.dNext_e, ↓DL.dSeq_e, ↓DL.dCont_e, ↓DL.dBreak_e, ↓DL.dDrop_e, ↓DL.dRet_e, ↓DL.dRetN_e, ↓DL.dIfS_e, ↓DL.gN_e, ↓DL.gNilD_e, ↓DL.gConsD_e, ↓DL.gT_e, ↓DL.dAsg_e, ↓DL.dPar_e, ↓DL.dPar3_e, ↓DL.dYes_e, ↓DL.dISeq_e, ↓DL.dIRg1_e, ↓DL.dIRg2_e, ↓DL.dIEnum_e, ↓DL.dIZip_e, ↓DL.rIntD_e, ↓DL.rNegD_e, ↓DL.rEq_intF, ↓DL.rEq_intT, ↓DL.rAddD_e, ↓DL.rMulD_e, ↓DL.rIxD_e, ↓DL.rI1_e, ↓DL.rI2_e, ↓DL.rIntCD_e, ↓DL.rSumD_e, ↓DL.rAllD_e, ↓DL.rIsiD_e, ↓DL.rLenD_e, ↓DL.rTupD_e, ↓DL.rLstD_e, ↓DL.rIsN_e, ↓DL.rSlD_e, ↓DL.dSl_e, ↓DL.dNoPart_e, ↓DL.dPart_e, ↓DL.dRev_e, ↓DL.dGet_e, ↓DL.dIn_e, ↓DL.dStore_e, ↓DL.dBM0_e, ↓DL.dBM_e, ↓DL.dDisp_e, ↓DL.mAppend_e, ↓DL.mPop_e, ↓DL.dNewK_e, ↓DL.dNewT_e, ↓DL.dLstM_e, ↓DL.dFrz_e, ↓DL.rReprD_e, ↓DL.rNeS_e, ↓DL.rEqS_e, ↓DL.asB_e, ↓DL.walkD_e, ↓DL.lookD_e, ↓DL.storeD_e, ↓DL.ofTy_e, ↓DL.onLst_e, DL.bodyE, DL.dstart, DL.dPairs, DL.keysOf, DL.keyD, DL.isNon, DL.peek_int, DL.peek_bl, DL.peek_non, DL.peek_str, DL.peek_tup, DL.peek_lst, DL.seqOf_tup, DL.seqOf_lst, DL.listOf_lst, DL.tyOf, DL.isTy, DL.dupd_same, DL.dupd_dupd, List.map_cons, List.map_nil, List.length_cons, List.length_nil, List.cons_append, List.nil_append, List.replicate_succ, List.replicate_zero, Nat.reduceAdd, Nat.reduceSub, Nat.zero_add, List.getElem?_cons_zero, List.getElem?_cons_succ, List.set_cons_zero, List.set_cons_succ, true_and, and_true, if_true, if_false, Bool.false_eq_true, reduceCtorEq, ne_eq, not_false_eq_true, not_true_eq_false, decide_eq_true_eq, Bool.not_eq_true', decide_eq_false_iff_not, Option.bind_some, Option.map_some, $[$ls:term],*])
/-! SH1: the source of draws. -/
namespace DL
open PySem PySem.Spec PyProof.Rows L2
/-! ### _law_source -/
def rd_law_source (K : PySem.W.Frag) : DS :=
  (dSeq (dAsg (dC (.int 11)) (gN 1))
    (dSeq (dFor (dIScr K (dVar 0)) (gN 2) (dAsg (dOp rMod (dCB rIntCD (dCons (dOp rAddD (dOp rAddD (dOp rMulD (dVar 1) (dC (.int 69069))) (dOp rMulD (dVar 2) (dC (.int 31)))) (dC (.int 5))) dNil)) (dC (.int 2147483629))) (gN 1)))
    (dRet (dDisp [((dC (.str (Str.ofString "cells"))), (dRev true (dLc false (dIScr K (dVar 0)) (gN 2) dYes (dCB rAbsD (dCons (dVar 2) dNil)) [2]))), ((dC (.str (Str.ofString "left"))), (dC (.int 1))), ((dC (.str (Str.ofString "mixed"))), (dVar 1)), ((dC (.str (Str.ofString "turn"))), (dC (.int 0)))]))))
/-! ### _law_pick -/
def rd_law_pick : DS :=
  (dSeq (dWhile (dAnd (dB (dOp (rIntD (fun _ _ => True) fun i j => .bl (decide (j < i))) (dVar 1) (dC (.int 1)))) (dAnd (dB (dOp (rIntD (fun _ _ => True) fun i j => .bl (decide (i < j))) (dGet (dVar 0) (dC (.str (Str.ofString "left")))) (dC (.int 2)))) (dB (dOp (rIntD (fun _ _ => True) fun i j => .bl (decide (j < i))) (dCB rLenD (dCons (dGet (dVar 0) (dC (.str (Str.ofString "cells")))) dNil)) (dC (.int 0)))))) (dStore (dVar 0) (dC (.str (Str.ofString "left"))) (dBM0 "list" mPop (dGet (dVar 0) (dC (.str (Str.ofString "cells")))))))
    (dSeq (dAsg (dGet (dVar 0) (dC (.str (Str.ofString "left")))) (gN 2))
    (dSeq (dIfS (dOr (dB (dOp (rIntD (fun _ _ => True) fun i j => .bl (decide (i < j))) (dVar 1) (dC (.int 2)))) (dB (dOp (rIntD (fun _ _ => True) fun i j => .bl (decide (j < i))) (dVar 2) (dC (.int 1))))) (dSeq (dStore (dVar 0) (dC (.str (Str.ofString "left"))) (dOp rFdiv (dVar 2) (dCB rMax2 (dCons (dC (.int 1)) (dCons (dVar 1) dNil)))))
    (dRet (dOp rMod (dCB rIntCD (dCons (dVar 2) dNil)) (dCB rMax2 (dCons (dC (.int 1)) (dCons (dVar 1) dNil)))))) dNext)
    (dSeq (dStore (dVar 0) (dC (.str (Str.ofString "turn"))) (dOp rAddD (dGet (dVar 0) (dC (.str (Str.ofString "turn")))) (dC (.int 1))))
    (dSeq (dAsg (dOp rMod (dCB rIntCD (dCons (dOp rAddD (dGet (dVar 0) (dC (.str (Str.ofString "mixed")))) (dOp rMulD (dGet (dVar 0) (dC (.str (Str.ofString "turn")))) (dC (.int 104729)))) dNil)) (dC (.int 998244353))) (gN 3))
    (dSeq (dAsg (dOp rMod (dCB rIntCD (dCons (dOp rAddD (dOp rMulD (dVar 3) (dVar 3)) (dOp rMulD (dGet (dVar 0) (dC (.str (Str.ofString "turn")))) (dC (.int 17)))) dNil)) (dC (.int 2147483647))) (gN 3))
    (dSeq (dStore (dVar 0) (dC (.str (Str.ofString "mixed"))) (dVar 3))
    (dRet (dOp rMod (dCB rIntCD (dCons (dOp rFdiv (dVar 3) (dC (.int 16))) dNil)) (dVar 1))))))))))
/-! ### _law_open_cells -/
def rd_law_open_cells (K : PySem.W.Frag) : DS :=
  (dSeq (dAsg (dC (.int 11)) (gN 1))
    (dSeq (dFor (dIScr K (dVar 0)) (gN 2) (dAsg (dOp rMod (dCB rIntCD (dCons (dOp rAddD (dOp rAddD (dOp rMulD (dVar 1) (dC (.int 69069))) (dOp rMulD (dVar 2) (dC (.int 31)))) (dC (.int 5))) dNil)) (dC (.int 2147483629))) (gN 1)))
    (dSeq (dAsg (dLc false (dIScr K (dVar 0)) (gN 2) dYes (dCB rAbsD (dCons (dVar 2) dNil)) [2]) (gN 3))
    (dRet (dDisp [((dC (.str (Str.ofString "cells"))), (dRev true (dVar 3))), ((dC (.str (Str.ofString "left"))), (dC (.int 1))), ((dC (.str (Str.ofString "mixed"))), (dVar 1)), ((dC (.str (Str.ofString "turn"))), (dC (.int 0)))])))))
/-! ### _law_pick -/
def rd_law_pickB : DS :=
  (dSeq (dIfS (dB (dOp (rIntD (fun _ _ => True) fun i j => .bl (decide (i < j))) (dVar 1) (dC (.int 2)))) (dRet (dC (.int 0))) dNext)
    (dSeq (dAsg (dGet (dVar 0) (dC (.str (Str.ofString "cells")))) (gN 2))
    (dSeq (dWhile (dAnd (dB (dOp (rIntD (fun _ _ => True) fun i j => .bl (decide (i < j))) (dGet (dVar 0) (dC (.str (Str.ofString "left")))) (dC (.int 2)))) (dB (dOp (rIntD (fun _ _ => True) fun i j => .bl (decide (j < i))) (dCB rLenD (dCons (dVar 2) dNil)) (dC (.int 0))))) (dStore (dVar 0) (dC (.str (Str.ofString "left"))) (dBM0 "list" mPop (dVar 2))))
    (dSeq (dAsg (dGet (dVar 0) (dC (.str (Str.ofString "left")))) (gN 3))
    (dSeq (dIfS (dB (dOp (rIntD (fun _ _ => True) fun i j => .bl (decide (j < i))) (dVar 3) (dC (.int 1)))) (dSeq (dStore (dVar 0) (dC (.str (Str.ofString "left"))) (dOp rFdiv (dVar 3) (dVar 1)))
    (dRet (dOp rMod (dCB rIntCD (dCons (dVar 3) dNil)) (dVar 1)))) dNext)
    (dSeq (dStore (dVar 0) (dC (.str (Str.ofString "turn"))) (dOp rAddD (dGet (dVar 0) (dC (.str (Str.ofString "turn")))) (dC (.int 1))))
    (dSeq (dAsg (dGet (dVar 0) (dC (.str (Str.ofString "turn")))) (gN 4))
    (dSeq (dAsg (dOp rMod (dCB rIntCD (dCons (dOp rAddD (dGet (dVar 0) (dC (.str (Str.ofString "mixed")))) (dOp rMulD (dVar 4) (dC (.int 104729)))) dNil)) (dC (.int 998244353))) (gN 5))
    (dSeq (dAsg (dOp rMod (dCB rIntCD (dCons (dOp rAddD (dOp rMulD (dVar 5) (dVar 5)) (dOp rMulD (dVar 4) (dC (.int 17)))) dNil)) (dC (.int 2147483647))) (gN 5))
    (dRet (dOp rMod (dCB rIntCD (dCons (dOp rFdiv (dVar 5) (dC (.int 16))) dNil)) (dVar 1))))))))))))

/-! ### the promises -/
def okAll : DHp → Prop := fun _ => True
/-- a source of draws from a script -/
def spSource (K : PySem.W.Frag) : DSp := fun ds DH Q => ∃ a ns, ds = [.ref a] ∧ ns.length ≤ 63 ∧ ScrAt K DH a ns ∧ ∀ p, DH p = none → Q (.ref p) (dupd DH p .src)
def spSource0 (K : PySem.W.Frag) : DSp := fun ds DH Q => ∃ a ns, ds = [.ref a] ∧ ns.length ≤ 63 ∧ ScrAt K DH a ns ∧ ∀ p c cells l m t, DH p = none → DH c = none → c ≠ p → SrcOk cells l m t → Q (.ref p) (dupd (dupd DH c (.lst (cells.map D.int))) p (srcD c l m t))
/-- a draw below m, or 0 -/
def spPick : DSp := fun ds DH Q => ∃ a m, ds = [.ref a, .int m] ∧ DH a = some .src ∧ m < 2 ^ 64 ∧ ∀ k, 0 ≤ k → (k < m ∨ k = 0) → Q (.int k) DH
def opn (DH : DHp) (a c : Addr) (cells : List Int) (l m t : Int) : DHp := dupd (dupd DH a (srcD c l m t)) c (.lst (cells.map D.int))
def spPick0 : DSp := fun ds DH0 Q => ∃ a c n cells l m t DH, ds = [.ref a, .int n] ∧ c ≠ a ∧ DH0 = opn DH a c cells l m t ∧ SrcOk cells l m t ∧ n < 2 ^ 64 ∧ ∀ k cells' l' m' t', SrcOk cells' l' m' t' → 0 ≤ k → (k < n ∨ k = 0) → Q (.int k) (opn DH a c cells' l' m' t')
theorem source_imp {K : PySem.W.Frag} {P : Program} {w : World} {mg : Str → Option Value} {base : Heap} {k : Nat} {x : Str} (h : Has P w K mg base k x (spSource0 K)) : Has P w K mg base k x (spSource K) := by
  obtain ⟨f, fd, ps, F, r⟩ := h
  refine ⟨f, fd, ps, F.imp fun vs H Q E ⟨T, DH, ds, R, A, r, ⟨a, ns, e, hl, hs, h⟩, u⟩ => ?_, r⟩
  refine ⟨T, DH, ds, fun d DH' => ∃ p c cells l m t, DH p = none ∧ DH c = none ∧ c ≠ p ∧ SrcOk cells l m t ∧ d = .ref p ∧ DH' = dupd (dupd DH c (.lst (cells.map D.int))) p (srcD c l m t), A, r, ⟨a, ns, e, hl, hs, ?_⟩, ?_⟩
  · exact fun p c cells l m t h1 h2 h3 h4 => ⟨p, c, cells, l, m, t, h1, h2, h3, h4, rfl, rfl⟩
  · rintro T' DH' H' d v s A' rv ⟨p, c, cells, l, m, t, h1, h2, h3, h4, rfl, rfl⟩
    have B := A'.shutS (a := p) (c := c) dupd_same (by rw [dupd_ne h3, dupd_same]) h4
    have e : dupd (derase (dupd (dupd DH c (.lst (cells.map D.int))) p (srcD c l m t)) c) p .src = dupd DH p .src := by
      funext b
      by_cases q : b = p
      · subst q; rw [dupd_same, dupd_same]
      · rw [dupd_ne q, dupd_ne q]
        unfold derase
        by_cases z : b = c
        · subst z; rw [if_pos rfl, h2]
        · rw [if_neg z, dupd_ne q, dupd_ne z]
    rw [e] at B
    exact u T' _ H' _ _ s B rv (h p h1)
theorem pick_imp {K : PySem.W.Frag} {P : Program} {w : World} {mg : Str → Option Value} {base : Heap} {k : Nat} {x : Str} (h : Has P w K mg base k x spPick0) : Has P w K mg base k x spPick := by
  obtain ⟨f, fd, ps, F, r⟩ := h
  refine ⟨f, fd, ps, F.imp fun vs H Q E ⟨T, DH, ds, R, A, r, ⟨a, n, e, hs, hn, h⟩, u⟩ => ?_, r⟩
  obtain ⟨c, cells, l, m, t, ok, hc, hcn, A0⟩ := A.openS hs
  refine ⟨T, _, ds, fun d DH' => ∃ k cells' l' m' t', SrcOk cells' l' m' t' ∧ 0 ≤ k ∧ (k < n ∨ k = 0) ∧ d = .int k ∧ DH' = opn DH a c cells' l' m' t', A0, r, ⟨a, c, n, cells, l, m, t, DH, e, hc, rfl, ok, hn, ?_⟩, ?_⟩
  · exact fun k cells' l' m' t' o h1 h2 => ⟨k, cells', l', m', t', o, h1, h2, rfl, rfl⟩
  · rintro T' DH' H' d v s A' rv ⟨k, cells', l', m', t', o, h1, h2, rfl, rfl⟩
    have B := A'.shutS (a := a) (c := c) (by unfold opn; rw [dupd_ne (Ne.symm hc), dupd_same]) (by unfold opn; rw [dupd_same]) o
    have e : dupd (derase (opn DH a c cells' l' m' t') c) a .src = DH := by
      funext b
      by_cases q : b = a
      · subst q; rw [dupd_same, hs]
      · rw [dupd_ne q]
        unfold derase opn
        by_cases z : b = c
        · subst z; rw [if_pos rfl, hcn]
        · rw [if_neg z, dupd_ne z, dupd_ne q]
    rw [e] at B
    exact u T' _ H' _ _ s B rv (h k h1 h2)

/-! ### what the source is made of -/
theorem stir_for {ok : DHp → Prop} {E : DEnds} {H : DHp} {a : Addr} {rest : List (Option D)} (hok : ok H) (hE : ∀ m c, 0 ≤ m → m < 2147483648 → E.nx (some (.ref a) :: some (.int m) :: c :: rest) H) : ∀ (ns : List Int) (m : Int) (c : Option D), 0 ≤ m → m < 2147483648 →
    dForL ok (gN 2) (dAsg (dOp rMod (dCB rIntCD (dCons (dOp rAddD (dOp rAddD (dOp rMulD (dVar 1) (dC (.int 69069))) (dOp rMulD (dVar 2) (dC (.int 31)))) (dC (.int 5))) dNil)) (dC (.int 2147483629))) (gN 1)) (ns.map D.int) E (some (.ref a) :: some (.int m) :: c :: rest) H
  | [], m, c, h0, h1 => ⟨hok, hE m c h0 h1⟩
  | n :: ns, m, c, h0, h1 => by
    refine ⟨hok, ?_⟩
    unfold dd
    refine ⟨mulD_r (by decide) (by decide), mulD_r (by decide) (by decide), by decide, stir_for hok hE ns _ _ ?_ ?_⟩
    · exact Int.emod_nonneg _ (by decide)
    · exact Int.lt_trans (Int.emod_lt_of_pos _ (by decide)) (by decide)
theorem abs_comp {ok : DHp → Prop} {H : DHp} {τ : DSt} {K : List D → DHp → Prop} (hok : ok H) (h2 : 2 < τ.length) (ns : List Int) (h : K (ns.map fun n => .int (if n < 0 then -n else n)) H) :
    dCompL ok (gN 2) dYes (dCB rAbsD (dCons (dVar 2) dNil)) τ (ns.map D.int) [] H K := by
  refine comp_map (fun x => match x with | .int n => .int (if n < 0 then -n else n) | x => x) hok _ _ (fun x hx Q q => ?_) ?_
  · obtain ⟨n, _, rfl⟩ := List.mem_map.mp hx
    show (dCB rAbsD (dCons (dVar 2) dNil)) (τ.set 2 (some (.int n))) H Q
    simp only [dCB, dCons, dVar, dNil, List.getElem?_set_self h2]
    exact q
  · rw [List.nil_append, List.map_map]
    exact h
theorem abs_nonneg {ns : List Int} : ∀ x ∈ (ns.map fun n => if n < 0 then -n else n).reverse, 0 ≤ x := fun x hx => by
  rw [List.mem_reverse, List.mem_map] at hx
  obtain ⟨n, _, rfl⟩ := hx
  split <;> omega
theorem abs_cells {ns : List Int} : (ns.map fun n => D.int (if n < 0 then -n else n)).reverse = (ns.map fun n => if n < 0 then -n else n).reverse.map D.int := by
  rw [List.map_reverse, List.map_map]
  rfl
theorem ScrAt.new {K : PySem.W.Frag} {H : DHp} {a p : Addr} {ns : List Int} {x : DO} (h : ScrAt K H a ns) (hp : H p = none) : ScrAt K (dupd H p x) a ns := by
  rcases h with h | h
  · exact .inl (by rw [dupd_ne (fun z => by subst z; rw [hp] at h; cases h)]; exact h)
  · exact .inr h
theorem key_ne : (Sum.inr (Str.ofString "cells") : Key) ≠ .inr (Str.ofString "left") := by decide
theorem source22 {K : PySem.W.Frag} {ds : List D} {DH : DHp} {Q : DK} (h : spSource0 K ds DH Q) : rd_law_source K (bodyE Q) (dstart ["script", "mixed", "cell"] ds) DH := by
  obtain ⟨a, ns, rfl, hl, hs, h⟩ := h
  unfold rd_law_source
  unfold dd dIScr
  refine ⟨a, ns, rfl, hs, stir_for hs (fun m c h0 h1 p hp => ?_) ns 11 none (by decide) (by decide)⟩
  refine ⟨a, ns, rfl, hs.new hp, by rw [List.length_map]; exact size_le (by omega), abs_comp (hs.new hp) ?_ ns ?_⟩
  · exact Nat.lt_succ_self 2
  unfold dd
  intro q hq
  obtain ⟨nq, hq⟩ := dupd_none.mp hq
  refine ⟨by rw [dupd_ne' nq, dupd_same], by decide, by decide, _, DSub.refl _, ?_⟩
  have e : dupd (dupd (dupd DH p (.dK [])) q (.lst (ns.map fun n => D.int (if n < 0 then -n else n)).reverse)) p (srcD q 1 m 0) = dupd (dupd DH q (.lst ((ns.map fun n => if n < 0 then -n else n).reverse.map D.int))) p (srcD q 1 m 0) := by
    rw [dupd_swap (Ne.symm nq), dupd_dupd, abs_cells]
  exact e ▸ h p q _ 1 m 0 hp hq nq ⟨by decide, h0, h1, by decide, abs_nonneg⟩
theorem sourceOC {K : PySem.W.Frag} {ds : List D} {DH : DHp} {Q : DK} (h : spSource0 K ds DH Q) : rd_law_open_cells K (bodyE Q) (dstart ["script", "stirred", "cell", "cells"] ds) DH := by
  obtain ⟨a, ns, rfl, hl, hs, h⟩ := h
  unfold rd_law_open_cells
  unfold dd dIScr
  refine ⟨a, ns, rfl, hs, stir_for hs (fun m c h0 h1 => ?_) ns 11 none (by decide) (by decide)⟩
  refine ⟨a, ns, rfl, hs, by rw [List.length_map]; exact size_le (by omega), abs_comp hs ?_ ns ?_⟩
  · exact (by decide : 2 < 4)
  unfold dd
  intro p hp q hq
  obtain ⟨nq, hq⟩ := dupd_none.mp hq
  refine ⟨by rw [dupd_ne' nq, dupd_same], by decide, by decide, _, DSub.refl _, ?_⟩
  have e : dupd (dupd (dupd DH p (.dK [])) q (.lst (ns.map fun n => D.int (if n < 0 then -n else n)).reverse)) p (srcD q 1 m 0) = dupd (dupd DH q (.lst ((ns.map fun n => if n < 0 then -n else n).reverse.map D.int))) p (srcD q 1 m 0) := by
    rw [dupd_swap (Ne.symm nq), dupd_dupd, abs_cells]
  exact e ▸ h p q _ 1 m 0 hp hq nq ⟨by decide, h0, h1, by decide, abs_nonneg⟩

/-! ### a draw -/
theorem opn_a {DH : DHp} {a c : Addr} {cells : List Int} {l m t : Int} (h : c ≠ a) : opn DH a c cells l m t a = some (.dK [(.inr "cells", .ref c), (.inr "left", .int l), (.inr "mixed", .int m), (.inr "turn", .int t)]) := by
  unfold opn
  rw [dupd_ne (Ne.symm h), dupd_same]
  rfl
theorem opn_c {DH : DHp} {a c : Addr} {cells : List Int} {l m t : Int} : opn DH a c cells l m t c = some (.lst (cells.map D.int)) := by
  unfold opn
  rw [dupd_same]
theorem srcd_cells {c : Addr} {l m t : Int} : dval [((Sum.inr "cells" : Key), D.ref c), (.inr "left", .int l), (.inr "mixed", .int m), (.inr "turn", .int t)] (.inr (Str.ofString "cells")) = some (.ref c) := rfl
theorem srcd_left {c : Addr} {l m t : Int} : dval [((Sum.inr "cells" : Key), D.ref c), (.inr "left", .int l), (.inr "mixed", .int m), (.inr "turn", .int t)] (.inr (Str.ofString "left")) = some (.int l) := rfl
theorem srcd_mixed {c : Addr} {l m t : Int} : dval [((Sum.inr "cells" : Key), D.ref c), (.inr "left", .int l), (.inr "mixed", .int m), (.inr "turn", .int t)] (.inr (Str.ofString "mixed")) = some (.int m) := rfl
theorem srcd_turn {c : Addr} {l m t : Int} : dval [((Sum.inr "cells" : Key), D.ref c), (.inr "left", .int l), (.inr "mixed", .int m), (.inr "turn", .int t)] (.inr (Str.ofString "turn")) = some (.int t) := rfl
theorem put_left {c : Addr} {l m t k : Int} : dput [((Sum.inr "cells" : Key), D.ref c), (.inr "left", .int l), (.inr "mixed", .int m), (.inr "turn", .int t)] (.inr (Str.ofString "left")) (.int k) = [((Sum.inr "cells" : Key), D.ref c), (.inr "left", .int k), (.inr "mixed", .int m), (.inr "turn", .int t)] := rfl
theorem put_mixed {c : Addr} {l m t k : Int} : dput [((Sum.inr "cells" : Key), D.ref c), (.inr "left", .int l), (.inr "mixed", .int m), (.inr "turn", .int t)] (.inr (Str.ofString "mixed")) (.int k) = [((Sum.inr "cells" : Key), D.ref c), (.inr "left", .int l), (.inr "mixed", .int k), (.inr "turn", .int t)] := rfl
theorem put_turn {c : Addr} {l m t k : Int} : dput [((Sum.inr "cells" : Key), D.ref c), (.inr "left", .int l), (.inr "mixed", .int m), (.inr "turn", .int t)] (.inr (Str.ofString "turn")) (.int k) = [((Sum.inr "cells" : Key), D.ref c), (.inr "left", .int l), (.inr "mixed", .int m), (.inr "turn", .int k)] := rfl
theorem opn_put {DH : DHp} {a c : Addr} {cells : List Int} {l m t l' m' t' : Int} (h : c ≠ a) : dupd (opn DH a c cells l m t) a (.dK [((Sum.inr "cells" : Key), D.ref c), (.inr "left", .int l'), (.inr "mixed", .int m'), (.inr "turn", .int t')]) = opn DH a c cells l' m' t' := by
  unfold opn
  rw [dupd_swap h, dupd_dupd]
  rfl
theorem opn_pop {DH : DHp} {a c : Addr} {cells cells' : List Int} {l m t : Int} : dupd (opn DH a c cells l m t) c (.lst (cells'.map D.int)) = opn DH a c cells' l m t := by
  unfold opn
  rw [dupd_dupd]
theorem last_get {cells : List Int} (h : 0 < cells.length) : ∃ x, (cells.map D.int)[cells.length - 1]? = some (.int x) ∧ x ∈ cells := by
  refine ⟨cells[cells.length - 1], ?_, List.getElem_mem _⟩
  rw [List.getElem?_map, List.getElem?_eq_getElem (by omega)]
  rfl
theorem srcOk_pop {cells : List Int} {l m t x : Int} (h : SrcOk cells l m t) (hx : x ∈ cells) : SrcOk cells.dropLast x m t :=
  ⟨h.2.2.2.2 x hx, h.2.1, h.2.2.1, h.2.2.2.1, fun y hy => h.2.2.2.2 y (List.dropLast_subset _ hy)⟩
theorem dl_map {cells : List Int} : (cells.map D.int).dropLast = cells.dropLast.map D.int := List.map_dropLast.symm
theorem log_small {n : Int} (h0 : 0 ≤ n) (h : n < 2 ^ 64) : n.natAbs.log2 < 9000 := by
  have : n.natAbs < 2 ^ 64 := by omega
  rcases Nat.eq_zero_or_pos n.natAbs with z | z
  · rw [z]; decide
  · have := (Nat.log2_lt (by omega)).mpr this
    omega
theorem mod_lt {x n : Int} (h : 2 ≤ n) : 0 ≤ x % n ∧ (x % n < n ∨ x % n = 0) := ⟨Int.emod_nonneg _ (by omega), .inl (Int.emod_lt_of_pos _ (by omega))⟩
theorem pick22 {ds : List D} {DH0 : DHp} {Q : DK} (h : spPick0 ds DH0 Q) : rd_law_pick (bodyE Q) (dstart ["source", "many", "left", "mixed"] ds) DH0 := by
  obtain ⟨a, c, n, cells, l, m, t, DH, rfl, hc, rfl, ok, hn, h⟩ := h
  unfold rd_law_pick
  unfold dd
  refine while_inv (fun k τ H => ∃ cells l, τ = [some (.ref a), some (.int n), none, none] ∧ H = opn DH a c cells l m t ∧ SrcOk cells l m t ∧ k = cells.length) ⟨cells, l, rfl, rfl, ok, rfl⟩ ?_
  rintro k τ H ⟨cells, l, rfl, rfl, ok, rfl⟩ E' - - hE -
  have tail : ∀ l', (n < 2 ∨ 1 < l') → 0 ≤ l' → ((0 < (if n > 1 then n else 1) ∧ (if n > 1 then n else 1).natAbs.log2 < 9000) ∧ 4 < sizeLine ∧ 0 < (if n > 1 then n else 1) ∧ ∃ H2, DSub H2 (opn DH a c cells (l' / if n > 1 then n else 1) m t) ∧ Q (.int (l' % if n > 1 then n else 1)) H2) := by
    intro l' hl h0
    have ok2 : SrcOk cells (l' / if n > 1 then n else 1) m t := ⟨Int.ediv_nonneg h0 (by split <;> omega), ok.2.1, ok.2.2.1, ok.2.2.2.1, ok.2.2.2.2⟩
    refine ⟨⟨by split <;> omega, ?_⟩, by decide, by split <;> omega, _, DSub.refl _, h _ _ _ _ _ ok2 ?_ ?_⟩
    · split
      · exact log_small (by omega) hn
      · decide
    · exact Int.emod_nonneg _ (by split <;> omega)
    · split
      · exact (mod_lt (by omega)).2
      · right; omega
  have fin : if n < 2 then ((0 < (if n > 1 then n else 1) ∧ (if n > 1 then n else 1).natAbs.log2 < 9000) ∧ 4 < sizeLine ∧ 0 < (if n > 1 then n else 1) ∧ ∃ H2, DSub H2 (opn DH a c cells (l / if n > 1 then n else 1) m t) ∧ Q (.int (l % if n > 1 then n else 1)) H2) else
      if 1 < l then ((0 < (if n > 1 then n else 1) ∧ (if n > 1 then n else 1).natAbs.log2 < 9000) ∧ 4 < sizeLine ∧ 0 < (if n > 1 then n else 1) ∧ ∃ H2, DSub H2 (opn DH a c cells (l / if n > 1 then n else 1) m t) ∧ Q (.int (l % if n > 1 then n else 1)) H2) else
      4 < sizeLine ∧ CMulD (t + 1) 104729 ∧ 0 < (998244353 : Int) ∧ CMulD ((m + (t + 1) * 104729) % 998244353) ((m + (t + 1) * 104729) % 998244353) ∧ CMulD (t + 1) 17 ∧ 0 < (2147483647 : Int) ∧ 4 < sizeLine ∧ (0 < (16 : Int) ∧ (Int.natAbs 16).log2 < 9000) ∧ 0 < n ∧
        ∃ H2, DSub H2 (opn DH a c cells l (((m + (t + 1) * 104729) % 998244353 * ((m + (t + 1) * 104729) % 998244353) + (t + 1) * 17) % 2147483647) (t + 1)) ∧ Q (.int (((m + (t + 1) * 104729) % 998244353 * ((m + (t + 1) * 104729) % 998244353) + (t + 1) * 17) % 2147483647 / 16 % n)) H2 := by
    refine ite2 (fun h1 => tail l (.inl h1) ok.1) fun h1 => ite2 (fun h2 => tail l (.inr h2) ok.1) fun h2 => ?_
    have g0 := Int.emod_nonneg (m + (t + 1) * 104729) (b := 998244353) (by decide)
    have g1 := Int.emod_lt_of_pos (m + (t + 1) * 104729) (b := 998244353) (by decide)
    have g2 := Int.emod_nonneg ((m + (t + 1) * 104729) % 998244353 * ((m + (t + 1) * 104729) % 998244353) + (t + 1) * 17) (b := 2147483647) (by decide)
    have g3 := Int.emod_lt_of_pos ((m + (t + 1) * 104729) % 998244353 * ((m + (t + 1) * 104729) % 998244353) + (t + 1) * 17) (b := 2147483647) (by decide)
    have ok2 : SrcOk cells l (((m + (t + 1) * 104729) % 998244353 * ((m + (t + 1) * 104729) % 998244353) + (t + 1) * 17) % 2147483647) (t + 1) := ⟨ok.1, g2, Int.lt_trans g3 (by decide), by have := ok.2.2.2.1; omega, ok.2.2.2.2⟩
    exact ⟨by decide, mulD_r (by decide) (by decide), by decide, mulD_l (by omega) (by omega), mulD_r (by decide) (by decide), by decide, by decide, ⟨by decide, by decide⟩, by omega, _, DSub.refl _, h _ _ _ _ _ ok2 (mod_lt (by omega)).1 (mod_lt (by omega)).2⟩
  unfold dd opn_a hc srcd_left srcd_cells srcd_turn srcd_mixed put_left put_turn put_mixed opn_put opn_c opn_pop peek List.length_map dl_map
  refine ite2 (fun h1 => ite2 (fun h2 => ite2 (fun h3 => ?_) fun h3 => ?_) fun h2 => ?_) fun h1 => ?_
  · obtain ⟨x, e, hx⟩ := last_get (cells := cells) (by omega)
    rw [e]
    unfold dd put_left opn_put hc
    exact ⟨by decide, hE _ _ _ (by rw [List.length_dropLast]; omega) ⟨_, _, rfl, rfl, srcOk_pop ok hx, rfl⟩⟩
  · exact fin
  · exact fin
  · exact fin
theorem pickB {ds : List D} {DH0 : DHp} {Q : DK} (h : spPick0 ds DH0 Q) : rd_law_pickB (bodyE Q) (dstart ["source", "most", "cells", "others", "lap", "stirred"] ds) DH0 := by
  obtain ⟨a, c, n, cells, l, m, t, DH, rfl, hc, rfl, ok, hn, h⟩ := h
  unfold rd_law_pickB
  unfold dd opn_a hc srcd_cells
  refine ite2 (fun h1 => ⟨_, DSub.refl _, h 0 cells l m t ok (by decide) (.inr rfl)⟩) fun h1 => ?_
  refine while_inv (fun k τ H => ∃ cells l, τ = [some (.ref a), some (.int n), some (.ref c), none, none, none] ∧ H = opn DH a c cells l m t ∧ SrcOk cells l m t ∧ k = cells.length) ⟨cells, l, rfl, rfl, ok, rfl⟩ ?_
  rintro k τ H ⟨cells, l, rfl, rfl, ok, rfl⟩ E' - - hE -
  have fin : if 1 < l then (0 < n ∧ n.natAbs.log2 < 9000) ∧ 4 < sizeLine ∧ 0 < n ∧ ∃ H2, DSub H2 (opn DH a c cells (l / n) m t) ∧ Q (.int (l % n)) H2 else
      4 < sizeLine ∧ CMulD (t + 1) 104729 ∧ 0 < (998244353 : Int) ∧ CMulD ((m + (t + 1) * 104729) % 998244353) ((m + (t + 1) * 104729) % 998244353) ∧ CMulD (t + 1) 17 ∧ 0 < (2147483647 : Int) ∧ (0 < (16 : Int) ∧ (Int.natAbs 16).log2 < 9000) ∧ 0 < n ∧
        ∃ H2, DSub H2 (opn DH a c cells l m (t + 1)) ∧ Q (.int (((m + (t + 1) * 104729) % 998244353 * ((m + (t + 1) * 104729) % 998244353) + (t + 1) * 17) % 2147483647 / 16 % n)) H2 := by
    have g0 := Int.emod_nonneg (m + (t + 1) * 104729) (b := 998244353) (by decide)
    have g1 := Int.emod_lt_of_pos (m + (t + 1) * 104729) (b := 998244353) (by decide)
    have ok1 : SrcOk cells (l / n) m t := ⟨Int.ediv_nonneg ok.1 (by omega), ok.2.1, ok.2.2.1, ok.2.2.2.1, ok.2.2.2.2⟩
    have ok2 : SrcOk cells l m (t + 1) := ⟨ok.1, ok.2.1, ok.2.2.1, by have := ok.2.2.2.1; omega, ok.2.2.2.2⟩
    refine ite2 (fun h2 => ?_) fun h2 => ?_
    · exact ⟨⟨by omega, log_small (by omega) hn⟩, by decide, by omega, _, DSub.refl _, h _ _ _ _ _ ok1 (mod_lt (by omega)).1 (mod_lt (by omega)).2⟩
    · exact ⟨by decide, mulD_r (by decide) (by decide), by decide, mulD_l (by omega) (by omega), mulD_r (by decide) (by decide), by decide, ⟨by decide, by decide⟩, by omega, _, DSub.refl _, h _ _ _ _ _ ok2 (mod_lt (by omega)).1 (mod_lt (by omega)).2⟩
  unfold dd opn_a hc srcd_left srcd_cells srcd_turn srcd_mixed put_left put_turn put_mixed opn_put opn_c opn_pop peek List.length_map dl_map
  refine ite2 (fun h2 => ite2 (fun h3 => ?_) fun h3 => ?_) fun h2 => ?_
  · obtain ⟨x, e, hx⟩ := last_get (cells := cells) (by omega)
    rw [e]
    unfold dd put_left opn_put hc
    exact ⟨by decide, hE _ _ _ (by rw [List.length_dropLast]; omega) ⟨_, _, rfl, rfl, srcOk_pop ok hx, rfl⟩⟩
  · exact fin
  · exact fin
end DL

local macro_rules
  | `(tactic| unfold dd $ls*) => `(tactic| try simp only [↓DL.dVar_e, ↓DL.dC_e, ↓DL.dOp_e, ↓DL.dUn_e, ↓DL.dB_e, ↓DL.dChain_e, ↓DL.dAnd_e, ↓DL.dOr_e, ↓DL.dNot_e, ↓DL.dAndV_e, ↓DL.dOrV_e, ↓DL.dNotV_e, ↓DL.dIf_e, ↓DL.dNil_e, ↓DL.dCons_e, ↓DL.dTup_e, ↓DL.dLst_e, ↓DL.dCB_e, ↓DL.dNext_e, ↓DL.dSeq_e, ↓DL.dCont_e, ↓DL.dBreak_e, ↓DL.dDrop_e, ↓DL.dRet_e, ↓DL.dRetN_e, ↓DL.dIfS_e, ↓DL.gN_e, ↓DL.gNilD_e, ↓DL.gConsD_e, ↓DL.gT_e, ↓DL.dAsg_e, ↓DL.dPar_e, ↓DL.dPar3_e, ↓DL.dYes_e, ↓DL.dISeq_e, ↓DL.dIRg1_e, ↓DL.dIRg2_e, ↓DL.dIEnum_e, ↓DL.dIZip_e, ↓DL.rIntD_e, ↓DL.rNegD_e, ↓DL.rEq_intF, ↓DL.rEq_intT, ↓DL.rAddD_e, ↓DL.rMulD_e, ↓DL.rIxD_e, ↓DL.rI1_e, ↓DL.rI2_e, ↓DL.rIntCD_e, ↓DL.rSumD_e, ↓DL.rAllD_e, ↓DL.rIsiD_e, ↓DL.rLenD_e, ↓DL.rTupD_e, ↓DL.rLstD_e, ↓DL.rIsN_e, ↓DL.rSlD_e, ↓DL.dSl_e, ↓DL.dNoPart_e, ↓DL.dPart_e, ↓DL.dRev_e, ↓DL.dGet_e, ↓DL.dIn_e, ↓DL.dStore_e, ↓DL.dBM0_e, ↓DL.dBM_e, ↓DL.dDisp_e, ↓DL.mAppend_e, ↓DL.mPop_e, ↓DL.dNewK_e, ↓DL.dNewT_e, ↓DL.dLstM_e, ↓DL.dFrz_e, ↓DL.rReprD_e, ↓DL.rNeS_e, ↓DL.rEqS_e, ↓DL.asB_e, ↓DL.walkD_e, ↓DL.lookD_e, ↓DL.storeD_e, ↓DL.ofTy_e, ↓DL.onLst_e, DL.bodyE, DL.dstart, DL.dPairs, DL.keysOf, DL.keyD, DL.isNon, DL.peek_int, DL.peek_bl, DL.peek_non, DL.peek_str, DL.peek_tup, DL.peek_lst, DL.seqOf_tup, DL.seqOf_lst, DL.listOf_lst, DL.tyOf, DL.isTy, DL.dupd_same, DL.dupd_dupd, List.map_cons, List.map_nil, List.length_cons, List.length_nil, List.cons_append, List.nil_append, List.replicate_succ, List.replicate_zero, Nat.reduceAdd, Nat.reduceSub, Nat.zero_add, List.getElem?_cons_zero, List.getElem?_cons_succ, List.set_cons_zero, List.set_cons_succ, true_and, and_true, if_true, if_false, Bool.false_eq_true, reduceCtorEq, ne_eq, not_false_eq_true, not_true_eq_false, decide_eq_true_eq, Bool.not_eq_true', decide_eq_false_iff_not, Option.bind_some, Option.map_some, $[$ls:term],*])
/-! SH2: drawing from lists, pairs, frames, places. -/
namespace DL
open PySem PySem.Spec PyProof.Rows L2
abbrev sp_law_pick : DSp := spPick
abbrev sp_law_source (K : PySem.W.Frag) : DSp := spSource K
/-- one of the items -/
def sp_law_of : DSp := fun ds DH Q => ∃ a d xs, ds = [.ref a, d] ∧ DH a = some .src ∧ seqOf DH d = some xs ∧ xs ≠ [] ∧ xs.length ≤ 1000000 ∧ ∀ x ∈ xs, Q x DH
/-! ### _law_of -/
def rd_law_of : DS :=
  (dRet (dOp rIxD (dVar 1) (dCB sp_law_pick (dCons (dVar 0) (dCons (dCB rLenD (dCons (dVar 1) dNil)) dNil)))))
theorem seqOf_peek {H : DHp} {d : D} {xs : List D} (h : seqOf H d = some xs) : peek H d = .lst xs ∨ peek H d = .tup xs := by
  unfold seqOf at h
  split at h
  · rename_i e; cases h; exact .inl e
  · rename_i e; cases h; exact .inr e
  · cases h
theorem law_of_ok {ds : List D} {DH : DHp} {Q : DK} (h : sp_law_of ds DH Q) : rd_law_of (bodyE Q) (dstart ["source", "some"] ds) DH := by
  obtain ⟨a, d, xs, rfl, ha, hd, hn, hl, h⟩ := h
  have pos : 0 < xs.length := List.length_pos_iff.mpr hn
  have get : ∀ k : Int, 0 ≤ k → (k < xs.length ∨ k = 0) → (match atI xs k with | some d => ∃ H2, DSub H2 DH ∧ Q d H2 | none => False) := fun k h0 h1 => by
    obtain ⟨i, rfl⟩ := Int.eq_ofNat_of_zero_le h0
    have hi : i < xs.length := by omega
    have e : atI xs ((i : Nat) : Int) = some xs[i] := by rw [atI_nat, List.getElem?_eq_getElem hi]
    show (match atI xs ((i : Nat) : Int) with | some d => ∃ H2, DSub H2 DH ∧ Q d H2 | none => False)
    rw [e]
    exact ⟨DH, DSub.refl _, h _ (List.getElem_mem hi)⟩
  unfold rd_law_of
  rcases seqOf_peek hd with e | e <;>
  · unfold dd e hd
    refine ⟨a, _, rfl, ha, by omega, fun k h0 h1 => ?_⟩
    unfold dd hd
    exact get k h0 h1

/-! ### pairs -/
def pairD (p : Int × Int) : D := .tup [.int p.1, .int p.2]
def pairsL (ps : List (Int × Int)) : List D := ps.map pairD
/-- all pairs a < b below n -/
def rowP (a n : Int) : List (Int × Int) := (List.range (n - (a + 1)).toNat).map fun b => (a, a + 1 + (b : Nat))
def allP (n : Int) : List (Int × Int) := (List.range n.toNat).flatMap fun a => rowP (a : Nat) n
theorem mem_allP {n : Int} {p : Int × Int} (h : p ∈ allP n) : 0 ≤ p.1 ∧ p.1 < p.2 ∧ p.2 < n := by
  unfold allP rowP at h
  simp only [List.mem_flatMap, List.mem_range, List.mem_map] at h
  obtain ⟨a, ha, b, hb, rfl⟩ := h
  simp only
  omega
theorem rowP_length (a n : Int) : (rowP a n).length = (n - (a + 1)).toNat := by simp [rowP]
theorem flat_le {α β : Type} (f : α → List β) (m : Nat) (h : ∀ x, (f x).length ≤ m) : ∀ xs : List α, (xs.flatMap f).length ≤ xs.length * m
  | [] => by simp
  | x :: xs => by
    have := flat_le f m h xs
    have := h x
    simp only [List.flatMap_cons, List.length_append, List.length_cons, Nat.add_mul]
    omega
theorem allP_length (n : Int) (h : n ≤ 1000) : (allP n).length ≤ 1000000 := by
  have := flat_le (fun a : Nat => rowP (a : Nat) n) 1000 (fun a => by rw [rowP_length]; omega) (List.range n.toNat)
  rw [List.length_range] at this
  have : (List.range n.toNat).length * 1000 ≤ 1000 * 1000 := by rw [List.length_range]; exact Nat.mul_le_mul_right _ (by omega)
  unfold allP
  rw [List.length_range] at this
  omega
def sp_law_pairs : DSp := fun ds DH Q => ∃ n, ds = [.int n] ∧ 0 ≤ n ∧ n ≤ 1000 ∧ Q (.lst (pairsL (allP n))) DH
/-! ### _law_pairs -/
def rd_law_pairs : DS :=
  (dSeq (dAsg (dLst dNil) (gN 1))
    (dSeq (dFor (dIRg1 (dCons (dVar 0) dNil)) (gN 2) (dAsg (dOp rAddD (dVar 1) (dLc false (dIRg2 (dCons (dOp rAddD (dVar 2) (dC (.int 1))) (dCons (dVar 0) dNil))) (gN 3) dYes (dTup (dCons (dVar 2) (dCons (dVar 3) dNil))) [3])) (gN 1)))
    (dRet (dVar 1))))
theorem rgD_cons (lo : Int) (n : Nat) : rgD lo (n + 1) = .int lo :: rgD (lo + 1) n := by
  unfold rgD
  rw [List.range_succ_eq_map, List.map_cons, List.map_map]
  congr 1
  · simp
  · apply List.map_congr_left
    intro i _
    simp only [Function.comp]
    congr 1
    omega
theorem rgD_map (lo : Int) (n : Nat) : rgD lo n = ((List.range n).map fun i => lo + (i : Nat)).map D.int := by
  unfold rgD
  rw [List.map_map]
  rfl
theorem rgD_length (lo : Int) (n : Nat) : (rgD lo n).length = n := by simp [rgD]
theorem rgD_mem {lo : Int} {n : Nat} {x : D} (h : x ∈ rgD lo n) : ∃ i : Nat, i < n ∧ x = .int (lo + (i : Nat)) := by
  unfold rgD at h
  simp only [List.mem_map, List.mem_range] at h
  obtain ⟨i, hi, rfl⟩ := h
  exact ⟨i, hi, rfl⟩
theorem size_leM {n : Nat} (h : n ≤ 4000000) : n ≤ sizeLine := by rw [sizeLine_eq]; omega
theorem law_pairs_ok {ds : List D} {DH : DHp} {Q : DK} (h : sp_law_pairs ds DH Q) : rd_law_pairs (bodyE Q) (dstart ["n", "found", "a", "b"] ds) DH := by
  obtain ⟨n, rfl, hn0, hn, h⟩ := h
  unfold rd_law_pairs
  unfold dd
  refine ⟨by decide, ?_⟩
  unfold dFor
  unfold dd
  refine ⟨by omega, for_inv (fun xs τ H => H = DH ∧ ∃ k : Nat, k ≤ n.toNat ∧ xs = rgD (k : Nat) (n.toNat - k) ∧ ∃ c d, τ = [some (.int n), some (.lst (pairsL ((List.range k).flatMap fun a => rowP (a : Nat) n))), c, d]) ?_ ?_ _ _ _ ⟨rfl, 0, Nat.zero_le _, by simp, none, none, rfl⟩⟩
  · rintro τ H ⟨rfl, k, hk, e, c, d, rfl⟩
    have : n.toNat - k = 0 := by have := congrArg List.length e; rw [rgD_length] at this; simpa using this.symm
    have : k = n.toNat := by omega
    subst this
    unfold dd
    exact ⟨H, DSub.refl _, h⟩
  · rintro x r τ H ⟨rfl, k, hk, e, c, d, rfl⟩
    have lt : k < n.toNat := by
      rcases Nat.lt_or_ge k n.toNat with z | z
      · exact z
      · rw [show n.toNat - k = 0 by omega] at e
        cases e
    obtain ⟨m, hm⟩ : ∃ m, n.toNat - k = m + 1 := ⟨n.toNat - k - 1, by omega⟩
    rw [hm, rgD_cons] at e
    cases e
    refine ⟨trivial, fun E' _ _ hE _ => ?_⟩
    unfold dd
    unfold dLc
    unfold dd rgD_length
    refine ⟨by omega, size_leM (by omega), comp_map (fun x => match x with | .int b => pairD (k, b) | x => x) trivial _ _ (fun x hx Q q => ?_) ?_⟩
    · obtain ⟨i, _, rfl⟩ := rgD_mem hx
      unfold dd
      exact ⟨by decide, q⟩
    · have e2 : (rgD ((k : Int) + 1) (n - ((k : Int) + 1)).toNat).map (fun x => match x with | .int b => pairD (k, b) | x => x) = pairsL (rowP (k : Nat) n) := by
        unfold rgD pairsL rowP
        rw [List.map_map, List.map_map]
        rfl
      rw [List.nil_append, e2]
      have l1 : (pairsL ((List.range k).flatMap fun a => rowP (a : Nat) n)).length ≤ 1000000 := by
        have := flat_le (fun a : Nat => rowP (a : Nat) n) 1000 (fun a => by rw [rowP_length]; omega) (List.range k)
        rw [List.length_range] at this
        unfold pairsL
        rw [List.length_map]
        omega
      refine ⟨size_leM ?_, hE _ _ ⟨rfl, k + 1, lt, ?_, some (.int k), d, ?_⟩⟩
      · have : (pairsL (rowP (k : Nat) n)).length ≤ 1000 := by unfold pairsL; rw [List.length_map, rowP_length]; omega
        omega
      · rw [show n.toNat - (k + 1) = m by omega]
        congr 1
      · rw [List.range_succ, List.flatMap_append]
        simp [pairsL]

/-! ### frames -/
def frameD (n : Int) (ps : List (Int × Int)) : D := .tup [.int n, .tup (pairsL ps)]
theorem sub_pairs {ys : List D} : ∀ {ps : List (Int × Int)}, ys.Sublist (pairsL ps) → ∃ qs, ys = pairsL qs ∧ qs.Sublist ps := fun {ps} h => by
  unfold pairsL at h
  obtain ⟨qs, h1, h2⟩ := List.sublist_map_iff.mp h
  exact ⟨qs, h2, h1⟩
/-- joints from lo to hi, and some of the pairs -/
def sp_law_frame : DSp := fun ds DH Q => ∃ a lo hi, ds = [.ref a, .int lo, .int hi] ∧ DH a = some .src ∧ 0 ≤ lo ∧ lo ≤ hi ∧ hi ≤ 1000 ∧ ∀ n ps, lo ≤ n → n ≤ hi → ps.Sublist (allP n) → Q (frameD n ps) DH
/-! ### _law_frame -/
def rd_law_frame : DS :=
  (dSeq (dAsg (dTup (dCons (dOp rAddD (dVar 1) (dCB sp_law_pick (dCons (dVar 0) (dCons (dOp rAddD (dOp (rIntD (fun _ _ => True) fun i j => .int (i - j)) (dVar 2) (dVar 1)) (dC (.int 1))) dNil)))) (dCons (dCB sp_law_of (dCons (dVar 0) (dCons (dLst (dCons (dC (.int 1)) (dCons (dC (.int 2)) (dCons (dC (.int 3)) (dCons (dC (.int 4)) (dCons (dC (.int 5)) dNil)))))) dNil))) dNil))) (gT 2 (gConsD (gN 3) (gConsD (gN 4) gNilD))))
    (dRet (dTup (dCons (dVar 3) (dCons (dCB rTupD (dCons (dLc false (dISeq (dCB sp_law_pairs (dCons (dVar 3) dNil))) (gN 5) (dB (dOp (rIntD (fun _ _ => True) fun i j => .bl (decide (i < j))) (dCB sp_law_pick (dCons (dVar 0) (dCons (dC (.int 6)) dNil))) (dVar 4))) (dVar 5) [5]) dNil)) dNil)))))
theorem law_frame_ok {ds : List D} {DH : DHp} {Q : DK} (h : sp_law_frame ds DH Q) : rd_law_frame (bodyE Q) (dstart ["source", "least", "most", "n", "share", "pair"] ds) DH := by
  obtain ⟨a, lo, hi, rfl, ha, h0, h1, h2, h⟩ := h
  unfold rd_law_frame
  unfold dd
  refine ⟨a, _, rfl, ha, by omega, fun k k0 k1 => ?_⟩
  unfold dd
  refine ⟨by decide, a, _, _, rfl, ha, rfl, by simp, by simp, fun x hx => ?_⟩
  obtain ⟨sh, rfl⟩ : ∃ sh, x = .int sh := by
    simp only [List.mem_cons, List.not_mem_nil, or_false] at hx
    rcases hx with rfl | rfl | rfl | rfl | rfl <;> exact ⟨_, rfl⟩
  unfold dd
  refine ⟨by decide, ?_⟩
  unfold dLc
  unfold dd
  refine ⟨lo + k, rfl, by omega, by omega, ?_⟩
  unfold dd
  refine ⟨by unfold pairsL; rw [List.length_map]; exact size_leM (Nat.le_trans (allP_length _ (by omega)) (by decide)), comp_some trivial id _ _ (fun x hx Q Z q z => ?_) fun ys hy => ?_⟩
  · unfold dd
    refine ⟨a, _, rfl, ha, by decide, fun j j0 j1 => ?_⟩
    unfold dd
    exact ite2 (fun _ => q) fun _ => z
  · obtain ⟨qs, rfl, hq⟩ := sub_pairs hy
    unfold dd List.map_id
    exact ⟨by decide, DH, DSub.refl _, h _ _ (by omega) (by omega) hq⟩

/-! ### places -/
def InB (b : Int) (p : Int × Int) : Prop := -b ≤ p.1 ∧ p.1 ≤ b ∧ -b ≤ p.2 ∧ p.2 ≤ b
def sp_law_places : DSp := fun ds DH Q => ∃ a n w, ds = [.ref a, .int n, .int w] ∧ DH a = some .src ∧ 1 ≤ n ∧ n ≤ 1000 ∧ 1 ≤ w ∧ w ≤ 1000000 ∧ ∀ pl : List (Int × Int), (pl.length : Int) = n → (∀ p ∈ pl, InB (2 * w + 1) p) → Q (.tup (pairsL pl)) DH
/-! ### _law_places -/
def rd_law_places : DS :=
  (dSeq (dPar 3 4 (dCons (dCB sp_law_pick (dCons (dVar 0) (dCons (dC (.int 6)) dNil))) (dCons (dLstM dNil) dNil)))
    (dSeq (dFor (dIRg1 (dCons (dVar 1) dNil)) (gN 5) (dSeq (dPar 6 7 (dCons (dOp (rIntD (fun _ _ => True) fun i j => .int (i - j)) (dCB sp_law_pick (dCons (dVar 0) (dCons (dOp rAddD (dOp rMulD (dC (.int 2)) (dVar 2)) (dC (.int 1))) dNil))) (dVar 2)) (dCons (dOp (rIntD (fun _ _ => True) fun i j => .int (i - j)) (dCB sp_law_pick (dCons (dVar 0) (dCons (dOp rAddD (dOp rMulD (dC (.int 2)) (dVar 2)) (dC (.int 1))) dNil))) (dVar 2)) dNil)))
    (dDrop (dBM "list" mAppend (dVar 4) (dCons (dIf (dB (dOp (rEqD false) (dVar 3) (dC (.int 0)))) (dTup (dCons (dVar 6) (dCons (dOp (rIntD (fun _ _ => True) fun i j => .int (i - j)) (dOp rMulD (dC (.int 2)) (dVar 6)) (dC (.int 1))) dNil))) (dTup (dCons (dVar 6) (dCons (dVar 7) dNil)))) dNil)))))
    (dSeq (dIfS (dB (dOp (rEqD false) (dVar 3) (dC (.int 1)))) (dStore (dVar 4) (dCB sp_law_pick (dCons (dVar 0) (dCons (dVar 1) dNil))) (dOp rIxD (dVar 4) (dCB sp_law_pick (dCons (dVar 0) (dCons (dVar 1) dNil))))) dNext)
    (dRet (dIf (dB (dOp (rEqD true) (dVar 3) (dC (.int 2)))) (dCB rTupD (dCons (dVar 4) dNil)) (dCB rTupD (dCons (dOp rMulD (dLst (dCons (dTup (dCons (dC (.int 3)) (dCons (dUn rNegD (dC (.int 2))) dNil))) dNil)) (dVar 1)) dNil)))))))
theorem pairsL_length (ps : List (Int × Int)) : (pairsL ps).length = ps.length := by simp [pairsL]
theorem law_places_ok {ds : List D} {DH : DHp} {Q : DK} (h : sp_law_places ds DH Q) : rd_law_places (bodyE Q) (dstart ["source", "n", "wide", "way", "found", "joint", "x", "y"] ds) DH := by
  obtain ⟨a, n, w, rfl, ha, n1, n2, w1, w2, h⟩ := h
  unfold rd_law_places
  unfold dd
  refine ⟨a, _, rfl, ha, by decide, fun way y0 y1 => ⟨by decide, fun p hp => ?_⟩⟩
  unfold dd
  have ap : a ≠ p := fun z => by subst z; rw [hp] at ha; cases ha
  unfold dFor
  unfold dd
  refine ⟨by omega, for_inv (fun xs τ H => ∃ (k : Nat) (pl : List (Int × Int)), k ≤ n.toNat ∧ xs = rgD (k : Nat) (n.toNat - k) ∧ H = dupd DH p (.lst (pairsL pl)) ∧ pl.length = k ∧ (∀ q ∈ pl, InB (2 * w + 1) q) ∧
    ∃ c d e, τ = [some (.ref a), some (.int n), some (.int w), some (.int way), some (.ref p), c, d, e]) ?_ ?_ _ _ _ ⟨0, [], Nat.zero_le _, by simp, rfl, rfl, by simp, none, none, none, rfl⟩⟩
  · rintro τ H ⟨k, pl, hk, e, rfl, hl, hb, c, d, e', rfl⟩
    have : n.toNat - k = 0 := by have := congrArg List.length e; rw [rgD_length] at this; simpa using this.symm
    have hl : pl.length = n.toNat := by omega
    have ha2 : ∀ x, dupd DH p x a = some .src := fun x => by rw [dupd_ne ap]; exact ha
    have fin : ∀ pl2 : List (Int × Int), pl2.length = n.toNat → (∀ q ∈ pl2, InB (2 * w + 1) q) → ∃ H2, DSub H2 (dupd DH p (.lst (pairsL pl2))) ∧ Q (.tup (pairsL pl2)) H2 := fun pl2 h1 h2 => ⟨DH, (DSub.refl _).new hp, h pl2 (by omega) h2⟩
    refine ⟨trivial, ?_⟩
    unfold dd
    have last : ∀ pl2 : List (Int × Int), pl2.length = n.toNat → (∀ q ∈ pl2, InB (2 * w + 1) q) → (if ¬way = 2 then (match seqOf (dupd DH p (.lst (pairsL pl2))) (.ref p) with
        | some xs => ∃ H2, DSub H2 (dupd DH p (.lst (pairsL pl2))) ∧ Q (.tup xs) H2
        | none => False) else 2 ≤ sizeLine ∧ 1 ≤ sizeLine ∧ (-2 ^ 63 ≤ n ∧ n < 2 ^ 63 ∧ 1 * n.toNat ≤ sizeLine) ∧ ∃ H2, DSub H2 (dupd DH p (.lst (pairsL pl2))) ∧ Q (.tup (List.replicate n.toNat [D.tup [D.int 3, D.int (-2)]]).flatten) H2) := fun pl2 h1 h2 => by
      refine ite2 (fun _ => ?_) fun _ => ?_
      · rw [seqOf_ref dupd_same]
        exact fin pl2 h1 h2
      · refine ⟨by decide, by decide, ⟨by omega, by omega, size_leM (by omega)⟩, ?_⟩
        have e : (List.replicate n.toNat [D.tup [D.int 3, D.int (-2)]]).flatten = pairsL (List.replicate n.toNat (3, -2)) := by
          have : ∀ k : Nat, (List.replicate k [D.tup [D.int 3, D.int (-2)]]).flatten = pairsL (List.replicate k (3, -2)) := fun k => by
            induction k with
            | zero => rfl
            | succ k ih => rw [List.replicate_succ, List.flatten_cons, ih, List.replicate_succ]; rfl
          exact this _
        rw [e]
        exact ⟨DH, (DSub.refl _).new hp, h _ (by rw [List.length_replicate]; omega) fun q hq => by
          rw [List.eq_of_mem_replicate hq]
          unfold InB
          simp only
          omega⟩
    refine ite2 (fun hw => ?_) fun hw => ?_
    · refine ⟨a, _, rfl, ha2 _, by omega, fun i i0 i1 => ?_⟩
      obtain ⟨i, rfl⟩ := Int.eq_ofNat_of_zero_le i0
      have hi : i < pl.length := by omega
      unfold dd
      rw [seqOf_ref dupd_same]
      unfold dd atI_nat
      rw [show (pairsL pl)[i]? = some (pairD pl[i]) by unfold pairsL; rw [List.getElem?_map, List.getElem?_eq_getElem hi]; rfl]
      unfold dd
      refine ⟨a, _, rfl, ha2 _, by omega, fun j j0 j1 => ?_⟩
      obtain ⟨j, rfl⟩ := Int.eq_ofNat_of_zero_le j0
      have hj : j < pl.length := by omega
      unfold dd pairsL_length
      rw [show ixN pl.length ((j : Nat) : Int) = some j by unfold ixN; rw [if_pos (by omega), if_pos (by omega)]; simp]
      have e : (pairsL pl).set j (pairD pl[i]) = pairsL (pl.set j pl[i]) := by unfold pairsL; rw [List.map_set]
      simp only [e]
      have := last (pl.set j pl[i]) (by rw [List.length_set]; exact hl) fun q hq => by
        rcases List.mem_or_eq_of_mem_set hq with z | rfl
        · exact hb q z
        · exact hb _ (List.getElem_mem hi)
      exact this
    · exact last pl hl hb
  · rintro x r τ H ⟨k, pl, hk, e, rfl, hl, hb, c, d, e', rfl⟩
    have lt : k < n.toNat := by
      rcases Nat.lt_or_ge k n.toNat with z | z
      · exact z
      · rw [show n.toNat - k = 0 by omega] at e
        cases e
    obtain ⟨m, hm⟩ : ∃ m, n.toNat - k = m + 1 := ⟨n.toNat - k - 1, by omega⟩
    rw [hm, rgD_cons] at e
    cases e
    have ha2 : ∀ x, dupd DH p x a = some .src := fun x => by rw [dupd_ne ap]; exact ha
    refine ⟨trivial, fun E' _ _ hE _ => ?_⟩
    unfold dd
    refine ⟨mulD_l (by decide) (by decide), a, _, rfl, ha2 _, by omega, fun i i0 i1 => ?_⟩
    unfold dd
    refine ⟨mulD_l (by decide) (by decide), a, _, rfl, ha2 _, by omega, fun j j0 j1 => ?_⟩
    unfold dd pairsL_length
    have add : ∀ q : Int × Int, InB (2 * w + 1) q → ∀ u v w', E'.nx [some (.ref a), some (.int n), some (.int w), some (.int way), some (.ref p), u, v, w'] (dupd DH p (.lst (pairsL pl ++ [pairD q]))) := fun q hq u v w' =>
      hE _ _ ⟨k + 1, pl ++ [q], lt, by rw [show n.toNat - (k + 1) = m by omega]; congr 1, by simp [pairsL], by simp [hl], fun r hr => by
        rcases List.mem_append.mp hr with z | z
        · exact hb r z
        · rw [List.mem_singleton.mp z]; exact hq, u, v, w', rfl⟩
    have hs : pl.length < sizeLine := by rw [sizeLine_eq]; omega
    refine ite2 (fun _ => ⟨mulD_l (by decide) (by decide), by decide, hs, ?_⟩) fun _ => ⟨by decide, hs, ?_⟩
    · exact add (i - w, 2 * (i - w) - 1) ⟨by show _ ≤ i - w; omega, by show i - w ≤ _; omega, by show _ ≤ 2 * (i - w) - 1; omega, by show 2 * (i - w) - 1 ≤ _; omega⟩ _ _ _
    · exact add (i - w, j - w) ⟨by show _ ≤ i - w; omega, by show i - w ≤ _; omega, by show _ ≤ j - w; omega, by show j - w ≤ _; omega⟩ _ _ _
end DL

local macro_rules
  | `(tactic| unfold dd $ls*) => `(tactic| try simp only [↓DL.dVar_e, ↓DL.dC_e, ↓DL.dOp_e, ↓DL.dUn_e, ↓DL.dB_e, ↓DL.dChain_e, ↓DL.dAnd_e, ↓DL.dOr_e, ↓DL.dNot_e, ↓DL.dAndV_e, ↓DL.dOrV_e, ↓DL.dNotV_e, ↓DL.dIf_e, ↓DL.dNil_e, ↓DL.dCons_e, ↓DL.dTup_e, ↓DL.dLst_e, ↓DL.dCB_e, ↓DL.dNext_e, ↓DL.dSeq_e, ↓DL.dCont_e, ↓DL.dBreak_e, ↓DL.dDrop_e, ↓DL.dRet_e, ↓DL.dRetN_e, ↓DL.dIfS_e, ↓DL.gN_e, ↓DL.gNilD_e, ↓DL.gConsD_e, ↓DL.gT_e, ↓DL.dAsg_e, ↓DL.dPar_e, ↓DL.dPar3_e, ↓DL.dYes_e, ↓DL.dISeq_e, ↓DL.dIRg1_e, ↓DL.dIRg2_e, ↓DL.dIEnum_e, ↓DL.dIZip_e, ↓DL.rIntD_e, ↓DL.rNegD_e, ↓DL.rEq_intF, ↓DL.rEq_intT, ↓DL.rAddD_e, ↓DL.rMulD_e, ↓DL.rIxD_e, ↓DL.rI1_e, ↓DL.rI2_e, ↓DL.rIntCD_e, ↓DL.rSumD_e, ↓DL.rAllD_e, ↓DL.rIsiD_e, ↓DL.rLenD_e, ↓DL.rTupD_e, ↓DL.rLstD_e, ↓DL.rIsN_e, ↓DL.rSlD_e, ↓DL.dSl_e, ↓DL.dNoPart_e, ↓DL.dPart_e, ↓DL.dRev_e, ↓DL.dGet_e, ↓DL.dIn_e, ↓DL.dStore_e, ↓DL.dBM0_e, ↓DL.dBM_e, ↓DL.dDisp_e, ↓DL.mAppend_e, ↓DL.mPop_e, ↓DL.dNewK_e, ↓DL.dNewT_e, ↓DL.dLstM_e, ↓DL.dFrz_e, ↓DL.rReprD_e, ↓DL.rNeS_e, ↓DL.rEqS_e, ↓DL.asB_e, ↓DL.walkD_e, ↓DL.lookD_e, ↓DL.storeD_e, ↓DL.ofTy_e, ↓DL.onLst_e, DL.bodyE, DL.dstart, DL.dPairs, DL.keysOf, DL.keyD, DL.isNon, DL.peek_int, DL.peek_bl, DL.peek_non, DL.peek_str, DL.peek_tup, DL.peek_lst, DL.seqOf_tup, DL.seqOf_lst, DL.listOf_lst, DL.tyOf, DL.isTy, DL.dupd_same, DL.dupd_dupd, List.map_cons, List.map_nil, List.length_cons, List.length_nil, List.cons_append, List.nil_append, List.replicate_succ, List.replicate_zero, Nat.reduceAdd, Nat.reduceSub, Nat.zero_add, List.getElem?_cons_zero, List.getElem?_cons_succ, List.set_cons_zero, List.set_cons_succ, true_and, and_true, if_true, if_false, Bool.false_eq_true, reduceCtorEq, ne_eq, not_false_eq_true, not_true_eq_false, decide_eq_true_eq, Bool.not_eq_true', decide_eq_false_iff_not, Option.bind_some, Option.map_some, $[$ls:term],*])
/-! SH3: values whose text may be told. -/
namespace DL
open PySem PySem.Spec PyProof.Rows L2
mutual
/-- whole numbers of fewer than k bits, texts, truths, nothing; lists and tuples of these -/
def D.sm (k : Nat) : D → Bool
  | .non | .bl _ => true
  | .int i => decide (i.natAbs.log2 < k)
  | .str x => PyData.strOk x
  | .tup xs | .lst xs => smL k xs
  | .dct _ _ | .ref _ | .ty _ => false
def smL (k : Nat) : List D → Bool
  | [] => true
  | x :: xs => x.sm k && smL k xs
end
mutual
def D.nodes : D → Nat
  | .str x => x.cps.size + 1
  | .tup xs | .lst xs => nodesL xs + 1
  | _ => 1
def nodesL : List D → Nat
  | [] => 0
  | x :: xs => x.nodes + nodesL xs
end
mutual
theorem sm_plain {k : Nat} : ∀ d : D, d.sm k = true → d.plain = true
  | .non, _ | .bl _, _ | .int _, _ => rfl
  | .str x, h => h
  | .tup xs, h => smL_plain xs (by simpa [D.sm] using h)
  | .lst xs, h => smL_plain xs (by simpa [D.sm] using h)
  | .dct _ _, h | .ref _, h | .ty _, h => by simp [D.sm] at h
theorem smL_plain {k : Nat} : ∀ xs : List D, smL k xs = true → plainL xs = true
  | [], _ => rfl
  | x :: xs, h => by
    simp only [smL, Bool.and_eq_true] at h
    simp only [plainL, Bool.and_eq_true]
    exact ⟨sm_plain x h.1, smL_plain xs h.2⟩
end
mutual
theorem sm_showable {k : Nat} (hk : k ≤ 1920) : ∀ d : D, d.sm k = true → d.py.showable = true ∧ d.py.intsShort (k + 1) = true ∧ d.py.weight + 1 ≤ (k + 1) * d.nodes
  | .non, _ | .bl _, _ => by
    refine ⟨rfl, rfl, ?_⟩
    simp only [D.nodes, D.py, PyData.weight]
    omega
  | .int i, h => by
    have h : i.natAbs.log2 < k := by simpa [D.sm] using h
    refine ⟨decide_eq_true (by omega), ?_, ?_⟩
    · simp only [D.py, PyData.intsShort, decide_eq_true_eq]
      rw [PyData.shown_int, PySem.ofString_length]
      exact int_text_length_le (by omega) h
    · simp only [D.nodes, D.py, PyData.weight]
      split <;> omega
  | .str x, h => by
    refine ⟨rfl, rfl, ?_⟩
    simp only [D.nodes, D.py, PyData.weight]
    exact Nat.le_mul_of_pos_left _ (by omega)
  | .tup xs, h => by
    obtain ⟨h1, h2, h3⟩ := smL_showable hk xs (by simpa [D.sm] using h)
    refine ⟨by simpa [D.py, PyData.showable] using h1, by simpa [D.py, PyData.intsShort] using h2, ?_⟩
    simp only [D.nodes, D.py, PyData.weight, Nat.mul_add]
    omega
  | .lst xs, h => by
    obtain ⟨h1, h2, h3⟩ := smL_showable hk xs (by simpa [D.sm] using h)
    refine ⟨by simpa [D.py, PyData.showable] using h1, by simpa [D.py, PyData.intsShort] using h2, ?_⟩
    simp only [D.nodes, D.py, PyData.weight, Nat.mul_add]
    omega
  | .dct _ _, h | .ref _, h | .ty _, h => by simp [D.sm] at h
theorem smL_showable {k : Nat} (hk : k ≤ 1920) : ∀ xs : List D, smL k xs = true → PyData.showableAll (pyL xs) = true ∧ PyData.intsShortAll (k + 1) (pyL xs) = true ∧ PyData.weightAll (pyL xs) ≤ (k + 1) * nodesL xs
  | [], _ => ⟨rfl, rfl, Nat.zero_le _⟩
  | x :: xs, h => by
    simp only [smL, Bool.and_eq_true] at h
    obtain ⟨a1, a2, a3⟩ := sm_showable hk x h.1
    obtain ⟨b1, b2, b3⟩ := smL_showable hk xs h.2
    refine ⟨by simp only [pyL, PyData.showableAll, a1, b1]; rfl, by simp only [pyL, PyData.intsShortAll, a2, b2]; rfl, ?_⟩
    simp only [pyL, PyData.weightAll, nodesL, Nat.mul_add]
    omega
end
theorem showOk_of {d : D} (k : Nat) (h : d.sm k = true) (hd : d.dep ≤ 60) (hn : (k + 3) * ((k + 1) * d.nodes) + k + 1 ≤ 16777216) (h7 : 7 ≤ k := by decide) (hk : k ≤ 1920 := by decide) : showOk d := by
  obtain ⟨a1, a2, a3⟩ := sm_showable hk d h
  refine ⟨sm_plain d h, hd, a1, ?_⟩
  have hl := PyData.shown_le (k + 1) (by omega) d.py (PyData.leavesShort_of_canLay0 _ _ (plain_lay d (sm_plain d h)).1 a2)
  have m := Nat.mul_le_mul_left (k + 3) (show d.py.weight ≤ (k + 1) * d.nodes by omega)
  rw [sizeLine_eq]
  have e : (k + 1 + 2) * d.py.weight = (k + 3) * d.py.weight := by congr 1
  omega
/-! ### lists by their items -/
theorem smL_all {k : Nat} : ∀ {xs : List D}, (∀ x ∈ xs, x.sm k = true) → smL k xs = true
  | [], _ => rfl
  | x :: xs, h => by
    simp only [smL, Bool.and_eq_true]
    exact ⟨h x (by simp), smL_all fun y hy => h y (by simp [hy])⟩
theorem nodesL_le {m : Nat} : ∀ {xs : List D}, (∀ x ∈ xs, x.nodes ≤ m) → nodesL xs ≤ xs.length * m
  | [], _ => Nat.zero_le _
  | x :: xs, h => by
    have a := h x (by simp)
    have b := nodesL_le (xs := xs) fun y hy => h y (by simp [hy])
    simp only [nodesL, List.length_cons, Nat.add_mul]
    omega
theorem depL_le {m : Nat} : ∀ {xs : List D}, (∀ x ∈ xs, x.dep ≤ m) → depL xs ≤ m
  | [], _ => Nat.zero_le _
  | x :: xs, h => by
    have a := h x (by simp)
    have b := depL_le (xs := xs) fun y hy => h y (by simp [hy])
    simp only [depL]
    omega
theorem sm_int {k : Nat} {i : Int} (h0 : -(2 ^ k) < i) (h1 : i < 2 ^ k) (hk : 0 < k := by decide) : (D.int i).sm k = true := by
  simp only [D.sm, decide_eq_true_eq]
  have h : i.natAbs < 2 ^ k := by
    have e : ((2 ^ k : Nat) : Int) = (2 : Int) ^ k := by simp
    omega
  rcases Nat.eq_zero_or_pos i.natAbs with z | z
  · rw [z]; simpa using hk
  · exact (Nat.log2_lt (by omega)).mpr h
theorem sm_pair {k : Nat} {p : Int × Int} (h1 : (D.int p.1).sm k = true) (h2 : (D.int p.2).sm k = true) : (pairD p).sm k = true := by
  simp only [pairD, D.sm, smL, Bool.and_eq_true, Bool.and_true] at *
  exact ⟨h1, h2⟩
theorem nodes_pair (p : Int × Int) : (pairD p).nodes = 3 := rfl
theorem dep_pair (p : Int × Int) : (pairD p).dep = 1 := rfl
theorem pairs_sm {k : Nat} {ps : List (Int × Int)} (h : ∀ p ∈ ps, (D.int p.1).sm k = true ∧ (D.int p.2).sm k = true) : smL k (pairsL ps) = true := smL_all fun x hx => by
  obtain ⟨p, hp, rfl⟩ := List.mem_map.mp hx
  exact sm_pair (h p hp).1 (h p hp).2
theorem pairs_nodes (ps : List (Int × Int)) : nodesL (pairsL ps) ≤ ps.length * 3 := by
  have := nodesL_le (xs := pairsL ps) (m := 3) fun x hx => by
    obtain ⟨p, hp, rfl⟩ := List.mem_map.mp hx
    exact Nat.le_refl _
  rwa [pairsL_length] at this
theorem pairs_dep (ps : List (Int × Int)) : depL (pairsL ps) ≤ 1 := depL_le fun x hx => by
  obtain ⟨p, hp, rfl⟩ := List.mem_map.mp hx
  exact Nat.le_refl _
/-- a text against itself -/
theorem str_beq {x : Str} : (!(x == x)) = false := by simp
/-- what is compared by its text, where both are one -/
theorem same_text {d : D} {H : DHp} {Q : DK} (h : showOk (peek H d)) (q : Q (.bl false) H) : dOp rNeS (dCB rReprD (dCons (dC d) dNil)) (dCB rReprD (dCons (dC d) dNil)) [] H Q := by
  show showOk _ ∧ showOk _ ∧ Q (.bl (!(_ == _))) H
  rw [str_beq]
  exact ⟨h, h, q⟩
end DL

local macro_rules
  | `(tactic| unfold dd $ls*) => `(tactic| try simp only [↓DL.dVar_e, ↓DL.dC_e, ↓DL.dOp_e, ↓DL.dUn_e, ↓DL.dB_e, ↓DL.dChain_e, ↓DL.dAnd_e, ↓DL.dOr_e, ↓DL.dNot_e, ↓DL.dAndV_e, ↓DL.dOrV_e, ↓DL.dNotV_e, ↓DL.dIf_e, ↓DL.dNil_e, ↓DL.dCons_e, ↓DL.dTup_e, ↓DL.dLst_e, ↓DL.dCB_e, ↓DL.dNext_e, ↓DL.dSeq_e, ↓DL.dCont_e, ↓DL.dBreak_e, ↓DL.dDrop_e, ↓DL.dRet_e, ↓DL.dRetN_e, ↓DL.dIfS_e, ↓DL.gN_e, ↓DL.gNilD_e, ↓DL.gConsD_e, ↓DL.gT_e, ↓DL.dAsg_e, ↓DL.dPar_e, ↓DL.dPar3_e, ↓DL.dYes_e, ↓DL.dISeq_e, ↓DL.dIRg1_e, ↓DL.dIRg2_e, ↓DL.dIEnum_e, ↓DL.dIZip_e, ↓DL.rIntD_e, ↓DL.rNegD_e, ↓DL.rEq_intF, ↓DL.rEq_intT, ↓DL.rAddD_e, ↓DL.rMulD_e, ↓DL.rIxD_e, ↓DL.rI1_e, ↓DL.rI2_e, ↓DL.rIntCD_e, ↓DL.rSumD_e, ↓DL.rAllD_e, ↓DL.rIsiD_e, ↓DL.rLenD_e, ↓DL.rTupD_e, ↓DL.rLstD_e, ↓DL.rIsN_e, ↓DL.rSlD_e, ↓DL.dSl_e, ↓DL.dNoPart_e, ↓DL.dPart_e, ↓DL.dRev_e, ↓DL.dGet_e, ↓DL.dIn_e, ↓DL.dStore_e, ↓DL.dBM0_e, ↓DL.dBM_e, ↓DL.dDisp_e, ↓DL.mAppend_e, ↓DL.mPop_e, ↓DL.dNewK_e, ↓DL.dNewT_e, ↓DL.dLstM_e, ↓DL.dFrz_e, ↓DL.rReprD_e, ↓DL.rNeS_e, ↓DL.rEqS_e, ↓DL.asB_e, ↓DL.walkD_e, ↓DL.lookD_e, ↓DL.storeD_e, ↓DL.ofTy_e, ↓DL.onLst_e, DL.bodyE, DL.dstart, DL.dPairs, DL.dwipe, DL.keysOf, DL.keyD, DL.isNon, DL.peek_int, DL.peek_bl, DL.peek_non, DL.peek_str, DL.peek_tup, DL.peek_lst, DL.seqOf_tup, DL.seqOf_lst, DL.listOf_lst, DL.tyOf, DL.isTy, DL.atI0, DL.atI1, DL.atI2, DL.atI3, DL.atI4, DL.atI5, DL.dupd_same, DL.dupd_dupd, List.map_cons, List.map_nil, List.length_cons, List.length_nil, List.cons_append, List.nil_append, List.replicate_succ, List.replicate_zero, Nat.reduceAdd, Nat.reduceSub, Nat.zero_add, List.getElem?_cons_zero, List.getElem?_cons_succ, List.set_cons_zero, List.set_cons_succ, true_and, and_true, Int.toNat_natCast, if_true, if_false, Bool.false_eq_true, reduceCtorEq, ne_eq, not_false_eq_true, not_true_eq_false, decide_eq_true_eq, Bool.not_eq_true', decide_eq_false_iff_not, Option.bind_some, Option.map_some, $[$ls:term],*])
namespace DL
open PySem PySem.Spec PyProof.Rows L2
/-! P03: the defs of k03 and what they promise. -/
/-! ### a place by its number -/
def pt (pl : List (Int × Int)) (i : Int) : Int × Int := pl.getD i.toNat (0, 0)
theorem atI_pt {pl : List (Int × Int)} {i : Int} (h0 : 0 ≤ i) (h1 : i < pl.length) : atI (pairsL pl) i = some (pairD (pt pl i)) := by
  obtain ⟨k, rfl⟩ := Int.eq_ofNat_of_zero_le h0
  have hk : k < pl.length := by omega
  rw [atI_nat]
  unfold pairsL pt
  rw [List.getElem?_map, List.getElem?_eq_getElem hk]
  simp [List.getD, List.getElem?_eq_getElem hk]
theorem pt_mem {pl : List (Int × Int)} {i : Int} (h0 : 0 ≤ i) (h1 : i < pl.length) : pt pl i ∈ pl := by
  obtain ⟨k, rfl⟩ := Int.eq_ofNat_of_zero_le h0
  have hk : k < pl.length := by omega
  unfold pt
  simp [List.getD, List.getElem?_eq_getElem hk]
theorem pt_in {pl : List (Int × Int)} {i : Int} (hb : ∀ p ∈ pl, InB 1000000 p) (h0 : 0 ≤ i) (h1 : i < pl.length) : InB 1000000 (pt pl i) := hb _ (pt_mem h0 h1)
theorem powOk {i : Int} (h0 : -(2 ^ 64) < i) (h1 : i < 2 ^ 64) : 0 ≤ (2 : Int) ∧ (Builtin.Int.intBits i : Int) * 2 ≤ 2 ^ 27 := by
  have := intBits_le_64 h0 h1
  exact ⟨by decide, by omega⟩
theorem pow_two (i : Int) : i ^ (2 : Int).toNat = i * i := by
  show i ^ 2 = i * i
  exact Int.pow_succ _ _ |>.trans (by rw [Int.pow_one])
def sq (p q : Int × Int) : Int := (p.1 - q.1) * (p.1 - q.1) + (p.2 - q.2) * (p.2 - q.2)
def sp_square : DSp := fun ds DH Q => ∃ pl a b, ds = [.tup (pairsL pl), .int a, .int b] ∧ (∀ p ∈ pl, InB 1000000 p) ∧ 0 ≤ a ∧ a < pl.length ∧ 0 ≤ b ∧ b < pl.length ∧ Q (.int (sq (pt pl a) (pt pl b))) DH
/-! ### square -/
def rd_square : DS :=
  (dRet (dOp rAddD (dOp rPow (dOp (rIntD (fun _ _ => True) fun i j => .int (i - j)) (dOp rIxD (dOp rIxD (dVar 0) (dVar 1)) (dC (.int 0))) (dOp rIxD (dOp rIxD (dVar 0) (dVar 2)) (dC (.int 0)))) (dC (.int 2))) (dOp rPow (dOp (rIntD (fun _ _ => True) fun i j => .int (i - j)) (dOp rIxD (dOp rIxD (dVar 0) (dVar 1)) (dC (.int 1))) (dOp rIxD (dOp rIxD (dVar 0) (dVar 2)) (dC (.int 1)))) (dC (.int 2)))))
theorem square_ok {ds : List D} {DH : DHp} {Q : DK} (h : sp_square ds DH Q) : rd_square (bodyE Q) (dstart ["places", "a", "b"] ds) DH := by
  obtain ⟨pl, a, b, rfl, hb, a0, a1, b0, b1, h⟩ := h
  obtain ⟨u1, u2, u3, u4⟩ := pt_in hb a0 a1
  obtain ⟨v1, v2, v3, v4⟩ := pt_in hb b0 b1
  unfold rd_square
  have e0_ := atI_pt a0 a1
  have e1_ := atI_pt b0 b1
  unfold dd e0_ e1_ pairD pow_two
  exact ⟨powOk (by omega) (by omega), powOk (by omega) (by omega), DH, DSub.refl _, h⟩
abbrev sp_law_square : DSp := sp_square
/-! ### _law_square -/
def rd_law_square : DS :=
  (dSeq (dPar 3 4 (dCons (dOp (rIntD (fun _ _ => True) fun i j => .int (i - j)) (dOp rIxD (dOp rIxD (dVar 0) (dVar 1)) (dC (.int 0))) (dOp rIxD (dOp rIxD (dVar 0) (dVar 2)) (dC (.int 0)))) (dCons (dOp (rIntD (fun _ _ => True) fun i j => .int (i - j)) (dOp rIxD (dOp rIxD (dVar 0) (dVar 1)) (dC (.int 1))) (dOp rIxD (dOp rIxD (dVar 0) (dVar 2)) (dC (.int 1)))) dNil)))
    (dRet (dOp rAddD (dOp rMulD (dVar 3) (dVar 3)) (dOp rMulD (dVar 4) (dVar 4)))))
theorem law_square_ok {ds : List D} {DH : DHp} {Q : DK} (h : sp_law_square ds DH Q) : rd_law_square (bodyE Q) (dstart ["places", "a", "b", "x", "y"] ds) DH := by
  obtain ⟨pl, a, b, rfl, hb, a0, a1, b0, b1, h⟩ := h
  obtain ⟨u1, u2, u3, u4⟩ := pt_in hb a0 a1
  obtain ⟨v1, v2, v3, v4⟩ := pt_in hb b0 b1
  unfold rd_law_square
  have e0_ := atI_pt a0 a1
  have e1_ := atI_pt b0 b1
  unfold dd e0_ e1_ pairD
  exact ⟨mulD_l (by omega) (by omega), mulD_l (by omega) (by omega), DH, DSub.refl _, h⟩
/-- pairs of joints that there are -/
def PrOk (n : Int) (ps : List (Int × Int)) : Prop := ∀ p ∈ ps, 0 ≤ p.1 ∧ p.1 < n ∧ 0 ≤ p.2 ∧ p.2 < n
def sp_lengths : DSp := fun ds DH Q => ∃ n ps pl, ds = [frameD n ps, .tup (pairsL pl)] ∧ (∀ p ∈ pl, InB 1000000 p) ∧ PrOk pl.length ps ∧ ps.length ≤ 1000000 ∧ Q (.tup (ps.map fun p => .int (sq (pt pl p.1) (pt pl p.2)))) DH
/-! ### lengths -/
def rd_lengths : DS :=
  (dRet (dCB rTupD (dCons (dLc false (dISeq (dOp rIxD (dVar 0) (dC (.int 1)))) (gT 2 (gConsD (gN 2) (gConsD (gN 3) gNilD))) dYes (dCB sp_square (dCons (dVar 1) (dCons (dVar 2) (dCons (dVar 3) dNil)))) [2, 3]) dNil)))
theorem lengths_ok {ds : List D} {DH : DHp} {Q : DK} (h : sp_lengths ds DH Q) : rd_lengths (bodyE Q) (dstart ["frame", "places", "a", "b"] ds) DH := by
  obtain ⟨n, ps, pl, rfl, hb, hp, hl, h⟩ := h
  unfold rd_lengths frameD
  unfold dd
  unfold dLc
  unfold dd pairsL_length
  refine ⟨size_leM (by omega), comp_map (fun x => match x with | .tup [.int a, .int b] => .int (sq (pt pl a) (pt pl b)) | x => x) trivial _ _ (fun x hx Q q => ?_) ?_⟩
  · obtain ⟨p, m, rfl⟩ := List.mem_map.mp hx
    obtain ⟨c1, c2, c3, c4⟩ := hp p m
    unfold dd pairD
    exact ⟨pl, p.1, p.2, rfl, hb, c1, c2, c3, c4, q⟩
  · rw [List.nil_append]
    unfold dd
    refine ⟨DH, DSub.refl _, ?_⟩
    unfold pairsL
    rw [List.map_map]
    exact h
/-! ### are the places spread? -/
def sub2 (p q : Int × Int) : Int × Int := (q.1 - p.1, q.2 - p.2)
def sp_led : DSp := fun ds DH Q => ∃ pl a b, ds = [.tup (pairsL pl), .int a, .int b] ∧ 0 ≤ a ∧ a < pl.length ∧ 0 ≤ b ∧ b < pl.length ∧ Q (pairD (sub2 (pt pl a) (pt pl b))) DH
/-! ### led -/
def rd_led : DS :=
  (dRet (dTup (dCons (dOp (rIntD (fun _ _ => True) fun i j => .int (i - j)) (dOp rIxD (dOp rIxD (dVar 0) (dVar 2)) (dC (.int 0))) (dOp rIxD (dOp rIxD (dVar 0) (dVar 1)) (dC (.int 0)))) (dCons (dOp (rIntD (fun _ _ => True) fun i j => .int (i - j)) (dOp rIxD (dOp rIxD (dVar 0) (dVar 2)) (dC (.int 1))) (dOp rIxD (dOp rIxD (dVar 0) (dVar 1)) (dC (.int 1)))) dNil))))
theorem led_ok {ds : List D} {DH : DHp} {Q : DK} (h : sp_led ds DH Q) : rd_led (bodyE Q) (dstart ["places", "a", "b"] ds) DH := by
  obtain ⟨pl, a, b, rfl, a0, a1, b0, b1, h⟩ := h
  unfold rd_led
  have e0_ := atI_pt a0 a1
  have e1_ := atI_pt b0 b1
  unfold dd e0_ e1_ pairD
  exact ⟨by decide, DH, DSub.refl _, h⟩
def crs (p q : Int × Int) : Int := p.1 * q.2 - p.2 * q.1
def sp_across : DSp := fun ds DH Q => ∃ p q, ds = [pairD p, pairD q] ∧ InB 1000000000 p ∧ Q (.int (crs p q)) DH
/-! ### across -/
def rd_across : DS :=
  (dRet (dOp (rIntD (fun _ _ => True) fun i j => .int (i - j)) (dOp rMulD (dOp rIxD (dVar 0) (dC (.int 0))) (dOp rIxD (dVar 1) (dC (.int 1)))) (dOp rMulD (dOp rIxD (dVar 0) (dC (.int 1))) (dOp rIxD (dVar 1) (dC (.int 0))))))
theorem across_ok {ds : List D} {DH : DHp} {Q : DK} (h : sp_across ds DH Q) : rd_across (bodyE Q) (dstart ["one", "other"] ds) DH := by
  obtain ⟨p, q, rfl, ⟨h1, h2, h3, h4⟩, h⟩ := h
  unfold rd_across
  unfold dd pairD
  exact ⟨mulD_l (by omega) (by omega), mulD_l (by omega) (by omega), DH, DSub.refl _, h⟩
theorem rEq_of {neg : Bool} {x y : D} {b : Bool} (hx : x.plain = true) (hy : y.plain = true) (hd : x.dep ≤ 60 ∨ y.dep ≤ 60) (px : ∀ H, peek H x = x) (py : ∀ H, peek H y = y) (e : D.eq x y = b) (H : DHp) (Q : DK) : rEqD neg x y H Q = Q (.bl (if neg then !b else b)) H := by
  unfold rEqD
  rw [px, py, e]
  exact propext ⟨fun h => h.2, fun h => ⟨⟨hx, hy, hd⟩, h⟩⟩
theorem eq_pair (p q : Int × Int) : D.eq (pairD p) (pairD q) = decide (p = q) := by
  simp only [pairD, D.eq, eqL, Bool.and_true]
  rw [Bool.beq_eq_decide_eq, Bool.beq_eq_decide_eq]
  by_cases h1 : p.1 = q.1 <;> by_cases h2 : p.2 = q.2 <;> simp [h1, h2, Prod.ext_iff]
theorem rEq_pairT (p q : Int × Int) (H : DHp) (Q : DK) : rEqD true (pairD p) (pairD q) H Q = Q (.bl (!decide (p = q))) H := rEq_of rfl rfl (.inl (Nat.le_of_ble_eq_true rfl)) (fun _ => rfl) (fun _ => rfl) (eq_pair p q) H Q
theorem rEq_nilT {xs : List D} (h : plainL xs = true) (H : DHp) (Q : DK) : rEqD true (.lst xs) (.lst []) H Q = Q (.bl (!xs.isEmpty)) H := rEq_of (x := .lst xs) (y := .lst []) (b := xs.isEmpty) h rfl (.inr (by decide)) (fun _ => rfl) (fun _ => rfl) (by cases xs <;> rfl) H Q
theorem plainL_ints {p : D → Bool} {n : Nat} {lo : Int} : plainL ((rgD lo n).filter p) = true := by
  have : ∀ xs : List D, (∀ x ∈ xs, x.plain = true) → plainL xs = true := fun xs => by
    induction xs with
    | nil => intro _; rfl
    | cons x xs ih => intro h; simp only [plainL, Bool.and_eq_true]; exact ⟨h x (by simp), ih fun y hy => h y (by simp [hy])⟩
  refine this _ fun x hx => ?_
  obtain ⟨i, _, rfl⟩ := rgD_mem (List.mem_filter.mp hx).1
  rfl
/-- the end of «some[0] if some != [] else None» -/
theorem head_of {p : D → Bool} {n : Nat} {f : Int → Prop} (hp : ∀ i : Nat, i < n → (p (.int (i : Nat)) = true ↔ f (i : Nat))) {Q : D → Prop} (h : ∀ r, (r = .non ∧ ∀ j : Int, 0 ≤ j → j < n → ¬ f j) ∨ (∃ j : Int, r = .int j ∧ 0 ≤ j ∧ j < n ∧ f j) → Q r) :
    if ((rgD 0 n).filter p).isEmpty = false then (match atI ((rgD 0 n).filter p) 0 with | some d => Q d | none => False) else Q .non := by
  cases e : (rgD 0 n).filter p with
  | nil =>
    rw [if_neg (by simp)]
    refine h _ (.inl ⟨rfl, fun j j0 j1 fj => ?_⟩)
    obtain ⟨k, rfl⟩ := Int.eq_ofNat_of_zero_le j0
    have m : D.int (k : Nat) ∈ (rgD 0 n).filter p := List.mem_filter.mpr ⟨by unfold rgD; exact List.mem_map.mpr ⟨k, List.mem_range.mpr (by omega), by simp⟩, (hp k (by omega)).mpr fj⟩
    rw [e] at m
    cases m
  | cons x r =>
    rw [if_pos (by simp), atI0]
    have m : x ∈ (rgD 0 n).filter p := by rw [e]; simp
    obtain ⟨m1, m2⟩ := List.mem_filter.mp m
    obtain ⟨i, hi, rfl⟩ := rgD_mem m1
    rw [Int.zero_add] at m2 ⊢
    exact h _ (.inr ⟨i, rfl, by omega, by omega, (hp i hi).mp m2⟩)
def sp_first_apart : DSp := fun ds DH Q => ∃ pl, ds = [.tup (pairsL pl)] ∧ 0 < pl.length ∧ pl.length ≤ 1000000 ∧ ∀ r, (r = .non ∧ ∀ j : Int, 0 ≤ j → j < pl.length → ¬ pt pl j ≠ pt pl 0) ∨ (∃ j : Int, r = .int j ∧ 0 ≤ j ∧ j < pl.length ∧ pt pl j ≠ pt pl 0) → Q r DH
/-! ### first_apart -/
def rd_first_apart : DS :=
  (dSeq (dAsg (dLc false (dIRg1 (dCons (dCB rLenD (dCons (dVar 0) dNil)) dNil)) (gN 2) (dB (dOp (rEqD true) (dOp rIxD (dVar 0) (dVar 2)) (dOp rIxD (dVar 0) (dC (.int 0))))) (dVar 2) [2]) (gN 1))
    (dRet (dIf (dB (dOp (rEqD true) (dVar 1) (dLst dNil))) (dOp rIxD (dVar 1) (dC (.int 0))) (dC .non))))
theorem first_apart_ok {ds : List D} {DH : DHp} {Q : DK} (h : sp_first_apart ds DH Q) : rd_first_apart (bodyE Q) (dstart ["places", "some", "joint"] ds) DH := by
  obtain ⟨pl, rfl, h0, h1, h⟩ := h
  unfold rd_first_apart
  unfold dd
  unfold dLc
  unfold dd pairsL_length rgD_length
  refine ⟨by omega, size_leM (by omega), comp_filter (fun x => match x with | .int j => !decide (pt pl j = pt pl 0) | _ => false) id trivial _ _ (fun x hx Q Z q z => ?_) ?_⟩
  · obtain ⟨i, hi, rfl⟩ := rgD_mem hx
    rw [Int.zero_add] at *
    have hi' : ((i : Nat) : Int) < pl.length := by omega
    have e0_ := atI_pt (pl := pl) (Int.natCast_nonneg i) hi'
    have e1_ := atI_pt (pl := pl) (i := 0) (by decide) (by omega)
    unfold dd e0_ e1_ rEq_pairT
    refine ite2 (fun z1 => ?_) fun z1 => ?_
    · exact q (by simp [z1])
    · exact z (by simpa using z1)
  · rw [List.nil_append, List.map_id]
    have e0_ := rEq_nilT (plainL_ints (p := fun x => match x with | .int j => !decide (pt pl j = pt pl 0) | _ => false) (n := pl.length) (lo := 0))
    unfold dd e0_
    refine ⟨by decide, ?_⟩
    exact head_of (p := fun x => match x with | .int j => !decide (pt pl j = pt pl 0) | _ => false) (f := fun j => pt pl j ≠ pt pl 0) (Q := fun d => ∃ H2, DSub H2 DH ∧ Q d H2) (fun i hi => by simp) fun r hr => ⟨DH, DSub.refl _, h r hr⟩
def sp_first_off : DSp := fun ds DH Q => ∃ pl j, ds = [.tup (pairsL pl), .int j] ∧ 0 ≤ j ∧ j < pl.length ∧ pl.length ≤ 1000000 ∧ (∀ p ∈ pl, InB 1000000 p) ∧ ∀ r, (r = .non ∧ ∀ k : Int, 0 ≤ k → k < pl.length → ¬ crs (sub2 (pt pl 0) (pt pl j)) (sub2 (pt pl 0) (pt pl k)) ≠ 0) ∨ (∃ k : Int, r = .int k ∧ 0 ≤ k ∧ k < pl.length ∧ crs (sub2 (pt pl 0) (pt pl j)) (sub2 (pt pl 0) (pt pl k)) ≠ 0) → Q r DH
/-! ### first_off -/
def rd_first_off : DS :=
  (dSeq (dAsg (dCB sp_led (dCons (dVar 0) (dCons (dC (.int 0)) (dCons (dVar 1) dNil)))) (gN 2))
    (dSeq (dAsg (dLc false (dIRg1 (dCons (dCB rLenD (dCons (dVar 0) dNil)) dNil)) (gN 4) (dB (dOp (rEqD true) (dCB sp_across (dCons (dVar 2) (dCons (dCB sp_led (dCons (dVar 0) (dCons (dC (.int 0)) (dCons (dVar 4) dNil)))) dNil))) (dC (.int 0)))) (dVar 4) [4]) (gN 3))
    (dRet (dIf (dB (dOp (rEqD true) (dVar 3) (dLst dNil))) (dOp rIxD (dVar 3) (dC (.int 0))) (dC .non)))))
theorem first_off_ok {ds : List D} {DH : DHp} {Q : DK} (h : sp_first_off ds DH Q) : rd_first_off (bodyE Q) (dstart ["places", "joint", "base", "some", "other"] ds) DH := by
  obtain ⟨pl, jt, rfl, j0, j1, hl, hb, h⟩ := h
  obtain ⟨u1, u2, u3, u4⟩ := pt_in hb (i := 0) (by decide) (by omega)
  obtain ⟨v1, v2, v3, v4⟩ := pt_in hb j0 j1
  have bb : InB 1000000000 (sub2 (pt pl 0) (pt pl jt)) := ⟨by show _ ≤ (pt pl jt).1 - (pt pl 0).1; omega, by show (pt pl jt).1 - (pt pl 0).1 ≤ _; omega, by show _ ≤ (pt pl jt).2 - (pt pl 0).2; omega, by show (pt pl jt).2 - (pt pl 0).2 ≤ _; omega⟩
  unfold rd_first_off
  unfold dd
  refine ⟨pl, 0, jt, rfl, by decide, by omega, j0, j1, ?_⟩
  unfold dd
  unfold dLc
  unfold dd pairsL_length rgD_length
  refine ⟨by omega, size_leM (by omega), comp_filter (fun x => match x with | .int k => !decide (crs (sub2 (pt pl 0) (pt pl jt)) (sub2 (pt pl 0) (pt pl k)) = 0) | _ => false) id trivial _ _ (fun x hx Q Z q z => ?_) ?_⟩
  · obtain ⟨i, hi, rfl⟩ := rgD_mem hx
    rw [Int.zero_add] at *
    unfold dd
    refine ⟨pl, 0, i, rfl, by decide, by omega, by omega, by omega, ?_⟩
    unfold dd
    refine ⟨_, _, rfl, bb, ?_⟩
    unfold dd
    refine ite2 (fun z1 => ?_) fun z1 => ?_
    · exact q (by simp [z1])
    · exact z (by simpa using z1)
  · rw [List.nil_append, List.map_id]
    have e0_ := rEq_nilT (plainL_ints (p := fun x => match x with | .int k => !decide (crs (sub2 (pt pl 0) (pt pl jt)) (sub2 (pt pl 0) (pt pl k)) = 0) | _ => false) (n := pl.length) (lo := 0))
    unfold dd e0_
    refine ⟨by decide, ?_⟩
    exact head_of (p := fun x => match x with | .int k => !decide (crs (sub2 (pt pl 0) (pt pl jt)) (sub2 (pt pl 0) (pt pl k)) = 0) | _ => false) (f := fun k => crs (sub2 (pt pl 0) (pt pl jt)) (sub2 (pt pl 0) (pt pl k)) ≠ 0) (Q := fun d => ∃ H2, DSub H2 DH ∧ Q d H2) (fun i hi => by simp) fun r hr => ⟨DH, DSub.refl _, h r hr⟩
/-- three of the places are not on one line -/
def Spread (pl : List (Int × Int)) : Prop := ∃ i j k : Int, (0 ≤ i ∧ i < pl.length) ∧ (0 ≤ j ∧ j < pl.length) ∧ (0 ≤ k ∧ k < pl.length) ∧ crs (sub2 (pt pl i) (pt pl j)) (sub2 (pt pl i) (pt pl k)) ≠ 0
theorem crs_zero {a b c d e f g h : Int} (h0 : a ≠ 0 ∨ b ≠ 0) (h1 : a * d - b * c = 0) (h2 : a * f - b * e = 0) (h3 : a * h - b * g = 0) : (e - c) * (h - d) - (f - d) * (g - c) = 0 := by
  rcases h0 with z | z
  · have : a * ((e - c) * (h - d) - (f - d) * (g - c)) = 0 := by grind
    exact (Int.mul_eq_zero.mp this).resolve_left z
  · have : b * ((e - c) * (h - d) - (f - d) * (g - c)) = 0 := by grind
    exact (Int.mul_eq_zero.mp this).resolve_left z
theorem flat_all {o u v w t : Int × Int} (h0 : u ≠ o) (h1 : crs (sub2 o u) (sub2 o v) = 0) (h2 : crs (sub2 o u) (sub2 o w) = 0) (h3 : crs (sub2 o u) (sub2 o t) = 0) : crs (sub2 v w) (sub2 v t) = 0 := by
  unfold crs sub2 at *
  simp only at *
  have z : u.1 - o.1 ≠ 0 ∨ u.2 - o.2 ≠ 0 := by
    by_cases a : u.1 = o.1
    · right
      intro b
      exact h0 (Prod.ext a (by omega))
    · left; omega
  have := crs_zero z h1 h2 h3
  have e1 : w.1 - o.1 - (v.1 - o.1) = w.1 - v.1 := by omega
  have e2 : t.2 - o.2 - (v.2 - o.2) = t.2 - v.2 := by omega
  have e3 : w.2 - o.2 - (v.2 - o.2) = w.2 - v.2 := by omega
  have e4 : t.1 - o.1 - (v.1 - o.1) = t.1 - v.1 := by omega
  rw [e1, e2, e3, e4] at this
  exact this
def sp_are_spread : DSp := fun ds DH Q => ∃ pl, ds = [.tup (pairsL pl)] ∧ 0 < pl.length ∧ pl.length ≤ 1000000 ∧ (∀ p ∈ pl, InB 1000000 p) ∧ ∀ b : Bool, (b = true ↔ Spread pl) → Q (.bl b) DH
/-! ### are_spread -/
def rd_are_spread : DS :=
  (dSeq (dAsg (dCB sp_first_apart (dCons (dVar 0) dNil)) (gN 1))
    (dRet (dAndV (dOp (rIsN true) (dVar 1) (dC .non)) (dOp (rIsN true) (dCB sp_first_off (dCons (dVar 0) (dCons (dVar 1) dNil))) (dC .non)))))
theorem are_spread_ok {ds : List D} {DH : DHp} {Q : DK} (h : sp_are_spread ds DH Q) : rd_are_spread (bodyE Q) (dstart ["places", "joint"] ds) DH := by
  obtain ⟨pl, rfl, h0, hl, hb, h⟩ := h
  unfold rd_are_spread
  unfold dd
  refine ⟨pl, rfl, h0, hl, fun r hr => ?_⟩
  rcases hr with ⟨rfl, hr⟩ | ⟨j, rfl, j0, j1, hj⟩
  · unfold dd
    refine ⟨DH, DSub.refl _, h false ⟨fun z => (by cases z), fun z => ?_⟩⟩
    obtain ⟨i, j, k, ⟨i0, i1⟩, ⟨j0, j1⟩, _, z⟩ := z
    have e1 := hr i i0 i1
    have e2 := hr j j0 j1
    rw [Classical.not_not] at e1 e2
    refine absurd ?_ z
    rw [e1, e2]
    unfold crs sub2
    simp
  · unfold dd
    refine ⟨pl, j, rfl, j0, j1, hl, hb, fun r hr => ?_⟩
    rcases hr with ⟨rfl, hr⟩ | ⟨k, rfl, k0, k1, hk⟩
    · unfold dd
      refine ⟨DH, DSub.refl _, h false ⟨fun z => (by cases z), fun z => ?_⟩⟩
      obtain ⟨i, j', k, ⟨i0, i1⟩, ⟨j0', j1'⟩, ⟨k0, k1⟩, z⟩ := z
      exact absurd (flat_all hj (Classical.not_not.mp (hr i i0 i1)) (Classical.not_not.mp (hr j' j0' j1')) (Classical.not_not.mp (hr k k0 k1))) z
    · unfold dd
      exact ⟨DH, DSub.refl _, h true ⟨fun _ => ⟨0, j, k, ⟨by decide, by omega⟩, ⟨j0, j1⟩, ⟨k0, k1⟩, hk⟩, fun _ => rfl⟩⟩
/-! ### common divisors -/
theorem abs_nat (i : Int) : (if i < 0 then -i else i) = ((i.natAbs : Nat) : Int) := by split <;> omega
theorem gcd_turn {f l : Nat} : Nat.gcd l (f % l) = Nat.gcd f l := by rw [Nat.gcd_comm l, ← Nat.gcd_rec, Nat.gcd_comm]
theorem gcd_while {E : DEnds} {H : DHp} {n0 c : Option D} {f l : Nat} (h : E.nx [n0, some (.int (Nat.gcd f l : Nat)), c, some (.int 0)] H) :
    dWhile (dB (dOp (rEqD true) (dVar 3) (dC (.int 0)))) (dPar 1 3 (dCons (dVar 3) (dCons (dOp rMod (dVar 1) (dVar 3)) dNil))) E [n0, some (.int (f : Nat)), c, some (.int (l : Nat))] H := by
  refine while_inv (fun m τ H' => H' = H ∧ ∃ f' l' : Nat, τ = [n0, some (.int (f' : Nat)), c, some (.int (l' : Nat))] ∧ Nat.gcd f' l' = Nat.gcd f l ∧ l' = m) ⟨rfl, f, l, rfl, rfl, rfl⟩ ?_
  rintro m τ H' ⟨rfl, f', l', rfl, e, rfl⟩ E' - - hE -
  unfold dd
  refine ite2 (fun z => ?_) fun z => ?_
  · have pos : 0 < l' := by omega
    exact ⟨by omega, hE (f' % l') _ _ (Nat.mod_lt _ pos) ⟨rfl, l', f' % l', by rw [Int.natCast_emod], by rw [gcd_turn, e], rfl⟩⟩
  · have z : l' = 0 := by omega
    subst z
    rw [Nat.gcd_zero_right] at e
    rw [← e] at h
    exact h
def sp_greatest_divisor : DSp := fun ds DH Q => ∃ a b : Int, ds = [.tup [.int a, .int b]] ∧ Q (.int (Nat.gcd a.natAbs b.natAbs : Nat)) DH
/-! ### greatest_divisor -/
def rd_greatest_divisor : DS :=
  (dSeq (dAsg (dC (.int 0)) (gN 1))
    (dSeq (dFor (dISeq (dVar 0)) (gN 2) (dSeq (dAsg (dCB rAbsD (dCons (dVar 2) dNil)) (gN 3))
    (dWhile (dB (dOp (rEqD true) (dVar 3) (dC (.int 0)))) (dPar 1 3 (dCons (dVar 3) (dCons (dOp rMod (dVar 1) (dVar 3)) dNil))))))
    (dRet (dVar 1))))
theorem dForL_nil {ok : DHp → Prop} {g : DG} {tb : DS} {E : DEnds} {τ : DSt} {H : DHp} (h : ok H) (k : E.nx τ H) : dForL ok g tb [] E τ H := ⟨h, k⟩
theorem greatest_divisor_ok {ds : List D} {DH : DHp} {Q : DK} (h : sp_greatest_divisor ds DH Q) : rd_greatest_divisor (bodyE Q) (dstart ["numbers", "found", "number", "left"] ds) DH := by
  obtain ⟨a, b, rfl, h⟩ := h
  unfold rd_greatest_divisor
  unfold dd
  unfold dFor
  unfold dd
  refine ⟨trivial, ?_⟩
  unfold dd abs_nat
  refine gcd_while (f := 0) (l := a.natAbs) ?_
  refine ⟨trivial, ?_⟩
  unfold dd abs_nat
  refine gcd_while (f := Nat.gcd 0 a.natAbs) (l := b.natAbs) ?_
  refine ⟨trivial, ?_⟩
  unfold dd
  rw [Nat.gcd_zero_left]
  exact ⟨DH, DSub.refl _, h⟩
theorem gcd_while2 {E : DEnds} {H : DHp} {f l : Nat} (h : E.nx [some (.int (Nat.gcd f l : Nat)), some (.int 0)] H) :
    dWhile (dB (dOp (rEqD true) (dVar 1) (dC (.int 0)))) (dPar 0 1 (dCons (dVar 1) (dCons (dOp rMod (dCB rIntCD (dCons (dVar 0) dNil)) (dVar 1)) dNil))) E [some (.int (f : Nat)), some (.int (l : Nat))] H := by
  refine while_inv (fun m τ H' => H' = H ∧ ∃ f' l' : Nat, τ = [some (.int (f' : Nat)), some (.int (l' : Nat))] ∧ Nat.gcd f' l' = Nat.gcd f l ∧ l' = m) ⟨rfl, f, l, rfl, rfl, rfl⟩ ?_
  rintro m τ H' ⟨rfl, f', l', rfl, e, rfl⟩ E' - - hE -
  unfold dd
  refine ite2 (fun z => ?_) fun z => ?_
  · have pos : 0 < l' := by omega
    exact ⟨by omega, hE (f' % l') _ _ (Nat.mod_lt _ pos) ⟨rfl, l', f' % l', by rw [Int.natCast_emod], by rw [gcd_turn, e], rfl⟩⟩
  · have z : l' = 0 := by omega
    subst z
    rw [Nat.gcd_zero_right] at e
    rw [← e] at h
    exact h
def sp_law_divisor : DSp := fun ds DH Q => ∃ a b : Int, ds = [.int a, .int b] ∧ Q (.int (Nat.gcd a.natAbs b.natAbs : Nat)) DH
/-! ### _law_divisor -/
def rd_law_divisor : DS :=
  (dSeq (dPar 0 1 (dCons (dCB rAbsD (dCons (dVar 0) dNil)) (dCons (dCB rAbsD (dCons (dVar 1) dNil)) dNil)))
    (dSeq (dWhile (dB (dOp (rEqD true) (dVar 1) (dC (.int 0)))) (dPar 0 1 (dCons (dVar 1) (dCons (dOp rMod (dCB rIntCD (dCons (dVar 0) dNil)) (dVar 1)) dNil))))
    (dRet (dVar 0))))
theorem law_divisor_ok {ds : List D} {DH : DHp} {Q : DK} (h : sp_law_divisor ds DH Q) : rd_law_divisor (bodyE Q) (dstart ["one", "other"] ds) DH := by
  obtain ⟨a, b, rfl, h⟩ := h
  unfold rd_law_divisor
  unfold dd abs_nat
  refine gcd_while2 (f := a.natAbs) (l := b.natAbs) ?_
  unfold dd
  exact ⟨DH, DSub.refl _, h⟩
/-- in lowest terms -/
def frac (n b : Int) : Int × Int := (n / (Nat.gcd n.natAbs b.natAbs : Nat), b / (Nat.gcd n.natAbs b.natAbs : Nat))
def sp_fraction : DSp := fun ds DH Q => ∃ n b : Int, ds = [.int n, .int b] ∧ 0 < b ∧ b < 2 ^ 64 ∧ Q (pairD (frac n b)) DH
theorem gcd_ok {n b : Int} (h0 : 0 < b) (h1 : b < 2 ^ 64) : 0 < ((Nat.gcd n.natAbs b.natAbs : Nat) : Int) ∧ ((Nat.gcd n.natAbs b.natAbs : Nat) : Int).natAbs.log2 < 9000 := by
  have p : 0 < Nat.gcd n.natAbs b.natAbs := Nat.gcd_pos_of_pos_right _ (by omega)
  have l : Nat.gcd n.natAbs b.natAbs ≤ b.natAbs := Nat.gcd_le_right _ (by omega)
  exact ⟨by omega, log_small (by omega) (by omega)⟩
/-! ### fraction -/
def rd_fraction : DS :=
  (dSeq (dAsg (dCB sp_greatest_divisor (dCons (dTup (dCons (dVar 0) (dCons (dVar 1) dNil))) dNil)) (gN 2))
    (dRet (dTup (dCons (dOp rFdiv (dVar 0) (dVar 2)) (dCons (dOp rFdiv (dVar 1) (dVar 2)) dNil)))))
theorem fraction_ok {ds : List D} {DH : DHp} {Q : DK} (h : sp_fraction ds DH Q) : rd_fraction (bodyE Q) (dstart ["number", "by", "common"] ds) DH := by
  obtain ⟨n, b, rfl, h0, h1, h⟩ := h
  have g := gcd_ok (n := n) h0 h1
  unfold rd_fraction
  unfold dd
  refine ⟨by decide, n, b, rfl, ?_⟩
  unfold dd
  exact ⟨g, g, by decide, DH, DSub.refl _, h⟩
abbrev sp_law_fraction : DSp := sp_fraction
/-! ### _law_fraction -/
def rd_law_fraction : DS :=
  (dSeq (dAsg (dCB rMax2 (dCons (dC (.int 1)) (dCons (dCB sp_law_divisor (dCons (dVar 0) (dCons (dVar 1) dNil))) dNil))) (gN 2))
    (dRet (dTup (dCons (dOp rFdiv (dVar 0) (dVar 2)) (dCons (dOp rFdiv (dVar 1) (dVar 2)) dNil)))))
theorem law_fraction_ok {ds : List D} {DH : DHp} {Q : DK} (h : sp_fraction ds DH Q) : rd_law_fraction (bodyE Q) (dstart ["number", "by", "common"] ds) DH := by
  obtain ⟨n, b, rfl, h0, h1, h⟩ := h
  have g := gcd_ok (n := n) h0 h1
  unfold rd_law_fraction
  unfold dd
  refine ⟨n, b, rfl, ?_⟩
  have e : (if ((Nat.gcd n.natAbs b.natAbs : Nat) : Int) > 1 then ((Nat.gcd n.natAbs b.natAbs : Nat) : Int) else 1) = ((Nat.gcd n.natAbs b.natAbs : Nat) : Int) := by
    have := g.1
    split <;> omega
  unfold dd e
  exact ⟨g, g, by decide, DH, DSub.refl _, h⟩
/-! ### moves -/
def isI : D → Bool
  | .int _ => true
  | _ => false
/-- no name of a thing that changes, no type -/
def noRef : D → Prop
  | .ref _ => False
  | .ty _ => False
  | _ => True
theorem noRef_sm {k : Nat} {d : D} (h : d.sm k = true) : noRef d := by
  cases d <;> first | trivial | (simp [D.sm] at h)
def sp_is_integer : DSp := fun ds DH Q => ∃ d, ds = [d] ∧ noRef d ∧ Q (.bl (isI d)) DH
/-! ### is_integer -/
def rd_is_integer : DS :=
  (dRet (dAndV (dCB rIsiD (dCons (dVar 0) (dCons (dC (.ty "int")) dNil))) (dNotV (dCB rIsiD (dCons (dVar 0) (dCons (dC (.ty "bool")) dNil))))))
theorem is_integer_ok {ds : List D} {DH : DHp} {Q : DK} (h : sp_is_integer ds DH Q) : rd_is_integer (bodyE Q) (dstart ["value"] ds) DH := by
  obtain ⟨d, rfl, hn, h⟩ := h
  have e : ∀ b, Q (.bl b) DH → ∃ H2, DSub H2 DH ∧ Q (.bl b) H2 := fun b q => ⟨DH, DSub.refl _, q⟩
  unfold rd_is_integer
  cases d with
  | ref p => exact hn.elim
  | ty n => exact hn.elim
  | _ =>
    unfold dd
    refine ⟨⟨by decide, by decide⟩, ?_⟩
    first
      | exact e _ h
      | exact ⟨⟨by decide, by decide⟩, e _ h⟩
abbrev sp_law_is_int : DSp := sp_is_integer
/-! ### _law_is_int -/
def rd_law_is_int : DS :=
  (dRet (dAndV (dCB rIsiD (dCons (dVar 0) (dCons (dC (.ty "int")) dNil))) (dNotV (dCB rIsiD (dCons (dVar 0) (dCons (dC (.ty "bool")) dNil))))))
theorem law_is_int_ok {ds : List D} {DH : DHp} {Q : DK} (h : sp_is_integer ds DH Q) : rd_law_is_int (bodyE Q) (dstart ["value"] ds) DH := is_integer_ok h
/-- is it a move? -/
def isMv : D → Bool
  | .tup [.int c, .int s, .int m, .int d, .int _, .int _] => decide (0 < d) && (decide (m = 1) || decide (m = -1)) && decide (c * c + s * s = d * d)
  | _ => false
theorem isMv_six {xs : List D} (h : xs.length ≠ 6) : isMv (.tup xs) = false := by
  unfold isMv
  split
  · rename_i e
    cases e
    exact absurd rfl h
  · rfl
theorem isMv_all {xs : List D} (h : (xs.map isI).all id = false) : isMv (.tup xs) = false := by
  unfold isMv
  split
  · rename_i e
    cases e
    simp [isI] at h
  · rfl
theorem six_of {xs : List D} (h6 : xs.length = 6) (h : (xs.map isI).all id = true) : ∃ a b c d e f : Int, xs = [.int a, .int b, .int c, .int d, .int e, .int f] := by
  match xs, h6 with
  | [x0, x1, x2, x3, x4, x5], _ =>
    simp only [List.map_cons, List.map_nil, List.all_cons, List.all_nil, id, Bool.and_true, Bool.and_eq_true] at h
    obtain ⟨a0, a1, a2, a3, a4, a5⟩ := h
    have g : ∀ x, isI x = true → ∃ i, x = .int i := fun x hx => by
      cases x with
      | int i => exact ⟨i, rfl⟩
      | _ => cases hx
    obtain ⟨_, rfl⟩ := g _ a0
    obtain ⟨_, rfl⟩ := g _ a1
    obtain ⟨_, rfl⟩ := g _ a2
    obtain ⟨_, rfl⟩ := g _ a3
    obtain ⟨_, rfl⟩ := g _ a4
    obtain ⟨_, rfl⟩ := g _ a5
    exact ⟨_, _, _, _, _, _, rfl⟩
theorem smL_mem {k : Nat} : ∀ {xs : List D}, smL k xs = true → ∀ x ∈ xs, x.sm k = true
  | [], _, x, hx => by simp at hx
  | y :: ys, h, x, hx => by
    simp only [smL, Bool.and_eq_true] at h
    rcases List.mem_cons.mp hx with rfl | hx
    · exact h.1
    · exact smL_mem h.2 x hx
theorem mulD_sm {k : Nat} {i j : Int} (hk : k ≤ 400000) (h1 : (D.int i).sm k = true) (h2 : (D.int j).sm k = true) : CMulD i j := by
  simp only [D.sm, decide_eq_true_eq] at h1 h2
  exact .inr (show _ < 1000000 by omega)
theorem pow_sm {k : Nat} {i : Int} (hk : k ≤ 400000) (h : (D.int i).sm k = true) : 0 ≤ (2 : Int) ∧ (Builtin.Int.intBits i : Int) * 2 ≤ 2 ^ 27 := by
  simp only [D.sm, decide_eq_true_eq] at h
  have b : Builtin.Int.intBits i ≤ i.natAbs.log2 + 1 := by unfold Builtin.Int.intBits; split <;> omega
  exact ⟨by decide, by omega⟩
theorem rIn_pm (m : Int) (H : DHp) (Q : DK) : rInD false (.int m) (.tup [.int 1, .int (-1)]) H Q = Q (.bl (decide (m = 1) || decide (m = -1))) H := by
  have e : memD (.int m) [.int 1, .int (-1)] = (decide (m = 1) || decide (m = -1)) := by
    simp only [memD, List.any_cons, List.any_nil, D.eq, Bool.or_false]
    rw [Bool.beq_eq_decide_eq, Bool.beq_eq_decide_eq, decide_eq_decide.mpr (eq_comm (a := (1 : Int)) (b := m)), decide_eq_decide.mpr (eq_comm (a := (-1 : Int)) (b := m))]
  refine propext ⟨fun h => e ▸ h.2, fun h => ⟨⟨rfl, rfl, .inl (Nat.zero_le _)⟩, ?_⟩⟩
  show Q (.bl (memD (.int m) [.int 1, .int (-1)])) H
  rw [e]
  exact h
def sp_is_move : DSp := fun ds DH Q => ∃ d, ds = [d] ∧ d.sm 70 = true ∧ d.nodes ≤ 1000 ∧ Q (.bl (isMv d)) DH
/-! ### is_move -/
def rd_is_move : DS :=
  (dSeq (dIfS (dOr (dNot (dB (dCB rIsiD (dCons (dVar 0) (dCons (dC (.ty "tuple")) dNil))))) (dOr (dB (dOp (rEqD true) (dCB rLenD (dCons (dVar 0) dNil)) (dC (.int 6)))) (dNot (dB (dCB (rAllD true) (dCons (dLc false (dISeq (dVar 0)) (gN 1) dYes (dCB sp_is_integer (dCons (dVar 1) dNil)) [1]) dNil)))))) (dRet (dC (.bl false))) dNext)
    (dSeq (dAsg (dSl (rSlD false) (dVar 0) dNoPart (dPart (dC (.int 4)))) (gT 4 (gConsD (gN 2) (gConsD (gN 3) (gConsD (gN 4) (gConsD (gN 5) gNilD))))))
    (dRet (dAndV (dOp (rIntD (fun _ _ => True) fun i j => .bl (decide (j < i))) (dVar 5) (dC (.int 0))) (dAndV (dOp (rInD false) (dVar 4) (dTup (dCons (dC (.int 1)) (dCons (dUn rNegD (dC (.int 1))) dNil)))) (dOp (rEqD false) (dOp rAddD (dOp rMulD (dVar 2) (dVar 2)) (dOp rMulD (dVar 3) (dVar 3))) (dOp rMulD (dVar 5) (dVar 5))))))))
theorem is_move_ok {ds : List D} {DH : DHp} {Q : DK} (h : sp_is_move ds DH Q) : rd_is_move (bodyE Q) (dstart ["value", "one", "c", "s", "mirror", "d"] ds) DH := by
  obtain ⟨d, rfl, hs, hn, h⟩ := h
  have e : ∀ b, Q (.bl b) DH → ∃ H2, DSub H2 DH ∧ Q (.bl b) H2 := fun b q => ⟨DH, DSub.refl _, q⟩
  unfold rd_is_move
  cases d with
  | ref p => simp [D.sm] at hs
  | ty n => simp [D.sm] at hs
  | dct ks vs => simp [D.sm] at hs
  | tup xs =>
    have hs : smL 70 xs = true := by simpa [D.sm] using hs
    by_cases h6 : xs.length = 6
    · unfold dd
      refine ⟨⟨by decide, by decide⟩, ?_⟩
      rw [if_neg (by decide), if_neg (by omega)]
      unfold dLc
      unfold dd
      refine ⟨by rw [h6]; decide, comp_map (fun x => .bl (isI x)) trivial _ _ (fun x hx Q q => ?_) ?_⟩
      · unfold dd
        exact ⟨x, rfl, noRef_sm (smL_mem hs x hx), q⟩
      · have eb : (xs.map fun x => D.bl (isI x)) = (xs.map isI).map D.bl := by rw [List.map_map]; rfl
        rw [List.nil_append, eb]
        unfold dd bls_map
        by_cases ha : (xs.map isI).all id = true
        · rw [if_neg (by rw [ha]; decide)]
          obtain ⟨c, s, m, d, x, y, rfl⟩ := six_of h6 ha
          have hi := smL_mem hs
          have ec : cutD [D.int c, D.int s, D.int m, D.int d, D.int x, D.int y] none (some 4) = [.int c, .int s, .int m, .int d] := rfl
          have e2 : Q (.bl (decide (0 < d) && (decide (m = 1) || decide (m = -1)) && decide (c * c + s * s = d * d))) DH := h
          unfold dd ec rIn_pm
          have c1 := hi _ (List.mem_cons_self ..)
          have c2 := hi (.int s) (by simp)
          have c3 := hi (.int d) (by simp)
          refine ite2 (fun z => ⟨by decide, ite2 (fun z2 => ⟨mulD_sm (by decide) c1 c1, mulD_sm (by decide) c2 c2, mulD_sm (by decide) c3 c3, e _ ?_⟩) fun z2 => e _ ?_⟩) fun z => e _ ?_
          · rw [decide_eq_true z, z2] at e2
            exact e2
          · rw [Bool.eq_false_iff.mpr z2, Bool.and_false, Bool.false_and] at e2
            exact e2
          · rw [decide_eq_false z, Bool.false_and, Bool.false_and] at e2
            exact e2
        · have ha := Bool.eq_false_iff.mpr ha
          rw [if_pos ha]
          rw [isMv_all ha] at h
          exact e _ h
    · rw [isMv_six h6] at h
      unfold dd
      refine ⟨⟨by decide, by decide⟩, ?_⟩
      rw [if_neg (by decide), if_pos (by omega)]
      exact e _ h
  | _ =>
    unfold dd
    exact ⟨⟨by decide, by decide⟩, e _ h⟩
abbrev sp_law_is_move : DSp := sp_is_move
/-! ### _law_is_move -/
def rd_law_is_move : DS :=
  (dSeq (dIfS (dOr (dNot (dB (dCB rIsiD (dCons (dVar 0) (dCons (dC (.ty "tuple")) dNil))))) (dOr (dB (dOp (rEqD true) (dCB rLenD (dCons (dVar 0) dNil)) (dC (.int 6)))) (dB (dOp (rEqD true) (dLc false (dISeq (dVar 0)) (gN 1) (dNot (dB (dCB sp_law_is_int (dCons (dVar 1) dNil)))) (dVar 1) [1]) (dLst dNil))))) (dRet (dC (.bl false))) dNext)
    (dRet (dAndV (dOp (rIntD (fun _ _ => True) fun i j => .bl (decide (j < i))) (dOp rIxD (dVar 0) (dC (.int 3))) (dC (.int 0))) (dAndV (dOp (rInD false) (dOp rIxD (dVar 0) (dC (.int 2))) (dTup (dCons (dC (.int 1)) (dCons (dUn rNegD (dC (.int 1))) dNil)))) (dOp (rEqD false) (dOp rAddD (dOp rPow (dOp rIxD (dVar 0) (dC (.int 0))) (dC (.int 2))) (dOp rPow (dOp rIxD (dVar 0) (dC (.int 1))) (dC (.int 2)))) (dOp rPow (dOp rIxD (dVar 0) (dC (.int 3))) (dC (.int 2))))))))
theorem filter_all {xs : List D} : (xs.filter fun x => !isI x).isEmpty = (xs.map isI).all id := by
  induction xs with
  | nil => rfl
  | cons x xs ih =>
    rw [List.filter_cons]
    cases hx : isI x with
    | true => simpa [hx] using ih
    | false => simp [hx]
theorem law_is_move_ok {ds : List D} {DH : DHp} {Q : DK} (h : sp_is_move ds DH Q) : rd_law_is_move (bodyE Q) (dstart ["value", "one"] ds) DH := by
  obtain ⟨d, rfl, hs, hn, h⟩ := h
  have e : ∀ b, Q (.bl b) DH → ∃ H2, DSub H2 DH ∧ Q (.bl b) H2 := fun b q => ⟨DH, DSub.refl _, q⟩
  unfold rd_law_is_move
  cases d with
  | ref p => simp [D.sm] at hs
  | ty n => simp [D.sm] at hs
  | dct ks vs => simp [D.sm] at hs
  | tup xs =>
    have hs : smL 70 xs = true := by simpa [D.sm] using hs
    by_cases h6 : xs.length = 6
    · unfold dd
      refine ⟨⟨by decide, by decide⟩, ?_⟩
      rw [if_neg (by decide), if_neg (by omega)]
      unfold dLc
      unfold dd
      refine ⟨by rw [h6]; decide, comp_filter (fun x => !isI x) id trivial _ _ (fun x hx Q Z q z => ?_) ?_⟩
      · unfold dd
        refine ⟨x, rfl, noRef_sm (smL_mem hs x hx), ?_⟩
        unfold dd
        refine ite2 (fun z1 => ?_) fun z1 => ?_
        · exact q (by simpa using z1)
        · exact z (by simpa using z1)
      · rw [List.nil_append, List.map_id]
        have pf : plainL (xs.filter fun x => !isI x) = true := smL_plain (k := 70) _ (smL_all fun x hx => smL_mem hs x (List.mem_filter.mp hx).1)
        have e0_ := rEq_nilT pf
        unfold dd e0_ filter_all
        refine ⟨by decide, ?_⟩
        by_cases ha : (xs.map isI).all id = true
        · rw [if_neg (by rw [ha]; decide)]
          obtain ⟨c, s, m, d, x, y, rfl⟩ := six_of h6 ha
          have hi := smL_mem hs
          have e2 : Q (.bl (decide (0 < d) && (decide (m = 1) || decide (m = -1)) && decide (c * c + s * s = d * d))) DH := h
          have c1 := hi _ (List.mem_cons_self ..)
          have c2 := hi (.int s) (by simp)
          have c3 := hi (.int d) (by simp)
          unfold dd rIn_pm pow_two
          refine ite2 (fun z => ⟨by decide, ite2 (fun z2 => ⟨pow_sm (by decide) c1, pow_sm (by decide) c2, pow_sm (by decide) c3, e _ ?_⟩) fun z2 => e _ ?_⟩) fun z => e _ ?_
          · rw [decide_eq_true z, z2] at e2
            exact e2
          · rw [Bool.eq_false_iff.mpr z2, Bool.and_false, Bool.false_and] at e2
            exact e2
          · rw [decide_eq_false z, Bool.false_and, Bool.false_and] at e2
            exact e2
        · have ha := Bool.eq_false_iff.mpr ha
          rw [if_pos ha]
          rw [isMv_all ha] at h
          exact e _ h
    · rw [isMv_six h6] at h
      unfold dd
      refine ⟨⟨by decide, by decide⟩, ?_⟩
      rw [if_neg (by decide), if_pos (by omega)]
      exact e _ h
  | _ =>
    unfold dd
    exact ⟨⟨by decide, by decide⟩, e _ h⟩
/-- a move's numbers -/
structure Mv where
  c : Int
  s : Int
  m : Int
  d : Int
  x : Int
  y : Int
def mvL (v : Mv) : List D := [.int v.c, .int v.s, .int v.m, .int v.d, .int v.x, .int v.y]
def mvD (v : Mv) : D := .tup (mvL v)
def MvOk (v : Mv) : Prop := (-100 ≤ v.c ∧ v.c ≤ 100) ∧ (-100 ≤ v.s ∧ v.s ≤ 100) ∧ (-1 ≤ v.m ∧ v.m ≤ 1) ∧ (1 ≤ v.d ∧ v.d ≤ 100) ∧ (-100 ≤ v.x ∧ v.x ≤ 100) ∧ (-100 ≤ v.y ∧ v.y ≤ 100)
/-- d times where it goes -/
def mvP (v : Mv) (p : Int × Int) : Int × Int := (v.c * p.1 - v.s * (v.m * p.2) + v.x, v.s * p.1 + v.c * (v.m * p.2) + v.y)
def sp_moved_part : DSp := fun ds DH Q => ∃ v p, ds = [mvD v, pairD p] ∧ MvOk v ∧ Q (pairD (mvP v p)) DH
/-! ### moved_part -/
def rd_moved_part : DS :=
  (dSeq (dAsg (dVar 0) (gT 6 (gConsD (gN 2) (gConsD (gN 3) (gConsD (gN 4) (gConsD (gN 5) (gConsD (gN 6) (gConsD (gN 7) gNilD))))))))
    (dSeq (dPar 8 9 (dCons (dOp rIxD (dVar 1) (dC (.int 0))) (dCons (dOp rMulD (dVar 4) (dOp rIxD (dVar 1) (dC (.int 1)))) dNil)))
    (dRet (dTup (dCons (dOp rAddD (dOp (rIntD (fun _ _ => True) fun i j => .int (i - j)) (dOp rMulD (dVar 2) (dVar 8)) (dOp rMulD (dVar 3) (dVar 9))) (dVar 6)) (dCons (dOp rAddD (dOp rAddD (dOp rMulD (dVar 3) (dVar 8)) (dOp rMulD (dVar 2) (dVar 9))) (dVar 7)) dNil))))))
theorem moved_part_ok {ds : List D} {DH : DHp} {Q : DK} (h : sp_moved_part ds DH Q) : rd_moved_part (bodyE Q) (dstart ["move", "place", "c", "s", "mirror", "d", "x", "y", "p", "q"] ds) DH := by
  obtain ⟨v, p, rfl, ⟨⟨c0, c1⟩, ⟨s0, s1⟩, ⟨m0, m1⟩, _⟩, h⟩ := h
  unfold rd_moved_part
  unfold dd mvD mvL pairD
  exact ⟨mulD_l (by omega) (by omega), mulD_l (by omega) (by omega), mulD_l (by omega) (by omega), mulD_l (by omega) (by omega), mulD_l (by omega) (by omega), by decide, DH, DSub.refl _, h⟩
abbrev sp_law_moved : DSp := sp_moved_part
/-! ### _law_moved -/
def rd_law_moved : DS :=
  (dSeq (dAsg (dVar 0) (gT 6 (gConsD (gN 2) (gConsD (gN 3) (gConsD (gN 4) (gConsD (gN 5) (gConsD (gN 6) (gConsD (gN 7) gNilD))))))))
    (dSeq (dAsg (dVar 1) (gT 2 (gConsD (gN 8) (gConsD (gN 9) gNilD))))
    (dRet (dTup (dCons (dOp rAddD (dOp (rIntD (fun _ _ => True) fun i j => .int (i - j)) (dOp rMulD (dVar 2) (dVar 8)) (dOp rMulD (dOp rMulD (dVar 4) (dVar 3)) (dVar 9))) (dVar 6)) (dCons (dOp rAddD (dOp rAddD (dOp rMulD (dVar 3) (dVar 8)) (dOp rMulD (dOp rMulD (dVar 4) (dVar 2)) (dVar 9))) (dVar 7)) dNil))))))
theorem law_moved_ok {ds : List D} {DH : DHp} {Q : DK} (h : sp_moved_part ds DH Q) : rd_law_moved (bodyE Q) (dstart ["move", "place", "c", "s", "mirror", "d", "x", "y", "p", "q"] ds) DH := by
  obtain ⟨v, p, rfl, ⟨⟨c0, c1⟩, ⟨s0, s1⟩, ⟨m0, m1⟩, _⟩, h⟩ := h
  have b1 : -100 ≤ v.m * v.s ∧ v.m * v.s ≤ 100 := by
    rcases (by omega : v.m = -1 ∨ v.m = 0 ∨ v.m = 1) with z | z | z <;> rw [z] <;> omega
  have b2 : -100 ≤ v.m * v.c ∧ v.m * v.c ≤ 100 := by
    rcases (by omega : v.m = -1 ∨ v.m = 0 ∨ v.m = 1) with z | z | z <;> rw [z] <;> omega
  have e1 : v.m * v.s * p.2 = v.s * (v.m * p.2) := by grind
  have e2 : v.m * v.c * p.2 = v.c * (v.m * p.2) := by grind
  unfold rd_law_moved
  unfold dd mvD mvL pairD
  refine ⟨mulD_l (by omega) (by omega), mulD_l (by omega) (by omega), mulD_l (by omega) (by omega), mulD_l (by omega) (by omega), mulD_l (by omega) (by omega), mulD_l (by omega) (by omega), by decide, DH, DSub.refl _, ?_⟩
  rw [e1, e2]
  exact h
def fracsD (v : Mv) (p : Int × Int) : D := .tup [pairD (frac p.1 v.d), pairD (frac p.2 v.d)]
def sp_moved_place : DSp := fun ds DH Q => ∃ v p, ds = [mvD v, pairD p] ∧ MvOk v ∧ Q (fracsD v (mvP v p)) DH
/-! ### moved_place -/
def rd_moved_place : DS :=
  (dRet (dCB rTupD (dCons (dLc false (dISeq (dCB sp_moved_part (dCons (dVar 0) (dCons (dVar 1) dNil)))) (gN 2) dYes (dCB sp_fraction (dCons (dVar 2) (dCons (dOp rIxD (dVar 0) (dC (.int 3))) dNil))) [2]) dNil)))
theorem moved_place_ok {ds : List D} {DH : DHp} {Q : DK} (h : sp_moved_place ds DH Q) : rd_moved_place (bodyE Q) (dstart ["move", "place", "number"] ds) DH := by
  obtain ⟨v, p, rfl, hv, h⟩ := h
  have hd := hv.2.2.2.1
  unfold rd_moved_place
  unfold dLc
  unfold dd
  refine ⟨v, p, rfl, hv, ?_⟩
  unfold dd pairD
  refine ⟨by decide, comp_map (fun x => match x with | .int n => pairD (frac n v.d) | x => x) trivial _ _ (fun x hx Q q => ?_) ?_⟩
  · obtain ⟨n, rfl⟩ : ∃ n, x = .int n := by
      simp only [List.mem_cons, List.not_mem_nil, or_false] at hx
      rcases hx with rfl | rfl <;> exact ⟨_, rfl⟩
    unfold dd mvD mvL
    exact ⟨n, v.d, rfl, by omega, by omega, q⟩
  · unfold dd
    exact ⟨DH, DSub.refl _, h⟩
def sp_first_elsewhere : DSp := fun ds DH Q => ∃ v ps qs, ds = [mvD v, .tup (pairsL ps), .tup (pairsL qs)] ∧ MvOk v ∧ ps.length = qs.length ∧ ∀ r, (r = .non ∧ ∀ j : Int, 0 ≤ j → j < ps.length → mvP v (pt ps j) = (v.d * (pt qs j).1, v.d * (pt qs j).2)) ∨ (∃ j : Int, r = .int j ∧ 0 ≤ j ∧ j < ps.length ∧ mvP v (pt ps j) ≠ (v.d * (pt qs j).1, v.d * (pt qs j).2)) → Q r DH
/-! ### first_elsewhere -/
def rd_first_elsewhere : DS :=
  (dSeq (dFor (dIEnum (dCons (dVar 1) dNil)) (gT 2 (gConsD (gN 3) (gConsD (gN 4) gNilD))) (dIfS (dB (dOp (rEqD true) (dCB sp_moved_part (dCons (dVar 0) (dCons (dVar 4) dNil))) (dTup (dCons (dOp rMulD (dOp rIxD (dVar 0) (dC (.int 3))) (dOp rIxD (dOp rIxD (dVar 2) (dVar 3)) (dC (.int 0)))) (dCons (dOp rMulD (dOp rIxD (dVar 0) (dC (.int 3))) (dOp rIxD (dOp rIxD (dVar 2) (dVar 3)) (dC (.int 1)))) dNil))))) (dRet (dVar 3)) dNext))
    (dRet (dC .non)))
theorem pairsL_cons (p : Int × Int) (ps : List (Int × Int)) : pairsL (p :: ps) = pairD p :: pairsL ps := rfl
theorem enumD_pairs (ps : List (Int × Int)) : ∀ k : Nat, enumD (k : Nat) (pairsL (ps.drop k)) = match ps.drop k with
    | [] => []
    | p :: r => .tup [.int (k : Nat), pairD p] :: enumD ((k : Nat) + 1) (pairsL r) := fun k => by
  cases ps.drop k <;> rfl
theorem pt_drop {ps r : List (Int × Int)} {p : Int × Int} {k : Nat} (h : ps.drop k = p :: r) : k < ps.length ∧ pt ps (k : Nat) = p ∧ ps.drop (k + 1) = r := by
  have hk : k < ps.length := by
    rcases Nat.lt_or_ge k ps.length with z | z
    · exact z
    · rw [List.drop_eq_nil_of_le z] at h; cases h
  rw [List.drop_eq_getElem_cons hk] at h
  cases h
  refine ⟨hk, ?_, rfl⟩
  unfold pt
  simp [List.getD, List.getElem?_eq_getElem hk]
theorem first_elsewhere_ok {ds : List D} {DH : DHp} {Q : DK} (h : sp_first_elsewhere ds DH Q) : rd_first_elsewhere (bodyE Q) (dstart ["move", "one", "other", "joint", "place"] ds) DH := by
  obtain ⟨v, ps, qs, rfl, hv, hl, h⟩ := h
  have hd := hv.2.2.2.1
  unfold rd_first_elsewhere
  unfold dd
  unfold dFor
  unfold dd
  refine for_inv (fun xs τ H => H = DH ∧ ∃ k : Nat, xs = enumD (k : Nat) (pairsL (ps.drop k)) ∧ (∀ j : Int, 0 ≤ j → j < k → mvP v (pt ps j) = (v.d * (pt qs j).1, v.d * (pt qs j).2)) ∧ ∃ c d, τ = [some (mvD v), some (.tup (pairsL ps)), some (.tup (pairsL qs)), c, d]) ?_ ?_ _ _ _ ⟨rfl, 0, rfl, fun j h0 h1 => absurd h1 (by omega), none, none, rfl⟩
  · rintro τ H ⟨rfl, k, e, hk, c, d, rfl⟩
    refine ⟨trivial, ?_⟩
    unfold dd
    refine ⟨H, DSub.refl _, h _ (.inl ⟨rfl, fun j j0 j1 => hk j j0 ?_⟩)⟩
    rw [enumD_pairs] at e
    cases z : ps.drop k with
    | nil =>
      have := congrArg List.length z
      rw [List.length_drop] at this
      simp only [List.length_nil] at this
      omega
    | cons p r => rw [z] at e; cases e
  · rintro x r τ H ⟨rfl, k, e, hk, c, d, rfl⟩
    rw [enumD_pairs] at e
    cases z : ps.drop k with
    | nil => rw [z] at e; cases e
    | cons p r' =>
      rw [z] at e
      cases e
      obtain ⟨z1, z2, z3⟩ := pt_drop z
      refine ⟨trivial, fun E' hr _ hE _ => ?_⟩
      unfold dd
      refine ⟨v, p, rfl, hv, ?_⟩
      have e2_ := atI_pt (pl := qs) (i := (k : Nat)) (by omega) (by omega)
      unfold dd mvD mvL e2_ pairD
      refine ⟨mulD_l (by omega) (by omega), mulD_l (by omega) (by omega), by decide, ?_⟩
      have er := rEq_pairT (mvP v p) (v.d * (pt qs (k : Nat)).1, v.d * (pt qs (k : Nat)).2)
      unfold pairD at er
      simp only at er
      unfold dd er hr
      refine ite2 (fun y => ?_) fun y => ?_
      · exact ⟨H, DSub.refl _, h _ (.inr ⟨(k : Nat), rfl, by omega, by omega, by rw [z2]; exact y⟩)⟩
      · refine hE _ _ ⟨rfl, k + 1, by rw [z3]; rfl, fun j j0 j1 => ?_, some (.int (k : Nat)), some (pairD p), rfl⟩
        by_cases jk : j = (k : Nat)
        · subst jk
          rw [z2]
          exact Classical.not_not.mp y
        · exact hk j j0 (by omega)
def sp_does_take : DSp := fun ds DH Q => ∃ v ps qs, ds = [mvD v, .tup (pairsL ps), .tup (pairsL qs)] ∧ MvOk v ∧ ps.length = qs.length ∧ ∀ b : Bool, (b = true ↔ ∀ j : Int, 0 ≤ j → j < ps.length → mvP v (pt ps j) = (v.d * (pt qs j).1, v.d * (pt qs j).2)) → Q (.bl b) DH
/-! ### does_take -/
def rd_does_take : DS :=
  (dRet (dOp (rIsN false) (dCB sp_first_elsewhere (dCons (dVar 0) (dCons (dVar 1) (dCons (dVar 2) dNil)))) (dC .non)))
theorem does_take_ok {ds : List D} {DH : DHp} {Q : DK} (h : sp_does_take ds DH Q) : rd_does_take (bodyE Q) (dstart ["move", "one", "other"] ds) DH := by
  obtain ⟨v, ps, qs, rfl, hv, hl, h⟩ := h
  unfold rd_does_take
  unfold dd
  refine ⟨v, ps, qs, rfl, hv, hl, fun r hr => ?_⟩
  rcases hr with ⟨rfl, hr⟩ | ⟨j, rfl, j0, j1, hj⟩
  · unfold dd
    exact ⟨DH, DSub.refl _, h _ ⟨fun _ => hr, fun _ => rfl⟩⟩
  · unfold dd
    exact ⟨DH, DSub.refl _, h _ ⟨fun z => (by cases z), fun z => absurd (z j j0 j1) hj⟩⟩
/-! ### drawn moves, and values near them -/
def sp_law_move : DSp := fun ds DH Q => ∃ a, ds = [.ref a] ∧ DH a = some .src ∧ ∀ v, MvOk v → Q (mvD v) DH
/-! ### _law_move -/
def rd_law_move : DS :=
  (dSeq (dAsg (dLst (dCons (dTup (dCons (dC (.int 1)) (dCons (dC (.int 0)) (dCons (dC (.int 1)) dNil)))) (dCons (dTup (dCons (dC (.int 3)) (dCons (dC (.int 4)) (dCons (dC (.int 5)) dNil)))) (dCons (dTup (dCons (dUn rNegD (dC (.int 3))) (dCons (dC (.int 4)) (dCons (dC (.int 5)) dNil)))) (dCons (dTup (dCons (dC (.int 0)) (dCons (dUn rNegD (dC (.int 1))) (dCons (dC (.int 1)) dNil)))) (dCons (dTup (dCons (dC (.int 5)) (dCons (dC (.int 12)) (dCons (dC (.int 13)) dNil)))) (dCons (dTup (dCons (dUn rNegD (dC (.int 8))) (dCons (dUn rNegD (dC (.int 15))) (dCons (dC (.int 17)) dNil)))) (dCons (dTup (dCons (dC (.int 6)) (dCons (dC (.int 8)) (dCons (dC (.int 10)) dNil)))) (dCons (dTup (dCons (dC (.int 0)) (dCons (dC (.int 5)) (dCons (dC (.int 5)) dNil)))) dNil))))))))) (gN 1))
    (dSeq (dAsg (dCB sp_law_of (dCons (dVar 0) (dCons (dVar 1) dNil))) (gT 3 (gConsD (gN 2) (gConsD (gN 3) (gConsD (gN 4) gNilD)))))
    (dRet (dTup (dCons (dVar 2) (dCons (dVar 3) (dCons (dCB sp_law_of (dCons (dVar 0) (dCons (dLst (dCons (dC (.int 1)) (dCons (dUn rNegD (dC (.int 1))) dNil))) dNil))) (dCons (dVar 4) (dCons (dOp (rIntD (fun _ _ => True) fun i j => .int (i - j)) (dCB sp_law_pick (dCons (dVar 0) (dCons (dC (.int 21)) dNil))) (dC (.int 10))) (dCons (dOp (rIntD (fun _ _ => True) fun i j => .int (i - j)) (dCB sp_law_pick (dCons (dVar 0) (dCons (dC (.int 41)) dNil))) (dC (.int 20))) dNil))))))))))
theorem law_move_ok {ds : List D} {DH : DHp} {Q : DK} (h : sp_law_move ds DH Q) : rd_law_move (bodyE Q) (dstart ["source", "some", "c", "s", "d"] ds) DH := by
  obtain ⟨a, rfl, ha, h⟩ := h
  unfold rd_law_move
  unfold dd
  refine ⟨by decide, by decide, by decide, by decide, by decide, by decide, by decide, by decide, by decide, a, _, _, rfl, ha, rfl, by simp, by simp, fun x hx => ?_⟩
  obtain ⟨c, s, d, rfl, hc, hs, hd⟩ : ∃ c s d : Int, x = .tup [.int c, .int s, .int d] ∧ (-100 ≤ c ∧ c ≤ 100) ∧ (-100 ≤ s ∧ s ≤ 100) ∧ (1 ≤ d ∧ d ≤ 100) := by
    simp only [List.mem_cons, List.not_mem_nil, or_false] at hx
    rcases hx with rfl | rfl | rfl | rfl | rfl | rfl | rfl | rfl <;> exact ⟨_, _, _, rfl, by decide, by decide, by decide⟩
  unfold dd
  refine ⟨by decide, a, _, _, rfl, ha, rfl, by simp, by simp, fun x hx => ?_⟩
  obtain ⟨m, rfl, hm⟩ : ∃ m : Int, x = .int m ∧ (-1 ≤ m ∧ m ≤ 1) := by
    simp only [List.mem_cons, List.not_mem_nil, or_false] at hx
    rcases hx with rfl | rfl <;> exact ⟨_, rfl, by decide⟩
  unfold dd
  refine ⟨a, _, rfl, ha, by decide, fun i i0 i1 => ?_⟩
  unfold dd
  refine ⟨a, _, rfl, ha, by decide, fun j j0 j1 => ?_⟩
  unfold dd
  exact ⟨by decide, DH, DSub.refl _, h ⟨c, s, m, d, i - 10, j - 20⟩ ⟨hc, hs, hm, hd, by simp only; omega, by simp only; omega⟩⟩
def NearOk (v : D) : Prop := v.sm 70 = true ∧ v.dep ≤ 5 ∧ v.nodes ≤ 100
def sp_law_near : DSp := fun ds DH Q => ∃ a v, ds = [.ref a, mvD v] ∧ DH a = some .src ∧ MvOk v ∧ ∀ d, NearOk d → Q d DH
/-! ### _law_near -/
def rd_law_near : DS :=
  (dSeq (dAsg (dCB sp_law_pick (dCons (dVar 0) (dCons (dC (.int 6)) dNil))) (gN 2))
    (dSeq (dAsg (dCB sp_law_of (dCons (dVar 0) (dCons (dLst (dCons (dOp rAddD (dOp rIxD (dVar 1) (dVar 2)) (dC (.int 1))) (dCons (dC (.int 0)) (dCons (dOp (rIntD (fun _ _ => True) fun i j => .int (i - j)) (dC (.int 0)) (dOp rIxD (dVar 1) (dVar 2))) (dCons (dC (.bl true)) (dCons (dC .non) (dCons (dC (.str (Str.ofString "1"))) (dCons (dTup (dCons (dC (.int 1)) dNil)) (dCons (dC (.int 1)) (dCons (dOp rPow (dC (.int 10)) (dC (.int 20))) dNil)))))))))) dNil))) (gN 3))
    (dSeq (dAsg (dOp rAddD (dOp rMulD (dLst (dCons (dOp rAddD (dOp rAddD (dSl (rSlD false) (dVar 1) dNoPart (dPart (dVar 2))) (dTup (dCons (dVar 3) dNil))) (dSl (rSlD false) (dVar 1) (dPart (dOp rAddD (dVar 2) (dC (.int 1)))) dNoPart)) dNil)) (dC (.int 4))) (dLst (dCons (dCB (rLstD false) (dCons (dVar 1) dNil)) (dCons (dSl (rSlD false) (dVar 1) dNoPart (dPart (dC (.int 5)))) (dCons (dOp rAddD (dVar 1) (dTup (dCons (dC (.int 0)) dNil))) (dCons (dVar 3) (dCons (dTup dNil) (dCons (dRev false (dVar 1)) dNil)))))))) (gN 4))
    (dRet (dCB sp_law_of (dCons (dVar 0) (dCons (dVar 4) dNil)))))))
theorem mv_get {v : Mv} (hv : MvOk v) {k : Int} (k0 : 0 ≤ k) (k1 : k < 6) : ∃ z : Int, atI (mvL v) k = some (.int z) ∧ -100 ≤ z ∧ z ≤ 100 := by
  obtain ⟨h1, h2, h3, h4, h5, h6⟩ := hv
  rcases (by omega : k = 0 ∨ k = 1 ∨ k = 2 ∨ k = 3 ∨ k = 4 ∨ k = 5) with rfl | rfl | rfl | rfl | rfl | rfl
  · exact ⟨v.c, rfl, h1⟩
  · exact ⟨v.s, rfl, h2⟩
  · exact ⟨v.m, rfl, by omega, by omega⟩
  · exact ⟨v.d, rfl, by omega, by omega⟩
  · exact ⟨v.x, rfl, h5⟩
  · exact ⟨v.y, rfl, h6⟩
/-- what may stand among a move's numbers -/
def ItemOk (x : D) : Prop := x.sm 70 = true ∧ x.dep ≤ 2 ∧ x.nodes ≤ 3
theorem item_int {i : Int} (h0 : -(2 ^ 68) ≤ i) (h1 : i ≤ 2 ^ 68) : ItemOk (.int i) := ⟨sm_int (by omega) (by omega), Nat.zero_le _, Nat.le_of_ble_eq_true rfl⟩
theorem mvL_items {v : Mv} (hv : MvOk v) : ∀ x ∈ mvL v, ItemOk x := fun x hx => by
  obtain ⟨h1, h2, h3, h4, h5, h6⟩ := hv
  unfold mvL at hx
  simp only [List.mem_cons, List.not_mem_nil, or_false] at hx
  rcases hx with rfl | rfl | rfl | rfl | rfl | rfl <;> exact item_int (by omega) (by omega)
theorem near_seq {xs : List D} (h : ∀ x ∈ xs, ItemOk x) (hl : xs.length ≤ 20) : NearOk (.tup xs) ∧ NearOk (.lst xs) := by
  have a : smL 70 xs = true := smL_all fun x hx => (h x hx).1
  have b : depL xs ≤ 2 := depL_le fun x hx => (h x hx).2.1
  have c : nodesL xs ≤ xs.length * 3 := nodesL_le fun x hx => (h x hx).2.2
  refine ⟨⟨by simpa [D.sm] using a, ?_, ?_⟩, ⟨by simpa [D.sm] using a, ?_, ?_⟩⟩ <;> (simp only [D.dep, D.nodes]; omega)
theorem mem_cut {xs : List D} {lo hi : Option Int} {x : D} (h : x ∈ cutD xs lo hi) : x ∈ xs := by
  unfold cutD at h
  exact List.mem_of_mem_drop (List.mem_of_mem_take h)
theorem cut_len (xs : List D) (lo hi : Option Int) : (cutD xs lo hi).length ≤ xs.length := by
  unfold cutD
  rw [List.length_take, List.length_drop]
  omega
theorem law_near_ok {ds : List D} {DH : DHp} {Q : DK} (h : sp_law_near ds DH Q) : rd_law_near (bodyE Q) (dstart ["source", "move", "k", "odd", "some"] ds) DH := by
  obtain ⟨a, v, rfl, ha, hv, h⟩ := h
  have q : ∀ d, NearOk d → ∃ H2, DSub H2 DH ∧ Q d H2 := fun d hd => ⟨DH, DSub.refl _, h d hd⟩
  unfold rd_law_near
  unfold dd
  refine ⟨a, _, rfl, ha, by decide, fun k k0 k1 => ?_⟩
  have k1 : k < 6 := by omega
  obtain ⟨z, ez, z0, z1⟩ := mv_get hv k0 k1
  unfold dd mvD ez
  refine ⟨by decide, ⟨by decide, by decide⟩, by decide, a, _, _, rfl, ha, rfl, by simp, by simp, fun odd ho => ?_⟩
  have ho : ItemOk odd := by
    simp only [List.mem_cons, List.not_mem_nil, or_false] at ho
    rcases ho with rfl | rfl | rfl | rfl | rfl | rfl | rfl | rfl | rfl
    · exact item_int (by omega) (by omega)
    · exact item_int (by decide) (by decide)
    · exact item_int (by omega) (by omega)
    · exact ⟨rfl, by decide, by decide⟩
    · exact ⟨rfl, by decide, by decide⟩
    · exact ⟨by decide +kernel, by decide, by decide⟩
    · exact ⟨rfl, by decide, by decide⟩
    · exact item_int (by decide +kernel) (by decide +kernel)
    · exact item_int (by decide +kernel) (by decide +kernel)
  have six : (mvL v).length = 6 := rfl
  have c1 := cut_len (mvL v) none (some k)
  have c2 := cut_len (mvL v) (some (k + 1)) none
  have c3 := cut_len (mvL v) none (some 5)
  have im := mvL_items hv
  unfold dd
  refine ⟨by decide, size_leM (by omega), size_leM (by rw [List.length_append]; simp only [List.length_cons, List.length_nil]; omega), by decide, ⟨by decide, by decide, by decide⟩, by decide, (by decide : 7 ≤ sizeLine), by decide, by decide, ?_, a, _, _, rfl, ha, rfl, by simp, ?_, fun d hd => q d ?_⟩
  · simp only [List.length_flatten, List.map_replicate, List.length_cons, List.length_nil]
    decide
  · simp only [List.length_append, List.length_flatten, List.map_replicate, List.length_cons, List.length_nil]
    decide
  · have n1 := near_seq (xs := cutD (mvL v) none (some k) ++ [odd] ++ cutD (mvL v) (some (k + 1)) none) (fun x hx => by
      rcases List.mem_append.mp hx with hx | hx
      · rcases List.mem_append.mp hx with hx | hx
        · exact im x (mem_cut hx)
        · rw [List.mem_singleton.mp hx]; exact ho
      · exact im x (mem_cut hx)) (by simp only [List.length_append, List.length_cons, List.length_nil]; omega)
    have n2 := near_seq im (by decide : 6 ≤ 20)
    have n3 := near_seq (xs := cutD (mvL v) none (some 5)) (fun x hx => im x (mem_cut hx)) (by omega)
    have n4 := near_seq (xs := mvL v ++ [.int 0]) (fun x hx => by
      rcases List.mem_append.mp hx with hx | hx
      · exact im x hx
      · rw [List.mem_singleton.mp hx]; exact item_int (by decide) (by decide)) (by rw [List.length_append, six]; decide)
    have n5 := near_seq (xs := (mvL v).reverse) (fun x hx => im x (List.mem_reverse.mp hx)) (by rw [List.length_reverse, six]; decide)
    rcases List.mem_append.mp hd with hd | hd
    · have e4 : d = .tup (cutD (mvL v) none (some k) ++ [odd] ++ cutD (mvL v) (some (k + 1)) none) := by
        obtain ⟨l, hl, hm⟩ := List.mem_flatten.mp hd
        rw [List.eq_of_mem_replicate hl] at hm
        exact List.mem_singleton.mp hm
      rw [e4]
      exact n1.1
    · simp only [List.mem_cons, List.not_mem_nil, or_false] at hd
      rcases hd with rfl | rfl | rfl | rfl | rfl | rfl
      · exact n2.2
      · exact n3.1
      · exact n4.1
      · exact ⟨ho.1, by have := ho.2.1; omega, by have := ho.2.2; omega⟩
      · exact ⟨rfl, by decide, by decide⟩
      · exact n5.1
end DL

local macro_rules
  | `(tactic| unfold dd $ls*) => `(tactic| try simp only [↓DL.dVar_e, ↓DL.dC_e, ↓DL.dOp_e, ↓DL.dUn_e, ↓DL.dB_e, ↓DL.dChain_e, ↓DL.dAnd_e, ↓DL.dOr_e, ↓DL.dNot_e, ↓DL.dAndV_e, ↓DL.dOrV_e, ↓DL.dNotV_e, ↓DL.dIf_e, ↓DL.dNil_e, ↓DL.dCons_e, ↓DL.dTup_e, ↓DL.dLst_e, ↓DL.dCB_e, ↓DL.dNext_e, ↓DL.dSeq_e, ↓DL.dCont_e, ↓DL.dBreak_e, ↓DL.dDrop_e, ↓DL.dRet_e, ↓DL.dRetN_e, ↓DL.dIfS_e, ↓DL.gN_e, ↓DL.gNilD_e, ↓DL.gConsD_e, ↓DL.gT_e, ↓DL.dAsg_e, ↓DL.dPar_e, ↓DL.dPar3_e, ↓DL.dYes_e, ↓DL.dISeq_e, ↓DL.dIRg1_e, ↓DL.dIRg2_e, ↓DL.dIEnum_e, ↓DL.dIZip_e, ↓DL.rIntD_e, ↓DL.rNegD_e, ↓DL.rEq_intF, ↓DL.rEq_intT, ↓DL.rAddD_e, ↓DL.rMulD_e, ↓DL.rIxD_e, ↓DL.rI1_e, ↓DL.rI2_e, ↓DL.rIntCD_e, ↓DL.rSumD_e, ↓DL.rAllD_e, ↓DL.rIsiD_e, ↓DL.rLenD_e, ↓DL.rTupD_e, ↓DL.rLstD_e, ↓DL.rIsN_e, ↓DL.rSlD_e, ↓DL.dSl_e, ↓DL.dNoPart_e, ↓DL.dPart_e, ↓DL.dRev_e, ↓DL.dGet_e, ↓DL.dIn_e, ↓DL.dStore_e, ↓DL.dBM0_e, ↓DL.dBM_e, ↓DL.dDisp_e, ↓DL.mAppend_e, ↓DL.mPop_e, ↓DL.dNewK_e, ↓DL.dNewT_e, ↓DL.dLstM_e, ↓DL.dFrz_e, ↓DL.rReprD_e, ↓DL.rNeS_e, ↓DL.rEqS_e, ↓DL.asB_e, ↓DL.walkD_e, ↓DL.lookD_e, ↓DL.storeD_e, ↓DL.ofTy_e, ↓DL.onLst_e, DL.bodyE, DL.dstart, DL.dPairs, DL.dwipe, DL.keysOf, DL.keyD, DL.isNon, DL.peek_int, DL.peek_bl, DL.peek_non, DL.peek_str, DL.peek_tup, DL.peek_lst, DL.seqOf_tup, DL.seqOf_lst, DL.listOf_lst, DL.tyOf, DL.isTy, DL.atI0, DL.atI1, DL.atI2, DL.atI3, DL.atI4, DL.atI5, DL.dupd_same, DL.dupd_dupd, List.map_cons, List.map_nil, List.length_cons, List.length_nil, List.cons_append, List.nil_append, List.replicate_succ, List.replicate_zero, Nat.reduceAdd, Nat.reduceSub, Nat.zero_add, List.getElem?_cons_zero, List.getElem?_cons_succ, List.set_cons_zero, List.set_cons_succ, true_and, and_true, Int.toNat_natCast, if_true, if_false, Bool.false_eq_true, reduceCtorEq, ne_eq, not_false_eq_true, not_true_eq_false, decide_eq_true_eq, Bool.not_eq_true', decide_eq_false_iff_not, Option.bind_some, Option.map_some, $[$ls:term],*])
local macro_rules
  | `(tactic| unfold d2 $ls*) => `(tactic| try simp only [↓DL.dFor_e, ↓DL.dLc_e, ↓DL.dVar_e, ↓DL.dC_e, ↓DL.dOp_e, ↓DL.dUn_e, ↓DL.dB_e, ↓DL.dChain_e, ↓DL.dAnd_e, ↓DL.dOr_e, ↓DL.dNot_e, ↓DL.dAndV_e, ↓DL.dOrV_e, ↓DL.dNotV_e, ↓DL.dIf_e, ↓DL.dNil_e, ↓DL.dCons_e, ↓DL.dTup_e, ↓DL.dLst_e, ↓DL.dCB_e, ↓DL.dNext_e, ↓DL.dSeq_e, ↓DL.dCont_e, ↓DL.dBreak_e, ↓DL.dDrop_e, ↓DL.dRet_e, ↓DL.dRetN_e, ↓DL.dIfS_e, ↓DL.gN_e, ↓DL.gNilD_e, ↓DL.gConsD_e, ↓DL.gT_e, ↓DL.dAsg_e, ↓DL.dPar_e, ↓DL.dPar3_e, ↓DL.dYes_e, ↓DL.dISeq_e, ↓DL.dIRg1_e, ↓DL.dIRg2_e, ↓DL.dIEnum_e, ↓DL.dIZip_e, ↓DL.rIntD_e, ↓DL.rNegD_e, ↓DL.rEq_intF, ↓DL.rEq_intT, ↓DL.rAddD_e, ↓DL.rMulD_e, ↓DL.rIxD_e, ↓DL.rI1_e, ↓DL.rI2_e, ↓DL.rIntCD_e, ↓DL.rSumD_e, ↓DL.rAllD_e, ↓DL.rIsiD_e, ↓DL.rLenD_e, ↓DL.rTupD_e, ↓DL.rLstD_e, ↓DL.rIsN_e, ↓DL.rSlD_e, ↓DL.dSl_e, ↓DL.dNoPart_e, ↓DL.dPart_e, ↓DL.dRev_e, ↓DL.dGet_e, ↓DL.dIn_e, ↓DL.dStore_e, ↓DL.dBM0_e, ↓DL.dBM_e, ↓DL.dDisp_e, ↓DL.mAppend_e, ↓DL.mPop_e, ↓DL.dNewK_e, ↓DL.dNewT_e, ↓DL.dLstM_e, ↓DL.dFrz_e, ↓DL.rReprD_e, ↓DL.rNeS_e, ↓DL.rEqS_e, ↓DL.asB_e, ↓DL.walkD_e, ↓DL.lookD_e, ↓DL.storeD_e, ↓DL.ofTy_e, ↓DL.onLst_e, DL.bodyE, DL.dstart, DL.dPairs, DL.dwipe, DL.keysOf, DL.keyD, DL.isNon, DL.peek_int, DL.peek_bl, DL.peek_non, DL.peek_str, DL.peek_tup, DL.peek_lst, DL.seqOf_tup, DL.seqOf_lst, DL.listOf_lst, DL.tyOf, DL.isTy, DL.atI0, DL.atI1, DL.atI2, DL.atI3, DL.atI4, DL.atI5, DL.dupd_same, DL.dupd_dupd, List.map_cons, List.map_nil, List.length_cons, List.length_nil, List.cons_append, List.nil_append, List.replicate_succ, List.replicate_zero, Nat.reduceAdd, Nat.reduceSub, Nat.zero_add, List.getElem?_cons_zero, List.getElem?_cons_succ, List.set_cons_zero, List.set_cons_succ, true_and, and_true, Int.toNat_natCast, if_true, if_false, Bool.false_eq_true, reduceCtorEq, ne_eq, not_false_eq_true, not_true_eq_false, decide_eq_true_eq, Bool.not_eq_true', decide_eq_false_iff_not, Option.bind_some, Option.map_some, $[$ls:term],*])
local macro_rules
  | `(tactic| unfold d3 $ls*) => `(tactic| try simp only [↓DL.dLstRg1_e, ↓DL.dLstRg2_e, ↓DL.rSortD_e, ↓DL.rMaxL_e, ↓DL.rMinL_e, ↓DL.tell_F, ↓DL.tell_T, DL.ints_map, DL.bls_map, DL.pairs_map, ↓DL.dFor_e, ↓DL.dLc_e, ↓DL.dVar_e, ↓DL.dC_e, ↓DL.dOp_e, ↓DL.dUn_e, ↓DL.dB_e, ↓DL.dChain_e, ↓DL.dAnd_e, ↓DL.dOr_e, ↓DL.dNot_e, ↓DL.dAndV_e, ↓DL.dOrV_e, ↓DL.dNotV_e, ↓DL.dIf_e, ↓DL.dNil_e, ↓DL.dCons_e, ↓DL.dTup_e, ↓DL.dLst_e, ↓DL.dCB_e, ↓DL.dNext_e, ↓DL.dSeq_e, ↓DL.dCont_e, ↓DL.dBreak_e, ↓DL.dDrop_e, ↓DL.dRet_e, ↓DL.dRetN_e, ↓DL.dIfS_e, ↓DL.gN_e, ↓DL.gNilD_e, ↓DL.gConsD_e, ↓DL.gT_e, ↓DL.dAsg_e, ↓DL.dPar_e, ↓DL.dPar3_e, ↓DL.dYes_e, ↓DL.dISeq_e, ↓DL.dIRg1_e, ↓DL.dIRg2_e, ↓DL.dIEnum_e, ↓DL.dIZip_e, ↓DL.rIntD_e, ↓DL.rNegD_e, ↓DL.rEq_intF, ↓DL.rEq_intT, ↓DL.rAddD_e, ↓DL.rMulD_e, ↓DL.rIxD_e, ↓DL.rI1_e, ↓DL.rI2_e, ↓DL.rIntCD_e, ↓DL.rSumD_e, ↓DL.rAllD_e, ↓DL.rIsiD_e, ↓DL.rLenD_e, ↓DL.rTupD_e, ↓DL.rLstD_e, ↓DL.rIsN_e, ↓DL.rSlD_e, ↓DL.dSl_e, ↓DL.dNoPart_e, ↓DL.dPart_e, ↓DL.dRev_e, ↓DL.dGet_e, ↓DL.dIn_e, ↓DL.dStore_e, ↓DL.dBM0_e, ↓DL.dBM_e, ↓DL.dDisp_e, ↓DL.mAppend_e, ↓DL.mPop_e, ↓DL.dNewK_e, ↓DL.dNewT_e, ↓DL.dLstM_e, ↓DL.dFrz_e, ↓DL.rReprD_e, ↓DL.rNeS_e, ↓DL.rEqS_e, ↓DL.asB_e, ↓DL.walkD_e, ↓DL.lookD_e, ↓DL.storeD_e, ↓DL.ofTy_e, ↓DL.onLst_e, DL.bodyE, DL.dstart, DL.dPairs, DL.dwipe, DL.keysOf, DL.keyD, DL.isNon, DL.peek_int, DL.peek_bl, DL.peek_non, DL.peek_str, DL.peek_tup, DL.peek_lst, DL.seqOf_tup, DL.seqOf_lst, DL.listOf_lst, DL.tyOf, DL.isTy, DL.atI0, DL.atI1, DL.atI2, DL.atI3, DL.atI4, DL.atI5, DL.dupd_same, DL.dupd_dupd, List.map_cons, List.map_nil, List.length_cons, List.length_nil, List.cons_append, List.nil_append, List.replicate_succ, List.replicate_zero, Nat.reduceAdd, Nat.reduceSub, Nat.zero_add, List.getElem?_cons_zero, List.getElem?_cons_succ, List.set_cons_zero, List.set_cons_succ, true_and, and_true, Int.toNat_natCast, if_true, if_false, Bool.false_eq_true, reduceCtorEq, ne_eq, not_false_eq_true, not_true_eq_false, decide_eq_true_eq, Bool.not_eq_true', decide_eq_false_iff_not, Option.bind_some, Option.map_some, $[$ls:term],*])
namespace DL
open PySem PySem.Spec PyProof.Rows L2
/-! SH4: mixing, membership. -/
/-! ### is it among these numbers? -/
theorem memD_ints (a : Int) : ∀ ns : List Int, memD (.int a) (ns.map D.int) = decide (a ∈ ns)
  | [] => rfl
  | n :: ns => by
    have ih := memD_ints a ns
    unfold memD at ih ⊢
    rw [List.map_cons, List.any_cons, ih]
    have e : D.eq (.int n) (.int a) = decide (a = n) := by
      simp only [D.eq]
      rw [Bool.beq_eq_decide_eq]
      exact decide_eq_decide.mpr eq_comm
    rw [e]
    by_cases h : a = n <;> simp [h]
theorem plainL_intsL : ∀ ns : List Int, plainL (ns.map D.int) = true
  | [] => rfl
  | _ :: ns => by simp only [List.map_cons, plainL, Bool.and_eq_true]; exact ⟨rfl, plainL_intsL ns⟩
theorem rIn_of {neg : Bool} {x y : D} {ys : List D} {b : Bool} (hx : x.plain = true) (hp : x.dep ≤ 60) (hy : plainL ys = true) (px : ∀ H, peek H x = x) (sy : ∀ H, seqOf H y = some ys) (e : memD x ys = b) (H : DHp) (Q : DK) : rInD neg x y H Q = Q (.bl (if neg then !b else b)) H := by
  unfold rInD
  rw [sy, px]
  subst e
  exact propext ⟨fun h => h.2, fun h => ⟨⟨hx, hy, .inl hp⟩, h⟩⟩
theorem rIn_LF (a : Int) (ns : List Int) (H : DHp) (Q : DK) : rInD false (.int a) (.lst (ns.map D.int)) H Q = Q (.bl (decide (a ∈ ns))) H := rIn_of (neg := false) rfl (Nat.zero_le _) (plainL_intsL ns) (fun _ => rfl) (fun _ => rfl) (memD_ints a ns) H Q
theorem rIn_LT (a : Int) (ns : List Int) (H : DHp) (Q : DK) : rInD true (.int a) (.lst (ns.map D.int)) H Q = Q (.bl (!decide (a ∈ ns))) H := rIn_of (neg := true) rfl (Nat.zero_le _) (plainL_intsL ns) (fun _ => rfl) (fun _ => rfl) (memD_ints a ns) H Q
theorem rIn_TF (a : Int) (ns : List Int) (H : DHp) (Q : DK) : rInD false (.int a) (.tup (ns.map D.int)) H Q = Q (.bl (decide (a ∈ ns))) H := rIn_of (neg := false) rfl (Nat.zero_le _) (plainL_intsL ns) (fun _ => rfl) (fun _ => rfl) (memD_ints a ns) H Q
theorem rIn_TT (a : Int) (ns : List Int) (H : DHp) (Q : DK) : rInD true (.int a) (.tup (ns.map D.int)) H Q = Q (.bl (!decide (a ∈ ns))) H := rIn_of (neg := true) rfl (Nat.zero_le _) (plainL_intsL ns) (fun _ => rfl) (fun _ => rfl) (memD_ints a ns) H Q
theorem mem_two (a u v : Int) : decide (a ∈ [u, v]) = (decide (a = u) || decide (a = v)) := by
  by_cases h1 : a = u <;> by_cases h2 : a = v <;> simp [h1, h2]
theorem rIn_2F (a u v : Int) (H : DHp) (Q : DK) : rInD false (.int a) (.tup [.int u, .int v]) H Q = Q (.bl (decide (a = u) || decide (a = v))) H := by rw [← mem_two]; exact rIn_TF a [u, v] H Q
theorem rIn_2T (a u v : Int) (H : DHp) (Q : DK) : rInD true (.int a) (.tup [.int u, .int v]) H Q = Q (.bl (!(decide (a = u) || decide (a = v)))) H := by rw [← mem_two]; exact rIn_TT a [u, v] H Q
theorem rEq_blT (a b : Bool) (H : DHp) (Q : DK) : rEqD true (.bl a) (.bl b) H Q = Q (.bl (!(a == b))) H := rEq_of (neg := true) rfl rfl (.inl (Nat.zero_le _)) (fun _ => rfl) (fun _ => rfl) rfl H Q
theorem rEq_blF (a b : Bool) (H : DHp) (Q : DK) : rEqD false (.bl a) (.bl b) H Q = Q (.bl (a == b)) H := rEq_of (neg := false) rfl rfl (.inl (Nat.zero_le _)) (fun _ => rfl) (fun _ => rfl) rfl H Q
theorem rEq_pairF (p q : Int × Int) (H : DHp) (Q : DK) : rEqD false (pairD p) (pairD q) H Q = Q (.bl (decide (p = q))) H := rEq_of rfl rfl (.inl (Nat.le_of_ble_eq_true rfl)) (fun _ => rfl) (fun _ => rfl) (eq_pair p q) H Q

/-! ### slices by numbers -/
theorem sIx_nat' (n d : Nat) (k : Nat) : HT.sIx n d (some (k : Int)) = min k n := HT.sIx_nat n d k
theorem cut_to (xs : List D) (k : Nat) : cutD xs none (some (k : Int)) = xs.take k := by
  unfold cutD
  rw [sIx_nat', HT.sIx_none, List.drop_zero, Nat.sub_zero, List.take_eq_take_iff]
  omega
theorem cut_from (xs : List D) (k : Nat) : cutD xs (some (k : Int)) none = xs.drop k := by
  unfold cutD
  rw [sIx_nat', HT.sIx_none]
  rcases Nat.lt_or_ge k xs.length with h | h
  · rw [Nat.min_eq_left (Nat.le_of_lt h)]
    exact List.take_of_length_le (by rw [List.length_drop]; omega)
  · rw [List.drop_eq_nil_of_le (as := xs) h, List.drop_eq_nil_of_le (by omega), List.take_nil]
theorem cut_mid (xs : List D) (j k : Nat) (h : j ≤ k) (hk : k ≤ xs.length) : cutD xs (some (j : Int)) (some (k : Int)) = (xs.drop j).take (k - j) := by
  unfold cutD
  rw [sIx_nat', sIx_nat', Nat.min_eq_left hk, Nat.min_eq_left (by omega)]

/-! ### mixed -/
def sp_law_mixed : DSp := fun ds DH Q => ∃ a d xs, ds = [.ref a, d] ∧ DH a = some .src ∧ seqOf DH d = some xs ∧ xs.length ≤ 1000000 ∧ ∀ ys : List D, ys.Perm xs → Q (.lst ys) DH
/-! ### _law_mixed -/
def rd_law_mixed : DS :=
  (dSeq (dAsg (dCB (rLstD true) (dCons (dVar 1) dNil)) (gN 2))
    (dRet (dLc false (dIRg1 (dCons (dCB rLenD (dCons (dVar 2) dNil)) dNil)) (gN 3) dYes (dBM "list" mPop (dVar 2) (dCons (dCB sp_law_pick (dCons (dVar 0) (dCons (dCB rLenD (dCons (dVar 2) dNil)) dNil))) dNil)) [3])))
theorem perm_out {zs acc xs : List D} {j : Nat} {z : D} (h : (acc ++ zs).Perm xs) (hz : zs[j]? = some z) : ((acc ++ [z]) ++ zs.eraseIdx j).Perm xs := by
  have hj : j < zs.length := (List.getElem?_eq_some_iff.mp hz).1
  have e : zs[j] = z := (List.getElem?_eq_some_iff.mp hz).2
  have p : (z :: zs.eraseIdx j).Perm zs := by
    have e3 : zs = zs.take j ++ z :: zs.drop (j + 1) := by rw [← e, ← List.drop_eq_getElem_cons hj, List.take_append_drop]
    rw [List.eraseIdx_eq_take_drop_succ]
    exact (List.perm_middle.symm).trans (List.Perm.of_eq e3.symm)
  rw [List.append_assoc]
  exact ((List.Perm.refl acc).append p).trans h
theorem law_mixed_ok {ds : List D} {DH : DHp} {Q : DK} (h : sp_law_mixed ds DH Q) : rd_law_mixed (bodyE Q) (dstart ["source", "things", "rest", "lap"] ds) DH := by
  obtain ⟨a, d, xs, rfl, ha, hd, hl, h⟩ := h
  unfold rd_law_mixed
  unfold d3 hd
  intro p hp
  have ap : a ≠ p := fun z => by subst z; rw [hp] at ha; cases ha
  have pk : ∀ zs : List D, peek (dupd DH p (.lst zs)) (.ref p) = .lst zs := fun zs => peek_ref dupd_same
  unfold d3 pk rgD_length
  refine ⟨by omega, size_leM (by omega), comp_inv (fun rem acc H => ∃ zs, H = dupd DH p (.lst zs) ∧ (acc ++ zs).Perm xs ∧ rem.length = zs.length) ?_ ?_ _ _ _ ⟨xs, rfl, by simp, by rw [rgD_length]⟩⟩
  · rintro acc H ⟨zs, rfl, h1, h2⟩
    have : zs = [] := List.eq_nil_of_length_eq_zero h2.symm
    subst this
    rw [List.append_nil] at h1
    exact ⟨trivial, _, (DSub.refl _).new hp, h acc h1⟩
  · rintro x r acc H ⟨zs, rfl, h1, h2⟩
    have hz : 0 < zs.length := by rw [← h2]; simp
    have lz : zs.length ≤ 1000000 := by
      have := h1.length_eq
      rw [List.length_append] at this
      omega
    refine ⟨trivial, fun Q2 Z q z => ?_⟩
    unfold d3 pk
    refine ⟨a, _, rfl, by rw [dupd_ne ap]; exact ha, by omega, fun k k0 k1 => ?_⟩
    obtain ⟨k, rfl⟩ := Int.eq_ofNat_of_zero_le k0
    have hk : k < zs.length := by omega
    have e1 : ixN zs.length ((k : Nat) : Int) = some k := by unfold ixN; rw [if_pos (by omega), if_pos (by omega)]; simp
    have e2 : zs[k]? = some zs[k] := List.getElem?_eq_getElem hk
    unfold d3 e1 e2
    refine ⟨⟨by omega, by omega⟩, q _ _ ⟨zs.eraseIdx k, rfl, perm_out h1 e2, ?_⟩⟩
    rw [List.length_eraseIdx_of_lt hk]
    simp only [List.length_cons] at h2
    omega
end DL

local macro_rules
  | `(tactic| unfold dd $ls*) => `(tactic| try simp only [↓DL.dVar_e, ↓DL.dC_e, ↓DL.dOp_e, ↓DL.dUn_e, ↓DL.dB_e, ↓DL.dChain_e, ↓DL.dAnd_e, ↓DL.dOr_e, ↓DL.dNot_e, ↓DL.dAndV_e, ↓DL.dOrV_e, ↓DL.dNotV_e, ↓DL.dIf_e, ↓DL.dNil_e, ↓DL.dCons_e, ↓DL.dTup_e, ↓DL.dLst_e, ↓DL.dCB_e, ↓DL.dNext_e, ↓DL.dSeq_e, ↓DL.dCont_e, ↓DL.dBreak_e, ↓DL.dDrop_e, ↓DL.dRet_e, ↓DL.dRetN_e, ↓DL.dIfS_e, ↓DL.gN_e, ↓DL.gNilD_e, ↓DL.gConsD_e, ↓DL.gT_e, ↓DL.dAsg_e, ↓DL.dPar_e, ↓DL.dPar3_e, ↓DL.dYes_e, ↓DL.dISeq_e, ↓DL.dIRg1_e, ↓DL.dIRg2_e, ↓DL.dIEnum_e, ↓DL.dIZip_e, ↓DL.rIntD_e, ↓DL.rNegD_e, ↓DL.rEq_intF, ↓DL.rEq_intT, ↓DL.rAddD_e, ↓DL.rMulD_e, ↓DL.rIxD_e, ↓DL.rI1_e, ↓DL.rI2_e, ↓DL.rIntCD_e, ↓DL.rSumD_e, ↓DL.rAllD_e, ↓DL.rIsiD_e, ↓DL.rLenD_e, ↓DL.rTupD_e, ↓DL.rLstD_e, ↓DL.rIsN_e, ↓DL.rSlD_e, ↓DL.dSl_e, ↓DL.dNoPart_e, ↓DL.dPart_e, ↓DL.dRev_e, ↓DL.dGet_e, ↓DL.dIn_e, ↓DL.dStore_e, ↓DL.dBM0_e, ↓DL.dBM_e, ↓DL.dDisp_e, ↓DL.mAppend_e, ↓DL.mPop_e, ↓DL.dNewK_e, ↓DL.dNewT_e, ↓DL.dLstM_e, ↓DL.dFrz_e, ↓DL.rReprD_e, ↓DL.rNeS_e, ↓DL.rEqS_e, ↓DL.asB_e, ↓DL.walkD_e, ↓DL.lookD_e, ↓DL.storeD_e, ↓DL.ofTy_e, ↓DL.onLst_e, DL.bodyE, DL.dstart, DL.dPairs, DL.dwipe, DL.keysOf, DL.keyD, DL.isNon, DL.peek_int, DL.peek_bl, DL.peek_non, DL.peek_str, DL.peek_tup, DL.peek_lst, DL.seqOf_tup, DL.seqOf_lst, DL.listOf_lst, DL.tyOf, DL.isTy, DL.atI0, DL.atI1, DL.atI2, DL.atI3, DL.atI4, DL.atI5, DL.dupd_same, DL.dupd_dupd, List.map_cons, List.map_nil, List.length_cons, List.length_nil, List.cons_append, List.nil_append, List.replicate_succ, List.replicate_zero, Nat.reduceAdd, Nat.reduceSub, Nat.zero_add, List.getElem?_cons_zero, List.getElem?_cons_succ, List.set_cons_zero, List.set_cons_succ, true_and, and_true, Int.toNat_natCast, if_true, if_false, Bool.false_eq_true, reduceCtorEq, ne_eq, not_false_eq_true, not_true_eq_false, decide_eq_true_eq, Bool.not_eq_true', decide_eq_false_iff_not, Option.bind_some, Option.map_some, $[$ls:term],*])
local macro_rules
  | `(tactic| unfold d2 $ls*) => `(tactic| try simp only [↓DL.dFor_e, ↓DL.dLc_e, ↓DL.dVar_e, ↓DL.dC_e, ↓DL.dOp_e, ↓DL.dUn_e, ↓DL.dB_e, ↓DL.dChain_e, ↓DL.dAnd_e, ↓DL.dOr_e, ↓DL.dNot_e, ↓DL.dAndV_e, ↓DL.dOrV_e, ↓DL.dNotV_e, ↓DL.dIf_e, ↓DL.dNil_e, ↓DL.dCons_e, ↓DL.dTup_e, ↓DL.dLst_e, ↓DL.dCB_e, ↓DL.dNext_e, ↓DL.dSeq_e, ↓DL.dCont_e, ↓DL.dBreak_e, ↓DL.dDrop_e, ↓DL.dRet_e, ↓DL.dRetN_e, ↓DL.dIfS_e, ↓DL.gN_e, ↓DL.gNilD_e, ↓DL.gConsD_e, ↓DL.gT_e, ↓DL.dAsg_e, ↓DL.dPar_e, ↓DL.dPar3_e, ↓DL.dYes_e, ↓DL.dISeq_e, ↓DL.dIRg1_e, ↓DL.dIRg2_e, ↓DL.dIEnum_e, ↓DL.dIZip_e, ↓DL.rIntD_e, ↓DL.rNegD_e, ↓DL.rEq_intF, ↓DL.rEq_intT, ↓DL.rAddD_e, ↓DL.rMulD_e, ↓DL.rIxD_e, ↓DL.rI1_e, ↓DL.rI2_e, ↓DL.rIntCD_e, ↓DL.rSumD_e, ↓DL.rAllD_e, ↓DL.rIsiD_e, ↓DL.rLenD_e, ↓DL.rTupD_e, ↓DL.rLstD_e, ↓DL.rIsN_e, ↓DL.rSlD_e, ↓DL.dSl_e, ↓DL.dNoPart_e, ↓DL.dPart_e, ↓DL.dRev_e, ↓DL.dGet_e, ↓DL.dIn_e, ↓DL.dStore_e, ↓DL.dBM0_e, ↓DL.dBM_e, ↓DL.dDisp_e, ↓DL.mAppend_e, ↓DL.mPop_e, ↓DL.dNewK_e, ↓DL.dNewT_e, ↓DL.dLstM_e, ↓DL.dFrz_e, ↓DL.rReprD_e, ↓DL.rNeS_e, ↓DL.rEqS_e, ↓DL.asB_e, ↓DL.walkD_e, ↓DL.lookD_e, ↓DL.storeD_e, ↓DL.ofTy_e, ↓DL.onLst_e, DL.bodyE, DL.dstart, DL.dPairs, DL.dwipe, DL.keysOf, DL.keyD, DL.isNon, DL.peek_int, DL.peek_bl, DL.peek_non, DL.peek_str, DL.peek_tup, DL.peek_lst, DL.seqOf_tup, DL.seqOf_lst, DL.listOf_lst, DL.tyOf, DL.isTy, DL.atI0, DL.atI1, DL.atI2, DL.atI3, DL.atI4, DL.atI5, DL.dupd_same, DL.dupd_dupd, List.map_cons, List.map_nil, List.length_cons, List.length_nil, List.cons_append, List.nil_append, List.replicate_succ, List.replicate_zero, Nat.reduceAdd, Nat.reduceSub, Nat.zero_add, List.getElem?_cons_zero, List.getElem?_cons_succ, List.set_cons_zero, List.set_cons_succ, true_and, and_true, Int.toNat_natCast, if_true, if_false, Bool.false_eq_true, reduceCtorEq, ne_eq, not_false_eq_true, not_true_eq_false, decide_eq_true_eq, Bool.not_eq_true', decide_eq_false_iff_not, Option.bind_some, Option.map_some, $[$ls:term],*])
local macro_rules
  | `(tactic| unfold d3 $ls*) => `(tactic| try simp only [↓DL.dLstRg1_e, ↓DL.dLstRg2_e, ↓DL.rSortD_e, ↓DL.rMaxL_e, ↓DL.rMinL_e, ↓DL.tell_F, ↓DL.tell_T, DL.ints_map, DL.bls_map, DL.pairs_map, ↓DL.dFor_e, ↓DL.dLc_e, ↓DL.dVar_e, ↓DL.dC_e, ↓DL.dOp_e, ↓DL.dUn_e, ↓DL.dB_e, ↓DL.dChain_e, ↓DL.dAnd_e, ↓DL.dOr_e, ↓DL.dNot_e, ↓DL.dAndV_e, ↓DL.dOrV_e, ↓DL.dNotV_e, ↓DL.dIf_e, ↓DL.dNil_e, ↓DL.dCons_e, ↓DL.dTup_e, ↓DL.dLst_e, ↓DL.dCB_e, ↓DL.dNext_e, ↓DL.dSeq_e, ↓DL.dCont_e, ↓DL.dBreak_e, ↓DL.dDrop_e, ↓DL.dRet_e, ↓DL.dRetN_e, ↓DL.dIfS_e, ↓DL.gN_e, ↓DL.gNilD_e, ↓DL.gConsD_e, ↓DL.gT_e, ↓DL.dAsg_e, ↓DL.dPar_e, ↓DL.dPar3_e, ↓DL.dYes_e, ↓DL.dISeq_e, ↓DL.dIRg1_e, ↓DL.dIRg2_e, ↓DL.dIEnum_e, ↓DL.dIZip_e, ↓DL.rIntD_e, ↓DL.rNegD_e, ↓DL.rEq_intF, ↓DL.rEq_intT, ↓DL.rAddD_e, ↓DL.rMulD_e, ↓DL.rIxD_e, ↓DL.rI1_e, ↓DL.rI2_e, ↓DL.rIntCD_e, ↓DL.rSumD_e, ↓DL.rAllD_e, ↓DL.rIsiD_e, ↓DL.rLenD_e, ↓DL.rTupD_e, ↓DL.rLstD_e, ↓DL.rIsN_e, ↓DL.rSlD_e, ↓DL.dSl_e, ↓DL.dNoPart_e, ↓DL.dPart_e, ↓DL.dRev_e, ↓DL.dGet_e, ↓DL.dIn_e, ↓DL.dStore_e, ↓DL.dBM0_e, ↓DL.dBM_e, ↓DL.dDisp_e, ↓DL.mAppend_e, ↓DL.mPop_e, ↓DL.dNewK_e, ↓DL.dNewT_e, ↓DL.dLstM_e, ↓DL.dFrz_e, ↓DL.rReprD_e, ↓DL.rNeS_e, ↓DL.rEqS_e, ↓DL.asB_e, ↓DL.walkD_e, ↓DL.lookD_e, ↓DL.storeD_e, ↓DL.ofTy_e, ↓DL.onLst_e, DL.bodyE, DL.dstart, DL.dPairs, DL.dwipe, DL.keysOf, DL.keyD, DL.isNon, DL.peek_int, DL.peek_bl, DL.peek_non, DL.peek_str, DL.peek_tup, DL.peek_lst, DL.seqOf_tup, DL.seqOf_lst, DL.listOf_lst, DL.tyOf, DL.isTy, DL.atI0, DL.atI1, DL.atI2, DL.atI3, DL.atI4, DL.atI5, DL.dupd_same, DL.dupd_dupd, List.map_cons, List.map_nil, List.length_cons, List.length_nil, List.cons_append, List.nil_append, List.replicate_succ, List.replicate_zero, Nat.reduceAdd, Nat.reduceSub, Nat.zero_add, List.getElem?_cons_zero, List.getElem?_cons_succ, List.set_cons_zero, List.set_cons_succ, true_and, and_true, Int.toNat_natCast, if_true, if_false, Bool.false_eq_true, reduceCtorEq, ne_eq, not_false_eq_true, not_true_eq_false, decide_eq_true_eq, Bool.not_eq_true', decide_eq_false_iff_not, Option.bind_some, Option.map_some, $[$ls:term],*])
namespace DL
open PySem PySem.Spec PyProof.Rows L2
/-! P57: the defs of k57. -/
theorem InB.mono {b c : Int} {p : Int × Int} (h : InB b p) (hc : b ≤ c) : InB c p := by
  obtain ⟨h1, h2, h3, h4⟩ := h
  exact ⟨by omega, by omega, by omega, by omega⟩
def sp_squareW : DSp := fun ds DH Q => ∃ pl a b, ds = [.tup (pairsL pl), .int a, .int b] ∧ (∀ p ∈ pl, InB 1000000000000000 p) ∧ 0 ≤ a ∧ a < pl.length ∧ 0 ≤ b ∧ b < pl.length ∧ Q (.int (sq (pt pl a) (pt pl b))) DH
theorem squareW_ok {ds : List D} {DH : DHp} {Q : DK} (h : sp_squareW ds DH Q) : rd_square (bodyE Q) (dstart ["places", "a", "b"] ds) DH := by
  obtain ⟨pl, a, b, rfl, hb, a0, a1, b0, b1, h⟩ := h
  obtain ⟨u1, u2, u3, u4⟩ := hb _ (pt_mem a0 a1)
  obtain ⟨v1, v2, v3, v4⟩ := hb _ (pt_mem b0 b1)
  unfold rd_square
  have e0_ := atI_pt a0 a1
  have e1_ := atI_pt b0 b1
  unfold dd e0_ e1_ pairD pow_two
  exact ⟨powOk (by omega) (by omega), powOk (by omega) (by omega), DH, DSub.refl _, h⟩
theorem law_squareW_ok {ds : List D} {DH : DHp} {Q : DK} (h : sp_squareW ds DH Q) : rd_law_square (bodyE Q) (dstart ["places", "a", "b", "x", "y"] ds) DH := by
  obtain ⟨pl, a, b, rfl, hb, a0, a1, b0, b1, h⟩ := h
  obtain ⟨u1, u2, u3, u4⟩ := hb _ (pt_mem a0 a1)
  obtain ⟨v1, v2, v3, v4⟩ := hb _ (pt_mem b0 b1)
  unfold rd_law_square
  have e0_ := atI_pt a0 a1
  have e1_ := atI_pt b0 b1
  unfold dd e0_ e1_ pairD
  exact ⟨mulD_l (by omega) (by omega), mulD_l (by omega) (by omega), DH, DSub.refl _, h⟩
/-! ### mirrors -/
def dot (p q : Int × Int) : Int := p.1 * q.1 + p.2 * q.2
def sp_along : DSp := fun ds DH Q => ∃ p q, ds = [pairD p, pairD q] ∧ InB 1000000000 p ∧ Q (.int (dot p q)) DH
/-! ### along -/
def rd_along : DS :=
  (dRet (dOp rAddD (dOp rMulD (dOp rIxD (dVar 0) (dC (.int 0))) (dOp rIxD (dVar 1) (dC (.int 0)))) (dOp rMulD (dOp rIxD (dVar 0) (dC (.int 1))) (dOp rIxD (dVar 1) (dC (.int 1))))))
theorem along_ok {ds : List D} {DH : DHp} {Q : DK} (h : sp_along ds DH Q) : rd_along (bodyE Q) (dstart ["one", "other"] ds) DH := by
  obtain ⟨p, q, rfl, ⟨h1, h2, h3, h4⟩, h⟩ := h
  unfold rd_along
  unfold dd pairD
  exact ⟨mulD_l (by omega) (by omega), mulD_l (by omega) (by omega), DH, DSub.refl _, h⟩
def sp_taken_times : DSp := fun ds DH Q => ∃ p k, ds = [pairD p, .int k] ∧ InB 1000000000 p ∧ Q (pairD (k * p.1, k * p.2)) DH
/-! ### taken_times -/
def rd_taken_times : DS :=
  (dRet (dTup (dCons (dOp rMulD (dVar 1) (dOp rIxD (dVar 0) (dC (.int 0)))) (dCons (dOp rMulD (dVar 1) (dOp rIxD (dVar 0) (dC (.int 1)))) dNil))))
theorem taken_times_ok {ds : List D} {DH : DHp} {Q : DK} (h : sp_taken_times ds DH Q) : rd_taken_times (bodyE Q) (dstart ["place", "number"] ds) DH := by
  obtain ⟨p, k, rfl, ⟨h1, h2, h3, h4⟩, h⟩ := h
  unfold rd_taken_times
  unfold dd pairD
  exact ⟨mulD_r (by omega) (by omega), mulD_r (by omega) (by omega), by decide, DH, DSub.refl _, h⟩
/-- the mirror of P in the line through A and B, by the square of B - A -/
def mir (A B P : Int × Int) : Int × Int :=
  ((dot (sub2 A B) (sub2 A B) * A.1 + 2 * dot (sub2 A P) (sub2 A B) * (sub2 A B).1) - dot (sub2 A B) (sub2 A B) * (sub2 A P).1, (dot (sub2 A B) (sub2 A B) * A.2 + 2 * dot (sub2 A P) (sub2 A B) * (sub2 A B).2) - dot (sub2 A B) (sub2 A B) * (sub2 A P).2)
theorem sub_in {p q : Int × Int} (hp : InB 100000 p) (hq : InB 100000 q) : InB 1000000 (sub2 p q) := by
  obtain ⟨a, b, c, d⟩ := hp
  obtain ⟨a', b', c', d'⟩ := hq
  exact ⟨by show _ ≤ q.1 - p.1; omega, by show q.1 - p.1 ≤ _; omega, by show _ ≤ q.2 - p.2; omega, by show q.2 - p.2 ≤ _; omega⟩
def sp_mirrored : DSp := fun ds DH Q => ∃ pl j a b, ds = [.tup (pairsL pl), .int j, .int a, .int b] ∧ (∀ p ∈ pl, InB 100000 p) ∧ (0 ≤ a ∧ a < pl.length) ∧ (0 ≤ b ∧ b < pl.length) ∧ (0 ≤ j ∧ j < pl.length) ∧ Q (pairD (mir (pt pl a) (pt pl b) (pt pl j))) DH
/-! ### mirrored -/
def rd_mirrored : DS :=
  (dSeq (dPar 4 5 (dCons (dCB sp_led (dCons (dVar 0) (dCons (dVar 2) (dCons (dVar 3) dNil)))) (dCons (dCB sp_led (dCons (dVar 0) (dCons (dVar 2) (dCons (dVar 1) dNil)))) dNil)))
    (dSeq (dPar 6 7 (dCons (dCB sp_along (dCons (dVar 4) (dCons (dVar 4) dNil))) (dCons (dOp rMulD (dC (.int 2)) (dCB sp_along (dCons (dVar 5) (dCons (dVar 4) dNil)))) dNil)))
    (dSeq (dAsg (dCB sp_taken_times (dCons (dOp rIxD (dVar 0) (dVar 2)) (dCons (dVar 6) dNil))) (gN 8))
    (dRet (dTup (dCons (dOp (rIntD (fun _ _ => True) fun i j => .int (i - j)) (dOp rAddD (dOp rIxD (dVar 8) (dC (.int 0))) (dOp rMulD (dVar 7) (dOp rIxD (dVar 4) (dC (.int 0))))) (dOp rMulD (dVar 6) (dOp rIxD (dVar 5) (dC (.int 0))))) (dCons (dOp (rIntD (fun _ _ => True) fun i j => .int (i - j)) (dOp rAddD (dOp rIxD (dVar 8) (dC (.int 1))) (dOp rMulD (dVar 7) (dOp rIxD (dVar 4) (dC (.int 1))))) (dOp rMulD (dVar 6) (dOp rIxD (dVar 5) (dC (.int 1))))) dNil)))))))
theorem mirrored_ok {ds : List D} {DH : DHp} {Q : DK} (h : sp_mirrored ds DH Q) : rd_mirrored (bodyE Q) (dstart ["places", "joint", "a", "b", "base", "here", "by", "many", "corner"] ds) DH := by
  obtain ⟨pl, j, a, b, rfl, hb, ⟨a0, a1⟩, ⟨b0, b1⟩, ⟨j0, j1⟩, h⟩ := h
  have ia := hb _ (pt_mem a0 a1)
  have sb := sub_in ia (hb _ (pt_mem b0 b1))
  have sj := sub_in ia (hb _ (pt_mem j0 j1))
  obtain ⟨s1, s2, s3, s4⟩ := id sb
  obtain ⟨t1, t2, t3, t4⟩ := id sj
  unfold rd_mirrored
  unfold dd
  refine ⟨pl, a, b, rfl, a0, a1, b0, b1, ?_⟩
  unfold dd
  refine ⟨pl, a, j, rfl, a0, a1, j0, j1, ?_⟩
  unfold dd
  refine ⟨_, _, rfl, sb.mono (by decide), ?_⟩
  unfold dd
  refine ⟨_, _, rfl, sj.mono (by decide), ?_⟩
  have e0_ := atI_pt a0 a1
  unfold dd e0_
  refine ⟨mulD_l (by decide) (by decide), _, _, rfl, ia.mono (by decide), ?_⟩
  unfold dd pairD
  exact ⟨mulD_r (by omega) (by omega), mulD_r (by omega) (by omega), mulD_r (by omega) (by omega), mulD_r (by omega) (by omega), by decide, DH, DSub.refl _, h⟩
def sp_law_mirror : DSp := fun ds DH Q => ∃ pl a b j, ds = [.tup (pairsL pl), .int a, .int b, .int j] ∧ (∀ p ∈ pl, InB 100000 p) ∧ (0 ≤ a ∧ a < pl.length) ∧ (0 ≤ b ∧ b < pl.length) ∧ (0 ≤ j ∧ j < pl.length) ∧ Q (pairD (mir (pt pl a) (pt pl b) (pt pl j))) DH
/-! ### _law_mirror -/
def rd_law_mirror : DS :=
  (dSeq (dPar 4 5 (dCons (dOp (rIntD (fun _ _ => True) fun i j => .int (i - j)) (dOp rIxD (dOp rIxD (dVar 0) (dVar 2)) (dC (.int 0))) (dOp rIxD (dOp rIxD (dVar 0) (dVar 1)) (dC (.int 0)))) (dCons (dOp (rIntD (fun _ _ => True) fun i j => .int (i - j)) (dOp rIxD (dOp rIxD (dVar 0) (dVar 2)) (dC (.int 1))) (dOp rIxD (dOp rIxD (dVar 0) (dVar 1)) (dC (.int 1)))) dNil)))
    (dSeq (dPar 6 7 (dCons (dOp (rIntD (fun _ _ => True) fun i j => .int (i - j)) (dOp rIxD (dOp rIxD (dVar 0) (dVar 3)) (dC (.int 0))) (dOp rIxD (dOp rIxD (dVar 0) (dVar 1)) (dC (.int 0)))) (dCons (dOp (rIntD (fun _ _ => True) fun i j => .int (i - j)) (dOp rIxD (dOp rIxD (dVar 0) (dVar 3)) (dC (.int 1))) (dOp rIxD (dOp rIxD (dVar 0) (dVar 1)) (dC (.int 1)))) dNil)))
    (dSeq (dAsg (dOp rAddD (dOp rMulD (dVar 4) (dVar 4)) (dOp rMulD (dVar 5) (dVar 5))) (gN 8))
    (dSeq (dAsg (dTup (dCons (dOp rAddD (dOp rMulD (dOp (rIntD (fun _ _ => True) fun i j => .int (i - j)) (dOp rMulD (dVar 4) (dVar 4)) (dOp rMulD (dVar 5) (dVar 5))) (dVar 6)) (dOp rMulD (dOp rMulD (dOp rMulD (dC (.int 2)) (dVar 4)) (dVar 5)) (dVar 7))) (dCons (dOp rAddD (dOp rMulD (dOp rMulD (dOp rMulD (dC (.int 2)) (dVar 4)) (dVar 5)) (dVar 6)) (dOp rMulD (dOp (rIntD (fun _ _ => True) fun i j => .int (i - j)) (dOp rMulD (dVar 5) (dVar 5)) (dOp rMulD (dVar 4) (dVar 4))) (dVar 7))) dNil))) (gN 9))
    (dRet (dTup (dCons (dOp rAddD (dOp rMulD (dVar 8) (dOp rIxD (dOp rIxD (dVar 0) (dVar 1)) (dC (.int 0)))) (dOp rIxD (dVar 9) (dC (.int 0)))) (dCons (dOp rAddD (dOp rMulD (dVar 8) (dOp rIxD (dOp rIxD (dVar 0) (dVar 1)) (dC (.int 1)))) (dOp rIxD (dVar 9) (dC (.int 1)))) dNil))))))))
theorem mir_alt (A B P : Int × Int) : (((B.1 - A.1) * (B.1 - A.1) + (B.2 - A.2) * (B.2 - A.2)) * A.1 + (((B.1 - A.1) * (B.1 - A.1) - (B.2 - A.2) * (B.2 - A.2)) * (P.1 - A.1) + 2 * (B.1 - A.1) * (B.2 - A.2) * (P.2 - A.2)), ((B.1 - A.1) * (B.1 - A.1) + (B.2 - A.2) * (B.2 - A.2)) * A.2 + (2 * (B.1 - A.1) * (B.2 - A.2) * (P.1 - A.1) + ((B.2 - A.2) * (B.2 - A.2) - (B.1 - A.1) * (B.1 - A.1)) * (P.2 - A.2))) = mir A B P := by
  unfold mir dot sub2
  simp only
  generalize B.1 - A.1 = x
  generalize B.2 - A.2 = y
  generalize P.1 - A.1 = p
  generalize P.2 - A.2 = q
  refine Prod.ext ?_ ?_
  · simp only; grind
  · simp only; grind
theorem law_mirror_ok {ds : List D} {DH : DHp} {Q : DK} (h : sp_law_mirror ds DH Q) : rd_law_mirror (bodyE Q) (dstart ["places", "a", "b", "joint", "x", "y", "p", "q", "d", "turned"] ds) DH := by
  obtain ⟨pl, a, b, j, rfl, hb, ⟨a0, a1⟩, ⟨b0, b1⟩, ⟨j0, j1⟩, h⟩ := h
  obtain ⟨r1, r2, r3, r4⟩ := hb _ (pt_mem a0 a1)
  obtain ⟨s1, s2, s3, s4⟩ := hb _ (pt_mem b0 b1)
  obtain ⟨t1, t2, t3, t4⟩ := hb _ (pt_mem j0 j1)
  unfold rd_law_mirror
  have e0_ := atI_pt a0 a1
  have e1_ := atI_pt b0 b1
  have e2_ := atI_pt j0 j1
  unfold dd e0_ e1_ e2_ pairD
  rw [← mir_alt] at h
  refine ⟨mulD_r (by omega) (by omega), mulD_r (by omega) (by omega), mulD_r (by omega) (by omega), mulD_r (by omega) (by omega), mulD_r (by omega) (by omega), mulD_l (by decide) (by decide), mulD_r (by omega) (by omega), mulD_r (by omega) (by omega), mulD_l (by decide) (by decide), mulD_r (by omega) (by omega), mulD_r (by omega) (by omega), mulD_r (by omega) (by omega), mulD_r (by omega) (by omega), mulD_r (by omega) (by omega), by decide, mulD_r (by omega) (by omega), mulD_r (by omega) (by omega), by decide, DH, DSub.refl _, h⟩
def sp_law_is_off : DSp := fun ds DH Q => ∃ pl a b j, ds = [.tup (pairsL pl), .int a, .int b, .int j] ∧ (∀ p ∈ pl, InB 100000 p) ∧ (0 ≤ a ∧ a < pl.length) ∧ (0 ≤ b ∧ b < pl.length) ∧ (0 ≤ j ∧ j < pl.length) ∧ Q (.bl (!decide (crs (sub2 (pt pl a) (pt pl b)) (sub2 (pt pl a) (pt pl j)) = 0))) DH
/-! ### _law_is_off -/
def rd_law_is_off : DS :=
  (dSeq (dPar 4 5 (dCons (dOp (rIntD (fun _ _ => True) fun i j => .int (i - j)) (dOp rIxD (dOp rIxD (dVar 0) (dVar 2)) (dC (.int 0))) (dOp rIxD (dOp rIxD (dVar 0) (dVar 1)) (dC (.int 0)))) (dCons (dOp (rIntD (fun _ _ => True) fun i j => .int (i - j)) (dOp rIxD (dOp rIxD (dVar 0) (dVar 2)) (dC (.int 1))) (dOp rIxD (dOp rIxD (dVar 0) (dVar 1)) (dC (.int 1)))) dNil)))
    (dRet (dOp (rEqD true) (dOp rMulD (dVar 4) (dOp (rIntD (fun _ _ => True) fun i j => .int (i - j)) (dOp rIxD (dOp rIxD (dVar 0) (dVar 3)) (dC (.int 1))) (dOp rIxD (dOp rIxD (dVar 0) (dVar 1)) (dC (.int 1))))) (dOp rMulD (dVar 5) (dOp (rIntD (fun _ _ => True) fun i j => .int (i - j)) (dOp rIxD (dOp rIxD (dVar 0) (dVar 3)) (dC (.int 0))) (dOp rIxD (dOp rIxD (dVar 0) (dVar 1)) (dC (.int 0))))))))
theorem law_is_off_ok {ds : List D} {DH : DHp} {Q : DK} (h : sp_law_is_off ds DH Q) : rd_law_is_off (bodyE Q) (dstart ["places", "a", "b", "joint", "x", "y"] ds) DH := by
  obtain ⟨pl, a, b, j, rfl, hb, ⟨a0, a1⟩, ⟨b0, b1⟩, ⟨j0, j1⟩, h⟩ := h
  obtain ⟨r1, r2, r3, r4⟩ := hb _ (pt_mem a0 a1)
  obtain ⟨s1, s2, s3, s4⟩ := hb _ (pt_mem b0 b1)
  obtain ⟨t1, t2, t3, t4⟩ := hb _ (pt_mem j0 j1)
  unfold rd_law_is_off
  have e0_ := atI_pt a0 a1
  have e1_ := atI_pt b0 b1
  have e2_ := atI_pt j0 j1
  unfold dd e0_ e1_ e2_ pairD
  refine ⟨mulD_l (by omega) (by omega), mulD_l (by omega) (by omega), DH, DSub.refl _, ?_⟩
  have e : (crs (sub2 (pt pl a) (pt pl b)) (sub2 (pt pl a) (pt pl j)) = 0) ↔ ((pt pl b).1 - (pt pl a).1) * ((pt pl j).2 - (pt pl a).2) = ((pt pl b).2 - (pt pl a).2) * ((pt pl j).1 - (pt pl a).1) := by
    unfold crs sub2
    exact Int.sub_eq_zero
  rw [decide_eq_decide.mpr e] at h
  exact h
/-! ### the places of both -/
def lotD (lot : List Int) : D := .tup (lot.map D.int)
def partD (u v : Int) (lot : List Int) : D := .tup [.int u, .int v, lotD lot]
def scl (d : Int) (p : Int × Int) : Int × Int := (d * p.1, d * p.2)
def oneP (pl : List (Int × Int)) (u v : Int) : List (Int × Int) := pl.map (scl (dot (sub2 (pt pl u) (pt pl v)) (sub2 (pt pl u) (pt pl v))))
def othP (pl : List (Int × Int)) (u v : Int) (lot : List Int) : List (Int × Int) := (List.range pl.length).map fun k => if ((k : Nat) : Int) ∈ lot then mir (pt pl u) (pt pl v) (pt pl (k : Nat)) else pt (oneP pl u v) (k : Nat)
def sp_twin_places : DSp := fun ds DH Q => ∃ n rods pl u v lot, ds = [frameD n rods, .tup (pairsL pl), partD u v lot] ∧ (pl.length : Int) = n ∧ n ≤ 1000 ∧ (∀ p ∈ pl, InB 100000 p) ∧ (0 ≤ u ∧ u < n) ∧ (0 ≤ v ∧ v < n) ∧ Q (.tup [.tup (pairsL (oneP pl u v)), .tup (pairsL (othP pl u v lot))]) DH
/-! ### twin_places -/
def rd_twin_places : DS :=
  (dSeq (dAsg (dVar 2) (gT 3 (gConsD (gN 3) (gConsD (gN 4) (gConsD (gN 5) gNilD)))))
    (dSeq (dAsg (dCB sp_led (dCons (dVar 1) (dCons (dVar 3) (dCons (dVar 4) dNil)))) (gN 6))
    (dSeq (dAsg (dLc false (dISeq (dVar 1)) (gN 8) dYes (dCB sp_taken_times (dCons (dVar 8) (dCons (dCB sp_along (dCons (dVar 6) (dCons (dVar 6) dNil))) dNil))) [8]) (gN 7))
    (dSeq (dAsg (dLc false (dIRg1 (dCons (dOp rIxD (dVar 0) (dC (.int 0))) dNil)) (gN 10) dYes (dIf (dB (dOp (rInD false) (dVar 10) (dVar 5))) (dCB sp_mirrored (dCons (dVar 1) (dCons (dVar 10) (dCons (dVar 3) (dCons (dVar 4) dNil))))) (dOp rIxD (dVar 7) (dVar 10))) [10]) (gN 9))
    (dRet (dTup (dCons (dCB rTupD (dCons (dVar 7) dNil)) (dCons (dCB rTupD (dCons (dVar 9) dNil)) dNil))))))))
theorem oneP_length (pl : List (Int × Int)) (u v : Int) : (oneP pl u v).length = pl.length := by simp [oneP]
theorem othP_length (pl : List (Int × Int)) (u v : Int) (lot : List Int) : (othP pl u v lot).length = pl.length := by simp [othP]
theorem oth_map (pl : List (Int × Int)) (u v : Int) (lot : List Int) : (rgD 0 pl.length).map (fun x => match x with | .int k => pairD (if k ∈ lot then mir (pt pl u) (pt pl v) (pt pl k) else pt (oneP pl u v) k) | x => x) = pairsL (othP pl u v lot) := by
  unfold rgD pairsL othP
  rw [List.map_map, List.map_map]
  apply List.map_congr_left
  intro k _
  simp only [Function.comp, Int.zero_add]
theorem twin_places_ok {ds : List D} {DH : DHp} {Q : DK} (h : sp_twin_places ds DH Q) : rd_twin_places (bodyE Q) (dstart ["frame", "places", "parter", "a", "b", "lot", "base", "one", "place", "other", "joint"] ds) DH := by
  obtain ⟨n, rods, pl, u, v, lot, rfl, hn, hn2, hb, ⟨u0, u1⟩, ⟨v0, v1⟩, h⟩ := h
  have ub := hb _ (pt_mem u0 (by omega))
  have sb := sub_in ub (hb _ (pt_mem v0 (by omega)))
  unfold rd_twin_places
  unfold d3 frameD partD
  refine ⟨pl, u, v, rfl, u0, by omega, v0, by omega, ?_⟩
  unfold d3 pairsL_length
  refine ⟨size_leM (by omega), comp_map (fun x => match x with | .tup [.int a, .int b] => pairD (scl (dot (sub2 (pt pl u) (pt pl v)) (sub2 (pt pl u) (pt pl v))) (a, b)) | x => x) trivial _ _ (fun x hx Q q => ?_) ?_⟩
  · obtain ⟨w, hw, rfl⟩ := List.mem_map.mp hx
    unfold d3
    refine ⟨_, _, rfl, sb.mono (by decide), ?_⟩
    unfold d3
    exact ⟨w, _, rfl, (hb w hw).mono (by decide), q⟩
  have e1 : (pairsL pl).map (fun x => match x with | .tup [.int a, .int b] => pairD (scl (dot (sub2 (pt pl u) (pt pl v)) (sub2 (pt pl u) (pt pl v))) (a, b)) | x => x) = pairsL (oneP pl u v) := by
    unfold pairsL oneP
    rw [List.map_map, List.map_map]
    rfl
  rw [List.nil_append, e1]
  unfold d3
  have hN : n.toNat = pl.length := by omega
  refine ⟨⟨by omega, by omega⟩, by rw [rgD_length]; exact size_leM (by omega), comp_map (fun x => match x with | .int k => pairD (if k ∈ lot then mir (pt pl u) (pt pl v) (pt pl k) else pt (oneP pl u v) k) | x => x) trivial _ _ (fun x hx Q q => ?_) ?_⟩
  · obtain ⟨k, hk, rfl⟩ := rgD_mem hx
    rw [Int.zero_add] at *
    have k1 : ((k : Nat) : Int) < pl.length := by omega
    have e2_ := atI_pt (pl := oneP pl u v) (Int.natCast_nonneg k) (by rw [oneP_length]; exact k1)
    unfold d3 lotD rIn_TF e2_
    refine ite2 (fun z => ?_) fun z => ?_
    · refine ⟨pl, (k : Nat), u, v, rfl, hb, ⟨u0, by omega⟩, ⟨v0, by omega⟩, ⟨Int.natCast_nonneg k, k1⟩, ?_⟩
      simp only [z, if_true] at q
      exact q
    · simp only [z, if_false] at q
      exact q
  · rw [List.nil_append, hN, oth_map]
    unfold d3
    exact ⟨by decide, DH, DSub.refl _, h⟩
/-! ### the first pair of unlike squares -/
def unl (p1 p2 : List (Int × Int)) (q : Int × Int) : Bool := !decide (sq (pt p1 q.1) (pt p1 q.2) = sq (pt p2 q.1) (pt p2 q.2))
def foundD : Option (Int × Int) → D
  | some q => pairD q
  | none => .non
theorem range_split {k N : Nat} (h : k < N) : ∃ r, List.range N = List.range k ++ k :: r := by
  refine ⟨(List.range N).drop (k + 1), ?_⟩
  have e := List.take_append_drop k (List.range N)
  rw [List.drop_eq_getElem_cons (by rw [List.length_range]; exact h), List.getElem_range, List.take_range, Nat.min_eq_left (Nat.le_of_lt h)] at e
  exact e.symm
theorem allP_split {k : Nat} {n : Int} (h : k < n.toNat) : ∃ post, allP n = ((List.range k).flatMap fun a => rowP (a : Nat) n) ++ (rowP (k : Nat) n ++ post) := by
  obtain ⟨r, e⟩ := range_split h
  unfold allP
  rw [e, List.flatMap_append, List.flatMap_cons]
  exact ⟨_, rfl⟩
theorem row_split {k : Int} {n : Int} {j : Nat} (h : j < (n - (k + 1)).toNat) : ∃ post, rowP k n = ((List.range j).map fun b => (k, k + 1 + (b : Nat))) ++ (k, k + 1 + (j : Nat)) :: post := by
  obtain ⟨r, e⟩ := range_split h
  unfold rowP
  rw [e, List.map_append, List.map_cons]
  exact ⟨_, rfl⟩
theorem find_at {L pre post : List (Int × Int)} {q : Int × Int} {f : Int × Int → Bool} (e : L = pre ++ q :: post) (h : ∀ x ∈ pre, f x = false) (hq : f q = true) : L.find? f = some q := by
  rw [e, List.find?_append, List.find?_eq_none.mpr (fun x hx => by rw [h x hx]; decide), Option.none_or, List.find?_cons_of_pos hq]
def sp_unlike_pair : DSp := fun ds DH Q => ∃ p1 p2, ds = [.tup (pairsL p1), .tup (pairsL p2)] ∧ p1.length = p2.length ∧ p1.length ≤ 1000 ∧ (∀ p ∈ p1, InB 1000000000000000 p) ∧ (∀ p ∈ p2, InB 1000000000000000 p) ∧ Q (foundD ((allP p1.length).find? (unl p1 p2))) DH
/-! ### unlike_pair -/
def rd_unlike_pair : DS :=
  (dSeq (dFor (dIRg1 (dCons (dCB rLenD (dCons (dVar 0) dNil)) dNil)) (gN 2) (dFor (dIRg2 (dCons (dOp rAddD (dVar 2) (dC (.int 1))) (dCons (dCB rLenD (dCons (dVar 0) dNil)) dNil))) (gN 3) (dIfS (dB (dOp (rEqD true) (dCB sp_squareW (dCons (dVar 0) (dCons (dVar 2) (dCons (dVar 3) dNil)))) (dCB sp_squareW (dCons (dVar 1) (dCons (dVar 2) (dCons (dVar 3) dNil)))))) (dRet (dTup (dCons (dVar 2) (dCons (dVar 3) dNil)))) dNext)))
    (dRet (dC .non)))
theorem unlike_pair_ok {ds : List D} {DH : DHp} {Q : DK} (h : sp_unlike_pair ds DH Q) : rd_unlike_pair (bodyE Q) (dstart ["one", "other", "a", "b"] ds) DH := by
  obtain ⟨p1, p2, rfl, hl, hl2, hb1, hb2, h⟩ := h
  unfold rd_unlike_pair
  unfold d3 pairsL_length
  refine ⟨⟨by omega, by omega⟩, for_inv (fun xs τ H => DH = H ∧ ∃ k : Nat, k ≤ p1.length ∧ xs = rgD (k : Nat) (p1.length - k) ∧ (∀ q ∈ (List.range k).flatMap fun a => rowP (a : Nat) p1.length, unl p1 p2 q = false) ∧ ∃ c d, τ = [some (.tup (pairsL p1)), some (.tup (pairsL p2)), c, d]) ?_ ?_ _ _ _ ⟨rfl, 0, Nat.zero_le _, by simp, fun q hq => by simp at hq, none, none, rfl⟩⟩
  · rintro τ H ⟨rfl, k, hk, e, hf, c, d, rfl⟩
    have hk2 : k = p1.length := by
      have := congrArg List.length e
      rw [rgD_length] at this
      have : p1.length - k = 0 := by simpa using this.symm
      omega
    subst hk2
    have en : (allP p1.length).find? (unl p1 p2) = none := List.find?_eq_none.mpr fun q hq => by
      have : q ∈ (List.range p1.length).flatMap fun a => rowP (a : Nat) p1.length := by
        unfold allP at hq
        rw [Int.toNat_natCast] at hq
        exact hq
      rw [hf q this]
      decide
    rw [en] at h
    refine ⟨trivial, ?_⟩
    unfold d3
    exact ⟨DH, DSub.refl _, h⟩
  · rintro x r τ H ⟨rfl, k, hk, e, hf, c, d, rfl⟩
    have lt : k < p1.length := by
      rcases Nat.lt_or_ge k p1.length with z | z
      · exact z
      · rw [show p1.length - k = 0 by omega] at e
        cases e
    obtain ⟨m, hm⟩ : ∃ m, p1.length - k = m + 1 := ⟨p1.length - k - 1, by omega⟩
    rw [hm, rgD_cons] at e
    cases e
    refine ⟨trivial, fun E' hrt _ hE _ => ?_⟩
    obtain ⟨post, esp⟩ := allP_split (k := k) (n := p1.length) (by rw [Int.toNat_natCast]; exact lt)
    have em : ((p1.length : Int) - (((k : Nat) : Int) + 1)).toNat = m := by omega
    unfold d3 pairsL_length
    rw [em]
    refine ⟨⟨by omega, by omega, by omega, by omega⟩, for_inv (fun xs τ H => DH = H ∧ ∃ j : Nat, j ≤ m ∧ xs = rgD (((k : Nat) : Int) + 1 + (j : Nat)) (m - j) ∧ (∀ b : Nat, b < j → unl p1 p2 ((k : Nat), ((k : Nat) : Int) + 1 + (b : Nat)) = false) ∧ ∃ d, τ = [some (.tup (pairsL p1)), some (.tup (pairsL p2)), some (.int (k : Nat)), d]) ?_ ?_ _ _ _ ⟨rfl, 0, Nat.zero_le _, by simp, fun b hb => absurd hb (Nat.not_lt_zero _), _, rfl⟩⟩
    · rintro τ H ⟨rfl, j, hj, e, hg, d, rfl⟩
      have hj2 : j = m := by
        have := congrArg List.length e
        rw [rgD_length] at this
        have : m - j = 0 := by simpa using this.symm
        omega
      subst hj2
      refine ⟨trivial, hE _ _ ⟨rfl, k + 1, lt, by rw [show p1.length - (k + 1) = j by omega]; congr 1, fun q hq => ?_, _, _, rfl⟩⟩
      rw [List.range_succ, List.flatMap_append] at hq
      rcases List.mem_append.mp hq with hq | hq
      · exact hf q hq
      · simp only [List.flatMap_cons, List.flatMap_nil, List.append_nil] at hq
        unfold rowP at hq
        obtain ⟨b, hb, rfl⟩ := List.mem_map.mp hq
        exact hg b (by have := List.mem_range.mp hb; omega)
    · rintro y r τ H ⟨rfl, j, hj, e, hg, d, rfl⟩
      have lj : j < m := by
        rcases Nat.lt_or_ge j m with z | z
        · exact z
        · rw [show m - j = 0 by omega] at e
          cases e
      obtain ⟨m', hm'⟩ : ∃ m', m - j = m' + 1 := ⟨m - j - 1, by omega⟩
      rw [hm', rgD_cons] at e
      cases e
      refine ⟨trivial, fun E2 hrt2 _ hE2 _ => ?_⟩
      unfold d3
      refine ⟨p1, (k : Nat), _, rfl, hb1, by omega, by omega, by omega, by omega, ?_⟩
      unfold d3
      refine ⟨p2, (k : Nat), _, rfl, hb2, by omega, by omega, by omega, by omega, ?_⟩
      unfold d3
      refine ite2 (fun z => ?_) fun z => ?_
      · refine ⟨by decide, ?_⟩
        rw [hrt2]
        show E'.rt _ _
        rw [hrt]
        obtain ⟨post2, er⟩ := row_split (k := (k : Nat)) (n := p1.length) (j := j) (by omega)
        have ef : (allP p1.length).find? (unl p1 p2) = some (((k : Nat) : Int), ((k : Nat) : Int) + 1 + (j : Nat)) := by
          refine find_at (pre := ((List.range k).flatMap fun a => rowP (a : Nat) p1.length) ++ ((List.range j).map fun b => (((k : Nat) : Int), ((k : Nat) : Int) + 1 + (b : Nat)))) (post := post2 ++ post) ?_ ?_ ?_
          · rw [esp, er]
            simp
          · intro q hq
            rcases List.mem_append.mp hq with hq | hq
            · exact hf q hq
            · obtain ⟨b, hb, rfl⟩ := List.mem_map.mp hq
              exact hg b (List.mem_range.mp hb)
          · unfold unl
            simpa using z
        rw [ef] at h
        exact ⟨DH, DSub.refl _, h⟩
      · refine hE2 _ _ ⟨rfl, j + 1, lj, by rw [show m - (j + 1) = m' by omega]; congr 1, fun b hb => ?_, _, rfl⟩
        by_cases bj : b = j
        · subst bj
          unfold unl
          simpa using z
        · exact hg b (by omega)
abbrev sp_tells_unlike : DSp := sp_unlike_pair
/-! ### tells_unlike -/
def rd_tells_unlike : DS :=
  (dRet (dCB sp_unlike_pair (dCons (dVar 0) (dCons (dVar 1) dNil))))
theorem tells_unlike_ok {ds : List D} {DH : DHp} {Q : DK} (h : sp_unlike_pair ds DH Q) : rd_tells_unlike (bodyE Q) (dstart ["places", "other"] ds) DH := by
  obtain ⟨p1, p2, rfl, h⟩ := h
  unfold rd_tells_unlike
  unfold d3
  exact ⟨p1, p2, rfl, h.1, h.2.1, h.2.2.1, h.2.2.2.1, DH, DSub.refl _, h.2.2.2.2⟩
/-! ### parted frames -/
theorem pairs_snoc (ps : List (Int × Int)) (q : Int × Int) : pairsL ps ++ [pairD q] = pairsL (ps ++ [q]) := by simp [pairsL]
theorem allP_len' (n : Int) : (allP n).length ≤ n.toNat * n.toNat := by
  have := flat_le (fun a : Nat => rowP (a : Nat) n) n.toNat (fun a => by rw [rowP_length]; omega) (List.range n.toNat)
  rw [List.length_range] at this
  exact this
def toI : D → Int
  | .int i => i
  | _ => 0
theorem ints_perm {ys : List D} {N : Nat} (h : ys.Perm (rgD 0 N)) : ∃ ns : List Int, ys = ns.map D.int ∧ ns.Perm ((List.range N).map fun i => ((i : Nat) : Int)) := by
  refine ⟨ys.map toI, ?_, ?_⟩
  · rw [List.map_map]
    have : ∀ y ∈ ys, (D.int ∘ toI) y = y := fun y hy => by
      obtain ⟨i, _, rfl⟩ := rgD_mem (h.mem_iff.mp hy)
      rfl
    exact (List.map_id ys).symm.trans (List.map_congr_left fun y hy => (this y hy).symm)
  · have p := h.map toI
    have e : (rgD 0 N).map toI = (List.range N).map fun i => ((i : Nat) : Int) := by
      unfold rgD
      rw [List.map_map]
      apply List.map_congr_left
      intro i _
      simp [Function.comp, toI]
    rw [e] at p
    exact p
theorem names_facts {ns : List Int} {N : Nat} (h : ns.Perm ((List.range N).map fun i => ((i : Nat) : Int))) : ns.length = N ∧ ns.Nodup ∧ ∀ x, x ∈ ns ↔ 0 ≤ x ∧ x < N := by
  refine ⟨by rw [h.length_eq]; simp, ?_, fun x => ?_⟩
  · refine h.nodup_iff.mpr ?_
    have : List.Pairwise (fun a b : Int => a ≠ b) ((List.range N).map fun i => ((i : Nat) : Int)) := by
      refine List.pairwise_map.mpr (List.nodup_range.imp fun {a b} z => ?_)
      omega
    exact this
  · rw [h.mem_iff, List.mem_map]
    constructor
    · rintro ⟨i, hi, rfl⟩
      have := List.mem_range.mp hi
      omega
    · rintro ⟨h0, h1⟩
      exact ⟨x.toNat, List.mem_range.mpr (by omega), by omega⟩
/-- one of the two alone is in the lot, and none of them parts -/
def Acr (lot : List Int) (u v : Int) (q : Int × Int) : Prop := ¬ (q.1 ∈ lot ↔ q.2 ∈ lot) ∧ (q.1 ≠ u ∧ q.1 ≠ v) ∧ (q.2 ≠ u ∧ q.2 ≠ v)
def sp_law_parted : DSp := fun ds DH Q => ∃ a, ds = [.ref a] ∧ DH a = some .src ∧ ∀ n rods u v lot, 4 ≤ n → n ≤ 8 → 0 ≤ u → u < v → v < n → (∀ x ∈ lot, 0 ≤ x ∧ x < n ∧ x ≠ u ∧ x ≠ v) → lot.length ≤ 8 → rods.length ≤ 64 → (∀ q ∈ rods, q ∈ allP n ∧ ¬ Acr lot u v q) → Q (.tup [frameD n rods, partD u v lot]) DH
/-! ### _law_parted -/
def rd_law_parted : DS :=
  (dSeq (dAsg (dOp rAddD (dC (.int 4)) (dCB sp_law_pick (dCons (dVar 0) (dCons (dC (.int 5)) dNil)))) (gN 1))
    (dSeq (dAsg (dOp rAddD (dC (.int 1)) (dCB sp_law_pick (dCons (dVar 0) (dCons (dOp (rIntD (fun _ _ => True) fun i j => .int (i - j)) (dVar 1) (dC (.int 3))) dNil)))) (gN 2))
    (dSeq (dAsg (dCB sp_law_mixed (dCons (dVar 0) (dCons (dLstRg1 false (dVar 1)) dNil))) (gN 3))
    (dSeq (dPar3 4 5 6 (dCons (dSl (rSlD false) (dVar 3) (dPart (dC (.int 2))) (dPart (dOp rAddD (dC (.int 2)) (dVar 2)))) (dCons (dSl (rSlD false) (dVar 3) (dPart (dOp rAddD (dC (.int 2)) (dVar 2))) dNoPart) (dCons (dLst dNil) dNil))))
    (dSeq (dFor (dISeq (dCB sp_law_pairs (dCons (dVar 1) dNil))) (gT 2 (gConsD (gN 7) (gConsD (gN 8) gNilD))) (dSeq (dAsg (dOrV (dAndV (dOp (rInD false) (dVar 7) (dVar 4)) (dOp (rInD false) (dVar 8) (dVar 5))) (dAndV (dOp (rInD false) (dVar 7) (dVar 5)) (dOp (rInD false) (dVar 8) (dVar 4)))) (gN 9))
    (dAsg (dOp rAddD (dVar 6) (dIf (dAnd (dNot (dB (dVar 9))) (dB (dOp (rIntD (fun _ _ => True) fun i j => .bl (decide (j < i))) (dCB sp_law_pick (dCons (dVar 0) (dCons (dC (.int 4)) dNil))) (dC (.int 0))))) (dLst (dCons (dTup (dCons (dVar 7) (dCons (dVar 8) dNil))) dNil)) (dLst dNil))) (gN 6))))
    (dRet (dTup (dCons (dTup (dCons (dVar 1) (dCons (dCB rTupD (dCons (dVar 6) dNil)) dNil))) (dCons (dTup (dCons (dCB rMinL (dCons (dSl (rSlD false) (dVar 3) dNoPart (dPart (dC (.int 2)))) dNil)) (dCons (dCB rMaxL (dCons (dSl (rSlD false) (dVar 3) dNoPart (dPart (dC (.int 2)))) dNil)) (dCons (dCB rTupD (dCons (dCB (rSortD false) (dCons (dVar 4) dNil)) dNil)) dNil)))) dNil)))))))))
theorem law_parted_ok {ds : List D} {DH : DHp} {Q : DK} (h : sp_law_parted ds DH Q) : rd_law_parted (bodyE Q) (dstart ["source", "n", "k", "names", "one", "other", "rods", "a", "b", "is_across"] ds) DH := by
  obtain ⟨a, rfl, ha, h⟩ := h
  unfold rd_law_parted
  unfold d3
  refine ⟨a, _, rfl, ha, by decide, fun k5 k0 k1 => ?_⟩
  unfold d3
  refine ⟨a, _, rfl, ha, by omega, fun kk j0 j1 => ?_⟩
  obtain ⟨n, hn, n4, n8⟩ : ∃ n, 4 + k5 = n ∧ 4 ≤ n ∧ n ≤ 8 := ⟨_, rfl, by omega, by omega⟩
  obtain ⟨N, rfl⟩ := Int.eq_ofNat_of_zero_le (show 0 ≤ n by omega)
  obtain ⟨j, rfl⟩ := Int.eq_ofNat_of_zero_le j0
  have jb : j + 4 ≤ N := by omega
  unfold d3 hn
  refine ⟨⟨by omega, by omega⟩, a, _, _, rfl, ha, rfl, by rw [rgD_length]; omega, fun ys hy => ?_⟩
  obtain ⟨ns, rfl, hns⟩ := ints_perm hy
  obtain ⟨nl, nd, nm⟩ := names_facts hns
  match ns, nl, nd, nm with
  | [], nl, _, _ => simp at nl; omega
  | [_], nl, _, _ => simp at nl; omega
  | x0 :: x1 :: rest, nl, nd, nm =>
    simp only [List.length_cons] at nl
    have c1 : cutD (D.int x0 :: D.int x1 :: rest.map D.int) (some 2) (some (2 + (1 + ((j : Nat) : Int)))) = (rest.take (1 + j)).map D.int := by
      have := cut_mid (D.int x0 :: D.int x1 :: rest.map D.int) 2 (2 + (1 + j)) (by omega) (by simp only [List.length_cons, List.length_map]; omega)
      rw [show ((2 + (1 + j) : Nat) : Int) = 2 + (1 + ((j : Nat) : Int)) by omega] at this
      rw [show ((2 : Nat) : Int) = 2 from rfl] at this
      rw [this, show 2 + (1 + j) - 2 = 1 + j by omega]
      simp [List.map_take]
    have c2 : cutD (D.int x0 :: D.int x1 :: rest.map D.int) (some (2 + (1 + ((j : Nat) : Int)))) none = (rest.drop (1 + j)).map D.int := by
      have := cut_from (D.int x0 :: D.int x1 :: rest.map D.int) (2 + (1 + j))
      rw [show ((2 + (1 + j) : Nat) : Int) = 2 + (1 + ((j : Nat) : Int)) by omega] at this
      rw [this, show 2 + (1 + j) = (1 + j) + 1 + 1 by omega]
      simp [List.map_drop]
    have c3 : cutD (D.int x0 :: D.int x1 :: rest.map D.int) none (some 2) = [D.int x0, D.int x1] := by
      have := cut_to (D.int x0 :: D.int x1 :: rest.map D.int) 2
      rw [show ((2 : Nat) : Int) = 2 from rfl] at this
      rw [this]
      rfl
    unfold d3 c1 c2 c3
    refine ⟨by decide, (N : Nat), rfl, by omega, by omega, ?_⟩
    unfold d3
    generalize hone : rest.take (1 + j) = one at *
    generalize hoth : rest.drop (1 + j) = oth at *
    have er : rest = one ++ oth := by rw [← hone, ← hoth, List.take_append_drop]
    refine for_inv (fun xs τ H => DH = H ∧ ∃ L done rods, xs = pairsL L ∧ allP N = done ++ L ∧ (∀ q ∈ rods, q ∈ allP N ∧ ¬ ((q.1 ∈ one ∧ q.2 ∈ oth) ∨ (q.1 ∈ oth ∧ q.2 ∈ one))) ∧ rods.length ≤ done.length ∧
      ∃ c7 c8 c9, τ = [some (.ref a), some (.int (N : Nat)), some (.int (1 + ((j : Nat) : Int))), some (.lst (D.int x0 :: D.int x1 :: rest.map D.int)), some (.lst (one.map D.int)), some (.lst (oth.map D.int)), some (.lst (pairsL rods)), c7, c8, c9]) ?_ ?_ _ _ _ ⟨rfl, _, [], [], rfl, rfl, fun q hq => by simp at hq, Nat.le_refl _, _, _, _, rfl⟩
    · rintro τ H ⟨rfl, L, done, rods, e1, e2, hr, hl, c7, c8, c9, rfl⟩
      refine ⟨trivial, ?_⟩
      have ei : ints? [D.int x0, D.int x1] = some [x0, x1] := rfl
      have e3 : L = [] := by
        cases L with
        | nil => rfl
        | cons q L => cases e1
      subst e3
      rw [List.append_nil] at e2
      unfold d3 c3 ei
      refine ⟨by decide, by decide, fun m m0 m1 => ⟨by decide, fun M M0 M1 ls hls _ => ⟨by decide, by decide, DH, DSub.refl _, ?_⟩⟩⟩
      have d01 : x0 ≠ x1 := fun z => by
        subst z
        simp at nd
      have nr : x0 ∉ rest ∧ x1 ∉ rest := by
        simp only [List.nodup_cons, List.mem_cons, not_or] at nd
        exact ⟨nd.1.2, nd.2.1⟩
      have m0' : m = x0 ∨ m = x1 := by simpa using m0
      have M0' : M = x0 ∨ M = x1 := by simpa using M0
      have a1 := m1 x0 (by simp)
      have a2 := m1 x1 (by simp)
      have a3 := M1 x0 (by simp)
      have a4 := M1 x1 (by simp)
      have b0 := (nm x0).mp (by simp)
      have b1 := (nm x1).mp (by simp)
      have uv : (m = x0 ∧ M = x1) ∨ (m = x1 ∧ M = x0) := by omega
      have inl : ∀ x, x ∈ ls ↔ x ∈ one := fun x => hls.mem_iff
      have ll : ls.length ≤ 6 := by
        rw [hls.length_eq]
        have := congrArg List.length er
        rw [List.length_append] at this
        omega
      refine h N rods m M ls n4 n8 (by omega) (by omega) (by omega) (fun x hx => ?_) (by omega) ?_ (fun q hq => ⟨(hr q hq).1, fun ac => (hr q hq).2 ?_⟩)
      · have hx1 : x ∈ rest := by rw [er]; exact List.mem_append_left _ ((inl x).mp hx)
        have := (nm x).mp (by simp [hx1])
        have z0 : x ≠ x0 := fun z => nr.1 (z ▸ hx1)
        have z1 : x ≠ x1 := fun z => nr.2 (z ▸ hx1)
        exact ⟨by omega, by omega, by omega, by omega⟩
      · have l1 := allP_len' (N : Int)
        have l2 : (((N : Nat) : Int).toNat) * (((N : Nat) : Int).toNat) ≤ 8 * 8 := Nat.mul_le_mul (by omega) (by omega)
        rw [e2] at l1
        omega
      · obtain ⟨g1, g2, g3⟩ := ac
        have hq2 := mem_allP (hr q hq).1
        have r1 : q.1 ∈ one ∨ q.1 ∈ oth := by
          have : q.1 ∈ x0 :: x1 :: rest := (nm q.1).mpr ⟨by omega, by omega⟩
          rw [List.mem_cons, List.mem_cons, er, List.mem_append] at this
          rcases this with z | z | z
          · omega
          · omega
          · exact z
        have r2 : q.2 ∈ one ∨ q.2 ∈ oth := by
          have : q.2 ∈ x0 :: x1 :: rest := (nm q.2).mpr ⟨by omega, by omega⟩
          rw [List.mem_cons, List.mem_cons, er, List.mem_append] at this
          rcases this with z | z | z
          · omega
          · omega
          · exact z
        rw [inl, inl] at g1
        by_cases k1 : q.1 ∈ one
        · by_cases k2 : q.2 ∈ one
          · exact absurd ⟨fun _ => k2, fun _ => k1⟩ g1
          · exact .inl ⟨k1, r2.resolve_left k2⟩
        · by_cases k2 : q.2 ∈ one
          · exact .inr ⟨r1.resolve_left k1, k2⟩
          · exact absurd ⟨fun z => absurd z k1, fun z => absurd z k2⟩ g1
    · rintro x r τ H ⟨rfl, L, done, rods, e1, e2, hr, hl, c7, c8, c9, rfl⟩
      cases L with
      | nil => cases e1
      | cons q L =>
        cases e1
        refine ⟨trivial, fun E' _ _ hE _ => ?_⟩
        have lr : (pairsL rods).length + 1 ≤ sizeLine := by
          have l1 := allP_len' (N : Int)
          have l2 : (((N : Nat) : Int).toNat) * (((N : Nat) : Int).toNat) ≤ 8 * 8 := Nat.mul_le_mul (by omega) (by omega)
          rw [e2, List.length_append] at l1
          rw [pairsL_length]
          exact size_leM (by omega)
        have qin : q ∈ allP N := by rw [e2]; simp
        have keep : ∀ c9, 0 ≤ sizeLine ∧ (pairsL rods).length + 0 ≤ sizeLine ∧ E'.nx [some (.ref a), some (.int (N : Nat)), some (.int (1 + ((j : Nat) : Int))), some (.lst (D.int x0 :: D.int x1 :: rest.map D.int)), some (.lst (one.map D.int)), some (.lst (oth.map D.int)), some (.lst (pairsL rods ++ [])), some (.int q.1), some (.int q.2), c9] DH := fun c9 =>
          ⟨by decide, Nat.le_trans (Nat.le_succ _) lr, hE _ _ ⟨rfl, L, done ++ [q], rods, rfl, by rw [e2]; simp, hr, by rw [List.length_append]; omega, _, _, _, by rw [List.append_nil]⟩⟩
        have addQ : ¬ ((q.1 ∈ one ∧ q.2 ∈ oth) ∨ (q.1 ∈ oth ∧ q.2 ∈ one)) → ∀ c9, E'.nx [some (.ref a), some (.int (N : Nat)), some (.int (1 + ((j : Nat) : Int))), some (.lst (D.int x0 :: D.int x1 :: rest.map D.int)), some (.lst (one.map D.int)), some (.lst (oth.map D.int)), some (.lst (pairsL rods ++ [pairD q])), some (.int q.1), some (.int q.2), c9] DH := fun nq c9 =>
          hE _ _ ⟨rfl, L, done ++ [q], rods ++ [q], rfl, by rw [e2]; simp, fun w hw => by
            rcases List.mem_append.mp hw with hw | hw
            · exact hr w hw
            · rw [List.mem_singleton.mp hw]; exact ⟨qin, nq⟩, by rw [List.length_append, List.length_append]; simp only [List.length_cons, List.length_nil]; omega, _, _, _, by rw [pairs_snoc]⟩
        have pick : ¬ ((q.1 ∈ one ∧ q.2 ∈ oth) ∨ (q.1 ∈ oth ∧ q.2 ∈ one)) → ∀ c9, sp_law_pick [.ref a, .int 4] DH fun x H1 => match x, D.int 0 with
            | .int i, .int j_1 => if j_1 < i then 2 ≤ sizeLine ∧ 1 ≤ sizeLine ∧ (pairsL rods).length + 1 ≤ sizeLine ∧ E'.nx [some (.ref a), some (.int (N : Nat)), some (.int (1 + ((j : Nat) : Int))), some (.lst (D.int x0 :: D.int x1 :: rest.map D.int)), some (.lst (one.map D.int)), some (.lst (oth.map D.int)), some (.lst (pairsL rods ++ [.tup [.int q.1, .int q.2]])), some (.int q.1), some (.int q.2), c9] H1
              else 0 ≤ sizeLine ∧ (pairsL rods).length + 0 ≤ sizeLine ∧ E'.nx [some (.ref a), some (.int (N : Nat)), some (.int (1 + ((j : Nat) : Int))), some (.lst (D.int x0 :: D.int x1 :: rest.map D.int)), some (.lst (one.map D.int)), some (.lst (oth.map D.int)), some (.lst (pairsL rods ++ [])), some (.int q.1), some (.int q.2), c9] H1
            | _, _ => False := fun nq c9 =>
          ⟨a, _, rfl, ha, by decide, fun i i0 i1 => ite2 (fun _ => ⟨by decide, by decide, lr, addQ nq c9⟩) fun _ => keep c9⟩
        unfold d3 pairD rIn_LF
        refine ite2 (fun h1 => ite2 (fun h2 => keep _) fun h2 => ite2 (fun h3 => ite2 (fun h4 => ?_) fun h4 => keep _) fun h3 => ?_) fun h1 => ite2 (fun h3 => ite2 (fun h4 => ?_) fun h4 => keep _) fun h3 => ?_
        · exact pick (fun z => by rcases z with z | z; exact h2 z.2; exact h4 z.2) _
        · exact pick (fun z => by rcases z with z | z; exact h2 z.2; exact h3 z.1) _
        · exact pick (fun z => by rcases z with z | z; exact h1 z.1; exact h4 z.2) _
        · exact pick (fun z => by rcases z with z | z; exact h1 z.1; exact h3 z.1) _
end DL

local macro_rules
  | `(tactic| unfold dd $ls*) => `(tactic| try simp only [↓DL.dVar_e, ↓DL.dC_e, ↓DL.dOp_e, ↓DL.dUn_e, ↓DL.dB_e, ↓DL.dChain_e, ↓DL.dAnd_e, ↓DL.dOr_e, ↓DL.dNot_e, ↓DL.dAndV_e, ↓DL.dOrV_e, ↓DL.dNotV_e, ↓DL.dIf_e, ↓DL.dNil_e, ↓DL.dCons_e, ↓DL.dTup_e, ↓DL.dLst_e, ↓DL.dCB_e, ↓DL.dNext_e, ↓DL.dSeq_e, ↓DL.dCont_e, ↓DL.dBreak_e, ↓DL.dDrop_e, ↓DL.dRet_e, ↓DL.dRetN_e, ↓DL.dIfS_e, ↓DL.gN_e, ↓DL.gNilD_e, ↓DL.gConsD_e, ↓DL.gT_e, ↓DL.dAsg_e, ↓DL.dPar_e, ↓DL.dPar3_e, ↓DL.dYes_e, ↓DL.dISeq_e, ↓DL.dIRg1_e, ↓DL.dIRg2_e, ↓DL.dIEnum_e, ↓DL.dIZip_e, ↓DL.rIntD_e, ↓DL.rNegD_e, ↓DL.rEq_intF, ↓DL.rEq_intT, ↓DL.rAddD_e, ↓DL.rMulD_e, ↓DL.rIxD_e, ↓DL.rI1_e, ↓DL.rI2_e, ↓DL.rIntCD_e, ↓DL.rSumD_e, ↓DL.rAllD_e, ↓DL.rIsiD_e, ↓DL.rLenD_e, ↓DL.rTupD_e, ↓DL.rLstD_e, ↓DL.rIsN_e, ↓DL.rSlD_e, ↓DL.dSl_e, ↓DL.dNoPart_e, ↓DL.dPart_e, ↓DL.dRev_e, ↓DL.dGet_e, ↓DL.dIn_e, ↓DL.dStore_e, ↓DL.dBM0_e, ↓DL.dBM_e, ↓DL.dDisp_e, ↓DL.mAppend_e, ↓DL.mPop_e, ↓DL.dNewK_e, ↓DL.dNewT_e, ↓DL.dLstM_e, ↓DL.dFrz_e, ↓DL.rReprD_e, ↓DL.rNeS_e, ↓DL.rEqS_e, ↓DL.asB_e, ↓DL.walkD_e, ↓DL.lookD_e, ↓DL.storeD_e, ↓DL.ofTy_e, ↓DL.onLst_e, DL.bodyE, DL.dstart, DL.dPairs, DL.dwipe, DL.keysOf, DL.keyD, DL.isNon, DL.peek_int, DL.peek_bl, DL.peek_non, DL.peek_str, DL.peek_tup, DL.peek_lst, DL.seqOf_tup, DL.seqOf_lst, DL.listOf_lst, DL.tyOf, DL.isTy, DL.atI0, DL.atI1, DL.atI2, DL.atI3, DL.atI4, DL.atI5, DL.dupd_same, DL.dupd_dupd, List.map_cons, List.map_nil, List.length_cons, List.length_nil, List.cons_append, List.nil_append, List.replicate_succ, List.replicate_zero, Nat.reduceAdd, Nat.reduceSub, Nat.zero_add, List.getElem?_cons_zero, List.getElem?_cons_succ, List.set_cons_zero, List.set_cons_succ, true_and, and_true, Int.toNat_natCast, if_true, if_false, Bool.false_eq_true, reduceCtorEq, ne_eq, not_false_eq_true, not_true_eq_false, decide_eq_true_eq, Bool.not_eq_true', decide_eq_false_iff_not, Option.bind_some, Option.map_some, $[$ls:term],*])
local macro_rules
  | `(tactic| unfold d2 $ls*) => `(tactic| try simp only [↓DL.dFor_e, ↓DL.dLc_e, ↓DL.dVar_e, ↓DL.dC_e, ↓DL.dOp_e, ↓DL.dUn_e, ↓DL.dB_e, ↓DL.dChain_e, ↓DL.dAnd_e, ↓DL.dOr_e, ↓DL.dNot_e, ↓DL.dAndV_e, ↓DL.dOrV_e, ↓DL.dNotV_e, ↓DL.dIf_e, ↓DL.dNil_e, ↓DL.dCons_e, ↓DL.dTup_e, ↓DL.dLst_e, ↓DL.dCB_e, ↓DL.dNext_e, ↓DL.dSeq_e, ↓DL.dCont_e, ↓DL.dBreak_e, ↓DL.dDrop_e, ↓DL.dRet_e, ↓DL.dRetN_e, ↓DL.dIfS_e, ↓DL.gN_e, ↓DL.gNilD_e, ↓DL.gConsD_e, ↓DL.gT_e, ↓DL.dAsg_e, ↓DL.dPar_e, ↓DL.dPar3_e, ↓DL.dYes_e, ↓DL.dISeq_e, ↓DL.dIRg1_e, ↓DL.dIRg2_e, ↓DL.dIEnum_e, ↓DL.dIZip_e, ↓DL.rIntD_e, ↓DL.rNegD_e, ↓DL.rEq_intF, ↓DL.rEq_intT, ↓DL.rAddD_e, ↓DL.rMulD_e, ↓DL.rIxD_e, ↓DL.rI1_e, ↓DL.rI2_e, ↓DL.rIntCD_e, ↓DL.rSumD_e, ↓DL.rAllD_e, ↓DL.rIsiD_e, ↓DL.rLenD_e, ↓DL.rTupD_e, ↓DL.rLstD_e, ↓DL.rIsN_e, ↓DL.rSlD_e, ↓DL.dSl_e, ↓DL.dNoPart_e, ↓DL.dPart_e, ↓DL.dRev_e, ↓DL.dGet_e, ↓DL.dIn_e, ↓DL.dStore_e, ↓DL.dBM0_e, ↓DL.dBM_e, ↓DL.dDisp_e, ↓DL.mAppend_e, ↓DL.mPop_e, ↓DL.dNewK_e, ↓DL.dNewT_e, ↓DL.dLstM_e, ↓DL.dFrz_e, ↓DL.rReprD_e, ↓DL.rNeS_e, ↓DL.rEqS_e, ↓DL.asB_e, ↓DL.walkD_e, ↓DL.lookD_e, ↓DL.storeD_e, ↓DL.ofTy_e, ↓DL.onLst_e, DL.bodyE, DL.dstart, DL.dPairs, DL.dwipe, DL.keysOf, DL.keyD, DL.isNon, DL.peek_int, DL.peek_bl, DL.peek_non, DL.peek_str, DL.peek_tup, DL.peek_lst, DL.seqOf_tup, DL.seqOf_lst, DL.listOf_lst, DL.tyOf, DL.isTy, DL.atI0, DL.atI1, DL.atI2, DL.atI3, DL.atI4, DL.atI5, DL.dupd_same, DL.dupd_dupd, List.map_cons, List.map_nil, List.length_cons, List.length_nil, List.cons_append, List.nil_append, List.replicate_succ, List.replicate_zero, Nat.reduceAdd, Nat.reduceSub, Nat.zero_add, List.getElem?_cons_zero, List.getElem?_cons_succ, List.set_cons_zero, List.set_cons_succ, true_and, and_true, Int.toNat_natCast, if_true, if_false, Bool.false_eq_true, reduceCtorEq, ne_eq, not_false_eq_true, not_true_eq_false, decide_eq_true_eq, Bool.not_eq_true', decide_eq_false_iff_not, Option.bind_some, Option.map_some, $[$ls:term],*])
local macro_rules
  | `(tactic| unfold d3 $ls*) => `(tactic| try simp only [↓DL.dLstRg1_e, ↓DL.dLstRg2_e, ↓DL.rSortD_e, ↓DL.rMaxL_e, ↓DL.rMinL_e, ↓DL.tell_F, ↓DL.tell_T, DL.ints_map, DL.bls_map, DL.pairs_map, ↓DL.dFor_e, ↓DL.dLc_e, ↓DL.dVar_e, ↓DL.dC_e, ↓DL.dOp_e, ↓DL.dUn_e, ↓DL.dB_e, ↓DL.dChain_e, ↓DL.dAnd_e, ↓DL.dOr_e, ↓DL.dNot_e, ↓DL.dAndV_e, ↓DL.dOrV_e, ↓DL.dNotV_e, ↓DL.dIf_e, ↓DL.dNil_e, ↓DL.dCons_e, ↓DL.dTup_e, ↓DL.dLst_e, ↓DL.dCB_e, ↓DL.dNext_e, ↓DL.dSeq_e, ↓DL.dCont_e, ↓DL.dBreak_e, ↓DL.dDrop_e, ↓DL.dRet_e, ↓DL.dRetN_e, ↓DL.dIfS_e, ↓DL.gN_e, ↓DL.gNilD_e, ↓DL.gConsD_e, ↓DL.gT_e, ↓DL.dAsg_e, ↓DL.dPar_e, ↓DL.dPar3_e, ↓DL.dYes_e, ↓DL.dISeq_e, ↓DL.dIRg1_e, ↓DL.dIRg2_e, ↓DL.dIEnum_e, ↓DL.dIZip_e, ↓DL.rIntD_e, ↓DL.rNegD_e, ↓DL.rEq_intF, ↓DL.rEq_intT, ↓DL.rAddD_e, ↓DL.rMulD_e, ↓DL.rIxD_e, ↓DL.rI1_e, ↓DL.rI2_e, ↓DL.rIntCD_e, ↓DL.rSumD_e, ↓DL.rAllD_e, ↓DL.rIsiD_e, ↓DL.rLenD_e, ↓DL.rTupD_e, ↓DL.rLstD_e, ↓DL.rIsN_e, ↓DL.rSlD_e, ↓DL.dSl_e, ↓DL.dNoPart_e, ↓DL.dPart_e, ↓DL.dRev_e, ↓DL.dGet_e, ↓DL.dIn_e, ↓DL.dStore_e, ↓DL.dBM0_e, ↓DL.dBM_e, ↓DL.dDisp_e, ↓DL.mAppend_e, ↓DL.mPop_e, ↓DL.dNewK_e, ↓DL.dNewT_e, ↓DL.dLstM_e, ↓DL.dFrz_e, ↓DL.rReprD_e, ↓DL.rNeS_e, ↓DL.rEqS_e, ↓DL.asB_e, ↓DL.walkD_e, ↓DL.lookD_e, ↓DL.storeD_e, ↓DL.ofTy_e, ↓DL.onLst_e, DL.bodyE, DL.dstart, DL.dPairs, DL.dwipe, DL.keysOf, DL.keyD, DL.isNon, DL.peek_int, DL.peek_bl, DL.peek_non, DL.peek_str, DL.peek_tup, DL.peek_lst, DL.seqOf_tup, DL.seqOf_lst, DL.listOf_lst, DL.tyOf, DL.isTy, DL.atI0, DL.atI1, DL.atI2, DL.atI3, DL.atI4, DL.atI5, DL.dupd_same, DL.dupd_dupd, List.map_cons, List.map_nil, List.length_cons, List.length_nil, List.cons_append, List.nil_append, List.replicate_succ, List.replicate_zero, Nat.reduceAdd, Nat.reduceSub, Nat.zero_add, List.getElem?_cons_zero, List.getElem?_cons_succ, List.set_cons_zero, List.set_cons_succ, true_and, and_true, Int.toNat_natCast, if_true, if_false, Bool.false_eq_true, reduceCtorEq, ne_eq, not_false_eq_true, not_true_eq_false, decide_eq_true_eq, Bool.not_eq_true', decide_eq_false_iff_not, Option.bind_some, Option.map_some, $[$ls:term],*])
namespace DL
open PySem PySem.Spec PyProof.Rows L2
/-! P04: the defs of k04. -/
/-! ### the first that holds -/
def firstI (n : Nat) (f : Int → Bool) : Option Int := ((List.range n).map fun i => ((i : Nat) : Int)).find? f
def optD : Option Int → D
  | some i => .int i
  | none => .non
theorem head_first {p : D → Bool} {n : Nat} {f : Int → Bool} (hp : ∀ i : Int, p (.int i) = f i) {Q : D → Prop} (h : Q (optD (firstI n f))) :
    if ((rgD 0 n).filter p).isEmpty = false then (match atI ((rgD 0 n).filter p) 0 with | some d => Q d | none => False) else Q .non := by
  have e : (rgD 0 n).filter p = (((List.range n).map fun i => ((i : Nat) : Int)).filter f).map D.int := by
    have e1 : rgD 0 n = ((List.range n).map fun i => ((i : Nat) : Int)).map D.int := by
      unfold rgD
      rw [List.map_map]
      apply List.map_congr_left
      intro i _
      simp [Function.comp]
    rw [e1, List.filter_map]
    congr 1
    apply List.filter_congr
    intro i _
    exact hp i
  rw [e]
  unfold firstI at h
  rw [← List.head?_filter] at h
  cases z : ((List.range n).map fun i => ((i : Nat) : Int)).filter f with
  | nil =>
    rw [z] at h
    rw [if_neg (by simp)]
    exact h
  | cons x r =>
    rw [z] at h
    rw [if_pos (by simp), List.map_cons, atI0]
    exact h
theorem firstI_some {n : Nat} {f : Int → Bool} {i : Int} (h : firstI n f = some i) : 0 ≤ i ∧ i < n ∧ f i = true := by
  have m := List.mem_of_find?_eq_some h
  obtain ⟨k, hk, rfl⟩ := List.mem_map.mp m
  have := List.mem_range.mp hk
  exact ⟨by omega, by omega, List.find?_some h⟩
theorem firstI_none {n : Nat} {f : Int → Bool} (h : firstI n f = none) : ∀ i : Int, 0 ≤ i → i < n → f i = false := fun i i0 i1 => by
  have := List.find?_eq_none.mp h i (List.mem_map.mpr ⟨i.toNat, List.mem_range.mpr (by omega), by omega⟩)
  simpa using this
def apartI (pl : List (Int × Int)) : Option Int := firstI pl.length fun j => !decide (pt pl j = pt pl 0)
def offI (pl : List (Int × Int)) (j : Int) : Option Int := firstI pl.length fun k => !decide (crs (sub2 (pt pl 0) (pt pl j)) (sub2 (pt pl 0) (pt pl k)) = 0)
def sp_apartF : DSp := fun ds DH Q => ∃ pl, ds = [.tup (pairsL pl)] ∧ 0 < pl.length ∧ pl.length ≤ 1000000 ∧ Q (optD (apartI pl)) DH
theorem apartF_ok {ds : List D} {DH : DHp} {Q : DK} (h : sp_apartF ds DH Q) : rd_first_apart (bodyE Q) (dstart ["places", "some", "joint"] ds) DH := by
  obtain ⟨pl, rfl, h0, h1, h⟩ := h
  unfold rd_first_apart
  unfold dd
  unfold dLc
  unfold dd pairsL_length rgD_length
  refine ⟨by omega, size_leM (by omega), comp_filter (fun x => match x with | .int j => !decide (pt pl j = pt pl 0) | _ => false) id trivial _ _ (fun x hx Q Z q z => ?_) ?_⟩
  · obtain ⟨i, hi, rfl⟩ := rgD_mem hx
    rw [Int.zero_add] at *
    have hi' : ((i : Nat) : Int) < pl.length := by omega
    have e0_ := atI_pt (pl := pl) (Int.natCast_nonneg i) hi'
    have e1_ := atI_pt (pl := pl) (i := 0) (by decide) (by omega)
    unfold dd e0_ e1_ rEq_pairT
    refine ite2 (fun z1 => ?_) fun z1 => ?_
    · exact q (by simp [z1])
    · exact z (by simpa using z1)
  · rw [List.nil_append, List.map_id]
    have e0_ := rEq_nilT (plainL_ints (p := fun x => match x with | .int j => !decide (pt pl j = pt pl 0) | _ => false) (n := pl.length) (lo := 0))
    unfold dd e0_
    refine ⟨by decide, ?_⟩
    exact head_first (p := fun x => match x with | .int j => !decide (pt pl j = pt pl 0) | _ => false) (f := fun j => !decide (pt pl j = pt pl 0)) (Q := fun d => ∃ H2, DSub H2 DH ∧ Q d H2) (fun i => rfl) ⟨DH, DSub.refl _, h⟩
def sp_offF : DSp := fun ds DH Q => ∃ pl j, ds = [.tup (pairsL pl), .int j] ∧ 0 ≤ j ∧ j < pl.length ∧ pl.length ≤ 1000000 ∧ (∀ p ∈ pl, InB 1000000 p) ∧ Q (optD (offI pl j)) DH
theorem offF_ok {ds : List D} {DH : DHp} {Q : DK} (h : sp_offF ds DH Q) : rd_first_off (bodyE Q) (dstart ["places", "joint", "base", "some", "other"] ds) DH := by
  obtain ⟨pl, jt, rfl, j0, j1, hl, hb, h⟩ := h
  obtain ⟨u1, u2, u3, u4⟩ := pt_in hb (i := 0) (by decide) (by omega)
  obtain ⟨v1, v2, v3, v4⟩ := pt_in hb j0 j1
  have bb : InB 1000000000 (sub2 (pt pl 0) (pt pl jt)) := ⟨by show _ ≤ (pt pl jt).1 - (pt pl 0).1; omega, by show (pt pl jt).1 - (pt pl 0).1 ≤ _; omega, by show _ ≤ (pt pl jt).2 - (pt pl 0).2; omega, by show (pt pl jt).2 - (pt pl 0).2 ≤ _; omega⟩
  unfold rd_first_off
  unfold dd
  refine ⟨pl, 0, jt, rfl, by decide, by omega, j0, j1, ?_⟩
  unfold dd
  unfold dLc
  unfold dd pairsL_length rgD_length
  refine ⟨by omega, size_leM (by omega), comp_filter (fun x => match x with | .int k => !decide (crs (sub2 (pt pl 0) (pt pl jt)) (sub2 (pt pl 0) (pt pl k)) = 0) | _ => false) id trivial _ _ (fun x hx Q Z q z => ?_) ?_⟩
  · obtain ⟨i, hi, rfl⟩ := rgD_mem hx
    rw [Int.zero_add] at *
    unfold dd
    refine ⟨pl, 0, i, rfl, by decide, by omega, by omega, by omega, ?_⟩
    unfold dd
    refine ⟨_, _, rfl, bb, ?_⟩
    unfold dd
    refine ite2 (fun z1 => ?_) fun z1 => ?_
    · exact q (by simp [z1])
    · exact z (by simpa using z1)
  · rw [List.nil_append, List.map_id]
    have e0_ := rEq_nilT (plainL_ints (p := fun x => match x with | .int k => !decide (crs (sub2 (pt pl 0) (pt pl jt)) (sub2 (pt pl 0) (pt pl k)) = 0) | _ => false) (n := pl.length) (lo := 0))
    unfold dd e0_
    refine ⟨by decide, ?_⟩
    exact head_first (p := fun x => match x with | .int k => !decide (crs (sub2 (pt pl 0) (pt pl jt)) (sub2 (pt pl 0) (pt pl k)) = 0) | _ => false) (f := fun k => !decide (crs (sub2 (pt pl 0) (pt pl jt)) (sub2 (pt pl 0) (pt pl k)) = 0)) (Q := fun d => ∃ H2, DSub H2 DH ∧ Q d H2) (fun i => rfl) ⟨DH, DSub.refl _, h⟩
/-! ### common divisors of a list -/
def gcdL (ns : List Int) : Nat := ns.foldl (fun g n => Nat.gcd g n.natAbs) 0
def sp_gdL : DSp := fun ds DH Q => ∃ ns : List Int, ds = [.tup (ns.map D.int)] ∧ Q (.int (gcdL ns : Nat)) DH
theorem gdL_ok {ds : List D} {DH : DHp} {Q : DK} (h : sp_gdL ds DH Q) : rd_greatest_divisor (bodyE Q) (dstart ["numbers", "found", "number", "left"] ds) DH := by
  obtain ⟨ns, rfl, h⟩ := h
  unfold rd_greatest_divisor
  unfold d3
  refine for_inv (fun xs τ H => DH = H ∧ ∃ L : List Int, ∃ g : Nat, xs = L.map D.int ∧ L.foldl (fun g n => Nat.gcd g n.natAbs) g = gcdL ns ∧ ∃ c d, τ = [some (.tup (ns.map D.int)), some (.int (g : Nat)), c, d]) ?_ ?_ _ _ _ ⟨rfl, ns, 0, rfl, rfl, none, none, rfl⟩
  · rintro τ H ⟨rfl, L, g, e, eg, c, d, rfl⟩
    have e3 : L = [] := by
      cases L with
      | nil => rfl
      | cons q L => cases e
    subst e3
    refine ⟨trivial, ?_⟩
    unfold d3
    rw [show g = gcdL ns from eg]
    exact ⟨DH, DSub.refl _, h⟩
  · rintro x r τ H ⟨rfl, L, g, e, eg, c, d, rfl⟩
    cases L with
    | nil => cases e
    | cons n L =>
      cases e
      refine ⟨trivial, fun E' _ _ hE _ => ?_⟩
      unfold d3 abs_nat
      exact gcd_while (f := g) (l := n.natAbs) (hE _ _ ⟨rfl, L, _, rfl, eg, _, _, rfl⟩)
/-! ### _law_divisor -/
def rd_law_divisorL : DS :=
  (dSeq (dAsg (dC (.int 0)) (gN 1))
    (dSeq (dFor (dISeq (dVar 0)) (gN 2) (dSeq (dAsg (dCB rAbsD (dCons (dVar 2) dNil)) (gN 3))
    (dWhile (dB (dOp (rEqD true) (dVar 3) (dC (.int 0)))) (dPar 1 3 (dCons (dVar 3) (dCons (dOp rMod (dCB rIntCD (dCons (dVar 1) dNil)) (dVar 3)) dNil))))))
    (dRet (dVar 1))))
theorem gcd_while3 {E : DEnds} {H : DHp} {n0 c : Option D} {f l : Nat} (h : E.nx [n0, some (.int (Nat.gcd f l : Nat)), c, some (.int 0)] H) :
    dWhile (dB (dOp (rEqD true) (dVar 3) (dC (.int 0)))) (dPar 1 3 (dCons (dVar 3) (dCons (dOp rMod (dCB rIntCD (dCons (dVar 1) dNil)) (dVar 3)) dNil))) E [n0, some (.int (f : Nat)), c, some (.int (l : Nat))] H := by
  refine while_inv (fun m τ H' => H' = H ∧ ∃ f' l' : Nat, τ = [n0, some (.int (f' : Nat)), c, some (.int (l' : Nat))] ∧ Nat.gcd f' l' = Nat.gcd f l ∧ l' = m) ⟨rfl, f, l, rfl, rfl, rfl⟩ ?_
  rintro m τ H' ⟨rfl, f', l', rfl, e, rfl⟩ E' - - hE -
  unfold dd
  refine ite2 (fun z => ?_) fun z => ?_
  · have pos : 0 < l' := by omega
    exact ⟨by omega, hE (f' % l') _ _ (Nat.mod_lt _ pos) ⟨rfl, l', f' % l', by rw [Int.natCast_emod], by rw [gcd_turn, e], rfl⟩⟩
  · have z : l' = 0 := by omega
    subst z
    rw [Nat.gcd_zero_right] at e
    rw [← e] at h
    exact h
theorem law_divisorL_ok {ds : List D} {DH : DHp} {Q : DK} (h : sp_gdL ds DH Q) : rd_law_divisorL (bodyE Q) (dstart ["numbers", "found", "one", "left"] ds) DH := by
  obtain ⟨ns, rfl, h⟩ := h
  unfold rd_law_divisorL
  unfold d3
  refine for_inv (fun xs τ H => DH = H ∧ ∃ L : List Int, ∃ g : Nat, xs = L.map D.int ∧ L.foldl (fun g n => Nat.gcd g n.natAbs) g = gcdL ns ∧ ∃ c d, τ = [some (.tup (ns.map D.int)), some (.int (g : Nat)), c, d]) ?_ ?_ _ _ _ ⟨rfl, ns, 0, rfl, rfl, none, none, rfl⟩
  · rintro τ H ⟨rfl, L, g, e, eg, c, d, rfl⟩
    have e3 : L = [] := by
      cases L with
      | nil => rfl
      | cons q L => cases e
    subst e3
    refine ⟨trivial, ?_⟩
    unfold d3
    rw [show g = gcdL ns from eg]
    exact ⟨DH, DSub.refl _, h⟩
  · rintro x r τ H ⟨rfl, L, g, e, eg, c, d, rfl⟩
    cases L with
    | nil => cases e
    | cons n L =>
      cases e
      refine ⟨trivial, fun E' _ _ hE _ => ?_⟩
      unfold d3 abs_nat
      exact gcd_while3 (f := g) (l := n.natAbs) (hE _ _ ⟨rfl, L, _, rfl, eg, _, _, rfl⟩)
/-! ### moves between places -/
def MvW (v : Mv) : Prop := (-(2 ^ 62) ≤ v.c ∧ v.c ≤ 2 ^ 62) ∧ (-(2 ^ 62) ≤ v.s ∧ v.s ≤ 2 ^ 62) ∧ (-1 ≤ v.m ∧ v.m ≤ 1) ∧ (1 ≤ v.d ∧ v.d ≤ 2 ^ 62)
def sp_moved_partW : DSp := fun ds DH Q => ∃ v p, ds = [mvD v, pairD p] ∧ MvW v ∧ Q (pairD (mvP v p)) DH
theorem moved_partW_ok {ds : List D} {DH : DHp} {Q : DK} (h : sp_moved_partW ds DH Q) : rd_moved_part (bodyE Q) (dstart ["move", "place", "c", "s", "mirror", "d", "x", "y", "p", "q"] ds) DH := by
  obtain ⟨v, p, rfl, ⟨⟨c0, c1⟩, ⟨s0, s1⟩, ⟨m0, m1⟩, _⟩, h⟩ := h
  unfold rd_moved_part
  unfold dd mvD mvL pairD
  exact ⟨mulD_l (by omega) (by omega), mulD_l (by omega) (by omega), mulD_l (by omega) (by omega), mulD_l (by omega) (by omega), mulD_l (by omega) (by omega), by decide, DH, DSub.refl _, h⟩
def takes (v : Mv) (ps qs : List (Int × Int)) : Bool := (List.range ps.length).all fun i => decide (mvP v (pt ps (i : Nat)) = (v.d * (pt qs (i : Nat)).1, v.d * (pt qs (i : Nat)).2))
theorem takes_iff {v : Mv} {ps qs : List (Int × Int)} : takes v ps qs = true ↔ ∀ j : Int, 0 ≤ j → j < ps.length → mvP v (pt ps j) = (v.d * (pt qs j).1, v.d * (pt qs j).2) := by
  unfold takes
  rw [List.all_eq_true]
  constructor
  · intro h j j0 j1
    have := h j.toNat (List.mem_range.mpr (by omega))
    rw [decide_eq_true_eq, Int.toNat_of_nonneg j0] at this
    exact this
  · intro h i hi
    exact decide_eq_true (h i (Int.natCast_nonneg i) (by have := List.mem_range.mp hi; omega))
def sp_elsewhereW : DSp := fun ds DH Q => ∃ v ps qs, ds = [mvD v, .tup (pairsL ps), .tup (pairsL qs)] ∧ MvW v ∧ ps.length = qs.length ∧ ∀ r, (r = .non ∧ takes v ps qs = true) ∨ (∃ j : Int, r = .int j ∧ takes v ps qs = false) → Q r DH
/-! ### first_elsewhere -/
def rd_elsewhereW : DS :=
  (dSeq (dFor (dIEnum (dCons (dVar 1) dNil)) (gT 2 (gConsD (gN 3) (gConsD (gN 4) gNilD))) (dIfS (dB (dOp (rEqD true) (dCB sp_moved_partW (dCons (dVar 0) (dCons (dVar 4) dNil))) (dTup (dCons (dOp rMulD (dOp rIxD (dVar 0) (dC (.int 3))) (dOp rIxD (dOp rIxD (dVar 2) (dVar 3)) (dC (.int 0)))) (dCons (dOp rMulD (dOp rIxD (dVar 0) (dC (.int 3))) (dOp rIxD (dOp rIxD (dVar 2) (dVar 3)) (dC (.int 1)))) dNil))))) (dRet (dVar 3)) dNext))
    (dRet (dC .non)))
theorem elsewhereW_ok {ds : List D} {DH : DHp} {Q : DK} (h : sp_elsewhereW ds DH Q) : rd_elsewhereW (bodyE Q) (dstart ["move", "one", "other", "joint", "place"] ds) DH := by
  obtain ⟨v, ps, qs, rfl, hv, hl, h⟩ := h
  have hd := hv.2.2.2
  unfold rd_elsewhereW
  unfold d3
  refine for_inv (fun xs τ H => H = DH ∧ ∃ k : Nat, xs = enumD (k : Nat) (pairsL (ps.drop k)) ∧ (∀ j : Int, 0 ≤ j → j < k → mvP v (pt ps j) = (v.d * (pt qs j).1, v.d * (pt qs j).2)) ∧ ∃ c d, τ = [some (mvD v), some (.tup (pairsL ps)), some (.tup (pairsL qs)), c, d]) ?_ ?_ _ _ _ ⟨rfl, 0, rfl, fun j h0 h1 => absurd h1 (by omega), none, none, rfl⟩
  · rintro τ H ⟨rfl, k, e, hk, c, d, rfl⟩
    refine ⟨trivial, ?_⟩
    unfold d3
    refine ⟨H, DSub.refl _, h _ (.inl ⟨rfl, takes_iff.mpr fun j j0 j1 => hk j j0 ?_⟩)⟩
    rw [enumD_pairs] at e
    cases z : ps.drop k with
    | nil =>
      have := congrArg List.length z
      rw [List.length_drop] at this
      simp only [List.length_nil] at this
      omega
    | cons p r => rw [z] at e; cases e
  · rintro x r τ H ⟨rfl, k, e, hk, c, d, rfl⟩
    rw [enumD_pairs] at e
    cases z : ps.drop k with
    | nil => rw [z] at e; cases e
    | cons p r' =>
      rw [z] at e
      cases e
      obtain ⟨z1, z2, z3⟩ := pt_drop z
      refine ⟨trivial, fun E' hr _ hE _ => ?_⟩
      unfold d3
      refine ⟨v, p, rfl, hv, ?_⟩
      have e2_ := atI_pt (pl := qs) (i := (k : Nat)) (by omega) (by omega)
      unfold d3 mvD mvL e2_ pairD
      refine ⟨mulD_l (by omega) (by omega), mulD_l (by omega) (by omega), by decide, ?_⟩
      have er := rEq_pairT (mvP v p) (v.d * (pt qs (k : Nat)).1, v.d * (pt qs (k : Nat)).2)
      unfold pairD at er
      simp only at er
      unfold d3 er hr
      refine ite2 (fun y => ?_) fun y => ?_
      · refine ⟨H, DSub.refl _, h _ (.inr ⟨(k : Nat), rfl, ?_⟩)⟩
        refine Bool.eq_false_iff.mpr fun t => ?_
        have := takes_iff.mp t (k : Nat) (by omega) (by omega)
        rw [z2] at this
        exact y this
      · refine hE _ _ ⟨rfl, k + 1, by rw [z3]; rfl, fun j j0 j1 => ?_, some (.int (k : Nat)), some (pairD p), rfl⟩
        by_cases jk : j = (k : Nat)
        · subst jk
          rw [z2]
          exact Classical.not_not.mp y
        · exact hk j j0 (by omega)
def sp_does_takeW : DSp := fun ds DH Q => ∃ v ps qs, ds = [mvD v, .tup (pairsL ps), .tup (pairsL qs)] ∧ MvW v ∧ ps.length = qs.length ∧ Q (.bl (takes v ps qs)) DH
/-! ### does_take -/
def rd_does_takeW : DS :=
  (dRet (dOp (rIsN false) (dCB sp_elsewhereW (dCons (dVar 0) (dCons (dVar 1) (dCons (dVar 2) dNil)))) (dC .non)))
theorem does_takeW_ok {ds : List D} {DH : DHp} {Q : DK} (h : sp_does_takeW ds DH Q) : rd_does_takeW (bodyE Q) (dstart ["move", "one", "other"] ds) DH := by
  obtain ⟨v, ps, qs, rfl, hv, hl, h⟩ := h
  unfold rd_does_takeW
  unfold d3
  refine ⟨v, ps, qs, rfl, hv, hl, fun r hr => ?_⟩
  rcases hr with ⟨rfl, hr⟩ | ⟨j, rfl, hj⟩
  · unfold d3
    rw [hr] at h
    exact ⟨DH, DSub.refl _, h⟩
  · unfold d3
    rw [hj] at h
    exact ⟨DH, DSub.refl _, h⟩
def lowerMv (v : Mv) : Mv := ⟨v.c / (gcdL [v.c, v.s, v.d, v.x, v.y] : Nat), v.s / (gcdL [v.c, v.s, v.d, v.x, v.y] : Nat), v.m, v.d / (gcdL [v.c, v.s, v.d, v.x, v.y] : Nat), v.x / (gcdL [v.c, v.s, v.d, v.x, v.y] : Nat), v.y / (gcdL [v.c, v.s, v.d, v.x, v.y] : Nat)⟩
theorem gcdL_five (c s d x y : Int) : gcdL [c, s, d, x, y] ∣ c.natAbs ∧ gcdL [c, s, d, x, y] ∣ s.natAbs ∧ gcdL [c, s, d, x, y] ∣ d.natAbs ∧ gcdL [c, s, d, x, y] ∣ x.natAbs ∧ gcdL [c, s, d, x, y] ∣ y.natAbs := by
  unfold gcdL
  simp only [List.foldl_cons, List.foldl_nil]
  have l := fun a b => Nat.gcd_dvd_left a b
  have r := fun a b => Nat.gcd_dvd_right a b
  refine ⟨?_, ?_, ?_, ?_, r _ _⟩
  · exact Nat.dvd_trans (l _ _) (Nat.dvd_trans (l _ _) (Nat.dvd_trans (l _ _) (Nat.dvd_trans (l _ _) (r _ _))))
  · exact Nat.dvd_trans (l _ _) (Nat.dvd_trans (l _ _) (Nat.dvd_trans (l _ _) (r _ _)))
  · exact Nat.dvd_trans (l _ _) (Nat.dvd_trans (l _ _) (r _ _))
  · exact Nat.dvd_trans (l _ _) (r _ _)
theorem gcdL_pos {c s d x y : Int} (hd : 0 < d) : 0 < gcdL [c, s, d, x, y] ∧ gcdL [c, s, d, x, y] ≤ d.natAbs := by
  have h := (gcdL_five c s d x y).2.2.1
  exact ⟨Nat.pos_of_dvd_of_pos h (by omega), Nat.le_of_dvd (by omega) h⟩
def sp_lowered : DSp := fun ds DH Q => ∃ v, ds = [mvD v] ∧ 0 < v.d ∧ v.d < 2 ^ 64 ∧ Q (mvD (lowerMv v)) DH
/-! ### lowered -/
def rd_lowered : DS :=
  (dSeq (dAsg (dVar 0) (gT 6 (gConsD (gN 1) (gConsD (gN 2) (gConsD (gN 3) (gConsD (gN 4) (gConsD (gN 5) (gConsD (gN 6) gNilD))))))))
    (dSeq (dAsg (dCB sp_gdL (dCons (dTup (dCons (dVar 1) (dCons (dVar 2) (dCons (dVar 4) (dCons (dVar 5) (dCons (dVar 6) dNil)))))) dNil)) (gN 7))
    (dRet (dTup (dCons (dOp rFdiv (dVar 1) (dVar 7)) (dCons (dOp rFdiv (dVar 2) (dVar 7)) (dCons (dVar 3) (dCons (dOp rFdiv (dVar 4) (dVar 7)) (dCons (dOp rFdiv (dVar 5) (dVar 7)) (dCons (dOp rFdiv (dVar 6) (dVar 7)) dNil))))))))))
theorem lowered_ok {ds : List D} {DH : DHp} {Q : DK} (h : sp_lowered ds DH Q) : rd_lowered (bodyE Q) (dstart ["move", "c", "s", "mirror", "d", "x", "y", "by"] ds) DH := by
  obtain ⟨v, rfl, h0, h1, h⟩ := h
  obtain ⟨g1, g2⟩ := gcdL_pos (c := v.c) (s := v.s) (x := v.x) (y := v.y) h0
  have g : 0 < ((gcdL [v.c, v.s, v.d, v.x, v.y] : Nat) : Int) ∧ ((gcdL [v.c, v.s, v.d, v.x, v.y] : Nat) : Int).natAbs.log2 < 9000 := ⟨by omega, log_small (by omega) (by omega)⟩
  unfold rd_lowered
  unfold d3 mvD mvL
  refine ⟨by decide, [v.c, v.s, v.d, v.x, v.y], rfl, ?_⟩
  unfold d3
  exact ⟨g, g, g, g, g, by decide, DH, DSub.refl _, h⟩
/-! ### the turn that takes the first two -/
theorem dot_self_pos {p : Int × Int} (h : p ≠ (0, 0)) : 0 < dot p p := by
  have n : ∀ x : Int, 0 ≤ x * x := fun x => by
    rw [← Int.natAbs_mul_self' x]
    exact Int.mul_nonneg (Int.natCast_nonneg _) (Int.natCast_nonneg _)
  unfold dot
  rcases Int.lt_or_eq_of_le (Int.add_nonneg (n p.1) (n p.2)) with z | z
  · exact z
  · exfalso
    have n1 := n p.1
    have n2 := n p.2
    have z1 : p.1 * p.1 = 0 := by omega
    have z2 : p.2 * p.2 = 0 := by omega
    have y1 : p.1 = 0 := by rcases Int.mul_eq_zero.mp z1 with y | y <;> exact y
    have y2 : p.2 = 0 := by rcases Int.mul_eq_zero.mp z2 with y | y <;> exact y
    exact h (Prod.ext y1 y2)
theorem mul_inS {a x y : Int} (h1 : -a ≤ x ∧ x ≤ a) (h2 : -a ≤ y ∧ y ≤ a) : -(a * a) ≤ x * y ∧ x * y ≤ a * a := by
  have l : x.natAbs * y.natAbs ≤ a.natAbs * a.natAbs := Nat.mul_le_mul (by omega) (by omega)
  rw [← Int.natAbs_mul, ← Int.natAbs_mul] at l
  have n : 0 ≤ a * a := Int.mul_nonneg (by omega) (by omega)
  omega
def rawMv (one other : List (Int × Int)) (j m : Int) : Mv :=
  ⟨dot ((sub2 (pt one 0) (pt one j)).1, m * (sub2 (pt one 0) (pt one j)).2) (sub2 (pt other 0) (pt other j)), crs ((sub2 (pt one 0) (pt one j)).1, m * (sub2 (pt one 0) (pt one j)).2) (sub2 (pt other 0) (pt other j)), m,
    dot ((sub2 (pt one 0) (pt one j)).1, m * (sub2 (pt one 0) (pt one j)).2) ((sub2 (pt one 0) (pt one j)).1, m * (sub2 (pt one 0) (pt one j)).2), 0, 0⟩
def shiftMv (one other : List (Int × Int)) (v : Mv) : Mv := ⟨v.c, v.s, v.m, v.d, v.d * (pt other 0).1 - (mvP v (pt one 0)).1, v.d * (pt other 0).2 - (mvP v (pt one 0)).2⟩
def turnMv (one other : List (Int × Int)) (j m : Int) : Mv := lowerMv (shiftMv one other (rawMv one other j m))
/-- what the turns are asked of -/
structure TwoOk (one other : List (Int × Int)) : Prop where
  len : one.length = other.length
  pos : 0 < one.length
  small : one.length ≤ 1000
  in1 : ∀ p ∈ one, InB 10000 p
  in2 : ∀ p ∈ other, InB 10000 p
theorem raw_ok {one other : List (Int × Int)} (T : TwoOk one other) {j m : Int} (j0 : 0 ≤ j) (j1 : j < one.length) (hm : m = 1 ∨ m = -1) (hj : pt one j ≠ pt one 0) : MvW (rawMv one other j m) ∧ (rawMv one other j m).d < 2 ^ 40 := by
  have p0 := T.in1 _ (pt_mem (i := 0) (by decide) (by have := T.pos; omega))
  have pj := T.in1 _ (pt_mem j0 j1)
  have q0 := T.in2 _ (pt_mem (i := 0) (by decide) (by have := T.pos; have := T.len; omega))
  have qj := T.in2 _ (pt_mem j0 (by have := T.len; omega))
  have v1 : -20000 ≤ (sub2 (pt one 0) (pt one j)).1 ∧ (sub2 (pt one 0) (pt one j)).1 ≤ 20000 := by
    obtain ⟨a, b, c, d⟩ := p0
    obtain ⟨a', b', c', d'⟩ := pj
    simp only [sub2]
    omega
  have v2 : -20000 ≤ m * (sub2 (pt one 0) (pt one j)).2 ∧ m * (sub2 (pt one 0) (pt one j)).2 ≤ 20000 := by
    obtain ⟨a, b, c, d⟩ := p0
    obtain ⟨a', b', c', d'⟩ := pj
    simp only [sub2]
    rcases hm with rfl | rfl <;> omega
  have w1 : -20000 ≤ (sub2 (pt other 0) (pt other j)).1 ∧ (sub2 (pt other 0) (pt other j)).1 ≤ 20000 := by
    obtain ⟨a, b, c, d⟩ := q0
    obtain ⟨a', b', c', d'⟩ := qj
    simp only [sub2]
    omega
  have w2 : -20000 ≤ (sub2 (pt other 0) (pt other j)).2 ∧ (sub2 (pt other 0) (pt other j)).2 ≤ 20000 := by
    obtain ⟨a, b, c, d⟩ := q0
    obtain ⟨a', b', c', d'⟩ := qj
    simp only [sub2]
    omega
  have a1 := mul_inS v1 w1
  have a2 := mul_inS v2 w2
  have a3 := mul_inS v1 w2
  have a4 := mul_inS v2 w1
  have a5 := mul_inS v1 v1
  have a6 := mul_inS v2 v2
  have nz : ((sub2 (pt one 0) (pt one j)).1, m * (sub2 (pt one 0) (pt one j)).2) ≠ (0, 0) := fun z => by
    have z1 := congrArg Prod.fst z
    have z2 := congrArg Prod.snd z
    simp only [sub2] at z1 z2
    refine hj (Prod.ext (by omega) ?_)
    rcases hm with rfl | rfl <;> omega
  have dp := dot_self_pos nz
  unfold MvW rawMv
  unfold dot at dp ⊢
  unfold crs
  simp only at *
  refine ⟨⟨⟨by omega, by omega⟩, ⟨by omega, by omega⟩, ?_, by omega, by omega⟩, by omega⟩
  rcases hm with rfl | rfl <;> omega
def sp_turn_of : DSp := fun ds DH Q => ∃ one other j m, ds = [.tup (pairsL one), .tup (pairsL other), .int j, .int m] ∧ TwoOk one other ∧ 0 ≤ j ∧ j < one.length ∧ (m = 1 ∨ m = -1) ∧ pt one j ≠ pt one 0 ∧ Q (mvD (turnMv one other j m)) DH
/-! ### turn_of -/
def rd_turn_of : DS :=
  (dSeq (dPar 4 5 (dCons (dCB sp_led (dCons (dVar 0) (dCons (dC (.int 0)) (dCons (dVar 2) dNil)))) (dCons (dCB sp_led (dCons (dVar 1) (dCons (dC (.int 0)) (dCons (dVar 2) dNil)))) dNil)))
    (dSeq (dAsg (dTup (dCons (dOp rIxD (dVar 4) (dC (.int 0))) (dCons (dOp rMulD (dVar 3) (dOp rIxD (dVar 4) (dC (.int 1)))) dNil))) (gN 4))
    (dSeq (dPar3 6 7 8 (dCons (dCB sp_along (dCons (dVar 4) (dCons (dVar 5) dNil))) (dCons (dCB sp_across (dCons (dVar 4) (dCons (dVar 5) dNil))) (dCons (dCB sp_along (dCons (dVar 4) (dCons (dVar 4) dNil))) dNil))))
    (dSeq (dAsg (dCB sp_moved_partW (dCons (dTup (dCons (dVar 6) (dCons (dVar 7) (dCons (dVar 3) (dCons (dVar 8) (dCons (dC (.int 0)) (dCons (dC (.int 0)) dNil))))))) (dCons (dOp rIxD (dVar 0) (dC (.int 0))) dNil))) (gN 9))
    (dRet (dCB sp_lowered (dCons (dTup (dCons (dVar 6) (dCons (dVar 7) (dCons (dVar 3) (dCons (dVar 8) (dCons (dOp (rIntD (fun _ _ => True) fun i j => .int (i - j)) (dOp rMulD (dVar 8) (dOp rIxD (dOp rIxD (dVar 1) (dC (.int 0))) (dC (.int 0)))) (dOp rIxD (dVar 9) (dC (.int 0)))) (dCons (dOp (rIntD (fun _ _ => True) fun i j => .int (i - j)) (dOp rMulD (dVar 8) (dOp rIxD (dOp rIxD (dVar 1) (dC (.int 0))) (dC (.int 1)))) (dOp rIxD (dVar 9) (dC (.int 1)))) dNil))))))) dNil)))))))
end DL

local macro_rules
  | `(tactic| unfold dd $ls*) => `(tactic| try simp only [↓DL.dVar_e, ↓DL.dC_e, ↓DL.dOp_e, ↓DL.dUn_e, ↓DL.dB_e, ↓DL.dChain_e, ↓DL.dAnd_e, ↓DL.dOr_e, ↓DL.dNot_e, ↓DL.dAndV_e, ↓DL.dOrV_e, ↓DL.dNotV_e, ↓DL.dIf_e, ↓DL.dNil_e, ↓DL.dCons_e, ↓DL.dTup_e, ↓DL.dLst_e, ↓DL.dCB_e, ↓DL.dNext_e, ↓DL.dSeq_e, ↓DL.dCont_e, ↓DL.dBreak_e, ↓DL.dDrop_e, ↓DL.dRet_e, ↓DL.dRetN_e, ↓DL.dIfS_e, ↓DL.gN_e, ↓DL.gNilD_e, ↓DL.gConsD_e, ↓DL.gT_e, ↓DL.dAsg_e, ↓DL.dPar_e, ↓DL.dPar3_e, ↓DL.dYes_e, ↓DL.dISeq_e, ↓DL.dIRg1_e, ↓DL.dIRg2_e, ↓DL.dIEnum_e, ↓DL.dIZip_e, ↓DL.rIntD_e, ↓DL.rNegD_e, ↓DL.rEq_intF, ↓DL.rEq_intT, ↓DL.rAddD_e, ↓DL.rMulD_e, ↓DL.rIxD_e, ↓DL.rI1_e, ↓DL.rI2_e, ↓DL.rIntCD_e, ↓DL.rSumD_e, ↓DL.rAllD_e, ↓DL.rIsiD_e, ↓DL.rLenD_e, ↓DL.rTupD_e, ↓DL.rLstD_e, ↓DL.rIsN_e, ↓DL.rSlD_e, ↓DL.dSl_e, ↓DL.dNoPart_e, ↓DL.dPart_e, ↓DL.dRev_e, ↓DL.dGet_e, ↓DL.dIn_e, ↓DL.dStore_e, ↓DL.dBM0_e, ↓DL.dBM_e, ↓DL.dDisp_e, ↓DL.mAppend_e, ↓DL.mPop_e, ↓DL.dNewK_e, ↓DL.dNewT_e, ↓DL.dLstM_e, ↓DL.dFrz_e, ↓DL.rReprD_e, ↓DL.rNeS_e, ↓DL.rEqS_e, ↓DL.asB_e, ↓DL.walkD_e, ↓DL.lookD_e, ↓DL.storeD_e, ↓DL.ofTy_e, ↓DL.onLst_e, DL.bodyE, DL.dstart, DL.dPairs, DL.dwipe, DL.keysOf, DL.keyD, DL.isNon, DL.peek_int, DL.peek_bl, DL.peek_non, DL.peek_str, DL.peek_tup, DL.peek_lst, DL.seqOf_tup, DL.seqOf_lst, DL.listOf_lst, DL.tyOf, DL.isTy, DL.atI0, DL.atI1, DL.atI2, DL.atI3, DL.atI4, DL.atI5, DL.dupd_same, DL.dupd_dupd, List.map_cons, List.map_nil, List.length_cons, List.length_nil, List.cons_append, List.nil_append, List.replicate_succ, List.replicate_zero, Nat.reduceAdd, Nat.reduceSub, Nat.zero_add, List.getElem?_cons_zero, List.getElem?_cons_succ, List.set_cons_zero, List.set_cons_succ, true_and, and_true, Int.toNat_natCast, if_true, if_false, Bool.false_eq_true, reduceCtorEq, ne_eq, not_false_eq_true, not_true_eq_false, decide_eq_true_eq, Bool.not_eq_true', decide_eq_false_iff_not, Option.bind_some, Option.map_some, $[$ls:term],*])
local macro_rules
  | `(tactic| unfold d2 $ls*) => `(tactic| try simp only [↓DL.dFor_e, ↓DL.dLc_e, ↓DL.dVar_e, ↓DL.dC_e, ↓DL.dOp_e, ↓DL.dUn_e, ↓DL.dB_e, ↓DL.dChain_e, ↓DL.dAnd_e, ↓DL.dOr_e, ↓DL.dNot_e, ↓DL.dAndV_e, ↓DL.dOrV_e, ↓DL.dNotV_e, ↓DL.dIf_e, ↓DL.dNil_e, ↓DL.dCons_e, ↓DL.dTup_e, ↓DL.dLst_e, ↓DL.dCB_e, ↓DL.dNext_e, ↓DL.dSeq_e, ↓DL.dCont_e, ↓DL.dBreak_e, ↓DL.dDrop_e, ↓DL.dRet_e, ↓DL.dRetN_e, ↓DL.dIfS_e, ↓DL.gN_e, ↓DL.gNilD_e, ↓DL.gConsD_e, ↓DL.gT_e, ↓DL.dAsg_e, ↓DL.dPar_e, ↓DL.dPar3_e, ↓DL.dYes_e, ↓DL.dISeq_e, ↓DL.dIRg1_e, ↓DL.dIRg2_e, ↓DL.dIEnum_e, ↓DL.dIZip_e, ↓DL.rIntD_e, ↓DL.rNegD_e, ↓DL.rEq_intF, ↓DL.rEq_intT, ↓DL.rAddD_e, ↓DL.rMulD_e, ↓DL.rIxD_e, ↓DL.rI1_e, ↓DL.rI2_e, ↓DL.rIntCD_e, ↓DL.rSumD_e, ↓DL.rAllD_e, ↓DL.rIsiD_e, ↓DL.rLenD_e, ↓DL.rTupD_e, ↓DL.rLstD_e, ↓DL.rIsN_e, ↓DL.rSlD_e, ↓DL.dSl_e, ↓DL.dNoPart_e, ↓DL.dPart_e, ↓DL.dRev_e, ↓DL.dGet_e, ↓DL.dIn_e, ↓DL.dStore_e, ↓DL.dBM0_e, ↓DL.dBM_e, ↓DL.dDisp_e, ↓DL.mAppend_e, ↓DL.mPop_e, ↓DL.dNewK_e, ↓DL.dNewT_e, ↓DL.dLstM_e, ↓DL.dFrz_e, ↓DL.rReprD_e, ↓DL.rNeS_e, ↓DL.rEqS_e, ↓DL.asB_e, ↓DL.walkD_e, ↓DL.lookD_e, ↓DL.storeD_e, ↓DL.ofTy_e, ↓DL.onLst_e, DL.bodyE, DL.dstart, DL.dPairs, DL.dwipe, DL.keysOf, DL.keyD, DL.isNon, DL.peek_int, DL.peek_bl, DL.peek_non, DL.peek_str, DL.peek_tup, DL.peek_lst, DL.seqOf_tup, DL.seqOf_lst, DL.listOf_lst, DL.tyOf, DL.isTy, DL.atI0, DL.atI1, DL.atI2, DL.atI3, DL.atI4, DL.atI5, DL.dupd_same, DL.dupd_dupd, List.map_cons, List.map_nil, List.length_cons, List.length_nil, List.cons_append, List.nil_append, List.replicate_succ, List.replicate_zero, Nat.reduceAdd, Nat.reduceSub, Nat.zero_add, List.getElem?_cons_zero, List.getElem?_cons_succ, List.set_cons_zero, List.set_cons_succ, true_and, and_true, Int.toNat_natCast, if_true, if_false, Bool.false_eq_true, reduceCtorEq, ne_eq, not_false_eq_true, not_true_eq_false, decide_eq_true_eq, Bool.not_eq_true', decide_eq_false_iff_not, Option.bind_some, Option.map_some, $[$ls:term],*])
local macro_rules
  | `(tactic| unfold d3 $ls*) => `(tactic| try simp only [↓DL.dLstRg1_e, ↓DL.dLstRg2_e, ↓DL.rSortD_e, ↓DL.rMaxL_e, ↓DL.rMinL_e, ↓DL.tell_F, ↓DL.tell_T, DL.ints_map, DL.bls_map, DL.pairs_map, ↓DL.dFor_e, ↓DL.dLc_e, ↓DL.dVar_e, ↓DL.dC_e, ↓DL.dOp_e, ↓DL.dUn_e, ↓DL.dB_e, ↓DL.dChain_e, ↓DL.dAnd_e, ↓DL.dOr_e, ↓DL.dNot_e, ↓DL.dAndV_e, ↓DL.dOrV_e, ↓DL.dNotV_e, ↓DL.dIf_e, ↓DL.dNil_e, ↓DL.dCons_e, ↓DL.dTup_e, ↓DL.dLst_e, ↓DL.dCB_e, ↓DL.dNext_e, ↓DL.dSeq_e, ↓DL.dCont_e, ↓DL.dBreak_e, ↓DL.dDrop_e, ↓DL.dRet_e, ↓DL.dRetN_e, ↓DL.dIfS_e, ↓DL.gN_e, ↓DL.gNilD_e, ↓DL.gConsD_e, ↓DL.gT_e, ↓DL.dAsg_e, ↓DL.dPar_e, ↓DL.dPar3_e, ↓DL.dYes_e, ↓DL.dISeq_e, ↓DL.dIRg1_e, ↓DL.dIRg2_e, ↓DL.dIEnum_e, ↓DL.dIZip_e, ↓DL.rIntD_e, ↓DL.rNegD_e, ↓DL.rEq_intF, ↓DL.rEq_intT, ↓DL.rAddD_e, ↓DL.rMulD_e, ↓DL.rIxD_e, ↓DL.rI1_e, ↓DL.rI2_e, ↓DL.rIntCD_e, ↓DL.rSumD_e, ↓DL.rAllD_e, ↓DL.rIsiD_e, ↓DL.rLenD_e, ↓DL.rTupD_e, ↓DL.rLstD_e, ↓DL.rIsN_e, ↓DL.rSlD_e, ↓DL.dSl_e, ↓DL.dNoPart_e, ↓DL.dPart_e, ↓DL.dRev_e, ↓DL.dGet_e, ↓DL.dIn_e, ↓DL.dStore_e, ↓DL.dBM0_e, ↓DL.dBM_e, ↓DL.dDisp_e, ↓DL.mAppend_e, ↓DL.mPop_e, ↓DL.dNewK_e, ↓DL.dNewT_e, ↓DL.dLstM_e, ↓DL.dFrz_e, ↓DL.rReprD_e, ↓DL.rNeS_e, ↓DL.rEqS_e, ↓DL.asB_e, ↓DL.walkD_e, ↓DL.lookD_e, ↓DL.storeD_e, ↓DL.ofTy_e, ↓DL.onLst_e, DL.bodyE, DL.dstart, DL.dPairs, DL.dwipe, DL.keysOf, DL.keyD, DL.isNon, DL.peek_int, DL.peek_bl, DL.peek_non, DL.peek_str, DL.peek_tup, DL.peek_lst, DL.seqOf_tup, DL.seqOf_lst, DL.listOf_lst, DL.tyOf, DL.isTy, DL.atI0, DL.atI1, DL.atI2, DL.atI3, DL.atI4, DL.atI5, DL.dupd_same, DL.dupd_dupd, List.map_cons, List.map_nil, List.length_cons, List.length_nil, List.cons_append, List.nil_append, List.replicate_succ, List.replicate_zero, Nat.reduceAdd, Nat.reduceSub, Nat.zero_add, List.getElem?_cons_zero, List.getElem?_cons_succ, List.set_cons_zero, List.set_cons_succ, true_and, and_true, Int.toNat_natCast, if_true, if_false, Bool.false_eq_true, reduceCtorEq, ne_eq, not_false_eq_true, not_true_eq_false, decide_eq_true_eq, Bool.not_eq_true', decide_eq_false_iff_not, Option.bind_some, Option.map_some, $[$ls:term],*])
namespace DL
open PySem PySem.Spec PyProof.Rows L2
/-! P04b -/
theorem kx1 (one other : List (Int × Int)) (j m : Int) : [D.tup [.int (dot ((sub2 (pt one 0) (pt one j)).1, m * (sub2 (pt one 0) (pt one j)).2) (sub2 (pt other 0) (pt other j))), .int (crs ((sub2 (pt one 0) (pt one j)).1, m * (sub2 (pt one 0) (pt one j)).2) (sub2 (pt other 0) (pt other j))), .int m, .int (dot ((sub2 (pt one 0) (pt one j)).1, m * (sub2 (pt one 0) (pt one j)).2) ((sub2 (pt one 0) (pt one j)).1, m * (sub2 (pt one 0) (pt one j)).2)), .int 0, .int 0], pairD (pt one 0)] = [mvD (rawMv one other j m), pairD (pt one 0)] := rfl
theorem kx2 (one other : List (Int × Int)) (v : Mv) : [D.tup [.int v.c, .int v.s, .int v.m, .int v.d, .int (v.d * (pt other 0).1 - (mvP v (pt one 0)).1), .int (v.d * (pt other 0).2 - (mvP v (pt one 0)).2)]] = [mvD (shiftMv one other v)] := rfl
theorem turn_of_ok {ds : List D} {DH : DHp} {Q : DK} (h : sp_turn_of ds DH Q) : rd_turn_of (bodyE Q) (dstart ["one", "other", "joint", "mirror", "v", "w", "c", "s", "d", "here"] ds) DH := by
  obtain ⟨one, other, j, m, rfl, T, j0, j1, hm, hj, h⟩ := h
  obtain ⟨r1, r2⟩ := raw_ok T j0 j1 hm hj
  have hl := T.len
  have hp := T.pos
  have b0 := T.in1 _ (pt_mem (i := 0) (by decide) (by omega))
  have bj := T.in1 _ (pt_mem j0 j1)
  have vb : InB 1000000000 ((sub2 (pt one 0) (pt one j)).1, m * (sub2 (pt one 0) (pt one j)).2) := by
    obtain ⟨a, b, c, d⟩ := b0
    obtain ⟨a', b', c', d'⟩ := bj
    simp only [sub2]
    rcases hm with rfl | rfl <;> exact ⟨by simp only; omega, by simp only; omega, by simp only; omega, by simp only; omega⟩
  obtain ⟨o1, o2, o3, o4⟩ := T.in2 _ (pt_mem (i := 0) (by decide) (by omega))
  unfold rd_turn_of
  unfold d3
  refine ⟨one, 0, j, rfl, by decide, by omega, j0, j1, ?_⟩
  unfold d3
  refine ⟨other, 0, j, rfl, by decide, by omega, j0, by omega, ?_⟩
  unfold d3 pairD
  refine ⟨mulD_l (by rcases hm with rfl | rfl <;> decide) (by rcases hm with rfl | rfl <;> decide), by decide, ((sub2 (pt one 0) (pt one j)).1, m * (sub2 (pt one 0) (pt one j)).2), sub2 (pt other 0) (pt other j), rfl, vb, ?_⟩
  unfold d3
  refine ⟨((sub2 (pt one 0) (pt one j)).1, m * (sub2 (pt one 0) (pt one j)).2), sub2 (pt other 0) (pt other j), rfl, vb.mono (by decide), ?_⟩
  unfold d3
  refine ⟨((sub2 (pt one 0) (pt one j)).1, m * (sub2 (pt one 0) (pt one j)).2), ((sub2 (pt one 0) (pt one j)).1, m * (sub2 (pt one 0) (pt one j)).2), rfl, vb, ?_⟩
  have e0_ := atI_pt (pl := one) (i := 0) (by decide) (by omega)
  unfold d3 e0_
  refine ⟨by decide, rawMv one other j m, pt one 0, kx1 one other j m, r1, ?_⟩
  have z1 : dot ((sub2 (pt one 0) (pt one j)).1, m * (sub2 (pt one 0) (pt one j)).2) (sub2 (pt other 0) (pt other j)) = (rawMv one other j m).c := rfl
  have z2 : crs ((sub2 (pt one 0) (pt one j)).1, m * (sub2 (pt one 0) (pt one j)).2) (sub2 (pt other 0) (pt other j)) = (rawMv one other j m).s := rfl
  have z3 : m = (rawMv one other j m).m := rfl
  have z4 : dot ((sub2 (pt one 0) (pt one j)).1, m * (sub2 (pt one 0) (pt one j)).2) ((sub2 (pt one 0) (pt one j)).1, m * (sub2 (pt one 0) (pt one j)).2) = (rawMv one other j m).d := rfl
  have e0_ := atI_pt (pl := other) (i := 0) (by decide) (by omega)
  unfold d3 e0_ pairD z1 z2 z4
  refine ⟨mulD_r (by omega) (by omega), mulD_r (by omega) (by omega), by decide, shiftMv one other (rawMv one other j m), kx2 one other (rawMv one other j m), ?_, ?_, ?_⟩
  · have := r1.2.2.2.1
    show 0 < (rawMv one other j m).d
    omega
  · show (rawMv one other j m).d < 2 ^ 64
    omega
  · exact ⟨DH, DSub.refl _, h⟩
end DL

local macro_rules
  | `(tactic| unfold dd $ls*) => `(tactic| try simp only [↓DL.dVar_e, ↓DL.dC_e, ↓DL.dOp_e, ↓DL.dUn_e, ↓DL.dB_e, ↓DL.dChain_e, ↓DL.dAnd_e, ↓DL.dOr_e, ↓DL.dNot_e, ↓DL.dAndV_e, ↓DL.dOrV_e, ↓DL.dNotV_e, ↓DL.dIf_e, ↓DL.dNil_e, ↓DL.dCons_e, ↓DL.dTup_e, ↓DL.dLst_e, ↓DL.dCB_e, ↓DL.dNext_e, ↓DL.dSeq_e, ↓DL.dCont_e, ↓DL.dBreak_e, ↓DL.dDrop_e, ↓DL.dRet_e, ↓DL.dRetN_e, ↓DL.dIfS_e, ↓DL.gN_e, ↓DL.gNilD_e, ↓DL.gConsD_e, ↓DL.gT_e, ↓DL.dAsg_e, ↓DL.dPar_e, ↓DL.dPar3_e, ↓DL.dYes_e, ↓DL.dISeq_e, ↓DL.dIRg1_e, ↓DL.dIRg2_e, ↓DL.dIEnum_e, ↓DL.dIZip_e, ↓DL.rIntD_e, ↓DL.rNegD_e, ↓DL.rEq_intF, ↓DL.rEq_intT, ↓DL.rAddD_e, ↓DL.rMulD_e, ↓DL.rIxD_e, ↓DL.rI1_e, ↓DL.rI2_e, ↓DL.rIntCD_e, ↓DL.rSumD_e, ↓DL.rAllD_e, ↓DL.rIsiD_e, ↓DL.rLenD_e, ↓DL.rTupD_e, ↓DL.rLstD_e, ↓DL.rIsN_e, ↓DL.rSlD_e, ↓DL.dSl_e, ↓DL.dNoPart_e, ↓DL.dPart_e, ↓DL.dRev_e, ↓DL.dGet_e, ↓DL.dIn_e, ↓DL.dStore_e, ↓DL.dBM0_e, ↓DL.dBM_e, ↓DL.dDisp_e, ↓DL.mAppend_e, ↓DL.mPop_e, ↓DL.dNewK_e, ↓DL.dNewT_e, ↓DL.dLstM_e, ↓DL.dFrz_e, ↓DL.rReprD_e, ↓DL.rNeS_e, ↓DL.rEqS_e, ↓DL.asB_e, ↓DL.walkD_e, ↓DL.lookD_e, ↓DL.storeD_e, ↓DL.ofTy_e, ↓DL.onLst_e, DL.bodyE, DL.dstart, DL.dPairs, DL.dwipe, DL.keysOf, DL.keyD, DL.isNon, DL.peek_int, DL.peek_bl, DL.peek_non, DL.peek_str, DL.peek_tup, DL.peek_lst, DL.seqOf_tup, DL.seqOf_lst, DL.listOf_lst, DL.tyOf, DL.isTy, DL.atI0, DL.atI1, DL.atI2, DL.atI3, DL.atI4, DL.atI5, DL.dupd_same, DL.dupd_dupd, List.map_cons, List.map_nil, List.length_cons, List.length_nil, List.cons_append, List.nil_append, List.replicate_succ, List.replicate_zero, Nat.reduceAdd, Nat.reduceSub, Nat.zero_add, List.getElem?_cons_zero, List.getElem?_cons_succ, List.set_cons_zero, List.set_cons_succ, true_and, and_true, Int.toNat_natCast, if_true, if_false, Bool.false_eq_true, reduceCtorEq, ne_eq, not_false_eq_true, not_true_eq_false, decide_eq_true_eq, Bool.not_eq_true', decide_eq_false_iff_not, Option.bind_some, Option.map_some, $[$ls:term],*])
local macro_rules
  | `(tactic| unfold d2 $ls*) => `(tactic| try simp only [↓DL.dFor_e, ↓DL.dLc_e, ↓DL.dVar_e, ↓DL.dC_e, ↓DL.dOp_e, ↓DL.dUn_e, ↓DL.dB_e, ↓DL.dChain_e, ↓DL.dAnd_e, ↓DL.dOr_e, ↓DL.dNot_e, ↓DL.dAndV_e, ↓DL.dOrV_e, ↓DL.dNotV_e, ↓DL.dIf_e, ↓DL.dNil_e, ↓DL.dCons_e, ↓DL.dTup_e, ↓DL.dLst_e, ↓DL.dCB_e, ↓DL.dNext_e, ↓DL.dSeq_e, ↓DL.dCont_e, ↓DL.dBreak_e, ↓DL.dDrop_e, ↓DL.dRet_e, ↓DL.dRetN_e, ↓DL.dIfS_e, ↓DL.gN_e, ↓DL.gNilD_e, ↓DL.gConsD_e, ↓DL.gT_e, ↓DL.dAsg_e, ↓DL.dPar_e, ↓DL.dPar3_e, ↓DL.dYes_e, ↓DL.dISeq_e, ↓DL.dIRg1_e, ↓DL.dIRg2_e, ↓DL.dIEnum_e, ↓DL.dIZip_e, ↓DL.rIntD_e, ↓DL.rNegD_e, ↓DL.rEq_intF, ↓DL.rEq_intT, ↓DL.rAddD_e, ↓DL.rMulD_e, ↓DL.rIxD_e, ↓DL.rI1_e, ↓DL.rI2_e, ↓DL.rIntCD_e, ↓DL.rSumD_e, ↓DL.rAllD_e, ↓DL.rIsiD_e, ↓DL.rLenD_e, ↓DL.rTupD_e, ↓DL.rLstD_e, ↓DL.rIsN_e, ↓DL.rSlD_e, ↓DL.dSl_e, ↓DL.dNoPart_e, ↓DL.dPart_e, ↓DL.dRev_e, ↓DL.dGet_e, ↓DL.dIn_e, ↓DL.dStore_e, ↓DL.dBM0_e, ↓DL.dBM_e, ↓DL.dDisp_e, ↓DL.mAppend_e, ↓DL.mPop_e, ↓DL.dNewK_e, ↓DL.dNewT_e, ↓DL.dLstM_e, ↓DL.dFrz_e, ↓DL.rReprD_e, ↓DL.rNeS_e, ↓DL.rEqS_e, ↓DL.asB_e, ↓DL.walkD_e, ↓DL.lookD_e, ↓DL.storeD_e, ↓DL.ofTy_e, ↓DL.onLst_e, DL.bodyE, DL.dstart, DL.dPairs, DL.dwipe, DL.keysOf, DL.keyD, DL.isNon, DL.peek_int, DL.peek_bl, DL.peek_non, DL.peek_str, DL.peek_tup, DL.peek_lst, DL.seqOf_tup, DL.seqOf_lst, DL.listOf_lst, DL.tyOf, DL.isTy, DL.atI0, DL.atI1, DL.atI2, DL.atI3, DL.atI4, DL.atI5, DL.dupd_same, DL.dupd_dupd, List.map_cons, List.map_nil, List.length_cons, List.length_nil, List.cons_append, List.nil_append, List.replicate_succ, List.replicate_zero, Nat.reduceAdd, Nat.reduceSub, Nat.zero_add, List.getElem?_cons_zero, List.getElem?_cons_succ, List.set_cons_zero, List.set_cons_succ, true_and, and_true, Int.toNat_natCast, if_true, if_false, Bool.false_eq_true, reduceCtorEq, ne_eq, not_false_eq_true, not_true_eq_false, decide_eq_true_eq, Bool.not_eq_true', decide_eq_false_iff_not, Option.bind_some, Option.map_some, $[$ls:term],*])
local macro_rules
  | `(tactic| unfold d3 $ls*) => `(tactic| try simp only [↓DL.dLstRg1_e, ↓DL.dLstRg2_e, ↓DL.rSortD_e, ↓DL.rMaxL_e, ↓DL.rMinL_e, ↓DL.tell_F, ↓DL.tell_T, DL.ints_map, DL.bls_map, DL.pairs_map, ↓DL.dFor_e, ↓DL.dLc_e, ↓DL.dVar_e, ↓DL.dC_e, ↓DL.dOp_e, ↓DL.dUn_e, ↓DL.dB_e, ↓DL.dChain_e, ↓DL.dAnd_e, ↓DL.dOr_e, ↓DL.dNot_e, ↓DL.dAndV_e, ↓DL.dOrV_e, ↓DL.dNotV_e, ↓DL.dIf_e, ↓DL.dNil_e, ↓DL.dCons_e, ↓DL.dTup_e, ↓DL.dLst_e, ↓DL.dCB_e, ↓DL.dNext_e, ↓DL.dSeq_e, ↓DL.dCont_e, ↓DL.dBreak_e, ↓DL.dDrop_e, ↓DL.dRet_e, ↓DL.dRetN_e, ↓DL.dIfS_e, ↓DL.gN_e, ↓DL.gNilD_e, ↓DL.gConsD_e, ↓DL.gT_e, ↓DL.dAsg_e, ↓DL.dPar_e, ↓DL.dPar3_e, ↓DL.dYes_e, ↓DL.dISeq_e, ↓DL.dIRg1_e, ↓DL.dIRg2_e, ↓DL.dIEnum_e, ↓DL.dIZip_e, ↓DL.rIntD_e, ↓DL.rNegD_e, ↓DL.rEq_intF, ↓DL.rEq_intT, ↓DL.rAddD_e, ↓DL.rMulD_e, ↓DL.rIxD_e, ↓DL.rI1_e, ↓DL.rI2_e, ↓DL.rIntCD_e, ↓DL.rSumD_e, ↓DL.rAllD_e, ↓DL.rIsiD_e, ↓DL.rLenD_e, ↓DL.rTupD_e, ↓DL.rLstD_e, ↓DL.rIsN_e, ↓DL.rSlD_e, ↓DL.dSl_e, ↓DL.dNoPart_e, ↓DL.dPart_e, ↓DL.dRev_e, ↓DL.dGet_e, ↓DL.dIn_e, ↓DL.dStore_e, ↓DL.dBM0_e, ↓DL.dBM_e, ↓DL.dDisp_e, ↓DL.mAppend_e, ↓DL.mPop_e, ↓DL.dNewK_e, ↓DL.dNewT_e, ↓DL.dLstM_e, ↓DL.dFrz_e, ↓DL.rReprD_e, ↓DL.rNeS_e, ↓DL.rEqS_e, ↓DL.asB_e, ↓DL.walkD_e, ↓DL.lookD_e, ↓DL.storeD_e, ↓DL.ofTy_e, ↓DL.onLst_e, DL.bodyE, DL.dstart, DL.dPairs, DL.dwipe, DL.keysOf, DL.keyD, DL.isNon, DL.peek_int, DL.peek_bl, DL.peek_non, DL.peek_str, DL.peek_tup, DL.peek_lst, DL.seqOf_tup, DL.seqOf_lst, DL.listOf_lst, DL.tyOf, DL.isTy, DL.atI0, DL.atI1, DL.atI2, DL.atI3, DL.atI4, DL.atI5, DL.dupd_same, DL.dupd_dupd, List.map_cons, List.map_nil, List.length_cons, List.length_nil, List.cons_append, List.nil_append, List.replicate_succ, List.replicate_zero, Nat.reduceAdd, Nat.reduceSub, Nat.zero_add, List.getElem?_cons_zero, List.getElem?_cons_succ, List.set_cons_zero, List.set_cons_succ, true_and, and_true, Int.toNat_natCast, if_true, if_false, Bool.false_eq_true, reduceCtorEq, ne_eq, not_false_eq_true, not_true_eq_false, decide_eq_true_eq, Bool.not_eq_true', decide_eq_false_iff_not, Option.bind_some, Option.map_some, $[$ls:term],*])
namespace DL
open PySem PySem.Spec PyProof.Rows L2
/-! P04c: the move between, and the paper. -/
theorem divB {n g b : Int} (hg : 1 ≤ g) (h0 : -b ≤ n) (h1 : n ≤ b) (hb : 0 ≤ b) : -b ≤ n / g ∧ n / g ≤ b := by
  have le : b * 1 ≤ b * g := Int.mul_le_mul_of_nonneg_left hg hb
  constructor
  · refine Int.le_ediv_of_mul_le (by omega) ?_
    rw [Int.neg_mul]
    omega
  · exact Int.ediv_le_of_le_mul (by omega) (by omega)
theorem lower_W {v : Mv} (h : MvW v) : MvW (lowerMv v) := by
  obtain ⟨⟨c0, c1⟩, ⟨s0, s1⟩, hm, d0, d1⟩ := h
  obtain ⟨g1, g2⟩ := gcdL_pos (c := v.c) (s := v.s) (x := v.x) (y := v.y) (d := v.d) (by omega)
  have g3 : 1 ≤ ((gcdL [v.c, v.s, v.d, v.x, v.y] : Nat) : Int) := by omega
  refine ⟨divB g3 c0 c1 (by decide), divB g3 s0 s1 (by decide), hm, ?_, (divB g3 (by omega) d1 (by decide)).2⟩
  exact Int.le_ediv_of_mul_le (by omega) (by omega)
theorem turn_W {one other : List (Int × Int)} (T : TwoOk one other) {j m : Int} (j0 : 0 ≤ j) (j1 : j < one.length) (hm : m = 1 ∨ m = -1) (hj : pt one j ≠ pt one 0) : MvW (turnMv one other j m) := by
  have r := (raw_ok T j0 j1 hm hj).1
  exact lower_W (v := shiftMv one other (rawMv one other j m)) r
def betweenMv (one other : List (Int × Int)) : Mv := match apartI one with
  | none => ⟨1, 0, 1, 1, (pt other 0).1 - (pt one 0).1, (pt other 0).2 - (pt one 0).2⟩
  | some j => match offI one j with
    | none => turnMv one other j 1
    | some _ => if takes (turnMv one other j 1) one other = true then turnMv one other j 1 else turnMv one other j (-1)
def sp_move_between : DSp := fun ds DH Q => ∃ one other, ds = [.tup (pairsL one), .tup (pairsL other)] ∧ TwoOk one other ∧ Q (mvD (betweenMv one other)) DH
/-! ### move_between -/
def rd_move_between : DS :=
  (dSeq (dAsg (dCB sp_apartF (dCons (dVar 0) dNil)) (gN 2))
    (dSeq (dIfS (dB (dOp (rIsN false) (dVar 2) (dC .non))) (dRet (dTup (dCons (dC (.int 1)) (dCons (dC (.int 0)) (dCons (dC (.int 1)) (dCons (dC (.int 1)) (dCons (dOp (rIntD (fun _ _ => True) fun i j => .int (i - j)) (dOp rIxD (dOp rIxD (dVar 1) (dC (.int 0))) (dC (.int 0))) (dOp rIxD (dOp rIxD (dVar 0) (dC (.int 0))) (dC (.int 0)))) (dCons (dOp (rIntD (fun _ _ => True) fun i j => .int (i - j)) (dOp rIxD (dOp rIxD (dVar 1) (dC (.int 0))) (dC (.int 1))) (dOp rIxD (dOp rIxD (dVar 0) (dC (.int 0))) (dC (.int 1)))) dNil)))))))) dNext)
    (dSeq (dAsg (dCB sp_turn_of (dCons (dVar 0) (dCons (dVar 1) (dCons (dVar 2) (dCons (dC (.int 1)) dNil))))) (gN 3))
    (dSeq (dAsg (dCB sp_offF (dCons (dVar 0) (dCons (dVar 2) dNil))) (gN 4))
    (dSeq (dIfS (dOr (dB (dOp (rIsN false) (dVar 4) (dC .non))) (dB (dCB sp_does_takeW (dCons (dVar 3) (dCons (dVar 0) (dCons (dVar 1) dNil)))))) (dRet (dVar 3)) dNext)
    (dRet (dCB sp_turn_of (dCons (dVar 0) (dCons (dVar 1) (dCons (dVar 2) (dCons (dUn rNegD (dC (.int 1))) dNil)))))))))))
theorem move_between_ok {ds : List D} {DH : DHp} {Q : DK} (h : sp_move_between ds DH Q) : rd_move_between (bodyE Q) (dstart ["one", "other", "joint", "move", "off"] ds) DH := by
  obtain ⟨one, other, rfl, T, h⟩ := h
  have hl := T.len
  have hp := T.pos
  have hs := T.small
  unfold rd_move_between
  unfold d3
  refine ⟨one, rfl, hp, by omega, ?_⟩
  unfold betweenMv at h
  cases ea : apartI one with
  | none =>
    rw [ea] at h
    have e1_ := atI_pt (pl := one) (i := 0) (by decide) (by omega)
    have e2_ := atI_pt (pl := other) (i := 0) (by decide) (by omega)
    unfold d3 optD e1_ e2_ pairD
    exact ⟨by decide, DH, DSub.refl _, h⟩
  | some j =>
    rw [ea] at h
    simp only at h
    obtain ⟨j0, j1, fj⟩ := firstI_some ea
    have hj : pt one j ≠ pt one 0 := by simpa using fj
    unfold d3 optD
    refine ⟨one, other, j, 1, rfl, T, j0, j1, .inl rfl, hj, ?_⟩
    unfold d3
    refine ⟨one, j, rfl, j0, j1, by omega, fun p hp => (T.in1 p hp).mono (by decide), ?_⟩
    cases eo : offI one j with
    | none =>
      rw [eo] at h
      simp only at h
      unfold d3 optD
      exact ⟨DH, DSub.refl _, h⟩
    | some k =>
      rw [eo] at h
      simp only at h
      unfold d3 optD
      refine ⟨turnMv one other j 1, one, other, rfl, turn_W T j0 j1 (.inl rfl) hj, hl, ?_⟩
      unfold d3
      refine ite2 (fun z => ?_) fun z => ?_
      · simp only [z, if_true] at h
        exact ⟨DH, DSub.refl _, h⟩
      · simp only [z, if_false, Bool.false_eq_true] at h
        exact ⟨one, other, j, -1, rfl, T, j0, j1, .inr rfl, hj, DH, DSub.refl _, h⟩
def paperD (one other : List (Int × Int)) : D := match (allP one.length).find? (unl one other) with
  | some q => .tup [.str (Str.ofString "pair"), .int q.1, .int q.2]
  | none => .tup [.str (Str.ofString "move"), mvD (betweenMv one other)]
def sp_move_paper : DSp := fun ds DH Q => ∃ one other, ds = [.tup (pairsL one), .tup (pairsL other)] ∧ TwoOk one other ∧ Q (paperD one other) DH
/-! ### move_paper -/
def rd_move_paper : DS :=
  (dSeq (dAsg (dCB sp_unlike_pair (dCons (dVar 0) (dCons (dVar 1) dNil))) (gN 2))
    (dRet (dIf (dB (dOp (rIsN true) (dVar 2) (dC .non))) (dTup (dCons (dC (.str (Str.ofString "pair"))) (dStar (dVar 2) dNil))) (dTup (dCons (dC (.str (Str.ofString "move"))) (dCons (dCB sp_move_between (dCons (dVar 0) (dCons (dVar 1) dNil))) dNil))))))
theorem move_paper_ok {ds : List D} {DH : DHp} {Q : DK} (h : sp_move_paper ds DH Q) : rd_move_paper (bodyE Q) (dstart ["one", "other", "pair"] ds) DH := by
  obtain ⟨one, other, rfl, T, h⟩ := h
  unfold rd_move_paper
  unfold d3
  refine ⟨one, other, rfl, T.len, T.small, fun p hp => (T.in1 p hp).mono (by decide), fun p hp => (T.in2 p hp).mono (by decide), ?_⟩
  unfold paperD at h
  cases e : (allP one.length).find? (unl one other) with
  | none =>
    rw [e] at h
    simp only at h
    unfold d3 foundD
    exact ⟨one, other, rfl, T, by decide, DH, DSub.refl _, h⟩
  | some q =>
    rw [e] at h
    simp only at h
    unfold d3 foundD pairD dStar_e
    exact ⟨by decide, DH, DSub.refl _, h⟩
end DL

local macro_rules
  | `(tactic| unfold dd $ls*) => `(tactic| try simp only [↓DL.dVar_e, ↓DL.dC_e, ↓DL.dOp_e, ↓DL.dUn_e, ↓DL.dB_e, ↓DL.dChain_e, ↓DL.dAnd_e, ↓DL.dOr_e, ↓DL.dNot_e, ↓DL.dAndV_e, ↓DL.dOrV_e, ↓DL.dNotV_e, ↓DL.dIf_e, ↓DL.dNil_e, ↓DL.dCons_e, ↓DL.dTup_e, ↓DL.dLst_e, ↓DL.dCB_e, ↓DL.dNext_e, ↓DL.dSeq_e, ↓DL.dCont_e, ↓DL.dBreak_e, ↓DL.dDrop_e, ↓DL.dRet_e, ↓DL.dRetN_e, ↓DL.dIfS_e, ↓DL.gN_e, ↓DL.gNilD_e, ↓DL.gConsD_e, ↓DL.gT_e, ↓DL.dAsg_e, ↓DL.dPar_e, ↓DL.dPar3_e, ↓DL.dYes_e, ↓DL.dISeq_e, ↓DL.dIRg1_e, ↓DL.dIRg2_e, ↓DL.dIEnum_e, ↓DL.dIZip_e, ↓DL.rIntD_e, ↓DL.rNegD_e, ↓DL.rEq_intF, ↓DL.rEq_intT, ↓DL.rAddD_e, ↓DL.rMulD_e, ↓DL.rIxD_e, ↓DL.rI1_e, ↓DL.rI2_e, ↓DL.rIntCD_e, ↓DL.rSumD_e, ↓DL.rAllD_e, ↓DL.rIsiD_e, ↓DL.rLenD_e, ↓DL.rTupD_e, ↓DL.rLstD_e, ↓DL.rIsN_e, ↓DL.rSlD_e, ↓DL.dSl_e, ↓DL.dNoPart_e, ↓DL.dPart_e, ↓DL.dRev_e, ↓DL.dGet_e, ↓DL.dIn_e, ↓DL.dStore_e, ↓DL.dBM0_e, ↓DL.dBM_e, ↓DL.dDisp_e, ↓DL.mAppend_e, ↓DL.mPop_e, ↓DL.dNewK_e, ↓DL.dNewT_e, ↓DL.dLstM_e, ↓DL.dFrz_e, ↓DL.rReprD_e, ↓DL.rNeS_e, ↓DL.rEqS_e, ↓DL.asB_e, ↓DL.walkD_e, ↓DL.lookD_e, ↓DL.storeD_e, ↓DL.ofTy_e, ↓DL.onLst_e, DL.bodyE, DL.dstart, DL.dPairs, DL.dwipe, DL.keysOf, DL.keyD, DL.isNon, DL.peek_int, DL.peek_bl, DL.peek_non, DL.peek_str, DL.peek_tup, DL.peek_lst, DL.seqOf_tup, DL.seqOf_lst, DL.listOf_lst, DL.tyOf, DL.isTy, DL.atI0, DL.atI1, DL.atI2, DL.atI3, DL.atI4, DL.atI5, DL.dupd_same, DL.dupd_dupd, List.map_cons, List.map_nil, List.length_cons, List.length_nil, List.cons_append, List.nil_append, List.replicate_succ, List.replicate_zero, Nat.reduceAdd, Nat.reduceSub, Nat.zero_add, List.getElem?_cons_zero, List.getElem?_cons_succ, List.set_cons_zero, List.set_cons_succ, true_and, and_true, Int.toNat_natCast, if_true, if_false, Bool.false_eq_true, reduceCtorEq, ne_eq, not_false_eq_true, not_true_eq_false, decide_eq_true_eq, Bool.not_eq_true', decide_eq_false_iff_not, Option.bind_some, Option.map_some, $[$ls:term],*])
local macro_rules
  | `(tactic| unfold d2 $ls*) => `(tactic| try simp only [↓DL.dFor_e, ↓DL.dLc_e, ↓DL.dVar_e, ↓DL.dC_e, ↓DL.dOp_e, ↓DL.dUn_e, ↓DL.dB_e, ↓DL.dChain_e, ↓DL.dAnd_e, ↓DL.dOr_e, ↓DL.dNot_e, ↓DL.dAndV_e, ↓DL.dOrV_e, ↓DL.dNotV_e, ↓DL.dIf_e, ↓DL.dNil_e, ↓DL.dCons_e, ↓DL.dTup_e, ↓DL.dLst_e, ↓DL.dCB_e, ↓DL.dNext_e, ↓DL.dSeq_e, ↓DL.dCont_e, ↓DL.dBreak_e, ↓DL.dDrop_e, ↓DL.dRet_e, ↓DL.dRetN_e, ↓DL.dIfS_e, ↓DL.gN_e, ↓DL.gNilD_e, ↓DL.gConsD_e, ↓DL.gT_e, ↓DL.dAsg_e, ↓DL.dPar_e, ↓DL.dPar3_e, ↓DL.dYes_e, ↓DL.dISeq_e, ↓DL.dIRg1_e, ↓DL.dIRg2_e, ↓DL.dIEnum_e, ↓DL.dIZip_e, ↓DL.rIntD_e, ↓DL.rNegD_e, ↓DL.rEq_intF, ↓DL.rEq_intT, ↓DL.rAddD_e, ↓DL.rMulD_e, ↓DL.rIxD_e, ↓DL.rI1_e, ↓DL.rI2_e, ↓DL.rIntCD_e, ↓DL.rSumD_e, ↓DL.rAllD_e, ↓DL.rIsiD_e, ↓DL.rLenD_e, ↓DL.rTupD_e, ↓DL.rLstD_e, ↓DL.rIsN_e, ↓DL.rSlD_e, ↓DL.dSl_e, ↓DL.dNoPart_e, ↓DL.dPart_e, ↓DL.dRev_e, ↓DL.dGet_e, ↓DL.dIn_e, ↓DL.dStore_e, ↓DL.dBM0_e, ↓DL.dBM_e, ↓DL.dDisp_e, ↓DL.mAppend_e, ↓DL.mPop_e, ↓DL.dNewK_e, ↓DL.dNewT_e, ↓DL.dLstM_e, ↓DL.dFrz_e, ↓DL.rReprD_e, ↓DL.rNeS_e, ↓DL.rEqS_e, ↓DL.asB_e, ↓DL.walkD_e, ↓DL.lookD_e, ↓DL.storeD_e, ↓DL.ofTy_e, ↓DL.onLst_e, DL.bodyE, DL.dstart, DL.dPairs, DL.dwipe, DL.keysOf, DL.keyD, DL.isNon, DL.peek_int, DL.peek_bl, DL.peek_non, DL.peek_str, DL.peek_tup, DL.peek_lst, DL.seqOf_tup, DL.seqOf_lst, DL.listOf_lst, DL.tyOf, DL.isTy, DL.atI0, DL.atI1, DL.atI2, DL.atI3, DL.atI4, DL.atI5, DL.dupd_same, DL.dupd_dupd, List.map_cons, List.map_nil, List.length_cons, List.length_nil, List.cons_append, List.nil_append, List.replicate_succ, List.replicate_zero, Nat.reduceAdd, Nat.reduceSub, Nat.zero_add, List.getElem?_cons_zero, List.getElem?_cons_succ, List.set_cons_zero, List.set_cons_succ, true_and, and_true, Int.toNat_natCast, if_true, if_false, Bool.false_eq_true, reduceCtorEq, ne_eq, not_false_eq_true, not_true_eq_false, decide_eq_true_eq, Bool.not_eq_true', decide_eq_false_iff_not, Option.bind_some, Option.map_some, $[$ls:term],*])
local macro_rules
  | `(tactic| unfold d3 $ls*) => `(tactic| try simp only [↓DL.dLstRg1_e, ↓DL.dLstRg2_e, ↓DL.rSortD_e, ↓DL.rMaxL_e, ↓DL.rMinL_e, ↓DL.tell_F, ↓DL.tell_T, DL.ints_map, DL.bls_map, DL.pairs_map, ↓DL.dFor_e, ↓DL.dLc_e, ↓DL.dVar_e, ↓DL.dC_e, ↓DL.dOp_e, ↓DL.dUn_e, ↓DL.dB_e, ↓DL.dChain_e, ↓DL.dAnd_e, ↓DL.dOr_e, ↓DL.dNot_e, ↓DL.dAndV_e, ↓DL.dOrV_e, ↓DL.dNotV_e, ↓DL.dIf_e, ↓DL.dNil_e, ↓DL.dCons_e, ↓DL.dTup_e, ↓DL.dLst_e, ↓DL.dCB_e, ↓DL.dNext_e, ↓DL.dSeq_e, ↓DL.dCont_e, ↓DL.dBreak_e, ↓DL.dDrop_e, ↓DL.dRet_e, ↓DL.dRetN_e, ↓DL.dIfS_e, ↓DL.gN_e, ↓DL.gNilD_e, ↓DL.gConsD_e, ↓DL.gT_e, ↓DL.dAsg_e, ↓DL.dPar_e, ↓DL.dPar3_e, ↓DL.dYes_e, ↓DL.dISeq_e, ↓DL.dIRg1_e, ↓DL.dIRg2_e, ↓DL.dIEnum_e, ↓DL.dIZip_e, ↓DL.rIntD_e, ↓DL.rNegD_e, ↓DL.rEq_intF, ↓DL.rEq_intT, ↓DL.rAddD_e, ↓DL.rMulD_e, ↓DL.rIxD_e, ↓DL.rI1_e, ↓DL.rI2_e, ↓DL.rIntCD_e, ↓DL.rSumD_e, ↓DL.rAllD_e, ↓DL.rIsiD_e, ↓DL.rLenD_e, ↓DL.rTupD_e, ↓DL.rLstD_e, ↓DL.rIsN_e, ↓DL.rSlD_e, ↓DL.dSl_e, ↓DL.dNoPart_e, ↓DL.dPart_e, ↓DL.dRev_e, ↓DL.dGet_e, ↓DL.dIn_e, ↓DL.dStore_e, ↓DL.dBM0_e, ↓DL.dBM_e, ↓DL.dDisp_e, ↓DL.mAppend_e, ↓DL.mPop_e, ↓DL.dNewK_e, ↓DL.dNewT_e, ↓DL.dLstM_e, ↓DL.dFrz_e, ↓DL.rReprD_e, ↓DL.rNeS_e, ↓DL.rEqS_e, ↓DL.asB_e, ↓DL.walkD_e, ↓DL.lookD_e, ↓DL.storeD_e, ↓DL.ofTy_e, ↓DL.onLst_e, DL.bodyE, DL.dstart, DL.dPairs, DL.dwipe, DL.keysOf, DL.keyD, DL.isNon, DL.peek_int, DL.peek_bl, DL.peek_non, DL.peek_str, DL.peek_tup, DL.peek_lst, DL.seqOf_tup, DL.seqOf_lst, DL.listOf_lst, DL.tyOf, DL.isTy, DL.atI0, DL.atI1, DL.atI2, DL.atI3, DL.atI4, DL.atI5, DL.dupd_same, DL.dupd_dupd, List.map_cons, List.map_nil, List.length_cons, List.length_nil, List.cons_append, List.nil_append, List.replicate_succ, List.replicate_zero, Nat.reduceAdd, Nat.reduceSub, Nat.zero_add, List.getElem?_cons_zero, List.getElem?_cons_succ, List.set_cons_zero, List.set_cons_succ, true_and, and_true, Int.toNat_natCast, if_true, if_false, Bool.false_eq_true, reduceCtorEq, ne_eq, not_false_eq_true, not_true_eq_false, decide_eq_true_eq, Bool.not_eq_true', decide_eq_false_iff_not, Option.bind_some, Option.map_some, $[$ls:term],*])
namespace DL
open PySem PySem.Spec PyProof.Rows L2
/-! P04d: what the law itself asks. -/
abbrev sp_law_unlike : DSp := sp_unlike_pair
/-! ### _law_unlike -/
def rd_law_unlike : DS :=
  (dSeq (dAsg (dLc false (dISeq (dCB sp_law_pairs (dCons (dCB rLenD (dCons (dVar 0) dNil)) dNil))) (gT 2 (gConsD (gN 3) (gConsD (gN 4) gNilD))) (dB (dOp (rEqD true) (dCB sp_squareW (dCons (dVar 0) (dCons (dVar 3) (dCons (dVar 4) dNil)))) (dCB sp_squareW (dCons (dVar 1) (dCons (dVar 3) (dCons (dVar 4) dNil)))))) (dTup (dCons (dVar 3) (dCons (dVar 4) dNil))) [3, 4]) (gN 2))
    (dRet (dIf (dB (dOp (rEqD true) (dVar 2) (dLst dNil))) (dOp rIxD (dVar 2) (dC (.int 0))) (dC .non))))
theorem law_unlike_ok {ds : List D} {DH : DHp} {Q : DK} (h : sp_unlike_pair ds DH Q) : rd_law_unlike (bodyE Q) (dstart ["one", "other", "some", "a", "b"] ds) DH := by
  obtain ⟨p1, p2, rfl, hl, hs, h1, h2, h⟩ := h
  unfold rd_law_unlike
  unfold d3 pairsL_length
  refine ⟨(p1.length : Int), rfl, by omega, by omega, ?_⟩
  have la := allP_length (p1.length : Int) (by omega)
  unfold d3 pairsL_length
  refine ⟨size_leM (by omega), comp_filter (fun x => match x with | .tup [.int a, .int b] => unl p1 p2 (a, b) | _ => false) id trivial _ _ (fun x hx Q Z q z => ?_) ?_⟩
  · obtain ⟨w, hw, rfl⟩ := List.mem_map.mp hx
    have := mem_allP hw
    unfold d3 pairD
    refine ⟨p1, w.1, w.2, rfl, h1, by omega, by omega, by omega, by omega, ?_⟩
    unfold d3
    refine ⟨p2, w.1, w.2, rfl, h2, by omega, by omega, by omega, by omega, ?_⟩
    unfold d3
    refine ite2 (fun y => ⟨by decide, ?_⟩) fun y => ?_
    · exact q (by simp [pairD, unl, y])
    · exact z (by simpa [pairD, unl] using y)
  · have ef : (pairsL (allP p1.length)).filter (fun x => match x with | .tup [.int a, .int b] => unl p1 p2 (a, b) | _ => false) = pairsL ((allP p1.length).filter (unl p1 p2)) := by
      unfold pairsL
      rw [List.filter_map]
      rfl
    rw [List.nil_append, List.map_id, ef]
    rw [← List.head?_filter] at h
    have fm : ∀ q ∈ (allP (p1.length : Int)).filter (unl p1 p2), q ∈ allP (p1.length : Int) := fun q hq => (List.mem_filter.mp hq).1
    generalize (allP (p1.length : Int)).filter (unl p1 p2) = F at *
    have pF : plainL (pairsL F) = true := smL_plain (k := 70) _ (pairs_sm fun q hq => by
      have := mem_allP (fm q hq)
      exact ⟨sm_int (by omega) (by omega), sm_int (by omega) (by omega)⟩)
    cases F with
    | nil =>
      have e0 := rEq_nilT (xs := []) rfl
      have ep : pairsL [] = [] := rfl
      unfold d3 ep e0 List.isEmpty_nil
      exact ⟨by decide, DH, DSub.refl _, h⟩
    | cons q F =>
      have e0 := rEq_nilT (xs := pairD q :: pairsL F) pF
      unfold d3 pairsL_cons e0 List.isEmpty_cons
      exact ⟨by decide, DH, DSub.refl _, h⟩
def sp_law_fives : DSp := fun ds DH Q => ∃ a pl, ds = [.ref a, .tup (pairsL pl)] ∧ DH a = some .src ∧ pl.length ≤ 1000 ∧ (∀ p ∈ pl, InB 100 p) ∧ ∀ p1 p2 : List (Int × Int), p1.length = pl.length → p2.length = pl.length → (∀ p ∈ p1, InB 10000 p) → (∀ p ∈ p2, InB 10000 p) → Q (.tup [.tup (pairsL p1), .tup (pairsL p2)]) DH
/-! ### _law_fives -/
def rd_law_fives : DS :=
  (dSeq (dAsg (dCB sp_law_of (dCons (dVar 0) (dCons (dLst (dCons (dC (.int 1)) (dCons (dUn rNegD (dC (.int 1))) dNil))) dNil))) (gN 2))
    (dSeq (dAsg (dCB rTupD (dCons (dLc false (dISeq (dVar 1)) (gT 2 (gConsD (gN 4) (gConsD (gN 5) gNilD))) dYes (dTup (dCons (dOp rMulD (dC (.int 5)) (dVar 4)) (dCons (dOp rMulD (dC (.int 5)) (dVar 5)) dNil))) [4, 5]) dNil)) (gN 3))
    (dRet (dTup (dCons (dVar 3) (dCons (dCB rTupD (dCons (dLc false (dISeq (dVar 1)) (gT 2 (gConsD (gN 4) (gConsD (gN 5) gNilD))) dYes (dTup (dCons (dOp rAddD (dOp (rIntD (fun _ _ => True) fun i j => .int (i - j)) (dOp rMulD (dC (.int 3)) (dVar 4)) (dOp rMulD (dOp rMulD (dVar 2) (dC (.int 4))) (dVar 5))) (dC (.int 7))) (dCons (dOp (rIntD (fun _ _ => True) fun i j => .int (i - j)) (dOp rAddD (dOp rMulD (dC (.int 4)) (dVar 4)) (dOp rMulD (dOp rMulD (dVar 2) (dC (.int 3))) (dVar 5))) (dC (.int 2))) dNil))) [4, 5]) dNil)) dNil))))))
theorem law_fives_ok {ds : List D} {DH : DHp} {Q : DK} (h : sp_law_fives ds DH Q) : rd_law_fives (bodyE Q) (dstart ["source", "places", "mirror", "one", "x", "y"] ds) DH := by
  obtain ⟨a, pl, rfl, ha, hl, hb, h⟩ := h
  unfold rd_law_fives
  unfold d3
  refine ⟨by decide, a, _, _, rfl, ha, rfl, by simp, by simp, fun x hx => ?_⟩
  obtain ⟨m, rfl, hm⟩ : ∃ m : Int, x = .int m ∧ (m = 1 ∨ m = -1) := by
    simp only [List.mem_cons, List.not_mem_nil, or_false] at hx
    rcases hx with rfl | rfl <;> exact ⟨_, rfl, by decide⟩
  unfold d3 pairsL_length
  have m4 : -(2 ^ 64) < m * 4 ∧ m * 4 < 2 ^ 64 := by omega
  have m3 : -(2 ^ 64) < m * 3 ∧ m * 3 < 2 ^ 64 := by omega
  refine ⟨size_leM (by omega), comp_map (fun x => match x with | .tup [.int a, .int b] => pairD (5 * a, 5 * b) | x => x) trivial _ _ (fun x hx Q q => ?_) ?_⟩
  · obtain ⟨w, hw, rfl⟩ := List.mem_map.mp hx
    unfold d3 pairD
    exact ⟨mulD_l (by decide) (by decide), mulD_l (by decide) (by decide), by decide, q⟩
  have e1 : (pairsL pl).map (fun x => match x with | .tup [.int a, .int b] => pairD (5 * a, 5 * b) | x => x) = pairsL (pl.map fun w => (5 * w.1, 5 * w.2)) := by
    unfold pairsL
    rw [List.map_map, List.map_map]
    rfl
  rw [List.nil_append, e1]
  refine ⟨size_leM (by omega), comp_map (fun x => match x with | .tup [.int a, .int b] => pairD (3 * a - m * 4 * b + 7, 4 * a + m * 3 * b - 2) | x => x) trivial _ _ (fun x hx Q q => ?_) ?_⟩
  · obtain ⟨w, hw, rfl⟩ := List.mem_map.mp hx
    unfold d3 pairD
    exact ⟨mulD_l (by decide) (by decide), mulD_r (by decide) (by decide), mulD_l m4.1 m4.2, mulD_l (by decide) (by decide), mulD_r (by decide) (by decide), mulD_l m3.1 m3.2, by decide, q⟩
  have e2 : (pairsL pl).map (fun x => match x with | .tup [.int a, .int b] => pairD (3 * a - m * 4 * b + 7, 4 * a + m * 3 * b - 2) | x => x) = pairsL (pl.map fun w => (3 * w.1 - m * 4 * w.2 + 7, 4 * w.1 + m * 3 * w.2 - 2)) := by
    unfold pairsL
    rw [List.map_map, List.map_map]
    rfl
  rw [List.nil_append, e2]
  refine ⟨by decide, DH, DSub.refl _, h _ _ (by simp) (by simp) (fun p hp => ?_) fun p hp => ?_⟩
  · obtain ⟨w, hw, rfl⟩ := List.mem_map.mp hp
    obtain ⟨w1, w2, w3, w4⟩ := hb w hw
    exact ⟨by simp only; omega, by simp only; omega, by simp only; omega, by simp only; omega⟩
  · obtain ⟨w, hw, rfl⟩ := List.mem_map.mp hp
    obtain ⟨w1, w2, w3, w4⟩ := hb w hw
    rcases hm with rfl | rfl <;> exact ⟨by simp only; omega, by simp only; omega, by simp only; omega, by simp only; omega⟩
end DL

local macro_rules
  | `(tactic| unfold dd $ls*) => `(tactic| try simp only [↓DL.dVar_e, ↓DL.dC_e, ↓DL.dOp_e, ↓DL.dUn_e, ↓DL.dB_e, ↓DL.dChain_e, ↓DL.dAnd_e, ↓DL.dOr_e, ↓DL.dNot_e, ↓DL.dAndV_e, ↓DL.dOrV_e, ↓DL.dNotV_e, ↓DL.dIf_e, ↓DL.dNil_e, ↓DL.dCons_e, ↓DL.dTup_e, ↓DL.dLst_e, ↓DL.dCB_e, ↓DL.dNext_e, ↓DL.dSeq_e, ↓DL.dCont_e, ↓DL.dBreak_e, ↓DL.dDrop_e, ↓DL.dRet_e, ↓DL.dRetN_e, ↓DL.dIfS_e, ↓DL.gN_e, ↓DL.gNilD_e, ↓DL.gConsD_e, ↓DL.gT_e, ↓DL.dAsg_e, ↓DL.dPar_e, ↓DL.dPar3_e, ↓DL.dYes_e, ↓DL.dISeq_e, ↓DL.dIRg1_e, ↓DL.dIRg2_e, ↓DL.dIEnum_e, ↓DL.dIZip_e, ↓DL.rIntD_e, ↓DL.rNegD_e, ↓DL.rEq_intF, ↓DL.rEq_intT, ↓DL.rAddD_e, ↓DL.rMulD_e, ↓DL.rIxD_e, ↓DL.rI1_e, ↓DL.rI2_e, ↓DL.rIntCD_e, ↓DL.rSumD_e, ↓DL.rAllD_e, ↓DL.rIsiD_e, ↓DL.rLenD_e, ↓DL.rTupD_e, ↓DL.rLstD_e, ↓DL.rIsN_e, ↓DL.rSlD_e, ↓DL.dSl_e, ↓DL.dNoPart_e, ↓DL.dPart_e, ↓DL.dRev_e, ↓DL.dGet_e, ↓DL.dIn_e, ↓DL.dStore_e, ↓DL.dBM0_e, ↓DL.dBM_e, ↓DL.dDisp_e, ↓DL.mAppend_e, ↓DL.mPop_e, ↓DL.dNewK_e, ↓DL.dNewT_e, ↓DL.dLstM_e, ↓DL.dFrz_e, ↓DL.rReprD_e, ↓DL.rNeS_e, ↓DL.rEqS_e, ↓DL.asB_e, ↓DL.walkD_e, ↓DL.lookD_e, ↓DL.storeD_e, ↓DL.ofTy_e, ↓DL.onLst_e, DL.bodyE, DL.dstart, DL.dPairs, DL.dwipe, DL.keysOf, DL.keyD, DL.isNon, DL.peek_int, DL.peek_bl, DL.peek_non, DL.peek_str, DL.peek_tup, DL.peek_lst, DL.seqOf_tup, DL.seqOf_lst, DL.listOf_lst, DL.tyOf, DL.isTy, DL.atI0, DL.atI1, DL.atI2, DL.atI3, DL.atI4, DL.atI5, DL.dupd_same, DL.dupd_dupd, List.map_cons, List.map_nil, List.length_cons, List.length_nil, List.cons_append, List.nil_append, List.replicate_succ, List.replicate_zero, Nat.reduceAdd, Nat.reduceSub, Nat.zero_add, List.getElem?_cons_zero, List.getElem?_cons_succ, List.set_cons_zero, List.set_cons_succ, true_and, and_true, Int.toNat_natCast, if_true, if_false, Bool.false_eq_true, reduceCtorEq, ne_eq, not_false_eq_true, not_true_eq_false, decide_eq_true_eq, Bool.not_eq_true', decide_eq_false_iff_not, Option.bind_some, Option.map_some, $[$ls:term],*])
local macro_rules
  | `(tactic| unfold d2 $ls*) => `(tactic| try simp only [↓DL.dFor_e, ↓DL.dLc_e, ↓DL.dVar_e, ↓DL.dC_e, ↓DL.dOp_e, ↓DL.dUn_e, ↓DL.dB_e, ↓DL.dChain_e, ↓DL.dAnd_e, ↓DL.dOr_e, ↓DL.dNot_e, ↓DL.dAndV_e, ↓DL.dOrV_e, ↓DL.dNotV_e, ↓DL.dIf_e, ↓DL.dNil_e, ↓DL.dCons_e, ↓DL.dTup_e, ↓DL.dLst_e, ↓DL.dCB_e, ↓DL.dNext_e, ↓DL.dSeq_e, ↓DL.dCont_e, ↓DL.dBreak_e, ↓DL.dDrop_e, ↓DL.dRet_e, ↓DL.dRetN_e, ↓DL.dIfS_e, ↓DL.gN_e, ↓DL.gNilD_e, ↓DL.gConsD_e, ↓DL.gT_e, ↓DL.dAsg_e, ↓DL.dPar_e, ↓DL.dPar3_e, ↓DL.dYes_e, ↓DL.dISeq_e, ↓DL.dIRg1_e, ↓DL.dIRg2_e, ↓DL.dIEnum_e, ↓DL.dIZip_e, ↓DL.rIntD_e, ↓DL.rNegD_e, ↓DL.rEq_intF, ↓DL.rEq_intT, ↓DL.rAddD_e, ↓DL.rMulD_e, ↓DL.rIxD_e, ↓DL.rI1_e, ↓DL.rI2_e, ↓DL.rIntCD_e, ↓DL.rSumD_e, ↓DL.rAllD_e, ↓DL.rIsiD_e, ↓DL.rLenD_e, ↓DL.rTupD_e, ↓DL.rLstD_e, ↓DL.rIsN_e, ↓DL.rSlD_e, ↓DL.dSl_e, ↓DL.dNoPart_e, ↓DL.dPart_e, ↓DL.dRev_e, ↓DL.dGet_e, ↓DL.dIn_e, ↓DL.dStore_e, ↓DL.dBM0_e, ↓DL.dBM_e, ↓DL.dDisp_e, ↓DL.mAppend_e, ↓DL.mPop_e, ↓DL.dNewK_e, ↓DL.dNewT_e, ↓DL.dLstM_e, ↓DL.dFrz_e, ↓DL.rReprD_e, ↓DL.rNeS_e, ↓DL.rEqS_e, ↓DL.asB_e, ↓DL.walkD_e, ↓DL.lookD_e, ↓DL.storeD_e, ↓DL.ofTy_e, ↓DL.onLst_e, DL.bodyE, DL.dstart, DL.dPairs, DL.dwipe, DL.keysOf, DL.keyD, DL.isNon, DL.peek_int, DL.peek_bl, DL.peek_non, DL.peek_str, DL.peek_tup, DL.peek_lst, DL.seqOf_tup, DL.seqOf_lst, DL.listOf_lst, DL.tyOf, DL.isTy, DL.atI0, DL.atI1, DL.atI2, DL.atI3, DL.atI4, DL.atI5, DL.dupd_same, DL.dupd_dupd, List.map_cons, List.map_nil, List.length_cons, List.length_nil, List.cons_append, List.nil_append, List.replicate_succ, List.replicate_zero, Nat.reduceAdd, Nat.reduceSub, Nat.zero_add, List.getElem?_cons_zero, List.getElem?_cons_succ, List.set_cons_zero, List.set_cons_succ, true_and, and_true, Int.toNat_natCast, if_true, if_false, Bool.false_eq_true, reduceCtorEq, ne_eq, not_false_eq_true, not_true_eq_false, decide_eq_true_eq, Bool.not_eq_true', decide_eq_false_iff_not, Option.bind_some, Option.map_some, $[$ls:term],*])
local macro_rules
  | `(tactic| unfold d3 $ls*) => `(tactic| try simp only [↓DL.dLstRg1_e, ↓DL.dLstRg2_e, ↓DL.rSortD_e, ↓DL.rMaxL_e, ↓DL.rMinL_e, ↓DL.tell_F, ↓DL.tell_T, DL.ints_map, DL.bls_map, DL.pairs_map, ↓DL.dFor_e, ↓DL.dLc_e, ↓DL.dVar_e, ↓DL.dC_e, ↓DL.dOp_e, ↓DL.dUn_e, ↓DL.dB_e, ↓DL.dChain_e, ↓DL.dAnd_e, ↓DL.dOr_e, ↓DL.dNot_e, ↓DL.dAndV_e, ↓DL.dOrV_e, ↓DL.dNotV_e, ↓DL.dIf_e, ↓DL.dNil_e, ↓DL.dCons_e, ↓DL.dTup_e, ↓DL.dLst_e, ↓DL.dCB_e, ↓DL.dNext_e, ↓DL.dSeq_e, ↓DL.dCont_e, ↓DL.dBreak_e, ↓DL.dDrop_e, ↓DL.dRet_e, ↓DL.dRetN_e, ↓DL.dIfS_e, ↓DL.gN_e, ↓DL.gNilD_e, ↓DL.gConsD_e, ↓DL.gT_e, ↓DL.dAsg_e, ↓DL.dPar_e, ↓DL.dPar3_e, ↓DL.dYes_e, ↓DL.dISeq_e, ↓DL.dIRg1_e, ↓DL.dIRg2_e, ↓DL.dIEnum_e, ↓DL.dIZip_e, ↓DL.rIntD_e, ↓DL.rNegD_e, ↓DL.rEq_intF, ↓DL.rEq_intT, ↓DL.rAddD_e, ↓DL.rMulD_e, ↓DL.rIxD_e, ↓DL.rI1_e, ↓DL.rI2_e, ↓DL.rIntCD_e, ↓DL.rSumD_e, ↓DL.rAllD_e, ↓DL.rIsiD_e, ↓DL.rLenD_e, ↓DL.rTupD_e, ↓DL.rLstD_e, ↓DL.rIsN_e, ↓DL.rSlD_e, ↓DL.dSl_e, ↓DL.dNoPart_e, ↓DL.dPart_e, ↓DL.dRev_e, ↓DL.dGet_e, ↓DL.dIn_e, ↓DL.dStore_e, ↓DL.dBM0_e, ↓DL.dBM_e, ↓DL.dDisp_e, ↓DL.mAppend_e, ↓DL.mPop_e, ↓DL.dNewK_e, ↓DL.dNewT_e, ↓DL.dLstM_e, ↓DL.dFrz_e, ↓DL.rReprD_e, ↓DL.rNeS_e, ↓DL.rEqS_e, ↓DL.asB_e, ↓DL.walkD_e, ↓DL.lookD_e, ↓DL.storeD_e, ↓DL.ofTy_e, ↓DL.onLst_e, DL.bodyE, DL.dstart, DL.dPairs, DL.dwipe, DL.keysOf, DL.keyD, DL.isNon, DL.peek_int, DL.peek_bl, DL.peek_non, DL.peek_str, DL.peek_tup, DL.peek_lst, DL.seqOf_tup, DL.seqOf_lst, DL.listOf_lst, DL.tyOf, DL.isTy, DL.atI0, DL.atI1, DL.atI2, DL.atI3, DL.atI4, DL.atI5, DL.dupd_same, DL.dupd_dupd, List.map_cons, List.map_nil, List.length_cons, List.length_nil, List.cons_append, List.nil_append, List.replicate_succ, List.replicate_zero, Nat.reduceAdd, Nat.reduceSub, Nat.zero_add, List.getElem?_cons_zero, List.getElem?_cons_succ, List.set_cons_zero, List.set_cons_succ, true_and, and_true, Int.toNat_natCast, if_true, if_false, Bool.false_eq_true, reduceCtorEq, ne_eq, not_false_eq_true, not_true_eq_false, decide_eq_true_eq, Bool.not_eq_true', decide_eq_false_iff_not, Option.bind_some, Option.map_some, $[$ls:term],*])
namespace DL
open PySem PySem.Spec PyProof.Rows L2
/-! M04: where all squares are alike, the told move takes all places. -/
theorem alike_of {one other : List (Int × Int)} (T : TwoOk one other) (hu : ∀ q ∈ allP (one.length : Int), unl one other q = false) {i j : Int} (i0 : 0 ≤ i) (i1 : i < one.length) (j0 : 0 ≤ j) (j1 : j < one.length) : sq (pt one i) (pt one j) = sq (pt other i) (pt other j) := by
  have key : ∀ a b : Int, 0 ≤ a → a < b → b < one.length → sq (pt one a) (pt one b) = sq (pt other a) (pt other b) := fun a b a0 ab b1 => by
    have hm : (a, b) ∈ allP (one.length : Int) := by
      unfold allP rowP
      simp only [List.mem_flatMap, List.mem_map, List.mem_range]
      exact ⟨a.toNat, by omega, (b - (a + 1)).toNat, by omega, by rw [Prod.mk.injEq]; omega⟩
    have := hu _ hm
    unfold unl at this
    simpa using this
  have sym : ∀ p q : Int × Int, sq p q = sq q p := fun p q => by unfold sq; grind
  rcases Int.lt_trichotomy i j with h | h | h
  · exact key i j i0 h j1
  · subst h
    unfold sq; grind
  · rw [sym (pt one i), sym (pt other i)]
    exact key j i j0 h i1
/-- from the squares of three joints: lengths and products from the first -/
theorem alike_dots {p0 p1 p2 q0 q1 q2 : Int × Int} (h1 : sq p0 p1 = sq q0 q1) (h2 : sq p0 p2 = sq q0 q2) (h3 : sq p1 p2 = sq q1 q2) : dot (sub2 p0 p1) (sub2 p0 p2) = dot (sub2 q0 q1) (sub2 q0 q2) := by
  unfold sq at h1 h2 h3
  unfold dot sub2
  simp only
  grind
theorem cross_id (v a b : Int × Int) : crs v a * crs v b = dot v v * dot a b - dot v a * dot v b := by
  unfold crs dot
  grind
/-- the product with the turn -/
theorem turn_point {v w a b : Int × Int} {m : Int} (hm : m = 1 ∨ m = -1) (hl : dot v v = dot w w) (hd : dot v a = dot w b) (hc : m * crs v a = crs w b) :
    dot (v.1, m * v.2) w * a.1 - crs (v.1, m * v.2) w * (m * a.2) = dot v v * b.1 ∧ crs (v.1, m * v.2) w * a.1 + dot (v.1, m * v.2) w * (m * a.2) = dot v v * b.2 := by
  unfold crs dot at *
  simp only at *
  rcases hm with rfl | rfl
  · constructor <;> grind
  · constructor <;> grind
theorem takes_of {v : Mv} {one other : List (Int × Int)} (hx : v.x = 0) (hy : v.y = 0) (h : ∀ j : Int, 0 ≤ j → j < one.length → (v.c * (sub2 (pt one 0) (pt one j)).1 - v.s * (v.m * (sub2 (pt one 0) (pt one j)).2) = v.d * (sub2 (pt other 0) (pt other j)).1 ∧ v.s * (sub2 (pt one 0) (pt one j)).1 + v.c * (v.m * (sub2 (pt one 0) (pt one j)).2) = v.d * (sub2 (pt other 0) (pt other j)).2)) : takes (shiftMv one other v) one other = true := by
  rw [takes_iff]
  intro j j0 j1
  obtain ⟨h1, h2⟩ := h j j0 j1
  unfold shiftMv mvP
  simp only
  unfold sub2 at h1 h2
  simp only at h1 h2
  obtain ⟨vc, vs, vm, vd, vx, vy⟩ := v
  simp only at h1 h2 hx hy ⊢
  subst hx hy
  clear h
  generalize pt one 0 = p0 at *
  generalize pt one j = p at *
  generalize pt other 0 = q0 at *
  generalize pt other j = q at *
  obtain ⟨p0x, p0y⟩ := p0
  obtain ⟨px, py⟩ := p
  obtain ⟨q0x, q0y⟩ := q0
  obtain ⟨qx, qy⟩ := q
  simp only [Prod.mk.injEq] at h1 h2 ⊢
  constructor
  · clear h2
    grind
  · clear h1
    grind
/-- the moves that turn, with a mirror -/
theorem raw_takes {one other : List (Int × Int)} (T : TwoOk one other) (hu : ∀ q ∈ allP (one.length : Int), unl one other q = false) {j m : Int} (j0 : 0 ≤ j) (j1 : j < one.length) (hm : m = 1 ∨ m = -1)
    (hc : ∀ k : Int, 0 ≤ k → k < one.length → m * crs (sub2 (pt one 0) (pt one j)) (sub2 (pt one 0) (pt one k)) = crs (sub2 (pt other 0) (pt other j)) (sub2 (pt other 0) (pt other k))) : takes (shiftMv one other (rawMv one other j m)) one other = true := by
  have hp := T.pos
  have al := fun {a b : Int} a0 a1 b0 b1 => alike_of T hu (i := a) (j := b) a0 a1 b0 b1
  have dd : dot ((sub2 (pt one 0) (pt one j)).1, m * (sub2 (pt one 0) (pt one j)).2) ((sub2 (pt one 0) (pt one j)).1, m * (sub2 (pt one 0) (pt one j)).2) = dot (sub2 (pt one 0) (pt one j)) (sub2 (pt one 0) (pt one j)) := by
    unfold dot
    rcases hm with rfl | rfl <;> grind
  refine takes_of rfl rfl fun k k0 k1 => ?_
  have z : (0 : Int) < one.length := by omega
  have hl := alike_dots (al (by omega) z j0 j1) (al (by omega) z j0 j1) (al j0 j1 j0 j1)
  have hd := alike_dots (al (by omega) z j0 j1) (al (by omega) z k0 k1) (al j0 j1 k0 k1)
  have := turn_point hm hl hd (hc k k0 k1)
  unfold rawMv
  simp only
  rw [dd]
  exact this
theorem raw_round {one other : List (Int × Int)} (T : TwoOk one other) (hu : ∀ q ∈ allP (one.length : Int), unl one other q = false) {j m : Int} (j0 : 0 ≤ j) (j1 : j < one.length) (hm : m = 1 ∨ m = -1) : (rawMv one other j m).c * (rawMv one other j m).c + (rawMv one other j m).s * (rawMv one other j m).s = (rawMv one other j m).d * (rawMv one other j m).d := by
  have hp := T.pos
  have z : (0 : Int) < one.length := by omega
  have al := fun {a b : Int} a0 a1 b0 b1 => alike_of T hu (i := a) (j := b) a0 a1 b0 b1
  have hl := alike_dots (al (by omega) z j0 j1) (al (by omega) z j0 j1) (al j0 j1 j0 j1)
  unfold rawMv
  simp only
  generalize sub2 (pt one 0) (pt one j) = v at *
  generalize sub2 (pt other 0) (pt other j) = w at *
  unfold dot crs at *
  simp only at *
  rcases hm with rfl | rfl <;> grind
/-! ### in lowest terms -/
theorem gcdL_div {c s d x y : Int} (hd : 0 < d) (g : Nat) (hg : g = gcdL [c, s, d, x, y]) : gcdL [c / g, s / g, d / g, x / g, y / g] = 1 := by
  obtain ⟨h1, h2, h3, h4, h5⟩ := gcdL_five c s d x y
  have gp : 0 < g := by rw [hg]; exact (gcdL_pos hd).1
  rw [← hg] at h1 h2 h3 h4 h5
  have e : ∀ z : Int, g ∣ z.natAbs → (z / (g : Int)).natAbs * g = z.natAbs := fun z hz => by
    have : (g : Int) ∣ z := Int.ofNat_dvd_left.mpr hz
    obtain ⟨k, rfl⟩ := this
    rw [Int.mul_ediv_cancel_left _ (by omega), Int.natAbs_mul]
    rw [Int.natAbs_natCast, Nat.mul_comm]
  have key : gcdL [c / g, s / g, d / g, x / g, y / g] * g = g := by
    conv => rhs; rw [hg]
    unfold gcdL
    simp only [List.foldl_cons, List.foldl_nil]
    rw [← Nat.gcd_mul_right, ← Nat.gcd_mul_right, ← Nat.gcd_mul_right, ← Nat.gcd_mul_right, ← Nat.gcd_mul_right, Nat.zero_mul, e _ h1, e _ h2, e _ h3, e _ h4, e _ h5]
  have : gcdL [c / g, s / g, d / g, x / g, y / g] * g = 1 * g := by rw [key, Nat.one_mul]
  exact Nat.eq_of_mul_eq_mul_right gp this
theorem lower_right {v : Mv} {one other : List (Int × Int)} (hd : 1 ≤ v.d) (hr : v.c * v.c + v.s * v.s = v.d * v.d) (ht : takes v one other = true) :
    (lowerMv v).c * (lowerMv v).c + (lowerMv v).s * (lowerMv v).s = (lowerMv v).d * (lowerMv v).d ∧ 1 ≤ (lowerMv v).d ∧ gcdL [(lowerMv v).c, (lowerMv v).s, (lowerMv v).d, (lowerMv v).x, (lowerMv v).y] = 1 ∧ takes (lowerMv v) one other = true := by
  obtain ⟨h1, h2, h3, h4, h5⟩ := gcdL_five v.c v.s v.d v.x v.y
  obtain ⟨gp, gle⟩ := gcdL_pos (c := v.c) (s := v.s) (x := v.x) (y := v.y) (d := v.d) (by omega)
  obtain ⟨g, hg⟩ : ∃ g, g = gcdL [v.c, v.s, v.d, v.x, v.y] := ⟨_, rfl⟩
  have e1 := gcdL_div (c := v.c) (s := v.s) (x := v.x) (y := v.y) (d := v.d) (by omega) g hg
  rw [← hg] at h1 h2 h3 h4 h5 gp gle
  have e : ∀ z : Int, g ∣ z.natAbs → ∃ k, z = g * k ∧ z / (g : Int) = k := fun z hz => by
    obtain ⟨k, hk⟩ := Int.ofNat_dvd_left.mpr hz
    exact ⟨k, hk, by rw [hk, Int.mul_ediv_cancel_left _ (by omega)]⟩
  obtain ⟨c', ec, dc⟩ := e _ h1
  obtain ⟨s', es, ds⟩ := e _ h2
  obtain ⟨d', ed, dd⟩ := e _ h3
  obtain ⟨x', ex, dx⟩ := e _ h4
  obtain ⟨y', ey, dy⟩ := e _ h5
  have gz : (g : Int) ≠ 0 := by omega
  have el : lowerMv v = ⟨c', s', v.m, d', x', y'⟩ := by unfold lowerMv; rw [← hg, dc, ds, dd, dx, dy]
  rw [dc, ds, dd, dx, dy] at e1
  rw [el]
  simp only
  have canc : ∀ a b : Int, (g : Int) * a = g * b → a = b := fun a b h => Int.eq_of_mul_eq_mul_left gz h
  refine ⟨?_, ?_, e1, ?_⟩
  · apply canc; apply canc
    rw [ec, es, ed] at hr
    grind
  · rcases Int.lt_or_le 0 d' with z | z
    · omega
    · have : (g : Int) * d' ≤ 0 := Int.mul_nonpos_of_nonneg_of_nonpos (by omega) z
      omega
  · rw [takes_iff] at ht ⊢
    intro j j0 j1
    have := ht j j0 j1
    unfold mvP at this ⊢
    simp only [Prod.mk.injEq] at this ⊢
    obtain ⟨t1, t2⟩ := this
    rw [ec, es, ed, ex] at t1
    rw [ec, es, ed, ey] at t2
    constructor
    · apply canc; grind
    · apply canc; grind
theorem takes_lower {v : Mv} {one other : List (Int × Int)} (hd : 1 ≤ v.d) (ht : takes (lowerMv v) one other = true) : takes v one other = true := by
  obtain ⟨h1, h2, h3, h4, h5⟩ := gcdL_five v.c v.s v.d v.x v.y
  obtain ⟨gp, gle⟩ := gcdL_pos (c := v.c) (s := v.s) (x := v.x) (y := v.y) (d := v.d) (by omega)
  obtain ⟨g, hg⟩ : ∃ g, g = gcdL [v.c, v.s, v.d, v.x, v.y] := ⟨_, rfl⟩
  rw [← hg] at h1 h2 h3 h4 h5 gp gle
  have e : ∀ z : Int, g ∣ z.natAbs → ∃ k, z = g * k ∧ z / (g : Int) = k := fun z hz => by
    obtain ⟨k, hk⟩ := Int.ofNat_dvd_left.mpr hz
    exact ⟨k, hk, by rw [hk, Int.mul_ediv_cancel_left _ (by omega)]⟩
  obtain ⟨c', ec, dc⟩ := e _ h1
  obtain ⟨s', es, ds⟩ := e _ h2
  obtain ⟨d', ed, dd⟩ := e _ h3
  obtain ⟨x', ex, dx⟩ := e _ h4
  obtain ⟨y', ey, dy⟩ := e _ h5
  have el : lowerMv v = ⟨c', s', v.m, d', x', y'⟩ := by unfold lowerMv; rw [← hg, dc, ds, dd, dx, dy]
  rw [el] at ht
  rw [takes_iff] at ht ⊢
  intro j j0 j1
  have := ht j j0 j1
  unfold mvP at this ⊢
  simp only [Prod.mk.injEq] at this ⊢
  obtain ⟨t1, t2⟩ := this
  rw [ec, es, ed, ex, ey]
  constructor <;> grind
theorem between_right {one other : List (Int × Int)} (T : TwoOk one other) (hu : ∀ q ∈ allP (one.length : Int), unl one other q = false) :
    (betweenMv one other).c * (betweenMv one other).c + (betweenMv one other).s * (betweenMv one other).s = (betweenMv one other).d * (betweenMv one other).d ∧ 1 ≤ (betweenMv one other).d ∧
    gcdL [(betweenMv one other).c, (betweenMv one other).s, (betweenMv one other).d, (betweenMv one other).x, (betweenMv one other).y] = 1 ∧ takes (betweenMv one other) one other = true ∧
    ((betweenMv one other).m = 1 ∨ (betweenMv one other).m = -1) ∧ MvW (betweenMv one other) := by
  have hp := T.pos
  have z : (0 : Int) < one.length := by omega
  have al := fun {a b : Int} a0 a1 b0 b1 => alike_of T hu (i := a) (j := b) a0 a1 b0 b1
  unfold betweenMv
  cases ea : apartI one with
  | none =>
    simp only
    refine ⟨by decide, by decide, ?_, ?_, by simp, by unfold MvW; simp only; decide⟩
    · unfold gcdL
      simp only [List.foldl_cons, List.foldl_nil]
      simp
    · rw [takes_iff]
      intro j j0 j1
      have hj : pt one j = pt one 0 := by simpa using firstI_none ea j j0 j1
      have hs := al (by omega) z j0 j1
      have h0 : sq (pt one 0) (pt one j) = 0 := by rw [hj]; unfold sq; grind
      have hq : sq (pt other 0) (pt other j) = 0 := by rw [← hs]; exact h0
      have hz : sub2 (pt other 0) (pt other j) = (0, 0) := by
        apply Classical.byContradiction
        intro hne
        have := dot_self_pos hne
        have e : dot (sub2 (pt other 0) (pt other j)) (sub2 (pt other 0) (pt other j)) = sq (pt other 0) (pt other j) := by unfold dot sub2 sq; simp only; grind
        omega
      unfold sub2 at hz
      simp only [Prod.mk.injEq] at hz
      unfold mvP
      simp only
      rw [hj]
      refine Prod.ext ?_ ?_
      · simp only; omega
      · simp only; omega
  | some j =>
    simp only
    obtain ⟨j0, j1, fj⟩ := firstI_some ea
    have hj : pt one j ≠ pt one 0 := by simpa using fj
    have fin : ∀ m : Int, m = 1 ∨ m = -1 → takes (shiftMv one other (rawMv one other j m)) one other = true →
      (turnMv one other j m).c * (turnMv one other j m).c + (turnMv one other j m).s * (turnMv one other j m).s = (turnMv one other j m).d * (turnMv one other j m).d ∧ 1 ≤ (turnMv one other j m).d ∧
      gcdL [(turnMv one other j m).c, (turnMv one other j m).s, (turnMv one other j m).d, (turnMv one other j m).x, (turnMv one other j m).y] = 1 ∧ takes (turnMv one other j m) one other = true ∧
      ((turnMv one other j m).m = 1 ∨ (turnMv one other j m).m = -1) ∧ MvW (turnMv one other j m) := fun m hm ht => by
      obtain ⟨r1, _⟩ := raw_ok T j0 j1 hm hj
      obtain ⟨k1, k2, k3, k4⟩ := lower_right (v := shiftMv one other (rawMv one other j m)) (one := one) (other := other) r1.2.2.2.1 (raw_round T hu j0 j1 hm) ht
      exact ⟨k1, k2, k3, k4, hm, turn_W T j0 j1 hm hj⟩
    have dots : ∀ a b : Int, 0 ≤ a → a < one.length → 0 ≤ b → b < one.length → dot (sub2 (pt one 0) (pt one a)) (sub2 (pt one 0) (pt one b)) = dot (sub2 (pt other 0) (pt other a)) (sub2 (pt other 0) (pt other b)) := fun a b a0 a1 b0 b1 =>
      alike_dots (al (by omega) z a0 a1) (al (by omega) z b0 b1) (al a0 a1 b0 b1)
    have prods : ∀ a b : Int, 0 ≤ a → a < one.length → 0 ≤ b → b < one.length → crs (sub2 (pt one 0) (pt one j)) (sub2 (pt one 0) (pt one a)) * crs (sub2 (pt one 0) (pt one j)) (sub2 (pt one 0) (pt one b)) = crs (sub2 (pt other 0) (pt other j)) (sub2 (pt other 0) (pt other a)) * crs (sub2 (pt other 0) (pt other j)) (sub2 (pt other 0) (pt other b)) := fun a b a0 a1 b0 b1 => by
      rw [cross_id, cross_id, dots j j j0 j1 j0 j1, dots a b a0 a1 b0 b1, dots j a j0 j1 a0 a1, dots j b j0 j1 b0 b1]
    cases eo : offI one j with
    | none =>
      simp only
      refine fin 1 (.inl rfl) (raw_takes T hu j0 j1 (.inl rfl) fun k k0 k1 => ?_)
      have h0 : crs (sub2 (pt one 0) (pt one j)) (sub2 (pt one 0) (pt one k)) = 0 := by simpa using firstI_none eo k k0 k1
      have h1 := prods k k k0 k1 k0 k1
      rw [h0] at h1 ⊢
      have h2 : crs (sub2 (pt other 0) (pt other j)) (sub2 (pt other 0) (pt other k)) = 0 := by
        rcases Int.mul_eq_zero.mp (show crs (sub2 (pt other 0) (pt other j)) (sub2 (pt other 0) (pt other k)) * crs (sub2 (pt other 0) (pt other j)) (sub2 (pt other 0) (pt other k)) = 0 by omega) with y | y <;> exact y
      rw [h2]; decide
    | some k0' =>
      simp only
      by_cases ht : takes (turnMv one other j 1) one other = true
      · rw [if_pos ht]
        obtain ⟨r1, _⟩ := raw_ok T j0 j1 (.inl rfl) hj
        by_cases h1 : takes (shiftMv one other (rawMv one other j 1)) one other = true
        · exact fin 1 (.inl rfl) h1
        · -- takes of the lowered one is takes of the raw one
          exfalso
          apply h1
          exact takes_lower r1.2.2.2.1 ht
      · rw [if_neg ht]
        refine fin (-1) (.inr rfl) (raw_takes T hu j0 j1 (.inr rfl) fun k k0 k1 => ?_)
        -- some joint comes elsewhere by the turn without a mirror
        have hex : ∃ a : Int, 0 ≤ a ∧ a < one.length ∧ 1 * crs (sub2 (pt one 0) (pt one j)) (sub2 (pt one 0) (pt one a)) ≠ crs (sub2 (pt other 0) (pt other j)) (sub2 (pt other 0) (pt other a)) := by
          apply Classical.byContradiction
          intro hn
          apply ht
          have h1 := raw_takes T hu j0 j1 (m := 1) (.inl rfl) fun a a0 a1 => by
            apply Classical.byContradiction
            intro hc
            exact hn ⟨a, a0, a1, hc⟩
          exact (fin 1 (.inl rfl) h1).2.2.2.1
        obtain ⟨a, a0, a1, ha⟩ := hex
        have p1 := prods a a a0 a1 a0 a1
        have p2 := prods a k a0 a1 k0 k1
        generalize crs (sub2 (pt one 0) (pt one j)) (sub2 (pt one 0) (pt one a)) = x at *
        generalize crs (sub2 (pt other 0) (pt other j)) (sub2 (pt other 0) (pt other a)) = x' at *
        generalize crs (sub2 (pt one 0) (pt one j)) (sub2 (pt one 0) (pt one k)) = y at *
        generalize crs (sub2 (pt other 0) (pt other j)) (sub2 (pt other 0) (pt other k)) = y' at *
        have e1 : (x - x') * (x + x') = 0 := by grind
        have e2 : x + x' = 0 := by
          rcases Int.mul_eq_zero.mp e1 with q | q
          · omega
          · exact q
        have e3 : x' = -x := by omega
        rw [e3] at p2
        have e4 : x * (y + y') = 0 := by grind
        rcases Int.mul_eq_zero.mp e4 with q | q
        · omega
        · omega
end DL

/-! TL1: the typed layer: values by encoders, expressions that tell a value and leave the data heap as it is. -/
namespace DL
open PySem PySem.Spec PyProof.Rows L2

/-! ### encoders -/
abbrev eI : Int → D := D.int
abbrev eB : Bool → D := D.bl
abbrev eS : Str → D := D.str
abbrev eD : D → D := fun d => d
abbrev eU : Unit → D := fun _ => .non
def eT {α : Type} (e : α → D) (xs : List α) : D := .tup (xs.map e)
def eL {α : Type} (e : α → D) (xs : List α) : D := .lst (xs.map e)
def eTup {α : Type} (l : α → List D) (a : α) : D := .tup (l a)
def c1 {α : Type} (e : α → D) (a : α) : List D := [e a]
def cc {α β : Type} (e : α → D) (l : β → List D) (p : α × β) : List D := e p.1 :: l p.2
def eO {α : Type} (e : α → D) : Option α → D
  | none => .non
  | some a => e a
abbrev eR : Int × Int → D := eTup (cc eI (c1 eI))
abbrev eF : Int × List (Int × Int) → D := eTup (cc eI (c1 (eT eR)))

class Gd {α : Type} (e : α → D) where
  dp : Nat
  plain : ∀ a, (e a).plain = true
  dep : ∀ a, (e a).dep ≤ dp
  inj : ∀ a b, D.eq (e a) (e b) = true → a = b
  refl : ∀ a, D.eq (e a) (e a) = true
class GdL {α : Type} (l : α → List D) where
  dp : Nat
  plain : ∀ a, plainL (l a) = true
  dep : ∀ a, depL (l a) ≤ dp
  inj : ∀ a b, eqL (l a) (l b) = true → a = b
  refl : ∀ a, eqL (l a) (l a) = true
/-- never None -/
class NN {α : Type} (e : α → D) : Prop where
  nn : ∀ a, isNon (e a) = false
instance : Gd eI := ⟨0, fun _ => rfl, fun _ => Nat.le_refl _, fun a b h => by simpa [D.eq] using h, fun a => by simp [D.eq]⟩
instance : Gd eB := ⟨0, fun _ => rfl, fun _ => Nat.le_refl _, fun a b h => by simpa [D.eq] using h, fun a => by simp [D.eq]⟩
instance : Gd eU := ⟨0, fun _ => rfl, fun _ => Nat.le_refl _, fun a b h => rfl, fun a => by simp [D.eq]⟩
instance : NN eI := ⟨fun _ => rfl⟩
instance : NN eB := ⟨fun _ => rfl⟩
instance {α : Type} {e : α → D} : NN (eT e) := ⟨fun _ => rfl⟩
instance {α : Type} {e : α → D} : NN (eL e) := ⟨fun _ => rfl⟩
instance {α : Type} {l : α → List D} : NN (eTup l) := ⟨fun _ => rfl⟩
section
variable {α β : Type} {e : α → D}
theorem plainL_map [Gd e] : ∀ xs : List α, plainL (xs.map e) = true
  | [] => rfl
  | x :: xs => by simp [plainL, Gd.plain x, plainL_map xs]
theorem depL_map [g : Gd e] : ∀ xs : List α, depL (xs.map e) ≤ g.dp
  | [] => Nat.zero_le _
  | x :: xs => by
    have h1 := g.dep x
    have h2 := depL_map (g := g) xs
    simp only [List.map_cons, depL]
    omega
theorem eqL_inj [g : Gd e] : ∀ xs ys : List α, eqL (xs.map e) (ys.map e) = true → xs = ys
  | [], [], _ => rfl
  | [], y :: ys, h => by simp [eqL] at h
  | x :: xs, [], h => by simp [eqL] at h
  | x :: xs, y :: ys, h => by
    simp only [List.map_cons, eqL, Bool.and_eq_true] at h
    rw [g.inj x y h.1, eqL_inj xs ys h.2]
theorem eqL_refl [g : Gd e] : ∀ xs : List α, eqL (xs.map e) (xs.map e) = true
  | [] => rfl
  | x :: xs => by simp only [List.map_cons, eqL, g.refl x, eqL_refl xs, Bool.and_self]
instance gdT [g : Gd e] : Gd (eT e) := ⟨g.dp + 1, fun xs => plainL_map xs, fun xs => Nat.succ_le_succ (depL_map xs), fun xs ys h => eqL_inj xs ys h, fun xs => eqL_refl xs⟩
instance gdLs [g : Gd e] : Gd (eL e) := ⟨g.dp + 1, fun xs => plainL_map xs, fun xs => Nat.succ_le_succ (depL_map xs), fun xs ys h => eqL_inj xs ys h, fun xs => eqL_refl xs⟩
instance gdTup {l : α → List D} [g : GdL l] : Gd (eTup l) := ⟨g.dp + 1, fun a => g.plain a, fun a => Nat.succ_le_succ (g.dep a), fun a b h => g.inj a b h, fun a => g.refl a⟩
instance gdC1 [g : Gd e] : GdL (c1 e) := ⟨g.dp, fun a => by simp [c1, plainL, g.plain a], fun a => by have := g.dep a; simp only [c1, depL]; omega, fun a b h => by simp only [c1, eqL, Bool.and_true] at h; exact g.inj a b h, fun a => by simp only [c1, eqL, g.refl a, Bool.and_self]⟩
instance gdCC {l : β → List D} [g : Gd e] [g2 : GdL l] : GdL (cc e l) := ⟨max g.dp g2.dp, fun a => by simp [cc, plainL, g.plain a.1, g2.plain a.2], fun a => by have := g.dep a.1; have := g2.dep a.2; simp only [cc, depL]; omega, fun a b h => by
  simp only [cc, eqL, Bool.and_eq_true] at h
  exact Prod.ext (g.inj _ _ h.1) (g2.inj _ _ h.2), fun a => by simp only [cc, eqL, g.refl a.1, g2.refl a.2, Bool.and_self]⟩
theorem nonL_eq {x : D} (h : isNon x = false) : D.eq .non x = false ∧ D.eq x .non = false := by
  cases x <;> first | (cases h; done) | (constructor <;> simp [D.eq])
instance gdO [g : Gd e] [n : NN e] : Gd (eO e) := ⟨g.dp, fun a => by cases a with | none => rfl | some a => exact g.plain a, fun a => by cases a with | none => exact Nat.zero_le _ | some a => exact g.dep a, fun a b h => by
  cases a with
  | none => cases b with
    | none => rfl
    | some b => simp only [eO] at h; rw [(nonL_eq (n.nn b)).1] at h; cases h
  | some a => cases b with
    | none => simp only [eO] at h; rw [(nonL_eq (n.nn a)).2] at h; cases h
    | some b => exact congrArg some (g.inj a b h), fun a => by cases a with | none => rfl | some a => exact g.refl a⟩
theorem eq_dec [g : Gd e] [DecidableEq α] (x y : α) : D.eq (e x) (e y) = decide (x = y) := by
  by_cases h : x = y
  · subst h; rw [g.refl]; simp
  · rw [decide_eq_false h]
    cases q : D.eq (e x) (e y) with
    | false => rfl
    | true => exact absurd (g.inj x y q) h
theorem mem_dec [g : Gd e] [DecidableEq α] (x : α) (xs : List α) : memD (e x) (xs.map e) = decide (x ∈ xs) := by
  induction xs with
  | nil => rfl
  | cons y ys ih =>
    unfold memD at ih ⊢
    simp only [List.map_cons, List.any_cons, ih, eq_dec y x, List.mem_cons, Bool.decide_or]
    congr 1
    exact decide_eq_decide.mpr eq_comm
theorem peek_plain {d : D} (h : d.plain = true) (H : DHp) : peek H d = d := by
  cases d <;> first | rfl | cases h
theorem peek_gd [g : Gd e] (H : DHp) (x : α) : peek H (e x) = e x := peek_plain (g.plain x) H
theorem isNon_O [n : NN e] (x : Option α) : isNon (eO e x) = x.isNone := by
  cases x with
  | none => rfl
  | some a => exact n.nn a
end

/-! ### typed functions -/
def rng (a b : Int) : List Int := (List.range (b - a).toNat).map fun i => a + (i : Nat)
theorem mem_rng {a b i : Int} : i ∈ rng a b ↔ a ≤ i ∧ i < b := by
  unfold rng
  simp only [List.mem_map, List.mem_range]
  constructor
  · rintro ⟨k, h, rfl⟩; omega
  · rintro ⟨h1, h2⟩; exact ⟨(i - a).toNat, by omega, by omega⟩
theorem rng_length (a b : Int) : (rng a b).length = (b - a).toNat := by simp [rng]
theorem rng_map (a b : Int) : rgD a (b - a).toNat = (rng a b).map eI := by unfold rng rgD; rw [List.map_map]; rfl
theorem rng_map0 (b : Int) : rgD 0 b.toNat = (rng 0 b).map eI := by have := rng_map 0 b; rwa [Int.sub_zero] at this
def enumF {α : Type} : Int → List α → List (Int × α)
  | _, [] => []
  | i, x :: xs => (i, x) :: enumF (i + 1) xs
theorem enum_map {α : Type} {e : α → D} : ∀ (i : Int) (xs : List α), enumD i (xs.map e) = (enumF i xs).map (eTup (cc eI (c1 e)))
  | _, [] => rfl
  | i, x :: xs => by simp only [List.map_cons, enumD, enumF, enum_map (i + 1) xs]; rfl
theorem zip_map {α β : Type} {e : α → D} {f : β → D} : ∀ (xs : List α) (ys : List β), zipD (xs.map e) (ys.map f) = (xs.zip ys).map (eTup (cc e (c1 f)))
  | [], _ => by simp [zipD]
  | _ :: _, [] => by simp [zipD]
  | x :: xs, y :: ys => by
    have := zip_map (e := e) (f := f) xs ys
    unfold zipD at this ⊢
    simp only [List.map_cons, List.zipWith_cons_cons, List.zip_cons_cons, this]; rfl
def ix {α : Type} [Inhabited α] (xs : List α) (i : Int) : α := (atI xs i).getD default
def inIx {α : Type} (xs : List α) (i : Int) : Prop := -(xs.length : Int) ≤ i ∧ i < xs.length
theorem atI_map {α : Type} (e : α → D) (xs : List α) (i : Int) : atI (xs.map e) i = (atI xs i).map e := by
  unfold atI
  simp only [List.length_map]
  cases ixN xs.length i with
  | none => rfl
  | some k => simp
theorem atI_in {α : Type} [Inhabited α] {xs : List α} {i : Int} (h : inIx xs i) : atI xs i = some (ix xs i) := by
  obtain ⟨h1, h2⟩ := h
  unfold ix atI ixN
  by_cases hi : 0 ≤ i
  · rw [if_pos hi, if_pos (by omega)]
    simp only [Option.bind_some]
    rw [List.getElem?_eq_getElem (by omega)]
    rfl
  · rw [if_neg hi, if_pos (by omega)]
    simp only [Option.bind_some]
    rw [List.getElem?_eq_getElem (by omega)]
    rfl
def cut {α : Type} (xs : List α) (lo hi : Option Int) : List α := (xs.drop (HT.sIx xs.length 0 lo)).take (HT.sIx xs.length xs.length hi - HT.sIx xs.length 0 lo)
theorem cut_map {α : Type} (e : α → D) (xs : List α) (lo hi : Option Int) : cutD (xs.map e) lo hi = (cut xs lo hi).map e := by
  unfold cutD cut
  simp only [List.length_map, List.map_take, List.map_drop]

/-! ### expressions that tell a value -/
section
variable {τ : DSt} {H : DHp}
def Ev (te : DE) (τ : DSt) (H : DHp) (d : D) : Prop := ∀ Q : DK, Q d H → te τ H Q
def EvT (t : DT) (τ : DSt) (H : DHp) (b : Bool) : Prop := ∀ Q : Bool → DHp → Prop, Q b H → t τ H Q
def EvA (t : DA) (τ : DSt) (H : DHp) (ds : List D) : Prop := ∀ Q : List D → DHp → Prop, Q ds H → t τ H Q
def EvI (t : DI) (τ : DSt) (H : DHp) (xs : List D) (ok : DHp → Prop) : Prop := ok H ∧ ∀ R : List D → (DHp → Prop) → DHp → Prop, R xs ok H → t τ H R
def EvO (t : DO') (τ : DSt) (H : DHp) (o : Option Int) : Prop := ∀ Q : Option Int → DHp → Prop, Q o H → t τ H Q
/-- a rule of two operands -/
def Rv2 (r : DR2) (x y : D) (H : DHp) (d : D) : Prop := ∀ Q : DK, Q d H → r x y H Q
def RvC (r : DRC) (ds : List D) (H : DHp) (d : D) : Prop := ∀ Q : DK, Q d H → r ds H Q
theorem Ev.to {te : DE} {d d' : D} (h : Ev te τ H d) (e : d = d') : Ev te τ H d' := e ▸ h
theorem ev_var {i : Nat} {d : D} (h : τ[i]? = some (some d)) : Ev (dVar i) τ H d := fun Q q => by rw [dVar_e, h]; exact q
theorem ev_c {d : D} : Ev (dC d) τ H d := fun Q q => q
theorem ev_op {r : DR2} {ta tb : DE} {x y d : D} (ha : Ev ta τ H x) (hb : Ev tb τ H y) (hr : Rv2 r x y H d) : Ev (dOp r ta tb) τ H d := fun Q q => ha _ (hb _ (hr Q q))
theorem ev_cb {r : DRC} {t : DA} {ds : List D} {d : D} (ha : EvA t τ H ds) (hr : RvC r ds H d) : Ev (dCB r t) τ H d := fun Q q => ha _ (hr Q q)
theorem ev_neg {ta : DE} {i : Int} (ha : Ev ta τ H (.int i)) : Ev (dUn rNegD ta) τ H (.int (-i)) := fun Q q => ha _ q
theorem ea_nil : EvA dNil τ H [] := fun Q q => q
theorem ea_cons {te : DE} {t : DA} {d : D} {ds : List D} (h : Ev te τ H d) (r : EvA t τ H ds) : EvA (dCons te t) τ H (d :: ds) := fun Q q => h _ (r _ q)
theorem ea_star {te : DE} {t : DA} {d : D} {xs ds : List D} (h : Ev te τ H d) (s : seqOf H d = some xs) (r : EvA t τ H ds) : EvA (dStar te t) τ H (xs ++ ds) := fun Q q => h _ (by
  show (match seqOf H d with | some xs => _ | none => False)
  rw [s]
  exact r _ q)
theorem ev_tup {t : DA} {ds : List D} (h : EvA t τ H ds) (hl : ds.length ≤ sizeLine) : Ev (dTup t) τ H (.tup ds) := fun Q q => h _ ⟨hl, q⟩
theorem ev_lst {t : DA} {ds : List D} (h : EvA t τ H ds) (hl : ds.length ≤ sizeLine) : Ev (dLst t) τ H (.lst ds) := fun Q q => h _ ⟨hl, q⟩
/- tests -/
theorem et_b {te : DE} {b : Bool} (h : Ev te τ H (.bl b)) : EvT (dB te) τ H b := fun Q q => h _ q
theorem et_and {t u : DT} {a b : Bool} (h1 : EvT t τ H a) (h2 : a = true → EvT u τ H b) : EvT (dAnd t u) τ H (a && b) := fun Q q => h1 _ (by
  cases a with
  | true => exact h2 rfl _ q
  | false => exact q)
theorem et_or {t u : DT} {a b : Bool} (h1 : EvT t τ H a) (h2 : a = false → EvT u τ H b) : EvT (dOr t u) τ H (a || b) := fun Q q => h1 _ (by
  cases a with
  | true => exact q
  | false => exact h2 rfl _ q)
theorem et_not {t : DT} {a : Bool} (h1 : EvT t τ H a) : EvT (dNot t) τ H (!a) := fun Q q => h1 _ q
theorem ev_andV {t u : DE} {a b : Bool} (h1 : Ev t τ H (.bl a)) (h2 : a = true → Ev u τ H (.bl b)) : Ev (dAndV t u) τ H (.bl (a && b)) := fun Q q => h1 _ (by
  cases a with
  | true => exact h2 rfl _ q
  | false => exact q)
theorem ev_orV {t u : DE} {a b : Bool} (h1 : Ev t τ H (.bl a)) (h2 : a = false → Ev u τ H (.bl b)) : Ev (dOrV t u) τ H (.bl (a || b)) := fun Q q => h1 _ (by
  cases a with
  | true => exact q
  | false => exact h2 rfl _ q)
theorem ev_notV {t : DE} {a : Bool} (h1 : Ev t τ H (.bl a)) : Ev (dNotV t) τ H (.bl (!a)) := fun Q q => h1 _ q
theorem ev_if {α : Type} (e : α → D) {c : DT} {ta tb : DE} {b : Bool} {x y : α} (hc : EvT c τ H b) (h1 : b = true → Ev ta τ H (e x)) (h2 : b = false → Ev tb τ H (e y)) : Ev (dIf c ta tb) τ H (e (if b = true then x else y)) := fun Q q => hc _ (by
  cases b with
  | true => exact h1 rfl _ q
  | false => exact h2 rfl _ q)
theorem ev_chain {r r' : DR2} {ta tb tc : DE} {x y z : D} {a b : Bool} (ha : Ev ta τ H x) (hb : Ev tb τ H y) (h1 : Rv2 r x y H (.bl a)) (h2 : a = true → Ev tc τ H z) (h3 : a = true → Rv2 r' y z H (.bl b)) : Ev (dChain r r' ta tb tc) τ H (.bl (a && b)) := fun Q q => ha _ (hb _ (h1 _ (by
  cases a with
  | true => exact h2 rfl _ (h3 rfl _ q)
  | false => exact q)))
/- operators -/
theorem r_add {i j : Int} : Rv2 rAddD (.int i) (.int j) H (.int (i + j)) := fun Q q => q
theorem r_sub {i j : Int} : Rv2 (rIntD (fun _ _ => True) fun i j => .int (i - j)) (.int i) (.int j) H (.int (i - j)) := fun Q q => ⟨trivial, q⟩
theorem r_mul {i j : Int} (h : CMulD i j) : Rv2 rMulD (.int i) (.int j) H (.int (i * j)) := fun Q q => ⟨h, q⟩
theorem r_fdiv {i j : Int} (h : 0 < j) (h2 : j < 2 ^ 64) : Rv2 rFdiv (.int i) (.int j) H (.int (i / j)) := fun Q q => ⟨⟨h, by
  have : j.natAbs.log2 < 64 := (Nat.log2_lt (by omega)).2 (by omega)
  omega⟩, q⟩
theorem r_mod {i j : Int} (h : 0 < j) : Rv2 rMod (.int i) (.int j) H (.int (i % j)) := fun Q q => ⟨h, q⟩
theorem r_pow {i j : Int} (h : 0 ≤ j ∧ (Builtin.Int.intBits i : Int) * j ≤ 2 ^ 27) : Rv2 rPow (.int i) (.int j) H (.int (i ^ j.toNat)) := fun Q q => ⟨h, q⟩
theorem r_lt {i j : Int} : Rv2 (rIntD (fun _ _ => True) fun i j => .bl (decide (i < j))) (.int i) (.int j) H (.bl (decide (i < j))) := fun Q q => ⟨trivial, q⟩
theorem r_le {i j : Int} : Rv2 (rIntD (fun _ _ => True) fun i j => .bl (decide (i ≤ j))) (.int i) (.int j) H (.bl (decide (i ≤ j))) := fun Q q => ⟨trivial, q⟩
theorem r_gt {i j : Int} : Rv2 (rIntD (fun _ _ => True) fun i j => .bl (decide (j < i))) (.int i) (.int j) H (.bl (decide (j < i))) := fun Q q => ⟨trivial, q⟩
theorem r_ge {i j : Int} : Rv2 (rIntD (fun _ _ => True) fun i j => .bl (decide (j ≤ i))) (.int i) (.int j) H (.bl (decide (j ≤ i))) := fun Q q => ⟨trivial, q⟩
theorem r_catT {α : Type} {e : α → D} {xs ys : List α} (h : xs.length + ys.length ≤ sizeLine) : Rv2 rAddD (eT e xs) (eT e ys) H (eT e (xs ++ ys)) := fun Q q => by
  show (xs.map e).length + (ys.map e).length ≤ sizeLine ∧ _
  rw [List.length_map, List.length_map]
  refine ⟨h, ?_⟩
  rw [← List.map_append]
  exact q
theorem r_catL {α : Type} {e : α → D} {xs ys : List α} {x y : D} (h : xs.length + ys.length ≤ sizeLine) (px : peek H x = eL e xs) (py : peek H y = eL e ys) : Rv2 rAddD x y H (eL e (xs ++ ys)) := fun Q q => by
  rw [rAddD_e, px, py]
  show (xs.map e).length + (ys.map e).length ≤ sizeLine ∧ _
  rw [List.length_map, List.length_map]
  refine ⟨h, ?_⟩
  rw [← List.map_append]
  exact q
theorem r_rep {α : Type} {e : α → D} {xs : List α} {x : D} {k : Int} (h : xs.length * k.toNat ≤ sizeLine) (h2 : k < 2 ^ 63) (h3 : -(2 ^ 63) ≤ k) (px : peek H x = eL e xs) : Rv2 rMulD x (.int k) H (eL e (List.replicate k.toNat xs).flatten) := fun Q q => by
  rw [rMulD_e, px]
  refine ⟨⟨h3, h2, by rw [List.length_map]; exact h⟩, ?_⟩
  have e : (List.replicate k.toNat (xs.map e)).flatten = ((List.replicate k.toNat xs).flatten).map e := by
    rw [List.map_flatten, List.map_replicate]
  rw [e]
  exact q
theorem r_eq {α : Type} {e : α → D} [g : Gd e] [DecidableEq α] {x y : α} {a b : D} (hd : g.dp ≤ 60) (pa : peek H a = e x) (pb : peek H b = e y) : Rv2 (rEqD false) a b H (.bl (decide (x = y))) := fun Q q => by
  rw [rEqD_e, pa, pb]
  refine ⟨⟨g.plain x, g.plain y, .inl (Nat.le_trans (g.dep x) hd)⟩, ?_⟩
  rw [eq_dec]
  exact q
theorem r_ne {α : Type} {e : α → D} [g : Gd e] [DecidableEq α] {x y : α} {a b : D} (hd : g.dp ≤ 60) (pa : peek H a = e x) (pb : peek H b = e y) : Rv2 (rEqD true) a b H (.bl (!decide (x = y))) := fun Q q => by
  rw [rEqD_e, pa, pb]
  refine ⟨⟨g.plain x, g.plain y, .inl (Nat.le_trans (g.dep x) hd)⟩, ?_⟩
  rw [eq_dec]
  exact q
theorem r_eqD {x y : D} (h : eqOk x y) : Rv2 (rEqD false) x y H (.bl (D.eq x y)) := fun Q q => by
  rw [rEqD_e, peek_plain h.1, peek_plain h.2.1]
  exact ⟨h, q⟩
theorem r_neD {x y : D} (h : eqOk x y) : Rv2 (rEqD true) x y H (.bl (!D.eq x y)) := fun Q q => by
  rw [rEqD_e, peek_plain h.1, peek_plain h.2.1]
  exact ⟨h, q⟩
theorem r_in {α : Type} {e : α → D} [g : Gd e] [DecidableEq α] {x : α} {xs : List α} {b : D} (hd : g.dp ≤ 60) (sb : seqOf H b = some (xs.map e)) : Rv2 (rInD false) (e x) b H (.bl (decide (x ∈ xs))) := fun Q q => by
  show (match seqOf H b with | some ys => _ | none => False)
  rw [sb, peek_gd]
  refine ⟨⟨g.plain x, plainL_map xs, .inl (Nat.le_trans (g.dep x) hd)⟩, ?_⟩
  rw [mem_dec]
  exact q
theorem r_nin {α : Type} {e : α → D} [g : Gd e] [DecidableEq α] {x : α} {xs : List α} {b : D} (hd : g.dp ≤ 60) (sb : seqOf H b = some (xs.map e)) : Rv2 (rInD true) (e x) b H (.bl (!decide (x ∈ xs))) := fun Q q => by
  show (match seqOf H b with | some ys => _ | none => False)
  rw [sb, peek_gd]
  refine ⟨⟨g.plain x, plainL_map xs, .inl (Nat.le_trans (g.dep x) hd)⟩, ?_⟩
  rw [mem_dec]
  exact q
theorem r_is {α : Type} {e : α → D} [NN e] {x : Option α} : Rv2 (rIsN false) (eO e x) .non H (.bl x.isNone) := fun Q q => by
  show Q (.bl (isNon (eO e x))) H
  rw [isNon_O]
  exact q
theorem r_isnot {α : Type} {e : α → D} [NN e] {x : Option α} : Rv2 (rIsN true) (eO e x) .non H (.bl x.isSome) := fun Q q => by
  show Q (.bl (!isNon (eO e x))) H
  rw [isNon_O]
  cases x <;> exact q
theorem r_isD {x : D} : Rv2 (rIsN false) x .non H (.bl (isNon x)) := fun Q q => q
theorem r_isnotD {x : D} : Rv2 (rIsN true) x .non H (.bl (!isNon x)) := fun Q q => q
theorem seqT {α : Type} {e : α → D} {xs : List α} : seqOf H (eT e xs) = some (xs.map e) := rfl
theorem seqL {α : Type} {e : α → D} {xs : List α} : seqOf H (eL e xs) = some (xs.map e) := rfl
theorem seqP {α : Type} {e : α → D} {p : α × α} : seqOf H (eTup (cc e (c1 e)) p) = some ([p.1, p.2].map e) := rfl
theorem seqP3 {α : Type} {e : α → D} {p : α × α × α} : seqOf H (eTup (cc e (cc e (c1 e))) p) = some ([p.1, p.2.1, p.2.2].map e) := rfl
theorem seqR {α : Type} {e : α → D} {xs : List α} {p : Addr} (h : H p = some (.lst (xs.map e))) : seqOf H (.ref p) = some (xs.map e) := seqOf_ref h
theorem peekR {α : Type} {e : α → D} {xs : List α} {p : Addr} (h : H p = some (.lst (xs.map e))) : peek H (.ref p) = eL e xs := peek_ref h
theorem r_ix {α : Type} [Inhabited α] {e : α → D} {xs : List α} {i : Int} {a : D} (sa : seqOf H a = some (xs.map e)) (h : inIx xs i) : Rv2 rIxD a (.int i) H (e (ix xs i)) := fun Q q => by
  rw [rIxD_e, sa]
  show (match atI (xs.map e) i with | some d => Q d H | none => False)
  rw [atI_map, atI_in h]
  exact q
/-- a member of a written tuple -/
theorem r_ixP {ds : List D} {i : Int} {d : D} (h : atI ds i = some d) : Rv2 rIxD (.tup ds) (.int i) H d := fun Q q => by
  rw [rIxD_e]
  show (match atI ds i with | some d => Q d H | none => False)
  rw [h]
  exact q
/- calls -/
theorem c_len {α : Type} {e : α → D} {xs : List α} {a : D} (sa : seqOf H a = some (xs.map e)) : RvC rLenD [a] H (.int xs.length) := fun Q q => by
  rw [rLenD_e]
  rcases seqOf_peek' sa with z | z <;> simp only [z, List.length_map] <;> exact q
where
  seqOf_peek' {H : DHp} {d : D} {xs : List D} (h : seqOf H d = some xs) : peek H d = .lst xs ∨ peek H d = .tup xs := by
    unfold seqOf at h
    split at h
    · rename_i y e; cases h; exact .inl e
    · rename_i y e; cases h; exact .inr e
    · cases h
theorem c_abs {i : Int} : RvC rAbsD [.int i] H (.int (if i < 0 then -i else i)) := fun Q q => q
theorem c_max2 {i j : Int} : RvC rMax2 [.int i, .int j] H (.int (max i j)) := fun Q q => by
  show Q (.int (if j > i then j else i)) H
  rw [show (if j > i then j else i) = max i j by omega]
  exact q
theorem c_min2 {i j : Int} : RvC rMin2 [.int i, .int j] H (.int (min i j)) := fun Q q => by
  show Q (.int (if j < i then j else i)) H
  rw [show (if j < i then j else i) = min i j by omega]
  exact q
theorem c_tup {α : Type} {e : α → D} {xs : List α} {a : D} (sa : seqOf H a = some (xs.map e)) : RvC rTupD [a] H (eT e xs) := fun Q q => by
  show (match seqOf H a with | some xs => Q (.tup xs) H | none => False)
  rw [sa]
  exact q
theorem c_lst {α : Type} {e : α → D} {xs : List α} {a : D} (sa : seqOf H a = some (xs.map e)) : RvC (rLstD false) [a] H (eL e xs) := fun Q q => by
  show (match seqOf H a with | some xs => _ | none => False)
  rw [sa]
  exact q
theorem c_int {i : Int} : RvC rIntCD [.int i] H (.int i) := fun Q q => q
theorem c_sum {xs : List Int} {a : D} (pa : peek H a = eL eI xs) : RvC rSumD [a] H (.int xs.sum) := fun Q q => by
  show (match (listOf H a).bind ints? with | some ns => Q (.int ns.sum) H | none => False)
  unfold listOf
  rw [pa]
  show (match ints? (xs.map D.int) with | some ns => Q (.int ns.sum) H | none => False)
  rw [ints_map]
  exact q
theorem c_all {xs : List Bool} {a : D} (pa : peek H a = eL eB xs) : RvC (rAllD true) [a] H (.bl (xs.all id)) := fun Q q => by
  show (match (listOf H a).bind bls? with | some ns => _ | none => False)
  unfold listOf
  rw [pa]
  show (match bls? (xs.map D.bl) with | some ns => _ | none => False)
  rw [bls_map]
  exact q
theorem c_any {xs : List Bool} {a : D} (pa : peek H a = eL eB xs) : RvC (rAllD false) [a] H (.bl (xs.any id)) := fun Q q => by
  show (match (listOf H a).bind bls? with | some ns => _ | none => False)
  unfold listOf
  rw [pa]
  show (match bls? (xs.map D.bl) with | some ns => _ | none => False)
  rw [bls_map]
  exact q
/- slices -/
theorem eo_none : EvO dNoPart τ H none := fun Q q => q
theorem eo_some {te : DE} {i : Int} (h : Ev te τ H (.int i)) : EvO (dPart te) τ H (some i) := fun Q q => h _ q
theorem ev_slT {α : Type} {e : α → D} {xs : List α} {te : DE} {tl th : DO'} {lo hi : Option Int} (h : Ev te τ H (eT e xs)) (h1 : EvO tl τ H lo) (h2 : EvO th τ H hi) : Ev (dSl (rSlD false) te tl th) τ H (eT e (cut xs lo hi)) := fun Q q => h _ (h1 _ (h2 _ (by
  show Q (.tup (cutD (xs.map e) lo hi)) H
  rw [cut_map]
  exact q)))
theorem ev_slL {α : Type} {e : α → D} {xs : List α} {te : DE} {tl th : DO'} {lo hi : Option Int} {a : D} (h : Ev te τ H a) (pa : peek H a = eL e xs) (h1 : EvO tl τ H lo) (h2 : EvO th τ H hi) : Ev (dSl (rSlD false) te tl th) τ H (eL e (cut xs lo hi)) := fun Q q => h _ (h1 _ (h2 _ (by
  rw [rSlD_e, pa]
  show Q (.lst (cutD (xs.map e) lo hi)) H
  rw [cut_map]
  exact q)))
theorem ev_slD {ds : List D} {te : DE} {tl th : DO'} {lo hi : Option Int} (h : Ev te τ H (.tup ds)) (h1 : EvO tl τ H lo) (h2 : EvO th τ H hi) : Ev (dSl (rSlD false) te tl th) τ H (.tup (cutD ds lo hi)) := fun Q q => h _ (h1 _ (h2 _ q))
theorem ev_revT {α : Type} {e : α → D} {xs : List α} {te : DE} (h : Ev te τ H (eT e xs)) : Ev (dRev false te) τ H (eT e xs.reverse) := fun Q q => h _ (by
  show Q (.tup (xs.map e).reverse) H
  rw [← List.map_reverse]
  exact q)
theorem ev_revL {α : Type} {e : α → D} {xs : List α} {te : DE} {a : D} (h : Ev te τ H a) (pa : peek H a = eL e xs) : Ev (dRev false te) τ H (eL e xs.reverse) := fun Q q => h _ (by
  show (match peek H a with | .tup xs => _ | .lst xs => _ | _ => False)
  rw [pa]
  show Q (.lst (xs.map e).reverse) H
  rw [← List.map_reverse]
  exact q)
/- what is gone through -/
theorem ei_T {α : Type} {e : α → D} {xs : List α} {te : DE} (h : Ev te τ H (eT e xs)) : EvI (dISeq te) τ H (xs.map e) okT := ⟨trivial, fun R r => h _ r⟩
theorem ei_L {α : Type} {e : α → D} {xs : List α} {te : DE} (h : Ev te τ H (eL e xs)) : EvI (dISeq te) τ H (xs.map e) okT := ⟨trivial, fun R r => h _ r⟩
theorem ei_P {α : Type} {e : α → D} {p : α × α} {te : DE} (h : Ev te τ H (eTup (cc e (c1 e)) p)) : EvI (dISeq te) τ H ([p.1, p.2].map e) okT := ⟨trivial, fun R r => h _ r⟩
theorem ei_R {α : Type} {e : α → D} {xs : List α} {te : DE} {p : Addr} (h : Ev te τ H (.ref p)) (hp : H p = some (.lst (xs.map e))) : EvI (dISeq te) τ H (xs.map e) (fun H' => H' p = some (.lst (xs.map e))) := ⟨hp, fun R r => h _ (by
  rw [walkD_e]
  simp only [hp]
  exact r)⟩
theorem ei_rg1 {te : DE} {j : Int} (h : Ev te τ H (.int j)) (h1 : -(2 ^ 62) ≤ j) (h2 : j < 2 ^ 62) : EvI (dIRg1 (dCons te dNil)) τ H ((rng 0 j).map eI) okT := ⟨trivial, fun R r => h _ ⟨⟨h1, h2⟩, by rw [rng_map0]; exact r⟩⟩
theorem ei_rg2 {ta tb : DE} {i j : Int} (ha : Ev ta τ H (.int i)) (hb : Ev tb τ H (.int j)) (h1 : -(2 ^ 62) ≤ i ∧ i < 2 ^ 62 ∧ -(2 ^ 62) ≤ j ∧ j < 2 ^ 62) : EvI (dIRg2 (dCons ta (dCons tb dNil))) τ H ((rng i j).map eI) okT := ⟨trivial, fun R r => ha _ (hb _ ⟨h1, by rw [rng_map]; exact r⟩)⟩
theorem ei_enT {α : Type} {e : α → D} {xs : List α} {te : DE} (h : Ev te τ H (eT e xs)) : EvI (dIEnum (dCons te dNil)) τ H ((enumF 0 xs).map (eTup (cc eI (c1 e)))) okT := ⟨trivial, fun R r => h _ (by
  show R (enumD 0 (xs.map e)) okT H
  rw [enum_map]
  exact r)⟩
theorem ei_enL {α : Type} {e : α → D} {xs : List α} {te : DE} (h : Ev te τ H (eL e xs)) : EvI (dIEnum (dCons te dNil)) τ H ((enumF 0 xs).map (eTup (cc eI (c1 e)))) okT := ⟨trivial, fun R r => h _ (by
  show R (enumD 0 (xs.map e)) okT H
  rw [enum_map]
  exact r)⟩
theorem ei_enR {α : Type} {e : α → D} {xs : List α} {te : DE} {p : Addr} (h : Ev te τ H (.ref p)) (hp : H p = some (.lst (xs.map e))) : EvI (dIEnum (dCons te dNil)) τ H ((enumF 0 xs).map (eTup (cc eI (c1 e)))) (fun H' => H' p = some (.lst (xs.map e))) := ⟨hp, fun R r => h _ (by
  show (match H p with
    | some (.lst xs) => R (enumD 0 xs) (fun H' => H' p = some (.lst xs)) H
    | some (.scr xs) => R (enumD 0 xs) (fun H' => H' p = some (.scr xs)) H
    | _ => False)
  rw [hp]
  show R (enumD 0 (xs.map e)) _ H
  rw [enum_map]
  exact r)⟩
theorem ei_zipT {α β : Type} {e : α → D} {f : β → D} {xs : List α} {ys : List β} {ta tb : DE} (ha : Ev ta τ H (eT e xs)) (hb : Ev tb τ H (eT f ys)) : EvI (dIZip (dCons ta (dCons tb dNil))) τ H ((xs.zip ys).map (eTup (cc e (c1 f)))) (fun DH => okT DH ∧ okT DH) := ⟨⟨trivial, trivial⟩, fun R r => ha _ (hb _ ⟨rfl, by
  show R (zipD (xs.map e) (ys.map f)) _ H
  rw [zip_map]
  exact r⟩)⟩
theorem ei_zipL {α β : Type} {e : α → D} {f : β → D} {xs : List α} {ys : List β} {ta tb : DE} (ha : Ev ta τ H (eL e xs)) (hb : Ev tb τ H (eL f ys)) : EvI (dIZip (dCons ta (dCons tb dNil))) τ H ((xs.zip ys).map (eTup (cc e (c1 f)))) (fun DH => okT DH ∧ okT DH) := ⟨⟨trivial, trivial⟩, fun R r => ha _ (hb _ ⟨rfl, by
  show R (zipD (xs.map e) (ys.map f)) _ H
  rw [zip_map]
  exact r⟩)⟩
/- comprehensions -/
def EvJ (t : DI) (τ : DSt) (H : DHp) (xs : List D) : Prop := ∃ ok, EvI t τ H xs ok
theorem ei_Q {H0 : DHp} {te : DE} {d : D} {xs : List D} (hd : seqOf H0 d = some xs) (hs : DSub H0 H) (h : Ev te τ H d) : ∃ ok, EvI (dISeq te) τ H xs ok ∧ ∀ H', DSub H0 H' → ok H' := by
  cases d with
  | tup ys => cases hd; exact ⟨_, ⟨trivial, fun R r => h _ r⟩, fun _ _ => trivial⟩
  | lst ys => cases hd; exact ⟨_, ⟨trivial, fun R r => h _ r⟩, fun _ _ => trivial⟩
  | ref p =>
    have hp : H0 p = some (.lst xs) := by
      unfold seqOf peek at hd
      cases q : H0 p with
      | none => simp only [q] at hd; cases hd
      | some o =>
        cases o with
        | lst ys => simp only [q] at hd; cases hd; rfl
        | _ => simp only [q] at hd; cases hd
    refine ⟨fun H' => H' p = some (.lst xs), ⟨hs _ _ hp, fun R r => h _ ?_⟩, fun H' s' => s' _ _ hp⟩
    rw [walkD_e]
    simp only [hs _ _ hp]
    exact r
  | _ => cases hd
theorem ej_Q {H0 : DHp} {te : DE} {d : D} {xs : List D} (hd : seqOf H0 d = some xs) (hs : DSub H0 H) (h : Ev te τ H d) : EvJ (dISeq te) τ H xs := let ⟨ok, a, _⟩ := ei_Q hd hs h; ⟨ok, a⟩
theorem ej_enQ {α : Type} {e : α → D} {H0 : DHp} {te : DE} {d : D} {xs : List α} (hd : seqOf H0 d = some (xs.map e)) (hs : DSub H0 H) (h : Ev te τ H d) : EvJ (dIEnum (dCons te dNil)) τ H ((enumF 0 xs).map (eTup (cc eI (c1 e)))) := by
  obtain ⟨ok, a, b⟩ := ei_Q hd hs h
  refine ⟨ok, a.1, fun R r => ?_⟩
  rw [← enum_map] at r
  exact a.2 (fun ys ok' H' => R (enumD 0 ys) ok' H') r
theorem ev_lc {α β : Type} {ti : DI} {g : DG} {tt : DT} {te : DE} {vs : List Nat} (e : α → D) (e' : β → D) (xs : List α) (p : α → Bool) (f : α → β) (bnd : α → DSt)
    (hi : EvJ ti τ H (xs.map e)) (hl : xs.length ≤ sizeLine) (hg : ∀ x (Q : DSt → DHp → Prop), Q (bnd x) H → g (e x) (dwipe τ vs) H Q)
    (ht : ∀ x ∈ xs, EvT tt (bnd x) H (p x)) (hb : ∀ x ∈ xs, p x = true → Ev te (bnd x) H (e' (f x))) : Ev (dLc false ti g tt te vs) τ H (eL e' ((xs.filter p).map f)) := fun Q q => by
  obtain ⟨ok, hi⟩ := hi
  exact hi.2 _ ⟨by rw [List.length_map]; exact hl, by
    have key : ∀ (xs : List α) (acc : List D), (∀ x ∈ xs, EvT tt (bnd x) H (p x)) → (∀ x ∈ xs, p x = true → Ev te (bnd x) H (e' (f x))) → (K : List D → DHp → Prop) → K (acc ++ ((xs.filter p).map f).map e') H → dCompL ok g tt te (dwipe τ vs) (xs.map e) acc H K := by
      intro xs
      induction xs with
      | nil => intro acc _ _ K k; exact ⟨hi.1, by simpa using k⟩
      | cons x r ih =>
        intro acc h1 h2 K k
        refine ⟨hi.1, hg x _ (h1 x (by simp) _ ?_)⟩
        cases hp : p x with
        | true =>
          rw [if_pos rfl]
          exact h2 x (by simp) hp _ (ih _ (fun y hy => h1 y (by simp [hy])) (fun y hy => h2 y (by simp [hy])) K (by simpa [List.filter_cons, hp] using k))
        | false =>
          rw [if_neg Bool.false_ne_true]
          exact ih _ (fun y hy => h1 y (by simp [hy])) (fun y hy => h2 y (by simp [hy])) K (by simpa [List.filter_cons, hp] using k)
    exact key xs [] ht hb _ q⟩
theorem et_yes : EvT dYes τ H true := fun Q q => q
/-- without a test -/
theorem ev_lc1 {α β : Type} {ti : DI} {g : DG} {te : DE} {vs : List Nat} (e : α → D) (e' : β → D) (xs : List α) (f : α → β) (bnd : α → DSt)
    (hi : EvJ ti τ H (xs.map e)) (hl : xs.length ≤ sizeLine) (hg : ∀ x (Q : DSt → DHp → Prop), Q (bnd x) H → g (e x) (dwipe τ vs) H Q)
    (hb : ∀ x ∈ xs, Ev te (bnd x) H (e' (f x))) : Ev (dLc false ti g dYes te vs) τ H (eL e' (xs.map f)) := by
  have := ev_lc (H := H) (τ := τ) e e' xs (fun _ => true) f bnd hi hl hg (fun _ _ => et_yes) (fun x hx _ => hb x hx)
  rwa [List.filter_eq_self.2 (fun _ _ => rfl)] at this
/-- only a test: the item itself is told -/
theorem ev_lcf {α : Type} {ti : DI} {g : DG} {tt : DT} {te : DE} {vs : List Nat} (e : α → D) (xs : List α) (p : α → Bool) (bnd : α → DSt)
    (hi : EvJ ti τ H (xs.map e)) (hl : xs.length ≤ sizeLine) (hg : ∀ x (Q : DSt → DHp → Prop), Q (bnd x) H → g (e x) (dwipe τ vs) H Q)
    (ht : ∀ x ∈ xs, EvT tt (bnd x) H (p x)) (hb : ∀ x ∈ xs, p x = true → Ev te (bnd x) H (e x)) : Ev (dLc false ti g tt te vs) τ H (eL e (xs.filter p)) := by
  have := ev_lc (H := H) (τ := τ) e e xs p (fun x => x) bnd hi hl hg ht hb
  rwa [List.map_id'] at this
end
end DL

/-! TL2: the typed layer: statements, loops by typed steps, lists that change. -/
namespace DL
open PySem PySem.Spec PyProof.Rows L2

/-- what is still to be told, by its model -/
def Tk {R : Type} (F : R → Prop) (m : R) : Prop := F m
def bnd {α R : Type} (v : α) (w : α → R) : R := w v
theorem bnd_eq {α R : Type} (v : α) (w : α → R) : bnd v w = w v := rfl
theorem size_le4 {n : Nat} (h : n ≤ 4000000) : n ≤ sizeLine := by rw [sizeLine_eq]; omega
inductive Ctl (R S : Type) where
  | ret (r : R) | brk (s : S) | nxt (s : S)
def forR {α R S : Type} (step : S → α → Ctl R S) : List α → S → R ⊕ S
  | [], s => .inr s
  | x :: xs, s => match step s x with
    | .nxt s' => forR step xs s'
    | .brk s' => .inr s'
    | .ret r => .inl r
def runN {α R S : Type} (step : S → α → Ctl R S) : List α → S → Option S
  | [], s => some s
  | x :: xs, s => match step s x with
    | .nxt s' => runN step xs s'
    | _ => none
def onR {R S γ : Type} (c : R ⊕ S) (f : R → γ) (g : S → γ) : γ := match c with
  | .inl r => f r
  | .inr s => g s
theorem runN_app {α R S : Type} (step : S → α → Ctl R S) : ∀ (pre : List α) (ys : List α) (s s' : S), runN step pre s = some s' → forR step (pre ++ ys) s = forR step ys s'
  | [], ys, s, s', h => by cases h; rfl
  | x :: pre, ys, s, s', h => by
    simp only [runN] at h
    cases q : step s x with
    | nxt z => rw [q] at h; simp only [List.cons_append, forR, q]; exact runN_app step pre ys z s' h
    | brk z => rw [q] at h; cases h
    | ret z => rw [q] at h; cases h
theorem runN_snoc {α R S : Type} (step : S → α → Ctl R S) : ∀ (pre : List α) (x : α) (s s' s2 : S), runN step pre s = some s' → step s' x = .nxt s2 → runN step (pre ++ [x]) s = some s2
  | [], x, s, s', s2, h, h2 => by cases h; simp only [List.nil_append, runN, h2]
  | y :: pre, x, s, s', s2, h, h2 => by
    simp only [runN] at h
    cases q : step s y with
    | nxt z => rw [q] at h; simp only [List.cons_append, runN, q]; exact runN_snoc step pre x z s' s2 h h2
    | brk z => rw [q] at h; cases h
    | ret z => rw [q] at h; cases h
/- while -/
def whileN {R S : Type} (c : S → Bool) (step : S → Ctl R S) : Nat → S → Option (R ⊕ S)
  | 0, _ => none
  | n + 1, s => if c s = true then (match step s with
    | .nxt s' => whileN c step n s'
    | .brk s' => some (.inr s')
    | .ret r => some (.inl r)) else some (.inr s)
inductive Reach {R S : Type} (c : S → Bool) (step : S → Ctl R S) (s0 : S) : S → Prop where
  | base : Reach c step s0 s0
  | step {s s' : S} (h : Reach c step s0 s) (hc : c s = true) (hs : step s = .nxt s') : Reach c step s0 s'
def Halts {R S : Type} (c : S → Bool) (step : S → Ctl R S) (s : S) : Prop := ∃ n v, whileN c step n s = some v
open Classical in
noncomputable def whileR {R S : Type} (c : S → Bool) (step : S → Ctl R S) (s : S) : R ⊕ S := if h : Halts c step s then h.choose_spec.choose else .inr s
theorem whileN_det {R S : Type} {c : S → Bool} {step : S → Ctl R S} : ∀ (n m : Nat) (s : S) (v w : R ⊕ S), whileN c step n s = some v → whileN c step m s = some w → v = w
  | 0, _, _, _, _, h, _ => by cases h
  | _ + 1, 0, _, _, _, _, h => by cases h
  | n + 1, m + 1, s, v, w, h1, h2 => by
    simp only [whileN] at h1 h2
    split at h1
    · rename_i hc
      rw [if_pos hc] at h2
      cases q : step s with
      | nxt z => rw [q] at h1 h2; exact whileN_det n m z v w h1 h2
      | brk z => rw [q] at h1 h2; cases h1; cases h2; rfl
      | ret z => rw [q] at h1 h2; cases h1; cases h2; rfl
    · rename_i hc
      rw [if_neg hc] at h2
      cases h1; cases h2; rfl
theorem whileR_eq {R S : Type} {c : S → Bool} {step : S → Ctl R S} {s : S} {n : Nat} {v : R ⊕ S} (h : whileN c step n s = some v) : whileR c step s = v := by
  have hh : Halts c step s := ⟨n, v, h⟩
  unfold whileR
  rw [dif_pos hh]
  exact whileN_det _ _ _ _ _ hh.choose_spec.choose_spec h
theorem halts_stop {R S : Type} {c : S → Bool} {step : S → Ctl R S} {s : S} (h : c s = false) : Halts c step s := ⟨1, .inr s, by simp only [whileN]; rw [if_neg (by rw [h]; exact Bool.false_ne_true)]⟩
theorem halts_go {R S : Type} {c : S → Bool} {step : S → Ctl R S} {s : S} (h : c s = true) (k : ∀ s', step s = .nxt s' → Halts c step s') : Halts c step s := by
  cases q : step s with
  | nxt z =>
    obtain ⟨n, v, hv⟩ := k z q
    exact ⟨n + 1, v, by simp only [whileN]; rw [if_pos h, q]; exact hv⟩
  | brk z => exact ⟨1, .inr z, by simp only [whileN]; rw [if_pos h, q]⟩
  | ret z => exact ⟨1, .inl z, by simp only [whileN]; rw [if_pos h, q]⟩
theorem whileR_stop {R S : Type} {c : S → Bool} {step : S → Ctl R S} {s : S} (h : c s = false) : whileR c step s = .inr s := whileR_eq (n := 1) (by simp only [whileN]; rw [if_neg (by rw [h]; exact Bool.false_ne_true)])
theorem whileR_nxt {R S : Type} {c : S → Bool} {step : S → Ctl R S} {s s' : S} (h : c s = true) (q : step s = .nxt s') (hh : Halts c step s') : whileR c step s = whileR c step s' := by
  obtain ⟨n, v, hv⟩ := hh
  rw [whileR_eq hv]
  exact whileR_eq (n := n + 1) (by simp only [whileN]; rw [if_pos h, q]; exact hv)
theorem whileR_brk {R S : Type} {c : S → Bool} {step : S → Ctl R S} {s s' : S} (h : c s = true) (q : step s = .brk s') : whileR c step s = .inr s' := whileR_eq (n := 1) (by simp only [whileN]; rw [if_pos h, q])
theorem whileR_ret {R S : Type} {c : S → Bool} {step : S → Ctl R S} {s : S} {r : R} (h : c s = true) (q : step s = .ret r) : whileR c step s = .inl r := whileR_eq (n := 1) (by simp only [whileN]; rw [if_pos h, q])
/-- by a measure -/
theorem halts_by {R S : Type} {c : S → Bool} {step : S → Ctl R S} (I : S → Prop) (m : S → Nat) (h : ∀ s s', I s → c s = true → step s = .nxt s' → I s' ∧ m s' < m s) : ∀ s, I s → Halts c step s := by
  have : ∀ (k : Nat) (s : S), m s < k → I s → Halts c step s := by
    intro k
    induction k with
    | zero => intro s hs; omega
    | succ k ih =>
      intro s hs hi
      cases hc : c s with
      | false => exact halts_stop hc
      | true =>
        refine halts_go hc fun s' q => ?_
        obtain ⟨h1, h2⟩ := h s s' hi hc q
        exact ih s' (by omega) h1
  exact fun s => this (m s + 1) s (Nat.lt_succ_self _)
/-- what a while tells, by what holds at each turn -/
theorem while_by {R S : Type} {c : S → Bool} {step : S → Ctl R S} (I : S → Prop) (m : S → Nat) (P : R ⊕ S → Prop) (h : ∀ s, I s → c s = true → match step s with
    | .nxt s' => I s' ∧ m s' < m s
    | .brk s' => P (.inr s')
    | .ret r => P (.inl r)) (hf : ∀ s, I s → c s = false → P (.inr s)) : ∀ s, I s → Halts c step s ∧ P (whileR c step s) := by
  have key : ∀ (k : Nat) (s : S), m s < k → I s → Halts c step s ∧ P (whileR c step s) := by
    intro k
    induction k with
    | zero => intro s hs; omega
    | succ k ih =>
      intro s hs hi
      cases hc : c s with
      | false => exact ⟨halts_stop hc, by rw [whileR_stop hc]; exact hf s hi hc⟩
      | true =>
        have := h s hi hc
        cases q : step s with
        | nxt z =>
          rw [q] at this
          obtain ⟨h1, h2⟩ := ih z (by omega) this.1
          refine ⟨halts_go hc (fun s' q' => ?_), ?_⟩
          · rw [q] at q'; cases q'; exact h1
          · rw [whileR_nxt hc q h1]; exact h2
        | brk z =>
          rw [q] at this
          refine ⟨halts_go hc (fun s' q' => ?_), ?_⟩
          · rw [q] at q'; cases q'
          · rw [whileR_brk hc q]; exact this
        | ret z =>
          rw [q] at this
          refine ⟨halts_go hc (fun s' q' => ?_), ?_⟩
          · rw [q] at q'; cases q'
          · rw [whileR_ret hc q]; exact this
  exact fun s => key (m s + 1) s (Nat.lt_succ_self _)
theorem reach_by {R S : Type} {c : S → Bool} {step : S → Ctl R S} {s0 : S} (I : S → Prop) (h0 : I s0) (h : ∀ s s', I s → c s = true → step s = .nxt s' → I s') : ∀ s, Reach c step s0 s → I s := by
  intro s r
  induction r with
  | base => exact h0
  | step _ hc hs ih => exact h _ _ ih hc hs

/-! ### heaps -/
theorem dsub_none {H H' : DHp} {p : Addr} (s : DSub H H') (h : H' p = none) : H p = none := by
  cases e : H p with
  | none => rfl
  | some o => rw [s p o e] at h; cases h
theorem dsub_fr {H H1 H2 : DHp} {p : Addr} (s : DSub H H1) (h : H p = none) (f : ∀ b, b ≠ p → H2 b = H1 b) : DSub H H2 := fun b o e => by
  rw [f b (fun z => by subst z; rw [h] at e; cases e)]
  exact s b o e
theorem ne_none {H : DHp} {p q : Addr} {o : DO} (h : H p = none) (e : H q = some o) : q ≠ p := fun z => by subst z; rw [h] at e; cases e
theorem ne_none' {H : DHp} {p q : Addr} {o : DO} (h : H p = none) (e : H q = some o) : p ≠ q := fun z => by subst z; rw [h] at e; cases e
theorem dsub_er {H H1 : DHp} {p : Addr} (s : DSub H H1) (h : H p = none) : DSub H (derase H1 p) := fun b o e => by
  unfold derase
  rw [if_neg (fun z => by subst z; rw [h] at e; cases e)]
  exact s b o e
theorem peek_sub {H H' : DHp} (s : DSub H H') {d x : D} (h : peek H d = x) (n : ∀ p, x ≠ .ref p) : peek H' d = x := by
  cases d with
  | ref p =>
    unfold peek at h ⊢
    cases e : H p with
    | none => simp only [e] at h; exact absurd h.symm (n p)
    | some o =>
      simp only [e] at h
      simp only [s p o e]
      exact h
  | _ => exact h
theorem seqOf_sub {H H' : DHp} (s : DSub H H') {d : D} {xs : List D} (h : seqOf H d = some xs) : seqOf H' d = some xs := by
  rcases c_len.seqOf_peek' h with z | z
  · have := peek_sub s z (fun p q => by cases q)
    unfold seqOf; rw [this]
  · have := peek_sub s z (fun p q => by cases q)
    unfold seqOf; rw [this]

/-! ### targets -/
def Gv (g : DG) (d : D) (τ : DSt) (H : DHp) (τ' : DSt) : Prop := ∀ Q : DSt → DHp → Prop, Q τ' H → g d τ H Q
def GvS (g : DGs) (ds : List D) (τ : DSt) (H : DHp) (τ' : DSt) : Prop := ∀ Q : DSt → DHp → Prop, Q τ' H → g ds τ H Q
section
variable {τ τ1 τ2 : DSt} {H : DHp}
theorem gv_N {i : Nat} {d : D} : Gv (gN i) d τ H (τ.set i (some d)) := fun Q q => q
theorem gvs_nil : GvS gNilD [] τ H τ := fun Q q => q
theorem gvs_cons {g : DG} {gs : DGs} {d : D} {ds : List D} (h : Gv g d τ H τ1) (r : GvS gs ds τ1 H τ2) : GvS (gConsD g gs) (d :: ds) τ H τ2 := fun Q q => h _ (r _ q)
theorem gv_T {n : Nat} {gs : DGs} {ds : List D} (hl : ds.length = n) (r : GvS gs ds τ H τ1) : Gv (gT n gs) (.tup ds) τ H τ1 := fun Q q => ⟨hl, r _ q⟩
end

/-! ### statements -/
section
variable {τ : DSt} {H : DHp} {E : DEnds} {u t t' : DS} {te : DE}
theorem s_last (h : dSeq t dNext E τ H) : t E τ H := h
theorem s_assoc {a b : DS} (h : dSeq a (dSeq b u) E τ H) : dSeq (dSeq a b) u E τ H := h
theorem s_skip (h : u E τ H) : dSeq dNext u E τ H := h
theorem s_end (h : E.nx τ H) : dNext E τ H := h
theorem s_cont (h : E.ct τ H) : dSeq dCont u E τ H := h
theorem s_brk (h : E.bk τ H) : dSeq dBreak u E τ H := h
theorem s_asg {α R : Type} {F : R → Prop} {v : α} {w : α → R} {i : Nat} (e : α → D) (hq : Tk F (bnd v w)) (h : Ev te τ H (e v)) (k : ∀ x, x = v → Tk F (w x) → u E (τ.set i (some (e x))) H) : dSeq (dAsg te (gN i)) u E τ H := h _ (k v rfl hq)
theorem s_asgG {d : D} {g : DG} {τ' : DSt} (h : Ev te τ H d) (hg : Gv g d τ H τ') (k : u E τ' H) : dSeq (dAsg te g) u E τ H := h _ (hg _ k)
theorem s_unp2 {α β R : Type} {F : R → Prop} {v : α × β} {w : α → β → R} {i j : Nat} (e : α → D) (f : β → D) (hq : Tk F (bnd v.1 fun a => bnd v.2 fun b => w a b)) (h : Ev te τ H (eTup (cc e (c1 f)) v))
    (k : ∀ a b, a = v.1 → b = v.2 → Tk F (w a b) → u E ((τ.set i (some (e a))).set j (some (f b))) H) : dSeq (dAsg te (gT 2 (gConsD (gN i) (gConsD (gN j) gNilD)))) u E τ H := h _ ⟨rfl, k _ _ rfl rfl hq⟩
theorem s_unp3 {α β γ R : Type} {F : R → Prop} {v : α × β × γ} {w : α → β → γ → R} {i j l : Nat} (e : α → D) (f : β → D) (g : γ → D) (hq : Tk F (bnd v.1 fun a => bnd v.2.1 fun b => bnd v.2.2 fun c => w a b c)) (h : Ev te τ H (eTup (cc e (cc f (c1 g))) v))
    (k : ∀ a b c, a = v.1 → b = v.2.1 → c = v.2.2 → Tk F (w a b c) → u E (((τ.set i (some (e a))).set j (some (f b))).set l (some (g c))) H) : dSeq (dAsg te (gT 3 (gConsD (gN i) (gConsD (gN j) (gConsD (gN l) gNilD))))) u E τ H := h _ ⟨rfl, k _ _ _ rfl rfl rfl hq⟩
theorem s_par {α β R : Type} {F : R → Prop} {v1 : α} {v2 : β} {w : α → β → R} {i j : Nat} {ta tb : DE} (e : α → D) (f : β → D) (hq : Tk F (bnd v1 fun a => bnd v2 fun b => w a b)) (ha : Ev ta τ H (e v1)) (hb : Ev tb τ H (f v2))
    (k : ∀ a b, a = v1 → b = v2 → Tk F (w a b) → u E ((τ.set i (some (e a))).set j (some (f b))) H) : dSeq (dPar i j (dCons ta (dCons tb dNil))) u E τ H := ha _ (hb _ (k _ _ rfl rfl hq))
theorem s_par3 {α β γ R : Type} {F : R → Prop} {v1 : α} {v2 : β} {v3 : γ} {w : α → β → γ → R} {i j l : Nat} {ta tb tc : DE} (e : α → D) (f : β → D) (g : γ → D) (hq : Tk F (bnd v1 fun a => bnd v2 fun b => bnd v3 fun c => w a b c)) (ha : Ev ta τ H (e v1)) (hb : Ev tb τ H (f v2)) (hc : Ev tc τ H (g v3))
    (k : ∀ a b c, a = v1 → b = v2 → c = v3 → Tk F (w a b c) → u E (((τ.set i (some (e a))).set j (some (f b))).set l (some (g c))) H) : dSeq (dPar3 i j l (dCons ta (dCons tb (dCons tc dNil)))) u E τ H := ha _ (hb _ (hc _ (k _ _ _ rfl rfl rfl hq)))
theorem s_if {R : Type} {F : R → Prop} {b : Bool} {m1 m2 : R} {c : DT} (hq : Tk F (if b = true then m1 else m2)) (hc : EvT c τ H b) (k1 : b = true → Tk F m1 → dSeq t u E τ H) (k2 : b = false → Tk F m2 → dSeq t' u E τ H) : dSeq (dIfS c t t') u E τ H := hc _ (by
  cases b with
  | true => rw [if_pos rfl] at hq ⊢; exact k1 rfl hq
  | false => rw [if_neg Bool.false_ne_true] at hq ⊢; exact k2 rfl hq)
theorem s_ret {d : D} (h : Ev te τ H d) (k : E.rt d H) : dSeq (dRet te) u E τ H := h _ k
theorem s_retN (k : E.rt .non H) : dSeq dRetN u E τ H := k
theorem s_drop {d : D} (h : Ev te τ H d) (k : u E τ H) : dSeq (dDrop te) u E τ H := h _ k
/-- what a turn is to reach -/
def Out {R S : Type} (eR : R → D) (FR : DHp → Prop) (st : S → DSt → DHp → Prop) (E : DEnds) : Ctl R S → Prop
  | .ret r => ∀ H, FR H → E.rt (eR r) H
  | .nxt s => ∀ τ H, st s τ H → E.nx τ H ∧ E.ct τ H
  | .brk s => ∀ τ H, st s τ H → E.bk τ H
theorem s_forR {α R S M : Type} {F : M → Prop} {ti : DI} {g : DG} {tb : DS} {ok : DHp → Prop} {mr : R → M} {ms : S → M} (e : α → D) (eR : R → D) (xs : List α) (step : S → α → Ctl R S) (s0 : S) (st : S → DSt → DHp → Prop) (FR : DHp → Prop)
    (hq : Tk F (onR (forR step xs s0) mr ms)) (hi : EvI ti τ H (xs.map e) ok) (hok : ∀ s τ' H', st s τ' H' → ok H') (h0 : st s0 τ H)
    (hb : ∀ pre x post s τ' H', xs = pre ++ x :: post → runN step pre s0 = some s → st s τ' H' → ∀ E' : DEnds, Tk (Out eR FR st E') (step s x) → g (e x) τ' H' fun τ1 H1 => tb E' τ1 H1)
    (kr : ∀ r H', FR H' → forR step xs s0 = .inl r → Tk F (mr r) → E.rt (eR r) H') (k : ∀ s τ' H', st s τ' H' → forR step xs s0 = .inr s → Tk F (ms s) → u E τ' H') : dSeq (dFor ti g tb) u E τ H := hi.2 _ (by
  have key : ∀ (ys pre : List α) (s : S) (τ' : DSt) (H' : DHp), xs = pre ++ ys → runN step pre s0 = some s → st s τ' H' → dForL ok g tb (ys.map e) { E with nx := u E } τ' H' := by
    intro ys
    induction ys with
    | nil =>
      intro pre s τ' H' hx hr hs
      have e1 : forR step xs s0 = .inr s := by rw [hx, runN_app step pre [] s0 s hr]; rfl
      exact ⟨hok s τ' H' hs, k s τ' H' hs e1 (by unfold Tk at hq ⊢; rw [e1] at hq; exact hq)⟩
    | cons x ys ih =>
      intro pre s τ' H' hx hr hs
      refine ⟨hok s τ' H' hs, hb pre x ys s τ' H' hx hr hs _ ?_⟩
      have e1 : forR step xs s0 = forR step (x :: ys) s := by rw [hx, runN_app step pre (x :: ys) s0 s hr]
      unfold Tk
      cases q : step s x with
      | ret r =>
        intro H1 hF
        have e2 : forR step xs s0 = .inl r := by rw [e1]; simp only [forR, q]
        exact kr r H1 hF e2 (by unfold Tk at hq ⊢; rw [e2] at hq; exact hq)
      | nxt s1 =>
        intro τ1 H1 h1
        have := ih (pre ++ [x]) s1 τ1 H1 (by simp [hx]) (runN_snoc step pre x s0 s s1 hr q) h1
        exact ⟨this, this⟩
      | brk s1 =>
        intro τ1 H1 h1
        have e2 : forR step xs s0 = .inr s1 := by rw [e1]; simp only [forR, q]
        exact k s1 τ1 H1 h1 e2 (by unfold Tk at hq ⊢; rw [e2] at hq; exact hq)
  exact key xs [] s0 τ H rfl rfl h0)
theorem s_for {α S M : Type} {F : M → Prop} {ti : DI} {g : DG} {tb : DS} {ok : DHp → Prop} {ms : S → M} (e : α → D) (xs : List α) (step : S → α → S) (s0 : S) (st : S → DSt → DHp → Prop)
    (hq : Tk F (bnd (xs.foldl step s0) ms)) (hi : EvI ti τ H (xs.map e) ok) (hok : ∀ s τ' H', st s τ' H' → ok H') (h0 : st s0 τ H)
    (hb : ∀ pre x post s τ' H', xs = pre ++ x :: post → s = pre.foldl step s0 → st s τ' H' → ∀ E' : DEnds, Tk (fun s1 => ∀ τ1 H1, st s1 τ1 H1 → E'.nx τ1 H1 ∧ E'.ct τ1 H1) (step s x) → g (e x) τ' H' fun τ1 H1 => tb E' τ1 H1)
    (k : ∀ s τ' H', st s τ' H' → s = xs.foldl step s0 → Tk F (ms s) → u E τ' H') : dSeq (dFor ti g tb) u E τ H := hi.2 _ (by
  have key : ∀ (ys pre : List α) (τ' : DSt) (H' : DHp), xs = pre ++ ys → st (pre.foldl step s0) τ' H' → dForL ok g tb (ys.map e) { E with nx := u E } τ' H' := by
    intro ys
    induction ys with
    | nil =>
      intro pre τ' H' hx hs
      rw [List.append_nil] at hx
      subst hx
      exact ⟨hok _ τ' H' hs, k _ τ' H' hs rfl hq⟩
    | cons x ys ih =>
      intro pre τ' H' hx hs
      refine ⟨hok _ τ' H' hs, hb pre x ys _ τ' H' hx rfl hs _ ?_⟩
      intro τ1 H1 h1
      have := ih (pre ++ [x]) τ1 H1 (by simp [hx]) (by rw [List.foldl_append]; exact h1)
      exact ⟨this, this⟩
  exact key xs [] τ H rfl h0)
theorem s_whileR {R S M : Type} {F : M → Prop} {tc : DT} {tb : DS} {mr : R → M} {ms : S → M} (eR : R → D) (c : S → Bool) (step : S → Ctl R S) (s0 : S) (st : S → DSt → DHp → Prop) (FR : DHp → Prop)
    (hq : Tk F (onR (whileR c step s0) mr ms)) (hh : Halts c step s0) (h0 : st s0 τ H)
    (hc : ∀ s τ' H', Reach c step s0 s → st s τ' H' → EvT tc τ' H' (c s))
    (hb : ∀ s τ' H', Reach c step s0 s → c s = true → st s τ' H' → ∀ E' : DEnds, Tk (Out eR FR st E') (step s) → tb E' τ' H')
    (kr : ∀ r H', FR H' → whileR c step s0 = .inl r → Tk F (mr r) → E.rt (eR r) H') (k : ∀ s τ' H', st s τ' H' → whileR c step s0 = .inr s → Tk F (ms s) → u E τ' H') : dSeq (dWhile tc tb) u E τ H := by
  obtain ⟨n, v, hv⟩ := hh
  have ev := whileR_eq hv
  refine while_inv (E := { E with nx := u E }) (fun m τ' H' => ∃ s, Reach c step s0 s ∧ st s τ' H' ∧ whileN c step m s = some v) (m := n) ⟨s0, .base, h0, hv⟩ ?_
  rintro m τ' H' ⟨s, hr, hs, hw⟩ E' hrt hbk hnx hct
  refine hc s τ' H' hr hs _ ?_
  cases m with
  | zero => cases hw
  | succ m =>
    simp only [whileN] at hw
    cases q : c s with
    | false =>
      rw [q, if_neg Bool.false_ne_true] at hw
      rw [if_neg Bool.false_ne_true]
      have e2 : whileR c step s0 = .inr s := by rw [ev]; cases hw; rfl
      exact k s τ' H' hs e2 (by unfold Tk at hq ⊢; rw [e2] at hq; exact hq)
    | true =>
      rw [q, if_pos rfl] at hw
      rw [if_pos rfl]
      refine hb s τ' H' hr q hs E' ?_
      unfold Tk
      cases q2 : step s with
      | ret r =>
        rw [q2] at hw
        intro H1 hF
        have e2 : whileR c step s0 = .inl r := by rw [ev]; cases hw; rfl
        rw [hrt]
        exact kr r H1 hF e2 (by unfold Tk at hq ⊢; rw [e2] at hq; exact hq)
      | nxt s1 =>
        rw [q2] at hw
        intro τ1 H1 h1
        exact ⟨hnx m τ1 H1 (Nat.lt_succ_self _) ⟨s1, .step hr q q2, h1, hw⟩, hct m τ1 H1 (Nat.lt_succ_self _) ⟨s1, .step hr q q2, h1, hw⟩⟩
      | brk s1 =>
        rw [q2] at hw
        intro τ1 H1 h1
        have e2 : whileR c step s0 = .inr s1 := by rw [ev]; cases hw; rfl
        rw [hbk]
        exact k s1 τ1 H1 h1 e2 (by unfold Tk at hq ⊢; rw [e2] at hq; exact hq)
/- lists that change -/
def lastD {α : Type} [Inhabited α] (xs : List α) : α := xs.getLast?.getD default
theorem dupd_fr {p : Addr} {x : DO} : ∀ b, b ≠ p → dupd H p x b = H b := fun b h => dupd_ne h
theorem s_newL {α : Type} {t : DA} {i : Nat} (e : α → D) (xs : List α) (h : EvA t τ H (xs.map e)) (hl : xs.length ≤ sizeLine)
    (k : ∀ p H', H p = none → H' p = some (.lst (xs.map e)) → (∀ b, b ≠ p → H' b = H b) → u E (τ.set i (some (.ref p))) H') : dSeq (dAsg (dLstM t) (gN i)) u E τ H := h _ ⟨by rw [List.length_map]; exact hl, fun p hp => k p _ hp dupd_same dupd_fr⟩
theorem lc_mut {ti : DI} {g : DG} {tt : DT} {vs : List Nat} {K : D → DHp → Prop} (z : dLc false ti g tt te vs τ H (fun d H1 => match d with | .lst ys => ∀ p, H1 p = none → K (.ref p) (dupd H1 p (.lst ys)) | _ => True)) : dLc true ti g tt te vs τ H K := z
theorem s_newC {α : Type} {ti : DI} {g : DG} {tt : DT} {vs : List Nat} {i : Nat} (e : α → D) (xs : List α) (h : Ev (dLc false ti g tt te vs) τ H (eL e xs))
    (k : ∀ p H', H p = none → H' p = some (.lst (xs.map e)) → (∀ b, b ≠ p → H' b = H b) → u E (τ.set i (some (.ref p))) H') : dSeq (dAsg (dLc true ti g tt te vs) (gN i)) u E τ H :=
  lc_mut (K := fun x H1 => u E (τ.set i (some x)) H1) (h _ fun p hp => k p _ hp dupd_same dupd_fr)
theorem s_newLs {α : Type} {i : Nat} {te : DE} {a : D} (e : α → D) (xs : List α) (h : Ev te τ H a) (sa : seqOf H a = some (xs.map e))
    (k : ∀ p H', H p = none → H' p = some (.lst (xs.map e)) → (∀ b, b ≠ p → H' b = H b) → u E (τ.set i (some (.ref p))) H') : dSeq (dAsg (dCB (rLstD true) (dCons te dNil)) (gN i)) u E τ H := h _ (by
  show (match seqOf H a with | some xs => _ | none => False)
  rw [sa]
  exact fun p hp => k p _ hp dupd_same dupd_fr)
theorem s_app {α : Type} {i : Nat} {te : DE} {p : Addr} {v : α} {xs : List α} (e : α → D) (hv : τ[i]? = some (some (.ref p))) (hp : H p = some (.lst (xs.map e))) (h : Ev te τ H (e v)) (hl : xs.length < sizeLine)
    (k : ∀ H', H' p = some (.lst ((xs ++ [v]).map e)) → (∀ b, b ≠ p → H' b = H b) → u E τ H') : dSeq (dDrop (dBM "list" mAppend (dVar i) (dCons te dNil))) u E τ H := by
  rw [dSeq_e, dDrop_e, dBM_e, dVar_e, hv]
  show ofTy "list" H (.ref p) ∧ _
  refine ⟨by rw [ofTy_e]; simp only [hp], h _ ?_⟩
  show mAppend (.ref p) [e v] H (fun _ H1 => u E τ H1)
  rw [mAppend_e, onLst_e]
  simp only [hp, List.length_map]
  refine ⟨hl, k _ ?_ dupd_fr⟩
  rw [dupd_same, List.map_append]
  rfl
theorem s_pop {α R : Type} {F : R → Prop} [Inhabited α] {i j : Nat} {p : Addr} {xs : List α} {w : α → R} (e : α → D) (hq : Tk F (bnd (lastD xs) w)) (hv : τ[i]? = some (some (.ref p))) (hp : H p = some (.lst (xs.map e))) (hl : xs ≠ [])
    (k : ∀ x H', x = lastD xs → H' p = some (.lst (xs.dropLast.map e)) → (∀ b, b ≠ p → H' b = H b) → Tk F (w x) → u E (τ.set j (some (e x))) H') : dSeq (dAsg (dBM0 "list" mPop (dVar i)) (gN j)) u E τ H := by
  rw [dSeq_e, dAsg_e, dBM0_e, dVar_e, hv]
  show ofTy "list" H (.ref p) ∧ _
  refine ⟨by rw [ofTy_e]; simp only [hp], ?_⟩
  show mPop (.ref p) [] H _
  rw [mPop_e, onLst_e]
  simp only [hp, List.length_map]
  rw [List.getElem?_map]
  have e1 : xs[xs.length - 1]? = some (lastD xs) := by
    rw [← List.getLast?_eq_getElem?]
    unfold lastD
    cases q : xs.getLast? with
    | none => exact absurd (List.getLast?_eq_none_iff.mp q) hl
    | some x => rfl
  rw [e1]
  refine k _ _ rfl ?_ dupd_fr hq
  rw [dupd_same, List.map_dropLast]
theorem s_retF {α : Type} {i : Nat} {p : Addr} {xs : List α} (e : α → D) (hv : τ[i]? = some (some (.ref p))) (hp : H p = some (.lst (xs.map e))) (k : E.rt (eL e xs) (derase H p)) : dSeq (dRet (dFrz (dVar i))) u E τ H := by
  rw [dSeq_e, dRet_e, dFrz_e, dVar_e, hv]
  show (match H p with | some (.lst xs) => _ | _ => False)
  rw [hp]
  exact k
theorem s_lastS {a b : DS} (h : dSeq a b E τ H) : dSeq a b E τ H := h
theorem tk_nx {S : Type} {st : S → DSt → DHp → Prop} {v : S} (hq : Tk (fun s1 => ∀ τ1 H1, st s1 τ1 H1 → E.nx τ1 H1 ∧ E.ct τ1 H1) v) (h : st v τ H) : E.nx τ H := (hq τ H h).1
theorem tk_ct {S : Type} {st : S → DSt → DHp → Prop} {v : S} (hq : Tk (fun s1 => ∀ τ1 H1, st s1 τ1 H1 → E.nx τ1 H1 ∧ E.ct τ1 H1) v) (h : st v τ H) : dSeq dCont u E τ H := (hq τ H h).2
section
variable {R S : Type} {eR : R → D} {FR : DHp → Prop} {st : S → DSt → DHp → Prop} {v : S} {r : R}
theorem out_nx (hq : Tk (Out eR FR st E) (.nxt v)) (h : st v τ H) : E.nx τ H := (hq τ H h).1
theorem out_ct (hq : Tk (Out eR FR st E) (.nxt v)) (h : st v τ H) : dSeq dCont u E τ H := (hq τ H h).2
theorem out_brk (hq : Tk (Out eR FR st E) (.brk v)) (h : st v τ H) : dSeq dBreak u E τ H := hq τ H h
theorem out_ret (hq : Tk (Out eR FR st E) (.ret r)) (h : FR H) : E.rt (eR r) H := hq H h
end
end
theorem enumF_length {α : Type} : ∀ (i : Int) (xs : List α), (enumF i xs).length = xs.length
  | _, [] => rfl
  | i, x :: xs => by simp only [enumF, List.length_cons, enumF_length (i + 1) xs]
theorem ev_tupK {t : DA} {τ : DSt} {H : DHp} {ds : List D} (k : Nat) (h : EvA t τ H ds) (hk : ds.length = k) (hl : k ≤ 1000) : Ev (dTup t) τ H (.tup ds) := ev_tup h (by rw [hk]; exact size_le4 (by omega))
theorem ev_lstK {t : DA} {τ : DSt} {H : DHp} {ds : List D} (k : Nat) (h : EvA t τ H ds) (hk : ds.length = k) (hl : k ≤ 1000) : Ev (dLst t) τ H (.lst ds) := ev_lst h (by rw [hk]; exact size_le4 (by omega))
theorem ev_some {α : Type} [Inhabited α] {te : DE} {τ : DSt} {H : DHp} {e : α → D} {x : Option α} (h : Ev te τ H (eO e x)) (hx : x.isSome = true) : Ev te τ H (e (x.getD default)) := by
  cases x with
  | none => cases hx
  | some a => exact h
def setI {α : Type} (xs : List α) (i : Int) (v : α) : List α := match ixN xs.length i with
  | some j => xs.set j v
  | none => xs
theorem setI_length {α : Type} (xs : List α) (i : Int) (v : α) : (setI xs i v).length = xs.length := by unfold setI; split <;> simp
theorem n_stL {α : Type} {H : DHp} {p : Addr} {xs : List α} {i : Int} {v : α} {K : DHp → Prop} (e : α → D) (hp : H p = some (.lst (xs.map e))) (hi : inIx xs i) (k : ∀ H', H' p = some (.lst ((setI xs i v).map e)) → (∀ b, b ≠ p → H' b = H b) → K H') : storeD H (.ref p) (.int i) (e v) K := by
  have hx : ∃ j, ixN xs.length i = some j := by
    obtain ⟨h1, h2⟩ := hi
    unfold ixN
    by_cases h0 : 0 ≤ i
    · rw [if_pos h0, if_pos (by omega)]; exact ⟨_, rfl⟩
    · rw [if_neg h0, if_pos (by omega)]; exact ⟨_, rfl⟩
  obtain ⟨j, hj⟩ := hx
  rw [storeD_e]
  simp only [hp, List.length_map, hj]
  refine k _ ?_ (fun b h => dupd_ne h)
  rw [dupd_same]
  unfold setI
  rw [hj]
  simp only [List.map_set]
def evd {te : DE} {τ : DSt} {H : DHp} (d : D) (h : Ev te τ H d) : Ev te τ H d := h
theorem ev_tupS {α : Type} {t : DA} {τ : DSt} {H : DHp} {ds : List D} {e : α → D} {xs : List α} (h : EvA t τ H ds) (he : D.tup ds = eT e xs) (hl : ds.length ≤ sizeLine) : Ev (dTup t) τ H (eT e xs) := fun Q q => h _ ⟨hl, by rw [he]; exact q⟩
end DL

/-! TL3: the typed layer: sorted, max, min, list(range). -/
namespace DL
open PySem PySem.Spec PyProof.Rows L2
def leI (a b : Int) : Bool := decide (a ≤ b)
def leP (p q : Int × Int) : Bool := decide (p.1 < q.1) || (decide (p.1 = q.1) && decide (p.2 ≤ q.2))
def srtI (xs : List Int) : List Int := xs.mergeSort leI
def srtP (xs : List (Int × Int)) : List (Int × Int) := xs.mergeSort leP
theorem leP_lex {p q : Int × Int} : leP p q = true ↔ lexLe p q := by unfold leP lexLe; simp
theorem srtI_perm (xs : List Int) : (srtI xs).Perm xs := List.mergeSort_perm _ _
theorem srtP_perm (xs : List (Int × Int)) : (srtP xs).Perm xs := List.mergeSort_perm _ _
theorem srtI_sorted (xs : List Int) : (srtI xs).Pairwise (· ≤ ·) := by
  have := List.pairwise_mergeSort (le := leI) (fun a b c h1 h2 => by simp only [leI, decide_eq_true_eq] at *; omega) (fun a b => by simp only [leI, Bool.or_eq_true, decide_eq_true_eq]; omega) xs
  exact this.imp fun h => by simpa [leI] using h
theorem srtP_sorted (xs : List (Int × Int)) : (srtP xs).Pairwise lexLe := by
  have := List.pairwise_mergeSort (le := leP) (fun a b c h1 h2 => by rw [leP_lex] at *; unfold lexLe at *; omega) (fun a b => by simp only [Bool.or_eq_true, leP_lex]; unfold lexLe; omega) xs
  exact this.imp fun h => leP_lex.mp h
theorem sortedI_unique {xs ys : List Int} (p : xs.Perm ys) (h1 : xs.Pairwise (· ≤ ·)) (h2 : ys.Pairwise (· ≤ ·)) : xs = ys := p.eq_of_pairwise (fun a b _ _ h1 h2 => by omega) h1 h2
theorem lexLe_antisymm {p q : Int × Int} (h1 : lexLe p q) (h2 : lexLe q p) : p = q := by
  unfold lexLe at h1 h2
  exact Prod.ext (by omega) (by omega)
theorem sortedP_unique {xs ys : List (Int × Int)} (p : xs.Perm ys) (h1 : xs.Pairwise lexLe) (h2 : ys.Pairwise lexLe) : xs = ys := p.eq_of_pairwise (fun a b _ _ h1 h2 => lexLe_antisymm h1 h2) h1 h2
theorem srtI_id {xs : List Int} (h : xs.Pairwise (· ≤ ·)) : srtI xs = xs := sortedI_unique (srtI_perm xs) (srtI_sorted xs) h
theorem srtP_id {xs : List (Int × Int)} (h : xs.Pairwise lexLe) : srtP xs = xs := sortedP_unique (srtP_perm xs) (srtP_sorted xs) h
section
variable {τ : DSt} {H : DHp}
theorem eR_eq : (fun p : Int × Int => D.tup [.int p.1, .int p.2]) = eR := rfl
theorem c_srtI {xs : List Int} {a : D} (pa : peek H a = eL eI xs) : RvC (rSortD false) [a] H (eL eI (srtI xs)) := fun Q q => by
  show (match listOf H a with | some xs => _ | none => False)
  unfold listOf
  rw [pa]
  show (match ints? (xs.map D.int) with | some ns => _ | none => _)
  rw [ints_map]
  intro ns' h1 h2
  rw [tell_F]
  rw [sortedI_unique (h1.trans (srtI_perm xs).symm) h2 (srtI_sorted xs)]
  exact q
theorem pairs_nil_ints {xs : List (Int × Int)} (h : xs ≠ []) : ints? (xs.map eR) = none := by
  cases xs with
  | nil => exact absurd rfl h
  | cons x xs => rfl
theorem c_srtP {xs : List (Int × Int)} {a : D} (pa : peek H a = eL eR xs) : RvC (rSortD false) [a] H (eL eR (srtP xs)) := fun Q q => by
  show (match listOf H a with | some xs => _ | none => False)
  unfold listOf
  rw [pa]
  cases xs with
  | nil =>
    intro ns' h1 h2
    rw [tell_F, List.perm_nil.mp h1]
    have e0 : srtP [] = [] := List.perm_nil.mp (srtP_perm [])
    rw [e0] at q
    exact q
  | cons x xs =>
    show (match pairs? ((x :: xs).map fun p : Int × Int => D.tup [.int p.1, .int p.2]) with | some ps => _ | none => False)
    rw [pairs_map]
    intro ns' h1 h2
    rw [tell_F]
    rw [sortedP_unique (h1.trans (srtP_perm (x :: xs)).symm) h2 (srtP_sorted _)]
    exact q
def maxL (xs : List Int) : Int := match xs with
  | [] => 0
  | x :: r => r.foldl max x
def minL (xs : List Int) : Int := match xs with
  | [] => 0
  | x :: r => r.foldl min x
theorem foldl_max_le : ∀ (r : List Int) (x : Int), x ≤ r.foldl max x ∧ (∀ y ∈ r, y ≤ r.foldl max x) ∧ (r.foldl max x = x ∨ r.foldl max x ∈ r)
  | [], x => ⟨Int.le_refl _, by simp, .inl rfl⟩
  | y :: r, x => by
    obtain ⟨h1, h2, h3⟩ := foldl_max_le r (max x y)
    simp only [List.foldl_cons, List.mem_cons]
    refine ⟨by omega, fun z hz => ?_, ?_⟩
    · rcases hz with rfl | hz
      · omega
      · exact h2 z hz
    · rcases h3 with h3 | h3
      · rw [h3]
        rcases Int.le_total x y with z | z
        · exact .inr (.inl (by omega))
        · exact .inl (by omega)
      · exact .inr (.inr h3)
theorem foldl_min_le : ∀ (r : List Int) (x : Int), r.foldl min x ≤ x ∧ (∀ y ∈ r, r.foldl min x ≤ y) ∧ (r.foldl min x = x ∨ r.foldl min x ∈ r)
  | [], x => ⟨Int.le_refl _, by simp, .inl rfl⟩
  | y :: r, x => by
    obtain ⟨h1, h2, h3⟩ := foldl_min_le r (min x y)
    simp only [List.foldl_cons, List.mem_cons]
    refine ⟨by omega, fun z hz => ?_, ?_⟩
    · rcases hz with rfl | hz
      · omega
      · exact h2 z hz
    · rcases h3 with h3 | h3
      · rw [h3]
        rcases Int.le_total x y with z | z
        · exact .inl (by omega)
        · exact .inr (.inl (by omega))
      · exact .inr (.inr h3)
theorem maxL_spec {xs : List Int} (h : xs ≠ []) : maxL xs ∈ xs ∧ ∀ y ∈ xs, y ≤ maxL xs := by
  cases xs with
  | nil => exact absurd rfl h
  | cons x r =>
    obtain ⟨h1, h2, h3⟩ := foldl_max_le r x
    refine ⟨?_, fun y hy => ?_⟩
    · rcases h3 with h3 | h3
      · exact List.mem_cons.mpr (.inl h3)
      · exact List.mem_cons.mpr (.inr h3)
    · rcases List.mem_cons.mp hy with rfl | hy
      · exact h1
      · exact h2 y hy
theorem minL_spec {xs : List Int} (h : xs ≠ []) : minL xs ∈ xs ∧ ∀ y ∈ xs, minL xs ≤ y := by
  cases xs with
  | nil => exact absurd rfl h
  | cons x r =>
    obtain ⟨h1, h2, h3⟩ := foldl_min_le r x
    refine ⟨?_, fun y hy => ?_⟩
    · rcases h3 with h3 | h3
      · exact List.mem_cons.mpr (.inl h3)
      · exact List.mem_cons.mpr (.inr h3)
    · rcases List.mem_cons.mp hy with rfl | hy
      · exact h1
      · exact h2 y hy
theorem c_maxL {xs : List Int} {a : D} (pa : peek H a = eL eI xs) (h : xs ≠ []) : RvC rMaxL [a] H (.int (maxL xs)) := fun Q q => by
  show (match (listOf H a).bind ints? with | some ns => _ | none => False)
  unfold listOf
  rw [pa]
  show (match ints? (xs.map D.int) with | some ns => _ | none => False)
  rw [ints_map]
  refine ⟨List.length_pos_iff.mpr h, fun m h1 h2 => ?_⟩
  obtain ⟨k1, k2⟩ := maxL_spec h
  have e : m = maxL xs := Int.le_antisymm (k2 m h1) (h2 _ k1)
  rw [e]
  exact q
theorem c_minL {xs : List Int} {a : D} (pa : peek H a = eL eI xs) (h : xs ≠ []) : RvC rMinL [a] H (.int (minL xs)) := fun Q q => by
  show (match (listOf H a).bind ints? with | some ns => _ | none => False)
  unfold listOf
  rw [pa]
  show (match ints? (xs.map D.int) with | some ns => _ | none => False)
  rw [ints_map]
  refine ⟨List.length_pos_iff.mpr h, fun m h1 h2 => ?_⟩
  obtain ⟨k1, k2⟩ := minL_spec h
  have e : m = minL xs := Int.le_antisymm (h2 _ k1) (k2 m h1)
  rw [e]
  exact q
theorem ev_lrg1 {te : DE} {n : Int} (h : Ev te τ H (.int n)) (h0 : 0 ≤ n) (h1 : n ≤ 1000000) : Ev (dLstRg1 false te) τ H (eL eI (rng 0 n)) := fun Q q => h _ (by
  refine ⟨⟨h0, h1⟩, ?_⟩
  rw [tell_F, rng_map0]
  exact q)
theorem ev_lrg2 {ta tb : DE} {m n : Int} (ha : Ev ta τ H (.int m)) (hb : Ev tb τ H (.int n)) (h : 0 ≤ m ∧ m ≤ 1000000 ∧ 0 ≤ n ∧ n ≤ 1000000) : Ev (dLstRg2 false ta tb) τ H (eL eI (rng m n)) := fun Q q => ha _ (hb _ (by
  refine ⟨h, ?_⟩
  rw [tell_F, rng_map]
  exact q))
theorem srtI2 (x y : Int) : srtI [x, y] = [min x y, max x y] := by
  refine sortedI_unique ((srtI_perm [x, y]).trans ?_) (srtI_sorted _) (by simp only [List.pairwise_cons, List.mem_singleton, List.not_mem_nil]; exact ⟨fun z hz => by omega, fun z hz => hz.elim, .nil⟩)
  rcases Int.le_total x y with h | h
  · rw [show min x y = x by omega, show max x y = y by omega]
  · rw [show min x y = y by omega, show max x y = x by omega]
    exact .swap _ _ _
theorem ev_sort2 {te : DE} (x y : Int) (h : Ev te τ H (.lst [.int x, .int y])) : Ev (dCB rTupD (dCons (dCB (rSortD false) (dCons te dNil)) dNil)) τ H (eR (min x y, max x y)) := fun Q q => h _ (by
  have h2 : Ev (dCB (rSortD false) (dCons te dNil)) τ H (eL eI (srtI [x, y])) := ev_cb (ea_cons h ea_nil) (c_srtI rfl)
  have := c_srtI (H := H) (xs := [x, y]) (a := .lst [.int x, .int y]) rfl
  refine this _ ?_
  show Q (.tup ((srtI [x, y]).map D.int)) H
  rw [srtI2]
  exact q)
/- kinds, and values that may be anything -/
def tyD : D → String
  | .non => "NoneType"
  | .bl _ => "bool"
  | .int _ => "int"
  | .str _ => "str"
  | .tup _ => "tuple"
  | .lst _ => "list"
  | .dct _ _ => "dict"
  | _ => ""
def isTyD (x : D) (n : String) : Bool := isTy (tyD x) n
theorem c_isi {x : D} {t n : String} (hx : tyD x = t) (ht : t ≠ "") (hn : (["int", "bool", "str", "tuple", "list", "dict"] : List String).contains n = true) : RvC rIsiD [x, .ty n] H (.bl (isTy t n)) := fun Q q => by
  rw [rIsiD_e]
  have e : tyOf H x = t := by
    rw [← hx]
    cases x <;> first | rfl | (exfalso; apply ht; rw [← hx]; rfl)
  show (tyOf H x ≠ "" ∧ _) ∧ Q (.bl (isTy (tyOf H x) n)) H
  rw [e]
  exact ⟨⟨ht, hn⟩, q⟩
theorem c_isiD {x : D} {n : String} (ht : tyD x ≠ "") (hn : (["int", "bool", "str", "tuple", "list", "dict"] : List String).contains n = true) : RvC rIsiD [x, .ty n] H (.bl (isTyD x n)) := c_isi rfl ht hn
theorem c_lenP {ds : List D} : RvC rLenD [.tup ds] H (.int ds.length) := fun Q q => q
def itemsD : D → List D
  | .tup xs => xs
  | .lst xs => xs
  | _ => []
def lenD (x : D) : Int := (itemsD x).length
def isSeqD : D → Bool
  | .tup _ => true
  | .lst _ => true
  | _ => false
theorem c_lenD {x : D} (h : isSeqD x = true) : RvC rLenD [x] H (.int (lenD x)) := fun Q q => by
  cases x <;> first | exact q | cases h
def ixD (x : D) (i : Int) : D := (atI (itemsD x) i).getD .non
theorem r_ixD {x : D} {i : Int} (h : isSeqD x = true ∧ inIx (itemsD x) i) : Rv2 rIxD x (.int i) H (ixD x i) := fun Q q => by
  obtain ⟨h1, h2⟩ := h
  have e : seqOf H x = some (itemsD x) := by cases x <;> first | rfl | cases h1
  rw [rIxD_e, e]
  show (match atI (itemsD x) i with | some d => Q d H | none => False)
  have e2 : atI (itemsD x) i = some (ixD x i) := by
    have : ∃ k, ixN (itemsD x).length i = some k ∧ k < (itemsD x).length := by
      obtain ⟨h3, h4⟩ := h2
      unfold ixN
      by_cases h0 : 0 ≤ i
      · rw [if_pos h0, if_pos (by omega)]; exact ⟨_, rfl, by omega⟩
      · rw [if_neg h0, if_pos (by omega)]; exact ⟨_, rfl, by omega⟩
    obtain ⟨k, hk, hk2⟩ := this
    unfold ixD atI
    rw [hk]
    simp only [Option.bind_some]
    rw [List.getElem?_eq_getElem hk2]
    rfl
  rw [e2]
  exact q
theorem r_catD {xs ys : List D} {k : Nat} (h : xs.length + ys.length = k) (hk : k ≤ 1000) : Rv2 rAddD (.tup xs) (.tup ys) H (.tup (xs ++ ys)) := fun Q q => ⟨by rw [h]; exact size_le4 (by omega), q⟩
theorem r_eqSt {a b : Str} (ha : PyData.strOk a = true) (hb : PyData.strOk b = true) : Rv2 (rEqD false) (.str a) (.str b) H (.bl (a == b)) := fun Q q => ⟨⟨ha, hb, .inl (Nat.zero_le _)⟩, q⟩
theorem r_neSt {a b : Str} (ha : PyData.strOk a = true) (hb : PyData.strOk b = true) : Rv2 (rEqD true) (.str a) (.str b) H (.bl (!(a == b))) := fun Q q => ⟨⟨ha, hb, .inl (Nat.zero_le _)⟩, q⟩
end
end DL

/-! TL4: the typed layer: draws, told step by step; texts. -/
namespace DL
open PySem PySem.Spec PyProof.Rows L2
section
variable {τ : DSt} {H : DHp} {E : DEnds} {u t t' : DS} {te ta tb : DE} {K : DK}
theorem x_ev {d : D} (h : Ev te τ H d) (k : K d H) : te τ H K := h K k
theorem x_evT {c : DT} {b : Bool} {K : Bool → DHp → Prop} (h : EvT c τ H b) (k : K b H) : c τ H K := h K k
theorem x_op {r : DR2} (h : ta τ H fun x H1 => tb τ H1 fun y H2 => r x y H2 K) : dOp r ta tb τ H K := h
theorem x_un {r : D → DHp → DK → Prop} (h : ta τ H fun x H1 => r x H1 K) : dUn r ta τ H K := h
theorem x_rv {r : DR2} {x y d : D} (h : Rv2 r x y H d) (k : K d H) : r x y H K := h K k
theorem x_rc {r : DRC} {ds : List D} {d : D} (h : RvC r ds H d) (k : K d H) : r ds H K := h K k
theorem x_cb {r : DRC} {t : DA} (h : t τ H fun vs H1 => r vs H1 K) : dCB r t τ H K := h
theorem x_cons {t : DA} {K : List D → DHp → Prop} (h : te τ H fun x H1 => t τ H1 fun xs H2 => K (x :: xs) H2) : dCons te t τ H K := h
theorem x_nil {K : List D → DHp → Prop} (h : K [] H) : dNil τ H K := h
theorem x_tup {t : DA} (h : t τ H fun xs H1 => xs.length ≤ sizeLine ∧ K (.tup xs) H1) : dTup t τ H K := h
theorem x_lst {t : DA} (h : t τ H fun xs H1 => xs.length ≤ sizeLine ∧ K (.lst xs) H1) : dLst t τ H K := h
theorem x_size {P : Prop} {ds : List D} (k : Nat) (hk : ds.length = k) (hl : k ≤ 1000) (h : P) : ds.length ≤ sizeLine ∧ P := ⟨by rw [hk]; exact size_le4 (by omega), h⟩
def asBl (x : D) (k : Bool → Prop) : Prop := match x with
  | .bl b => k b
  | _ => False
theorem x_b {K : Bool → DHp → Prop} (h : te τ H fun x H1 => asBl x fun b => K b H1) : dB te τ H K := h
theorem x_asb {b : Bool} {k : Bool → Prop} (h : k b) : asBl (.bl b) k := h
theorem x_and {c d : DT} {K : Bool → DHp → Prop} (h : c τ H fun b H1 => if b = true then d τ H1 K else K false H1) : dAnd c d τ H K := h
theorem x_or {c d : DT} {K : Bool → DHp → Prop} (h : c τ H fun b H1 => if b = true then K true H1 else d τ H1 K) : dOr c d τ H K := h
theorem x_not {c : DT} {K : Bool → DHp → Prop} (h : c τ H fun b H1 => K (!b) H1) : dNot c τ H K := h
theorem x_if {c : DT} (h : c τ H fun b H1 => if b = true then ta τ H1 K else tb τ H1 K) : dIf c ta tb τ H K := h
theorem x_ite {b : Bool} {P P' : Prop} (h1 : b = true → P) (h2 : b = false → P') : if b = true then P else P' := by
  cases b with
  | true => exact h1 rfl
  | false => exact h2 rfl
theorem x_sl {r : D → Option Int → Option Int → DHp → DK → Prop} {tl th : DO'} (h : te τ H fun x H1 => tl τ H1 fun l H2 => th τ H2 fun u H3 => r x l u H3 K) : dSl r te tl th τ H K := h
theorem x_o {t : DO'} {o : Option Int} {K : Option Int → DHp → Prop} (h : EvO t τ H o) (k : K o H) : t τ H K := h K k
theorem x_slL {α : Type} {e : α → D} {xs : List α} {lo hi : Option Int} {a : D} (pa : peek H a = eL e xs) (k : K (eL e (cut xs lo hi)) H) : rSlD false a lo hi H K := by
  rw [rSlD_e, pa]
  show K (.lst (cutD (xs.map e) lo hi)) H
  rw [cut_map]
  exact k
theorem x_slT {α : Type} {e : α → D} {xs : List α} {lo hi : Option Int} (k : K (eT e (cut xs lo hi)) H) : rSlD false (eT e xs) lo hi H K := by
  show K (.tup (cutD (xs.map e) lo hi)) H
  rw [cut_map]
  exact k
/- statements without a model -/
theorem n_asg {α : Type} {v : α} {i : Nat} (e : α → D) (h : Ev te τ H (e v)) (k : ∀ x, x = v → u E (τ.set i (some (e x))) H) : dSeq (dAsg te (gN i)) u E τ H := h _ (k v rfl)
theorem n_asgX {i : Nat} (h : te τ H fun x H1 => u E (τ.set i (some x)) H1) : dSeq (dAsg te (gN i)) u E τ H := h
theorem n_asgGX {g : DG} (h : te τ H fun x H1 => g x τ H1 (u E)) : dSeq (dAsg te g) u E τ H := h
theorem n_gv {g : DG} {d : D} {τ' : DSt} {K : DSt → DHp → Prop} (h : Gv g d τ H τ') (k : K τ' H) : g d τ H K := h K k
theorem n_unp2 {α β : Type} {v : α × β} {i j : Nat} (e : α → D) (f : β → D) (h : Ev te τ H (eTup (cc e (c1 f)) v))
    (k : ∀ a b, a = v.1 → b = v.2 → u E ((τ.set i (some (e a))).set j (some (f b))) H) : dSeq (dAsg te (gT 2 (gConsD (gN i) (gConsD (gN j) gNilD)))) u E τ H := h _ ⟨rfl, k _ _ rfl rfl⟩
theorem n_unp3 {α β γ : Type} {v : α × β × γ} {i j l : Nat} (e : α → D) (f : β → D) (g : γ → D) (h : Ev te τ H (eTup (cc e (cc f (c1 g))) v))
    (k : ∀ a b c, a = v.1 → b = v.2.1 → c = v.2.2 → u E (((τ.set i (some (e a))).set j (some (f b))).set l (some (g c))) H) : dSeq (dAsg te (gT 3 (gConsD (gN i) (gConsD (gN j) (gConsD (gN l) gNilD))))) u E τ H := h _ ⟨rfl, k _ _ _ rfl rfl rfl⟩
def as2 (ds : List D) (k : D → D → Prop) : Prop := match ds with
  | [v, w] => k v w
  | _ => False
def as3 (ds : List D) (k : D → D → D → Prop) : Prop := match ds with
  | [v, w, x] => k v w x
  | _ => False
theorem n_par {i j : Nat} {t : DA} (h : t τ H fun ds H1 => as2 ds fun v w => u E ((τ.set i (some v)).set j (some w)) H1) : dSeq (dPar i j t) u E τ H := h
theorem n_par3 {i j l : Nat} {t : DA} (h : t τ H fun ds H1 => as3 ds fun v w x => u E (((τ.set i (some v)).set j (some w)).set l (some x)) H1) : dSeq (dPar3 i j l t) u E τ H := h
theorem n_as2 {v w : D} {k : D → D → Prop} (h : k v w) : as2 [v, w] k := h
theorem n_as3 {v w x : D} {k : D → D → D → Prop} (h : k v w x) : as3 [v, w, x] k := h
theorem n_if {b : Bool} {c : DT} (hc : EvT c τ H b) (k1 : b = true → dSeq t u E τ H) (k2 : b = false → dSeq t' u E τ H) : dSeq (dIfS c t t') u E τ H := hc _ (x_ite k1 k2)
theorem n_ifX {c : DT} (h : c τ H fun b H1 => if b = true then dSeq t u E τ H1 else dSeq t' u E τ H1) : dSeq (dIfS c t t') u E τ H := h
theorem n_retX (h : te τ H E.rt) : dSeq (dRet te) u E τ H := h
/-- names a value -/
theorem n_let {α : Type} (v : α) {P : Prop} (k : ∀ x, x = v → P) : P := k v rfl
theorem n_for {α S : Type} {ti : DI} {g : DG} {tb : DS} {ok : DHp → Prop} (e : α → D) (xs : List α) (I : List α → S → Prop) (s0 : S) (st : S → DSt → DHp → Prop)
    (hi : EvI ti τ H (xs.map e) ok) (hok : ∀ s τ' H', st s τ' H' → ok H') (h0 : st s0 τ H) (i0 : I [] s0)
    (hb : ∀ pre x post s τ' H', xs = pre ++ x :: post → I pre s → st s τ' H' → ∀ E' : DEnds, E'.rt = E.rt → (∀ s1 τ1 H1, I (pre ++ [x]) s1 → st s1 τ1 H1 → E'.nx τ1 H1 ∧ E'.ct τ1 H1) → g (e x) τ' H' fun τ1 H1 => tb E' τ1 H1)
    (k : ∀ s τ' H', st s τ' H' → I xs s → u E τ' H') : dSeq (dFor ti g tb) u E τ H := hi.2 _ (by
  have key : ∀ (ys pre : List α) (s : S) (τ' : DSt) (H' : DHp), xs = pre ++ ys → I pre s → st s τ' H' → dForL ok g tb (ys.map e) { E with nx := u E } τ' H' := by
    intro ys
    induction ys with
    | nil =>
      intro pre s τ' H' hx hp hs
      rw [List.append_nil] at hx
      subst hx
      exact ⟨hok _ τ' H' hs, k _ τ' H' hs hp⟩
    | cons x ys ih =>
      intro pre s τ' H' hx hp hs
      refine ⟨hok _ τ' H' hs, hb pre x ys _ τ' H' hx hp hs _ rfl ?_⟩
      intro s1 τ1 H1 hi h1
      have := ih (pre ++ [x]) s1 τ1 H1 (by simp [hx]) hi h1
      exact ⟨this, this⟩
  exact key xs [] s0 τ H rfl i0 h0)
theorem n_app {α : Type} {i : Nat} {p : Addr} {xs : List α} (e : α → D) (hv : τ[i]? = some (some (.ref p))) (hp : H p = some (.lst (xs.map e))) (h : te τ H fun d H1 => H1 = H ∧ ∃ v, d = e v ∧ xs.length < sizeLine ∧ ∀ H', H' p = some (.lst ((xs ++ [v]).map e)) → (∀ b, b ≠ p → H' b = H b) → u E τ H')
    (mono : ∀ K K' : DK, (∀ d H, K d H → K' d H) → te τ H K → te τ H K') : dSeq (dDrop (dBM "list" mAppend (dVar i) (dCons te dNil))) u E τ H := by
  rw [dSeq_e, dDrop_e, dBM_e, dVar_e, hv]
  show ofTy "list" H (.ref p) ∧ _
  refine ⟨by rw [ofTy_e]; simp only [hp], mono _ _ (fun d H1 => ?_) h⟩
  rintro ⟨rfl, v, rfl, hl, k⟩
  show mAppend (.ref p) [e v] H1 (fun _ H1 => u E τ H1)
  rw [mAppend_e, onLst_e]
  simp only [hp, List.length_map]
  refine ⟨hl, k _ ?_ dupd_fr⟩
  rw [dupd_same, List.map_append]
  rfl
/-- append of what is told by draws: the list first, then the value -/
theorem n_appX {i : Nat} {p : Addr} (hv : τ[i]? = some (some (.ref p))) (hp : ∃ xs, H p = some (.lst xs)) (h : te τ H fun d H1 => mAppend (.ref p) [d] H1 fun _ H2 => u E τ H2) : dSeq (dDrop (dBM "list" mAppend (dVar i) (dCons te dNil))) u E τ H := by
  rw [dSeq_e, dDrop_e, dBM_e, dVar_e, hv]
  obtain ⟨xs, hp⟩ := hp
  show ofTy "list" H (.ref p) ∧ _
  exact ⟨by rw [ofTy_e]; simp only [hp], h⟩
theorem n_appK {α : Type} {p : Addr} {xs : List α} {v : α} {K : DHp → Prop} (e : α → D) (hp : H p = some (.lst (xs.map e))) (hl : xs.length < sizeLine) (k : ∀ H', H' p = some (.lst ((xs ++ [v]).map e)) → (∀ b, b ≠ p → H' b = H b) → K H') : mAppend (.ref p) [e v] H fun _ H2 => K H2 := by
  rw [mAppend_e, onLst_e]
  simp only [hp, List.length_map]
  refine ⟨hl, k _ ?_ dupd_fr⟩
  rw [dupd_same, List.map_append]
  rfl
/- comprehensions with draws -/
inductive SubE {α β : Type} (R : α → β → Prop) (S : α → Prop) : List α → List β → Prop where
  | nil : SubE R S [] []
  | keep {x : α} {y : β} {xs : List α} {ys : List β} (h : R x y) (r : SubE R S xs ys) : SubE R S (x :: xs) (y :: ys)
  | skip {x : α} {xs : List α} {ys : List β} (h : S x) (r : SubE R S xs ys) : SubE R S (x :: xs) ys
theorem x_lcN {α β : Type} {ti : DI} {g : DG} {tt : DT} {vs : List Nat} (e : α → D) (e' : β → D) (xs : List α) (R : α → β → Prop) (S : α → Prop)
    (hi : EvJ ti τ H (xs.map e)) (hl : xs.length ≤ sizeLine)
    (hb : ∀ x ∈ xs, ∀ (Q : DK) (Z : DHp → Prop), (∀ y, R x y → Q (e' y) H) → (S x → Z H) → g (e x) (dwipe τ vs) H fun τ2 H2 => tt τ2 H2 fun b H3 => if b = true then te τ2 H3 Q else Z H3)
    (k : ∀ ys, SubE R S xs ys → K (eL e' ys) H) : dLc false ti g tt te vs τ H K := by
  obtain ⟨ok, hi⟩ := hi
  refine hi.2 _ ⟨by rw [List.length_map]; exact hl, ?_⟩
  have key : ∀ (zs : List α) (acc : List D) (K : List D → DHp → Prop), (∀ z ∈ zs, z ∈ xs) → (∀ ys, SubE R S zs ys → K (acc ++ ys.map e') H) → dCompL ok g tt te (dwipe τ vs) (zs.map e) acc H K := by
    intro zs
    induction zs with
    | nil => intro acc K _ h; exact ⟨hi.1, by simpa using h [] .nil⟩
    | cons z zs ih =>
      intro acc K hz h
      refine ⟨hi.1, hb z (hz z (by simp)) _ _ (fun y hy => ?_) (fun hs => ?_)⟩
      · exact ih _ K (fun w hw => hz w (by simp [hw])) fun ys hys => by simpa using h (y :: ys) (.keep hy hys)
      · exact ih _ K (fun w hw => hz w (by simp [hw])) fun ys hys => h ys (.skip hs hys)
  exact key xs [] _ (fun z hz => hz) fun ys hys => k ys hys
theorem SubE.sub {α : Type} {R : α → α → Prop} {S : α → Prop} (hR : ∀ x y, R x y → y = x) : ∀ {xs ys : List α}, SubE R S xs ys → ys.Sublist xs
  | _, _, .nil => List.Sublist.refl _
  | _, _, .keep h r => by rw [hR _ _ h]; exact (SubE.sub hR r).cons₂ _
  | _, _, .skip _ r => (SubE.sub hR r).cons _
theorem SubE.all {α β : Type} {R : α → β → Prop} {S : α → Prop} {P : β → Prop} : ∀ {xs : List α} {ys : List β}, SubE R S xs ys → (∀ x ∈ xs, ∀ y, R x y → P y) → ∀ y ∈ ys, P y
  | _, _, .nil, _, y, hy => by cases hy
  | _, _, .keep (x := x) h r, f, y, hy => by
    rcases List.mem_cons.mp hy with rfl | hy
    · exact f x (by simp) _ h
    · exact SubE.all r (fun z hz => f z (by simp [hz])) y hy
  | _, _, .skip h r, f, y, hy => SubE.all r (fun z hz => f z (by simp [hz])) y hy
theorem SubE.len {α β : Type} {R : α → β → Prop} {S : α → Prop} : ∀ {xs : List α} {ys : List β}, SubE R S xs ys → ys.length ≤ xs.length
  | _, _, .nil => Nat.le_refl _
  | _, _, .keep _ r => by have := SubE.len r; simp only [List.length_cons]; omega
  | _, _, .skip _ r => by have := SubE.len r; simp only [List.length_cons]; omega
theorem SubE.full {α β : Type} {R : α → β → Prop} {S : α → Prop} (hS : ∀ x, ¬ S x) : ∀ {xs : List α} {ys : List β}, SubE R S xs ys → ys.length = xs.length
  | _, _, .nil => rfl
  | _, _, .keep _ r => by simp only [List.length_cons, SubE.full hS r]
  | _, _, .skip h _ => absurd h (hS _)
/- texts -/
def rpr (d : D) : Str := d.py.shown
theorem c_repr {a d : D} (pa : peek H a = d) (h : showOk d) : RvC rReprD [a] H (.str (rpr d)) := fun Q q => by
  show showOk (peek H a) ∧ Q (.str (peek H a).py.shown) H
  rw [pa]
  exact ⟨h, q⟩
theorem c_reprD {d : D} (h : showOk d) : RvC rReprD [d] H (.str (rpr d)) := c_repr (peek_plain h.1 _) h
theorem r_eqS {a b : Str} : Rv2 rEqS (.str a) (.str b) H (.bl (a == b)) := fun Q q => q
theorem r_neS {a b : Str} : Rv2 rNeS (.str a) (.str b) H (.bl (!(a == b))) := fun Q q => q
end
/-! ### the draws that stand already -/
section
variable {H : DHp} {K : DK}
theorem call_pick {a : Addr} (ha : H a = some .src) (m : Int) (h : 1 ≤ m ∧ m < 2 ^ 64) (k : ∀ r : Int, 0 ≤ r ∧ r < m → K (eI r) H) : sp_law_pick [.ref a, .int m] H K :=
  ⟨a, m, rfl, ha, h.2, fun r h0 h1 => k r ⟨h0, by omega⟩⟩
theorem call_of {α : Type} {e : α → D} {a : Addr} {d : D} (ha : H a = some .src) (xs : List α) (sd : seqOf H d = some (xs.map e)) (h : xs ≠ [] ∧ xs.length ≤ 1000000) (k : ∀ r, r ∈ xs → K (e r) H) : sp_law_of [.ref a, d] H K :=
  ⟨a, d, xs.map e, rfl, ha, sd, by simpa using h.1, by rw [List.length_map]; exact h.2, fun x hx => by obtain ⟨y, hy, rfl⟩ := List.mem_map.mp hx; exact k y hy⟩
end
section
variable {τ : DSt} {H : DHp} {E : DEnds} {u : DS}
theorem x_newL {α : Type} {t : DA} {K : DK} (e : α → D) (xs : List α) (h : EvA t τ H (xs.map e)) (hl : xs.length ≤ sizeLine)
    (k : ∀ p H', H p = none → H' p = some (.lst (xs.map e)) → (∀ b, b ≠ p → H' b = H b) → K (.ref p) H') : dLstM t τ H K := h _ ⟨by rw [List.length_map]; exact hl, fun p hp => k p _ hp dupd_same dupd_fr⟩
theorem n_forX {te : DE} {g : DG} {tb : DS} (h : te τ H fun x H1 => dSeq (dFor (dISeq (dC x)) g tb) u E τ H1) : dSeq (dFor (dISeq te) g tb) u E τ H := h
theorem x_lcX {te te' : DE} {g : DG} {tt : DT} {vs : List Nat} {mu : Bool} {K : DK} (h : te τ H fun x H1 => dLc mu (dISeq (dC x)) g tt te' vs τ H1 K) : dLc mu (dISeq te) g tt te' vs τ H K := h
def NewAt (d : D) (H1 : DHp) (P : Addr → DHp → Prop) : Prop := match d with
  | .lst ys => ∀ p, H1 p = none → P p (dupd H1 p (.lst ys))
  | _ => True
theorem n_newX {ti : DI} {g : DG} {tt : DT} {te' : DE} {vs : List Nat} {i : Nat} (h : dLc false ti g tt te' vs τ H (fun d H1 => NewAt d H1 fun p H' => u E (τ.set i (some (.ref p))) H')) : dSeq (dAsg (dLc true ti g tt te' vs) (gN i)) u E τ H := h
theorem n_newK {α : Type} {e : α → D} {xs : List α} {P : Addr → DHp → Prop} (k : ∀ p H', H p = none → H' p = some (.lst (xs.map e)) → (∀ b, b ≠ p → H' b = H b) → P p H') : NewAt (eL e xs) H P := fun p hp => k p _ hp dupd_same dupd_fr
theorem n_store {td ty tv : DE} (h : tv τ H fun v H1 => td τ H1 fun x H2 => ty τ H2 fun y H3 => storeD H3 x y v (u E τ)) : dSeq (dStore td ty tv) u E τ H := h
theorem n_join {t : DS} (P : DSt → DHp → Prop) (h : ∀ E' : DEnds, E'.rt = E.rt → E'.ct = E.ct → (∀ τ H, P τ H → E'.nx τ H) → dSeq t dNext E' τ H) (k : ∀ τ H, P τ H → u E τ H) : dSeq t u E τ H :=
  h { E with nx := u E } rfl rfl k
/-- a law's first row -/
theorem n_src {K : PySem.W.Frag} {Q : DK} {ns : List Int} {a0 : Addr} {i : Nat} {u : DS} {τ : DSt} {H : DHp} (hlaw : ∀ H', Q (.bl true) H') (hl : ns.length ≤ 63) (hs : ScrAt K H a0 ns)
    (k : ∀ a DH, DH a = some .src → (∀ r : Bool, r = true → Q (eB r) DH) → u (bodyE Q) (τ.set i (some (.ref a))) DH) (hv : τ[0]? = some (some (.ref a0)) := by rfl) : dSeq (dAsg (dCB (sp_law_source K) (dCons (dVar 0) dNil)) (gN i)) u (bodyE Q) τ H := by
  rw [dSeq_e, dAsg_e, dCB_e, dCons_e, dVar_e, hv]
  exact ⟨a0, ns, rfl, hl, hs, fun p hp => k p _ dupd_same fun r hr => by rw [hr]; exact hlaw _⟩
end
end DL

/-! TL6: what may be told by repr, by encoders. -/
namespace DL
open PySem PySem.Spec PyProof.Rows L2
structure Shw (k m r : Nat) (d : D) : Prop where
  sm : d.sm k = true
  nd : d.nodes ≤ m
  dp : d.dep ≤ r
structure ShwL (k m r : Nat) (ds : List D) : Prop where
  sm : smL k ds = true
  nd : nodesL ds ≤ m
  dp : depL ds ≤ r
theorem Shw.ok {k m r : Nat} {d : D} (h : Shw k m r d) (hr : r ≤ 60 := by decide) (hm : (k + 3) * ((k + 1) * m) + k + 1 ≤ 16777216 := by decide) (h7 : 7 ≤ k := by decide) (hk : k ≤ 1920 := by decide) : showOk d := by
  refine showOk_of k h.sm (Nat.le_trans h.dp hr) ?_ h7 hk
  have := Nat.mul_le_mul_left (k + 3) (Nat.mul_le_mul_left (k + 1) h.nd)
  omega
theorem Shw.mono {k m r m' r' : Nat} {d : D} (h : Shw k m r d) (hm : m ≤ m') (hr : r ≤ r') : Shw k m' r' d := ⟨h.sm, Nat.le_trans h.nd hm, Nat.le_trans h.dp hr⟩
theorem shw_I {k : Nat} {i : Int} (h0 : -(2 ^ k) < i) (h1 : i < 2 ^ k) (hk : 0 < k := by decide) : Shw k 1 0 (.int i) := ⟨sm_int h0 h1 hk, Nat.le_refl _, Nat.le_refl _⟩
theorem shw_B {k : Nat} {b : Bool} : Shw k 1 0 (.bl b) := ⟨rfl, Nat.le_refl _, Nat.le_refl _⟩
theorem shw_N {k : Nat} : Shw k 1 0 .non := ⟨rfl, Nat.le_refl _, Nat.le_refl _⟩
theorem shw_S {k n : Nat} {x : Str} (h : PyData.strOk x = true) (hn : x.cps.size ≤ n) : Shw k (n + 1) 0 (.str x) := ⟨h, Nat.succ_le_succ hn, Nat.le_refl _⟩
theorem shw_W {k : Nat} (w : Str) (n : Nat) (h : PyData.strOk w = true := by decide +kernel) (hn : w.cps.size ≤ n := by decide +kernel) : Shw k (n + 1) 0 (eS w) := shw_S h hn
theorem shwl_nil {k : Nat} : ShwL k 0 0 [] := ⟨rfl, Nat.le_refl _, Nat.le_refl _⟩
theorem shwl_cons {k m1 r1 m2 r2 : Nat} {d : D} {ds : List D} (h : Shw k m1 r1 d) (t : ShwL k m2 r2 ds) : ShwL k (m1 + m2) (max r1 r2) (d :: ds) :=
  ⟨by simp only [smL, h.sm, t.sm, Bool.and_self], by have := h.nd; have := t.nd; simp only [nodesL]; omega, by have := h.dp; have := t.dp; simp only [depL]; omega⟩
theorem shw_tup {k m r : Nat} {ds : List D} (h : ShwL k m r ds) : Shw k (m + 1) (r + 1) (.tup ds) := ⟨h.sm, Nat.succ_le_succ h.nd, Nat.succ_le_succ h.dp⟩
theorem shw_lst {k m r : Nat} {ds : List D} (h : ShwL k m r ds) : Shw k (m + 1) (r + 1) (.lst ds) := ⟨h.sm, Nat.succ_le_succ h.nd, Nat.succ_le_succ h.dp⟩
section
variable {α β : Type} {e : α → D} {k m r : Nat}
theorem shwl_map {xs : List α} (n : Nat) (h : ∀ x ∈ xs, Shw k m r (e x)) (hn : xs.length ≤ n) : ShwL k (n * m) r (xs.map e) := by
  refine ⟨smL_all fun y hy => ?_, ?_, depL_le fun y hy => ?_⟩
  · obtain ⟨x, hx, rfl⟩ := List.mem_map.mp hy; exact (h x hx).sm
  · have := nodesL_le (xs := xs.map e) (m := m) fun y hy => by obtain ⟨x, hx, rfl⟩ := List.mem_map.mp hy; exact (h x hx).nd
    rw [List.length_map] at this
    exact Nat.le_trans this (Nat.mul_le_mul_right m hn)
  · obtain ⟨x, hx, rfl⟩ := List.mem_map.mp hy; exact (h x hx).dp
theorem shw_T {xs : List α} (n : Nat) (h : ∀ x ∈ xs, Shw k m r (e x)) (hn : xs.length ≤ n) : Shw k (n * m + 1) (r + 1) (eT e xs) := shw_tup (shwl_map n h hn)
theorem shw_L {xs : List α} (n : Nat) (h : ∀ x ∈ xs, Shw k m r (e x)) (hn : xs.length ≤ n) : Shw k (n * m + 1) (r + 1) (eL e xs) := shw_lst (shwl_map n h hn)
theorem shw_tp {l : α → List D} {a : α} (h : ShwL k m r (l a)) : Shw k (m + 1) (r + 1) (eTup l a) := shw_tup h
theorem shw_c1 {a : α} (h : Shw k m r (e a)) : ShwL k m r (c1 e a) := by
  have := shwl_cons h shwl_nil
  rw [Nat.add_zero, Nat.max_zero] at this
  exact this
theorem shw_cc {m2 r2 : Nat} {l : β → List D} {p : α × β} (h : Shw k m r (e p.1)) (t : ShwL k m2 r2 (l p.2)) : ShwL k (m + m2) (max r r2) (cc e l p) := shwl_cons h t
theorem shw_O {a : Option α} (hm : 1 ≤ m) (h : ∀ x, a = some x → Shw k m r (e x)) : Shw k m r (eO e a) := by
  cases a with
  | none => exact (shw_N).mono hm (Nat.zero_le _)
  | some x => exact h x rfl
theorem shw_R {p : Int × Int} (h1 : -(2 ^ k) < p.1 ∧ p.1 < 2 ^ k) (h2 : -(2 ^ k) < p.2 ∧ p.2 < 2 ^ k) (hk : 0 < k := by decide) : Shw k 3 1 (eR p) := shw_tp (shw_cc (shw_I h1.1 h1.2 hk) (shw_c1 (shw_I h2.1 h2.2 hk)))
end
/-- equal values have equal texts -/
theorem rpr_eq {a b : D} (h : a = b) : (rpr a == rpr b) = true := by subst h; simp
theorem rpr_ne {a b : D} (h : a = b) : (!(rpr a == rpr b)) = false := by rw [rpr_eq h]; rfl
theorem rpr_no {a b : D} (h : (!(rpr a == rpr b)) = true) (e : a = b) : False := by rw [rpr_ne e] at h; cases h
end DL

local macro_rules
  | `(tactic| unfold dd $ls*) => `(tactic| try simp only [↓DL.dVar_e, ↓DL.dC_e, ↓DL.dOp_e, ↓DL.dUn_e, ↓DL.dB_e, ↓DL.dChain_e, ↓DL.dAnd_e, ↓DL.dOr_e, ↓DL.dNot_e, ↓DL.dAndV_e, ↓DL.dOrV_e, ↓DL.dNotV_e, ↓DL.dIf_e, ↓DL.dNil_e, ↓DL.dCons_e, ↓DL.dTup_e, ↓DL.dLst_e, ↓DL.dCB_e, ↓DL.dNext_e, ↓DL.dSeq_e, ↓DL.dCont_e, ↓DL.dBreak_e, ↓DL.dDrop_e, ↓DL.dRet_e, ↓DL.dRetN_e, ↓DL.dIfS_e, ↓DL.gN_e, ↓DL.gNilD_e, ↓DL.gConsD_e, ↓DL.gT_e, ↓DL.dAsg_e, ↓DL.dPar_e, ↓DL.dPar3_e, ↓DL.dYes_e, ↓DL.dISeq_e, ↓DL.dIRg1_e, ↓DL.dIRg2_e, ↓DL.dIEnum_e, ↓DL.dIZip_e, ↓DL.rIntD_e, ↓DL.rNegD_e, ↓DL.rEq_intF, ↓DL.rEq_intT, ↓DL.rAddD_e, ↓DL.rMulD_e, ↓DL.rIxD_e, ↓DL.rI1_e, ↓DL.rI2_e, ↓DL.rIntCD_e, ↓DL.rSumD_e, ↓DL.rAllD_e, ↓DL.rIsiD_e, ↓DL.rLenD_e, ↓DL.rTupD_e, ↓DL.rLstD_e, ↓DL.rIsN_e, ↓DL.rSlD_e, ↓DL.dSl_e, ↓DL.dNoPart_e, ↓DL.dPart_e, ↓DL.dRev_e, ↓DL.dGet_e, ↓DL.dIn_e, ↓DL.dStore_e, ↓DL.dBM0_e, ↓DL.dBM_e, ↓DL.dDisp_e, ↓DL.mAppend_e, ↓DL.mPop_e, ↓DL.dNewK_e, ↓DL.dNewT_e, ↓DL.dLstM_e, ↓DL.dFrz_e, ↓DL.rReprD_e, ↓DL.rNeS_e, ↓DL.rEqS_e, ↓DL.asB_e, ↓DL.walkD_e, ↓DL.lookD_e, ↓DL.storeD_e, ↓DL.ofTy_e, ↓DL.onLst_e, DL.bodyE, DL.dstart, DL.dPairs, DL.dwipe, DL.keysOf, DL.keyD, DL.isNon, DL.peek_int, DL.peek_bl, DL.peek_non, DL.peek_str, DL.peek_tup, DL.peek_lst, DL.seqOf_tup, DL.seqOf_lst, DL.listOf_lst, DL.tyOf, DL.isTy, DL.atI0, DL.atI1, DL.atI2, DL.atI3, DL.atI4, DL.atI5, DL.dupd_same, DL.dupd_dupd, List.map_cons, List.map_nil, List.length_cons, List.length_nil, List.cons_append, List.nil_append, List.replicate_succ, List.replicate_zero, Nat.reduceAdd, Nat.reduceSub, Nat.zero_add, List.getElem?_cons_zero, List.getElem?_cons_succ, List.set_cons_zero, List.set_cons_succ, true_and, and_true, Int.toNat_natCast, if_true, if_false, Bool.false_eq_true, reduceCtorEq, ne_eq, not_false_eq_true, not_true_eq_false, decide_eq_true_eq, Bool.not_eq_true', decide_eq_false_iff_not, Option.bind_some, Option.map_some, $[$ls:term],*])
local macro_rules
  | `(tactic| unfold d2 $ls*) => `(tactic| try simp only [↓DL.dFor_e, ↓DL.dLc_e, ↓DL.dVar_e, ↓DL.dC_e, ↓DL.dOp_e, ↓DL.dUn_e, ↓DL.dB_e, ↓DL.dChain_e, ↓DL.dAnd_e, ↓DL.dOr_e, ↓DL.dNot_e, ↓DL.dAndV_e, ↓DL.dOrV_e, ↓DL.dNotV_e, ↓DL.dIf_e, ↓DL.dNil_e, ↓DL.dCons_e, ↓DL.dTup_e, ↓DL.dLst_e, ↓DL.dCB_e, ↓DL.dNext_e, ↓DL.dSeq_e, ↓DL.dCont_e, ↓DL.dBreak_e, ↓DL.dDrop_e, ↓DL.dRet_e, ↓DL.dRetN_e, ↓DL.dIfS_e, ↓DL.gN_e, ↓DL.gNilD_e, ↓DL.gConsD_e, ↓DL.gT_e, ↓DL.dAsg_e, ↓DL.dPar_e, ↓DL.dPar3_e, ↓DL.dYes_e, ↓DL.dISeq_e, ↓DL.dIRg1_e, ↓DL.dIRg2_e, ↓DL.dIEnum_e, ↓DL.dIZip_e, ↓DL.rIntD_e, ↓DL.rNegD_e, ↓DL.rEq_intF, ↓DL.rEq_intT, ↓DL.rAddD_e, ↓DL.rMulD_e, ↓DL.rIxD_e, ↓DL.rI1_e, ↓DL.rI2_e, ↓DL.rIntCD_e, ↓DL.rSumD_e, ↓DL.rAllD_e, ↓DL.rIsiD_e, ↓DL.rLenD_e, ↓DL.rTupD_e, ↓DL.rLstD_e, ↓DL.rIsN_e, ↓DL.rSlD_e, ↓DL.dSl_e, ↓DL.dNoPart_e, ↓DL.dPart_e, ↓DL.dRev_e, ↓DL.dGet_e, ↓DL.dIn_e, ↓DL.dStore_e, ↓DL.dBM0_e, ↓DL.dBM_e, ↓DL.dDisp_e, ↓DL.mAppend_e, ↓DL.mPop_e, ↓DL.dNewK_e, ↓DL.dNewT_e, ↓DL.dLstM_e, ↓DL.dFrz_e, ↓DL.rReprD_e, ↓DL.rNeS_e, ↓DL.rEqS_e, ↓DL.asB_e, ↓DL.walkD_e, ↓DL.lookD_e, ↓DL.storeD_e, ↓DL.ofTy_e, ↓DL.onLst_e, DL.bodyE, DL.dstart, DL.dPairs, DL.dwipe, DL.keysOf, DL.keyD, DL.isNon, DL.peek_int, DL.peek_bl, DL.peek_non, DL.peek_str, DL.peek_tup, DL.peek_lst, DL.seqOf_tup, DL.seqOf_lst, DL.listOf_lst, DL.tyOf, DL.isTy, DL.atI0, DL.atI1, DL.atI2, DL.atI3, DL.atI4, DL.atI5, DL.dupd_same, DL.dupd_dupd, List.map_cons, List.map_nil, List.length_cons, List.length_nil, List.cons_append, List.nil_append, List.replicate_succ, List.replicate_zero, Nat.reduceAdd, Nat.reduceSub, Nat.zero_add, List.getElem?_cons_zero, List.getElem?_cons_succ, List.set_cons_zero, List.set_cons_succ, true_and, and_true, Int.toNat_natCast, if_true, if_false, Bool.false_eq_true, reduceCtorEq, ne_eq, not_false_eq_true, not_true_eq_false, decide_eq_true_eq, Bool.not_eq_true', decide_eq_false_iff_not, Option.bind_some, Option.map_some, $[$ls:term],*])
local macro_rules
  | `(tactic| unfold d3 $ls*) => `(tactic| try simp only [↓DL.dLstRg1_e, ↓DL.dLstRg2_e, ↓DL.rSortD_e, ↓DL.rMaxL_e, ↓DL.rMinL_e, ↓DL.tell_F, ↓DL.tell_T, DL.ints_map, DL.bls_map, DL.pairs_map, ↓DL.dFor_e, ↓DL.dLc_e, ↓DL.dVar_e, ↓DL.dC_e, ↓DL.dOp_e, ↓DL.dUn_e, ↓DL.dB_e, ↓DL.dChain_e, ↓DL.dAnd_e, ↓DL.dOr_e, ↓DL.dNot_e, ↓DL.dAndV_e, ↓DL.dOrV_e, ↓DL.dNotV_e, ↓DL.dIf_e, ↓DL.dNil_e, ↓DL.dCons_e, ↓DL.dTup_e, ↓DL.dLst_e, ↓DL.dCB_e, ↓DL.dNext_e, ↓DL.dSeq_e, ↓DL.dCont_e, ↓DL.dBreak_e, ↓DL.dDrop_e, ↓DL.dRet_e, ↓DL.dRetN_e, ↓DL.dIfS_e, ↓DL.gN_e, ↓DL.gNilD_e, ↓DL.gConsD_e, ↓DL.gT_e, ↓DL.dAsg_e, ↓DL.dPar_e, ↓DL.dPar3_e, ↓DL.dYes_e, ↓DL.dISeq_e, ↓DL.dIRg1_e, ↓DL.dIRg2_e, ↓DL.dIEnum_e, ↓DL.dIZip_e, ↓DL.rIntD_e, ↓DL.rNegD_e, ↓DL.rEq_intF, ↓DL.rEq_intT, ↓DL.rAddD_e, ↓DL.rMulD_e, ↓DL.rIxD_e, ↓DL.rI1_e, ↓DL.rI2_e, ↓DL.rIntCD_e, ↓DL.rSumD_e, ↓DL.rAllD_e, ↓DL.rIsiD_e, ↓DL.rLenD_e, ↓DL.rTupD_e, ↓DL.rLstD_e, ↓DL.rIsN_e, ↓DL.rSlD_e, ↓DL.dSl_e, ↓DL.dNoPart_e, ↓DL.dPart_e, ↓DL.dRev_e, ↓DL.dGet_e, ↓DL.dIn_e, ↓DL.dStore_e, ↓DL.dBM0_e, ↓DL.dBM_e, ↓DL.dDisp_e, ↓DL.mAppend_e, ↓DL.mPop_e, ↓DL.dNewK_e, ↓DL.dNewT_e, ↓DL.dLstM_e, ↓DL.dFrz_e, ↓DL.rReprD_e, ↓DL.rNeS_e, ↓DL.rEqS_e, ↓DL.asB_e, ↓DL.walkD_e, ↓DL.lookD_e, ↓DL.storeD_e, ↓DL.ofTy_e, ↓DL.onLst_e, DL.bodyE, DL.dstart, DL.dPairs, DL.dwipe, DL.keysOf, DL.keyD, DL.isNon, DL.peek_int, DL.peek_bl, DL.peek_non, DL.peek_str, DL.peek_tup, DL.peek_lst, DL.seqOf_tup, DL.seqOf_lst, DL.listOf_lst, DL.tyOf, DL.isTy, DL.atI0, DL.atI1, DL.atI2, DL.atI3, DL.atI4, DL.atI5, DL.dupd_same, DL.dupd_dupd, List.map_cons, List.map_nil, List.length_cons, List.length_nil, List.cons_append, List.nil_append, List.replicate_succ, List.replicate_zero, Nat.reduceAdd, Nat.reduceSub, Nat.zero_add, List.getElem?_cons_zero, List.getElem?_cons_succ, List.set_cons_zero, List.set_cons_succ, true_and, and_true, Int.toNat_natCast, if_true, if_false, Bool.false_eq_true, reduceCtorEq, ne_eq, not_false_eq_true, not_true_eq_false, decide_eq_true_eq, Bool.not_eq_true', decide_eq_false_iff_not, Option.bind_some, Option.map_some, $[$ls:term],*])
local macro_rules
  | `(tactic| unfold ob) => `(tactic| first | decide | assumption | omega | exact DL.mulD_l (by omega) (by omega) | exact DL.mulD_r (by omega) (by omega) | (refine DL.size_le4 ?_; (try simp only [List.length_map, DL.rng_length, DL.enumF_length, List.length_cons, List.length_nil, List.length_append, List.length_zip]); omega) | (exact DL.size_le4 (Nat.le_trans (List.length_filter_le _ _) (by (try simp only [List.length_map, DL.rng_length, DL.enumF_length]); omega))) | (unfold DL.inIx; omega) | (unfold DL.inIx; (try simp only [List.length_map, List.length_cons, List.length_nil, List.length_append, List.length_dropLast]); omega) | (simp_all; done))
namespace DL
open PySem PySem.Spec PyProof.Rows L2
/-! P04f: what the law draws, and asks. -/
theorem foundD_eO (o : Option (Int × Int)) : foundD o = eO eR o := by cases o <;> rfl
def gcdLI (ns : List Int) : Int := (gcdL ns : Nat)
theorem call_law_divisor {DH : DHp} (ns : List Int) : RvC sp_gdL [eT eI ns] DH (eI (gcdLI ns)) := fun Q q => ⟨ns, rfl, q⟩
def m_unlike (one other : List (Int × Int)) : Option (Int × Int) := (allP (one.length : Int)).find? (unl one other)
theorem call_unlike {DH : DHp} (one other : List (Int × Int)) (T : TwoOk one other) : RvC sp_law_unlike [eT eR one, eT eR other] DH (eO eR (m_unlike one other)) := fun Q q =>
  ⟨one, other, rfl, T.len, T.small, fun p hp => (T.in1 p hp).mono (by decide), fun p hp => (T.in2 p hp).mono (by decide), by rw [foundD_eO]; exact q⟩
theorem call_move_paper {DH : DHp} (one other : List (Int × Int)) (T : TwoOk one other) : RvC sp_move_paper [eT eR one, eT eR other] DH (eD (paperD one other)) := fun Q q => ⟨one, other, rfl, T, q⟩
theorem call_fives {H : DHp} {K : DK} {a : Addr} (ha : H a = some .src) (places : List (Int × Int)) (h : places.length ≤ 1000 ∧ ∀ p ∈ places, InB 100 p) (k : ∀ r : List (Int × Int) × List (Int × Int), (r.1.length = places.length ∧ r.2.length = places.length ∧ (∀ p ∈ r.1, InB 10000 p) ∧ ∀ p ∈ r.2, InB 10000 p) → K (eTup (cc (eT eR) (c1 (eT eR))) r) H) : sp_law_fives [.ref a, eT eR places] H K :=
  ⟨a, places, rfl, ha, h.1, h.2, fun p1 p2 h1 h2 h3 h4 => k (p1, p2) ⟨h1, h2, h3, h4⟩⟩
theorem call_places {H : DHp} {K : DK} {a : Addr} (ha : H a = some .src) (n wide : Int) (h : 1 ≤ n ∧ n ≤ 1000 ∧ 1 ≤ wide ∧ wide ≤ 1000000) (k : ∀ r : List (Int × Int), ((r.length : Int) = n ∧ ∀ p ∈ r, InB (2 * wide + 1) p) → K (eT eR r) H) : sp_law_places [.ref a, .int n, .int wide] H K :=
  ⟨a, n, wide, rfl, ha, h.1, h.2.1, h.2.2.1, h.2.2.2, fun pl h1 h2 => k pl ⟨h1, h2⟩⟩
theorem zmem {α β : Type} {xs : List α} {ys : List β} {z : α × β} (h : z ∈ xs.zip ys) : z.1 ∈ xs ∧ z.2 ∈ ys := List.of_mem_zip h
theorem ix_mem {α : Type} [Inhabited α] {xs : List α} {i : Int} (h : inIx xs i) : ix xs i ∈ xs := by
  have e := atI_in h
  unfold atI at e
  cases q : ixN xs.length i with
  | none => rw [q] at e; cases e
  | some k => rw [q] at e; exact List.mem_of_getElem? e
theorem setI_mem {α : Type} {xs : List α} {i : Int} {v p : α} (h : p ∈ setI xs i v) : p ∈ xs ∨ p = v := by
  unfold setI at h
  split at h
  · exact List.mem_or_eq_of_mem_set h
  · exact .inl h
theorem other_ok {P : Prop} {n m : Nat} (h : n = m) (k : P) : n = m ∧ P := ⟨h, k⟩
theorem other_in {places : List (Int × Int)} {way a b : Int} (hb : ∀ p ∈ places, InB 100 p) (ha : -5 ≤ a ∧ a ≤ 5) (hb2 : -5 ≤ b ∧ b ≤ 5) : ∀ p ∈ List.map (fun z1 : Int × Int => (z1.1 + a, z1.2 + b)) (List.map (fun z : Int × Int => if decide (way = 0) = true then (0 - z.2, z.1) else if decide (way = 1) = true then (z.1, 0 - z.2) else if decide (way = 2) = true then (z.2, z.1) else (z.1, z.2)) places), InB 500 p := by
  intro p hp
  simp only [List.mem_map] at hp
  obtain ⟨q, ⟨z, hz, rfl⟩, rfl⟩ := hp
  have := hb z hz
  unfold InB at this ⊢
  by_cases h0 : way = 0
  · simp only [h0, decide_true, if_true]; omega
  · by_cases h1 : way = 1
    · simp only [h1]; simp only [show decide ((1 : Int) = 0) = false by decide, decide_true, Bool.false_eq_true, if_false, if_true]; omega
    · by_cases h2 : way = 2
      · simp only [h2]; simp only [show decide ((2 : Int) = 0) = false by decide, show decide ((2 : Int) = 1) = false by decide, decide_true, Bool.false_eq_true, if_false, if_true]; omega
      · simp only [h0, h1, h2, decide_false, Bool.false_eq_true, if_false]; omega
theorem other_step {p : Int × Int} {u v : Int} (h : InB 500 p) (hu : u = 1 ∨ u = -1 ∨ u = 0) (hv : v = 1 ∨ v = 0) : InB 1000 (p.1 + u, p.2 + v) := by
  unfold InB at h ⊢
  simp only
  omega
theorem other_set {places : List (Int × Int)} {way a b i u v : Int} (hb : ∀ p ∈ places, InB 100 p) (ha : -5 ≤ a ∧ a ≤ 5) (hb2 : -5 ≤ b ∧ b ≤ 5){F : List (Int × Int)} (hi : inIx F i) (hu : u = 1 ∨ u = -1 ∨ u = 0) (hv : v = 1 ∨ v = 0) (hF : F = List.map (fun z1 : Int × Int => (z1.1 + a, z1.2 + b)) (List.map (fun z : Int × Int => if decide (way = 0) = true then (0 - z.2, z.1) else if decide (way = 1) = true then (z.1, 0 - z.2) else if decide (way = 2) = true then (z.2, z.1) else (z.1, z.2)) places) := by rfl) : ∀ p ∈ setI F i ((ix F i).1 + u, (ix F i).2 + v), InB 1000 p := by
  intro p hp
  have hin : ∀ p ∈ F, InB 500 p := by rw [hF]; exact other_in hb ha hb2
  rcases setI_mem hp with h | h
  · exact (hin p h).mono (by decide)
  · rw [h]
    exact other_step (hin _ (ix_mem hi)) hu hv
/-! ### _law_is_right -/
def rd_law_is_right : DS :=
  (dSeq (dIfS (dOr (dNot (dB (dCB rIsiD (dCons (dVar 0) (dCons (dC (.ty "tuple")) dNil))))) (dB (dOp (rEqD true) (dCB rLenD (dCons (dVar 0) dNil)) (dC (.int 6))))) (dRet (dC (.bl false))) dNext)
    (dSeq (dAsg (dVar 0) (gT 6 (gConsD (gN 3) (gConsD (gN 4) (gConsD (gN 5) (gConsD (gN 6) (gConsD (gN 7) (gConsD (gN 8) gNilD))))))))
    (dSeq (dIfS (dOr (dB (dOp (rEqD true) (dOp rAddD (dOp rMulD (dVar 3) (dVar 3)) (dOp rMulD (dVar 4) (dVar 4))) (dOp rMulD (dVar 6) (dVar 6)))) (dOr (dB (dOp (rIntD (fun _ _ => True) fun i j => .bl (decide (i < j))) (dVar 6) (dC (.int 1)))) (dB (dOp (rInD true) (dVar 5) (dTup (dCons (dC (.int 1)) (dCons (dUn rNegD (dC (.int 1))) dNil))))))) (dRet (dC (.bl false))) dNext)
    (dSeq (dIfS (dB (dOp (rEqD true) (dCB sp_gdL (dCons (dTup (dCons (dVar 3) (dCons (dVar 4) (dCons (dVar 6) (dCons (dVar 7) (dCons (dVar 8) dNil)))))) dNil)) (dC (.int 1)))) (dRet (dC (.bl false))) dNext)
    (dSeq (dFor (dIZip (dCons (dVar 1) (dCons (dVar 2) dNil))) (gT 2 (gConsD (gT 2 (gConsD (gN 9) (gConsD (gN 10) gNilD))) (gConsD (gT 2 (gConsD (gN 11) (gConsD (gN 12) gNilD))) gNilD))) (dIfS (dB (dOp (rEqD true) (dTup (dCons (dOp rAddD (dOp (rIntD (fun _ _ => True) fun i j => .int (i - j)) (dOp rMulD (dVar 3) (dVar 9)) (dOp rMulD (dOp rMulD (dVar 5) (dVar 4)) (dVar 10))) (dVar 7)) (dCons (dOp rAddD (dOp rAddD (dOp rMulD (dVar 4) (dVar 9)) (dOp rMulD (dOp rMulD (dVar 5) (dVar 3)) (dVar 10))) (dVar 8)) dNil))) (dTup (dCons (dOp rMulD (dVar 6) (dVar 11)) (dCons (dOp rMulD (dVar 6) (dVar 12)) dNil))))) (dRet (dC (.bl false))) dNext))
    (dRet (dC (.bl true))))))))
def m_law_is_right (move : (Int × Int × Int × Int × Int × Int)) (one : (List (Int × Int))) (other : (List (Int × Int))) : Bool :=
  (if ((!true) || (!decide ((6 : Int) = (6 : Int)))) = true then false else (if ((!decide (((move.1 * move.1) + (move.2.1 * move.2.1)) = (move.2.2.2.1 * move.2.2.2.1))) || ((decide (move.2.2.2.1 < (1 : Int))) || (!decide (move.2.2.1 ∈ [(1 : Int), (-(1 : Int))])))) = true then false else (if (!decide ((gcdLI ([move.1, move.2.1, move.2.2.2.1, move.2.2.2.2.1, move.2.2.2.2.2])) = (1 : Int))) = true then false else onR (forR (fun (st : Unit) (z : ((Int × Int) × (Int × Int))) => ((if (!decide (((((move.1 * z.1.1) - ((move.2.2.1 * move.2.1) * z.1.2)) + move.2.2.2.2.1), (((move.2.1 * z.1.1) + ((move.2.2.1 * move.1) * z.1.2)) + move.2.2.2.2.2)) = ((move.2.2.2.1 * z.2.1), (move.2.2.2.1 * z.2.2)))) = true then Ctl.ret (false) else Ctl.nxt ()) : Ctl Bool Unit)) (one.zip other) ()) (fun r => r) (fun (st : Unit) => true))))
def sp_law_is_right : DSp := fun ds DH Q => ∃ (move : (Int × Int × Int × Int × Int × Int)) (one : (List (Int × Int))) (other : (List (Int × Int))), ds = [(eTup (cc eI (cc eI (cc eI (cc eI (cc eI (c1 eI))))))) move, (eT (eTup (cc eI (c1 eI)))) one, (eT (eTup (cc eI (c1 eI)))) other] ∧ (one.length ≤ 1000) ∧ (-(2 ^ 62) ≤ move.1 ∧ move.1 ≤ 2 ^ 62) ∧ (-(2 ^ 62) ≤ move.2.1 ∧ move.2.1 ≤ 2 ^ 62) ∧ (move.2.2.1 = 1 ∨ move.2.2.1 = -1) ∧ (1 ≤ move.2.2.2.1 ∧ move.2.2.2.1 ≤ 2 ^ 62) ∧ (∀ p ∈ one, InB 10000 p) ∧ (∀ p ∈ other, InB 10000 p) ∧ Q (eB (m_law_is_right move one other)) DH
theorem call_law_is_right {DH : DHp} (move : (Int × Int × Int × Int × Int × Int)) (one : (List (Int × Int))) (other : (List (Int × Int))) (hl : one.length ≤ 1000) (hc : -(2 ^ 62) ≤ move.1 ∧ move.1 ≤ 2 ^ 62) (hs1 : -(2 ^ 62) ≤ move.2.1 ∧ move.2.1 ≤ 2 ^ 62) (hm : move.2.2.1 = 1 ∨ move.2.2.1 = -1) (hd : 1 ≤ move.2.2.2.1 ∧ move.2.2.2.1 ≤ 2 ^ 62) (h1 : ∀ p ∈ one, InB 10000 p) (h2 : ∀ p ∈ other, InB 10000 p) : RvC sp_law_is_right [(eTup (cc eI (cc eI (cc eI (cc eI (cc eI (c1 eI))))))) move, (eT (eTup (cc eI (c1 eI)))) one, (eT (eTup (cc eI (c1 eI)))) other] DH (eB (m_law_is_right move one other)) := fun Q q => ⟨move, one, other, rfl, hl, hc, hs1, hm, hd, h1, h2, q⟩
set_option maxHeartbeats 0 in
theorem law_is_right_ok {ds : List D} {DH : DHp} {Q : DK} (h : sp_law_is_right ds DH Q) : rd_law_is_right (bodyE Q) (dstart ["move", "one", "other", "c", "s", "mirror", "d", "x", "y", "p", "q", "late", "wide"] ds) DH := by
  obtain ⟨move, one, other, rfl, hl, hc, hs1, hm, hd, h1, h2, hQ⟩ := h
  replace hQ : Tk (fun r => Q (eB r) DH) (m_law_is_right move one other) := hQ
  have hs := DSub.refl DH
  unfold rd_law_is_right
  unfold m_law_is_right at hQ
  show (_ : DS) _ [some ((eTup (cc eI (cc eI (cc eI (cc eI (cc eI (c1 eI))))))) move), some ((eT (eTup (cc eI (c1 eI)))) one), some ((eT (eTup (cc eI (c1 eI)))) other), none, none, none, none, none, none, none, none, none, none] _
  refine s_if (b := ((!true) || (!decide ((6 : Int) = (6 : Int))))) hQ (et_or (et_not (et_b (ev_cb (ea_cons (evd ((eTup (cc eI (cc eI (cc eI (cc eI (cc eI (c1 eI))))))) move) (ev_var rfl)) (ea_cons ev_c ea_nil)) (c_isi (t := "tuple") (n := "tuple") rfl (by decide) (by decide))))) (fun hc => (et_b (ev_op (evd (eI (6 : Int)) (ev_cb (ea_cons (evd ((eTup (cc eI (cc eI (cc eI (cc eI (cc eI (c1 eI))))))) move) (ev_var rfl)) ea_nil) c_lenP)) (evd (eI (6 : Int)) ev_c) (r_ne (e := eI) (x := (6 : Int)) (y := (6 : Int)) (by decide) (peek_gd _ _) (peek_gd _ _)))))) (fun hc1 hQ => ?_) (fun hc1 hQ => ?_)
  · skip
    show (_ : DS) _ [some ((eTup (cc eI (cc eI (cc eI (cc eI (cc eI (c1 eI))))))) move), some ((eT (eTup (cc eI (c1 eI)))) one), some ((eT (eTup (cc eI (c1 eI)))) other), none, none, none, none, none, none, none, none, none, none] _
    exact s_ret (evd (eB false) ev_c) ⟨DH, hs, hQ⟩
  · skip
    refine s_skip ?_
    show (_ : DS) _ [some ((eTup (cc eI (cc eI (cc eI (cc eI (cc eI (c1 eI))))))) move), some ((eT (eTup (cc eI (c1 eI)))) one), some ((eT (eTup (cc eI (c1 eI)))) other), none, none, none, none, none, none, none, none, none, none] _
    refine s_asgG (evd ((eTup (cc eI (cc eI (cc eI (cc eI (cc eI (c1 eI))))))) move) (ev_var rfl)) (gv_T rfl (gvs_cons gv_N (gvs_cons gv_N (gvs_cons gv_N (gvs_cons gv_N (gvs_cons gv_N (gvs_cons gv_N gvs_nil))))))) ?_
    show (_ : DS) _ [some ((eTup (cc eI (cc eI (cc eI (cc eI (cc eI (c1 eI))))))) move), some ((eT (eTup (cc eI (c1 eI)))) one), some ((eT (eTup (cc eI (c1 eI)))) other), some (eI move.1), some (eI move.2.1), some (eI move.2.2.1), some (eI move.2.2.2.1), some (eI move.2.2.2.2.1), some (eI move.2.2.2.2.2), none, none, none, none] _
    refine s_if (b := ((!decide (((move.1 * move.1) + (move.2.1 * move.2.1)) = (move.2.2.2.1 * move.2.2.2.1))) || ((decide (move.2.2.2.1 < (1 : Int))) || (!decide (move.2.2.1 ∈ [(1 : Int), (-(1 : Int))]))))) hQ (et_or (et_b (ev_op (evd (eI ((move.1 * move.1) + (move.2.1 * move.2.1))) (ev_op (ev_op (ev_var rfl) (ev_var rfl) (r_mul (by exact mulD_l (by omega) (by omega)))) (ev_op (ev_var rfl) (ev_var rfl) (r_mul (by exact mulD_l (by omega) (by omega)))) r_add)) (evd (eI (move.2.2.2.1 * move.2.2.2.1)) (ev_op (ev_var rfl) (ev_var rfl) (r_mul (by exact mulD_l (by omega) (by omega))))) (r_ne (e := eI) (x := ((move.1 * move.1) + (move.2.1 * move.2.1))) (y := (move.2.2.2.1 * move.2.2.2.1)) (by decide) (peek_gd _ _) (peek_gd _ _)))) (fun hc3 => (et_or (et_b (ev_op (ev_var rfl) ev_c r_lt)) (fun hc2 => (et_b (ev_op (evd (eI move.2.2.1) (ev_var rfl)) (evd ((eT eI) [(1 : Int), (-(1 : Int))]) (ev_tupK 2 (ea_cons (evd (eI (1 : Int)) ev_c) (ea_cons (evd (eI (-(1 : Int))) (ev_neg ev_c)) ea_nil)) rfl (by decide))) (r_nin (e := eI) (x := move.2.2.1) (xs := [(1 : Int), (-(1 : Int))]) (by decide) seqT))))))) (fun hc4 hQ => ?_) (fun hc4 hQ => ?_)
    · skip
      show (_ : DS) _ [some ((eTup (cc eI (cc eI (cc eI (cc eI (cc eI (c1 eI))))))) move), some ((eT (eTup (cc eI (c1 eI)))) one), some ((eT (eTup (cc eI (c1 eI)))) other), some (eI move.1), some (eI move.2.1), some (eI move.2.2.1), some (eI move.2.2.2.1), some (eI move.2.2.2.2.1), some (eI move.2.2.2.2.2), none, none, none, none] _
      exact s_ret (evd (eB false) ev_c) ⟨DH, hs, hQ⟩
    · skip
      refine s_skip ?_
      show (_ : DS) _ [some ((eTup (cc eI (cc eI (cc eI (cc eI (cc eI (c1 eI))))))) move), some ((eT (eTup (cc eI (c1 eI)))) one), some ((eT (eTup (cc eI (c1 eI)))) other), some (eI move.1), some (eI move.2.1), some (eI move.2.2.1), some (eI move.2.2.2.1), some (eI move.2.2.2.2.1), some (eI move.2.2.2.2.2), none, none, none, none] _
      refine s_if (b := (!decide ((gcdLI ([move.1, move.2.1, move.2.2.2.1, move.2.2.2.2.1, move.2.2.2.2.2])) = (1 : Int)))) hQ (et_b (ev_op (evd (eI (gcdLI ([move.1, move.2.1, move.2.2.2.1, move.2.2.2.2.1, move.2.2.2.2.2]))) (ev_cb (ea_cons (evd ((eT eI) [move.1, move.2.1, move.2.2.2.1, move.2.2.2.2.1, move.2.2.2.2.2]) (ev_tupK 5 (ea_cons (evd (eI move.1) (ev_var rfl)) (ea_cons (evd (eI move.2.1) (ev_var rfl)) (ea_cons (evd (eI move.2.2.2.1) (ev_var rfl)) (ea_cons (evd (eI move.2.2.2.2.1) (ev_var rfl)) (ea_cons (evd (eI move.2.2.2.2.2) (ev_var rfl)) ea_nil))))) rfl (by decide))) ea_nil) (call_law_divisor ([move.1, move.2.1, move.2.2.2.1, move.2.2.2.2.1, move.2.2.2.2.2]) ))) (evd (eI (1 : Int)) ev_c) (r_ne (e := eI) (x := (gcdLI ([move.1, move.2.1, move.2.2.2.1, move.2.2.2.2.1, move.2.2.2.2.2]))) (y := (1 : Int)) (by decide) (peek_gd _ _) (peek_gd _ _)))) (fun hc5 hQ => ?_) (fun hc5 hQ => ?_)
      · skip
        show (_ : DS) _ [some ((eTup (cc eI (cc eI (cc eI (cc eI (cc eI (c1 eI))))))) move), some ((eT (eTup (cc eI (c1 eI)))) one), some ((eT (eTup (cc eI (c1 eI)))) other), some (eI move.1), some (eI move.2.1), some (eI move.2.2.1), some (eI move.2.2.2.1), some (eI move.2.2.2.2.1), some (eI move.2.2.2.2.2), none, none, none, none] _
        exact s_ret (evd (eB false) ev_c) ⟨DH, hs, hQ⟩
      · skip
        refine s_skip ?_
        show (_ : DS) _ [some ((eTup (cc eI (cc eI (cc eI (cc eI (cc eI (c1 eI))))))) move), some ((eT (eTup (cc eI (c1 eI)))) one), some ((eT (eTup (cc eI (c1 eI)))) other), some (eI move.1), some (eI move.2.1), some (eI move.2.2.1), some (eI move.2.2.2.1), some (eI move.2.2.2.2.1), some (eI move.2.2.2.2.2), none, none, none, none] _
        refine s_forR (eTup (cc (eTup (cc eI (c1 eI))) (c1 (eTup (cc eI (c1 eI)))))) eB (one.zip other) (fun (st : Unit) (z : ((Int × Int) × (Int × Int))) => (if (!decide (((((move.1 * z.1.1) - ((move.2.2.1 * move.2.1) * z.1.2)) + move.2.2.2.2.1), (((move.2.1 * z.1.1) + ((move.2.2.1 * move.1) * z.1.2)) + move.2.2.2.2.2)) = ((move.2.2.2.1 * z.2.1), (move.2.2.2.1 * z.2.2)))) = true then Ctl.ret (false) else Ctl.nxt ())) () (fun (st : Unit) τ' H' => ∃ t9 t10 t11 t12 : Option D, τ' = [some ((eTup (cc eI (cc eI (cc eI (cc eI (cc eI (c1 eI))))))) move), some ((eT (eTup (cc eI (c1 eI)))) one), some ((eT (eTup (cc eI (c1 eI)))) other), some (eI move.1), some (eI move.2.1), some (eI move.2.2.1), some (eI move.2.2.2.1), some (eI move.2.2.2.2.1), some (eI move.2.2.2.2.2), t9, t10, t11, t12] ∧ DSub DH H') (fun H' => DSub DH H') hQ (ei_zipT (e := (eTup (cc eI (c1 eI)))) (f := (eTup (cc eI (c1 eI)))) (xs := one) (ys := other) (evd ((eT (eTup (cc eI (c1 eI)))) one) (ev_var rfl)) (evd ((eT (eTup (cc eI (c1 eI)))) other) (ev_var rfl))) (fun st τ' H' h => ⟨trivial, trivial⟩) ⟨_, _, _, _, rfl, hs⟩ (fun pre z post st τ' H' hx_st hs_st hst E' hQ => ?_) (fun r H' hs hr hQ => ?_) (fun st τ' H' hst hs_st hQ => ?_)
        · obtain ⟨t9, t10, t11, t12, rfl, hs⟩ := hst
          have hm_z : z ∈ (one.zip other) := by rw [hx_st]; simp
          refine (show Gv _ ((eTup (cc (eTup (cc eI (c1 eI))) (c1 (eTup (cc eI (c1 eI)))))) z) _ _ _ from (gv_T rfl (gvs_cons (gv_T rfl (gvs_cons gv_N (gvs_cons gv_N gvs_nil))) (gvs_cons (gv_T rfl (gvs_cons gv_N (gvs_cons gv_N gvs_nil))) gvs_nil)))) _ ?_
          show (_ : DS) _ [some ((eTup (cc eI (cc eI (cc eI (cc eI (cc eI (c1 eI))))))) move), some ((eT (eTup (cc eI (c1 eI)))) one), some ((eT (eTup (cc eI (c1 eI)))) other), some (eI move.1), some (eI move.2.1), some (eI move.2.2.1), some (eI move.2.2.2.1), some (eI move.2.2.2.2.1), some (eI move.2.2.2.2.2), some (eI z.1.1), some (eI z.1.2), some (eI z.2.1), some (eI z.2.2)] _
          refine s_last ?_
          refine s_if (b := (!decide (((((move.1 * z.1.1) - ((move.2.2.1 * move.2.1) * z.1.2)) + move.2.2.2.2.1), (((move.2.1 * z.1.1) + ((move.2.2.1 * move.1) * z.1.2)) + move.2.2.2.2.2)) = ((move.2.2.2.1 * z.2.1), (move.2.2.2.1 * z.2.2))))) hQ (et_b (ev_op (evd ((eTup (cc eI (c1 eI))) ((((move.1 * z.1.1) - ((move.2.2.1 * move.2.1) * z.1.2)) + move.2.2.2.2.1), (((move.2.1 * z.1.1) + ((move.2.2.1 * move.1) * z.1.2)) + move.2.2.2.2.2))) (ev_tupK 2 (ea_cons (evd (eI (((move.1 * z.1.1) - ((move.2.2.1 * move.2.1) * z.1.2)) + move.2.2.2.2.1)) (ev_op (ev_op (ev_op (ev_var rfl) (ev_var rfl) (r_mul (by exact mulD_l (by omega) (by omega)))) (ev_op (ev_op (ev_var rfl) (ev_var rfl) (r_mul (by exact mulD_l (by omega) (by omega)))) (ev_var rfl) (r_mul (by exact mulD_r (by have := h1 _ (zmem hm_z).1; unfold InB at this; omega) (by have := h1 _ (zmem hm_z).1; unfold InB at this; omega)))) r_sub) (ev_var rfl) r_add)) (ea_cons (evd (eI (((move.2.1 * z.1.1) + ((move.2.2.1 * move.1) * z.1.2)) + move.2.2.2.2.2)) (ev_op (ev_op (ev_op (ev_var rfl) (ev_var rfl) (r_mul (by exact mulD_l (by omega) (by omega)))) (ev_op (ev_op (ev_var rfl) (ev_var rfl) (r_mul (by exact mulD_l (by omega) (by omega)))) (ev_var rfl) (r_mul (by exact mulD_r (by have := h1 _ (zmem hm_z).1; unfold InB at this; omega) (by have := h1 _ (zmem hm_z).1; unfold InB at this; omega)))) r_add) (ev_var rfl) r_add)) ea_nil)) rfl (by decide))) (evd ((eTup (cc eI (c1 eI))) ((move.2.2.2.1 * z.2.1), (move.2.2.2.1 * z.2.2))) (ev_tupK 2 (ea_cons (evd (eI (move.2.2.2.1 * z.2.1)) (ev_op (ev_var rfl) (ev_var rfl) (r_mul (by exact mulD_l (by omega) (by omega))))) (ea_cons (evd (eI (move.2.2.2.1 * z.2.2)) (ev_op (ev_var rfl) (ev_var rfl) (r_mul (by exact mulD_l (by omega) (by omega))))) ea_nil)) rfl (by decide))) (r_ne (e := (eTup (cc eI (c1 eI)))) (x := ((((move.1 * z.1.1) - ((move.2.2.1 * move.2.1) * z.1.2)) + move.2.2.2.2.1), (((move.2.1 * z.1.1) + ((move.2.2.1 * move.1) * z.1.2)) + move.2.2.2.2.2))) (y := ((move.2.2.2.1 * z.2.1), (move.2.2.2.1 * z.2.2))) (by decide) (peek_gd _ _) (peek_gd _ _)))) (fun hc6 hQ => ?_) (fun hc6 hQ => ?_)
          · skip
            show (_ : DS) _ [some ((eTup (cc eI (cc eI (cc eI (cc eI (cc eI (c1 eI))))))) move), some ((eT (eTup (cc eI (c1 eI)))) one), some ((eT (eTup (cc eI (c1 eI)))) other), some (eI move.1), some (eI move.2.1), some (eI move.2.2.1), some (eI move.2.2.2.1), some (eI move.2.2.2.2.1), some (eI move.2.2.2.2.2), some (eI z.1.1), some (eI z.1.2), some (eI z.2.1), some (eI z.2.2)] _
            exact s_ret (evd (eB false) ev_c) (out_ret hQ hs)
          · skip
            refine s_skip ?_
            exact out_nx hQ ⟨_, _, _, _, rfl, hs⟩
        · exact ⟨DH, hs, hQ⟩
        · obtain ⟨t9, t10, t11, t12, rfl, hs⟩ := hst
          show (_ : DS) _ [some ((eTup (cc eI (cc eI (cc eI (cc eI (cc eI (c1 eI))))))) move), some ((eT (eTup (cc eI (c1 eI)))) one), some ((eT (eTup (cc eI (c1 eI)))) other), some (eI move.1), some (eI move.2.1), some (eI move.2.2.1), some (eI move.2.2.2.1), some (eI move.2.2.2.2.1), some (eI move.2.2.2.2.2), t9, t10, t11, t12] _
          refine s_last ?_
          exact s_ret (evd (eB true) ev_c) ⟨DH, hs, hQ⟩
/-! ### _law_other -/
def rd_law_other : DS :=
  (dSeq (dAsg (dTup (dCons (dCB sp_law_pick (dCons (dVar 0) (dCons (dC (.int 6)) dNil))) (dCons (dOp (rIntD (fun _ _ => True) fun i j => .int (i - j)) (dCB sp_law_pick (dCons (dVar 0) (dCons (dC (.int 11)) dNil))) (dC (.int 5))) (dCons (dOp (rIntD (fun _ _ => True) fun i j => .int (i - j)) (dCB sp_law_pick (dCons (dVar 0) (dCons (dC (.int 11)) dNil))) (dC (.int 5))) dNil)))) (gT 3 (gConsD (gN 2) (gConsD (gN 3) (gConsD (gN 4) gNilD)))))
    (dSeq (dAsg (dLc true (dISeq (dVar 1)) (gT 2 (gConsD (gN 6) (gConsD (gN 7) gNilD))) dYes (dIf (dB (dOp (rEqD false) (dVar 2) (dC (.int 0)))) (dTup (dCons (dOp (rIntD (fun _ _ => True) fun i j => .int (i - j)) (dC (.int 0)) (dVar 7)) (dCons (dVar 6) dNil))) (dIf (dB (dOp (rEqD false) (dVar 2) (dC (.int 1)))) (dTup (dCons (dVar 6) (dCons (dOp (rIntD (fun _ _ => True) fun i j => .int (i - j)) (dC (.int 0)) (dVar 7)) dNil))) (dIf (dB (dOp (rEqD false) (dVar 2) (dC (.int 2)))) (dTup (dCons (dVar 7) (dCons (dVar 6) dNil))) (dTup (dCons (dVar 6) (dCons (dVar 7) dNil)))))) [6, 7]) (gN 5))
    (dSeq (dAsg (dLc true (dISeq (dVar 5)) (gT 2 (gConsD (gN 6) (gConsD (gN 7) gNilD))) dYes (dTup (dCons (dOp rAddD (dVar 6) (dVar 3)) (dCons (dOp rAddD (dVar 7) (dVar 4)) dNil))) [6, 7]) (gN 5))
    (dSeq (dIfS (dB (dOp (rEqD false) (dCB sp_law_pick (dCons (dVar 0) (dCons (dC (.int 3)) dNil))) (dC (.int 0)))) (dSeq (dAsg (dCB sp_law_pick (dCons (dVar 0) (dCons (dCB rLenD (dCons (dVar 5) dNil)) dNil))) (gN 8))
    (dStore (dVar 5) (dVar 8) (dTup (dCons (dOp rAddD (dOp rIxD (dOp rIxD (dVar 5) (dVar 8)) (dC (.int 0))) (dCB sp_law_of (dCons (dVar 0) (dCons (dLst (dCons (dC (.int 1)) (dCons (dUn rNegD (dC (.int 1))) (dCons (dC (.int 0)) dNil)))) dNil)))) (dCons (dOp rAddD (dOp rIxD (dOp rIxD (dVar 5) (dVar 8)) (dC (.int 1))) (dCB sp_law_of (dCons (dVar 0) (dCons (dLst (dCons (dC (.int 1)) (dCons (dC (.int 0)) dNil))) dNil)))) dNil))))) dNext)
    (dRet (dCB rTupD (dCons (dVar 5) dNil)))))))
def sp_law_other : DSp := fun ds DH Q => ∃ (a_ : Addr) (places : (List (Int × Int))), ds = [.ref a_, (eT (eTup (cc eI (c1 eI)))) places] ∧ (DH a_ = some .src) ∧ (0 < places.length ∧ places.length ≤ 1000) ∧ (∀ p ∈ places, InB 100 p) ∧ (∀ r : (List (Int × Int)), (r.length = places.length ∧ ∀ p ∈ r, InB 1000 p) → Q ((eT (eTup (cc eI (c1 eI)))) r) DH)
theorem call_law_other {H : DHp} {K : DK} {a_ : Addr} (ha : H a_ = some .src) (places : (List (Int × Int))) (hl : 0 < places.length ∧ places.length ≤ 1000) (hb : ∀ p ∈ places, InB 100 p) (k : ∀ r : (List (Int × Int)), (r.length = places.length ∧ ∀ p ∈ r, InB 1000 p) → K ((eT (eTup (cc eI (c1 eI)))) r) H) : sp_law_other [.ref a_, (eT (eTup (cc eI (c1 eI)))) places] H K := ⟨a_, places, rfl, ha, hl, hb, k⟩
set_option maxHeartbeats 0 in
theorem law_other_ok {ds : List D} {DH : DHp} {Q : DK} (h : sp_law_other ds DH Q) : rd_law_other (bodyE Q) (dstart ["source", "places", "way", "a", "b", "found", "x", "y", "k"] ds) DH := by
  obtain ⟨a_, places, rfl, ha, hl, hb, hQ⟩ := h
  have hs := DSub.refl DH
  unfold rd_law_other
  show (_ : DS) _ [some (.ref a_), some ((eT (eTup (cc eI (c1 eI)))) places), none, none, none, none, none, none, none] _
  refine n_asgGX ?_
  refine x_tup ?_
  refine x_cons ?_
  refine x_cb ?_
  refine x_cons ?_
  refine x_ev (ev_var rfl : Ev _ _ _ (.ref a_)) ?_
  refine x_cons ?_
  refine x_ev (evd (eI (6 : Int)) ev_c) ?_
  refine x_nil ?_
  refine call_pick (hs _ _ ha) ((6 : Int)) (by unfold ob) (fun r_pick h_r_pick => ?_)
  refine x_cons ?_
  refine x_op ?_
  refine x_cb ?_
  refine x_cons ?_
  refine x_ev (ev_var rfl : Ev _ _ _ (.ref a_)) ?_
  refine x_cons ?_
  refine x_ev (evd (eI (11 : Int)) ev_c) ?_
  refine x_nil ?_
  refine call_pick (hs _ _ ha) ((11 : Int)) (by unfold ob) (fun r_pick1 h_r_pick1 => ?_)
  refine x_ev (evd (eI (5 : Int)) ev_c) ?_
  refine x_rv (r_sub (i := r_pick1) (j := (5 : Int))) ?_
  obtain ⟨a, h_a⟩ : ∃ x : Int, x = (r_pick1 - (5 : Int)) := ⟨_, rfl⟩
  rw [← h_a]
  refine x_cons ?_
  refine x_op ?_
  refine x_cb ?_
  refine x_cons ?_
  refine x_ev (ev_var rfl : Ev _ _ _ (.ref a_)) ?_
  refine x_cons ?_
  refine x_ev (evd (eI (11 : Int)) ev_c) ?_
  refine x_nil ?_
  refine call_pick (hs _ _ ha) ((11 : Int)) (by unfold ob) (fun r_pick2 h_r_pick2 => ?_)
  refine x_ev (evd (eI (5 : Int)) ev_c) ?_
  refine x_rv (r_sub (i := r_pick2) (j := (5 : Int))) ?_
  obtain ⟨b, h_b⟩ : ∃ x : Int, x = (r_pick2 - (5 : Int)) := ⟨_, rfl⟩
  rw [← h_b]
  refine x_nil ?_
  refine x_size 3 rfl (by decide) ?_
  refine n_gv (gv_T rfl (gvs_cons gv_N (gvs_cons gv_N (gvs_cons gv_N gvs_nil)))) ?_
  show (_ : DS) _ [some (.ref a_), some ((eT (eTup (cc eI (c1 eI)))) places), some (eI r_pick), some (eI a), some (eI b), none, none, none, none] _
  refine s_newC (eTup (cc eI (c1 eI))) (places.map (fun (z : (Int × Int)) => (if (decide (r_pick = (0 : Int))) = true then (((0 : Int) - z.2), z.1) else (if (decide (r_pick = (1 : Int))) = true then (z.1, ((0 : Int) - z.2)) else (if (decide (r_pick = (2 : Int))) = true then (z.2, z.1) else (z.1, z.2)))))) (ev_lc1 (eTup (cc eI (c1 eI))) (eTup (cc eI (c1 eI))) places (fun (z : (Int × Int)) => (if (decide (r_pick = (0 : Int))) = true then (((0 : Int) - z.2), z.1) else (if (decide (r_pick = (1 : Int))) = true then (z.1, ((0 : Int) - z.2)) else (if (decide (r_pick = (2 : Int))) = true then (z.2, z.1) else (z.1, z.2))))) _ ⟨_, (ei_T (e := (eTup (cc eI (c1 eI)))) (xs := places) (evd ((eT (eTup (cc eI (c1 eI)))) places) (ev_var rfl)))⟩ (by unfold ob) (fun z => (gv_T rfl (gvs_cons gv_N (gvs_cons gv_N gvs_nil)))) (fun z h_z => (evd ((eTup (cc eI (c1 eI))) (if (decide (r_pick = (0 : Int))) = true then (((0 : Int) - z.2), z.1) else (if (decide (r_pick = (1 : Int))) = true then (z.1, ((0 : Int) - z.2)) else (if (decide (r_pick = (2 : Int))) = true then (z.2, z.1) else (z.1, z.2))))) (ev_if (eTup (cc eI (c1 eI))) (et_b (ev_op (evd (eI r_pick) (ev_var rfl)) (evd (eI (0 : Int)) ev_c) (r_eq (e := eI) (x := r_pick) (y := (0 : Int)) (by decide) (peek_gd _ _) (peek_gd _ _)))) (fun hc10 => (evd ((eTup (cc eI (c1 eI))) (((0 : Int) - z.2), z.1)) (ev_tupK 2 (ea_cons (evd (eI ((0 : Int) - z.2)) (ev_op ev_c (ev_var rfl) r_sub)) (ea_cons (evd (eI z.1) (ev_var rfl)) ea_nil)) rfl (by decide)))) (fun hc11 => (evd ((eTup (cc eI (c1 eI))) (if (decide (r_pick = (1 : Int))) = true then (z.1, ((0 : Int) - z.2)) else (if (decide (r_pick = (2 : Int))) = true then (z.2, z.1) else (z.1, z.2)))) (ev_if (eTup (cc eI (c1 eI))) (et_b (ev_op (evd (eI r_pick) (ev_var rfl)) (evd (eI (1 : Int)) ev_c) (r_eq (e := eI) (x := r_pick) (y := (1 : Int)) (by decide) (peek_gd _ _) (peek_gd _ _)))) (fun hc8 => (evd ((eTup (cc eI (c1 eI))) (z.1, ((0 : Int) - z.2))) (ev_tupK 2 (ea_cons (evd (eI z.1) (ev_var rfl)) (ea_cons (evd (eI ((0 : Int) - z.2)) (ev_op ev_c (ev_var rfl) r_sub)) ea_nil)) rfl (by decide)))) (fun hc9 => (evd ((eTup (cc eI (c1 eI))) (if (decide (r_pick = (2 : Int))) = true then (z.2, z.1) else (z.1, z.2))) (ev_if (eTup (cc eI (c1 eI))) (et_b (ev_op (evd (eI r_pick) (ev_var rfl)) (evd (eI (2 : Int)) ev_c) (r_eq (e := eI) (x := r_pick) (y := (2 : Int)) (by decide) (peek_gd _ _) (peek_gd _ _)))) (fun hc6 => (evd ((eTup (cc eI (c1 eI))) (z.2, z.1)) (ev_tupK 2 (ea_cons (evd (eI z.2) (ev_var rfl)) (ea_cons (evd (eI z.1) (ev_var rfl)) ea_nil)) rfl (by decide)))) (fun hc7 => (evd ((eTup (cc eI (c1 eI))) (z.1, z.2)) (ev_tupK 2 (ea_cons (evd (eI z.1) (ev_var rfl)) (ea_cons (evd (eI z.2) (ev_var rfl)) ea_nil)) rfl (by decide)))))))))))))) (fun p_found H' hn0 hp_found hf => ?_)
  have hn_p_found := dsub_none hs hn0
  have hs := dsub_fr hs hn_p_found hf
  show (_ : DS) _ [some (.ref a_), some ((eT (eTup (cc eI (c1 eI)))) places), some (eI r_pick), some (eI a), some (eI b), some (.ref p_found), none, none, none] _
  refine s_newC (eTup (cc eI (c1 eI))) (((places.map (fun (z : (Int × Int)) => (if (decide (r_pick = (0 : Int))) = true then (((0 : Int) - z.2), z.1) else (if (decide (r_pick = (1 : Int))) = true then (z.1, ((0 : Int) - z.2)) else (if (decide (r_pick = (2 : Int))) = true then (z.2, z.1) else (z.1, z.2)))))) : List (Int × Int)).map (fun (z1 : (Int × Int)) => ((z1.1 + a), (z1.2 + b)))) (ev_lc1 (eTup (cc eI (c1 eI))) (eTup (cc eI (c1 eI))) ((places.map (fun (z : (Int × Int)) => (if (decide (r_pick = (0 : Int))) = true then (((0 : Int) - z.2), z.1) else (if (decide (r_pick = (1 : Int))) = true then (z.1, ((0 : Int) - z.2)) else (if (decide (r_pick = (2 : Int))) = true then (z.2, z.1) else (z.1, z.2)))))) : List (Int × Int)) (fun (z1 : (Int × Int)) => ((z1.1 + a), (z1.2 + b))) _ ⟨_, (ei_R (e := (eTup (cc eI (c1 eI)))) (xs := ((places.map (fun (z : (Int × Int)) => (if (decide (r_pick = (0 : Int))) = true then (((0 : Int) - z.2), z.1) else (if (decide (r_pick = (1 : Int))) = true then (z.1, ((0 : Int) - z.2)) else (if (decide (r_pick = (2 : Int))) = true then (z.2, z.1) else (z.1, z.2)))))) : List (Int × Int))) (ev_var rfl) hp_found)⟩ (by unfold ob) (fun z1 => (gv_T rfl (gvs_cons gv_N (gvs_cons gv_N gvs_nil)))) (fun z1 h_z1 => (evd ((eTup (cc eI (c1 eI))) ((z1.1 + a), (z1.2 + b))) (ev_tupK 2 (ea_cons (evd (eI (z1.1 + a)) (ev_op (ev_var rfl) (ev_var rfl) r_add)) (ea_cons (evd (eI (z1.2 + b)) (ev_op (ev_var rfl) (ev_var rfl) r_add)) ea_nil)) rfl (by decide))))) (fun p_found1 H_1 hn01 hp_found1 hf1 => ?_)
  have hn_p_found1 := dsub_none hs hn01
  have hne_p_found_p_found1 := ne_none hn01 hp_found
  have hne_p_found1_p_found := ne_none' hn01 hp_found
  replace hp_found := (hf1 _ hne_p_found_p_found1).trans hp_found
  have hs := dsub_fr hs hn_p_found1 hf1
  show (_ : DS) _ [some (.ref a_), some ((eT (eTup (cc eI (c1 eI)))) places), some (eI r_pick), some (eI a), some (eI b), some (.ref p_found1), none, none, none] _
  refine n_ifX ?_
  refine x_b ?_
  refine x_op ?_
  refine x_cb ?_
  refine x_cons ?_
  refine x_ev (ev_var rfl : Ev _ _ _ (.ref a_)) ?_
  refine x_cons ?_
  refine x_ev (evd (eI (3 : Int)) ev_c) ?_
  refine x_nil ?_
  refine call_pick (hs _ _ ha) ((3 : Int)) (by unfold ob) (fun r_pick3 h_r_pick3 => ?_)
  refine x_ev (evd (eI (0 : Int)) ev_c) ?_
  refine x_rv (r_eq (e := eI) (x := r_pick3) (y := (0 : Int)) (by decide) (peek_gd _ _) (peek_gd _ _)) ?_
  refine x_asb ?_
  refine x_ite (fun hc12 => ?_) (fun hc12 => ?_)
  · skip
    show (_ : DS) _ [some (.ref a_), some ((eT (eTup (cc eI (c1 eI)))) places), some (eI r_pick), some (eI a), some (eI b), some (.ref p_found1), none, none, none] _
    refine s_assoc ?_
    refine n_asgX ?_
    refine x_cb ?_
    refine x_cons ?_
    refine x_ev (ev_var rfl : Ev _ _ _ (.ref a_)) ?_
    refine x_cons ?_
    refine x_ev (evd (eI (((((places.map (fun (z : (Int × Int)) => (if (decide (r_pick = (0 : Int))) = true then (((0 : Int) - z.2), z.1) else (if (decide (r_pick = (1 : Int))) = true then (z.1, ((0 : Int) - z.2)) else (if (decide (r_pick = (2 : Int))) = true then (z.2, z.1) else (z.1, z.2)))))) : List (Int × Int)).map (fun (z1 : (Int × Int)) => ((z1.1 + a), (z1.2 + b)))) : List (Int × Int)).length : Int)) (ev_cb (ea_cons (ev_var rfl) ea_nil) (c_len (e := (eTup (cc eI (c1 eI)))) (xs := ((((places.map (fun (z : (Int × Int)) => (if (decide (r_pick = (0 : Int))) = true then (((0 : Int) - z.2), z.1) else (if (decide (r_pick = (1 : Int))) = true then (z.1, ((0 : Int) - z.2)) else (if (decide (r_pick = (2 : Int))) = true then (z.2, z.1) else (z.1, z.2)))))) : List (Int × Int)).map (fun (z1 : (Int × Int)) => ((z1.1 + a), (z1.2 + b)))) : List (Int × Int))) (seqR hp_found1)))) ?_
    refine x_nil ?_
    refine call_pick (hs _ _ ha) ((((((places.map (fun (z : (Int × Int)) => (if (decide (r_pick = (0 : Int))) = true then (((0 : Int) - z.2), z.1) else (if (decide (r_pick = (1 : Int))) = true then (z.1, ((0 : Int) - z.2)) else (if (decide (r_pick = (2 : Int))) = true then (z.2, z.1) else (z.1, z.2)))))) : List (Int × Int)).map (fun (z1 : (Int × Int)) => ((z1.1 + a), (z1.2 + b)))) : List (Int × Int)).length : Int)) (by simp only [List.length_map]; omega) (fun r_pick4 h_r_pick4 => ?_)
    show (_ : DS) _ [some (.ref a_), some ((eT (eTup (cc eI (c1 eI)))) places), some (eI r_pick), some (eI a), some (eI b), some (.ref p_found1), none, none, some (eI r_pick4)] _
    refine n_store ?_
    refine x_tup ?_
    refine x_cons ?_
    refine x_op ?_
    refine x_ev (evd (eI (ix ((((places.map (fun (z : (Int × Int)) => (if (decide (r_pick = (0 : Int))) = true then (((0 : Int) - z.2), z.1) else (if (decide (r_pick = (1 : Int))) = true then (z.1, ((0 : Int) - z.2)) else (if (decide (r_pick = (2 : Int))) = true then (z.2, z.1) else (z.1, z.2)))))) : List (Int × Int)).map (fun (z1 : (Int × Int)) => ((z1.1 + a), (z1.2 + b)))) : List (Int × Int)) r_pick4).1) (ev_op (evd ((eTup (cc eI (c1 eI))) (ix ((((places.map (fun (z : (Int × Int)) => (if (decide (r_pick = (0 : Int))) = true then (((0 : Int) - z.2), z.1) else (if (decide (r_pick = (1 : Int))) = true then (z.1, ((0 : Int) - z.2)) else (if (decide (r_pick = (2 : Int))) = true then (z.2, z.1) else (z.1, z.2)))))) : List (Int × Int)).map (fun (z1 : (Int × Int)) => ((z1.1 + a), (z1.2 + b)))) : List (Int × Int)) r_pick4)) (ev_op (ev_var rfl) (ev_var rfl) (r_ix (e := (eTup (cc eI (c1 eI)))) (xs := ((((places.map (fun (z : (Int × Int)) => (if (decide (r_pick = (0 : Int))) = true then (((0 : Int) - z.2), z.1) else (if (decide (r_pick = (1 : Int))) = true then (z.1, ((0 : Int) - z.2)) else (if (decide (r_pick = (2 : Int))) = true then (z.2, z.1) else (z.1, z.2)))))) : List (Int × Int)).map (fun (z1 : (Int × Int)) => ((z1.1 + a), (z1.2 + b)))) : List (Int × Int))) (seqR hp_found1) (by unfold ob)))) ev_c (r_ixP (d := eI (ix ((((places.map (fun (z : (Int × Int)) => (if (decide (r_pick = (0 : Int))) = true then (((0 : Int) - z.2), z.1) else (if (decide (r_pick = (1 : Int))) = true then (z.1, ((0 : Int) - z.2)) else (if (decide (r_pick = (2 : Int))) = true then (z.2, z.1) else (z.1, z.2)))))) : List (Int × Int)).map (fun (z1 : (Int × Int)) => ((z1.1 + a), (z1.2 + b)))) : List (Int × Int)) r_pick4).1) rfl))) ?_
    refine x_cb ?_
    refine x_cons ?_
    refine x_ev (ev_var rfl : Ev _ _ _ (.ref a_)) ?_
    refine x_cons ?_
    refine x_ev (evd ((eL eI) [(1 : Int), (-(1 : Int)), (0 : Int)]) (ev_lstK 3 (ea_cons (evd (eI (1 : Int)) ev_c) (ea_cons (evd (eI (-(1 : Int))) (ev_neg ev_c)) (ea_cons (evd (eI (0 : Int)) ev_c) ea_nil))) rfl (by decide))) ?_
    refine x_nil ?_
    refine call_of (hs _ _ ha) ([(1 : Int), (-(1 : Int)), (0 : Int)]) (seqL : seqOf _ ((eL eI) [(1 : Int), (-(1 : Int)), (0 : Int)]) = some (List.map eI ([(1 : Int), (-(1 : Int)), (0 : Int)]))) (by unfold ob) (fun r_of h_r_of => ?_)
    refine x_rv (r_add (i := (ix ((((places.map (fun (z : (Int × Int)) => (if (decide (r_pick = (0 : Int))) = true then (((0 : Int) - z.2), z.1) else (if (decide (r_pick = (1 : Int))) = true then (z.1, ((0 : Int) - z.2)) else (if (decide (r_pick = (2 : Int))) = true then (z.2, z.1) else (z.1, z.2)))))) : List (Int × Int)).map (fun (z1 : (Int × Int)) => ((z1.1 + a), (z1.2 + b)))) : List (Int × Int)) r_pick4).1) (j := r_of)) ?_
    refine x_cons ?_
    refine x_op ?_
    refine x_ev (evd (eI (ix ((((places.map (fun (z : (Int × Int)) => (if (decide (r_pick = (0 : Int))) = true then (((0 : Int) - z.2), z.1) else (if (decide (r_pick = (1 : Int))) = true then (z.1, ((0 : Int) - z.2)) else (if (decide (r_pick = (2 : Int))) = true then (z.2, z.1) else (z.1, z.2)))))) : List (Int × Int)).map (fun (z1 : (Int × Int)) => ((z1.1 + a), (z1.2 + b)))) : List (Int × Int)) r_pick4).2) (ev_op (evd ((eTup (cc eI (c1 eI))) (ix ((((places.map (fun (z : (Int × Int)) => (if (decide (r_pick = (0 : Int))) = true then (((0 : Int) - z.2), z.1) else (if (decide (r_pick = (1 : Int))) = true then (z.1, ((0 : Int) - z.2)) else (if (decide (r_pick = (2 : Int))) = true then (z.2, z.1) else (z.1, z.2)))))) : List (Int × Int)).map (fun (z1 : (Int × Int)) => ((z1.1 + a), (z1.2 + b)))) : List (Int × Int)) r_pick4)) (ev_op (ev_var rfl) (ev_var rfl) (r_ix (e := (eTup (cc eI (c1 eI)))) (xs := ((((places.map (fun (z : (Int × Int)) => (if (decide (r_pick = (0 : Int))) = true then (((0 : Int) - z.2), z.1) else (if (decide (r_pick = (1 : Int))) = true then (z.1, ((0 : Int) - z.2)) else (if (decide (r_pick = (2 : Int))) = true then (z.2, z.1) else (z.1, z.2)))))) : List (Int × Int)).map (fun (z1 : (Int × Int)) => ((z1.1 + a), (z1.2 + b)))) : List (Int × Int))) (seqR hp_found1) (by unfold ob)))) ev_c (r_ixP (d := eI (ix ((((places.map (fun (z : (Int × Int)) => (if (decide (r_pick = (0 : Int))) = true then (((0 : Int) - z.2), z.1) else (if (decide (r_pick = (1 : Int))) = true then (z.1, ((0 : Int) - z.2)) else (if (decide (r_pick = (2 : Int))) = true then (z.2, z.1) else (z.1, z.2)))))) : List (Int × Int)).map (fun (z1 : (Int × Int)) => ((z1.1 + a), (z1.2 + b)))) : List (Int × Int)) r_pick4).2) rfl))) ?_
    refine x_cb ?_
    refine x_cons ?_
    refine x_ev (ev_var rfl : Ev _ _ _ (.ref a_)) ?_
    refine x_cons ?_
    refine x_ev (evd ((eL eI) [(1 : Int), (0 : Int)]) (ev_lstK 2 (ea_cons (evd (eI (1 : Int)) ev_c) (ea_cons (evd (eI (0 : Int)) ev_c) ea_nil)) rfl (by decide))) ?_
    refine x_nil ?_
    refine call_of (hs _ _ ha) ([(1 : Int), (0 : Int)]) (seqL : seqOf _ ((eL eI) [(1 : Int), (0 : Int)]) = some (List.map eI ([(1 : Int), (0 : Int)]))) (by unfold ob) (fun r_of1 h_r_of1 => ?_)
    refine x_rv (r_add (i := (ix ((((places.map (fun (z : (Int × Int)) => (if (decide (r_pick = (0 : Int))) = true then (((0 : Int) - z.2), z.1) else (if (decide (r_pick = (1 : Int))) = true then (z.1, ((0 : Int) - z.2)) else (if (decide (r_pick = (2 : Int))) = true then (z.2, z.1) else (z.1, z.2)))))) : List (Int × Int)).map (fun (z1 : (Int × Int)) => ((z1.1 + a), (z1.2 + b)))) : List (Int × Int)) r_pick4).2) (j := r_of1)) ?_
    refine x_nil ?_
    refine x_size 2 rfl (by decide) ?_
    refine x_ev (ev_var rfl : Ev _ _ _ (.ref p_found1)) ?_
    refine x_ev (evd (eI r_pick4) (ev_var rfl)) ?_
    refine n_stL (xs := ((((places.map (fun (z : (Int × Int)) => (if (decide (r_pick = (0 : Int))) = true then (((0 : Int) - z.2), z.1) else (if (decide (r_pick = (1 : Int))) = true then (z.1, ((0 : Int) - z.2)) else (if (decide (r_pick = (2 : Int))) = true then (z.2, z.1) else (z.1, z.2)))))) : List (Int × Int)).map (fun (z1 : (Int × Int)) => ((z1.1 + a), (z1.2 + b)))) : List (Int × Int))) (v := (((ix ((((places.map (fun (z : (Int × Int)) => (if (decide (r_pick = (0 : Int))) = true then (((0 : Int) - z.2), z.1) else (if (decide (r_pick = (1 : Int))) = true then (z.1, ((0 : Int) - z.2)) else (if (decide (r_pick = (2 : Int))) = true then (z.2, z.1) else (z.1, z.2)))))) : List (Int × Int)).map (fun (z1 : (Int × Int)) => ((z1.1 + a), (z1.2 + b)))) : List (Int × Int)) r_pick4).1 + r_of), ((ix ((((places.map (fun (z : (Int × Int)) => (if (decide (r_pick = (0 : Int))) = true then (((0 : Int) - z.2), z.1) else (if (decide (r_pick = (1 : Int))) = true then (z.1, ((0 : Int) - z.2)) else (if (decide (r_pick = (2 : Int))) = true then (z.2, z.1) else (z.1, z.2)))))) : List (Int × Int)).map (fun (z1 : (Int × Int)) => ((z1.1 + a), (z1.2 + b)))) : List (Int × Int)) r_pick4).2 + r_of1))) (eTup (cc eI (c1 eI))) hp_found1 (by unfold ob) (fun H_2 hp_ hf2 => ?_)
    have hs := dsub_fr hs hn_p_found1 hf2
    show (_ : DS) _ [some (.ref a_), some ((eT (eTup (cc eI (c1 eI)))) places), some (eI r_pick), some (eI a), some (eI b), some (.ref p_found1), none, none, some (eI r_pick4)] _
    refine s_last ?_
    exact s_ret (evd ((eT (eTup (cc eI (c1 eI)))) (setI ((((places.map (fun (z : (Int × Int)) => (if (decide (r_pick = (0 : Int))) = true then (((0 : Int) - z.2), z.1) else (if (decide (r_pick = (1 : Int))) = true then (z.1, ((0 : Int) - z.2)) else (if (decide (r_pick = (2 : Int))) = true then (z.2, z.1) else (z.1, z.2)))))) : List (Int × Int)).map (fun (z1 : (Int × Int)) => ((z1.1 + a), (z1.2 + b)))) : List (Int × Int)) r_pick4 (((ix ((((places.map (fun (z : (Int × Int)) => (if (decide (r_pick = (0 : Int))) = true then (((0 : Int) - z.2), z.1) else (if (decide (r_pick = (1 : Int))) = true then (z.1, ((0 : Int) - z.2)) else (if (decide (r_pick = (2 : Int))) = true then (z.2, z.1) else (z.1, z.2)))))) : List (Int × Int)).map (fun (z1 : (Int × Int)) => ((z1.1 + a), (z1.2 + b)))) : List (Int × Int)) r_pick4).1 + r_of), ((ix ((((places.map (fun (z : (Int × Int)) => (if (decide (r_pick = (0 : Int))) = true then (((0 : Int) - z.2), z.1) else (if (decide (r_pick = (1 : Int))) = true then (z.1, ((0 : Int) - z.2)) else (if (decide (r_pick = (2 : Int))) = true then (z.2, z.1) else (z.1, z.2)))))) : List (Int × Int)).map (fun (z1 : (Int × Int)) => ((z1.1 + a), (z1.2 + b)))) : List (Int × Int)) r_pick4).2 + r_of1)))) (ev_cb (ea_cons (ev_var rfl) ea_nil) (c_tup (e := (eTup (cc eI (c1 eI)))) (xs := (setI ((((places.map (fun (z : (Int × Int)) => (if (decide (r_pick = (0 : Int))) = true then (((0 : Int) - z.2), z.1) else (if (decide (r_pick = (1 : Int))) = true then (z.1, ((0 : Int) - z.2)) else (if (decide (r_pick = (2 : Int))) = true then (z.2, z.1) else (z.1, z.2)))))) : List (Int × Int)).map (fun (z1 : (Int × Int)) => ((z1.1 + a), (z1.2 + b)))) : List (Int × Int)) r_pick4 (((ix ((((places.map (fun (z : (Int × Int)) => (if (decide (r_pick = (0 : Int))) = true then (((0 : Int) - z.2), z.1) else (if (decide (r_pick = (1 : Int))) = true then (z.1, ((0 : Int) - z.2)) else (if (decide (r_pick = (2 : Int))) = true then (z.2, z.1) else (z.1, z.2)))))) : List (Int × Int)).map (fun (z1 : (Int × Int)) => ((z1.1 + a), (z1.2 + b)))) : List (Int × Int)) r_pick4).1 + r_of), ((ix ((((places.map (fun (z : (Int × Int)) => (if (decide (r_pick = (0 : Int))) = true then (((0 : Int) - z.2), z.1) else (if (decide (r_pick = (1 : Int))) = true then (z.1, ((0 : Int) - z.2)) else (if (decide (r_pick = (2 : Int))) = true then (z.2, z.1) else (z.1, z.2)))))) : List (Int × Int)).map (fun (z1 : (Int × Int)) => ((z1.1 + a), (z1.2 + b)))) : List (Int × Int)) r_pick4).2 + r_of1)))) (seqR hp_)))) ⟨DH, hs, hQ _ (by exact other_ok (by rw [setI_length, List.length_map, List.length_map]) (other_set (way := r_pick) (a := a) (b := b) hb (by omega) (by omega) (by unfold inIx; simp only [List.length_map] at h_r_pick4 ⊢; omega) (by simpa using h_r_of) (by simpa using h_r_of1)))⟩
  · skip
    refine s_skip ?_
    show (_ : DS) _ [some (.ref a_), some ((eT (eTup (cc eI (c1 eI)))) places), some (eI r_pick), some (eI a), some (eI b), some (.ref p_found1), none, none, none] _
    refine s_last ?_
    exact s_ret (evd ((eT (eTup (cc eI (c1 eI)))) ((((places.map (fun (z : (Int × Int)) => (if (decide (r_pick = (0 : Int))) = true then (((0 : Int) - z.2), z.1) else (if (decide (r_pick = (1 : Int))) = true then (z.1, ((0 : Int) - z.2)) else (if (decide (r_pick = (2 : Int))) = true then (z.2, z.1) else (z.1, z.2)))))) : List (Int × Int)).map (fun (z1 : (Int × Int)) => ((z1.1 + a), (z1.2 + b)))) : List (Int × Int))) (ev_cb (ea_cons (ev_var rfl) ea_nil) (c_tup (e := (eTup (cc eI (c1 eI)))) (xs := ((((places.map (fun (z : (Int × Int)) => (if (decide (r_pick = (0 : Int))) = true then (((0 : Int) - z.2), z.1) else (if (decide (r_pick = (1 : Int))) = true then (z.1, ((0 : Int) - z.2)) else (if (decide (r_pick = (2 : Int))) = true then (z.2, z.1) else (z.1, z.2)))))) : List (Int × Int)).map (fun (z1 : (Int × Int)) => ((z1.1 + a), (z1.2 + b)))) : List (Int × Int))) (seqR hp_found1)))) ⟨DH, hs, hQ _ (by exact other_ok (by rw [List.length_map, List.length_map]) fun p h => (other_in hb (by omega) (by omega) p h).mono (by decide))⟩
theorem places_in {r : List (Int × Int)} (h : ∀ p ∈ r, InB (2 * 5 + 1) p) : ∀ p ∈ r, InB 100 p := fun p hp => (h p hp).mono (by decide)
theorem pl_show {pl : List (Int × Int)} (hl : pl.length ≤ 7) (h : ∀ p ∈ pl, InB 10000 p) : Shw 20 (7 * 3 + 1) 2 (eT eR pl) := shw_T 7 (fun p hp => by have := h p hp; unfold InB at this; exact shw_R (by omega) (by omega)) hl
def mv6 (v : Mv) : Int × Int × Int × Int × Int × Int := (v.c, v.s, v.m, v.d, v.x, v.y)
theorem paper_pair {one other : List (Int × Int)} {pair : Option (Int × Int)} (h : pair = m_unlike one other) (hs : pair.isSome = true) : paperD one other = eTup (cc eS (cc eI (c1 eI))) (Str.ofString "pair", (pair.getD default).1, (pair.getD default).2) := by
  unfold paperD
  rw [h] at hs ⊢
  unfold m_unlike at hs ⊢
  cases q : (allP (one.length : Int)).find? (unl one other) with
  | none => rw [q] at hs; cases hs
  | some p => rfl
theorem paper_move {one other : List (Int × Int)} {pair : Option (Int × Int)} (h : pair = m_unlike one other) (hs : pair.isSome = false) : paperD one other = eTup (cc eS (c1 (eTup (cc eI (cc eI (cc eI (cc eI (cc eI (c1 eI))))))))) (Str.ofString "move", mv6 (betweenMv one other)) := by
  unfold paperD
  rw [h] at hs
  unfold m_unlike at hs
  cases q : (allP (one.length : Int)).find? (unl one other) with
  | none => rfl
  | some p => rw [q] at hs; cases hs
theorem two_show {one other : List (Int × Int)} (T : TwoOk one other) (h7 : one.length ≤ 7) : showOk (eTup (cc (eT eR) (c1 (eT eR))) (one, other)) :=
  by
  have h2 := pl_show (by have := T.len; omega) T.in2
  exact (shw_tp (shw_cc (pl_show h7 T.in1) (shw_c1 h2))).ok
theorem pair_show {one other : List (Int × Int)} {pair : Option (Int × Int)} (h : pair = m_unlike one other) (hs : pair.isSome = true) (T : TwoOk one other) : showOk (eTup (cc eS (cc eI (c1 eI))) (Str.ofString "pair", (pair.getD default).1, (pair.getD default).2)) := by
  rw [h] at hs ⊢
  unfold m_unlike at hs ⊢
  cases q : (allP (one.length : Int)).find? (unl one other) with
  | none => rw [q] at hs; cases hs
  | some p =>
    have hm := mem_allP (List.mem_of_find?_eq_some q)
    have := T.small
    have i1 : Shw 20 1 0 (eI p.1) := shw_I (by omega) (by omega)
    have i2 : Shw 20 1 0 (eI p.2) := shw_I (by omega) (by omega)
    exact (shw_tp (shw_cc (shw_W (Str.ofString "pair") 4) (shw_cc i1 (shw_c1 i2)))).ok
theorem unl_none {one other : List (Int × Int)} {pair : Option (Int × Int)} (h : pair = m_unlike one other) (hs : pair.isSome = false) : ∀ q ∈ allP (one.length : Int), unl one other q = false := by
  rw [h] at hs
  unfold m_unlike at hs
  cases q : (allP (one.length : Int)).find? (unl one other) with
  | none => exact fun z hz => by have := List.find?_eq_none.mp q z hz; simpa using this
  | some p => rw [q] at hs; cases hs
theorem mv_show {v : Mv} (h : MvW v) (hx : -(2 ^ 100) < v.x ∧ v.x < 2 ^ 100) (hy : -(2 ^ 100) < v.y ∧ v.y < 2 ^ 100) : showOk (eTup (cc eS (c1 (eTup (cc eI (cc eI (cc eI (cc eI (cc eI (c1 eI))))))))) (Str.ofString "move", mv6 v)) := by
  obtain ⟨h1, h2, h3, h4⟩ := h
  have b : ∀ i : Int, -(2 ^ 62) ≤ i → i ≤ 2 ^ 62 → Shw 100 1 0 (eI i) := fun i a b => shw_I (by omega) (by omega)
  have b1 := b v.c h1.1 h1.2
  have b2 := b v.s h2.1 h2.2
  have b3 := b v.m (by omega) (by omega)
  have b4 := b v.d (by omega) h4.2
  have b5 : Shw 100 1 0 (eI v.x) := shw_I hx.1 hx.2
  have b6 : Shw 100 1 0 (eI v.y) := shw_I hy.1 hy.2
  have b7 := shw_tp (l := cc eI (cc eI (cc eI (cc eI (cc eI (c1 eI)))))) (a := mv6 v) (shw_cc b1 (shw_cc b2 (shw_cc b3 (shw_cc b4 (shw_cc b5 (shw_c1 b6))))))
  exact (shw_tp (l := cc eS (c1 (eTup (cc eI (cc eI (cc eI (cc eI (cc eI (c1 eI))))))))) (a := (Str.ofString "move", mv6 v)) (shw_cc (shw_W (Str.ofString "move") 4) (shw_c1 b7))).ok
theorem between_W {one other : List (Int × Int)} (T : TwoOk one other) : MvW (betweenMv one other) := by
  unfold betweenMv
  cases ea : apartI one with
  | none => unfold MvW; simp only; decide
  | some j =>
    obtain ⟨j0, j1, fj⟩ := firstI_some ea
    have hj : pt one j ≠ pt one 0 := by simpa using fj
    simp only
    cases offI one j with
    | none => exact turn_W T j0 j1 (.inl rfl) hj
    | some k =>
      simp only
      split
      · exact turn_W T j0 j1 (.inl rfl) hj
      · exact turn_W T j0 j1 (.inr rfl) hj
theorem mulB {a x y : Int} (b : Int) (h1 : -a ≤ x ∧ x ≤ a) (h2 : -b ≤ y ∧ y ≤ b) : -(a * b) ≤ x * y ∧ x * y ≤ a * b := by
  have l : x.natAbs * y.natAbs ≤ a.natAbs * b.natAbs := Nat.mul_le_mul (by omega) (by omega)
  rw [← Int.natAbs_mul, ← Int.natAbs_mul] at l
  have n : 0 ≤ a * b := Int.mul_nonneg (by omega) (by omega)
  omega
theorem turn_xy {one other : List (Int × Int)} (T : TwoOk one other) {j m : Int} (j0 : 0 ≤ j) (j1 : j < one.length) (hm : m = 1 ∨ m = -1) (hj : pt one j ≠ pt one 0) : (-(2 ^ 100) < (turnMv one other j m).x ∧ (turnMv one other j m).x < 2 ^ 100) ∧ (-(2 ^ 100) < (turnMv one other j m).y ∧ (turnMv one other j m).y < 2 ^ 100) := by
  obtain ⟨r1, r2⟩ := raw_ok T j0 j1 hm hj
  have hp := T.pos
  have p0 := T.in1 _ (pt_mem (i := 0) (by decide) (by omega))
  have q0 := T.in2 _ (pt_mem (i := 0) (by decide) (by have := T.len; omega))
  unfold InB at p0 q0
  have sx : (-(2 ^ 90) ≤ (shiftMv one other (rawMv one other j m)).x ∧ (shiftMv one other (rawMv one other j m)).x ≤ 2 ^ 90) ∧ (-(2 ^ 90) ≤ (shiftMv one other (rawMv one other j m)).y ∧ (shiftMv one other (rawMv one other j m)).y ≤ 2 ^ 90) := by
    unfold shiftMv mvP
    have e1 : (rawMv one other j m).x = 0 := rfl
    have e2 : (rawMv one other j m).y = 0 := rfl
    have e3 : (rawMv one other j m).m = m := rfl
    simp only [e1, e2, e3]
    obtain ⟨⟨c1', c2'⟩, ⟨s1', s2'⟩, hm', d1', d2'⟩ := r1
    generalize rawMv one other j m = v at *
    generalize pt one 0 = p at *
    generalize pt other 0 = q at *
    have mq : -10000 ≤ m * p.2 ∧ m * p.2 ≤ 10000 := by rcases hm with rfl | rfl <;> omega
    have a1 := mulB (a := 2 ^ 62) (x := v.d) (y := q.1) 10000 (by omega) (by omega)
    have a2 := mulB (a := 2 ^ 62) (x := v.d) (y := q.2) 10000 (by omega) (by omega)
    have a3 := mulB (a := 2 ^ 62) (x := v.c) (y := p.1) 10000 (by omega) (by omega)
    have a4 := mulB (a := 2 ^ 62) (x := v.s) (y := m * p.2) 10000 (by omega) mq
    have a5 := mulB (a := 2 ^ 62) (x := v.s) (y := p.1) 10000 (by omega) (by omega)
    have a6 := mulB (a := 2 ^ 62) (x := v.c) (y := m * p.2) 10000 (by omega) mq
    omega
  obtain ⟨g1, g2⟩ := gcdL_pos (c := (shiftMv one other (rawMv one other j m)).c) (s := (shiftMv one other (rawMv one other j m)).s) (x := (shiftMv one other (rawMv one other j m)).x) (y := (shiftMv one other (rawMv one other j m)).y) (d := (shiftMv one other (rawMv one other j m)).d) (by have := r1.2.2.2.1; show 0 < (rawMv one other j m).d; omega)
  unfold turnMv lowerMv
  simp only
  have b1 := divB (n := (shiftMv one other (rawMv one other j m)).x) (b := 2 ^ 90) (show (1 : Int) ≤ ((gcdL [(shiftMv one other (rawMv one other j m)).c, (shiftMv one other (rawMv one other j m)).s, (shiftMv one other (rawMv one other j m)).d, (shiftMv one other (rawMv one other j m)).x, (shiftMv one other (rawMv one other j m)).y] : Nat) : Int) by omega) sx.1.1 sx.1.2 (by decide)
  have b2 := divB (n := (shiftMv one other (rawMv one other j m)).y) (b := 2 ^ 90) (show (1 : Int) ≤ ((gcdL [(shiftMv one other (rawMv one other j m)).c, (shiftMv one other (rawMv one other j m)).s, (shiftMv one other (rawMv one other j m)).d, (shiftMv one other (rawMv one other j m)).x, (shiftMv one other (rawMv one other j m)).y] : Nat) : Int) by omega) sx.2.1 sx.2.2 (by decide)
  omega
theorem between_xy {one other : List (Int × Int)} (T : TwoOk one other) : (-(2 ^ 100) < (betweenMv one other).x ∧ (betweenMv one other).x < 2 ^ 100) ∧ (-(2 ^ 100) < (betweenMv one other).y ∧ (betweenMv one other).y < 2 ^ 100) := by
  have hp := T.pos
  have p0 := T.in1 _ (pt_mem (i := 0) (by decide) (by omega))
  have q0 := T.in2 _ (pt_mem (i := 0) (by decide) (by have := T.len; omega))
  unfold InB at p0 q0
  unfold betweenMv
  cases ea : apartI one with
  | none => simp only; omega
  | some j =>
    obtain ⟨j0, j1, fj⟩ := firstI_some ea
    have hj : pt one j ≠ pt one 0 := by simpa using fj
    simp only
    cases offI one j with
    | none => exact turn_xy T j0 j1 (.inl rfl) hj
    | some k =>
      simp only
      split
      · exact turn_xy T j0 j1 (.inl rfl) hj
      · exact turn_xy T j0 j1 (.inr rfl) hj
theorem move_show {one other : List (Int × Int)} {pair : Option (Int × Int)} (h : pair = m_unlike one other) (hs : pair.isSome = false) (T : TwoOk one other) : showOk (eTup (cc eS (c1 (eTup (cc eI (cc eI (cc eI (cc eI (cc eI (c1 eI))))))))) (Str.ofString "move", mv6 (betweenMv one other))) := mv_show (between_W T) (between_xy T).1 (between_xy T).2
theorem paper_show {one other : List (Int × Int)} (T : TwoOk one other) : showOk (eD (paperD one other)) := by
  cases q : (m_unlike one other).isSome with
  | true => have := pair_show rfl q T; rw [← paper_pair rfl q] at this; exact this
  | false => have := move_show rfl q T; rw [← paper_move rfl q] at this; exact this
theorem takes_zip {v : Mv} {one other : List (Int × Int)} (hl : one.length = other.length) (h : takes v one other = true) : ∀ z ∈ one.zip other, mvP v z.1 = (v.d * z.2.1, v.d * z.2.2) := by
  intro z hz
  obtain ⟨i, hi, e⟩ := List.getElem_of_mem hz
  rw [takes_iff] at h
  rw [List.length_zip] at hi
  have := h (i : Int) (by omega) (by omega)
  rw [← e, List.getElem_zip]
  unfold pt at this
  simp only [Int.toNat_natCast] at this
  rw [List.getD_eq_getElem?_getD, List.getD_eq_getElem?_getD, List.getElem?_eq_getElem (by omega), List.getElem?_eq_getElem (by omega)] at this
  exact this
theorem forR_all {α R S : Type} (step : S → α → Ctl R S) (s : S) : ∀ xs : List α, (∀ x ∈ xs, step s x = .nxt s) → forR step xs s = .inr s
  | [], _ => rfl
  | x :: xs, h => by simp only [forR, h x (by simp)]; exact forR_all step s xs fun y hy => h y (by simp [hy])
theorem move_ok {one other : List (Int × Int)} {pair : Option (Int × Int)} (h : pair = m_unlike one other) (hs : pair.isSome = false) (T : TwoOk one other) :
    (-(2 ^ 62) ≤ (mv6 (betweenMv one other)).1 ∧ (mv6 (betweenMv one other)).1 ≤ 2 ^ 62) ∧ (-(2 ^ 62) ≤ (mv6 (betweenMv one other)).2.1 ∧ (mv6 (betweenMv one other)).2.1 ≤ 2 ^ 62) ∧ ((mv6 (betweenMv one other)).2.2.1 = 1 ∨ (mv6 (betweenMv one other)).2.2.1 = -1) ∧
    (1 ≤ (mv6 (betweenMv one other)).2.2.2.1 ∧ (mv6 (betweenMv one other)).2.2.2.1 ≤ 2 ^ 62) ∧ (!m_law_is_right (mv6 (betweenMv one other)) one other) = false := by
  obtain ⟨h1, h2, h3, h4, h5, h6⟩ := between_right T (unl_none h hs)
  refine ⟨h6.1, h6.2.1, h5, ⟨h2, h6.2.2.2.2⟩, ?_⟩
  generalize betweenMv one other = v at *
  unfold m_law_is_right mv6
  simp only
  have e1 : (v.c * v.c + v.s * v.s = v.d * v.d) = True := by simp [h1]
  have e2 : (v.d < 1) = False := by simp; omega
  have e3 : (v.m ∈ [(1 : Int), -1]) = True := by simp; omega
  have e4 : (gcdLI [v.c, v.s, v.d, v.x, v.y] = 1) = True := by unfold gcdLI; simp [h3]
  simp only [e1, e2, e3, e4, decide_true, decide_false, Bool.not_true, Bool.not_false, Bool.or_false, Bool.false_or, Bool.false_eq_true, if_false]
  rw [forR_all]
  · rfl
  · intro z hz
    have := takes_zip T.len h4 z hz
    unfold mvP at this
    simp only [Prod.mk.injEq] at this
    have e5 : ((v.c * z.1.1 - v.m * v.s * z.1.2 + v.x, v.s * z.1.1 + v.m * v.c * z.1.2 + v.y) = (v.d * z.2.1, v.d * z.2.2)) = True := by
      simp only [Prod.mk.injEq, eq_iff_iff, iff_true]
      constructor
      · rw [← this.1]; grind
      · rw [← this.2]; grind
    simp only [e5, decide_true, Bool.not_true, Bool.false_eq_true, if_false]
theorem last_eq : eL eD ([paperD [(0, 0), (5, 0), (0, 5)] [(1, 1), (4, 5), (5, -2)]] ++ [paperD [(0, 0), (1, 0), (0, 1)] [(0, 0), (1, 0), (0, 2)]]) = eD (D.lst [eTup (cc eS (c1 (eTup (cc eI (cc eI (cc eI (cc eI (cc eI (c1 eI))))))))) (Str.ofString "move", 3, 4, -1, 5, 5, 5), eTup (cc eS (cc eI (c1 eI))) (Str.ofString "pair", 0, 2)]) := by
  have e1 : m_unlike [(0, 0), (5, 0), (0, 5)] [(1, 1), (4, 5), (5, -2)] = none := by decide +kernel
  have e2 : m_unlike [(0, 0), (1, 0), (0, 1)] [(0, 0), (1, 0), (0, 2)] = some (0, 2) := by decide +kernel
  have f1 := paper_move rfl (show (m_unlike [(0, 0), (5, 0), (0, 5)] [(1, 1), (4, 5), (5, -2)]).isSome = false by rw [e1]; rfl)
  have f2 := paper_pair rfl (show (m_unlike [(0, 0), (1, 0), (0, 1)] [(0, 0), (1, 0), (0, 2)]).isSome = true by rw [e2]; rfl)
  rw [e2] at f2
  have e3 : mv6 (betweenMv [(0, 0), (5, 0), (0, 5)] [(1, 1), (4, 5), (5, -2)]) = (3, 4, -1, 5, 5, 5) := by decide +kernel
  rw [e3] at f1
  rw [f1, f2]
  rfl
theorem last_show : showOk (eL eD ([paperD [(0, 0), (5, 0), (0, 5)] [(1, 1), (4, 5), (5, -2)]] ++ [paperD [(0, 0), (1, 0), (0, 1)] [(0, 0), (1, 0), (0, 2)]])) := by
  rw [last_eq]
  have b : ∀ i : Int, -100 ≤ i → i ≤ 100 → Shw 20 1 0 (eI i) := fun i a b => shw_I (by omega) (by omega)
  have b7 := shw_tp (l := cc eI (cc eI (cc eI (cc eI (cc eI (c1 eI)))))) (a := ((3, 4, -1, 5, 5, 5) : Int × Int × Int × Int × Int × Int)) (shw_cc (b 3 (by decide) (by decide)) (shw_cc (b 4 (by decide) (by decide)) (shw_cc (b (-1) (by decide) (by decide)) (shw_cc (b 5 (by decide) (by decide)) (shw_cc (b 5 (by decide) (by decide)) (shw_c1 (b 5 (by decide) (by decide))))))))
  have b8 := shw_tp (l := cc eS (c1 (eTup (cc eI (cc eI (cc eI (cc eI (cc eI (c1 eI))))))))) (a := (Str.ofString "move", ((3, 4, -1, 5, 5, 5) : Int × Int × Int × Int × Int × Int))) (shw_cc (shw_W (Str.ofString "move") 4) (shw_c1 b7))
  have b9 := shw_tp (l := cc eS (cc eI (c1 eI))) (a := (Str.ofString "pair", ((0, 2) : Int × Int))) (shw_cc (shw_W (Str.ofString "pair") 4) (shw_cc (b 0 (by decide) (by decide)) (shw_c1 (b 2 (by decide) (by decide)))))
  exact (shw_lst (shwl_cons b8 (shwl_cons b9 shwl_nil))).ok
/-! ### law -/
def rd_law (K : PySem.W.Frag) : DS :=
  (dSeq (dAsg (dCB (sp_law_source K) (dCons (dVar 0) dNil)) (gN 1))
    (dSeq (dFor (dIRg1 (dCons (dC (.int 5)) dNil)) (gN 2) (dSeq (dAsg (dCB sp_law_places (dCons (dVar 1) (dCons (dOp rAddD (dC (.int 1)) (dCB sp_law_pick (dCons (dVar 1) (dCons (dC (.int 7)) dNil)))) (dCons (dC (.int 5)) dNil)))) (gN 3))
    (dSeq (dAsg (dCB sp_law_other (dCons (dVar 1) (dCons (dVar 3) dNil))) (gN 4))
    (dSeq (dIfS (dB (dOp (rEqD false) (dCB sp_law_pick (dCons (dVar 1) (dCons (dC (.int 3)) dNil))) (dC (.int 0)))) (dAsg (dCB sp_law_fives (dCons (dVar 1) (dCons (dVar 3) dNil))) (gT 2 (gConsD (gN 3) (gConsD (gN 4) gNilD)))) dNext)
    (dSeq (dPar3 5 6 7 (dCons (dCB rReprD (dCons (dTup (dCons (dVar 3) (dCons (dVar 4) dNil))) dNil)) (dCons (dCB sp_law_unlike (dCons (dVar 3) (dCons (dVar 4) dNil))) (dCons (dCB sp_move_paper (dCons (dVar 3) (dCons (dVar 4) dNil))) dNil))))
    (dSeq (dIfS (dB (dOp (rIsN true) (dVar 6) (dC .non))) (dIfS (dB (dOp rNeS (dCB rReprD (dCons (dVar 7) dNil)) (dCB rReprD (dCons (dOp rAddD (dTup (dCons (dC (.str (Str.ofString "pair"))) dNil)) (dVar 6)) dNil)))) (dRet (dC (.bl false))) dNext) (dIfS (dOr (dNot (dB (dCB rIsiD (dCons (dVar 7) (dCons (dC (.ty "tuple")) dNil))))) (dOr (dB (dOp (rEqD true) (dCB rLenD (dCons (dVar 7) dNil)) (dC (.int 2)))) (dB (dOp (rEqD true) (dOp rIxD (dVar 7) (dC (.int 0))) (dC (.str (Str.ofString "move"))))))) (dRet (dC (.bl false))) (dIfS (dNot (dB (dCB sp_law_is_right (dCons (dOp rIxD (dVar 7) (dC (.int 1))) (dCons (dVar 3) (dCons (dVar 4) dNil)))))) (dRet (dC (.bl false))) dNext)))
    (dIfS (dOr (dB (dOp rNeS (dCB rReprD (dCons (dCB sp_move_paper (dCons (dVar 3) (dCons (dVar 4) dNil))) dNil)) (dCB rReprD (dCons (dVar 7) dNil)))) (dB (dOp rNeS (dCB rReprD (dCons (dTup (dCons (dVar 3) (dCons (dVar 4) dNil))) dNil)) (dVar 5)))) (dRet (dC (.bl false))) dNext)))))))
    (dSeq (dAsg (dLstM (dCons (dCB sp_move_paper (dCons (dTup (dCons (dTup (dCons (dC (.int 0)) (dCons (dC (.int 0)) dNil))) (dCons (dTup (dCons (dC (.int 5)) (dCons (dC (.int 0)) dNil))) (dCons (dTup (dCons (dC (.int 0)) (dCons (dC (.int 5)) dNil))) dNil)))) (dCons (dTup (dCons (dTup (dCons (dC (.int 1)) (dCons (dC (.int 1)) dNil))) (dCons (dTup (dCons (dC (.int 4)) (dCons (dC (.int 5)) dNil))) (dCons (dTup (dCons (dC (.int 5)) (dCons (dUn rNegD (dC (.int 2))) dNil))) dNil)))) dNil))) dNil)) (gN 7))
    (dSeq (dDrop (dBM "list" mAppend (dVar 7) (dCons (dCB sp_move_paper (dCons (dTup (dCons (dTup (dCons (dC (.int 0)) (dCons (dC (.int 0)) dNil))) (dCons (dTup (dCons (dC (.int 1)) (dCons (dC (.int 0)) dNil))) (dCons (dTup (dCons (dC (.int 0)) (dCons (dC (.int 1)) dNil))) dNil)))) (dCons (dTup (dCons (dTup (dCons (dC (.int 0)) (dCons (dC (.int 0)) dNil))) (dCons (dTup (dCons (dC (.int 1)) (dCons (dC (.int 0)) dNil))) (dCons (dTup (dCons (dC (.int 0)) (dCons (dC (.int 2)) dNil))) dNil)))) dNil))) dNil)))
    (dRet (dOp rEqS (dCB rReprD (dCons (dVar 7) dNil)) (dCB rReprD (dCons (dLst (dCons (dTup (dCons (dC (.str (Str.ofString "move"))) (dCons (dTup (dCons (dC (.int 3)) (dCons (dC (.int 4)) (dCons (dUn rNegD (dC (.int 1))) (dCons (dC (.int 5)) (dCons (dC (.int 5)) (dCons (dC (.int 5)) dNil))))))) dNil))) (dCons (dTup (dCons (dC (.str (Str.ofString "pair"))) (dCons (dC (.int 0)) (dCons (dC (.int 2)) dNil)))) dNil))) dNil))))))))
set_option maxHeartbeats 0 in
theorem law_ok {K : PySem.W.Frag} {ds : List D} {DH : DHp} {Q : DK} (h : spLaw K ds DH Q) : rd_law K (bodyE Q) (dstart ["script", "source", "lap", "one", "other", "held", "pair", "told"] ds) DH := by
  obtain ⟨a0, ns, rfl, hl, hscr, hlaw⟩ := h
  unfold rd_law
  refine n_src (fun H0 => hlaw _) hl hscr (fun a_ DH ha hQ => ?_)
  have hs := DSub.refl DH
  show (_ : DS) _ [some (.ref a0), some (.ref a_), none, none, none, none, none, none] _
  refine n_for eI (rng 0 (5 : Int)) (fun (pre : List Int) (st : Unit) => True) () (fun (st : Unit) τ' H' => ∃ t2 t3 t4 t5 t6 t7 : Option D, τ' = [some (.ref a0), some (.ref a_), t2, t3, t4, t5, t6, t7] ∧ DSub DH H') (ei_rg1 ev_c (by unfold ob) (by unfold ob)) (fun st τ' H' h => trivial) ⟨_, _, _, _, _, _, rfl, hs⟩ (by unfold ob) (fun pre lap post st τ' H' hx_st hi_st hst E' hrt hE => ?_) (fun st τ' H' hst hi_st => ?_)
  · obtain ⟨t2, t3, t4, t5, t6, t7, rfl, hs⟩ := hst
    have hm_lap : lap ∈ (rng 0 (5 : Int)) := by rw [hx_st]; simp
    have hb_lap := mem_rng.mp hm_lap
    refine n_gv (show Gv _ (eI lap) _ _ _ from gv_N) ?_
    show (_ : DS) _ [some (.ref a0), some (.ref a_), some (eI lap), t3, t4, t5, t6, t7] _
    refine n_asgX ?_
    refine x_cb ?_
    refine x_cons ?_
    refine x_ev (ev_var rfl : Ev _ _ _ (.ref a_)) ?_
    refine x_cons ?_
    refine x_op ?_
    refine x_ev (evd (eI (1 : Int)) ev_c) ?_
    refine x_cb ?_
    refine x_cons ?_
    refine x_ev (ev_var rfl : Ev _ _ _ (.ref a_)) ?_
    refine x_cons ?_
    refine x_ev (evd (eI (7 : Int)) ev_c) ?_
    refine x_nil ?_
    refine call_pick (hs _ _ ha) ((7 : Int)) (by unfold ob) (fun r_pick h_r_pick => ?_)
    refine x_rv (r_add (i := (1 : Int)) (j := r_pick)) ?_
    refine x_cons ?_
    refine x_ev (evd (eI (5 : Int)) ev_c) ?_
    refine x_nil ?_
    refine call_places (hs _ _ ha) (((1 : Int) + r_pick)) ((5 : Int)) (by unfold ob) (fun r_places h_r_places => ?_)
    show (_ : DS) _ [some (.ref a0), some (.ref a_), some (eI lap), some ((eT (eTup (cc eI (c1 eI)))) r_places), t4, t5, t6, t7] _
    refine n_asgX ?_
    refine x_cb ?_
    refine x_cons ?_
    refine x_ev (ev_var rfl : Ev _ _ _ (.ref a_)) ?_
    refine x_cons ?_
    refine x_ev (evd ((eT (eTup (cc eI (c1 eI)))) r_places) (ev_var rfl)) ?_
    refine x_nil ?_
    refine call_law_other (hs _ _ ha) (r_places) (by unfold ob) (by exact places_in h_r_places.2) (fun r_other h_r_other => ?_)
    show (_ : DS) _ [some (.ref a0), some (.ref a_), some (eI lap), some ((eT (eTup (cc eI (c1 eI)))) r_places), some ((eT (eTup (cc eI (c1 eI)))) r_other), t5, t6, t7] _
    refine n_join (fun τ' H' => ∃ one : (List (Int × Int)), ∃ other : (List (Int × Int)), τ' = [some (.ref a0), some (.ref a_), some (eI lap), some ((eT (eTup (cc eI (c1 eI)))) one), some ((eT (eTup (cc eI (c1 eI)))) other), t5, t6, t7] ∧ DSub DH H' ∧ (TwoOk one other ∧ one.length ≤ 7)) (fun E_1 hrt1 hct hj => ?_) ?_
    · skip
      refine n_ifX ?_
      refine x_b ?_
      refine x_op ?_
      refine x_cb ?_
      refine x_cons ?_
      refine x_ev (ev_var rfl : Ev _ _ _ (.ref a_)) ?_
      refine x_cons ?_
      refine x_ev (evd (eI (3 : Int)) ev_c) ?_
      refine x_nil ?_
      refine call_pick (hs _ _ ha) ((3 : Int)) (by unfold ob) (fun r_pick1 h_r_pick1 => ?_)
      refine x_ev (evd (eI (0 : Int)) ev_c) ?_
      refine x_rv (r_eq (e := eI) (x := r_pick1) (y := (0 : Int)) (by decide) (peek_gd _ _) (peek_gd _ _)) ?_
      refine x_asb ?_
      refine x_ite (fun hc => ?_) (fun hc => ?_)
      · skip
        show (_ : DS) _ [some (.ref a0), some (.ref a_), some (eI lap), some ((eT (eTup (cc eI (c1 eI)))) r_places), some ((eT (eTup (cc eI (c1 eI)))) r_other), t5, t6, t7] _
        refine n_asgGX ?_
        refine x_cb ?_
        refine x_cons ?_
        refine x_ev (ev_var rfl : Ev _ _ _ (.ref a_)) ?_
        refine x_cons ?_
        refine x_ev (evd ((eT (eTup (cc eI (c1 eI)))) r_places) (ev_var rfl)) ?_
        refine x_nil ?_
        refine call_fives (hs _ _ ha) (r_places) (by exact ⟨by omega, places_in h_r_places.2⟩) (fun r_fives h_r_fives => ?_)
        refine n_gv (show Gv _ ((eTup (cc (eT (eTup (cc eI (c1 eI)))) (c1 (eT (eTup (cc eI (c1 eI))))))) r_fives) _ _ _ from (gv_T rfl (gvs_cons gv_N (gvs_cons gv_N gvs_nil)))) ?_
        exact hj _ _ ⟨r_fives.1, r_fives.2, rfl, hs, (by exact ⟨⟨by omega, by omega, by omega, h_r_fives.2.2.1, h_r_fives.2.2.2⟩, by omega⟩)⟩
      · skip
        refine s_skip ?_
        exact hj _ _ ⟨r_places, r_other, rfl, hs, (by exact ⟨⟨by omega, by omega, by omega, fun p hp => (h_r_places.2 p hp).mono (by decide), fun p hp => (h_r_other.2 p hp).mono (by decide)⟩, by omega⟩)⟩
    · rintro _ H' ⟨one, other, rfl, hs, hJ⟩
      show (_ : DS) _ [some (.ref a0), some (.ref a_), some (eI lap), some ((eT (eTup (cc eI (c1 eI)))) one), some ((eT (eTup (cc eI (c1 eI)))) other), t5, t6, t7] _
      refine n_par3 ?_
      refine x_cons ?_
      refine x_ev (evd (eS (rpr ((eTup (cc (eT (eTup (cc eI (c1 eI)))) (c1 (eT (eTup (cc eI (c1 eI))))))) (one, other)))) (ev_cb (ea_cons (evd ((eTup (cc (eT (eTup (cc eI (c1 eI)))) (c1 (eT (eTup (cc eI (c1 eI))))))) (one, other)) (ev_tupK 2 (ea_cons (evd ((eT (eTup (cc eI (c1 eI)))) one) (ev_var rfl)) (ea_cons (evd ((eT (eTup (cc eI (c1 eI)))) other) (ev_var rfl)) ea_nil)) rfl (by decide))) ea_nil) (c_reprD (d := (eTup (cc (eT (eTup (cc eI (c1 eI)))) (c1 (eT (eTup (cc eI (c1 eI))))))) (one, other)) (by exact two_show hJ.1 hJ.2)))) ?_
      obtain ⟨held, h_held⟩ : ∃ x : Str, x = (rpr ((eTup (cc (eT (eTup (cc eI (c1 eI)))) (c1 (eT (eTup (cc eI (c1 eI))))))) (one, other))) := ⟨_, rfl⟩
      rw [← h_held]
      refine x_cons ?_
      refine x_ev (evd ((eO (eTup (cc eI (c1 eI)))) (m_unlike (one) (other))) (ev_cb (ea_cons (evd ((eT (eTup (cc eI (c1 eI)))) one) (ev_var rfl)) (ea_cons (evd ((eT (eTup (cc eI (c1 eI)))) other) (ev_var rfl)) ea_nil)) (call_unlike (one) (other) (by unfold ob)))) ?_
      obtain ⟨pair, h_pair⟩ : ∃ x : (Option (Int × Int)), x = (m_unlike (one) (other)) := ⟨_, rfl⟩
      rw [← h_pair]
      refine x_cons ?_
      refine x_ev (evd (eD (paperD (one) (other))) (ev_cb (ea_cons (evd ((eT (eTup (cc eI (c1 eI)))) one) (ev_var rfl)) (ea_cons (evd ((eT (eTup (cc eI (c1 eI)))) other) (ev_var rfl)) ea_nil)) (call_move_paper (one) (other) (by unfold ob)))) ?_
      obtain ⟨told, h_told⟩ : ∃ x : D, x = (paperD (one) (other)) := ⟨_, rfl⟩
      rw [← h_told]
      refine x_nil ?_
      refine n_as3 ?_
      show (_ : DS) _ [some (.ref a0), some (.ref a_), some (eI lap), some ((eT (eTup (cc eI (c1 eI)))) one), some ((eT (eTup (cc eI (c1 eI)))) other), some (eS held), some ((eO (eTup (cc eI (c1 eI)))) pair), some (eD told)] _
      refine n_if (b := ((pair).isSome)) (et_b (ev_op (ev_var rfl) ev_c (r_isnot (e := (eTup (cc eI (c1 eI)))) (x := pair)))) (fun hc1 => ?_) (fun hc1 => ?_)
      · skip
        show (_ : DS) _ [some (.ref a0), some (.ref a_), some (eI lap), some ((eT (eTup (cc eI (c1 eI)))) one), some ((eT (eTup (cc eI (c1 eI)))) other), some (eS held), some ((eO (eTup (cc eI (c1 eI)))) pair), some (eD told)] _
        obtain ⟨told1, hcast_told1, hf_told1⟩ : ∃ y : (Str × Int × Int), told = (eTup (cc eS (cc eI (c1 eI)))) y ∧ (y = (Str.ofString "pair", (pair.getD default).1, (pair.getD default).2)) := ⟨_, by rw [h_told]; exact paper_pair h_pair hc1, rfl⟩
        subst hcast_told1
        refine n_if (b := (!((rpr ((eTup (cc eS (cc eI (c1 eI)))) told1)) == (rpr ((eTup (cc eS (cc eI (c1 eI)))) (((Str.ofString "pair")), (pair.getD default).1, (pair.getD default).2)))))) (et_b (ev_op (ev_cb (ea_cons (evd ((eTup (cc eS (cc eI (c1 eI)))) told1) (ev_var rfl)) ea_nil) (c_reprD (d := (eTup (cc eS (cc eI (c1 eI)))) told1) (by rw [hf_told1]; exact pair_show h_pair hc1 hJ.1))) (ev_cb (ea_cons (evd ((eTup (cc eS (cc eI (c1 eI)))) (((Str.ofString "pair")), (pair.getD default).1, (pair.getD default).2)) (ev_op (evd ((eTup (c1 eS)) ((Str.ofString "pair"))) (ev_tupK 1 (ea_cons (evd (eS (Str.ofString "pair")) ev_c) ea_nil) rfl (by decide))) (evd ((eTup (cc eI (c1 eI))) (pair.getD default)) (ev_some (e := (eTup (cc eI (c1 eI)))) (x := pair) (ev_var rfl) (by unfold ob))) (r_catD (k := 3) rfl (by decide)))) ea_nil) (c_reprD (d := (eTup (cc eS (cc eI (c1 eI)))) (((Str.ofString "pair")), (pair.getD default).1, (pair.getD default).2)) (by exact pair_show h_pair hc1 hJ.1))) r_neS)) (fun hc2 => ?_) (fun hc2 => ?_)
        · skip
          show (_ : DS) _ [some (.ref a0), some (.ref a_), some (eI lap), some ((eT (eTup (cc eI (c1 eI)))) one), some ((eT (eTup (cc eI (c1 eI)))) other), some (eS held), some ((eO (eTup (cc eI (c1 eI)))) pair), some ((eTup (cc eS (cc eI (c1 eI)))) told1)] _
          exact s_ret (evd (eB false) ev_c) (hrt ▸ ⟨DH, hs, hQ _ (by exact (rpr_no hc2 (by rw [hf_told1])).elim)⟩)
        · skip
          refine s_skip ?_
          show (_ : DS) _ [some (.ref a0), some (.ref a_), some (eI lap), some ((eT (eTup (cc eI (c1 eI)))) one), some ((eT (eTup (cc eI (c1 eI)))) other), some (eS held), some ((eO (eTup (cc eI (c1 eI)))) pair), some ((eTup (cc eS (cc eI (c1 eI)))) told1)] _
          refine s_last ?_
          refine n_if (b := ((!((rpr (eD (paperD (one) (other)))) == (rpr ((eTup (cc eS (cc eI (c1 eI)))) told1)))) || (!((rpr ((eTup (cc (eT (eTup (cc eI (c1 eI)))) (c1 (eT (eTup (cc eI (c1 eI))))))) (one, other))) == held)))) (et_or (et_b (ev_op (ev_cb (ea_cons (evd (eD (paperD (one) (other))) (ev_cb (ea_cons (evd ((eT (eTup (cc eI (c1 eI)))) one) (ev_var rfl)) (ea_cons (evd ((eT (eTup (cc eI (c1 eI)))) other) (ev_var rfl)) ea_nil)) (call_move_paper (one) (other) (by unfold ob)))) ea_nil) (c_reprD (d := eD (paperD (one) (other))) (by exact paper_show hJ.1))) (ev_cb (ea_cons (evd ((eTup (cc eS (cc eI (c1 eI)))) told1) (ev_var rfl)) ea_nil) (c_reprD (d := (eTup (cc eS (cc eI (c1 eI)))) told1) (by rw [hf_told1]; exact pair_show h_pair hc1 hJ.1))) r_neS)) (fun hc3 => (et_b (ev_op (ev_cb (ea_cons (evd ((eTup (cc (eT (eTup (cc eI (c1 eI)))) (c1 (eT (eTup (cc eI (c1 eI))))))) (one, other)) (ev_tupK 2 (ea_cons (evd ((eT (eTup (cc eI (c1 eI)))) one) (ev_var rfl)) (ea_cons (evd ((eT (eTup (cc eI (c1 eI)))) other) (ev_var rfl)) ea_nil)) rfl (by decide))) ea_nil) (c_reprD (d := (eTup (cc (eT (eTup (cc eI (c1 eI)))) (c1 (eT (eTup (cc eI (c1 eI))))))) (one, other)) (by exact two_show hJ.1 hJ.2))) (ev_var rfl) r_neS)))) (fun hc4 => ?_) (fun hc4 => ?_)
          · skip
            show (_ : DS) _ [some (.ref a0), some (.ref a_), some (eI lap), some ((eT (eTup (cc eI (c1 eI)))) one), some ((eT (eTup (cc eI (c1 eI)))) other), some (eS held), some ((eO (eTup (cc eI (c1 eI)))) pair), some ((eTup (cc eS (cc eI (c1 eI)))) told1)] _
            exact s_ret (evd (eB false) ev_c) (hrt ▸ ⟨DH, hs, hQ _ (by unfold ob)⟩)
          · skip
            refine s_skip ?_
            exact (hE () _ _ (by unfold ob) ⟨_, _, _, _, _, _, rfl, hs⟩).1
      · skip
        show (_ : DS) _ [some (.ref a0), some (.ref a_), some (eI lap), some ((eT (eTup (cc eI (c1 eI)))) one), some ((eT (eTup (cc eI (c1 eI)))) other), some (eS held), some ((eO (eTup (cc eI (c1 eI)))) pair), some (eD told)] _
        obtain ⟨told2, hcast_told2, hf_told2⟩ : ∃ y : (Str × (Int × Int × Int × Int × Int × Int)), told = (eTup (cc eS (c1 (eTup (cc eI (cc eI (cc eI (cc eI (cc eI (c1 eI)))))))))) y ∧ (y = (Str.ofString "move", mv6 (betweenMv one other))) := ⟨_, by rw [h_told]; exact paper_move h_pair hc1, rfl⟩
        subst hcast_told2
        refine n_if (b := ((!true) || ((!decide ((2 : Int) = (2 : Int))) || (!(told2.1 == (Str.ofString "move")))))) (et_or (et_not (et_b (ev_cb (ea_cons (evd ((eTup (cc eS (c1 (eTup (cc eI (cc eI (cc eI (cc eI (cc eI (c1 eI)))))))))) told2) (ev_var rfl)) (ea_cons ev_c ea_nil)) (c_isi (t := "tuple") (n := "tuple") rfl (by decide) (by decide))))) (fun hc6 => (et_or (et_b (ev_op (evd (eI (2 : Int)) (ev_cb (ea_cons (evd ((eTup (cc eS (c1 (eTup (cc eI (cc eI (cc eI (cc eI (cc eI (c1 eI)))))))))) told2) (ev_var rfl)) ea_nil) c_lenP)) (evd (eI (2 : Int)) ev_c) (r_ne (e := eI) (x := (2 : Int)) (y := (2 : Int)) (by decide) (peek_gd _ _) (peek_gd _ _)))) (fun hc5 => (et_b (ev_op (ev_op (evd ((eTup (cc eS (c1 (eTup (cc eI (cc eI (cc eI (cc eI (cc eI (c1 eI)))))))))) told2) (ev_var rfl)) ev_c (r_ixP (d := eS told2.1) rfl)) ev_c (r_neSt (a := told2.1) (b := (Str.ofString "move")) (by rw [hf_told2]; show PyData.strOk (Str.ofString "move") = true; decide +kernel) (by decide +kernel)))))))) (fun hc7 => ?_) (fun hc7 => ?_)
        · skip
          show (_ : DS) _ [some (.ref a0), some (.ref a_), some (eI lap), some ((eT (eTup (cc eI (c1 eI)))) one), some ((eT (eTup (cc eI (c1 eI)))) other), some (eS held), some ((eO (eTup (cc eI (c1 eI)))) pair), some ((eTup (cc eS (c1 (eTup (cc eI (cc eI (cc eI (cc eI (cc eI (c1 eI)))))))))) told2)] _
          exact s_ret (evd (eB false) ev_c) (hrt ▸ ⟨DH, hs, hQ _ (by exfalso; rw [hf_told2] at hc7; revert hc7; simp)⟩)
        · skip
          show (_ : DS) _ [some (.ref a0), some (.ref a_), some (eI lap), some ((eT (eTup (cc eI (c1 eI)))) one), some ((eT (eTup (cc eI (c1 eI)))) other), some (eS held), some ((eO (eTup (cc eI (c1 eI)))) pair), some ((eTup (cc eS (c1 (eTup (cc eI (cc eI (cc eI (cc eI (cc eI (c1 eI)))))))))) told2)] _
          refine n_if (b := (!(m_law_is_right (told2.2) (one) (other)))) (et_not (et_b (ev_cb (ea_cons (evd ((eTup (cc eI (cc eI (cc eI (cc eI (cc eI (c1 eI))))))) told2.2) (ev_op (evd ((eTup (cc eS (c1 (eTup (cc eI (cc eI (cc eI (cc eI (cc eI (c1 eI)))))))))) told2) (ev_var rfl)) ev_c (r_ixP (d := (eTup (cc eI (cc eI (cc eI (cc eI (cc eI (c1 eI))))))) told2.2) rfl))) (ea_cons (evd ((eT (eTup (cc eI (c1 eI)))) one) (ev_var rfl)) (ea_cons (evd ((eT (eTup (cc eI (c1 eI)))) other) (ev_var rfl)) ea_nil))) (call_law_is_right (told2.2) (one) (other) (by exact hJ.1.small) (by rw [hf_told2]; exact (move_ok h_pair hc1 hJ.1).1) (by rw [hf_told2]; exact (move_ok h_pair hc1 hJ.1).2.1) (by rw [hf_told2]; exact (move_ok h_pair hc1 hJ.1).2.2.1) (by rw [hf_told2]; exact (move_ok h_pair hc1 hJ.1).2.2.2.1) (by exact hJ.1.in1) (by exact hJ.1.in2))))) (fun hc8 => ?_) (fun hc8 => ?_)
          · skip
            show (_ : DS) _ [some (.ref a0), some (.ref a_), some (eI lap), some ((eT (eTup (cc eI (c1 eI)))) one), some ((eT (eTup (cc eI (c1 eI)))) other), some (eS held), some ((eO (eTup (cc eI (c1 eI)))) pair), some ((eTup (cc eS (c1 (eTup (cc eI (cc eI (cc eI (cc eI (cc eI (c1 eI)))))))))) told2)] _
            exact s_ret (evd (eB false) ev_c) (hrt ▸ ⟨DH, hs, hQ _ (by exfalso; rw [hf_told2] at hc8; rw [(move_ok h_pair hc1 hJ.1).2.2.2.2] at hc8; cases hc8)⟩)
          · skip
            refine s_skip ?_
            show (_ : DS) _ [some (.ref a0), some (.ref a_), some (eI lap), some ((eT (eTup (cc eI (c1 eI)))) one), some ((eT (eTup (cc eI (c1 eI)))) other), some (eS held), some ((eO (eTup (cc eI (c1 eI)))) pair), some ((eTup (cc eS (c1 (eTup (cc eI (cc eI (cc eI (cc eI (cc eI (c1 eI)))))))))) told2)] _
            refine s_last ?_
            refine n_if (b := ((!((rpr (eD (paperD (one) (other)))) == (rpr ((eTup (cc eS (c1 (eTup (cc eI (cc eI (cc eI (cc eI (cc eI (c1 eI)))))))))) told2)))) || (!((rpr ((eTup (cc (eT (eTup (cc eI (c1 eI)))) (c1 (eT (eTup (cc eI (c1 eI))))))) (one, other))) == held)))) (et_or (et_b (ev_op (ev_cb (ea_cons (evd (eD (paperD (one) (other))) (ev_cb (ea_cons (evd ((eT (eTup (cc eI (c1 eI)))) one) (ev_var rfl)) (ea_cons (evd ((eT (eTup (cc eI (c1 eI)))) other) (ev_var rfl)) ea_nil)) (call_move_paper (one) (other) (by unfold ob)))) ea_nil) (c_reprD (d := eD (paperD (one) (other))) (by exact paper_show hJ.1))) (ev_cb (ea_cons (evd ((eTup (cc eS (c1 (eTup (cc eI (cc eI (cc eI (cc eI (cc eI (c1 eI)))))))))) told2) (ev_var rfl)) ea_nil) (c_reprD (d := (eTup (cc eS (c1 (eTup (cc eI (cc eI (cc eI (cc eI (cc eI (c1 eI)))))))))) told2) (by rw [hf_told2]; exact move_show h_pair hc1 hJ.1))) r_neS)) (fun hc9 => (et_b (ev_op (ev_cb (ea_cons (evd ((eTup (cc (eT (eTup (cc eI (c1 eI)))) (c1 (eT (eTup (cc eI (c1 eI))))))) (one, other)) (ev_tupK 2 (ea_cons (evd ((eT (eTup (cc eI (c1 eI)))) one) (ev_var rfl)) (ea_cons (evd ((eT (eTup (cc eI (c1 eI)))) other) (ev_var rfl)) ea_nil)) rfl (by decide))) ea_nil) (c_reprD (d := (eTup (cc (eT (eTup (cc eI (c1 eI)))) (c1 (eT (eTup (cc eI (c1 eI))))))) (one, other)) (by exact two_show hJ.1 hJ.2))) (ev_var rfl) r_neS)))) (fun hc10 => ?_) (fun hc10 => ?_)
            · skip
              show (_ : DS) _ [some (.ref a0), some (.ref a_), some (eI lap), some ((eT (eTup (cc eI (c1 eI)))) one), some ((eT (eTup (cc eI (c1 eI)))) other), some (eS held), some ((eO (eTup (cc eI (c1 eI)))) pair), some ((eTup (cc eS (c1 (eTup (cc eI (cc eI (cc eI (cc eI (cc eI (c1 eI)))))))))) told2)] _
              exact s_ret (evd (eB false) ev_c) (hrt ▸ ⟨DH, hs, hQ _ (by unfold ob)⟩)
            · skip
              refine s_skip ?_
              exact (hE () _ _ (by unfold ob) ⟨_, _, _, _, _, _, rfl, hs⟩).1
  · obtain ⟨t2, t3, t4, t5, t6, t7, rfl, hs⟩ := hst
    show (_ : DS) _ [some (.ref a0), some (.ref a_), t2, t3, t4, t5, t6, t7] _
    refine s_newL eD [(paperD ([((0 : Int), (0 : Int)), ((5 : Int), (0 : Int)), ((0 : Int), (5 : Int))]) ([((1 : Int), (1 : Int)), ((4 : Int), (5 : Int)), ((5 : Int), (-(2 : Int)))]))] (ea_cons (evd (eD (paperD ([((0 : Int), (0 : Int)), ((5 : Int), (0 : Int)), ((0 : Int), (5 : Int))]) ([((1 : Int), (1 : Int)), ((4 : Int), (5 : Int)), ((5 : Int), (-(2 : Int)))]))) (ev_cb (ea_cons (evd ((eT (eTup (cc eI (c1 eI)))) [((0 : Int), (0 : Int)), ((5 : Int), (0 : Int)), ((0 : Int), (5 : Int))]) (ev_tupK 3 (ea_cons (evd ((eTup (cc eI (c1 eI))) ((0 : Int), (0 : Int))) (ev_tupK 2 (ea_cons (evd (eI (0 : Int)) ev_c) (ea_cons (evd (eI (0 : Int)) ev_c) ea_nil)) rfl (by decide))) (ea_cons (evd ((eTup (cc eI (c1 eI))) ((5 : Int), (0 : Int))) (ev_tupK 2 (ea_cons (evd (eI (5 : Int)) ev_c) (ea_cons (evd (eI (0 : Int)) ev_c) ea_nil)) rfl (by decide))) (ea_cons (evd ((eTup (cc eI (c1 eI))) ((0 : Int), (5 : Int))) (ev_tupK 2 (ea_cons (evd (eI (0 : Int)) ev_c) (ea_cons (evd (eI (5 : Int)) ev_c) ea_nil)) rfl (by decide))) ea_nil))) rfl (by decide))) (ea_cons (evd ((eT (eTup (cc eI (c1 eI)))) [((1 : Int), (1 : Int)), ((4 : Int), (5 : Int)), ((5 : Int), (-(2 : Int)))]) (ev_tupK 3 (ea_cons (evd ((eTup (cc eI (c1 eI))) ((1 : Int), (1 : Int))) (ev_tupK 2 (ea_cons (evd (eI (1 : Int)) ev_c) (ea_cons (evd (eI (1 : Int)) ev_c) ea_nil)) rfl (by decide))) (ea_cons (evd ((eTup (cc eI (c1 eI))) ((4 : Int), (5 : Int))) (ev_tupK 2 (ea_cons (evd (eI (4 : Int)) ev_c) (ea_cons (evd (eI (5 : Int)) ev_c) ea_nil)) rfl (by decide))) (ea_cons (evd ((eTup (cc eI (c1 eI))) ((5 : Int), (-(2 : Int)))) (ev_tupK 2 (ea_cons (evd (eI (5 : Int)) ev_c) (ea_cons (evd (eI (-(2 : Int))) (ev_neg ev_c)) ea_nil)) rfl (by decide))) ea_nil))) rfl (by decide))) ea_nil)) (call_move_paper ([((0 : Int), (0 : Int)), ((5 : Int), (0 : Int)), ((0 : Int), (5 : Int))]) ([((1 : Int), (1 : Int)), ((4 : Int), (5 : Int)), ((5 : Int), (-(2 : Int)))]) (by exact ⟨rfl, by decide, by decide, fun p hp => by unfold InB; simp only [List.mem_cons, List.not_mem_nil, or_false] at hp; rcases hp with rfl | rfl | rfl <;> decide, fun p hp => by unfold InB; simp only [List.mem_cons, List.not_mem_nil, or_false] at hp; rcases hp with rfl | rfl | rfl <;> decide⟩)))) ea_nil) (by decide) (fun p_told H' hn0 hp_told hf => ?_)
    have hn_p_told := dsub_none hs hn0
    have hs := dsub_fr hs hn_p_told hf
    show (_ : DS) _ [some (.ref a0), some (.ref a_), t2, t3, t4, t5, t6, some (.ref p_told)] _
    refine s_app (xs := ([(paperD ([((0 : Int), (0 : Int)), ((5 : Int), (0 : Int)), ((0 : Int), (5 : Int))]) ([((1 : Int), (1 : Int)), ((4 : Int), (5 : Int)), ((5 : Int), (-(2 : Int)))]))] : List D)) (v := (paperD ([((0 : Int), (0 : Int)), ((1 : Int), (0 : Int)), ((0 : Int), (1 : Int))]) ([((0 : Int), (0 : Int)), ((1 : Int), (0 : Int)), ((0 : Int), (2 : Int))]))) eD rfl hp_told (evd (eD (paperD ([((0 : Int), (0 : Int)), ((1 : Int), (0 : Int)), ((0 : Int), (1 : Int))]) ([((0 : Int), (0 : Int)), ((1 : Int), (0 : Int)), ((0 : Int), (2 : Int))]))) (ev_cb (ea_cons (evd ((eT (eTup (cc eI (c1 eI)))) [((0 : Int), (0 : Int)), ((1 : Int), (0 : Int)), ((0 : Int), (1 : Int))]) (ev_tupK 3 (ea_cons (evd ((eTup (cc eI (c1 eI))) ((0 : Int), (0 : Int))) (ev_tupK 2 (ea_cons (evd (eI (0 : Int)) ev_c) (ea_cons (evd (eI (0 : Int)) ev_c) ea_nil)) rfl (by decide))) (ea_cons (evd ((eTup (cc eI (c1 eI))) ((1 : Int), (0 : Int))) (ev_tupK 2 (ea_cons (evd (eI (1 : Int)) ev_c) (ea_cons (evd (eI (0 : Int)) ev_c) ea_nil)) rfl (by decide))) (ea_cons (evd ((eTup (cc eI (c1 eI))) ((0 : Int), (1 : Int))) (ev_tupK 2 (ea_cons (evd (eI (0 : Int)) ev_c) (ea_cons (evd (eI (1 : Int)) ev_c) ea_nil)) rfl (by decide))) ea_nil))) rfl (by decide))) (ea_cons (evd ((eT (eTup (cc eI (c1 eI)))) [((0 : Int), (0 : Int)), ((1 : Int), (0 : Int)), ((0 : Int), (2 : Int))]) (ev_tupK 3 (ea_cons (evd ((eTup (cc eI (c1 eI))) ((0 : Int), (0 : Int))) (ev_tupK 2 (ea_cons (evd (eI (0 : Int)) ev_c) (ea_cons (evd (eI (0 : Int)) ev_c) ea_nil)) rfl (by decide))) (ea_cons (evd ((eTup (cc eI (c1 eI))) ((1 : Int), (0 : Int))) (ev_tupK 2 (ea_cons (evd (eI (1 : Int)) ev_c) (ea_cons (evd (eI (0 : Int)) ev_c) ea_nil)) rfl (by decide))) (ea_cons (evd ((eTup (cc eI (c1 eI))) ((0 : Int), (2 : Int))) (ev_tupK 2 (ea_cons (evd (eI (0 : Int)) ev_c) (ea_cons (evd (eI (2 : Int)) ev_c) ea_nil)) rfl (by decide))) ea_nil))) rfl (by decide))) ea_nil)) (call_move_paper ([((0 : Int), (0 : Int)), ((1 : Int), (0 : Int)), ((0 : Int), (1 : Int))]) ([((0 : Int), (0 : Int)), ((1 : Int), (0 : Int)), ((0 : Int), (2 : Int))]) (by exact ⟨rfl, by decide, by decide, fun p hp => by unfold InB; simp only [List.mem_cons, List.not_mem_nil, or_false] at hp; rcases hp with rfl | rfl | rfl <;> decide, fun p hp => by unfold InB; simp only [List.mem_cons, List.not_mem_nil, or_false] at hp; rcases hp with rfl | rfl | rfl <;> decide⟩)))) (by unfold ob) (fun H_1 hp_ hf1 => ?_)
    have hs := dsub_fr hs hn_p_told hf1
    show (_ : DS) _ [some (.ref a0), some (.ref a_), t2, t3, t4, t5, t6, some (.ref p_told)] _
    refine s_last ?_
    exact s_ret (evd (eB (((rpr ((eL eD) (([(paperD ([((0 : Int), (0 : Int)), ((5 : Int), (0 : Int)), ((0 : Int), (5 : Int))]) ([((1 : Int), (1 : Int)), ((4 : Int), (5 : Int)), ((5 : Int), (-(2 : Int)))]))] : List D) ++ [(paperD ([((0 : Int), (0 : Int)), ((1 : Int), (0 : Int)), ((0 : Int), (1 : Int))]) ([((0 : Int), (0 : Int)), ((1 : Int), (0 : Int)), ((0 : Int), (2 : Int))]))]))) == (rpr (eD (D.lst [(eTup (cc eS (c1 (eTup (cc eI (cc eI (cc eI (cc eI (cc eI (c1 eI)))))))))) ((Str.ofString "move"), ((3 : Int), (4 : Int), (-(1 : Int)), (5 : Int), (5 : Int), (5 : Int))), (eTup (cc eS (cc eI (c1 eI)))) ((Str.ofString "pair"), (0 : Int), (2 : Int))])))))) (ev_op (ev_cb (ea_cons (ev_var rfl) ea_nil) (c_repr (d := (eL eD) (([(paperD ([((0 : Int), (0 : Int)), ((5 : Int), (0 : Int)), ((0 : Int), (5 : Int))]) ([((1 : Int), (1 : Int)), ((4 : Int), (5 : Int)), ((5 : Int), (-(2 : Int)))]))] : List D) ++ [(paperD ([((0 : Int), (0 : Int)), ((1 : Int), (0 : Int)), ((0 : Int), (1 : Int))]) ([((0 : Int), (0 : Int)), ((1 : Int), (0 : Int)), ((0 : Int), (2 : Int))]))])) (peekR hp_) (by exact last_show))) (ev_cb (ea_cons (evd (eD (D.lst [(eTup (cc eS (c1 (eTup (cc eI (cc eI (cc eI (cc eI (cc eI (c1 eI)))))))))) ((Str.ofString "move"), ((3 : Int), (4 : Int), (-(1 : Int)), (5 : Int), (5 : Int), (5 : Int))), (eTup (cc eS (cc eI (c1 eI)))) ((Str.ofString "pair"), (0 : Int), (2 : Int))])) (ev_lstK 2 (ea_cons (evd ((eTup (cc eS (c1 (eTup (cc eI (cc eI (cc eI (cc eI (cc eI (c1 eI)))))))))) ((Str.ofString "move"), ((3 : Int), (4 : Int), (-(1 : Int)), (5 : Int), (5 : Int), (5 : Int)))) (ev_tupK 2 (ea_cons (evd (eS (Str.ofString "move")) ev_c) (ea_cons (evd ((eTup (cc eI (cc eI (cc eI (cc eI (cc eI (c1 eI))))))) ((3 : Int), (4 : Int), (-(1 : Int)), (5 : Int), (5 : Int), (5 : Int))) (ev_tupK 6 (ea_cons (evd (eI (3 : Int)) ev_c) (ea_cons (evd (eI (4 : Int)) ev_c) (ea_cons (evd (eI (-(1 : Int))) (ev_neg ev_c)) (ea_cons (evd (eI (5 : Int)) ev_c) (ea_cons (evd (eI (5 : Int)) ev_c) (ea_cons (evd (eI (5 : Int)) ev_c) ea_nil)))))) rfl (by decide))) ea_nil)) rfl (by decide))) (ea_cons (evd ((eTup (cc eS (cc eI (c1 eI)))) ((Str.ofString "pair"), (0 : Int), (2 : Int))) (ev_tupK 3 (ea_cons (evd (eS (Str.ofString "pair")) ev_c) (ea_cons (evd (eI (0 : Int)) ev_c) (ea_cons (evd (eI (2 : Int)) ev_c) ea_nil))) rfl (by decide))) ea_nil)) rfl (by decide))) ea_nil) (c_reprD (d := eD (D.lst [(eTup (cc eS (c1 (eTup (cc eI (cc eI (cc eI (cc eI (cc eI (c1 eI)))))))))) ((Str.ofString "move"), ((3 : Int), (4 : Int), (-(1 : Int)), (5 : Int), (5 : Int), (5 : Int))), (eTup (cc eS (cc eI (c1 eI)))) ((Str.ofString "pair"), (0 : Int), (2 : Int))])) (by rw [← last_eq]; exact last_show))) r_eqS)) ⟨DH, hs, hQ _ (by exact rpr_eq last_eq)⟩

end DL

namespace DL
open PySem PySem.Spec PyProof.Rows L2
def topS (i : Nat) : Stmt := PySem.Challenge.pw_firmframes_k04_whole_places_alike.main.body.getD i (.Pass ⟨0, 0, 0, 0⟩)

/-! ### square -/
abbrev st_square : Stmt := topS 1
theorem sc_square : FnScope ["places", "a", "b"] ["places", "a", "b"] (defScope st_square) := ⟨rfl, rfl, rfl, by decide +kernel, rfl, by decide +kernel, by decide +kernel⟩
theorem bd_square {P : Program} {w : World} {K : PySem.W.Frag} {mg : Str → Option Value} {base : Heap} (b : Bl mg)  {f : Addr} {cdv : Value} {A : Around} {outer : List Env} {s : Shared} {H : Hp} (hr : Room 0 (A.deeper (envOfC "square" (defScope st_square) s.heap.objs.size f cdv))) :
    QSs (cxOf CX0 P w K mg base ["places", "a", "b"] "square" (defScope st_square) f cdv A outer s H E0).nox (defBody st_square) (rd_square) := by
  have sc := sc_square
  exact (qss_one (qs_ret (qe_op od_add (qe_op od_pow (qe_op od_sub (qe_ix (qe_ix (qv 0) (qv 1)) qe_int) (qe_ix (qe_ix (qv 0) (qv 2)) qe_int)) qe_int) (qe_op od_pow (qe_op od_sub (qe_ix (qe_ix (qv 0) (qv 1)) qe_int) (qe_ix (qe_ix (qv 0) (qv 2)) qe_int)) qe_int))))

/-! ### led -/
abbrev st_led : Stmt := topS 2
theorem sc_led : FnScope ["places", "a", "b"] ["places", "a", "b"] (defScope st_led) := ⟨rfl, rfl, rfl, by decide +kernel, rfl, by decide +kernel, by decide +kernel⟩
theorem bd_led {P : Program} {w : World} {K : PySem.W.Frag} {mg : Str → Option Value} {base : Heap} (b : Bl mg)  {f : Addr} {cdv : Value} {A : Around} {outer : List Env} {s : Shared} {H : Hp} (hr : Room 0 (A.deeper (envOfC "led" (defScope st_led) s.heap.objs.size f cdv))) :
    QSs (cxOf CX0 P w K mg base ["places", "a", "b"] "led" (defScope st_led) f cdv A outer s H E0).nox (defBody st_led) (rd_led) := by
  have sc := sc_led
  exact (qss_one (qs_ret (qe_tup (qa_cons (qe_op od_sub (qe_ix (qe_ix (qv 0) (qv 2)) qe_int) (qe_ix (qe_ix (qv 0) (qv 1)) qe_int)) (qa_cons (qe_op od_sub (qe_ix (qe_ix (qv 0) (qv 2)) qe_int) (qe_ix (qe_ix (qv 0) (qv 1)) qe_int)) qa_nil)))))

/-! ### across -/
abbrev st_across : Stmt := topS 3
theorem sc_across : FnScope ["one", "other"] ["one", "other"] (defScope st_across) := ⟨rfl, rfl, rfl, by decide +kernel, rfl, by decide +kernel, by decide +kernel⟩
theorem bd_across {P : Program} {w : World} {K : PySem.W.Frag} {mg : Str → Option Value} {base : Heap} (b : Bl mg)  {f : Addr} {cdv : Value} {A : Around} {outer : List Env} {s : Shared} {H : Hp} (hr : Room 0 (A.deeper (envOfC "across" (defScope st_across) s.heap.objs.size f cdv))) :
    QSs (cxOf CX0 P w K mg base ["one", "other"] "across" (defScope st_across) f cdv A outer s H E0).nox (defBody st_across) (rd_across) := by
  have sc := sc_across
  exact (qss_one (qs_ret (qe_op od_sub (qe_op od_mul (qe_ix (qv 0) qe_int) (qe_ix (qv 1) qe_int)) (qe_op od_mul (qe_ix (qv 0) qe_int) (qe_ix (qv 1) qe_int)))))

/-! ### along -/
abbrev st_along : Stmt := topS 4
theorem sc_along : FnScope ["one", "other"] ["one", "other"] (defScope st_along) := ⟨rfl, rfl, rfl, by decide +kernel, rfl, by decide +kernel, by decide +kernel⟩
theorem bd_along {P : Program} {w : World} {K : PySem.W.Frag} {mg : Str → Option Value} {base : Heap} (b : Bl mg)  {f : Addr} {cdv : Value} {A : Around} {outer : List Env} {s : Shared} {H : Hp} (hr : Room 0 (A.deeper (envOfC "along" (defScope st_along) s.heap.objs.size f cdv))) :
    QSs (cxOf CX0 P w K mg base ["one", "other"] "along" (defScope st_along) f cdv A outer s H E0).nox (defBody st_along) (rd_along) := by
  have sc := sc_along
  exact (qss_one (qs_ret (qe_op od_add (qe_op od_mul (qe_ix (qv 0) qe_int) (qe_ix (qv 1) qe_int)) (qe_op od_mul (qe_ix (qv 0) qe_int) (qe_ix (qv 1) qe_int)))))

/-! ### first_apart -/
abbrev st_first_apart : Stmt := topS 5
theorem sc_first_apart : FnScope ["places", "some", "joint"] ["places"] (defScope st_first_apart) := ⟨rfl, rfl, rfl, by decide +kernel, rfl, by decide +kernel, by decide +kernel⟩
theorem bd_first_apart {P : Program} {w : World} {K : PySem.W.Frag} {mg : Str → Option Value} {base : Heap} (b : Bl mg)  {f : Addr} {cdv : Value} {A : Around} {outer : List Env} {s : Shared} {H : Hp} (hr : Room 0 (A.deeper (envOfC "first_apart" (defScope st_first_apart) s.heap.objs.size f cdv))) :
    QSs (cxOf CX0 P w K mg base ["places", "some", "joint"] "first_apart" (defScope st_first_apart) f cdv A outer s H E0).nox (defBody st_first_apart) (rd_first_apart) := by
  have sc := sc_first_apart
  exact (qss_cons (qs_setLc (i := 1) (mu := false) (own := [(Str.ofString "joint", 2)]) rfl sc.nd (qi_range1 (by rfl) b.range (qa_cons (qe_callB cd_len (by rfl) b.len (by decide +kernel) (qa_cons (qv 0) qa_nil)) qa_nil)) (blkOk_by (by kernel_rfl)) (fun _ _ _ _ _ => (qg_name (i := 2) sc.nd)) (fun _ _ _ _ _ => (qts_one (qt_cmp (od_ne (room64 hr)) (qe_ix (qv 0) (qv 2)) (qe_ix (qv 0) qe_int)))) (fun _ _ _ _ _ => (qv 2)))
    (qss_one (qs_ret (qe_if (qt_cmp (od_ne (room64 hr)) (qv 1) (qe_lst qa_nil)) (qe_ix (qv 1) qe_int) qe_non))))

/-! ### first_off -/
abbrev st_first_off : Stmt := topS 6
theorem sc_first_off : FnScope ["places", "joint", "base", "some", "other"] ["places", "joint"] (defScope st_first_off) := ⟨rfl, rfl, rfl, by decide +kernel, rfl, by decide +kernel, by decide +kernel⟩
theorem bd_first_off {P : Program} {w : World} {K : PySem.W.Frag} {mg : Str → Option Value} {base : Heap} (b : Bl mg) (h_led : Has P w K mg base 1 "led" sp_led) (h_across : Has P w K mg base 1 "across" sp_across) {f : Addr} {cdv : Value} {A : Around} {outer : List Env} {s : Shared} {H : Hp} (hr : Room 1 (A.deeper (envOfC "first_off" (defScope st_first_off) s.heap.objs.size f cdv))) :
    QSs (cxOf CX0 P w K mg base ["places", "joint", "base", "some", "other"] "first_off" (defScope st_first_off) f cdv A outer s H E0).nox (defBody st_first_off) (rd_first_off) := by
  have sc := sc_first_off
  exact (qss_cons (qs_set (i := 2) sc.nd (qe_own h_led (hr.mono (by decide)) (by rfl) (qa_cons (qv 0) (qa_cons qe_int (qa_cons (qv 1) qa_nil)))))
    (qss_cons (qs_setLc (i := 3) (mu := false) (own := [(Str.ofString "other", 4)]) rfl sc.nd (qi_range1 (by rfl) b.range (qa_cons (qe_callB cd_len (by rfl) b.len (by decide +kernel) (qa_cons (qv 0) qa_nil)) qa_nil)) (blkOk_by (by kernel_rfl)) (fun _ _ _ _ _ => (qg_name (i := 4) sc.nd)) (fun _ _ _ _ _ => (qts_one (qt_cmp (od_ne (room64 hr)) (qe_own h_across (hr.mono (by decide)) (by rfl) (qa_cons (qv 2) (qa_cons (qe_own h_led (hr.mono (by decide)) (by rfl) (qa_cons (qv 0) (qa_cons qe_int (qa_cons (qv 4) qa_nil)))) qa_nil))) qe_int))) (fun _ _ _ _ _ => (qv 4)))
    (qss_one (qs_ret (qe_if (qt_cmp (od_ne (room64 hr)) (qv 3) (qe_lst qa_nil)) (qe_ix (qv 3) qe_int) qe_non)))))

/-! ### greatest_divisor -/
abbrev st_greatest_divisor : Stmt := topS 8
theorem sc_greatest_divisor : FnScope ["numbers", "found", "number", "left"] ["numbers"] (defScope st_greatest_divisor) := ⟨rfl, rfl, rfl, by decide +kernel, rfl, by decide +kernel, by decide +kernel⟩
theorem bd_greatest_divisor {P : Program} {w : World} {K : PySem.W.Frag} {mg : Str → Option Value} {base : Heap} (b : Bl mg)  {f : Addr} {cdv : Value} {A : Around} {outer : List Env} {s : Shared} {H : Hp} (hr : Room 0 (A.deeper (envOfC "greatest_divisor" (defScope st_greatest_divisor) s.heap.objs.size f cdv))) :
    QSs (cxOf CX0 P w K mg base ["numbers", "found", "number", "left"] "greatest_divisor" (defScope st_greatest_divisor) f cdv A outer s H E0).nox (defBody st_greatest_divisor) (rd_greatest_divisor) := by
  have sc := sc_greatest_divisor
  exact (qss_cons (qs_set (i := 1) sc.nd qe_int)
    (qss_cons (qs_for PassesOwn.never rfl (qi_seq (qv 0)) (qg_name (i := 2) sc.nd) (qss_cons (qs_set (i := 3) sc.nd (qe_callB cd_abs (by rfl) b.abs (by decide +kernel) (qa_cons (qv 2) qa_nil)))
    (qss_one (qs_while PassesOwn.never (qt_cmp (od_ne (room64 hr)) (qv 3) qe_int) (qss_one (qs_par (i := 1) (j := 3) rfl sc.nd (qa_cons (qv 3) (qa_cons (qe_op od_mod (qv 1) (qv 3)) qa_nil))))))))
    (qss_one (qs_ret (qv 1)))))

/-! ### moved_part -/
abbrev st_moved_part : Stmt := topS 9
theorem sc_moved_part : FnScope ["move", "place", "c", "s", "mirror", "d", "x", "y", "p", "q"] ["move", "place"] (defScope st_moved_part) := ⟨rfl, rfl, rfl, by decide +kernel, rfl, by decide +kernel, by decide +kernel⟩
theorem bd_moved_part {P : Program} {w : World} {K : PySem.W.Frag} {mg : Str → Option Value} {base : Heap} (b : Bl mg)  {f : Addr} {cdv : Value} {A : Around} {outer : List Env} {s : Shared} {H : Hp} (hr : Room 0 (A.deeper (envOfC "moved_part" (defScope st_moved_part) s.heap.objs.size f cdv))) :
    QSs (cxOf CX0 P w K mg base ["move", "place", "c", "s", "mirror", "d", "x", "y", "p", "q"] "moved_part" (defScope st_moved_part) f cdv A outer s H E0).nox (defBody st_moved_part) (rd_moved_part) := by
  have sc := sc_moved_part
  exact (qss_cons (qs_asg (qv 0) (qg_tup rfl (qgs_cons (qg_name (i := 2) sc.nd) (qgs_cons (qg_name (i := 3) sc.nd) (qgs_cons (qg_name (i := 4) sc.nd) (qgs_cons (qg_name (i := 5) sc.nd) (qgs_cons (qg_name (i := 6) sc.nd) (qgs_cons (qg_name (i := 7) sc.nd) qgs_nil))))))))
    (qss_cons (qs_par (i := 8) (j := 9) rfl sc.nd (qa_cons (qe_ix (qv 1) qe_int) (qa_cons (qe_op od_mul (qv 4) (qe_ix (qv 1) qe_int)) qa_nil)))
    (qss_one (qs_ret (qe_tup (qa_cons (qe_op od_add (qe_op od_sub (qe_op od_mul (qv 2) (qv 8)) (qe_op od_mul (qv 3) (qv 9))) (qv 6)) (qa_cons (qe_op od_add (qe_op od_add (qe_op od_mul (qv 3) (qv 8)) (qe_op od_mul (qv 2) (qv 9))) (qv 7)) qa_nil)))))))

/-! ### first_elsewhere -/
abbrev st_first_elsewhere : Stmt := topS 10
theorem sc_first_elsewhere : FnScope ["move", "one", "other", "joint", "place"] ["move", "one", "other"] (defScope st_first_elsewhere) := ⟨rfl, rfl, rfl, by decide +kernel, rfl, by decide +kernel, by decide +kernel⟩
theorem bd_first_elsewhere {P : Program} {w : World} {K : PySem.W.Frag} {mg : Str → Option Value} {base : Heap} (b : Bl mg) (h_moved_part : Has P w K mg base 1 "moved_part" sp_moved_partW) {f : Addr} {cdv : Value} {A : Around} {outer : List Env} {s : Shared} {H : Hp} (hr : Room 1 (A.deeper (envOfC "first_elsewhere" (defScope st_first_elsewhere) s.heap.objs.size f cdv))) :
    QSs (cxOf CX0 P w K mg base ["move", "one", "other", "joint", "place"] "first_elsewhere" (defScope st_first_elsewhere) f cdv A outer s H E0).nox (defBody st_first_elsewhere) (rd_elsewhereW) := by
  have sc := sc_first_elsewhere
  exact (qss_cons (qs_for PassesOwn.never rfl (qi_enum (by rfl) b.enumerate (qa_cons (qv 1) qa_nil)) (qg_tup rfl (qgs_cons (qg_name (i := 3) sc.nd) (qgs_cons (qg_name (i := 4) sc.nd) qgs_nil))) (qss_one (qs_if (qt_cmp (od_ne (room64 hr)) (qe_own h_moved_part (hr.mono (by decide)) (by rfl) (qa_cons (qv 0) (qa_cons (qv 4) qa_nil))) (qe_tup (qa_cons (qe_op od_mul (qe_ix (qv 0) qe_int) (qe_ix (qe_ix (qv 2) (qv 3)) qe_int)) (qa_cons (qe_op od_mul (qe_ix (qv 0) qe_int) (qe_ix (qe_ix (qv 2) (qv 3)) qe_int)) qa_nil)))) (qss_one (qs_ret (qv 3))) qss_nil)))
    (qss_one (qs_ret qe_non)))

/-! ### does_take -/
abbrev st_does_take : Stmt := topS 11
theorem sc_does_take : FnScope ["move", "one", "other"] ["move", "one", "other"] (defScope st_does_take) := ⟨rfl, rfl, rfl, by decide +kernel, rfl, by decide +kernel, by decide +kernel⟩
theorem bd_does_take {P : Program} {w : World} {K : PySem.W.Frag} {mg : Str → Option Value} {base : Heap} (b : Bl mg) (h_first_elsewhere : Has P w K mg base 2 "first_elsewhere" sp_elsewhereW) {f : Addr} {cdv : Value} {A : Around} {outer : List Env} {s : Shared} {H : Hp} (hr : Room 2 (A.deeper (envOfC "does_take" (defScope st_does_take) s.heap.objs.size f cdv))) :
    QSs (cxOf CX0 P w K mg base ["move", "one", "other"] "does_take" (defScope st_does_take) f cdv A outer s H E0).nox (defBody st_does_take) (rd_does_takeW) := by
  have sc := sc_does_take
  exact (qss_one (qs_ret (qe_cmp od_is (qe_own h_first_elsewhere (hr.mono (by decide)) (by rfl) (qa_cons (qv 0) (qa_cons (qv 1) (qa_cons (qv 2) qa_nil)))) qe_non)))

/-! ### lowered -/
abbrev st_lowered : Stmt := topS 12
theorem sc_lowered : FnScope ["move", "c", "s", "mirror", "d", "x", "y", "by"] ["move"] (defScope st_lowered) := ⟨rfl, rfl, rfl, by decide +kernel, rfl, by decide +kernel, by decide +kernel⟩
theorem bd_lowered {P : Program} {w : World} {K : PySem.W.Frag} {mg : Str → Option Value} {base : Heap} (b : Bl mg) (h_greatest_divisor : Has P w K mg base 1 "greatest_divisor" sp_gdL) {f : Addr} {cdv : Value} {A : Around} {outer : List Env} {s : Shared} {H : Hp} (hr : Room 1 (A.deeper (envOfC "lowered" (defScope st_lowered) s.heap.objs.size f cdv))) :
    QSs (cxOf CX0 P w K mg base ["move", "c", "s", "mirror", "d", "x", "y", "by"] "lowered" (defScope st_lowered) f cdv A outer s H E0).nox (defBody st_lowered) (rd_lowered) := by
  have sc := sc_lowered
  exact (qss_cons (qs_asg (qv 0) (qg_tup rfl (qgs_cons (qg_name (i := 1) sc.nd) (qgs_cons (qg_name (i := 2) sc.nd) (qgs_cons (qg_name (i := 3) sc.nd) (qgs_cons (qg_name (i := 4) sc.nd) (qgs_cons (qg_name (i := 5) sc.nd) (qgs_cons (qg_name (i := 6) sc.nd) qgs_nil))))))))
    (qss_cons (qs_set (i := 7) sc.nd (qe_own h_greatest_divisor (hr.mono (by decide)) (by rfl) (qa_cons (qe_tup (qa_cons (qv 1) (qa_cons (qv 2) (qa_cons (qv 4) (qa_cons (qv 5) (qa_cons (qv 6) qa_nil)))))) qa_nil)))
    (qss_one (qs_ret (qe_tup (qa_cons (qe_op od_fdiv (qv 1) (qv 7)) (qa_cons (qe_op od_fdiv (qv 2) (qv 7)) (qa_cons (qv 3) (qa_cons (qe_op od_fdiv (qv 4) (qv 7)) (qa_cons (qe_op od_fdiv (qv 5) (qv 7)) (qa_cons (qe_op od_fdiv (qv 6) (qv 7)) qa_nil)))))))))))

/-! ### turn_of -/
abbrev st_turn_of : Stmt := topS 13
theorem sc_turn_of : FnScope ["one", "other", "joint", "mirror", "v", "w", "c", "s", "d", "here"] ["one", "other", "joint", "mirror"] (defScope st_turn_of) := ⟨rfl, rfl, rfl, by decide +kernel, rfl, by decide +kernel, by decide +kernel⟩
theorem bd_turn_of {P : Program} {w : World} {K : PySem.W.Frag} {mg : Str → Option Value} {base : Heap} (b : Bl mg) (h_led : Has P w K mg base 1 "led" sp_led) (h_across : Has P w K mg base 1 "across" sp_across) (h_along : Has P w K mg base 1 "along" sp_along) (h_moved_part : Has P w K mg base 1 "moved_part" sp_moved_partW) (h_lowered : Has P w K mg base 2 "lowered" sp_lowered) {f : Addr} {cdv : Value} {A : Around} {outer : List Env} {s : Shared} {H : Hp} (hr : Room 2 (A.deeper (envOfC "turn_of" (defScope st_turn_of) s.heap.objs.size f cdv))) :
    QSs (cxOf CX0 P w K mg base ["one", "other", "joint", "mirror", "v", "w", "c", "s", "d", "here"] "turn_of" (defScope st_turn_of) f cdv A outer s H E0).nox (defBody st_turn_of) (rd_turn_of) := by
  have sc := sc_turn_of
  exact (qss_cons (qs_par (i := 4) (j := 5) rfl sc.nd (qa_cons (qe_own h_led (hr.mono (by decide)) (by rfl) (qa_cons (qv 0) (qa_cons qe_int (qa_cons (qv 2) qa_nil)))) (qa_cons (qe_own h_led (hr.mono (by decide)) (by rfl) (qa_cons (qv 1) (qa_cons qe_int (qa_cons (qv 2) qa_nil)))) qa_nil)))
    (qss_cons (qs_set (i := 4) sc.nd (qe_tup (qa_cons (qe_ix (qv 4) qe_int) (qa_cons (qe_op od_mul (qv 3) (qe_ix (qv 4) qe_int)) qa_nil))))
    (qss_cons (qs_par3 (i := 6) (j := 7) (l := 8) rfl sc.nd (qa_cons (qe_own h_along (hr.mono (by decide)) (by rfl) (qa_cons (qv 4) (qa_cons (qv 5) qa_nil))) (qa_cons (qe_own h_across (hr.mono (by decide)) (by rfl) (qa_cons (qv 4) (qa_cons (qv 5) qa_nil))) (qa_cons (qe_own h_along (hr.mono (by decide)) (by rfl) (qa_cons (qv 4) (qa_cons (qv 4) qa_nil))) qa_nil))))
    (qss_cons (qs_set (i := 9) sc.nd (qe_own h_moved_part (hr.mono (by decide)) (by rfl) (qa_cons (qe_tup (qa_cons (qv 6) (qa_cons (qv 7) (qa_cons (qv 3) (qa_cons (qv 8) (qa_cons qe_int (qa_cons qe_int qa_nil))))))) (qa_cons (qe_ix (qv 0) qe_int) qa_nil))))
    (qss_one (qs_ret (qe_own h_lowered (hr.mono (by decide)) (by rfl) (qa_cons (qe_tup (qa_cons (qv 6) (qa_cons (qv 7) (qa_cons (qv 3) (qa_cons (qv 8) (qa_cons (qe_op od_sub (qe_op od_mul (qv 8) (qe_ix (qe_ix (qv 1) qe_int) qe_int)) (qe_ix (qv 9) qe_int)) (qa_cons (qe_op od_sub (qe_op od_mul (qv 8) (qe_ix (qe_ix (qv 1) qe_int) qe_int)) (qe_ix (qv 9) qe_int)) qa_nil))))))) qa_nil))))))))

/-! ### move_between -/
abbrev st_move_between : Stmt := topS 14
theorem sc_move_between : FnScope ["one", "other", "joint", "move", "off"] ["one", "other"] (defScope st_move_between) := ⟨rfl, rfl, rfl, by decide +kernel, rfl, by decide +kernel, by decide +kernel⟩
theorem bd_move_between {P : Program} {w : World} {K : PySem.W.Frag} {mg : Str → Option Value} {base : Heap} (b : Bl mg) (h_first_apart : Has P w K mg base 1 "first_apart" sp_apartF) (h_first_off : Has P w K mg base 2 "first_off" sp_offF) (h_does_take : Has P w K mg base 3 "does_take" sp_does_takeW) (h_turn_of : Has P w K mg base 3 "turn_of" sp_turn_of) {f : Addr} {cdv : Value} {A : Around} {outer : List Env} {s : Shared} {H : Hp} (hr : Room 3 (A.deeper (envOfC "move_between" (defScope st_move_between) s.heap.objs.size f cdv))) :
    QSs (cxOf CX0 P w K mg base ["one", "other", "joint", "move", "off"] "move_between" (defScope st_move_between) f cdv A outer s H E0).nox (defBody st_move_between) (rd_move_between) := by
  have sc := sc_move_between
  exact (qss_cons (qs_set (i := 2) sc.nd (qe_own h_first_apart (hr.mono (by decide)) (by rfl) (qa_cons (qv 0) qa_nil)))
    (qss_cons (qs_if (qt_cmp od_is (qv 2) qe_non) (qss_one (qs_ret (qe_tup (qa_cons qe_int (qa_cons qe_int (qa_cons qe_int (qa_cons qe_int (qa_cons (qe_op od_sub (qe_ix (qe_ix (qv 1) qe_int) qe_int) (qe_ix (qe_ix (qv 0) qe_int) qe_int)) (qa_cons (qe_op od_sub (qe_ix (qe_ix (qv 1) qe_int) qe_int) (qe_ix (qe_ix (qv 0) qe_int) qe_int)) qa_nil))))))))) qss_nil)
    (qss_cons (qs_set (i := 3) sc.nd (qe_own h_turn_of (hr.mono (by decide)) (by rfl) (qa_cons (qv 0) (qa_cons (qv 1) (qa_cons (qv 2) (qa_cons qe_int qa_nil))))))
    (qss_cons (qs_set (i := 4) sc.nd (qe_own h_first_off (hr.mono (by decide)) (by rfl) (qa_cons (qv 0) (qa_cons (qv 2) qa_nil))))
    (qss_cons (qs_if ((qw_or (qt_cmp od_is (qv 4) qe_non) (qw_or1 (qt_val (qe_own h_does_take (hr.mono (by decide)) (by rfl) (qa_cons (qv 3) (qa_cons (qv 0) (qa_cons (qv 1) qa_nil)))))))).qt (qss_one (qs_ret (qv 3))) qss_nil)
    (qss_one (qs_ret (qe_own h_turn_of (hr.mono (by decide)) (by rfl) (qa_cons (qv 0) (qa_cons (qv 1) (qa_cons (qv 2) (qa_cons (qe_un ud_neg qe_int) qa_nil))))))))))))

/-! ### unlike_pair -/
abbrev st_unlike_pair : Stmt := topS 15
theorem sc_unlike_pair : FnScope ["one", "other", "a", "b"] ["one", "other"] (defScope st_unlike_pair) := ⟨rfl, rfl, rfl, by decide +kernel, rfl, by decide +kernel, by decide +kernel⟩
theorem bd_unlike_pair {P : Program} {w : World} {K : PySem.W.Frag} {mg : Str → Option Value} {base : Heap} (b : Bl mg) (h_square : Has P w K mg base 1 "square" sp_squareW) {f : Addr} {cdv : Value} {A : Around} {outer : List Env} {s : Shared} {H : Hp} (hr : Room 1 (A.deeper (envOfC "unlike_pair" (defScope st_unlike_pair) s.heap.objs.size f cdv))) :
    QSs (cxOf CX0 P w K mg base ["one", "other", "a", "b"] "unlike_pair" (defScope st_unlike_pair) f cdv A outer s H E0).nox (defBody st_unlike_pair) (rd_unlike_pair) := by
  have sc := sc_unlike_pair
  exact (qss_cons (qs_for PassesOwn.never rfl (qi_range1 (by rfl) b.range (qa_cons (qe_callB cd_len (by rfl) b.len (by decide +kernel) (qa_cons (qv 0) qa_nil)) qa_nil)) (qg_name (i := 2) sc.nd) (qss_one (qs_for PassesOwn.never rfl (qi_range2 (by rfl) b.range (qa_cons (qe_op od_add (qv 2) qe_int) (qa_cons (qe_callB cd_len (by rfl) b.len (by decide +kernel) (qa_cons (qv 0) qa_nil)) qa_nil))) (qg_name (i := 3) sc.nd) (qss_one (qs_if (qt_cmp (od_ne (room64 hr)) (qe_own h_square (hr.mono (by decide)) (by rfl) (qa_cons (qv 0) (qa_cons (qv 2) (qa_cons (qv 3) qa_nil)))) (qe_own h_square (hr.mono (by decide)) (by rfl) (qa_cons (qv 1) (qa_cons (qv 2) (qa_cons (qv 3) qa_nil))))) (qss_one (qs_ret (qe_tup (qa_cons (qv 2) (qa_cons (qv 3) qa_nil))))) qss_nil)))))
    (qss_one (qs_ret qe_non)))

/-! ### move_paper -/
abbrev st_move_paper : Stmt := topS 16
theorem sc_move_paper : FnScope ["one", "other", "pair"] ["one", "other"] (defScope st_move_paper) := ⟨rfl, rfl, rfl, by decide +kernel, rfl, by decide +kernel, by decide +kernel⟩
theorem bd_move_paper {P : Program} {w : World} {K : PySem.W.Frag} {mg : Str → Option Value} {base : Heap} (b : Bl mg) (h_move_between : Has P w K mg base 4 "move_between" sp_move_between) (h_unlike_pair : Has P w K mg base 2 "unlike_pair" sp_unlike_pair) {f : Addr} {cdv : Value} {A : Around} {outer : List Env} {s : Shared} {H : Hp} (hr : Room 4 (A.deeper (envOfC "move_paper" (defScope st_move_paper) s.heap.objs.size f cdv))) :
    QSs (cxOf CX0 P w K mg base ["one", "other", "pair"] "move_paper" (defScope st_move_paper) f cdv A outer s H E0).nox (defBody st_move_paper) (rd_move_paper) := by
  have sc := sc_move_paper
  exact (qss_cons (qs_set (i := 2) sc.nd (qe_own h_unlike_pair (hr.mono (by decide)) (by rfl) (qa_cons (qv 0) (qa_cons (qv 1) qa_nil))))
    (qss_one (qs_ret (qe_if (qt_cmp od_isnot (qv 2) qe_non) (qe_tup (qa_cons qe_str (qa_star (qv 2) qa_nil))) (qe_tup (qa_cons qe_str (qa_cons (qe_own h_move_between (hr.mono (by decide)) (by rfl) (qa_cons (qv 0) (qa_cons (qv 1) qa_nil))) qa_nil)))))))

/-! ### _law_source -/
abbrev st_law_source : Stmt := topS 18
theorem sc_law_source : FnScope ["script", "mixed", "cell"] ["script"] (defScope st_law_source) := ⟨rfl, rfl, rfl, by decide +kernel, rfl, by decide +kernel, by decide +kernel⟩
theorem bd_law_source {P : Program} {w : World} {K : PySem.W.Frag} {mg : Str → Option Value} {base : Heap} (b : Bl mg)  {f : Addr} {cdv : Value} {A : Around} {outer : List Env} {s : Shared} {H : Hp} (hr : Room 0 (A.deeper (envOfC "_law_source" (defScope st_law_source) s.heap.objs.size f cdv))) :
    QSs (cxOf CX0 P w K mg base ["script", "mixed", "cell"] "_law_source" (defScope st_law_source) f cdv A outer s H E0).nox (defBody st_law_source) (rd_law_source K) := by
  have sc := sc_law_source
  exact (qss_cons (qs_set (i := 1) sc.nd qe_int)
    (qss_cons (qs_for PassesOwn.never rfl (qi_scr (qv 0)) (qg_name (i := 2) sc.nd) (qss_one (qs_set (i := 1) sc.nd (qe_op od_mod (qe_callTy cd_int (by rfl) b.int (by decide +kernel) (qa_cons (qe_op od_add (qe_op od_add (qe_op od_mul (qv 1) qe_int) (qe_op od_mul (qv 2) qe_int)) qe_int) qa_nil)) qe_int))))
    (qss_one (qs_ret (qe_disp (qps_cons qe_str (qe_rev (mu := true) (qe_lc (mu := false) (own := [(Str.ofString "cell", 2)]) rfl sc.nd (qi_scr (qv 0)) (blkOk_by (by kernel_rfl)) (fun _ _ _ _ _ => (qg_name (i := 2) sc.nd)) (fun _ _ _ _ _ => qts_nil) (fun _ _ _ _ _ => (qe_callB cd_abs (by rfl) b.abs (by decide +kernel) (qa_cons (qv 2) qa_nil))))) (qps_cons qe_str qe_int (qps_cons qe_str (qv 1) (qps_cons qe_str qe_int qps_nil)))))))))

/-! ### _law_pick -/
abbrev st_law_pick : Stmt := topS 19
theorem sc_law_pick : FnScope ["source", "many", "left", "mixed"] ["source", "many"] (defScope st_law_pick) := ⟨rfl, rfl, rfl, by decide +kernel, rfl, by decide +kernel, by decide +kernel⟩
theorem bd_law_pick {P : Program} {w : World} {K : PySem.W.Frag} {mg : Str → Option Value} {base : Heap} (b : Bl mg)  {f : Addr} {cdv : Value} {A : Around} {outer : List Env} {s : Shared} {H : Hp} (hr : Room 0 (A.deeper (envOfC "_law_pick" (defScope st_law_pick) s.heap.objs.size f cdv))) :
    QSs (cxOf CX0 P w K mg base ["source", "many", "left", "mixed"] "_law_pick" (defScope st_law_pick) f cdv A outer s H E0).nox (defBody st_law_pick) (rd_law_pick) := by
  have sc := sc_law_pick
  exact (qss_cons (qs_while PassesOwn.never ((qw_and (qt_cmp od_gt (qv 1) qe_int) (qw_and (qt_cmp od_lt (qe_dget (hu_of hr) (qv 0) qe_str) qe_int) (qw_and1 (qt_cmp od_gt (qe_callB cd_len (by rfl) b.len (by decide +kernel) (qa_cons (qe_dget (hu_of hr) (qv 0) qe_str) qa_nil)) qe_int))))).qt (qss_one (qs_store (hu_of hr) (qv 0) qe_str (qe_bm0 PySem.F.plainAttrs_list PySem.F.slot_list_pop PySem.F.type_list_pop md_pop (qe_dget (hu_of hr) (qv 0) qe_str)))))
    (qss_cons (qs_set (i := 2) sc.nd (qe_dget (hu_of hr) (qv 0) qe_str))
    (qss_cons (qs_if ((qw_or (qt_cmp od_lt (qv 1) qe_int) (qw_or1 (qt_cmp od_gt (qv 2) qe_int)))).qt (qss_cons (qs_store (hu_of hr) (qv 0) qe_str (qe_op od_fdiv (qv 2) (qe_callB (cd_max2 rfl) (by rfl) b.max (by decide +kernel) (qa_cons qe_int (qa_cons (qv 1) qa_nil)))))
    (qss_one (qs_ret (qe_op od_mod (qe_callTy cd_int (by rfl) b.int (by decide +kernel) (qa_cons (qv 2) qa_nil)) (qe_callB (cd_max2 rfl) (by rfl) b.max (by decide +kernel) (qa_cons qe_int (qa_cons (qv 1) qa_nil))))))) qss_nil)
    (qss_cons (qs_store (hu_of hr) (qv 0) qe_str (qe_op od_add (qe_dget (hu_of hr) (qv 0) qe_str) qe_int))
    (qss_cons (qs_set (i := 3) sc.nd (qe_op od_mod (qe_callTy cd_int (by rfl) b.int (by decide +kernel) (qa_cons (qe_op od_add (qe_dget (hu_of hr) (qv 0) qe_str) (qe_op od_mul (qe_dget (hu_of hr) (qv 0) qe_str) qe_int)) qa_nil)) qe_int))
    (qss_cons (qs_set (i := 3) sc.nd (qe_op od_mod (qe_callTy cd_int (by rfl) b.int (by decide +kernel) (qa_cons (qe_op od_add (qe_op od_mul (qv 3) (qv 3)) (qe_op od_mul (qe_dget (hu_of hr) (qv 0) qe_str) qe_int)) qa_nil)) qe_int))
    (qss_cons (qs_store (hu_of hr) (qv 0) qe_str (qv 3))
    (qss_one (qs_ret (qe_op od_mod (qe_callTy cd_int (by rfl) b.int (by decide +kernel) (qa_cons (qe_op od_fdiv (qv 3) qe_int) qa_nil)) (qv 1)))))))))))

/-! ### _law_of -/
abbrev st_law_of : Stmt := topS 20
theorem sc_law_of : FnScope ["source", "some"] ["source", "some"] (defScope st_law_of) := ⟨rfl, rfl, rfl, by decide +kernel, rfl, by decide +kernel, by decide +kernel⟩
theorem bd_law_of {P : Program} {w : World} {K : PySem.W.Frag} {mg : Str → Option Value} {base : Heap} (b : Bl mg) (h_law_pick : Has P w K mg base 1 "_law_pick" sp_law_pick) {f : Addr} {cdv : Value} {A : Around} {outer : List Env} {s : Shared} {H : Hp} (hr : Room 1 (A.deeper (envOfC "_law_of" (defScope st_law_of) s.heap.objs.size f cdv))) :
    QSs (cxOf CX0 P w K mg base ["source", "some"] "_law_of" (defScope st_law_of) f cdv A outer s H E0).nox (defBody st_law_of) (rd_law_of) := by
  have sc := sc_law_of
  exact (qss_one (qs_ret (qe_ix (qv 1) (qe_own h_law_pick (hr.mono (by decide)) (by rfl) (qa_cons (qv 0) (qa_cons (qe_callB cd_len (by rfl) b.len (by decide +kernel) (qa_cons (qv 1) qa_nil)) qa_nil))))))

/-! ### _law_pairs -/
abbrev st_law_pairs : Stmt := topS 22
theorem sc_law_pairs : FnScope ["n", "found", "a", "b"] ["n"] (defScope st_law_pairs) := ⟨rfl, rfl, rfl, by decide +kernel, rfl, by decide +kernel, by decide +kernel⟩
theorem bd_law_pairs {P : Program} {w : World} {K : PySem.W.Frag} {mg : Str → Option Value} {base : Heap} (b : Bl mg)  {f : Addr} {cdv : Value} {A : Around} {outer : List Env} {s : Shared} {H : Hp} (hr : Room 0 (A.deeper (envOfC "_law_pairs" (defScope st_law_pairs) s.heap.objs.size f cdv))) :
    QSs (cxOf CX0 P w K mg base ["n", "found", "a", "b"] "_law_pairs" (defScope st_law_pairs) f cdv A outer s H E0).nox (defBody st_law_pairs) (rd_law_pairs) := by
  have sc := sc_law_pairs
  exact (qss_cons (qs_set (i := 1) sc.nd (qe_lst qa_nil))
    (qss_cons (qs_for PassesOwn.never rfl (qi_range1 (by rfl) b.range (qa_cons (qv 0) qa_nil)) (qg_name (i := 2) sc.nd) (qss_one (qs_set (i := 1) sc.nd (qe_op od_add (qv 1) (qe_lc (mu := false) (own := [(Str.ofString "b", 3)]) rfl sc.nd (qi_range2 (by rfl) b.range (qa_cons (qe_op od_add (qv 2) qe_int) (qa_cons (qv 0) qa_nil))) (blkOk_by (by kernel_rfl)) (fun _ _ _ _ _ => (qg_name (i := 3) sc.nd)) (fun _ _ _ _ _ => qts_nil) (fun _ _ _ _ _ => (qe_tup (qa_cons (qv 2) (qa_cons (qv 3) qa_nil)))))))))
    (qss_one (qs_ret (qv 1)))))

/-! ### _law_places -/
abbrev st_law_places : Stmt := topS 24
theorem sc_law_places : FnScope ["source", "n", "wide", "way", "found", "joint", "x", "y"] ["source", "n", "wide"] (defScope st_law_places) := ⟨rfl, rfl, rfl, by decide +kernel, rfl, by decide +kernel, by decide +kernel⟩
theorem bd_law_places {P : Program} {w : World} {K : PySem.W.Frag} {mg : Str → Option Value} {base : Heap} (b : Bl mg) (h_law_pick : Has P w K mg base 1 "_law_pick" sp_law_pick) {f : Addr} {cdv : Value} {A : Around} {outer : List Env} {s : Shared} {H : Hp} (hr : Room 1 (A.deeper (envOfC "_law_places" (defScope st_law_places) s.heap.objs.size f cdv))) :
    QSs (cxOf CX0 P w K mg base ["source", "n", "wide", "way", "found", "joint", "x", "y"] "_law_places" (defScope st_law_places) f cdv A outer s H E0).nox (defBody st_law_places) (rd_law_places) := by
  have sc := sc_law_places
  exact (qss_cons (qs_par (i := 3) (j := 4) rfl sc.nd (qa_cons (qe_own h_law_pick (hr.mono (by decide)) (by rfl) (qa_cons (qv 0) (qa_cons qe_int qa_nil))) (qa_cons (qe_lstM qa_nil) qa_nil)))
    (qss_cons (qs_for PassesOwn.never rfl (qi_range1 (by rfl) b.range (qa_cons (qv 1) qa_nil)) (qg_name (i := 5) sc.nd) (qss_cons (qs_par (i := 6) (j := 7) rfl sc.nd (qa_cons (qe_op od_sub (qe_own h_law_pick (hr.mono (by decide)) (by rfl) (qa_cons (qv 0) (qa_cons (qe_op od_add (qe_op od_mul qe_int (qv 2)) qe_int) qa_nil))) (qv 2)) (qa_cons (qe_op od_sub (qe_own h_law_pick (hr.mono (by decide)) (by rfl) (qa_cons (qv 0) (qa_cons (qe_op od_add (qe_op od_mul qe_int (qv 2)) qe_int) qa_nil))) (qv 2)) qa_nil)))
    (qss_one (qs_expr (qe_bm PySem.F.plainAttrs_list PySem.F.slot_list_append PySem.F.type_list_append md_append (qv 4) (qa_cons (qe_if (qt_cmp (od_eq (room64 hr)) (qv 3) qe_int) (qe_tup (qa_cons (qv 6) (qa_cons (qe_op od_sub (qe_op od_mul qe_int (qv 6)) qe_int) qa_nil))) (qe_tup (qa_cons (qv 6) (qa_cons (qv 7) qa_nil)))) qa_nil))))))
    (qss_cons (qs_if (qt_cmp (od_eq (room64 hr)) (qv 3) qe_int) (qss_one (qs_store (hu_of hr) (qv 4) (qe_own h_law_pick (hr.mono (by decide)) (by rfl) (qa_cons (qv 0) (qa_cons (qv 1) qa_nil))) (qe_ix (qv 4) (qe_own h_law_pick (hr.mono (by decide)) (by rfl) (qa_cons (qv 0) (qa_cons (qv 1) qa_nil)))))) qss_nil)
    (qss_one (qs_ret (qe_if (qt_cmp (od_ne (room64 hr)) (qv 3) qe_int) (qe_callTy cd_tuple (by rfl) b.tuple (by decide +kernel) (qa_cons (qv 4) qa_nil)) (qe_callTy cd_tuple (by rfl) b.tuple (by decide +kernel) (qa_cons (qe_op od_mul (qe_lst (qa_cons (qe_tup (qa_cons qe_int (qa_cons (qe_un ud_neg qe_int) qa_nil))) qa_nil)) (qv 1)) qa_nil))))))))

/-! ### _law_square -/
abbrev st_law_square : Stmt := topS 25
theorem sc_law_square : FnScope ["places", "a", "b", "x", "y"] ["places", "a", "b"] (defScope st_law_square) := ⟨rfl, rfl, rfl, by decide +kernel, rfl, by decide +kernel, by decide +kernel⟩
theorem bd_law_square {P : Program} {w : World} {K : PySem.W.Frag} {mg : Str → Option Value} {base : Heap} (b : Bl mg)  {f : Addr} {cdv : Value} {A : Around} {outer : List Env} {s : Shared} {H : Hp} (hr : Room 0 (A.deeper (envOfC "_law_square" (defScope st_law_square) s.heap.objs.size f cdv))) :
    QSs (cxOf CX0 P w K mg base ["places", "a", "b", "x", "y"] "_law_square" (defScope st_law_square) f cdv A outer s H E0).nox (defBody st_law_square) (rd_law_square) := by
  have sc := sc_law_square
  exact (qss_cons (qs_par (i := 3) (j := 4) rfl sc.nd (qa_cons (qe_op od_sub (qe_ix (qe_ix (qv 0) (qv 1)) qe_int) (qe_ix (qe_ix (qv 0) (qv 2)) qe_int)) (qa_cons (qe_op od_sub (qe_ix (qe_ix (qv 0) (qv 1)) qe_int) (qe_ix (qe_ix (qv 0) (qv 2)) qe_int)) qa_nil)))
    (qss_one (qs_ret (qe_op od_add (qe_op od_mul (qv 3) (qv 3)) (qe_op od_mul (qv 4) (qv 4))))))

/-! ### _law_unlike -/
abbrev st_law_unlike : Stmt := topS 26
theorem sc_law_unlike : FnScope ["one", "other", "some", "a", "b"] ["one", "other"] (defScope st_law_unlike) := ⟨rfl, rfl, rfl, by decide +kernel, rfl, by decide +kernel, by decide +kernel⟩
theorem bd_law_unlike {P : Program} {w : World} {K : PySem.W.Frag} {mg : Str → Option Value} {base : Heap} (b : Bl mg) (h_law_pairs : Has P w K mg base 1 "_law_pairs" sp_law_pairs) (h_law_square : Has P w K mg base 1 "_law_square" sp_squareW) {f : Addr} {cdv : Value} {A : Around} {outer : List Env} {s : Shared} {H : Hp} (hr : Room 1 (A.deeper (envOfC "_law_unlike" (defScope st_law_unlike) s.heap.objs.size f cdv))) :
    QSs (cxOf CX0 P w K mg base ["one", "other", "some", "a", "b"] "_law_unlike" (defScope st_law_unlike) f cdv A outer s H E0).nox (defBody st_law_unlike) (rd_law_unlike) := by
  have sc := sc_law_unlike
  exact (qss_cons (qs_setLc (i := 2) (mu := false) (own := [(Str.ofString "a", 3), (Str.ofString "b", 4)]) rfl sc.nd (qi_seq (qe_own h_law_pairs (hr.mono (by decide)) (by rfl) (qa_cons (qe_callB cd_len (by rfl) b.len (by decide +kernel) (qa_cons (qv 0) qa_nil)) qa_nil))) (blkOk_by (by kernel_rfl)) (fun _ _ _ _ _ => (qg_tup rfl (qgs_cons (qg_name (i := 3) sc.nd) (qgs_cons (qg_name (i := 4) sc.nd) qgs_nil)))) (fun _ _ _ _ _ => (qts_one (qt_cmp (od_ne (room64 hr)) (qe_own h_law_square (hr.mono (by decide)) (by rfl) (qa_cons (qv 0) (qa_cons (qv 3) (qa_cons (qv 4) qa_nil)))) (qe_own h_law_square (hr.mono (by decide)) (by rfl) (qa_cons (qv 1) (qa_cons (qv 3) (qa_cons (qv 4) qa_nil))))))) (fun _ _ _ _ _ => (qe_tup (qa_cons (qv 3) (qa_cons (qv 4) qa_nil)))))
    (qss_one (qs_ret (qe_if (qt_cmp (od_ne (room64 hr)) (qv 2) (qe_lst qa_nil)) (qe_ix (qv 2) qe_int) qe_non))))

/-! ### _law_divisor -/
abbrev st_law_divisor : Stmt := topS 27
theorem sc_law_divisor : FnScope ["numbers", "found", "one", "left"] ["numbers"] (defScope st_law_divisor) := ⟨rfl, rfl, rfl, by decide +kernel, rfl, by decide +kernel, by decide +kernel⟩
theorem bd_law_divisor {P : Program} {w : World} {K : PySem.W.Frag} {mg : Str → Option Value} {base : Heap} (b : Bl mg)  {f : Addr} {cdv : Value} {A : Around} {outer : List Env} {s : Shared} {H : Hp} (hr : Room 0 (A.deeper (envOfC "_law_divisor" (defScope st_law_divisor) s.heap.objs.size f cdv))) :
    QSs (cxOf CX0 P w K mg base ["numbers", "found", "one", "left"] "_law_divisor" (defScope st_law_divisor) f cdv A outer s H E0).nox (defBody st_law_divisor) (rd_law_divisorL) := by
  have sc := sc_law_divisor
  exact (qss_cons (qs_set (i := 1) sc.nd qe_int)
    (qss_cons (qs_for PassesOwn.never rfl (qi_seq (qv 0)) (qg_name (i := 2) sc.nd) (qss_cons (qs_set (i := 3) sc.nd (qe_callB cd_abs (by rfl) b.abs (by decide +kernel) (qa_cons (qv 2) qa_nil)))
    (qss_one (qs_while PassesOwn.never (qt_cmp (od_ne (room64 hr)) (qv 3) qe_int) (qss_one (qs_par (i := 1) (j := 3) rfl sc.nd (qa_cons (qv 3) (qa_cons (qe_op od_mod (qe_callTy cd_int (by rfl) b.int (by decide +kernel) (qa_cons (qv 1) qa_nil)) (qv 3)) qa_nil))))))))
    (qss_one (qs_ret (qv 1)))))

/-! ### _law_is_right -/
abbrev st_law_is_right : Stmt := topS 28
theorem sc_law_is_right : FnScope ["move", "one", "other", "c", "s", "mirror", "d", "x", "y", "p", "q", "late", "wide"] ["move", "one", "other"] (defScope st_law_is_right) := ⟨rfl, rfl, rfl, by decide +kernel, rfl, by decide +kernel, by decide +kernel⟩
theorem bd_law_is_right {P : Program} {w : World} {K : PySem.W.Frag} {mg : Str → Option Value} {base : Heap} (b : Bl mg) (h_law_divisor : Has P w K mg base 1 "_law_divisor" sp_gdL) {f : Addr} {cdv : Value} {A : Around} {outer : List Env} {s : Shared} {H : Hp} (hr : Room 1 (A.deeper (envOfC "_law_is_right" (defScope st_law_is_right) s.heap.objs.size f cdv))) :
    QSs (cxOf CX0 P w K mg base ["move", "one", "other", "c", "s", "mirror", "d", "x", "y", "p", "q", "late", "wide"] "_law_is_right" (defScope st_law_is_right) f cdv A outer s H E0).nox (defBody st_law_is_right) (rd_law_is_right) := by
  have sc := sc_law_is_right
  exact (qss_cons (qs_if ((qw_or (qt_not (qt_val (qe_callB cd_isi (by rfl) b.isinstance (by decide +kernel) (qa_cons (qv 0) (qa_cons (qe_bltn (by rfl) b.tuple (by decide +kernel) (v := .ty "tuple") rfl (d := .ty "tuple") (fun _ => rfl)) qa_nil))))) (qw_or1 (qt_cmp (od_ne (room64 hr)) (qe_callB cd_len (by rfl) b.len (by decide +kernel) (qa_cons (qv 0) qa_nil)) qe_int)))).qt (qss_one (qs_ret qe_bl)) qss_nil)
    (qss_cons (qs_asg (qv 0) (qg_tup rfl (qgs_cons (qg_name (i := 3) sc.nd) (qgs_cons (qg_name (i := 4) sc.nd) (qgs_cons (qg_name (i := 5) sc.nd) (qgs_cons (qg_name (i := 6) sc.nd) (qgs_cons (qg_name (i := 7) sc.nd) (qgs_cons (qg_name (i := 8) sc.nd) qgs_nil))))))))
    (qss_cons (qs_if ((qw_or (qt_cmp (od_ne (room64 hr)) (qe_op od_add (qe_op od_mul (qv 3) (qv 3)) (qe_op od_mul (qv 4) (qv 4))) (qe_op od_mul (qv 6) (qv 6))) (qw_or (qt_cmp od_lt (qv 6) qe_int) (qw_or1 (qt_cmp (od_notin (room65 hr)) (qv 5) (qe_tup (qa_cons qe_int (qa_cons (qe_un ud_neg qe_int) qa_nil)))))))).qt (qss_one (qs_ret qe_bl)) qss_nil)
    (qss_cons (qs_if (qt_cmp (od_ne (room64 hr)) (qe_own h_law_divisor (hr.mono (by decide)) (by rfl) (qa_cons (qe_tup (qa_cons (qv 3) (qa_cons (qv 4) (qa_cons (qv 6) (qa_cons (qv 7) (qa_cons (qv 8) qa_nil)))))) qa_nil)) qe_int) (qss_one (qs_ret qe_bl)) qss_nil)
    (qss_cons (qs_for PassesOwn.never rfl (qi_zip (by rfl) b.zip (qa_cons (qv 1) (qa_cons (qv 2) qa_nil))) (qg_tup rfl (qgs_cons (qg_tup rfl (qgs_cons (qg_name (i := 9) sc.nd) (qgs_cons (qg_name (i := 10) sc.nd) qgs_nil))) (qgs_cons (qg_tup rfl (qgs_cons (qg_name (i := 11) sc.nd) (qgs_cons (qg_name (i := 12) sc.nd) qgs_nil))) qgs_nil))) (qss_one (qs_if (qt_cmp (od_ne (room64 hr)) (qe_tup (qa_cons (qe_op od_add (qe_op od_sub (qe_op od_mul (qv 3) (qv 9)) (qe_op od_mul (qe_op od_mul (qv 5) (qv 4)) (qv 10))) (qv 7)) (qa_cons (qe_op od_add (qe_op od_add (qe_op od_mul (qv 4) (qv 9)) (qe_op od_mul (qe_op od_mul (qv 5) (qv 3)) (qv 10))) (qv 8)) qa_nil))) (qe_tup (qa_cons (qe_op od_mul (qv 6) (qv 11)) (qa_cons (qe_op od_mul (qv 6) (qv 12)) qa_nil)))) (qss_one (qs_ret qe_bl)) qss_nil)))
    (qss_one (qs_ret qe_bl)))))))

/-! ### _law_other -/
abbrev st_law_other : Stmt := topS 29
theorem sc_law_other : FnScope ["source", "places", "way", "a", "b", "found", "x", "y", "k"] ["source", "places"] (defScope st_law_other) := ⟨rfl, rfl, rfl, by decide +kernel, rfl, by decide +kernel, by decide +kernel⟩
theorem bd_law_other {P : Program} {w : World} {K : PySem.W.Frag} {mg : Str → Option Value} {base : Heap} (b : Bl mg) (h_law_pick : Has P w K mg base 1 "_law_pick" sp_law_pick) (h_law_of : Has P w K mg base 2 "_law_of" sp_law_of) {f : Addr} {cdv : Value} {A : Around} {outer : List Env} {s : Shared} {H : Hp} (hr : Room 2 (A.deeper (envOfC "_law_other" (defScope st_law_other) s.heap.objs.size f cdv))) :
    QSs (cxOf CX0 P w K mg base ["source", "places", "way", "a", "b", "found", "x", "y", "k"] "_law_other" (defScope st_law_other) f cdv A outer s H E0).nox (defBody st_law_other) (rd_law_other) := by
  have sc := sc_law_other
  exact (qss_cons (qs_asg (qe_tup (qa_cons (qe_own h_law_pick (hr.mono (by decide)) (by rfl) (qa_cons (qv 0) (qa_cons qe_int qa_nil))) (qa_cons (qe_op od_sub (qe_own h_law_pick (hr.mono (by decide)) (by rfl) (qa_cons (qv 0) (qa_cons qe_int qa_nil))) qe_int) (qa_cons (qe_op od_sub (qe_own h_law_pick (hr.mono (by decide)) (by rfl) (qa_cons (qv 0) (qa_cons qe_int qa_nil))) qe_int) qa_nil)))) (qg_tup rfl (qgs_cons (qg_name (i := 2) sc.nd) (qgs_cons (qg_name (i := 3) sc.nd) (qgs_cons (qg_name (i := 4) sc.nd) qgs_nil)))))
    (qss_cons (qs_setLc (i := 5) (mu := true) (own := [(Str.ofString "x", 6), (Str.ofString "y", 7)]) rfl sc.nd (qi_seq (qv 1)) (blkOk_by (by kernel_rfl)) (fun _ _ _ _ _ => (qg_tup rfl (qgs_cons (qg_name (i := 6) sc.nd) (qgs_cons (qg_name (i := 7) sc.nd) qgs_nil)))) (fun _ _ _ _ _ => qts_nil) (fun _ _ _ _ _ => (qe_if (qt_cmp (od_eq (room64 hr)) (qv 2) qe_int) (qe_tup (qa_cons (qe_op od_sub qe_int (qv 7)) (qa_cons (qv 6) qa_nil))) (qe_if (qt_cmp (od_eq (room64 hr)) (qv 2) qe_int) (qe_tup (qa_cons (qv 6) (qa_cons (qe_op od_sub qe_int (qv 7)) qa_nil))) (qe_if (qt_cmp (od_eq (room64 hr)) (qv 2) qe_int) (qe_tup (qa_cons (qv 7) (qa_cons (qv 6) qa_nil))) (qe_tup (qa_cons (qv 6) (qa_cons (qv 7) qa_nil))))))))
    (qss_cons (qs_setLc (i := 5) (mu := true) (own := [(Str.ofString "x", 6), (Str.ofString "y", 7)]) rfl sc.nd (qi_seq (qv 5)) (blkOk_by (by kernel_rfl)) (fun _ _ _ _ _ => (qg_tup rfl (qgs_cons (qg_name (i := 6) sc.nd) (qgs_cons (qg_name (i := 7) sc.nd) qgs_nil)))) (fun _ _ _ _ _ => qts_nil) (fun _ _ _ _ _ => (qe_tup (qa_cons (qe_op od_add (qv 6) (qv 3)) (qa_cons (qe_op od_add (qv 7) (qv 4)) qa_nil)))))
    (qss_cons (qs_if (qt_cmp (od_eq (room64 hr)) (qe_own h_law_pick (hr.mono (by decide)) (by rfl) (qa_cons (qv 0) (qa_cons qe_int qa_nil))) qe_int) (qss_cons (qs_set (i := 8) sc.nd (qe_own h_law_pick (hr.mono (by decide)) (by rfl) (qa_cons (qv 0) (qa_cons (qe_callB cd_len (by rfl) b.len (by decide +kernel) (qa_cons (qv 5) qa_nil)) qa_nil))))
    (qss_one (qs_store (hu_of hr) (qv 5) (qv 8) (qe_tup (qa_cons (qe_op od_add (qe_ix (qe_ix (qv 5) (qv 8)) qe_int) (qe_own h_law_of (hr.mono (by decide)) (by rfl) (qa_cons (qv 0) (qa_cons (qe_lst (qa_cons qe_int (qa_cons (qe_un ud_neg qe_int) (qa_cons qe_int qa_nil)))) qa_nil)))) (qa_cons (qe_op od_add (qe_ix (qe_ix (qv 5) (qv 8)) qe_int) (qe_own h_law_of (hr.mono (by decide)) (by rfl) (qa_cons (qv 0) (qa_cons (qe_lst (qa_cons qe_int (qa_cons qe_int qa_nil))) qa_nil)))) qa_nil)))))) qss_nil)
    (qss_one (qs_ret (qe_callTy cd_tuple (by rfl) b.tuple (by decide +kernel) (qa_cons (qv 5) qa_nil))))))))

/-! ### _law_fives -/
abbrev st_law_fives : Stmt := topS 30
theorem sc_law_fives : FnScope ["source", "places", "mirror", "one", "x", "y"] ["source", "places"] (defScope st_law_fives) := ⟨rfl, rfl, rfl, by decide +kernel, rfl, by decide +kernel, by decide +kernel⟩
theorem bd_law_fives {P : Program} {w : World} {K : PySem.W.Frag} {mg : Str → Option Value} {base : Heap} (b : Bl mg) (h_law_of : Has P w K mg base 2 "_law_of" sp_law_of) {f : Addr} {cdv : Value} {A : Around} {outer : List Env} {s : Shared} {H : Hp} (hr : Room 2 (A.deeper (envOfC "_law_fives" (defScope st_law_fives) s.heap.objs.size f cdv))) :
    QSs (cxOf CX0 P w K mg base ["source", "places", "mirror", "one", "x", "y"] "_law_fives" (defScope st_law_fives) f cdv A outer s H E0).nox (defBody st_law_fives) (rd_law_fives) := by
  have sc := sc_law_fives
  exact (qss_cons (qs_set (i := 2) sc.nd (qe_own h_law_of (hr.mono (by decide)) (by rfl) (qa_cons (qv 0) (qa_cons (qe_lst (qa_cons qe_int (qa_cons (qe_un ud_neg qe_int) qa_nil))) qa_nil))))
    (qss_cons (qs_set (i := 3) sc.nd (qe_callTy cd_tuple (by rfl) b.tuple (by decide +kernel) (qa_cons (qe_lc (mu := false) (own := [(Str.ofString "x", 4), (Str.ofString "y", 5)]) rfl sc.nd (qi_seq (qv 1)) (blkOk_by (by kernel_rfl)) (fun _ _ _ _ _ => (qg_tup rfl (qgs_cons (qg_name (i := 4) sc.nd) (qgs_cons (qg_name (i := 5) sc.nd) qgs_nil)))) (fun _ _ _ _ _ => qts_nil) (fun _ _ _ _ _ => (qe_tup (qa_cons (qe_op od_mul qe_int (qv 4)) (qa_cons (qe_op od_mul qe_int (qv 5)) qa_nil))))) qa_nil)))
    (qss_one (qs_ret (qe_tup (qa_cons (qv 3) (qa_cons (qe_callTy cd_tuple (by rfl) b.tuple (by decide +kernel) (qa_cons (qe_lc (mu := false) (own := [(Str.ofString "x", 4), (Str.ofString "y", 5)]) rfl sc.nd (qi_seq (qv 1)) (blkOk_by (by kernel_rfl)) (fun _ _ _ _ _ => (qg_tup rfl (qgs_cons (qg_name (i := 4) sc.nd) (qgs_cons (qg_name (i := 5) sc.nd) qgs_nil)))) (fun _ _ _ _ _ => qts_nil) (fun _ _ _ _ _ => (qe_tup (qa_cons (qe_op od_add (qe_op od_sub (qe_op od_mul qe_int (qv 4)) (qe_op od_mul (qe_op od_mul (qv 2) qe_int) (qv 5))) qe_int) (qa_cons (qe_op od_sub (qe_op od_add (qe_op od_mul qe_int (qv 4)) (qe_op od_mul (qe_op od_mul (qv 2) qe_int) (qv 5))) qe_int) qa_nil))))) qa_nil)) qa_nil)))))))

/-! ### law -/
abbrev st_law : Stmt := topS 31
theorem sc_law : FnScope ["script", "source", "lap", "one", "other", "held", "pair", "told"] ["script"] (defScope st_law) := ⟨rfl, rfl, rfl, by decide +kernel, rfl, by decide +kernel, by decide +kernel⟩
theorem bd_law {P : Program} {w : World} {K : PySem.W.Frag} {mg : Str → Option Value} {base : Heap} (b : Bl mg) (h_move_paper : Has P w K mg base 5 "move_paper" sp_move_paper) (h_law_source : Has P w K mg base 1 "_law_source" (sp_law_source K)) (h_law_pick : Has P w K mg base 1 "_law_pick" sp_law_pick) (h_law_places : Has P w K mg base 2 "_law_places" sp_law_places) (h_law_unlike : Has P w K mg base 2 "_law_unlike" sp_law_unlike) (h_law_is_right : Has P w K mg base 2 "_law_is_right" sp_law_is_right) (h_law_other : Has P w K mg base 3 "_law_other" sp_law_other) (h_law_fives : Has P w K mg base 3 "_law_fives" sp_law_fives) {f : Addr} {cdv : Value} {A : Around} {outer : List Env} {s : Shared} {H : Hp} (hgd : A.guards = some []) (hr : Room 5 (A.deeper (envOfC "law" (defScope st_law) s.heap.objs.size f cdv))) :
    QSs (cxOf CX0 P w K mg base ["script", "source", "lap", "one", "other", "held", "pair", "told"] "law" (defScope st_law) f cdv A outer s H E0).nox (defBody st_law) (rd_law K) := by
  have sc := sc_law
  exact (qss_cons (qs_set (i := 1) sc.nd (qe_own h_law_source (hr.mono (by decide)) (by rfl) (qa_cons (qv 0) qa_nil)))
    (qss_cons (qs_for PassesOwn.never rfl (qi_range1 (by rfl) b.range (qa_cons qe_int qa_nil)) (qg_name (i := 2) sc.nd) (qss_cons (qs_set (i := 3) sc.nd (qe_own h_law_places (hr.mono (by decide)) (by rfl) (qa_cons (qv 1) (qa_cons (qe_op od_add qe_int (qe_own h_law_pick (hr.mono (by decide)) (by rfl) (qa_cons (qv 1) (qa_cons qe_int qa_nil)))) (qa_cons qe_int qa_nil)))))
    (qss_cons (qs_set (i := 4) sc.nd (qe_own h_law_other (hr.mono (by decide)) (by rfl) (qa_cons (qv 1) (qa_cons (qv 3) qa_nil))))
    (qss_cons (qs_if (qt_cmp (od_eq (room64 hr)) (qe_own h_law_pick (hr.mono (by decide)) (by rfl) (qa_cons (qv 1) (qa_cons qe_int qa_nil))) qe_int) (qss_one (qs_asg (qe_own h_law_fives (hr.mono (by decide)) (by rfl) (qa_cons (qv 1) (qa_cons (qv 3) qa_nil))) (qg_tup rfl (qgs_cons (qg_name (i := 3) sc.nd) (qgs_cons (qg_name (i := 4) sc.nd) qgs_nil))))) qss_nil)
    (qss_cons (qs_par3 (i := 5) (j := 6) (l := 7) rfl sc.nd (qa_cons (qe_callB (cd_repr hgd (room64 hr)) (by rfl) b.repr (by decide +kernel) (qa_cons (qe_tup (qa_cons (qv 3) (qa_cons (qv 4) qa_nil))) qa_nil)) (qa_cons (qe_own h_law_unlike (hr.mono (by decide)) (by rfl) (qa_cons (qv 3) (qa_cons (qv 4) qa_nil))) (qa_cons (qe_own h_move_paper (hr.mono (by decide)) (by rfl) (qa_cons (qv 3) (qa_cons (qv 4) qa_nil))) qa_nil))))
    (qss_cons (qs_if (qt_cmp od_isnot (qv 6) qe_non) (qss_one (qs_if (qt_cmp od_neS (qe_callB (cd_repr hgd (room64 hr)) (by rfl) b.repr (by decide +kernel) (qa_cons (qv 7) qa_nil)) (qe_callB (cd_repr hgd (room64 hr)) (by rfl) b.repr (by decide +kernel) (qa_cons (qe_op od_add (qe_tup (qa_cons qe_str qa_nil)) (qv 6)) qa_nil))) (qss_one (qs_ret qe_bl)) qss_nil)) (qss_one (qs_if ((qw_or (qt_not (qt_val (qe_callB cd_isi (by rfl) b.isinstance (by decide +kernel) (qa_cons (qv 7) (qa_cons (qe_bltn (by rfl) b.tuple (by decide +kernel) (v := .ty "tuple") rfl (d := .ty "tuple") (fun _ => rfl)) qa_nil))))) (qw_or (qt_cmp (od_ne (room64 hr)) (qe_callB cd_len (by rfl) b.len (by decide +kernel) (qa_cons (qv 7) qa_nil)) qe_int) (qw_or1 (qt_cmp (od_ne (room64 hr)) (qe_ix (qv 7) qe_int) qe_str))))).qt (qss_one (qs_ret qe_bl)) (qss_one (qs_if (qt_not (qt_val (qe_own h_law_is_right (hr.mono (by decide)) (by rfl) (qa_cons (qe_ix (qv 7) qe_int) (qa_cons (qv 3) (qa_cons (qv 4) qa_nil)))))) (qss_one (qs_ret qe_bl)) qss_nil)))))
    (qss_one (qs_if ((qw_or (qt_cmp od_neS (qe_callB (cd_repr hgd (room64 hr)) (by rfl) b.repr (by decide +kernel) (qa_cons (qe_own h_move_paper (hr.mono (by decide)) (by rfl) (qa_cons (qv 3) (qa_cons (qv 4) qa_nil))) qa_nil)) (qe_callB (cd_repr hgd (room64 hr)) (by rfl) b.repr (by decide +kernel) (qa_cons (qv 7) qa_nil))) (qw_or1 (qt_cmp od_neS (qe_callB (cd_repr hgd (room64 hr)) (by rfl) b.repr (by decide +kernel) (qa_cons (qe_tup (qa_cons (qv 3) (qa_cons (qv 4) qa_nil))) qa_nil)) (qv 5))))).qt (qss_one (qs_ret qe_bl)) qss_nil))))))))
    (qss_cons (qs_set (i := 7) sc.nd (qe_lstM (qa_cons (qe_own h_move_paper (hr.mono (by decide)) (by rfl) (qa_cons (qe_tup (qa_cons (qe_tup (qa_cons qe_int (qa_cons qe_int qa_nil))) (qa_cons (qe_tup (qa_cons qe_int (qa_cons qe_int qa_nil))) (qa_cons (qe_tup (qa_cons qe_int (qa_cons qe_int qa_nil))) qa_nil)))) (qa_cons (qe_tup (qa_cons (qe_tup (qa_cons qe_int (qa_cons qe_int qa_nil))) (qa_cons (qe_tup (qa_cons qe_int (qa_cons qe_int qa_nil))) (qa_cons (qe_tup (qa_cons qe_int (qa_cons (qe_un ud_neg qe_int) qa_nil))) qa_nil)))) qa_nil))) qa_nil)))
    (qss_cons (qs_expr (qe_bm PySem.F.plainAttrs_list PySem.F.slot_list_append PySem.F.type_list_append md_append (qv 7) (qa_cons (qe_own h_move_paper (hr.mono (by decide)) (by rfl) (qa_cons (qe_tup (qa_cons (qe_tup (qa_cons qe_int (qa_cons qe_int qa_nil))) (qa_cons (qe_tup (qa_cons qe_int (qa_cons qe_int qa_nil))) (qa_cons (qe_tup (qa_cons qe_int (qa_cons qe_int qa_nil))) qa_nil)))) (qa_cons (qe_tup (qa_cons (qe_tup (qa_cons qe_int (qa_cons qe_int qa_nil))) (qa_cons (qe_tup (qa_cons qe_int (qa_cons qe_int qa_nil))) (qa_cons (qe_tup (qa_cons qe_int (qa_cons qe_int qa_nil))) qa_nil)))) qa_nil))) qa_nil)))
    (qss_one (qs_ret (qe_cmp od_eqS (qe_callB (cd_repr hgd (room64 hr)) (by rfl) b.repr (by decide +kernel) (qa_cons (qv 7) qa_nil)) (qe_callB (cd_repr hgd (room64 hr)) (by rfl) b.repr (by decide +kernel) (qa_cons (qe_lst (qa_cons (qe_tup (qa_cons qe_str (qa_cons (qe_tup (qa_cons qe_int (qa_cons qe_int (qa_cons (qe_un ud_neg qe_int) (qa_cons qe_int (qa_cons qe_int (qa_cons qe_int qa_nil))))))) qa_nil))) (qa_cons (qe_tup (qa_cons qe_str (qa_cons qe_int (qa_cons qe_int qa_nil)))) qa_nil))) qa_nil)))))))))


/-! ### the promises -/
section
variable {P : Program} {w : World} {K : PySem.W.Frag} {mg : Str → Option Value} {base : Heap}
theorem has_first_apart (b : Bl mg)  (T : TopDef K mg "first_apart" st_first_apart) : Has P w K mg base 1 "first_apart" sp_apartF := by
  obtain ⟨f, fd, F, e⟩ := T
  exact ⟨f, fd, ["places"], dok F sc_first_apart (fun ds H Q h => by first | (obtain ⟨rfl, _⟩ := h; rfl) | (obtain ⟨_, rfl, _⟩ := h; rfl) | (obtain ⟨_, _, rfl, _⟩ := h; rfl) | (obtain ⟨_, _, _, rfl, _⟩ := h; rfl) | (obtain ⟨_, _, _, _, rfl, _⟩ := h; rfl) | (obtain ⟨_, _, _, _, _, rfl, _⟩ := h; rfl) | (obtain ⟨_, _, _, _, _, _, rfl, _⟩ := h; rfl) | (obtain ⟨_, _, _, _, _, _, _, rfl, _⟩ := h; rfl) | (obtain ⟨_, _, _, _, _, _, _, _, rfl, _⟩ := h; rfl)) fun cdv A outer s H ds DH Q hr h => ⟨_, bd_first_apart b  hr, apartF_ok h⟩, e, F.kp, F.binds (ps := ["places"]) fun _ _ _ _ _ _ us hl => match us, hl with | [_], _ => rfl⟩
theorem has_led (b : Bl mg)  (T : TopDef K mg "led" st_led) : Has P w K mg base 1 "led" sp_led := by
  obtain ⟨f, fd, F, e⟩ := T
  exact ⟨f, fd, ["places", "a", "b"], dok F sc_led (fun ds H Q h => by first | (obtain ⟨rfl, _⟩ := h; rfl) | (obtain ⟨_, rfl, _⟩ := h; rfl) | (obtain ⟨_, _, rfl, _⟩ := h; rfl) | (obtain ⟨_, _, _, rfl, _⟩ := h; rfl) | (obtain ⟨_, _, _, _, rfl, _⟩ := h; rfl) | (obtain ⟨_, _, _, _, _, rfl, _⟩ := h; rfl) | (obtain ⟨_, _, _, _, _, _, rfl, _⟩ := h; rfl) | (obtain ⟨_, _, _, _, _, _, _, rfl, _⟩ := h; rfl) | (obtain ⟨_, _, _, _, _, _, _, _, rfl, _⟩ := h; rfl)) fun cdv A outer s H ds DH Q hr h => ⟨_, bd_led b  hr, led_ok h⟩, e, F.kp, F.binds (ps := ["places", "a", "b"]) fun _ _ _ _ _ _ us hl => match us, hl with | [_, _, _], _ => rfl⟩
theorem has_across (b : Bl mg)  (T : TopDef K mg "across" st_across) : Has P w K mg base 1 "across" sp_across := by
  obtain ⟨f, fd, F, e⟩ := T
  exact ⟨f, fd, ["one", "other"], dok F sc_across (fun ds H Q h => by first | (obtain ⟨rfl, _⟩ := h; rfl) | (obtain ⟨_, rfl, _⟩ := h; rfl) | (obtain ⟨_, _, rfl, _⟩ := h; rfl) | (obtain ⟨_, _, _, rfl, _⟩ := h; rfl) | (obtain ⟨_, _, _, _, rfl, _⟩ := h; rfl) | (obtain ⟨_, _, _, _, _, rfl, _⟩ := h; rfl) | (obtain ⟨_, _, _, _, _, _, rfl, _⟩ := h; rfl) | (obtain ⟨_, _, _, _, _, _, _, rfl, _⟩ := h; rfl) | (obtain ⟨_, _, _, _, _, _, _, _, rfl, _⟩ := h; rfl)) fun cdv A outer s H ds DH Q hr h => ⟨_, bd_across b  hr, across_ok h⟩, e, F.kp, F.binds (ps := ["one", "other"]) fun _ _ _ _ _ _ us hl => match us, hl with | [_, _], _ => rfl⟩
theorem has_first_off (b : Bl mg) (h_led : Has P w K mg base 1 "led" sp_led) (h_across : Has P w K mg base 1 "across" sp_across) (T : TopDef K mg "first_off" st_first_off) : Has P w K mg base 2 "first_off" sp_offF := by
  obtain ⟨f, fd, F, e⟩ := T
  exact ⟨f, fd, ["places", "joint"], dok F sc_first_off (fun ds H Q h => by first | (obtain ⟨rfl, _⟩ := h; rfl) | (obtain ⟨_, rfl, _⟩ := h; rfl) | (obtain ⟨_, _, rfl, _⟩ := h; rfl) | (obtain ⟨_, _, _, rfl, _⟩ := h; rfl) | (obtain ⟨_, _, _, _, rfl, _⟩ := h; rfl) | (obtain ⟨_, _, _, _, _, rfl, _⟩ := h; rfl) | (obtain ⟨_, _, _, _, _, _, rfl, _⟩ := h; rfl) | (obtain ⟨_, _, _, _, _, _, _, rfl, _⟩ := h; rfl) | (obtain ⟨_, _, _, _, _, _, _, _, rfl, _⟩ := h; rfl)) fun cdv A outer s H ds DH Q hr h => ⟨_, bd_first_off b h_led h_across hr, offF_ok h⟩, e, F.kp, F.binds (ps := ["places", "joint"]) fun _ _ _ _ _ _ us hl => match us, hl with | [_, _], _ => rfl⟩
theorem has_moved_part (b : Bl mg)  (T : TopDef K mg "moved_part" st_moved_part) : Has P w K mg base 1 "moved_part" sp_moved_partW := by
  obtain ⟨f, fd, F, e⟩ := T
  exact ⟨f, fd, ["move", "place"], dok F sc_moved_part (fun ds H Q h => by first | (obtain ⟨rfl, _⟩ := h; rfl) | (obtain ⟨_, rfl, _⟩ := h; rfl) | (obtain ⟨_, _, rfl, _⟩ := h; rfl) | (obtain ⟨_, _, _, rfl, _⟩ := h; rfl) | (obtain ⟨_, _, _, _, rfl, _⟩ := h; rfl) | (obtain ⟨_, _, _, _, _, rfl, _⟩ := h; rfl) | (obtain ⟨_, _, _, _, _, _, rfl, _⟩ := h; rfl) | (obtain ⟨_, _, _, _, _, _, _, rfl, _⟩ := h; rfl) | (obtain ⟨_, _, _, _, _, _, _, _, rfl, _⟩ := h; rfl)) fun cdv A outer s H ds DH Q hr h => ⟨_, bd_moved_part b  hr, moved_partW_ok h⟩, e, F.kp, F.binds (ps := ["move", "place"]) fun _ _ _ _ _ _ us hl => match us, hl with | [_, _], _ => rfl⟩
theorem has_first_elsewhere (b : Bl mg) (h_moved_part : Has P w K mg base 1 "moved_part" sp_moved_partW) (T : TopDef K mg "first_elsewhere" st_first_elsewhere) : Has P w K mg base 2 "first_elsewhere" sp_elsewhereW := by
  obtain ⟨f, fd, F, e⟩ := T
  exact ⟨f, fd, ["move", "one", "other"], dok F sc_first_elsewhere (fun ds H Q h => by first | (obtain ⟨rfl, _⟩ := h; rfl) | (obtain ⟨_, rfl, _⟩ := h; rfl) | (obtain ⟨_, _, rfl, _⟩ := h; rfl) | (obtain ⟨_, _, _, rfl, _⟩ := h; rfl) | (obtain ⟨_, _, _, _, rfl, _⟩ := h; rfl) | (obtain ⟨_, _, _, _, _, rfl, _⟩ := h; rfl) | (obtain ⟨_, _, _, _, _, _, rfl, _⟩ := h; rfl) | (obtain ⟨_, _, _, _, _, _, _, rfl, _⟩ := h; rfl) | (obtain ⟨_, _, _, _, _, _, _, _, rfl, _⟩ := h; rfl)) fun cdv A outer s H ds DH Q hr h => ⟨_, bd_first_elsewhere b h_moved_part hr, elsewhereW_ok h⟩, e, F.kp, F.binds (ps := ["move", "one", "other"]) fun _ _ _ _ _ _ us hl => match us, hl with | [_, _, _], _ => rfl⟩
theorem has_does_take (b : Bl mg) (h_first_elsewhere : Has P w K mg base 2 "first_elsewhere" sp_elsewhereW) (T : TopDef K mg "does_take" st_does_take) : Has P w K mg base 3 "does_take" sp_does_takeW := by
  obtain ⟨f, fd, F, e⟩ := T
  exact ⟨f, fd, ["move", "one", "other"], dok F sc_does_take (fun ds H Q h => by first | (obtain ⟨rfl, _⟩ := h; rfl) | (obtain ⟨_, rfl, _⟩ := h; rfl) | (obtain ⟨_, _, rfl, _⟩ := h; rfl) | (obtain ⟨_, _, _, rfl, _⟩ := h; rfl) | (obtain ⟨_, _, _, _, rfl, _⟩ := h; rfl) | (obtain ⟨_, _, _, _, _, rfl, _⟩ := h; rfl) | (obtain ⟨_, _, _, _, _, _, rfl, _⟩ := h; rfl) | (obtain ⟨_, _, _, _, _, _, _, rfl, _⟩ := h; rfl) | (obtain ⟨_, _, _, _, _, _, _, _, rfl, _⟩ := h; rfl)) fun cdv A outer s H ds DH Q hr h => ⟨_, bd_does_take b h_first_elsewhere hr, does_takeW_ok h⟩, e, F.kp, F.binds (ps := ["move", "one", "other"]) fun _ _ _ _ _ _ us hl => match us, hl with | [_, _, _], _ => rfl⟩
theorem has_along (b : Bl mg)  (T : TopDef K mg "along" st_along) : Has P w K mg base 1 "along" sp_along := by
  obtain ⟨f, fd, F, e⟩ := T
  exact ⟨f, fd, ["one", "other"], dok F sc_along (fun ds H Q h => by first | (obtain ⟨rfl, _⟩ := h; rfl) | (obtain ⟨_, rfl, _⟩ := h; rfl) | (obtain ⟨_, _, rfl, _⟩ := h; rfl) | (obtain ⟨_, _, _, rfl, _⟩ := h; rfl) | (obtain ⟨_, _, _, _, rfl, _⟩ := h; rfl) | (obtain ⟨_, _, _, _, _, rfl, _⟩ := h; rfl) | (obtain ⟨_, _, _, _, _, _, rfl, _⟩ := h; rfl) | (obtain ⟨_, _, _, _, _, _, _, rfl, _⟩ := h; rfl) | (obtain ⟨_, _, _, _, _, _, _, _, rfl, _⟩ := h; rfl)) fun cdv A outer s H ds DH Q hr h => ⟨_, bd_along b  hr, along_ok h⟩, e, F.kp, F.binds (ps := ["one", "other"]) fun _ _ _ _ _ _ us hl => match us, hl with | [_, _], _ => rfl⟩
theorem has_greatest_divisor (b : Bl mg)  (T : TopDef K mg "greatest_divisor" st_greatest_divisor) : Has P w K mg base 1 "greatest_divisor" sp_gdL := by
  obtain ⟨f, fd, F, e⟩ := T
  exact ⟨f, fd, ["numbers"], dok F sc_greatest_divisor (fun ds H Q h => by first | (obtain ⟨rfl, _⟩ := h; rfl) | (obtain ⟨_, rfl, _⟩ := h; rfl) | (obtain ⟨_, _, rfl, _⟩ := h; rfl) | (obtain ⟨_, _, _, rfl, _⟩ := h; rfl) | (obtain ⟨_, _, _, _, rfl, _⟩ := h; rfl) | (obtain ⟨_, _, _, _, _, rfl, _⟩ := h; rfl) | (obtain ⟨_, _, _, _, _, _, rfl, _⟩ := h; rfl) | (obtain ⟨_, _, _, _, _, _, _, rfl, _⟩ := h; rfl) | (obtain ⟨_, _, _, _, _, _, _, _, rfl, _⟩ := h; rfl)) fun cdv A outer s H ds DH Q hr h => ⟨_, bd_greatest_divisor b  hr, gdL_ok h⟩, e, F.kp, F.binds (ps := ["numbers"]) fun _ _ _ _ _ _ us hl => match us, hl with | [_], _ => rfl⟩
theorem has_lowered (b : Bl mg) (h_greatest_divisor : Has P w K mg base 1 "greatest_divisor" sp_gdL) (T : TopDef K mg "lowered" st_lowered) : Has P w K mg base 2 "lowered" sp_lowered := by
  obtain ⟨f, fd, F, e⟩ := T
  exact ⟨f, fd, ["move"], dok F sc_lowered (fun ds H Q h => by first | (obtain ⟨rfl, _⟩ := h; rfl) | (obtain ⟨_, rfl, _⟩ := h; rfl) | (obtain ⟨_, _, rfl, _⟩ := h; rfl) | (obtain ⟨_, _, _, rfl, _⟩ := h; rfl) | (obtain ⟨_, _, _, _, rfl, _⟩ := h; rfl) | (obtain ⟨_, _, _, _, _, rfl, _⟩ := h; rfl) | (obtain ⟨_, _, _, _, _, _, rfl, _⟩ := h; rfl) | (obtain ⟨_, _, _, _, _, _, _, rfl, _⟩ := h; rfl) | (obtain ⟨_, _, _, _, _, _, _, _, rfl, _⟩ := h; rfl)) fun cdv A outer s H ds DH Q hr h => ⟨_, bd_lowered b h_greatest_divisor hr, lowered_ok h⟩, e, F.kp, F.binds (ps := ["move"]) fun _ _ _ _ _ _ us hl => match us, hl with | [_], _ => rfl⟩
theorem has_turn_of (b : Bl mg) (h_led : Has P w K mg base 1 "led" sp_led) (h_across : Has P w K mg base 1 "across" sp_across) (h_along : Has P w K mg base 1 "along" sp_along) (h_moved_part : Has P w K mg base 1 "moved_part" sp_moved_partW) (h_lowered : Has P w K mg base 2 "lowered" sp_lowered) (T : TopDef K mg "turn_of" st_turn_of) : Has P w K mg base 3 "turn_of" sp_turn_of := by
  obtain ⟨f, fd, F, e⟩ := T
  exact ⟨f, fd, ["one", "other", "joint", "mirror"], dok F sc_turn_of (fun ds H Q h => by first | (obtain ⟨rfl, _⟩ := h; rfl) | (obtain ⟨_, rfl, _⟩ := h; rfl) | (obtain ⟨_, _, rfl, _⟩ := h; rfl) | (obtain ⟨_, _, _, rfl, _⟩ := h; rfl) | (obtain ⟨_, _, _, _, rfl, _⟩ := h; rfl) | (obtain ⟨_, _, _, _, _, rfl, _⟩ := h; rfl) | (obtain ⟨_, _, _, _, _, _, rfl, _⟩ := h; rfl) | (obtain ⟨_, _, _, _, _, _, _, rfl, _⟩ := h; rfl) | (obtain ⟨_, _, _, _, _, _, _, _, rfl, _⟩ := h; rfl)) fun cdv A outer s H ds DH Q hr h => ⟨_, bd_turn_of b h_led h_across h_along h_moved_part h_lowered hr, turn_of_ok h⟩, e, F.kp, F.binds (ps := ["one", "other", "joint", "mirror"]) fun _ _ _ _ _ _ us hl => match us, hl with | [_, _, _, _], _ => rfl⟩
theorem has_move_between (b : Bl mg) (h_first_apart : Has P w K mg base 1 "first_apart" sp_apartF) (h_first_off : Has P w K mg base 2 "first_off" sp_offF) (h_does_take : Has P w K mg base 3 "does_take" sp_does_takeW) (h_turn_of : Has P w K mg base 3 "turn_of" sp_turn_of) (T : TopDef K mg "move_between" st_move_between) : Has P w K mg base 4 "move_between" sp_move_between := by
  obtain ⟨f, fd, F, e⟩ := T
  exact ⟨f, fd, ["one", "other"], dok F sc_move_between (fun ds H Q h => by first | (obtain ⟨rfl, _⟩ := h; rfl) | (obtain ⟨_, rfl, _⟩ := h; rfl) | (obtain ⟨_, _, rfl, _⟩ := h; rfl) | (obtain ⟨_, _, _, rfl, _⟩ := h; rfl) | (obtain ⟨_, _, _, _, rfl, _⟩ := h; rfl) | (obtain ⟨_, _, _, _, _, rfl, _⟩ := h; rfl) | (obtain ⟨_, _, _, _, _, _, rfl, _⟩ := h; rfl) | (obtain ⟨_, _, _, _, _, _, _, rfl, _⟩ := h; rfl) | (obtain ⟨_, _, _, _, _, _, _, _, rfl, _⟩ := h; rfl)) fun cdv A outer s H ds DH Q hr h => ⟨_, bd_move_between b h_first_apart h_first_off h_does_take h_turn_of hr, move_between_ok h⟩, e, F.kp, F.binds (ps := ["one", "other"]) fun _ _ _ _ _ _ us hl => match us, hl with | [_, _], _ => rfl⟩
theorem has_square (b : Bl mg)  (T : TopDef K mg "square" st_square) : Has P w K mg base 1 "square" sp_squareW := by
  obtain ⟨f, fd, F, e⟩ := T
  exact ⟨f, fd, ["places", "a", "b"], dok F sc_square (fun ds H Q h => by first | (obtain ⟨rfl, _⟩ := h; rfl) | (obtain ⟨_, rfl, _⟩ := h; rfl) | (obtain ⟨_, _, rfl, _⟩ := h; rfl) | (obtain ⟨_, _, _, rfl, _⟩ := h; rfl) | (obtain ⟨_, _, _, _, rfl, _⟩ := h; rfl) | (obtain ⟨_, _, _, _, _, rfl, _⟩ := h; rfl) | (obtain ⟨_, _, _, _, _, _, rfl, _⟩ := h; rfl) | (obtain ⟨_, _, _, _, _, _, _, rfl, _⟩ := h; rfl) | (obtain ⟨_, _, _, _, _, _, _, _, rfl, _⟩ := h; rfl)) fun cdv A outer s H ds DH Q hr h => ⟨_, bd_square b  hr, squareW_ok h⟩, e, F.kp, F.binds (ps := ["places", "a", "b"]) fun _ _ _ _ _ _ us hl => match us, hl with | [_, _, _], _ => rfl⟩
theorem has_unlike_pair (b : Bl mg) (h_square : Has P w K mg base 1 "square" sp_squareW) (T : TopDef K mg "unlike_pair" st_unlike_pair) : Has P w K mg base 2 "unlike_pair" sp_unlike_pair := by
  obtain ⟨f, fd, F, e⟩ := T
  exact ⟨f, fd, ["one", "other"], dok F sc_unlike_pair (fun ds H Q h => by first | (obtain ⟨rfl, _⟩ := h; rfl) | (obtain ⟨_, rfl, _⟩ := h; rfl) | (obtain ⟨_, _, rfl, _⟩ := h; rfl) | (obtain ⟨_, _, _, rfl, _⟩ := h; rfl) | (obtain ⟨_, _, _, _, rfl, _⟩ := h; rfl) | (obtain ⟨_, _, _, _, _, rfl, _⟩ := h; rfl) | (obtain ⟨_, _, _, _, _, _, rfl, _⟩ := h; rfl) | (obtain ⟨_, _, _, _, _, _, _, rfl, _⟩ := h; rfl) | (obtain ⟨_, _, _, _, _, _, _, _, rfl, _⟩ := h; rfl)) fun cdv A outer s H ds DH Q hr h => ⟨_, bd_unlike_pair b h_square hr, unlike_pair_ok h⟩, e, F.kp, F.binds (ps := ["one", "other"]) fun _ _ _ _ _ _ us hl => match us, hl with | [_, _], _ => rfl⟩
theorem has_move_paper (b : Bl mg) (h_move_between : Has P w K mg base 4 "move_between" sp_move_between) (h_unlike_pair : Has P w K mg base 2 "unlike_pair" sp_unlike_pair) (T : TopDef K mg "move_paper" st_move_paper) : Has P w K mg base 5 "move_paper" sp_move_paper := by
  obtain ⟨f, fd, F, e⟩ := T
  exact ⟨f, fd, ["one", "other"], dok F sc_move_paper (fun ds H Q h => by first | (obtain ⟨rfl, _⟩ := h; rfl) | (obtain ⟨_, rfl, _⟩ := h; rfl) | (obtain ⟨_, _, rfl, _⟩ := h; rfl) | (obtain ⟨_, _, _, rfl, _⟩ := h; rfl) | (obtain ⟨_, _, _, _, rfl, _⟩ := h; rfl) | (obtain ⟨_, _, _, _, _, rfl, _⟩ := h; rfl) | (obtain ⟨_, _, _, _, _, _, rfl, _⟩ := h; rfl) | (obtain ⟨_, _, _, _, _, _, _, rfl, _⟩ := h; rfl) | (obtain ⟨_, _, _, _, _, _, _, _, rfl, _⟩ := h; rfl)) fun cdv A outer s H ds DH Q hr h => ⟨_, bd_move_paper b h_move_between h_unlike_pair hr, move_paper_ok h⟩, e, F.kp, F.binds (ps := ["one", "other"]) fun _ _ _ _ _ _ us hl => match us, hl with | [_, _], _ => rfl⟩
theorem has_law_source (b : Bl mg)  (T : TopDef K mg "_law_source" st_law_source) : Has P w K mg base 1 "_law_source" (sp_law_source K) := by
  obtain ⟨f, fd, F, e⟩ := T
  refine source_imp ?_
  exact ⟨f, fd, ["script"], dok F sc_law_source (fun ds H Q h => by first | (obtain ⟨rfl, _⟩ := h; rfl) | (obtain ⟨_, rfl, _⟩ := h; rfl) | (obtain ⟨_, _, rfl, _⟩ := h; rfl) | (obtain ⟨_, _, _, rfl, _⟩ := h; rfl) | (obtain ⟨_, _, _, _, rfl, _⟩ := h; rfl) | (obtain ⟨_, _, _, _, _, rfl, _⟩ := h; rfl) | (obtain ⟨_, _, _, _, _, _, rfl, _⟩ := h; rfl) | (obtain ⟨_, _, _, _, _, _, _, rfl, _⟩ := h; rfl) | (obtain ⟨_, _, _, _, _, _, _, _, rfl, _⟩ := h; rfl)) fun cdv A outer s H ds DH Q hr h => ⟨_, bd_law_source b  hr, source22 h⟩, e, F.kp, F.binds (ps := ["script"]) fun _ _ _ _ _ _ us hl => match us, hl with | [_], _ => rfl⟩
theorem has_law_pick (b : Bl mg)  (T : TopDef K mg "_law_pick" st_law_pick) : Has P w K mg base 1 "_law_pick" sp_law_pick := by
  obtain ⟨f, fd, F, e⟩ := T
  refine pick_imp ?_
  exact ⟨f, fd, ["source", "many"], dok F sc_law_pick (fun ds H Q h => by first | (obtain ⟨rfl, _⟩ := h; rfl) | (obtain ⟨_, rfl, _⟩ := h; rfl) | (obtain ⟨_, _, rfl, _⟩ := h; rfl) | (obtain ⟨_, _, _, rfl, _⟩ := h; rfl) | (obtain ⟨_, _, _, _, rfl, _⟩ := h; rfl) | (obtain ⟨_, _, _, _, _, rfl, _⟩ := h; rfl) | (obtain ⟨_, _, _, _, _, _, rfl, _⟩ := h; rfl) | (obtain ⟨_, _, _, _, _, _, _, rfl, _⟩ := h; rfl) | (obtain ⟨_, _, _, _, _, _, _, _, rfl, _⟩ := h; rfl)) fun cdv A outer s H ds DH Q hr h => ⟨_, bd_law_pick b  hr, pick22 h⟩, e, F.kp, F.binds (ps := ["source", "many"]) fun _ _ _ _ _ _ us hl => match us, hl with | [_, _], _ => rfl⟩
theorem has_law_places (b : Bl mg) (h_law_pick : Has P w K mg base 1 "_law_pick" sp_law_pick) (T : TopDef K mg "_law_places" st_law_places) : Has P w K mg base 2 "_law_places" sp_law_places := by
  obtain ⟨f, fd, F, e⟩ := T
  exact ⟨f, fd, ["source", "n", "wide"], dok F sc_law_places (fun ds H Q h => by first | (obtain ⟨rfl, _⟩ := h; rfl) | (obtain ⟨_, rfl, _⟩ := h; rfl) | (obtain ⟨_, _, rfl, _⟩ := h; rfl) | (obtain ⟨_, _, _, rfl, _⟩ := h; rfl) | (obtain ⟨_, _, _, _, rfl, _⟩ := h; rfl) | (obtain ⟨_, _, _, _, _, rfl, _⟩ := h; rfl) | (obtain ⟨_, _, _, _, _, _, rfl, _⟩ := h; rfl) | (obtain ⟨_, _, _, _, _, _, _, rfl, _⟩ := h; rfl) | (obtain ⟨_, _, _, _, _, _, _, _, rfl, _⟩ := h; rfl)) fun cdv A outer s H ds DH Q hr h => ⟨_, bd_law_places b h_law_pick hr, law_places_ok h⟩, e, F.kp, F.binds (ps := ["source", "n", "wide"]) fun _ _ _ _ _ _ us hl => match us, hl with | [_, _, _], _ => rfl⟩
theorem has_law_pairs (b : Bl mg)  (T : TopDef K mg "_law_pairs" st_law_pairs) : Has P w K mg base 1 "_law_pairs" sp_law_pairs := by
  obtain ⟨f, fd, F, e⟩ := T
  exact ⟨f, fd, ["n"], dok F sc_law_pairs (fun ds H Q h => by first | (obtain ⟨rfl, _⟩ := h; rfl) | (obtain ⟨_, rfl, _⟩ := h; rfl) | (obtain ⟨_, _, rfl, _⟩ := h; rfl) | (obtain ⟨_, _, _, rfl, _⟩ := h; rfl) | (obtain ⟨_, _, _, _, rfl, _⟩ := h; rfl) | (obtain ⟨_, _, _, _, _, rfl, _⟩ := h; rfl) | (obtain ⟨_, _, _, _, _, _, rfl, _⟩ := h; rfl) | (obtain ⟨_, _, _, _, _, _, _, rfl, _⟩ := h; rfl) | (obtain ⟨_, _, _, _, _, _, _, _, rfl, _⟩ := h; rfl)) fun cdv A outer s H ds DH Q hr h => ⟨_, bd_law_pairs b  hr, law_pairs_ok h⟩, e, F.kp, F.binds (ps := ["n"]) fun _ _ _ _ _ _ us hl => match us, hl with | [_], _ => rfl⟩
theorem has_law_square (b : Bl mg)  (T : TopDef K mg "_law_square" st_law_square) : Has P w K mg base 1 "_law_square" sp_squareW := by
  obtain ⟨f, fd, F, e⟩ := T
  exact ⟨f, fd, ["places", "a", "b"], dok F sc_law_square (fun ds H Q h => by first | (obtain ⟨rfl, _⟩ := h; rfl) | (obtain ⟨_, rfl, _⟩ := h; rfl) | (obtain ⟨_, _, rfl, _⟩ := h; rfl) | (obtain ⟨_, _, _, rfl, _⟩ := h; rfl) | (obtain ⟨_, _, _, _, rfl, _⟩ := h; rfl) | (obtain ⟨_, _, _, _, _, rfl, _⟩ := h; rfl) | (obtain ⟨_, _, _, _, _, _, rfl, _⟩ := h; rfl) | (obtain ⟨_, _, _, _, _, _, _, rfl, _⟩ := h; rfl) | (obtain ⟨_, _, _, _, _, _, _, _, rfl, _⟩ := h; rfl)) fun cdv A outer s H ds DH Q hr h => ⟨_, bd_law_square b  hr, law_squareW_ok h⟩, e, F.kp, F.binds (ps := ["places", "a", "b"]) fun _ _ _ _ _ _ us hl => match us, hl with | [_, _, _], _ => rfl⟩
theorem has_law_unlike (b : Bl mg) (h_law_pairs : Has P w K mg base 1 "_law_pairs" sp_law_pairs) (h_law_square : Has P w K mg base 1 "_law_square" sp_squareW) (T : TopDef K mg "_law_unlike" st_law_unlike) : Has P w K mg base 2 "_law_unlike" sp_law_unlike := by
  obtain ⟨f, fd, F, e⟩ := T
  exact ⟨f, fd, ["one", "other"], dok F sc_law_unlike (fun ds H Q h => by first | (obtain ⟨rfl, _⟩ := h; rfl) | (obtain ⟨_, rfl, _⟩ := h; rfl) | (obtain ⟨_, _, rfl, _⟩ := h; rfl) | (obtain ⟨_, _, _, rfl, _⟩ := h; rfl) | (obtain ⟨_, _, _, _, rfl, _⟩ := h; rfl) | (obtain ⟨_, _, _, _, _, rfl, _⟩ := h; rfl) | (obtain ⟨_, _, _, _, _, _, rfl, _⟩ := h; rfl) | (obtain ⟨_, _, _, _, _, _, _, rfl, _⟩ := h; rfl) | (obtain ⟨_, _, _, _, _, _, _, _, rfl, _⟩ := h; rfl)) fun cdv A outer s H ds DH Q hr h => ⟨_, bd_law_unlike b h_law_pairs h_law_square hr, law_unlike_ok h⟩, e, F.kp, F.binds (ps := ["one", "other"]) fun _ _ _ _ _ _ us hl => match us, hl with | [_, _], _ => rfl⟩
theorem has_law_divisor (b : Bl mg)  (T : TopDef K mg "_law_divisor" st_law_divisor) : Has P w K mg base 1 "_law_divisor" sp_gdL := by
  obtain ⟨f, fd, F, e⟩ := T
  exact ⟨f, fd, ["numbers"], dok F sc_law_divisor (fun ds H Q h => by first | (obtain ⟨rfl, _⟩ := h; rfl) | (obtain ⟨_, rfl, _⟩ := h; rfl) | (obtain ⟨_, _, rfl, _⟩ := h; rfl) | (obtain ⟨_, _, _, rfl, _⟩ := h; rfl) | (obtain ⟨_, _, _, _, rfl, _⟩ := h; rfl) | (obtain ⟨_, _, _, _, _, rfl, _⟩ := h; rfl) | (obtain ⟨_, _, _, _, _, _, rfl, _⟩ := h; rfl) | (obtain ⟨_, _, _, _, _, _, _, rfl, _⟩ := h; rfl) | (obtain ⟨_, _, _, _, _, _, _, _, rfl, _⟩ := h; rfl)) fun cdv A outer s H ds DH Q hr h => ⟨_, bd_law_divisor b  hr, law_divisorL_ok h⟩, e, F.kp, F.binds (ps := ["numbers"]) fun _ _ _ _ _ _ us hl => match us, hl with | [_], _ => rfl⟩
theorem has_law_is_right (b : Bl mg) (h_law_divisor : Has P w K mg base 1 "_law_divisor" sp_gdL) (T : TopDef K mg "_law_is_right" st_law_is_right) : Has P w K mg base 2 "_law_is_right" sp_law_is_right := by
  obtain ⟨f, fd, F, e⟩ := T
  exact ⟨f, fd, ["move", "one", "other"], dok F sc_law_is_right (fun ds H Q h => by first | (obtain ⟨rfl, _⟩ := h; rfl) | (obtain ⟨_, rfl, _⟩ := h; rfl) | (obtain ⟨_, _, rfl, _⟩ := h; rfl) | (obtain ⟨_, _, _, rfl, _⟩ := h; rfl) | (obtain ⟨_, _, _, _, rfl, _⟩ := h; rfl) | (obtain ⟨_, _, _, _, _, rfl, _⟩ := h; rfl) | (obtain ⟨_, _, _, _, _, _, rfl, _⟩ := h; rfl) | (obtain ⟨_, _, _, _, _, _, _, rfl, _⟩ := h; rfl) | (obtain ⟨_, _, _, _, _, _, _, _, rfl, _⟩ := h; rfl)) fun cdv A outer s H ds DH Q hr h => ⟨_, bd_law_is_right b h_law_divisor hr, law_is_right_ok h⟩, e, F.kp, F.binds (ps := ["move", "one", "other"]) fun _ _ _ _ _ _ us hl => match us, hl with | [_, _, _], _ => rfl⟩
theorem has_law_of (b : Bl mg) (h_law_pick : Has P w K mg base 1 "_law_pick" sp_law_pick) (T : TopDef K mg "_law_of" st_law_of) : Has P w K mg base 2 "_law_of" sp_law_of := by
  obtain ⟨f, fd, F, e⟩ := T
  exact ⟨f, fd, ["source", "some"], dok F sc_law_of (fun ds H Q h => by first | (obtain ⟨rfl, _⟩ := h; rfl) | (obtain ⟨_, rfl, _⟩ := h; rfl) | (obtain ⟨_, _, rfl, _⟩ := h; rfl) | (obtain ⟨_, _, _, rfl, _⟩ := h; rfl) | (obtain ⟨_, _, _, _, rfl, _⟩ := h; rfl) | (obtain ⟨_, _, _, _, _, rfl, _⟩ := h; rfl) | (obtain ⟨_, _, _, _, _, _, rfl, _⟩ := h; rfl) | (obtain ⟨_, _, _, _, _, _, _, rfl, _⟩ := h; rfl) | (obtain ⟨_, _, _, _, _, _, _, _, rfl, _⟩ := h; rfl)) fun cdv A outer s H ds DH Q hr h => ⟨_, bd_law_of b h_law_pick hr, law_of_ok h⟩, e, F.kp, F.binds (ps := ["source", "some"]) fun _ _ _ _ _ _ us hl => match us, hl with | [_, _], _ => rfl⟩
theorem has_law_other (b : Bl mg) (h_law_pick : Has P w K mg base 1 "_law_pick" sp_law_pick) (h_law_of : Has P w K mg base 2 "_law_of" sp_law_of) (T : TopDef K mg "_law_other" st_law_other) : Has P w K mg base 3 "_law_other" sp_law_other := by
  obtain ⟨f, fd, F, e⟩ := T
  exact ⟨f, fd, ["source", "places"], dok F sc_law_other (fun ds H Q h => by first | (obtain ⟨rfl, _⟩ := h; rfl) | (obtain ⟨_, rfl, _⟩ := h; rfl) | (obtain ⟨_, _, rfl, _⟩ := h; rfl) | (obtain ⟨_, _, _, rfl, _⟩ := h; rfl) | (obtain ⟨_, _, _, _, rfl, _⟩ := h; rfl) | (obtain ⟨_, _, _, _, _, rfl, _⟩ := h; rfl) | (obtain ⟨_, _, _, _, _, _, rfl, _⟩ := h; rfl) | (obtain ⟨_, _, _, _, _, _, _, rfl, _⟩ := h; rfl) | (obtain ⟨_, _, _, _, _, _, _, _, rfl, _⟩ := h; rfl)) fun cdv A outer s H ds DH Q hr h => ⟨_, bd_law_other b h_law_pick h_law_of hr, law_other_ok h⟩, e, F.kp, F.binds (ps := ["source", "places"]) fun _ _ _ _ _ _ us hl => match us, hl with | [_, _], _ => rfl⟩
theorem has_law_fives (b : Bl mg) (h_law_of : Has P w K mg base 2 "_law_of" sp_law_of) (T : TopDef K mg "_law_fives" st_law_fives) : Has P w K mg base 3 "_law_fives" sp_law_fives := by
  obtain ⟨f, fd, F, e⟩ := T
  exact ⟨f, fd, ["source", "places"], dok F sc_law_fives (fun ds H Q h => by first | (obtain ⟨rfl, _⟩ := h; rfl) | (obtain ⟨_, rfl, _⟩ := h; rfl) | (obtain ⟨_, _, rfl, _⟩ := h; rfl) | (obtain ⟨_, _, _, rfl, _⟩ := h; rfl) | (obtain ⟨_, _, _, _, rfl, _⟩ := h; rfl) | (obtain ⟨_, _, _, _, _, rfl, _⟩ := h; rfl) | (obtain ⟨_, _, _, _, _, _, rfl, _⟩ := h; rfl) | (obtain ⟨_, _, _, _, _, _, _, rfl, _⟩ := h; rfl) | (obtain ⟨_, _, _, _, _, _, _, _, rfl, _⟩ := h; rfl)) fun cdv A outer s H ds DH Q hr h => ⟨_, bd_law_fives b h_law_of hr, law_fives_ok h⟩, e, F.kp, F.binds (ps := ["source", "places"]) fun _ _ _ _ _ _ us hl => match us, hl with | [_, _], _ => rfl⟩
theorem ok_law (b : Bl mg) (h_move_paper : Has P w K mg base 5 "move_paper" sp_move_paper) (h_law_source : Has P w K mg base 1 "_law_source" (sp_law_source K)) (h_law_pick : Has P w K mg base 1 "_law_pick" sp_law_pick) (h_law_places : Has P w K mg base 2 "_law_places" sp_law_places) (h_law_unlike : Has P w K mg base 2 "_law_unlike" sp_law_unlike) (h_law_is_right : Has P w K mg base 2 "_law_is_right" sp_law_is_right) (h_law_other : Has P w K mg base 3 "_law_other" sp_law_other) (h_law_fives : Has P w K mg base 3 "_law_fives" sp_law_fives) {f : Addr} {fd : FuncData} (F : Fun K "law" "law" st_law f fd) : FnG P w K mg base 6 f ["script"] fd (loP (spLaw K)) :=
  gok F sc_law (fun ds H Q h => by first | (obtain ⟨rfl, _⟩ := h; rfl) | (obtain ⟨_, rfl, _⟩ := h; rfl) | (obtain ⟨_, _, rfl, _⟩ := h; rfl) | (obtain ⟨_, _, _, rfl, _⟩ := h; rfl) | (obtain ⟨_, _, _, _, rfl, _⟩ := h; rfl) | (obtain ⟨_, _, _, _, _, rfl, _⟩ := h; rfl) | (obtain ⟨_, _, _, _, _, _, rfl, _⟩ := h; rfl) | (obtain ⟨_, _, _, _, _, _, _, rfl, _⟩ := h; rfl) | (obtain ⟨_, _, _, _, _, _, _, _, rfl, _⟩ := h; rfl)) fun cdv A outer s H ds DH Q hgd hr h => ⟨_, bd_law b h_move_paper h_law_source h_law_pick h_law_places h_law_unlike h_law_is_right h_law_other h_law_fives hgd hr, law_ok h⟩
end
theorem all_of {l : PySem.W.OpenLaw} {w : World} {K : PySem.W.Frag} {h : Heap} {mg : Str → Option Value} {fa : Addr} (X : K.In h) (G : h.Ns mainGlobals mg) (hfa : mg "law" = some (.ref fa)) (bl : BlK K) (t_first_apart : TopAt K "first_apart" st_first_apart) (t_led : TopAt K "led" st_led) (t_across : TopAt K "across" st_across) (t_first_off : TopAt K "first_off" st_first_off) (t_moved_part : TopAt K "moved_part" st_moved_part) (t_first_elsewhere : TopAt K "first_elsewhere" st_first_elsewhere) (t_does_take : TopAt K "does_take" st_does_take) (t_along : TopAt K "along" st_along) (t_greatest_divisor : TopAt K "greatest_divisor" st_greatest_divisor) (t_lowered : TopAt K "lowered" st_lowered) (t_turn_of : TopAt K "turn_of" st_turn_of) (t_move_between : TopAt K "move_between" st_move_between) (t_square : TopAt K "square" st_square) (t_unlike_pair : TopAt K "unlike_pair" st_unlike_pair) (t_move_paper : TopAt K "move_paper" st_move_paper) (t_law_source : TopAt K "_law_source" st_law_source) (t_law_pick : TopAt K "_law_pick" st_law_pick) (t_law_places : TopAt K "_law_places" st_law_places) (t_law_pairs : TopAt K "_law_pairs" st_law_pairs) (t_law_square : TopAt K "_law_square" st_law_square) (t_law_unlike : TopAt K "_law_unlike" st_law_unlike) (t_law_divisor : TopAt K "_law_divisor" st_law_divisor) (t_law_is_right : TopAt K "_law_is_right" st_law_is_right) (t_law_of : TopAt K "_law_of" st_law_of) (t_law_other : TopAt K "_law_other" st_law_other) (t_law_fives : TopAt K "_law_fives" st_law_fives) (t_law : TopAt K "law" st_law) :
    ∃ fd : FuncData, (∀ (s : Shared) (v : Value), BindsTo s fd ⟨[v], []⟩ [("script", v)]) ∧ ∀ base : Heap, K.In base → base.Ns mainGlobals mg → FnG l.prog w K mg base 6 fa ["script"] fd (loP (spLaw K)) := by
  have b := bl.top X G
  obtain ⟨f, fd, F, e⟩ := t_law.top X G
  have e := hfa.symm.trans e
  cases e
  refine ⟨fd, fun s v => ?_, fun base _ _ => ?_⟩
  · obtain ⟨oc, od, kV, doc, pm, an, cdv, ct, osl, rfl, lk, hcd⟩ := F.ex
    exact .of_eq rfl
  have h_first_apart := has_first_apart (P := l.prog) (w := w) (base := base) b  (t_first_apart.top X G)
  have h_led := has_led (P := l.prog) (w := w) (base := base) b  (t_led.top X G)
  have h_across := has_across (P := l.prog) (w := w) (base := base) b  (t_across.top X G)
  have h_first_off := has_first_off (P := l.prog) (w := w) (base := base) b h_led h_across (t_first_off.top X G)
  have h_moved_part := has_moved_part (P := l.prog) (w := w) (base := base) b  (t_moved_part.top X G)
  have h_first_elsewhere := has_first_elsewhere (P := l.prog) (w := w) (base := base) b h_moved_part (t_first_elsewhere.top X G)
  have h_does_take := has_does_take (P := l.prog) (w := w) (base := base) b h_first_elsewhere (t_does_take.top X G)
  have h_along := has_along (P := l.prog) (w := w) (base := base) b  (t_along.top X G)
  have h_greatest_divisor := has_greatest_divisor (P := l.prog) (w := w) (base := base) b  (t_greatest_divisor.top X G)
  have h_lowered := has_lowered (P := l.prog) (w := w) (base := base) b h_greatest_divisor (t_lowered.top X G)
  have h_turn_of := has_turn_of (P := l.prog) (w := w) (base := base) b h_led h_across h_along h_moved_part h_lowered (t_turn_of.top X G)
  have h_move_between := has_move_between (P := l.prog) (w := w) (base := base) b h_first_apart h_first_off h_does_take h_turn_of (t_move_between.top X G)
  have h_square := has_square (P := l.prog) (w := w) (base := base) b  (t_square.top X G)
  have h_unlike_pair := has_unlike_pair (P := l.prog) (w := w) (base := base) b h_square (t_unlike_pair.top X G)
  have h_move_paper := has_move_paper (P := l.prog) (w := w) (base := base) b h_move_between h_unlike_pair (t_move_paper.top X G)
  have h_law_source := has_law_source (P := l.prog) (w := w) (base := base) b  (t_law_source.top X G)
  have h_law_pick := has_law_pick (P := l.prog) (w := w) (base := base) b  (t_law_pick.top X G)
  have h_law_places := has_law_places (P := l.prog) (w := w) (base := base) b h_law_pick (t_law_places.top X G)
  have h_law_pairs := has_law_pairs (P := l.prog) (w := w) (base := base) b  (t_law_pairs.top X G)
  have h_law_square := has_law_square (P := l.prog) (w := w) (base := base) b  (t_law_square.top X G)
  have h_law_unlike := has_law_unlike (P := l.prog) (w := w) (base := base) b h_law_pairs h_law_square (t_law_unlike.top X G)
  have h_law_divisor := has_law_divisor (P := l.prog) (w := w) (base := base) b  (t_law_divisor.top X G)
  have h_law_is_right := has_law_is_right (P := l.prog) (w := w) (base := base) b h_law_divisor (t_law_is_right.top X G)
  have h_law_of := has_law_of (P := l.prog) (w := w) (base := base) b h_law_pick (t_law_of.top X G)
  have h_law_other := has_law_other (P := l.prog) (w := w) (base := base) b h_law_pick h_law_of (t_law_other.top X G)
  have h_law_fives := has_law_fives (P := l.prog) (w := w) (base := base) b h_law_of (t_law_fives.top X G)
  exact ok_law b h_move_paper h_law_source h_law_pick h_law_places h_law_unlike h_law_is_right h_law_other h_law_fives F
end DL
open PySem PySem.W PyProof.Rows
set_option maxRecDepth 100000 in
set_option maxHeartbeats 0 in
theorem PySem.Challenge.cw_firmframes_k04_whole_places_alike_holds : PySem.Challenge.rw_firmframes_k04_whole_places_alike.Holds := by
  w_on; o_law; k_head; (case hw => w_witness2)
  k_fill
  refine DL.law_end (l := PySem.Challenge.rw_firmframes_k04_whole_places_alike) (k := 6) (x := "script") rfl rfl ⟨rfl, by decide, by decide⟩ (fun w h Y => PySem.W.kIn_of Y) ?F
  case F =>
    intro w mg fa h KX G hmg
    refine' DL.all_of KX G hmg ?bl ?t_first_apart ?t_led ?t_across ?t_first_off ?t_moved_part ?t_first_elsewhere ?t_does_take ?t_along ?t_greatest_divisor ?t_lowered ?t_turn_of ?t_move_between ?t_square ?t_unlike_pair ?t_move_paper ?t_law_source ?t_law_pick ?t_law_places ?t_law_pairs ?t_law_square ?t_law_unlike ?t_law_divisor ?t_law_is_right ?t_law_of ?t_law_other ?t_law_fives ?t_law
    (case bl => refine' DL.BlK.mk ?b0 ?b1 ?b2 ?b3 ?b4 ?b5 ?b6 ?b7 ?b8 ?b9 ?b10 ?b11 ?b12 ?b13 ?b14 ?b15 ?b16 ?b17 ?b18 ?b19; (case b0 => k_is); (case b1 => k_is); (case b2 => k_is); (case b3 => k_is); (case b4 => k_is); (case b5 => k_is); (case b6 => k_is); (case b7 => k_is); (case b8 => k_is); (case b9 => k_is); (case b10 => k_is); (case b11 => k_is); (case b12 => k_is); (case b13 => k_is); (case b14 => k_is); (case b15 => k_is); (case b16 => k_is); (case b17 => k_is); (case b18 => k_is); (case b19 => k_is))
    (case t_first_apart => refine' DL.TopAt.mk ?a ?l ?c ?k; (case a => k_is); (case l => k_is); (case c => k_is); (case k => k_is))
    (case t_led => refine' DL.TopAt.mk ?a ?l ?c ?k; (case a => k_is); (case l => k_is); (case c => k_is); (case k => k_is))
    (case t_across => refine' DL.TopAt.mk ?a ?l ?c ?k; (case a => k_is); (case l => k_is); (case c => k_is); (case k => k_is))
    (case t_first_off => refine' DL.TopAt.mk ?a ?l ?c ?k; (case a => k_is); (case l => k_is); (case c => k_is); (case k => k_is))
    (case t_moved_part => refine' DL.TopAt.mk ?a ?l ?c ?k; (case a => k_is); (case l => k_is); (case c => k_is); (case k => k_is))
    (case t_first_elsewhere => refine' DL.TopAt.mk ?a ?l ?c ?k; (case a => k_is); (case l => k_is); (case c => k_is); (case k => k_is))
    (case t_does_take => refine' DL.TopAt.mk ?a ?l ?c ?k; (case a => k_is); (case l => k_is); (case c => k_is); (case k => k_is))
    (case t_along => refine' DL.TopAt.mk ?a ?l ?c ?k; (case a => k_is); (case l => k_is); (case c => k_is); (case k => k_is))
    (case t_greatest_divisor => refine' DL.TopAt.mk ?a ?l ?c ?k; (case a => k_is); (case l => k_is); (case c => k_is); (case k => k_is))
    (case t_lowered => refine' DL.TopAt.mk ?a ?l ?c ?k; (case a => k_is); (case l => k_is); (case c => k_is); (case k => k_is))
    (case t_turn_of => refine' DL.TopAt.mk ?a ?l ?c ?k; (case a => k_is); (case l => k_is); (case c => k_is); (case k => k_is))
    (case t_move_between => refine' DL.TopAt.mk ?a ?l ?c ?k; (case a => k_is); (case l => k_is); (case c => k_is); (case k => k_is))
    (case t_square => refine' DL.TopAt.mk ?a ?l ?c ?k; (case a => k_is); (case l => k_is); (case c => k_is); (case k => k_is))
    (case t_unlike_pair => refine' DL.TopAt.mk ?a ?l ?c ?k; (case a => k_is); (case l => k_is); (case c => k_is); (case k => k_is))
    (case t_move_paper => refine' DL.TopAt.mk ?a ?l ?c ?k; (case a => k_is); (case l => k_is); (case c => k_is); (case k => k_is))
    (case t_law_source => refine' DL.TopAt.mk ?a ?l ?c ?k; (case a => k_is); (case l => k_is); (case c => k_is); (case k => k_is))
    (case t_law_pick => refine' DL.TopAt.mk ?a ?l ?c ?k; (case a => k_is); (case l => k_is); (case c => k_is); (case k => k_is))
    (case t_law_places => refine' DL.TopAt.mk ?a ?l ?c ?k; (case a => k_is); (case l => k_is); (case c => k_is); (case k => k_is))
    (case t_law_pairs => refine' DL.TopAt.mk ?a ?l ?c ?k; (case a => k_is); (case l => k_is); (case c => k_is); (case k => k_is))
    (case t_law_square => refine' DL.TopAt.mk ?a ?l ?c ?k; (case a => k_is); (case l => k_is); (case c => k_is); (case k => k_is))
    (case t_law_unlike => refine' DL.TopAt.mk ?a ?l ?c ?k; (case a => k_is); (case l => k_is); (case c => k_is); (case k => k_is))
    (case t_law_divisor => refine' DL.TopAt.mk ?a ?l ?c ?k; (case a => k_is); (case l => k_is); (case c => k_is); (case k => k_is))
    (case t_law_is_right => refine' DL.TopAt.mk ?a ?l ?c ?k; (case a => k_is); (case l => k_is); (case c => k_is); (case k => k_is))
    (case t_law_of => refine' DL.TopAt.mk ?a ?l ?c ?k; (case a => k_is); (case l => k_is); (case c => k_is); (case k => k_is))
    (case t_law_other => refine' DL.TopAt.mk ?a ?l ?c ?k; (case a => k_is); (case l => k_is); (case c => k_is); (case k => k_is))
    (case t_law_fives => refine' DL.TopAt.mk ?a ?l ?c ?k; (case a => k_is); (case l => k_is); (case c => k_is); (case k => k_is))
    (case t_law => refine' DL.TopAt.mk ?a ?l ?c ?k; (case a => k_is); (case l => k_is); (case c => k_is); (case k => k_is))
#print axioms PySem.Challenge.cw_firmframes_k04_whole_places_alike_holds

