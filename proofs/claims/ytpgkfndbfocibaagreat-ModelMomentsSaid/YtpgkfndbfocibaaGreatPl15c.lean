import Derived.Test.YtpgkfndbfocibaaGreatSepM
import Derived.Test.YtpgkfndbfocibaaGreatSp11
import Derived.Lib.SlicesCompact
namespace Go.Own.R
open Go Go.Own
def outB (a : Int) : Bool := decide (a < 0 ∨ 1600 < a)
def idxF (p : Int → Bool) (l : List Int) : Int := match l.findIdx? p with | some i => (i : Int) | none => -1
def ckR (l : List Int) : Int × Int := if l.length < 1 ∨ 8 < l.length then (-1, 7) else if 0 ≤ idxF outB l then (idxF outB l, 7) else (0, 0)
def inB (n : Nat) (a : Int) : Bool := decide (0 ≤ a ∧ a < n)
def nmE (l ns : List Int) : Int := if (ckR l).2 ≠ 0 then (ckR l).2 else if ns.all (inB l.length) then 0 else 10
def stE (l : List Int) (a x : Int) : Int := if nmE l [a] ≠ 0 then nmE l [a] else if x < 0 ∨ 1600 < x then 7 else 0
def stT (l : List Int) (a x : Int) : List Int := if stE l a x ≠ 0 then [] else l.set a.toNat x
def alB (l : List Int) (a b : Int) : Bool := decide (nmE l [a, b] = 0 ∧ l.getD a.toNat 0 = l.getD b.toNat 0)
theorem as_step {l ns : List Int} {j : Nat} {y e : Int} (he : e = if (ckR l).2 ≠ 0 then (ckR l).2 else if (ns.take j).all (inB l.length) then 0 else 10) (h0 : e = 0) (hy : ns[j]? = some y) (e' : Int) (h1 : (y < 0 ∨ (l.length : Int) ≤ y) → e' = 10) (h2 : ¬ (y < 0 ∨ (l.length : Int) ≤ y) → e' = 0) :
  e' = if (ckR l).2 ≠ 0 then (ckR l).2 else if (ns.take (j + 1)).all (inB l.length) then 0 else 10 := by
 have hc : (ckR l).2 = 0 := by
  apply Classical.byContradiction; intro h; rw [if_pos h] at he; omega
 rw [if_neg (by simpa using hc)] at he ⊢
 rw [take_snoc' ns j y hy, List.all_append]
 have ha : (ns.take j).all (inB l.length) = true := by
  apply Classical.byContradiction; intro h; rw [if_neg h] at he; omega
 rw [ha]
 by_cases hb : y < 0 ∨ (l.length : Int) ≤ y
 ·rw [h1 hb]
  have : inB l.length y = false := by simp [inB]; omega
  simp [this]
 ·rw [h2 hb]
  have : inB l.length y = true := by simp [inB]; omega
  simp [this]
theorem as_init (l ns : List Int) : (ckR l).2 = if (ckR l).2 ≠ 0 then (ckR l).2 else if (ns.take 0).all (inB l.length) then 0 else 10 := by
 by_cases h : (ckR l).2 = 0 <;> simp [h]
theorem as_done {l ns : List Int} {j : Nat} {e : Int} (he : e = if (ckR l).2 ≠ 0 then (ckR l).2 else if (ns.take j).all (inB l.length) then 0 else 10) (h : ¬ e = 0 ∨ ns.length ≤ j) (hj : j ≤ ns.length) : e = nmE l ns := by
 unfold nmE
 by_cases hc : (ckR l).2 = 0
 ·rw [if_neg (by simpa using hc)] at he ⊢
  rcases h with h | h
  ·have : ¬ (ns.take j).all (inB l.length) = true := fun q => by rw [if_pos q] at he; exact h he
   rw [if_neg this] at he
   rw [if_neg, he]
   intro q
   exact this (List.all_eq_true.2 fun x hx => List.all_eq_true.1 q x (List.mem_of_mem_take hx))
  ·rw [List.take_of_length_le h] at he; exact he
 ·rw [if_pos hc] at he ⊢; exact he
theorem eq_all {xs ys : List Int} (h1 : xs.length = ys.length) {k : Nat} (hk : xs.length ≤ k) (h : ∀ i, i < k → xs[i]? = ys[i]?) : xs = ys := by
 apply List.ext_getElem?
 intro i
 by_cases hi : i < k
 ·exact h i hi
 ·rw [List.getElem?_eq_none (by omega), List.getElem?_eq_none (by omega)]
theorem eq_step {xs ys : List Int} {k : Nat} {x y : Int} (h : ∀ i, i < k → xs[i]? = ys[i]?) (hx : xs[k]? = some x) (hy : ys[k]? = some y) (e : x = y) : ∀ i, i < k + 1 → xs[i]? = ys[i]? := by
 intro i hi
 by_cases q : i = k
 ·subst q; rw [hx, hy, e]
 ·exact h i (by omega)
theorem eq_ne {xs ys : List Int} {k : Nat} {x y : Int} (hx : xs[k]? = some x) (hy : ys[k]? = some y) (e : x ≠ y) : xs ≠ ys := by
 rintro rfl; rw [hx] at hy; cases hy; exact e rfl
end Go.Own.R

namespace Go.Own.R
open Go Go.Own
def sortL (l : List Int) : List Int := l.mergeSort fun x y => decide (x ≤ y)
theorem sortL_mem {l : List Int} {x : Int} : x ∈ sortL l ↔ x ∈ l := List.mem_mergeSort
theorem sortL_asc (l : List Int) : (sortL l).Pairwise (fun x y => x ≤ y) := by
 have h := List.pairwise_mergeSort (le := fun x y : Int => decide (x ≤ y)) (fun a b c h1 h2 => by simp at *; omega) (fun a b => by simp; omega) l
 exact h.imp (fun h => by simpa using h)
theorem asc_unique : ∀ {xs ys : List Int}, xs.Pairwise (· < ·) → ys.Pairwise (· < ·) → (∀ a, a ∈ xs ↔ a ∈ ys) → xs = ys
 | [], [], _, _, _ => rfl
 | [], y :: ys, _, _, h => absurd ((h y).2 (by simp)) (by simp)
 | x :: xs, [], _, _, h => absurd ((h x).1 (by simp)) (by simp)
 | x :: xs, y :: ys, h1, h2, h => by
  rw [List.pairwise_cons] at h1 h2
  have e : x = y := by
   have a := (h x).1 (by simp)
   have b := (h y).2 (by simp)
   rcases List.mem_cons.1 a with a | a
   ·exact a
   ·rcases List.mem_cons.1 b with b | b
    ·exact b.symm
    ·have := h1.1 _ b; have := h2.1 _ a; omega
  subst e
  rw [asc_unique h1.2 h2.2 fun a => ?_]
  constructor
  ·intro ha
   have := h1.1 a ha
   rcases List.mem_cons.1 ((h a).1 (List.mem_cons_of_mem _ ha)) with q | q
   ·omega
   ·exact q
  ·intro ha
   have := h2.1 a ha
   rcases List.mem_cons.1 ((h a).2 (List.mem_cons_of_mem _ ha)) with q | q
   ·omega
   ·exact q
def tgK (l : List Int) (k : Nat) : List Int := ((List.range k).map fun (i : Nat) => ((i : Int) + 1)).filter fun a => decide (a ∈ l)
theorem tgK_len (l : List Int) (k : Nat) : (tgK l k).length ≤ k := by unfold tgK; exact Nat.le_trans (List.length_filter_le _ _) (by simp)
theorem tgK_in {l : List Int} {k : Nat} (h : ((k : Int) + 1) ∈ l) : tgK l k ++ [(k : Int) + 1] = tgK l (k + 1) := by
 unfold tgK; rw [List.range_succ, List.map_append, List.filter_append]; simp [h]
theorem tgK_out {l : List Int} {k : Nat} (h : ((k : Int) + 1) ∉ l) : tgK l k = tgK l (k + 1) := by
 unfold tgK; rw [List.range_succ, List.map_append, List.filter_append]; simp [h]
theorem tgK_asc (l : List Int) (k : Nat) : (tgK l k).Pairwise (· < ·) := by
 unfold tgK
 exact List.Pairwise.filter _ (List.pairwise_map.2 (List.pairwise_lt_range.imp fun h => by omega))
theorem tgK_mem {l : List Int} {k : Nat} {x : Int} : x ∈ tgK l k ↔ 1 ≤ x ∧ x ≤ k ∧ x ∈ l := by
 unfold tgK
 rw [List.mem_filter]
 constructor
 ·rintro ⟨h1, h2⟩
  obtain ⟨i, hi, rfl⟩ := List.mem_map.1 h1
  rw [List.mem_range] at hi
  exact ⟨by omega, by omega, by simpa using h2⟩
 ·rintro ⟨h1, h2, h3⟩
  exact ⟨List.mem_map.2 ⟨(x - 1).toNat, List.mem_range.2 (by omega), by omega⟩, by simpa using h3⟩
end Go.Own.R

namespace Go.Own.G
open Go Go.Own
variable {α : Type}
def idxFG (p : α → Bool) (l : List α) : Int := match l.findIdx? p with | some i => (i : Int) | none => -1
theorem idxF_noG {p : α → Bool} {l : List α} (h : ∀ i, i < l.length → ∀ x, l[i]? = some x → p x = false) : idxFG p l = -1 := by
 have : l.findIdx? p = none := by
  rw [List.findIdx?_eq_none_iff]; intro x hx
  obtain ⟨i, hi, rfl⟩ := List.mem_iff_getElem.1 hx
  exact h i hi _ (List.getElem?_eq_getElem hi)
 unfold idxFG; rw [this]
theorem idxF_atG {p : α → Bool} {l : List α} {k : Nat} {y : α} (hn : ∀ i, i < k → ∀ x, l[i]? = some x → p x = false) (hy : l[k]? = some y) (h : p y = true) : idxFG p l = k := by
 obtain ⟨hk, rfl⟩ := List.getElem?_eq_some_iff.1 hy
 have : l.findIdx? p = some k := by
  rw [List.findIdx?_eq_some_iff_getElem]
  refine ⟨hk, h, fun j hj => ?_⟩
  have := hn j hj _ (List.getElem?_eq_getElem (by omega)); simp [this]
 unfold idxFG; rw [this]
theorem no_stepG {p : α → Bool} {l : List α} {k : Nat} {y : α} (hn : ∀ i, i < k → ∀ x, l[i]? = some x → p x = false) (hy : l[k]? = some y) (h : p y = false) : ∀ i, i < k + 1 → ∀ x, l[i]? = some x → p x = false := by
 intro i hi x hx
 by_cases e : i = k
 ·subst e; rw [hy] at hx; cases hx; exact h
 ·exact hn i (by omega) x hx
theorem idxF_bdG (p : α → Bool) (l : List α) : -1 ≤ idxFG p l ∧ idxFG p l < l.length := by
 unfold idxFG
 cases h : l.findIdx? p with
 | none => simp; omega
 | some i =>
  rw [List.findIdx?_eq_some_iff_getElem] at h
  obtain ⟨hi, _⟩ := h
  simp; omega
theorem idxF_specG {p : α → Bool} {l : List α} (h : ¬ idxFG p l = -1) : ∃ (k : Nat) (y : α), idxFG p l = (k : Int) ∧ l[k]? = some y ∧ p y = true ∧ ∀ i, i < k → ∀ x, l[i]? = some x → p x = false := by
 unfold idxFG at h ⊢
 cases e : l.findIdx? p with
 | none => rw [e] at h; exact absurd rfl h
 | some k =>
  rw [List.findIdx?_eq_some_iff_getElem] at e
  obtain ⟨hk, h1, h2⟩ := e
  refine ⟨k, l[k], rfl, List.getElem?_eq_getElem hk, h1, fun i hi x hx => ?_⟩
  obtain ⟨hi2, rfl⟩ := List.getElem?_eq_some_iff.1 hx
  simpa using h2 i hi
def flG (p : α → Bool) (l : List α) : List α := l.filter fun x => !p x
theorem fl_noG {p : α → Bool} {l : List α} (h : idxFG p l = -1) : l = flG p l := by
 unfold flG; symm; rw [List.filter_eq_self]
 intro x hx
 unfold idxFG at h
 cases e : l.findIdx? p with
 | none => rw [List.findIdx?_eq_none_iff] at e; simp [e x hx]
 | some k => rw [e] at h; simp at h <;> omega
end Go.Own.G

namespace Go.Own.Gr
open Go Go.Own Go.Own.R Go.Own.G
abbrev Ab := List Int × List Int
def sz2 (o : Ab) : Int := IntKind.i64.wrap ((o.1.length : Int) + (o.2.length : Int))
def noB (n : Nat) (i : Int) : Bool := decide (i < 0 ∨ (n : Int) < i)
def cgGo (n : Nat) : List Ab → Nat → Int × Int
 | [], _ => (0, 0)
 | o :: r, i => if 31 < sz2 o then ((i : Int) + 1, 3) else if o.1.any (noB n) then ((i : Int) + 1, 6) else cgGo n r (i + 1)
def ckG (O : List Ab) (rs : List Int) : Int × Int :=
 if rs.length < 1 ∨ 8 < rs.length then (0, 7) else if 400 < O.length then (0, 3) else
 if (cgGo O.length O 0).2 ≠ 0 then cgGo O.length O 0 else if rs.any (noB O.length) then (0, 6) else (0, 0)
theorem ckG_rng {O : List Ab} {rs : List Int} (h : (rs.length : Int) < 1 ∨ 8 < (rs.length : Int)) : ckG O rs = (0, 7) := by unfold ckG; rw [if_pos (by omega)]
theorem ckG_long {O : List Ab} {rs : List Int} (h : ¬ ((rs.length : Int) < 1 ∨ 8 < (rs.length : Int))) (h2 : 400 < (O.length : Int)) : ckG O rs = (0, 3) := by unfold ckG; rw [if_neg (by omega), if_pos (by omega)]
theorem drop_at15 {α : Type} {l : List α} {k : Nat} {y : α} (hy : l[k]? = some y) : l.drop k = y :: l.drop (k + 1) := by
 obtain ⟨hk, rfl⟩ := List.getElem?_eq_some_iff.1 hy
 exact List.drop_eq_getElem_cons hk
def cgAt (O : List Ab) (k : Nat) : Prop := cgGo O.length O 0 = cgGo O.length (O.drop k) k
theorem cg_step {O : List Ab} {k : Nat} {y : Ab} (hz : cgAt O k) (hy : O[k]? = some y) (h1 : ¬ 31 < sz2 y) (h2 : y.1.any (noB O.length) = false) : cgAt O (k + 1) := by
 unfold cgAt at hz ⊢
 rw [hz, drop_at15 hy, cgGo, if_neg h1, h2]; rfl
theorem cg_done {O : List Ab} {k : Nat} (hz : cgAt O k) (hk : O.length ≤ k) : cgGo O.length O 0 = (0, 0) := by
 unfold cgAt at hz; rw [hz, List.drop_eq_nil_of_le hk]; rfl
theorem ckG_obj {O : List Ab} {rs : List Int} {k : Nat} {y : Ab} (h : ¬ ((rs.length : Int) < 1 ∨ 8 < (rs.length : Int))) (h2 : ¬ 400 < (O.length : Int)) (hz : cgAt O k) (hy : O[k]? = some y) :
  (31 < sz2 y → ckG O rs = ((k : Int) + 1, 3)) ∧ (¬ 31 < sz2 y → y.1.any (noB O.length) = true → ckG O rs = ((k : Int) + 1, 6)) := by
 unfold cgAt at hz
 constructor
 ·intro q
  have e : cgGo O.length O 0 = ((k : Int) + 1, 3) := by rw [hz, drop_at15 hy, cgGo, if_pos q]
  unfold ckG; rw [if_neg (by omega), if_neg (by omega), e]; simp
 ·intro q r
  have e : cgGo O.length O 0 = ((k : Int) + 1, 6) := by rw [hz, drop_at15 hy, cgGo, if_neg q, if_pos r]
  unfold ckG; rw [if_neg (by omega), if_neg (by omega), e]; simp
theorem ckG_end {O : List Ab} {rs : List Int} {k : Nat} (h : ¬ ((rs.length : Int) < 1 ∨ 8 < (rs.length : Int))) (h2 : ¬ 400 < (O.length : Int)) (hz : cgAt O k) (hk : O.length ≤ k) : ckG O rs = if rs.any (noB O.length) = true then (0, 6) else (0, 0) := by
 unfold ckG; rw [if_neg (by omega), if_neg (by omega), cg_done hz hk]; simp
theorem cgGo_none (n : Nat) : ∀ (r : List Ab) (i : Nat), ((cgGo n r i).2 = 0 ↔ ∀ o ∈ r, sz2 o ≤ 31 ∧ ∀ p ∈ o.1, 0 ≤ p ∧ p ≤ n)
 | [], i => by simp [cgGo]
 | o :: r, i => by
  unfold cgGo
  by_cases h1 : 31 < sz2 o
  ·rw [if_pos h1]
   refine ⟨fun q => (by cases q), fun q => ?_⟩
   have := (q o (by simp)).1; omega
  ·rw [if_neg h1]
   by_cases h2 : o.1.any (noB n) = true
   ·rw [if_pos h2]
    refine ⟨fun q => (by cases q), fun q => ?_⟩
    obtain ⟨p, hp, hn⟩ := List.any_eq_true.1 h2
    have := (q o (by simp)).2 p hp
    unfold noB at hn; simp at hn; omega
   ·rw [if_neg h2, cgGo_none n r (i + 1)]
    constructor
    ·intro q x hx
     rcases List.mem_cons.1 hx with rfl | hx
     ·refine ⟨by omega, fun p hp => ?_⟩
      have h3 : noB n p = false := by
       cases e : noB n p
       ·rfl
       ·exact absurd (List.any_eq_true.2 ⟨p, hp, e⟩) h2
      unfold noB at h3; simp at h3; omega
     ·exact q x hx
    ·exact fun q x hx => q x (List.mem_cons_of_mem _ hx)
structure GG (O : List Ab) (rs : List Int) : Prop where
 r1 : 1 ≤ rs.length
 r8 : rs.length ≤ 8
 o4 : O.length ≤ 400
 obj : ∀ o ∈ O, sz2 o ≤ 31 ∧ ∀ p ∈ o.1, 0 ≤ p ∧ p ≤ (O.length : Int)
 reg : ∀ p ∈ rs, 0 ≤ p ∧ p ≤ (O.length : Int)
theorem any_no {n : Nat} {l : List Int} : l.any (noB n) = true ↔ ¬ ∀ p ∈ l, 0 ≤ p ∧ p ≤ (n : Int) := by
 rw [List.any_eq_true]
 constructor
 ·rintro ⟨p, hp, hn⟩ h
  have := h p hp
  unfold noB at hn; simp at hn; omega
 ·intro h
  apply Classical.byContradiction
  intro q
  refine h fun p hp => ?_
  apply Classical.byContradiction
  intro r
  exact q ⟨p, hp, by unfold noB; simp; omega⟩
theorem ckG_iff {O : List Ab} {rs : List Int} : (ckG O rs).2 = 0 ↔ GG O rs := by
 unfold ckG
 by_cases h1 : rs.length < 1 ∨ 8 < rs.length
 ·rw [if_pos h1]; exact ⟨fun q => (by cases q), fun q => by have := q.r1; have := q.r8; omega⟩
 ·rw [if_neg h1]
  by_cases h2 : 400 < O.length
  ·rw [if_pos h2]; exact ⟨fun q => (by cases q), fun q => by have := q.o4; omega⟩
  ·rw [if_neg h2]
   by_cases h3 : (cgGo O.length O 0).2 ≠ 0
   ·rw [if_pos h3]; exact ⟨fun q => absurd q h3, fun q => absurd ((cgGo_none _ _ _).2 q.obj) h3⟩
   ·rw [if_neg h3]
    by_cases h4 : rs.any (noB O.length) = true
    ·rw [if_pos h4]; exact ⟨fun q => (by cases q), fun q => absurd q.reg (any_no.1 h4)⟩
    ·rw [if_neg h4]
     refine ⟨fun _ => ⟨by omega, by omega, by omega, (cgGo_none _ _ _).1 (by simpa using h3), ?_⟩, fun _ => rfl⟩
     apply Classical.byContradiction
     intro q; exact h4 (any_no.2 q)
def inR (n : Nat) (a : Int) : Bool := decide (0 ≤ a ∧ a < n)
def ckd (O : List Ab) (rs ns : List Int) : Int := if (ckG O rs).2 ≠ 0 then (ckG O rs).2 else if ns.all (inR rs.length) then 0 else 10
theorem ckd_ck {O : List Ab} {rs ns : List Int} (h : (ckG O rs).2 ≠ 0) : ckd O rs ns = (ckG O rs).2 := by unfold ckd; rw [if_pos h]
theorem ckd_bad {O : List Ab} {rs ns : List Int} {j : Nat} {y : Int} (h : ¬ (ckG O rs).2 ≠ 0) (hy : ns[j]? = some y) (hb : y < 0 ∨ (rs.length : Int) ≤ y) : ckd O rs ns = 10 := by
 unfold ckd; rw [if_neg h, if_neg]
 intro ha
 have := List.all_eq_true.1 ha y (List.mem_of_getElem? hy)
 simp [inR] at this; omega
theorem ckd_ok {O : List Ab} {rs ns : List Int} {j : Nat} (h : ¬ (ckG O rs).2 ≠ 0) (hj : ∀ i, i < j → ∀ x, ns[i]? = some x → 0 ≤ x ∧ x < (rs.length : Int)) (hl : ns.length ≤ j) : ckd O rs ns = 0 := by
 unfold ckd; rw [if_neg h, if_pos]
 rw [List.all_eq_true]; intro x hx
 obtain ⟨i, hi, rfl⟩ := List.mem_iff_getElem.1 hx
 have := hj i (by omega) _ (List.getElem?_eq_getElem hi)
 simp [inR]; omega
theorem rg_step {rs ns : List Int} {j : Nat} {y : Int} (h : ∀ i, i < j → ∀ x, ns[i]? = some x → 0 ≤ x ∧ x < (rs.length : Int)) (hy : ns[j]? = some y) (hr : 0 ≤ y ∧ y < (rs.length : Int)) : ∀ i, i < j + 1 → ∀ x, ns[i]? = some x → 0 ≤ x ∧ x < (rs.length : Int) := by
 intro i hi x hx
 by_cases e : i = j
 ·subst e; rw [hy] at hx; cases hx; exact hr
 ·exact h i (by omega) x hx
theorem ckd_0 {O : List Ab} {rs ns : List Int} : ckd O rs ns = 0 ↔ GG O rs ∧ ∀ x ∈ ns, 0 ≤ x ∧ x < (rs.length : Int) := by
 unfold ckd
 by_cases h : (ckG O rs).2 ≠ 0
 ·rw [if_pos h]; exact ⟨fun q => absurd q h, fun q => absurd (ckG_iff.2 q.1) h⟩
 ·rw [if_neg h]
  have hg := ckG_iff.1 (by simpa using h)
  by_cases q : ns.all (inR rs.length) = true
  ·rw [if_pos q]
   refine ⟨fun _ => ⟨hg, fun x hx => ?_⟩, fun _ => rfl⟩
   have := List.all_eq_true.1 q x hx
   simpa [inR] using this
  ·rw [if_neg q]
   refine ⟨fun r => (by cases r), fun r => absurd ?_ q⟩
   rw [List.all_eq_true]; intro x hx
   have := r.2 x hx
   simp [inR]; omega
def rg (rs : List Int) (a : Int) : Int := rs.getD a.toNat 0
def ob (O : List Ab) (rs : List Int) (a : Int) : Ab := O.getD (rg rs a - 1).toNat ([], [])
def alE (O : List Ab) (rs : List Int) (a p r : Int) : Int := if ckd O rs [a] ≠ 0 then ckd O rs [a] else if p < 0 ∨ r < 0 then 10 else if 31 < p ∨ 31 - p < r then 11 else if O.length = 400 then 5 else 0
def alO (O : List Ab) (rs : List Int) (a p r : Int) : List Ab := if alE O rs a p r ≠ 0 then [] else O ++ [(List.replicate p.toNat 0, List.replicate r.toNat 0)]
def alR (O : List Ab) (rs : List Int) (a p r : Int) : List Int := if alE O rs a p r ≠ 0 then [] else rs.set a.toNat ((O.length : Int) + 1)
def ptE (O : List Ab) (rs ns : List Int) (a f : Int) : Int := if ckd O rs ns ≠ 0 then ckd O rs ns else if rg rs a = 0 ∨ f < 0 ∨ ((ob O rs a).1.length : Int) ≤ f then 10 else 0
def rwE (O : List Ab) (rs ns : List Int) (a f : Int) : Int := if ckd O rs ns ≠ 0 then ckd O rs ns else if rg rs a = 0 ∨ f < 0 ∨ ((ob O rs a).2.length : Int) ≤ f then 10 else 0
def ldO (O : List Ab) (rs : List Int) (a b f : Int) : List Ab := if ptE O rs [a, b] b f ≠ 0 then [] else O
def ldR (O : List Ab) (rs : List Int) (a b f : Int) : List Int := if ptE O rs [a, b] b f ≠ 0 then [] else rs.set a.toNat ((ob O rs b).1.getD f.toNat 0)
def soO (O : List Ab) (rs : List Int) (a f b : Int) : List Ab := if ptE O rs [a, b] a f ≠ 0 then [] else O.set (rg rs a - 1).toNat ((ob O rs a).1.set f.toNat (rg rs b), (ob O rs a).2)
def soR (O : List Ab) (rs : List Int) (a f b : Int) : List Int := if ptE O rs [a, b] a f ≠ 0 then [] else rs
def rdV (O : List Ab) (rs : List Int) (a f : Int) : Int := if rwE O rs [a] a f ≠ 0 then 0 else (ob O rs a).2.getD f.toNat 0
def wrO (O : List Ab) (rs : List Int) (a f x : Int) : List Ab := if rwE O rs [a] a f ≠ 0 then [] else O.set (rg rs a - 1).toNat ((ob O rs a).1, (ob O rs a).2.set f.toNat x)
def wrR (O : List Ab) (rs : List Int) (a f : Int) : List Int := if rwE O rs [a] a f ≠ 0 then [] else rs
def kpO (O : List Ab) (rs ns : List Int) : List Ab := if ckd O rs ns ≠ 0 then [] else O
def mvR (O : List Ab) (rs : List Int) (a b : Int) : List Int := if ckd O rs [a, b] ≠ 0 then [] else rs.set a.toNat (rg rs b)
def clR (O : List Ab) (rs : List Int) (a : Int) : List Int := if ckd O rs [a] ≠ 0 then [] else rs.set a.toNat 0
def alB (O : List Ab) (rs : List Int) (a b : Int) : Bool := decide (ckd O rs [a, b] = 0 ∧ rg rs a = rg rs b)
def shE (O : List Ab) (rs : List Int) (a : Int) : Int := if ckd O rs [a] ≠ 0 then ckd O rs [a] else if rg rs a = 0 then 10 else 0
def shP (O : List Ab) (rs : List Int) (a : Int) : Int := if shE O rs a ≠ 0 then 0 else ((ob O rs a).1.length : Int)
def shR (O : List Ab) (rs : List Int) (a : Int) : Int := if shE O rs a ≠ 0 then 0 else ((ob O rs a).2.length : Int)
end Go.Own.Gr

namespace Go.Own.Gr
open Go Go.Own Go.Own.R Go.Own.G
def pt (O : List Ab) (i : Int) : List Int := (O.getD (i - 1).toNat ([], [])).1
inductive Lv (O : List Ab) (rs : List Int) : Int → Prop
 | reg {i : Int} (h : i ∈ rs) (h0 : i ≠ 0) : Lv O rs i
 | ptr {i j : Int} (h : Lv O rs i) (hj : j ∈ pt O i) (h0 : j ≠ 0) : Lv O rs j
theorem pt_mem {O : List Ab} {i : Int} (h : 1 ≤ i ∧ i ≤ (O.length : Int)) : ∃ o, O[(i - 1).toNat]? = some o ∧ o ∈ O ∧ pt O i = o.1 := by
 have hl : (i - 1).toNat < O.length := by omega
 refine ⟨O[(i - 1).toNat], List.getElem?_eq_getElem hl, List.getElem_mem hl, ?_⟩
 unfold pt; rw [List.getD_eq_getElem?_getD, List.getElem?_eq_getElem hl]; rfl
theorem pt_rng {O : List Ab} {rs : List Int} (hg : GG O rs) {i j : Int} (h : 1 ≤ i ∧ i ≤ (O.length : Int)) (hj : j ∈ pt O i) : 0 ≤ j ∧ j ≤ (O.length : Int) := by
 obtain ⟨o, _, ho, e⟩ := pt_mem h
 rw [e] at hj
 exact (hg.obj o ho).2 j hj
theorem Lv.rng {O : List Ab} {rs : List Int} (hg : GG O rs) {i : Int} (h : Lv O rs i) : 1 ≤ i ∧ i ≤ (O.length : Int) := by
 induction h with
 | reg h h0 => have := hg.reg _ h; omega
 | ptr _ hj h0 ih => have := pt_rng hg ih hj; omega
structure Wl (O : List Ab) (rs M T : List Int) : Prop where
 met : ∀ x ∈ M, Lv O rs x
 todo : ∀ x ∈ T, x ≠ 0 → Lv O rs x
 regs : ∀ x ∈ rs, x = 0 ∨ x ∈ M ∨ x ∈ T
 ptrs : ∀ x ∈ M, ∀ j ∈ pt O x, j = 0 ∨ j ∈ M ∨ j ∈ T
 nd : M.Nodup
theorem Wl.init (O : List Ab) (rs : List Int) : Wl O rs [] rs := ⟨fun _ h => (by cases h), fun x h h0 => .reg h h0, fun x h => .inr (.inr h), fun _ h => (by cases h), List.nodup_nil⟩
theorem Wl.skip {O : List Ab} {rs M T T' : List Int} {n : Int} (h : Wl O rs M T) (h1 : ∀ x ∈ T, x = n ∨ x ∈ T') (h2 : ∀ x ∈ T', x ∈ T) (hn : n = 0 ∨ n ∈ M) : Wl O rs M T' := by
 have key : ∀ x, (x = 0 ∨ x ∈ M ∨ x ∈ T) → (x = 0 ∨ x ∈ M ∨ x ∈ T') := by
  rintro x (q | q | q)
  ·exact .inl q
  ·exact .inr (.inl q)
  ·rcases h1 x q with rfl | q
   ·rcases hn with q | q
    ·exact .inl q
    ·exact .inr (.inl q)
   ·exact .inr (.inr q)
 exact ⟨h.met, fun x hx h0 => h.todo x (h2 x hx) h0, fun x hx => key x (h.regs x hx), fun x hx j hj => key j (h.ptrs x hx j hj), h.nd⟩
theorem Wl.mark {O : List Ab} {rs M T T' T'' : List Int} {n : Int} (h : Wl O rs M T) (hT : n ∈ T) (h1 : ∀ x ∈ T, x = n ∨ x ∈ T') (h2 : ∀ x ∈ T', x ∈ T) (h0 : n ≠ 0) (hn : n ∉ M) (h3 : ∀ x, x ∈ T'' ↔ x ∈ T' ∨ x ∈ pt O n) : Wl O rs (M ++ [n]) T'' := by
 have hl := h.todo n hT h0
 have key : ∀ x, (x = 0 ∨ x ∈ M ∨ x ∈ T) → (x = 0 ∨ x ∈ M ++ [n] ∨ x ∈ T'') := by
  rintro x (q | q | q)
  ·exact .inl q
  ·exact .inr (.inl (List.mem_append_left _ q))
  ·rcases h1 x q with rfl | q
   ·exact .inr (.inl (by simp))
   ·exact .inr (.inr ((h3 x).2 (.inl q)))
 refine ⟨fun x hx => ?_, fun x hx hx0 => ?_, fun x hx => key x (h.regs x hx), fun x hx j hj => ?_, ?_⟩
 ·rcases List.mem_append.1 hx with q | q
  ·exact h.met x q
  ·rw [List.mem_singleton] at q; subst q; exact hl
 ·rcases (h3 x).1 hx with q | q
  ·exact h.todo x (h2 x q) hx0
  ·exact .ptr hl q hx0
 ·rcases List.mem_append.1 hx with q | q
  ·exact key j (h.ptrs x q j hj)
  ·rw [List.mem_singleton] at q; subst q
   exact .inr (.inr ((h3 j).2 (.inr hj)))
 ·exact List.nodup_append.2 ⟨h.nd, by simp, fun a ha b hb => by rw [List.mem_singleton] at hb; subst hb; rintro rfl; exact hn ha⟩
theorem Wl.done {O : List Ab} {rs M : List Int} (h : Wl O rs M []) : ∀ x, x ∈ M ↔ Lv O rs x := by
 intro x
 refine ⟨h.met x, fun q => ?_⟩
 induction q with
 | reg hx h0 => exact ((h.regs _ hx).resolve_left h0).resolve_right (by simp)
 | ptr _ hj h0 ih => exact ((h.ptrs _ ih _ hj).resolve_left h0).resolve_right (by simp)
def wt (O : List Ab) (M : List Int) : Nat := ((List.range O.length).map fun (k : Nat) => if ((k : Int) + 1) ∈ M then 0 else (pt O ((k : Int) + 1)).length + 1).sum
theorem sum_upd : ∀ (n : Nat) (f g : Nat → Nat) (k : Nat), k < n → (∀ j, j ≠ k → f j = g j) → ((List.range n).map f).sum + g k = ((List.range n).map g).sum + f k
 | 0, f, g, k, h, _ => by omega
 | n + 1, f, g, k, h, he => by
  rw [List.range_succ, List.map_append, List.map_append, List.sum_append, List.sum_append]
  simp only [List.map_cons, List.map_nil, List.sum_cons, List.sum_nil, Nat.add_zero]
  by_cases q : k = n
  ·subst q
   have : (List.range k).map f = (List.range k).map g := List.map_congr_left fun j hj => he j (by have := List.mem_range.1 hj; omega)
   rw [this]; omega
  ·have ih := sum_upd n f g k (by omega) he
   have := he n (fun r => q r.symm)
   omega
theorem wt_mark {O : List Ab} {M : List Int} {n : Int} (h : 1 ≤ n ∧ n ≤ (O.length : Int)) (hn : n ∉ M) : wt O (M ++ [n]) + (pt O n).length + 1 = wt O M := by
 have e : (((n - 1).toNat : Nat) : Int) + 1 = n := by omega
 have := sum_upd O.length (fun k => if ((k : Int) + 1) ∈ M ++ [n] then 0 else (pt O ((k : Int) + 1)).length + 1) (fun k => if ((k : Int) + 1) ∈ M then 0 else (pt O ((k : Int) + 1)).length + 1) (n - 1).toNat (by omega) fun j hj => by
  have : ((j : Int) + 1) ≠ n := by omega
  simp [this]
 simp only [e] at this
 unfold wt
 simp [hn] at this
 simp at this ⊢
 omega
def dfs (O : List Ab) : Nat → List Int → List Int → List Int
 | 0, _, M => M
 | _ + 1, [], M => M
 | f + 1, n :: T, M => if n = 0 ∨ n ∈ M then dfs O f T M else dfs O f (pt O n ++ T) (M ++ [n])
theorem dfs_ok {O : List Ab} {rs : List Int} (hg : GG O rs) : ∀ (f : Nat) (T M : List Int), Wl O rs M T → T.length + wt O M ≤ f → (∀ x, x ∈ dfs O f T M ↔ Lv O rs x)
 | 0, T, M, h, hf => by
  have : T = [] := List.eq_nil_of_length_eq_zero (by omega)
  subst this; exact h.done
 | f + 1, [], M, h, _ => h.done
 | f + 1, n :: T, M, h, hf => by
  rw [List.length_cons] at hf
  unfold dfs
  by_cases q : n = 0 ∨ n ∈ M
  ·rw [if_pos q]
   exact dfs_ok hg f T M (h.skip (fun x hx => by simpa using hx) (fun x hx => List.mem_cons_of_mem _ hx) q) (by omega)
  ·rw [if_neg q]
   have h0 : n ≠ 0 := fun r => q (.inl r)
   have hn : n ∉ M := fun r => q (.inr r)
   have hr := (h.todo n (by simp) h0).rng hg
   have hw := wt_mark hr hn
   refine dfs_ok hg f _ _ (h.mark (by simp) (fun x hx => by simpa using hx) (fun x hx => List.mem_cons_of_mem _ hx) h0 hn fun x => by rw [List.mem_append]; exact or_comm) ?_
   rw [List.length_append]; omega
def lvL (O : List Ab) (rs : List Int) : List Int := tgK (dfs O (rs.length + wt O []) rs []) O.length
theorem lvL_mem {O : List Ab} {rs : List Int} (hg : GG O rs) {x : Int} : x ∈ lvL O rs ↔ Lv O rs x := by
 unfold lvL
 rw [tgK_mem, dfs_ok hg _ _ _ (Wl.init O rs) (Nat.le_refl _)]
 exact ⟨fun h => h.2.2, fun h => by have := h.rng hg; exact ⟨this.1, this.2, h⟩⟩
theorem lvL_asc (O : List Ab) (rs : List Int) : (lvL O rs).Pairwise (· < ·) := tgK_asc _ _
theorem lvL_eq {O : List Ab} {rs M : List Int} (hg : GG O rs) (h : Wl O rs M []) : sortL M = lvL O rs ∧ tgK M O.length = lvL O rs := by
 have hs : (sortL M).Pairwise (· < ·) := by
  have h1 := sortL_asc M
  have h2 : (sortL M).Nodup := (List.mergeSort_perm M _).nodup_iff.2 h.nd
  exact (h1.and h2).imp fun ⟨a, b⟩ => by omega
 refine ⟨asc_unique hs (lvL_asc O rs) fun a => ?_, asc_unique (tgK_asc _ _) (lvL_asc O rs) fun a => ?_⟩
 ·rw [sortL_mem, h.done, lvL_mem hg]
 ·rw [tgK_mem, h.done, lvL_mem hg]
  exact ⟨fun q => q.2.2, fun q => by have := q.rng hg; exact ⟨this.1, this.2, q⟩⟩
def lvT (O : List Ab) (rs : List Int) : List Int := if (ckG O rs).2 ≠ 0 then [] else lvL O rs
def wd1 (O : List Ab) (i : Int) : Int := 1 + (((O.getD (i - 1).toNat ([], [])).1.length + (O.getD (i - 1).toNat ([], [])).2.length : Nat) : Int)
def wdN (O : List Ab) (rs : List Int) : Int := if (ckG O rs).2 ≠ 0 then 0 else ((lvL O rs).map (wd1 O)).sum
theorem perm_sum {l m : List Int} (h : l.Perm m) : l.sum = m.sum := by
 induction h with
 | nil => rfl
 | cons x _ ih => rw [List.sum_cons, List.sum_cons, ih]
 | swap x y l => simp only [List.sum_cons]; omega
 | trans _ _ h1 h2 => exact h1.trans h2
theorem wd_perm {O : List Ab} {rs M : List Int} (hg : GG O rs) (h : Wl O rs M []) : (M.map (wd1 O)).sum = ((lvL O rs).map (wd1 O)).sum := by
 rw [← (lvL_eq hg h).1]
 have hp : (sortL M).Perm M := List.mergeSort_perm _ _
 exact (perm_sum (hp.map (wd1 O))).symm
end Go.Own.Gr

namespace Go.Own.Gr
open Go Go.Own Go.Own.R Go.Own.G
theorem any_idx {n : Nat} {m : Int} {l : List Int} (hm : m = (n : Int)) (h : 0 ≤ idxFG (fun x => decide (x < 0 ∨ m < x)) l) : l.any (noB n) = true := by
 subst hm
 obtain ⟨k, y, _, hy, hp, _⟩ := idxF_specG (p := fun x => decide (x < 0 ∨ (n : Int) < x)) (l := l) (by omega)
 exact List.any_eq_true.2 ⟨y, List.mem_of_getElem? hy, hp⟩
theorem idx_any {n : Nat} {m : Int} {l : List Int} (hm : m = (n : Int)) (h : l.any (noB n) = true) : 0 ≤ idxFG (fun x => decide (x < 0 ∨ m < x)) l := by
 subst hm
 apply Classical.byContradiction
 intro q
 have e : idxFG (fun x => decide (x < 0 ∨ (n : Int) < x)) l = -1 := by have := (idxF_bdG (fun x => decide (x < 0 ∨ (n : Int) < x)) l).1; omega
 have := fl_noG e
 obtain ⟨y, hy, hp⟩ := List.any_eq_true.1 h
 rw [this] at hy
 have h2 := (List.mem_filter.1 hy).2
 unfold noB at hp
 simp only [hp] at h2; cases h2
theorem no_idx {n : Nat} {m : Int} {l : List Int} (hm : m = (n : Int)) (h : ¬ 0 ≤ idxFG (fun x => decide (x < 0 ∨ m < x)) l) : l.any (noB n) = false := by
 cases e : l.any (noB n)
 ·rfl
 ·exact absurd (idx_any hm e) h
end Go.Own.Gr
