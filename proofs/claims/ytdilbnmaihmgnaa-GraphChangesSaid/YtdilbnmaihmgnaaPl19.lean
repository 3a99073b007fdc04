import Derived.Test.YtdilbnmaihmgnaaSepM
import Derived.Test.YtdilbnmaihmgnaaSp11
namespace Go.Own.R
open Go Go.Own
def outB (a : Int) : Bool := decide (a < 0 ∨ 1600 < a)
/-- the first place at which p holds, or -1. -/
def idxF (p : Int → Bool) (l : List Int) : Int := match l.findIdx? p with | some i => (i : Int) | none => -1
def ckR (l : List Int) : Int × Int := if l.length < 1 ∨ 8 < l.length then (-1, 7) else if 0 ≤ idxF outB l then (idxF outB l, 7) else (0, 0)
/-! names -/
def inB (n : Nat) (a : Int) : Bool := decide (0 ≤ a ∧ a < n)
def nmE (l ns : List Int) : Int := if (ckR l).2 ≠ 0 then (ckR l).2 else if ns.all (inB l.length) then 0 else 10
def nmT (l ns : List Int) : List Int := if nmE l ns ≠ 0 then [] else l
/-! Get, Set, Move, Alike -/
def gtN (l : List Int) (a : Int) : Int := if nmE l [a] ≠ 0 then 0 else l.getD a.toNat 0
def stE (l : List Int) (a x : Int) : Int := if nmE l [a] ≠ 0 then nmE l [a] else if x < 0 ∨ 1600 < x then 7 else 0
def stT (l : List Int) (a x : Int) : List Int := if stE l a x ≠ 0 then [] else l.set a.toNat x
def mvT (l : List Int) (a b : Int) : List Int := if nmE l [a, b] ≠ 0 then [] else l.set a.toNat (l.getD b.toNat 0)
def alB (l : List Int) (a b : Int) : Bool := decide (nmE l [a, b] = 0 ∧ l.getD a.toNat 0 = l.getD b.toNat 0)
/-- where asked stands behind j names. -/
theorem as_step {l ns : List Int} {j : Nat} {y e : Int} (he : e = if (ckR l).2 ≠ 0 then (ckR l).2 else if (ns.take j).all (inB l.length) then 0 else 10) (h0 : e = 0) (hy : ns[j]? = some y) (e' : Int) (h1 : (y < 0 ∨ (l.length : Int) ≤ y) → e' = 10) (h2 : ¬ (y < 0 ∨ (l.length : Int) ≤ y) → e' = 0) :
    e' = if (ckR l).2 ≠ 0 then (ckR l).2 else if (ns.take (j + 1)).all (inB l.length) then 0 else 10 := by
  have hc : (ckR l).2 = 0 := by
    apply Classical.byContradiction; intro h; rw [if_pos h] at he; omega
  rw [if_neg (by simpa using hc)] at he ⊢
  rw [take_snoc' ns j y hy, List.all_append]
  have ha : (ns.take j).all (inB l.length) = true := by
    apply Classical.byContradiction; intro h; rw [if_neg h] at he; omega
  rw [ha]
  by_cases hb : y < 0 ∨ (l.length : Int) ≤ y
  · rw [h1 hb]
    have : inB l.length y = false := by simp [inB]; omega
    simp [this]
  · rw [h2 hb]
    have : inB l.length y = true := by simp [inB]; omega
    simp [this]
theorem as_init (l ns : List Int) : (ckR l).2 = if (ckR l).2 ≠ 0 then (ckR l).2 else if (ns.take 0).all (inB l.length) then 0 else 10 := by
  by_cases h : (ckR l).2 = 0 <;> simp [h]
theorem as_done {l ns : List Int} {j : Nat} {e : Int} (he : e = if (ckR l).2 ≠ 0 then (ckR l).2 else if (ns.take j).all (inB l.length) then 0 else 10) (h : ¬ e = 0 ∨ ns.length ≤ j) (hj : j ≤ ns.length) : e = nmE l ns := by
  unfold nmE
  by_cases hc : (ckR l).2 = 0
  · rw [if_neg (by simpa using hc)] at he ⊢
    rcases h with h | h
    · have : ¬ (ns.take j).all (inB l.length) = true := fun q => by rw [if_pos q] at he; exact h he
      rw [if_neg this] at he
      rw [if_neg, he]
      intro q
      exact this (List.all_eq_true.2 fun x hx => List.all_eq_true.1 q x (List.mem_of_mem_take hx))
    · rw [List.take_of_length_le h] at he; exact he
  · rw [if_pos hc] at he ⊢; exact he
theorem eq_all {xs ys : List Int} (h1 : xs.length = ys.length) {k : Nat} (hk : xs.length ≤ k) (h : ∀ i, i < k → xs[i]? = ys[i]?) : xs = ys := by
  apply List.ext_getElem?
  intro i
  by_cases hi : i < k
  · exact h i hi
  · rw [List.getElem?_eq_none (by omega), List.getElem?_eq_none (by omega)]
theorem eq_step {xs ys : List Int} {k : Nat} {x y : Int} (h : ∀ i, i < k → xs[i]? = ys[i]?) (hx : xs[k]? = some x) (hy : ys[k]? = some y) (e : x = y) : ∀ i, i < k + 1 → xs[i]? = ys[i]? := by
  intro i hi
  by_cases q : i = k
  · subst q; rw [hx, hy, e]
  · exact h i (by omega)
theorem eq_ne {xs ys : List Int} {k : Nat} {x y : Int} (hx : xs[k]? = some x) (hy : ys[k]? = some y) (e : x ≠ y) : xs ≠ ys := by
  rintro rfl; rw [hx] at hy; cases hy; exact e rfl
end Go.Own.R
