import Derived.Test.YteppjefmlibmoaaPl7d
import Derived.Test.YteppjefmlibmoaaSepP
namespace Go.Own.S
open Go Go.Own Go.Own.R
theorem form_no {m n : Nat} (h : P2 m) (hl : m = 8 ∨ m < 2 * n) (hm : ¬ (m : Int) < n) (hne : (m : Int) ≠ n) : ¬ P2 n := fun q => by unfold P2 at h q; omega
theorem p2_dbl {m : Nat} (h : P2 m) (hm : m < 8192) : P2 (m * 2) := by unfold P2 at h ⊢; omega
theorem hn_step {c : List Int} {k : Nat} {y : Int} (hn : ∀ i, i < k → ∀ x, c[i]? = some x → 0 < x → 0 ≤ fnd c x) (hy : c[k]? = some y) (h : 0 < y → 0 ≤ fnd c y) : ∀ i, i < k + 1 → ∀ x, c[i]? = some x → 0 < x → 0 ≤ fnd c x := by
  intro i hi x hx h0
  by_cases e : i = k
  · subst e; rw [hy] at hx; cases hx; exact h h0
  · exact hn i (by omega) x hx h0
theorem ck_bad2 {c : List Int} {k : Nat} {y : Int} (h2 : P2 c.length) (h : bdGo [] c 0 = none) (h3 : ¬ 3 * c.length < 4 * usd c) (hn : ∀ i, i < k → ∀ x, c[i]? = some x → 0 < x → 0 ≤ fnd c x) (hy : c[k]? = some y) (h0 : 0 < y) (hf : fnd c y < 0) : ckS c = ((k : Int), 6) := by
  rw [ck_end h2 h h3, bd2_at hn hy h0 hf]
theorem ck_ok {c : List Int} {k : Nat} (h2 : P2 c.length) (h : bdGo [] c 0 = none) (h3 : ¬ 3 * c.length < 4 * usd c) (hn : ∀ i, i < k → ∀ x, c[i]? = some x → 0 < x → 0 ≤ fnd c x) (hk : c.length ≤ k) : ckS c = (0, 0) := by
  rw [ck_end h2 h h3, bd2_no hn hk]
/-! what the exported functions return -/
def chE (c : List Int) (a : Int) : Int := if (ckS c).2 ≠ 0 then (ckS c).2 else if 1 ≤ a ∧ a ≤ 1600 then 0 else 7
theorem chE_ck {c : List Int} {a : Int} (h : (ckS c).2 ≠ 0) : chE c a = (ckS c).2 := by unfold chE; rw [if_pos h]
theorem chE_rg {c : List Int} {a : Int} (h : ¬ (ckS c).2 ≠ 0) (h2 : ¬ (1 ≤ a ∧ a ≤ 1600)) : chE c a = 7 := by unfold chE; rw [if_neg h, if_neg h2]
theorem chE_ok {c : List Int} {a : Int} (h : ¬ (ckS c).2 ≠ 0) (h2 : 1 ≤ a ∧ a ≤ 1600) : chE c a = 0 := by unfold chE; rw [if_neg h, if_pos h2]
theorem ch0 {c : List Int} {a : Int} (h : chE c a = 0) : Gd c ∧ (1 ≤ a ∧ a ≤ 1600) := by
  by_cases q : (ckS c).2 = 0
  · refine ⟨ck_iff.1 q, ?_⟩
    apply Classical.byContradiction
    intro r
    rw [chE_rg (by simpa using q) r] at h; cases h
  · rw [chE_ck q] at h; exact absurd h q
theorem ch_iff {c : List Int} {a : Int} : chE c a = 0 ↔ Gd c ∧ (1 ≤ a ∧ a ≤ 1600) := ⟨ch0, fun ⟨h, ha⟩ => chE_ok (by simpa using ck_iff.2 h) ha⟩
def hsB (c : List Int) (a : Int) : Bool := decide (chE c a = 0 ∧ 0 ≤ fnd c a)
def drpT (c : List Int) (a : Int) : List Int := if 0 ≤ fnd c a then c.set (fnd c a).toNat (-1) else c
def adT (c : List Int) (a : Int) : List Int := if chE c a ≠ 0 then [] else if 0 ≤ fnd c a then c else addT c a
def adB (c : List Int) (a : Int) : Bool := decide (chE c a = 0 ∧ fnd c a < 0)
def drT (c : List Int) (a : Int) : List Int := if chE c a ≠ 0 then [] else drpT c a
def lnN (c : List Int) : Int := if (ckS c).2 ≠ 0 then 0 else ((adr c : Nat) : Int)
def lsT (c : List Int) : List Int := if (ckS c).2 ≠ 0 then [] else tgK c 1600
def outB (f t x : Int) : Bool := decide (x < f ∨ t ≤ x)
def rgT (c : List Int) (f t : Int) : List Int := fl (fun x => decide (x < f ∨ t ≤ x)) (lsT c)
def ofE (l : List Int) : Int := if 4000 < l.length then 3 else if 0 ≤ idxF (fun a => !decide (1 ≤ a ∧ a ≤ 1600)) l then 7 else 0
def ofT (l : List Int) : List Int := if ofE l ≠ 0 then [] else allT (List.replicate 8 0) l
def jnE (c d : List Int) : Int := if (ckS c).2 ≠ 0 then (ckS c).2 else (ckS d).2
def jnT (c d : List Int) : List Int := if jnE c d ≠ 0 then [] else allT c (tgK d 1600)
def pg1 (f t x : Int) : Int := if 0 < x ∧ f ≤ x ∧ x < t then -1 else x
def pgB (f t x : Int) : Bool := decide (0 < x ∧ f ≤ x ∧ x < t)
def pgK (c : List Int) (f t : Int) (k : Nat) : List Int := (c.take k).map (pg1 f t) ++ c.drop k
def pgT (c : List Int) (f t : Int) : List Int := if (ckS c).2 ≠ 0 then [] else c.map (pg1 f t)
def pgN (c : List Int) (f t : Int) : Int := if (ckS c).2 ≠ 0 then 0 else ((c.countP (pgB f t) : Nat) : Int)
/-! two tables -/
def oneC (v : Value) : List Value := [v]
def twoD (c d : List Int) (k : Nat) : List Int := if k = 0 then c else d
theorem rg_all (c : List Int) : rgT c 1 1601 = lsT c := by
  unfold rgT
  refine fl_all fun x hx => ?_
  unfold lsT at hx
  split at hx
  · simp at hx
  · have := tgK_rng x hx; simp; omega
theorem fl_in {p : Int → Bool} {l : List Int} {k : Nat} {y : Int} (hy : l[k]? = some y) (h : p y = false) : fl p (l.take k) ++ [y] = fl p (l.take (k + 1)) := by rw [fl_snoc hy, h]; simp
theorem fl_out {p : Int → Bool} {l : List Int} {k : Nat} {y : Int} (hy : l[k]? = some y) (h : p y = true) : fl p (l.take k) = fl p (l.take (k + 1)) := by rw [fl_snoc hy, h]; simp
end Go.Own.S
