import Derived.Test.YteppjefmlibmoaaPl7d
import Derived.Test.YteppjefmlibmoaaSepP
namespace Go.Own.S
open Go Go.Own Go.Own.R
theorem hn_step {c : List Int} {k : Nat} {y : Int} (hn : ∀ i, i < k → ∀ x, c[i]? = some x → 0 < x → 0 ≤ fnd c x) (hy : c[k]? = some y) (h : 0 < y → 0 ≤ fnd c y) : ∀ i, i < k + 1 → ∀ x, c[i]? = some x → 0 < x → 0 ≤ fnd c x := by
  intro i hi x hx h0
  by_cases e : i = k
  · subst e; rw [hy] at hx; cases hx; exact h h0
  · exact hn i (by omega) x hx h0
theorem ck_bad2 {c : List Int} {k : Nat} {y : Int} (h2 : P2 c.length) (h : bdGo [] c 0 = none) (h3 : ¬ 3 * c.length < 4 * usd c) (hn : ∀ i, i < k → ∀ x, c[i]? = some x → 0 < x → 0 ≤ fnd c x) (hy : c[k]? = some y) (h0 : 0 < y) (hf : fnd c y < 0) : ckS c = ((k : Int), 6) := by
  rw [ck_end h2 h h3, bd2_at hn hy h0 hf]
theorem ck_ok {c : List Int} {k : Nat} (h2 : P2 c.length) (h : bdGo [] c 0 = none) (h3 : ¬ 3 * c.length < 4 * usd c) (hn : ∀ i, i < k → ∀ x, c[i]? = some x → 0 < x → 0 ≤ fnd c x) (hk : c.length ≤ k) : ckS c = (0, 0) := by
  rw [ck_end h2 h h3, bd2_no hn hk]
/-! what the exported functions return -/
def chE (c : List Int) (a : Int) : Int := if (ckS c).2 ≠ 0 then (ckS c).2 else if 1 ≤ a ∧ a ≤ 1600 then 0 else 7
theorem chE_ck {c : List Int} {a : Int} (h : (ckS c).2 ≠ 0) : chE c a = (ckS c).2 := by unfold chE; rw [if_pos h]
theorem chE_rg {c : List Int} {a : Int} (h : ¬ (ckS c).2 ≠ 0) (h2 : ¬ (1 ≤ a ∧ a ≤ 1600)) : chE c a = 7 := by unfold chE; rw [if_neg h, if_neg h2]
theorem chE_ok {c : List Int} {a : Int} (h : ¬ (ckS c).2 ≠ 0) (h2 : 1 ≤ a ∧ a ≤ 1600) : chE c a = 0 := by unfold chE; rw [if_neg h, if_pos h2]
theorem ch0 {c : List Int} {a : Int} (h : chE c a = 0) : Gd c ∧ (1 ≤ a ∧ a ≤ 1600) := by
  by_cases q : (ckS c).2 = 0
  · refine ⟨ck_iff.1 q, ?_⟩
    apply Classical.byContradiction
    intro r
    rw [chE_rg (by simpa using q) r] at h; cases h
  · rw [chE_ck q] at h; exact absurd h q
theorem ch_iff {c : List Int} {a : Int} : chE c a = 0 ↔ Gd c ∧ (1 ≤ a ∧ a ≤ 1600) := ⟨ch0, fun ⟨h, ha⟩ => chE_ok (by simpa using ck_iff.2 h) ha⟩
def hsB (c : List Int) (a : Int) : Bool := decide (chE c a = 0 ∧ 0 ≤ fnd c a)
def drpT (c : List Int) (a : Int) : List Int := if 0 ≤ fnd c a then c.set (fnd c a).toNat (-1) else c
def adT (c : List Int) (a : Int) : List Int := if chE c a ≠ 0 then [] else if 0 ≤ fnd c a then c else addT c a
def adB (c : List Int) (a : Int) : Bool := decide (chE c a = 0 ∧ fnd c a < 0)
def drT (c : List Int) (a : Int) : List Int := if chE c a ≠ 0 then [] else drpT c a
def lnN (c : List Int) : Int := if (ckS c).2 ≠ 0 then 0 else ((adr c : Nat) : Int)
def lsT (c : List Int) : List Int := if (ckS c).2 ≠ 0 then [] else tgK c 1600
def outB (f t x : Int) : Bool := decide (x < f ∨ t ≤ x)
def rgT (c : List Int) (f t : Int) : List Int := fl (fun x => decide (x < f ∨ t ≤ x)) (lsT c)
def ofE (l : List Int) : Int := if 4000 < l.length then 3 else if 0 ≤ idxF (fun a => !decide (1 ≤ a ∧ a ≤ 1600)) l then 7 else 0
def ofT (l : List Int) : List Int := if ofE l ≠ 0 then [] else allT (List.replicate 8 0) l
def jnE (c d : List Int) : Int := if (ckS c).2 ≠ 0 then (ckS c).2 else (ckS d).2
def jnT (c d : List Int) : List Int := if jnE c d ≠ 0 then [] else allT c (tgK d 1600)
def pg1 (f t x : Int) : Int := if 0 < x ∧ f ≤ x ∧ x < t then -1 else x
def pgB (f t x : Int) : Bool := decide (0 < x ∧ f ≤ x ∧ x < t)
def pgK (c : List Int) (f t : Int) (k : Nat) : List Int := (c.take k).map (pg1 f t) ++ c.drop k
def pgT (c : List Int) (f t : Int) : List Int := if (ckS c).2 ≠ 0 then [] else c.map (pg1 f t)
def pgN (c : List Int) (f t : Int) : Int := if (ckS c).2 ≠ 0 then 0 else ((c.countP (pgB f t) : Nat) : Int)
theorem pgK_len (c : List Int) (f t : Int) (k : Nat) : (pgK c f t k).length = c.length := by unfold pgK; rw [List.length_append, List.length_map, List.length_take, List.length_drop]; omega
theorem pgK_zero (c : List Int) (f t : Int) : pgK c f t 0 = c := by simp [pgK]
theorem pgK_all {c : List Int} {f t : Int} {k : Nat} (h : c.length ≤ k) : pgK c f t k = c.map (pg1 f t) := by unfold pgK; rw [List.take_of_length_le h, List.drop_eq_nil_of_le h]; simp
theorem pgK_get {c : List Int} {f t y : Int} {k : Nat} (hk : k ≤ c.length) (h : (pgK c f t k)[k]? = some y) : c[k]? = some y := by
  unfold pgK at h
  have hl : ((c.take k).map (pg1 f t)).length = k := by rw [List.length_map, List.length_take]; omega
  rw [List.getElem?_append_right (by omega), hl, Nat.sub_self, List.getElem?_drop] at h
  simpa using h
theorem pgK_set {c : List Int} {f t y : Int} {k : Nat} (hy : c[k]? = some y) (h : 0 < y ∧ f ≤ y ∧ y < t) : (pgK c f t k).set k (-1) = pgK c f t (k + 1) ∧ ((c.take (k + 1)).countP (pgB f t) : Nat) = (c.take k).countP (pgB f t) + 1 := by
  obtain ⟨hk, e⟩ := List.getElem?_eq_some_iff.1 hy
  have hl : ((c.take k).map (pg1 f t)).length = k := by rw [List.length_map, List.length_take]; omega
  constructor
  · unfold pgK
    rw [List.set_append_right _ _ (by omega), hl, Nat.sub_self, List.drop_eq_getElem_cons hk, List.set_cons_zero, take_snoc' c k y hy, List.map_append]
    simp [pg1, h]
  · rw [take_snoc' c k y hy, List.countP_append]; simp [pgB, h]
theorem pgK_skip {c : List Int} {f t y : Int} {k : Nat} (hy : c[k]? = some y) (h : ¬ (0 < y ∧ f ≤ y ∧ y < t)) : pgK c f t k = pgK c f t (k + 1) ∧ ((c.take (k + 1)).countP (pgB f t) : Nat) = (c.take k).countP (pgB f t) := by
  obtain ⟨hk, e⟩ := List.getElem?_eq_some_iff.1 hy
  constructor
  · unfold pgK
    rw [List.drop_eq_getElem_cons hk, e, take_snoc' c k y hy, List.map_append]
    simp [pg1, h]
  · rw [take_snoc' c k y hy, List.countP_append]; simp [pgB, h]
theorem cP_bd (c : List Int) (p : Int → Bool) (k : Nat) : (c.take k).countP p ≤ k := by
  have h := List.countP_le_length (p := p) (l := c.take k)
  rw [List.length_take] at h; omega
/-! two tables -/
def oneC (v : Value) : List Value := [v]
def twoD (c d : List Int) (k : Nat) : List Int := if k = 0 then c else d
end Go.Own.S
