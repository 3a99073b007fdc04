import Derived.Test.YtnfgeekaeegolaaPl9g
/-! counts of two lists added up -/
namespace Go.Own.F
open Go Go.Own Go.Own.R Go.Own.S
theorem plA_len (l : List (Int × Int)) : ∀ m : List (Int × Int), (plA l m).length ≤ l.length + m.length := by
  intro m
  unfold plA
  induction m generalizing l with
  | nil => simp
  | cons x m ih =>
    rw [List.foldl_cons, List.length_cons]
    have h1 := ih (plF l x.1 x.2)
    have h2 := plF_len l x.1 x.2
    omega
theorem plA_bd : ∀ {m l : List (Int × Int)} {b : Int}, (∀ x ∈ l, 0 ≤ x.2 ∧ x.2 ≤ b) → 0 ≤ b → (∀ x ∈ m, 0 ≤ x.2 ∧ x.2 ≤ 1600) → ∀ x ∈ plA l m, 0 ≤ x.2 ∧ x.2 ≤ b + 1600 * (m.length : Int) := by
  intro m
  induction m with
  | nil => intro l b h hb _ x hx; have := h x hx; simp; omega
  | cons y m ih =>
    intro l b h hb hm x hx
    have hy := hm y (List.mem_cons_self ..)
    unfold plA at hx
    rw [List.foldl_cons] at hx
    have := ih (l := plF l y.1 y.2) (b := b + 1600) (fun x hx => by have := plF_bd h hb hy.1 x hx; omega) (by omega) (fun x hx => hm x (List.mem_cons_of_mem _ hx)) x hx
    simp only [List.length_cons]; omega
def mgE (l m : List (Int × Int)) : Int := if (ckL l).2 ≠ 0 then (ckL l).2 else if (ckL m).2 ≠ 0 then (ckL m).2 else if (plA l m).any (fun x => decide (1600 < x.2)) then 7 else 0
def mgT (l m : List (Int × Int)) : List (Int × Int) := if mgE l m ≠ 0 then [] else plA l m
theorem ck_vals {l : List (Int × Int)} (h : (ckL l).2 = 0) : l.length ≤ 1600 ∧ ∀ x ∈ l, 0 ≤ x.2 ∧ x.2 ≤ 1600 := by
  obtain ⟨h1, h2, _⟩ := ckL_iff.1 h
  exact ⟨h1, fun x hx => by have := (h2 x hx).2; omega⟩
theorem mg_lim {l m : List (Int × Int)} (hl : (ckL l).2 = 0) (hm : (ckL m).2 = 0) (k : Nat) : (∀ x ∈ plA l (m.take k), -4000000000000000000 ≤ x.2 ∧ x.2 ≤ 4000000000000000000) ∧ (plA l (m.take k)).length ≤ 1000000000000 := by
  obtain ⟨a1, a2⟩ := ck_vals hl
  obtain ⟨b1, b2⟩ := ck_vals hm
  have h2 : (m.take k).length ≤ m.length := by rw [List.length_take]; omega
  have h3 := plA_len l (m.take k)
  refine ⟨fun x hx => ?_, by omega⟩
  have := plA_bd (m := m.take k) (b := 1600) a2 (by omega) (fun x hx => b2 x (List.mem_of_mem_take hx)) x hx
  omega
theorem plA_in {l m : List (Int × Int)} {k : Nat} {y : Int × Int} (hy : m[k]? = some y) : plF (plA l (m.take k)) y.1 y.2 = plA l (m.take (k + 1)) := by rw [take_add9 hy, plA_snoc]
theorem mgE_1 {l m : List (Int × Int)} (h : (ckL l).2 ≠ 0) : mgE l m = (ckL l).2 := by unfold mgE; rw [if_pos h]
theorem mgE_2 {l m : List (Int × Int)} (h : (ckL l).2 = 0) (h2 : (ckL m).2 ≠ 0) : mgE l m = (ckL m).2 := by unfold mgE; rw [if_neg (by omega), if_pos h2]
theorem mgE_7 {l m : List (Int × Int)} {k : Nat} {y : Int × Int} (h : (ckL l).2 = 0) (h2 : (ckL m).2 = 0) (hy : (plA l m)[k]? = some y) (h3 : 1600 < y.2) : mgE l m = 7 := by
  unfold mgE; rw [if_neg (by omega), if_neg (by omega), if_pos (List.any_eq_true.2 ⟨y, List.mem_of_getElem? hy, by simpa using h3⟩)]
theorem mgE_0 {l m : List (Int × Int)} {k : Nat} (h : (ckL l).2 = 0) (h2 : (ckL m).2 = 0) (hk : (plA l m).length ≤ k) (h3 : ∀ i, i < k → ∀ x, (plA l m)[i]? = some x → ¬ 1600 < x.2) : mgE l m = 0 := by
  unfold mgE
  rw [if_neg (by omega), if_neg (by omega), if_neg]
  intro q
  obtain ⟨x, hx, hd⟩ := List.any_eq_true.1 q
  obtain ⟨i, hi⟩ := List.mem_iff_getElem?.1 hx
  exact h3 i (by have := (List.getElem?_eq_some_iff.1 hi).1; omega) x hi (by simpa using hd)
theorem big_step {l : List (Int × Int)} {k : Nat} {y : Int × Int} (h : ∀ i, i < k → ∀ x, l[i]? = some x → ¬ 1600 < x.2) (hy : l[k]? = some y) (h1 : ¬ 1600 < y.2) : ∀ i, i < k + 1 → ∀ x, l[i]? = some x → ¬ 1600 < x.2 := fun i hi x hx => by
  by_cases e : i = k
  · subst e; rw [hy] at hx; cases hx; exact h1
  · exact h i (by omega) x hx
end Go.Own.F
