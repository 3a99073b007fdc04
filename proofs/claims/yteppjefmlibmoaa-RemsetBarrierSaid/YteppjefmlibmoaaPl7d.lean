import Derived.Test.YteppjefmlibmoaaPl7c
namespace Go.Own
theorem wrap_mod {a b : Int} (hb : 0 < b) (hb2 : b ≤ 9223372036854775807) : IntKind.i64.wrap (a % b) = a % b := by
  have h1 := Int.emod_nonneg a (show b ≠ 0 by omega)
  have h2 := Int.emod_lt_of_pos a hb
  exact wrap_i64 (by omega) (by omega)
end Go.Own
namespace Go.Own.S
open Go Go.Own Go.Own.R
theorem addT_no {c : List Int} {a : Int} (h : (4 : Int) * ((usd (putT c a) : Nat) : Int) ≤ 3 * ((putT c a).length : Int)) : putT c a = addT c a := by unfold addT; rw [if_pos (by omega)]
theorem addT_yes {c : List Int} {a : Int} {k : Nat} (h : ¬ (4 : Int) * ((usd (putT c a) : Nat) : Int) ≤ 3 * ((putT c a).length : Int)) (hk : (tgK (putT c a) 1600).length ≤ k) : bld (adN (putT c a)) ((tgK (putT c a) 1600).take k) = addT c a := by
  unfold addT; rw [if_neg (by omega), List.take_of_length_le hk]
theorem fnd_not {c : List Int} {a : Int} (h : Gd c) (ha : 1 ≤ a) (hf : fnd c a < 0) : a ∉ c := fun q => by
  have := (fnd_mem h.toGw (a := a) (by omega)).1.2 q; omega
/-! all -/
def allT (c l : List Int) : List Int := l.foldl (fun c a => if fnd c a < 0 then addT c a else c) c
theorem gd_new : Gd (List.replicate 8 (0 : Int)) := ⟨zer_gw 8, by rw [List.length_replicate]; decide, by rw [zer_usd]; simp⟩
/-! the reference's find and put -/
theorem zero_on {c : List Int} (a : Int) (h : usd c < c.length) : ∃ j, j < c.length ∧ cl c a j = 0 := by
  have hx : ∃ x ∈ c, x = 0 := by
    apply Classical.byContradiction
    intro q
    have : usd c = c.length := List.countP_eq_length.2 fun x hx => by
      have : ¬ x = 0 := fun r => q ⟨x, hx, r⟩
      simpa using this
    omega
  obtain ⟨x, hx, rfl⟩ := hx
  obtain ⟨p, hp, he⟩ := List.mem_iff_getElem.1 hx
  obtain ⟨j, hj, hjp⟩ := ps_onto (by omega) a hp
  exact ⟨j, hj, cl_at hjp (by rw [List.getElem?_eq_getElem hp, he])⟩
theorem lt_zero {c : List Int} {a y : Int} {j j0 : Nat} (hj : j ≤ j0) (hz : cl c a j0 = 0) (hy : c[ps c.length a j]? = some y) (h : ¬ y = 0) : j < j0 := by
  rcases Nat.lt_or_ge j j0 with q | q
  · exact q
  · obtain rfl : j = j0 := by omega
    rw [cl_at rfl hy] at hz; exact absurd hz h
theorem lt_free {c : List Int} {a y : Int} {j j0 : Nat} (hj : j ≤ j0) (hz : cl c a j0 ≤ 0) (hy : c[ps c.length a j]? = some y) (h : 0 < y) : j < j0 := by
  rcases Nat.lt_or_ge j j0 with q | q
  · exact q
  · obtain rfl : j = j0 := by omega
    rw [cl_at rfl hy] at hz; omega
theorem eq_free {c : List Int} {a y : Int} {j j0 : Nat} (hj : j ≤ j0) (hp : ∀ i, i < j0 → 0 < cl c a i) (hy : c[ps c.length a j]? = some y) (h : ¬ 0 < y) : j = j0 := by
  rcases Nat.lt_or_ge j j0 with q | q
  · have := hp j q; rw [cl_at rfl hy] at this; exact absurd this h
  · omega
theorem no2_step {c : List Int} {a y : Int} {j : Nat} (hz : ∀ i, i < j → ¬ cl c a i = a ∧ ¬ cl c a i = 0) (hy : c[ps c.length a j]? = some y) (h1 : ¬ y = a) (h0 : ¬ y = 0) : ∀ i, i < j + 1 → ¬ cl c a i = a ∧ ¬ cl c a i = 0 := by
  intro i hi
  by_cases e : i = j
  · subst e; rw [cl_at rfl hy]; exact ⟨h1, h0⟩
  · exact hz i (by omega)
theorem fnd_y {c : List Int} {a y : Int} {j : Nat} (hj : j < c.length) (hz : ∀ i, i < j → ¬ cl c a i = a ∧ ¬ cl c a i = 0) (hy : c[ps c.length a j]? = some y) (h : y = a) : fnd c a = ((ps c.length a j : Nat) : Int) := fnd_at hj hz (by rw [cl_at rfl hy]; exact h)
theorem fnd_z {c : List Int} {a y : Int} {j : Nat} (ha : 1 ≤ a) (hj : j < c.length) (hz : ∀ i, i < j → ¬ cl c a i = a ∧ ¬ cl c a i = 0) (hy : c[ps c.length a j]? = some y) (h : ¬ y ≠ 0) : fnd c a = -1 := by
  have h0 : cl c a j = 0 := by rw [cl_at rfl hy]; simpa using h
  exact fnd_zero hj hz h0 (by omega)
/-! the reference's before and sorted -/
def befB (c : List Int) (i : Int) : Bool := decide (c.getD i.toNat 0 ∈ c.take i.toNat)
theorem bef_at {c : List Int} {k : Nat} {y : Int} (hy : c[k]? = some y) : befB c (k : Int) = decide (y ∈ c.take k) := by
  unfold befB; rw [Int.toNat_natCast, List.getD_eq_getElem?_getD, hy]; rfl
theorem bef_T {c : List Int} {i x y : Int} {j : Nat} (hy : c[i.toNat]? = some y) (hx : c[j]? = some x) (hj : j < i.toNat) (e : x = y) : befB c i = true := by
  unfold befB; rw [List.getD_eq_getElem?_getD, hy, decide_eq_true_eq]
  subst e
  exact List.mem_of_getElem? (i := j) (by rw [List.getElem?_take, if_pos hj, hx]; rfl)
theorem bef_F {c : List Int} {i y : Int} {j : Nat} (hy : c[i.toNat]? = some y) (hz : ∀ q, q < j → ∀ x, c[q]? = some x → ¬ x = y) (hj : i.toNat ≤ j) : befB c i = false := by
  unfold befB; rw [List.getD_eq_getElem?_getD, hy, decide_eq_false_iff_not]
  intro h
  obtain ⟨q, hq⟩ := List.mem_iff_getElem?.1 h
  rw [List.getElem?_take] at hq
  split at hq
  · exact hz q (by omega) _ hq rfl
  · cases hq
theorem ne_step {c : List Int} {y x : Int} {j : Nat} (hz : ∀ q, q < j → ∀ x, c[q]? = some x → ¬ x = y) (hx : c[j]? = some x) (h : ¬ x = y) : ∀ q, q < j + 1 → ∀ x, c[q]? = some x → ¬ x = y := by
  intro q hq z hz2
  by_cases e : q = j
  · subst e; rw [hx] at hz2; cases hz2; exact h
  · exact hz q (by omega) z hz2
/-- the table of what was met. -/
def mtS (ps : List Int) : List Bool := (List.range 1601).map fun (i : Nat) => decide (0 < i ∧ (i : Int) ∈ ps)
theorem mtS_len (ps : List Int) : (mtS ps).length = 1601 := by simp [mtS]
theorem mtS_nil : List.replicate 1601 false = mtS [] := by
  apply List.ext_getElem
  · rw [List.length_replicate, mtS_len]
  · intro i h1 h2
    rw [List.getElem_replicate]
    simp only [mtS, List.getElem_map, List.not_mem_nil, and_false, decide_false]
theorem mtS_at {ps : List Int} {q : Int} {b : Bool} (hq : 1 ≤ q ∧ q ≤ 1600) (h : (mtS ps)[q.toNat]? = some b) : b = decide (q ∈ ps) := by
  have hl : q.toNat < 1601 := by omega
  have e : ((q.toNat : Nat) : Int) = q := by omega
  unfold mtS at h
  rw [List.getElem?_map, List.getElem?_range hl] at h
  simp only [Option.map_some, Option.some.injEq, e] at h
  rw [← h]
  exact decide_eq_decide.2 ⟨fun h => h.2, fun h => ⟨by omega, h⟩⟩
theorem mtS_set {c : List Int} {k : Nat} {y : Int} (hy : c[k]? = some y) (hq : 1 ≤ y ∧ y ≤ 1600) : (mtS (c.take k)).set y.toNat true = mtS (c.take (k + 1)) := by
  apply List.ext_getElem
  · rw [List.length_set, mtS_len, mtS_len]
  · intro i h1 h2
    have hi : i < 1601 := by rw [mtS_len] at h2; exact h2
    rw [List.getElem_set]
    simp only [mtS, List.getElem_map, List.getElem_range, take_snoc' c k y hy, List.mem_append, List.mem_singleton]
    by_cases e : y.toNat = i
    · rw [if_pos e]
      have h3 : (i : Int) = y := by omega
      have h4 : 0 < i := by omega
      simp [h3, h4]
    · rw [if_neg e]
      have : ¬ (i : Int) = y := by omega
      simp [this]
theorem mtS_skip {c : List Int} {k : Nat} {y : Int} (hy : c[k]? = some y) (hq : ¬ 0 < y) : mtS (c.take k) = mtS (c.take (k + 1)) := by
  unfold mtS
  refine List.map_congr_left fun i _ => ?_
  rw [take_snoc' c k y hy]
  refine decide_eq_decide.2 (and_congr_right fun h => ?_)
  rw [List.mem_append, List.mem_singleton]
  exact ⟨.inl, fun h2 => h2.resolve_right (by omega)⟩
theorem mtS_twice {c : List Int} {k : Nat} {y : Int} {b : Bool} (hy : 0 < y ∧ y ≤ 1600) (h : (mtS (c.take k))[y.toNat]? = some b) : (b = true → 0 < y ∧ y ∈ c.take k) ∧ (b = false → ¬ (0 < y ∧ y ∈ c.take k)) := by
  have := mtS_at (q := y) (by omega) h
  constructor
  · rintro rfl; exact ⟨hy.1, by simpa using this.symm⟩
  · rintro rfl q; exact absurd q.2 (by simpa using this.symm)
theorem tg_T {c : List Int} {k : Nat} {b : Bool} {q : Int} (hq : q = (k : Int) + 1) (hk : k < 1600) (h : (mtS c)[q.toNat]? = some b) (c1 : b = true) : q ∈ c := by
  have := mtS_at (q := q) (by omega) h
  rw [c1] at this; simpa using this.symm
theorem tg_F {c : List Int} {k : Nat} {b : Bool} {q : Int} (hq : q = (k : Int) + 1) (hk : k < 1600) (h : (mtS c)[q.toNat]? = some b) (c1 : b = false) : q ∉ c := by
  have := mtS_at (q := q) (by omega) h
  rw [c1] at this; simpa using this.symm
end Go.Own.S
