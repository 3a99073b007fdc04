import Derived.Test.YteppjefmlibmoaaPl7c
namespace Go.Own
theorem wrap_mod {a b : Int} (hb : 0 < b) (hb2 : b ≤ 9223372036854775807) : IntKind.i64.wrap (a % b) = a % b := by
  have h1 := Int.emod_nonneg a (show b ≠ 0 by omega)
  have h2 := Int.emod_lt_of_pos a hb
  exact wrap_i64 (by omega) (by omega)
end Go.Own
namespace Go.Own.S
open Go Go.Own Go.Own.R
theorem addT_no {c : List Int} {a : Int} (h : (4 : Int) * ((usd (putT c a) : Nat) : Int) ≤ 3 * ((putT c a).length : Int)) : putT c a = addT c a := by unfold addT; rw [if_pos (by omega)]
theorem addT_yes {c : List Int} {a : Int} {k : Nat} (h : ¬ (4 : Int) * ((usd (putT c a) : Nat) : Int) ≤ 3 * ((putT c a).length : Int)) (hk : (tgK (putT c a) 1600).length ≤ k) : bld (adN (putT c a)) ((tgK (putT c a) 1600).take k) = addT c a := by
  unfold addT; rw [if_neg (by omega), List.take_of_length_le hk]
theorem fnd_not {c : List Int} {a : Int} (h : Gd c) (ha : 1 ≤ a) (hf : fnd c a < 0) : a ∉ c := fun q => by
  have := (fnd_mem h.toGw (a := a) (by omega)).1.2 q; omega
/-! all -/
def allT (c l : List Int) : List Int := l.foldl (fun c a => if fnd c a < 0 then addT c a else c) c
theorem gd_new : Gd (List.replicate 8 (0 : Int)) := ⟨zer_gw 8, by rw [List.length_replicate]; decide, by rw [zer_usd]; simp⟩
/-! the reference's before and sorted -/
def befB (c : List Int) (i : Int) : Bool := decide (c.getD i.toNat 0 ∈ c.take i.toNat)
/-- the table of what was met. -/
def mtS (ps : List Int) : List Bool := (List.range 1601).map fun (i : Nat) => decide (0 < i ∧ (i : Int) ∈ ps)
theorem mtS_len (ps : List Int) : (mtS ps).length = 1601 := by simp [mtS]
theorem mtS_nil : List.replicate 1601 false = mtS [] := by
  apply List.ext_getElem
  · rw [List.length_replicate, mtS_len]
  · intro i h1 h2
    rw [List.getElem_replicate]
    simp only [mtS, List.getElem_map, List.not_mem_nil, and_false, decide_false]
theorem mtS_at {ps : List Int} {q : Int} {b : Bool} (hq : 1 ≤ q ∧ q ≤ 1600) (h : (mtS ps)[q.toNat]? = some b) : b = decide (q ∈ ps) := by
  have hl : q.toNat < 1601 := by omega
  have e : ((q.toNat : Nat) : Int) = q := by omega
  unfold mtS at h
  rw [List.getElem?_map, List.getElem?_range hl] at h
  simp only [Option.map_some, Option.some.injEq, e] at h
  rw [← h]
  exact decide_eq_decide.2 ⟨fun h => h.2, fun h => ⟨by omega, h⟩⟩
theorem mtS_set {c : List Int} {k : Nat} {y : Int} (hy : c[k]? = some y) (hq : 1 ≤ y ∧ y ≤ 1600) : (mtS (c.take k)).set y.toNat true = mtS (c.take (k + 1)) := by
  apply List.ext_getElem
  · rw [List.length_set, mtS_len, mtS_len]
  · intro i h1 h2
    have hi : i < 1601 := by rw [mtS_len] at h2; exact h2
    rw [List.getElem_set]
    simp only [mtS, List.getElem_map, List.getElem_range, take_snoc' c k y hy, List.mem_append, List.mem_singleton]
    by_cases e : y.toNat = i
    · rw [if_pos e]
      have h3 : (i : Int) = y := by omega
      have h4 : 0 < i := by omega
      simp [h3, h4]
    · rw [if_neg e]
      have : ¬ (i : Int) = y := by omega
      simp [this]
theorem mtS_skip {c : List Int} {k : Nat} {y : Int} (hy : c[k]? = some y) (hq : ¬ 0 < y) : mtS (c.take k) = mtS (c.take (k + 1)) := by
  unfold mtS
  refine List.map_congr_left fun i _ => ?_
  rw [take_snoc' c k y hy]
  refine decide_eq_decide.2 (and_congr_right fun h => ?_)
  rw [List.mem_append, List.mem_singleton]
  exact ⟨.inl, fun h2 => h2.resolve_right (by omega)⟩
theorem mtS_twice {c : List Int} {k : Nat} {y : Int} {b : Bool} (hy : 0 < y ∧ y ≤ 1600) (h : (mtS (c.take k))[y.toNat]? = some b) : (b = true → 0 < y ∧ y ∈ c.take k) ∧ (b = false → ¬ (0 < y ∧ y ∈ c.take k)) := by
  have := mtS_at (q := y) (by omega) h
  constructor
  · rintro rfl; exact ⟨hy.1, by simpa using this.symm⟩
  · rintro rfl q; exact absurd q.2 (by simpa using this.symm)
end Go.Own.S
