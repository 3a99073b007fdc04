import Derived.Test.YtnfgeekaeegolaaPl9j
import Derived.Test.YtnfgeekaeegolaaPl9e
/-! the counts of a table are a good list; the counts of two parts add up -/
namespace Go.Own.F
open Go Go.Own Go.Own.R Go.Own.S
end Go.Own.F

/-! Popular: the lesser number's list has the greater one's in it; the first of the most; Within side by side -/
namespace Go.Own.F
open Go Go.Own Go.Own.R Go.Own.S
/-- of the first n that have at least lo, those that have at least hi. -/
def grK (l : List (Int × Int)) (lo hi : Int) (n : Nat) : Nat := (((l.filter fun x => decide (lo ≤ x.2)).take n).filter fun x => decide (hi ≤ x.2)).length
theorem pp_sub {l : List (Int × Int)} {lo hi : Int} (h : lo ≤ hi) : ppF l hi = ((l.filter fun x => decide (lo ≤ x.2)).filter fun x => decide (hi ≤ x.2)).map (·.1) := by
  unfold ppF
  rw [List.filter_filter]
  congr 1
  refine List.filter_congr fun x _ => ?_
  by_cases q : hi ≤ x.2
  · simp [q]; omega
  · simp [q]
theorem gr_0 (l : List (Int × Int)) (lo hi : Int) : grK l lo hi 0 = 0 := by unfold grK; simp
theorem gr_end {l : List (Int × Int)} {lo hi : Int} {n : Nat} (h : lo ≤ hi) (hn : (ppF l lo).length ≤ n) : grK l lo hi n = (ppF l hi).length := by
  rw [pp_sub h, List.length_map]; unfold grK
  unfold ppF at hn
  rw [List.length_map] at hn
  rw [List.take_of_length_le hn]
theorem gr_row {l : List (Int × Int)} {lo : Int} {n : Nat} {y : Int} (hy : (ppF l lo)[n]? = some y) : ∃ p : Int × Int, (l.filter fun x => decide (lo ≤ x.2))[n]? = some p ∧ p.1 = y := by
  unfold ppF at hy
  rw [List.getElem?_map, Option.map_eq_some_iff] at hy
  exact hy
theorem gr_step {l : List (Int × Int)} (hs : l.Pairwise (fun x y => x.1 < y.1)) {lo hi : Int} (h : lo ≤ hi) {n : Nat} {y : Int} (hy : (ppF l lo)[n]? = some y) :
    ((ppF l hi)[grK l lo hi n]? = some y ∧ grK l lo hi (n + 1) = grK l lo hi n + 1) ∨ ((∀ z, (ppF l hi)[grK l lo hi n]? = some z → y ≠ z) ∧ grK l lo hi (n + 1) = grK l lo hi n) := by
  obtain ⟨p, hp, rfl⟩ := gr_row hy
  have hs2 : (l.filter fun x => decide (lo ≤ x.2)).Pairwise (fun x y => x.1 < y.1) := hs.sublist List.filter_sublist
  generalize hm : (l.filter fun x => decide (lo ≤ x.2)) = m at hp hs2
  have hmn : ∀ j, grK l lo hi j = ((m.take j).filter fun x => decide (hi ≤ x.2)).length := fun j => by unfold grK; rw [hm]
  obtain ⟨hk, he⟩ := List.getElem?_eq_some_iff.1 hp
  have hsp : m = m.take n ++ p :: m.drop (n + 1) := by
    rw [← he, List.getElem_cons_drop, List.take_append_drop]
  have hb : ppF l hi = ((m.take n).filter fun x => decide (hi ≤ x.2)).map (·.1) ++ ((p :: m.drop (n + 1)).filter fun x => decide (hi ≤ x.2)).map (·.1) := by
    rw [pp_sub h, hm]; conv => lhs; rw [hsp]
    rw [List.filter_append, List.map_append]
  have hg : (ppF l hi)[grK l lo hi n]? = (((p :: m.drop (n + 1)).filter fun x => decide (hi ≤ x.2)).map (·.1))[0]? := by
    rw [hb, List.getElem?_append_right (by rw [List.length_map, hmn]; exact Nat.le_refl _), List.length_map, hmn, Nat.sub_self]
  by_cases q : hi ≤ p.2
  · refine .inl ⟨?_, ?_⟩
    · rw [hg, List.filter_cons]; simp [q]
    · rw [hmn, hmn, take_add9 hp, List.filter_append]; simp [q]
  · refine .inr ⟨fun z hz => ?_, ?_⟩
    · rw [hg, List.filter_cons, if_neg (by simpa using q)] at hz
      have hz2 := List.mem_of_getElem? hz
      obtain ⟨r, hr, rfl⟩ := List.mem_map.1 hz2
      have hr2 := (List.mem_filter.1 hr).1
      obtain ⟨j, hj, hje⟩ := List.mem_iff_getElem.1 hr2
      rw [List.length_drop] at hj
      rw [List.getElem_drop] at hje
      have := List.pairwise_iff_getElem.1 hs2 n (n + 1 + j) hk (by omega) (by omega)
      rw [he, hje] at this
      omega
    · rw [hmn, hmn, take_add9 hp, List.filter_append]; simp [q]
/-- the first of those that have the most. -/
theorem mx_top {l : List (Int × Int)} : ∀ k, 1 ≤ k → k ≤ l.length → (∀ x ∈ l.take k, x.2 ≤ (mxP (l.take k)).2) ∧ (ppF (l.take k) (mxP (l.take k)).2)[0]? = some (mxP (l.take k)).1
  | 0, h, _ => absurd h (by omega)
  | k + 1, _, hk => by
    have hy := List.getElem?_eq_getElem (l := l) (i := k) (by omega)
    generalize l[k] = y at hy
    by_cases h1 : k = 0
    · subst h1
      rw [mx_first hy]
      have e : l.take (0 + 1) = [y] := by rw [take_add9 hy]; simp
      rw [e]
      exact ⟨fun x hx => by simp at hx; subst hx; exact Int.le_refl _, by simp [ppF]⟩
    · obtain ⟨i1, i2⟩ := mx_top (l := l) k (by omega) (by omega)
      rw [mx_snoc (by omega) hy, take_add9 hy]
      unfold mx1
      split
      · rename_i hlt
        refine ⟨fun x hx => ?_, ?_⟩
        · rcases List.mem_append.1 hx with q | q
          · have := i1 x q; omega
          · simp at q; subst q; exact Int.le_refl _
        · unfold ppF
          rw [List.filter_append, List.filter_eq_nil_iff.2 (fun x hx => by have := i1 x hx; simp; omega)]
          simp
      · rename_i hlt
        refine ⟨fun x hx => ?_, ?_⟩
        · rcases List.mem_append.1 hx with q | q
          · exact i1 x q
          · simp at q; subst q; omega
        · unfold ppF at i2 ⊢
          rw [List.filter_append, List.map_append, List.getElem?_append_left (List.getElem?_eq_some_iff.1 i2).1]
          exact i2
theorem mxP_top {l : List (Int × Int)} (h : 0 < l.length) : (∀ x ∈ l, x.2 ≤ (mxP l).2) ∧ (ppF l (mxP l).2)[0]? = some (mxP l).1 := by
  have := mx_top (l := l) l.length (by omega) (Nat.le_refl _)
  rw [List.take_of_length_le (Nat.le_refl _)] at this
  exact this
theorem pp_one {l : List (Int × Int)} (h : (ckL l).2 = 0) : ppT l 1 = l.map (·.1) ∧ ppE l 1 = 0 := by
  have he : ppE l 1 = 0 := by unfold ppE; rw [if_neg (by omega), if_pos (by omega)]
  refine ⟨?_, he⟩
  unfold ppT; rw [if_neg (by omega)]
  unfold ppF
  rw [List.filter_eq_self.2 fun x hx => by have := (ckL_iff.1 h).2.1 x hx; unfold okC at this; simp; omega]
theorem ppT_ok {l : List (Int × Int)} {q : Int} (h : (ckL l).2 = 0) (hq : 1 ≤ q ∧ q ≤ 1600) : ppE l q = 0 ∧ ppT l q = ppF l q := by
  have he : ppE l q = 0 := by unfold ppE; rw [if_neg (by omega), if_pos hq]
  exact ⟨he, by unfold ppT; rw [if_neg (by omega)]⟩
/-- what the law asks of the most. -/
theorem most_law {l : List (Int × Int)} (h : mxE l = 0) : (ckL l).2 = 0 ∧ 0 < l.length ∧ (1 ≤ (mxT l).2 ∧ (mxT l).2 ≤ 1600) ∧ (ppT l (mxT l).2)[0]? = some (mxT l).1 ∧ ((mxT l).2 < 1600 → ppE l ((mxT l).2 + 1) = 0 ∧ ppT l ((mxT l).2 + 1) = []) := by
  have hk : (ckL l).2 = 0 := by
    unfold mxE at h; split at h
    · assumption
    · omega
  have hl : 0 < l.length := by
    unfold mxE at h; rw [if_neg (by omega)] at h; split at h
    · cases h
    · omega
  rw [mxT_ok h]
  obtain ⟨t1, t2⟩ := mxP_top hl
  have hm := (ckL_iff.1 hk).2.1 _ (mxP_mem hl)
  unfold okC at hm
  refine ⟨hk, hl, by omega, ?_, fun hlt => ?_⟩
  · rw [(ppT_ok hk (by omega)).2]; exact t2
  · obtain ⟨a, b⟩ := ppT_ok (l := l) (q := (mxP l).2 + 1) hk (by omega)
    refine ⟨a, ?_⟩
    rw [b]; unfold ppF
    rw [List.filter_eq_nil_iff.2 (fun x hx => by have := t1 x hx; simp; omega)]
    rfl
theorem gr_T {l : List (Int × Int)} (hk : (ckL l).2 = 0) {lo hi : Int} (h : 1 ≤ lo ∧ lo ≤ hi ∧ hi ≤ 50) {n : Nat} {y : Int} (hy : (ppT l lo)[n]? = some y) :
    ((ppT l hi)[grK l lo hi n]? = some y ∧ grK l lo hi (n + 1) = grK l lo hi n + 1) ∨ ((∀ z, (ppT l hi)[grK l lo hi n]? = some z → y ≠ z) ∧ grK l lo hi (n + 1) = grK l lo hi n) := by
  rw [(ppT_ok hk (by omega)).2] at hy ⊢
  exact gr_step (ckL_iff.1 hk).2.2 h.2.1 hy
theorem gr_TT {l : List (Int × Int)} {lo hi y z : Int} {n : Nat} (h : ((ppT l hi)[grK l lo hi n]? = some y ∧ grK l lo hi (n + 1) = grK l lo hi n + 1) ∨ ((∀ z, (ppT l hi)[grK l lo hi n]? = some z → y ≠ z) ∧ grK l lo hi (n + 1) = grK l lo hi n)) (hz : (ppT l hi)[grK l lo hi n]? = some z) (e : y = z) : grK l lo hi (n + 1) = grK l lo hi n + 1 := by
  rcases h with h | h
  · exact h.2
  · exact absurd e (h.1 z hz)
theorem gr_TF {l : List (Int × Int)} {lo hi y z : Int} {n : Nat} (h : ((ppT l hi)[grK l lo hi n]? = some y ∧ grK l lo hi (n + 1) = grK l lo hi n + 1) ∨ ((∀ z, (ppT l hi)[grK l lo hi n]? = some z → y ≠ z) ∧ grK l lo hi (n + 1) = grK l lo hi n)) (hz : (ppT l hi)[grK l lo hi n]? = some z) (e : ¬ y = z) : grK l lo hi (n + 1) = grK l lo hi n := by
  rcases h with h | h
  · rw [h.1] at hz; cases hz; exact absurd rfl e
  · exact h.2
theorem gr_F {l : List (Int × Int)} (hk : (ckL l).2 = 0) {lo hi : Int} (h : 1 ≤ lo ∧ lo ≤ hi ∧ hi ≤ 50) {n : Nat} (hn : n < (ppT l lo).length) (hf : ¬ grK l lo hi n < (ppT l hi).length) : grK l lo hi (n + 1) = grK l lo hi n := by
  rcases gr_T hk h (List.getElem?_eq_getElem hn) with q | q
  · exact absurd (List.getElem?_eq_some_iff.1 q.1).1 hf
  · exact q.2
theorem gr_endT {l : List (Int × Int)} (hk : (ckL l).2 = 0) {lo hi : Int} (h : 1 ≤ lo ∧ lo ≤ hi ∧ hi ≤ 50) {n : Nat} (hn : (ppT l lo).length ≤ n) : grK l lo hi n = (ppT l hi).length := by
  rw [(ppT_ok hk (by omega)).2] at hn ⊢
  exact gr_end h.2.1 hn
theorem ppT_len (l : List (Int × Int)) (q : Int) : (ppT l q).length ≤ l.length := by
  unfold ppT; split
  · simp
  · exact pp_len l q
end Go.Own.F
