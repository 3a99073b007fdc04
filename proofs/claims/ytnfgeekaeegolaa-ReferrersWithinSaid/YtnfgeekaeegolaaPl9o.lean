import Derived.Test.YtnfgeekaeegolaaPl9j
import Derived.Test.YtnfgeekaeegolaaPl9e
/-! the counts of a table are a good list; the counts of two parts add up -/
namespace Go.Own.F
open Go Go.Own Go.Own.R Go.Own.S
end Go.Own.F

/-! Popular: the lesser number's list has the greater one's in it; the first of the most; Within side by side -/
namespace Go.Own.F
open Go Go.Own Go.Own.R Go.Own.S
/-- of the first n that have at least lo, those that have at least hi. -/
def grK (l : List (Int × Int)) (lo hi : Int) (n : Nat) : Nat := (((l.filter fun x => decide (lo ≤ x.2)).take n).filter fun x => decide (hi ≤ x.2)).length
theorem ppT_ok {l : List (Int × Int)} {q : Int} (h : (ckL l).2 = 0) (hq : 1 ≤ q ∧ q ≤ 1600) : ppE l q = 0 ∧ ppT l q = ppF l q := by
  have he : ppE l q = 0 := by unfold ppE; rw [if_neg (by omega), if_pos hq]
  exact ⟨he, by unfold ppT; rw [if_neg (by omega)]⟩
theorem ppT_len (l : List (Int × Int)) (q : Int) : (ppT l q).length ≤ l.length := by
  unfold ppT; split
  · simp
  · exact pp_len l q
end Go.Own.F

/-! Within of two stretches side by side; Popular of Within -/
namespace Go.Own.F
open Go Go.Own Go.Own.R Go.Own.S
theorem wiF_mem {f t : Int} {l : List (Int × Int)} {x : Int × Int} : x ∈ wiF f t l ↔ x ∈ l ∧ f ≤ x.1 ∧ x.1 < t := by
  unfold wiF wiB; rw [List.mem_filter]; simp
theorem wi_ck {l : List (Int × Int)} (h : (ckL l).2 = 0) (f t : Int) : (ckL (wiF f t l)).2 = 0 := by
  obtain ⟨h1, h2, h3⟩ := ckL_iff.1 h
  exact ckL_iff.2 ⟨Nat.le_trans (wi_len f t l) h1, fun x hx => h2 x (wiF_mem.1 hx).1, h3.sublist List.filter_sublist⟩
theorem wiT_ok {l : List (Int × Int)} (h : (ckL l).2 = 0) (f t : Int) : wiT l f t = wiF f t l := by unfold wiT; rw [if_neg (by omega)]
theorem wi_app {l : List (Int × Int)} (hs : l.Pairwise (fun x y => x.1 < y.1)) {a b c : Int} (h1 : a ≤ b) (h2 : b ≤ c) : wiF a b l ++ wiF b c l = wiF a c l := by
  induction l with
  | nil => rfl
  | cons x l ih =>
    rw [List.pairwise_cons] at hs
    have ih := ih hs.2
    unfold wiF at ih ⊢
    rw [List.filter_cons, List.filter_cons, List.filter_cons]
    by_cases q1 : x.1 < b
    · by_cases q0 : a ≤ x.1
      · have e1 : wiB a b x = false := by unfold wiB; simp; omega
        have e2 : wiB b c x = true := by unfold wiB; simp; omega
        have e3 : wiB a c x = false := by unfold wiB; simp; omega
        simp only [e1, e2, e3]; simp [ih]
      · have e1 : wiB a b x = true := by unfold wiB; simp; omega
        have e2 : wiB b c x = true := by unfold wiB; simp; omega
        have e3 : wiB a c x = true := by unfold wiB; simp; omega
        simp only [e1, e2, e3]; simpa using ih
    · have e0 : l.filter (fun x => !wiB a b x) = [] := List.filter_eq_nil_iff.2 fun y hy => by
        have := hs.1 y hy
        unfold wiB; simp; omega
      have e1 : wiB a b x = true := by unfold wiB; simp; omega
      rw [e0] at ih ⊢
      by_cases q2 : x.1 < c
      · have e2 : wiB b c x = false := by unfold wiB; simp; omega
        have e3 : wiB a c x = false := by unfold wiB; simp; omega
        simp only [e1, e2, e3]; simpa using ih
      · have e2 : wiB b c x = true := by unfold wiB; simp; omega
        have e3 : wiB a c x = true := by unfold wiB; simp; omega
        simp only [e1, e2, e3]; simpa using ih
theorem plF_end : ∀ {l : List (Int × Int)} {t n : Int}, (∀ x ∈ l, x.1 < t) → plF l t n = l ++ [(t, n)]
  | [], _, _, _ => rfl
  | x :: r, t, n, h => by
    have hx := h x (List.mem_cons_self ..)
    rw [plF, if_pos hx, plF_end fun y hy => h y (List.mem_cons_of_mem _ hy)]; rfl
theorem plA_end : ∀ {m l : List (Int × Int)}, (l ++ m).Pairwise (fun x y => x.1 < y.1) → plA l m = l ++ m
  | [], l, _ => by simp [plA]
  | y :: m, l, h => by
    have e : l ++ y :: m = (l ++ [y]) ++ m := by simp
    have h1 : ∀ x ∈ l, x.1 < y.1 := fun x hx => (List.pairwise_append.1 h).2.2 x hx y (List.mem_cons_self ..)
    have : plA l (y :: m) = plA (plF l y.1 y.2) m := rfl
    rw [this, plF_end h1, e]
    exact plA_end (by rw [← e]; exact h)
/-- what the law asks of Within. -/
theorem within_law {l : List (Int × Int)} (h : (ckL l).2 = 0) {a b c : Int} (h1 : a ≤ b) (h2 : b ≤ c) :
    mgE (wiT l a b) (wiT l b c) = 0 ∧ mgT (wiT l a b) (wiT l b c) = wiT l a c ∧ wiT l 0 1601 = l ∧ ppE (wiT l a c) 2 = 0 ∧ ppE l 2 = 0 ∧ ppT l 2 = ppF l 2 ∧ ppT (wiT l a c) 2 = (ppF l 2).filter (fun z => decide (a ≤ z ∧ z < c)) := by
  obtain ⟨k1, k2, k3⟩ := ckL_iff.1 h
  simp only [wiT_ok h]
  have ha := wi_ck h a b
  have hb := wi_ck h b c
  have hc := wi_ck h a c
  have he : plA (wiF a b l) (wiF b c l) = wiF a c l := by
    rw [plA_end (by rw [wi_app k3 h1 h2]; exact k3.sublist List.filter_sublist), wi_app k3 h1 h2]
  have hE : mgE (wiF a b l) (wiF b c l) = 0 := by
    unfold mgE
    rw [if_neg (by omega), if_neg (by omega), if_neg]
    intro q
    obtain ⟨x, hx, hd⟩ := List.any_eq_true.1 q
    rw [he] at hx
    have := (ck_vals hc).2 x hx
    simp at hd; omega
  refine ⟨hE, by unfold mgT; rw [if_neg (by omega), he], ?_, (ppT_ok hc (by omega)).1, (ppT_ok h (by omega)).1, (ppT_ok h (by omega)).2, ?_⟩
  · unfold wiF
    refine List.filter_eq_self.2 fun x hx => ?_
    have := k2 x hx; unfold okC at this; unfold wiB; simp; omega
  · rw [(ppT_ok hc (by omega)).2]
    unfold ppF wiF
    rw [List.filter_map, List.filter_filter, List.filter_filter]
    congr 1
    refine List.filter_congr fun x _ => ?_
    unfold wiB
    simp only [Function.comp_apply]
    by_cases q1 : x.1 < a
    · simp [q1]; omega
    · by_cases q2 : c ≤ x.1
      · simp [q2]; omega
      · simp [q1, q2]; omega
/-- how many of the first k are kept. -/
def flK (p : Int → Bool) (q : List Int) (k : Nat) : Nat := ((q.take k).filter p).length
theorem flK_0 (p : Int → Bool) (q : List Int) : flK p q 0 = 0 := by unfold flK; simp
theorem flK_end {p : Int → Bool} {q : List Int} {k : Nat} (h : q.length ≤ k) : flK p q k = (q.filter p).length := by unfold flK; rw [List.take_of_length_le h]
theorem flK_out {p : Int → Bool} {q : List Int} {k : Nat} {y : Int} (hy : q[k]? = some y) (h : p y = false) : flK p q (k + 1) = flK p q k := by
  unfold flK; rw [take_add9 hy, List.filter_append]; simp [h]
theorem flK_in {p : Int → Bool} {q : List Int} {k : Nat} {y : Int} (hy : q[k]? = some y) (h : p y = true) : flK p q (k + 1) = flK p q k + 1 ∧ (q.filter p)[flK p q k]? = some y := by
  refine ⟨by unfold flK; rw [take_add9 hy, List.filter_append]; simp [h], ?_⟩
  unfold flK
  have e : q = q.take k ++ y :: q.drop (k + 1) := by
    obtain ⟨hk, rfl⟩ := List.getElem?_eq_some_iff.1 hy
    rw [List.getElem_cons_drop, List.take_append_drop]
  have : q.filter p = (q.take k).filter p ++ y :: (q.drop (k + 1)).filter p := by
    conv => lhs; rw [e]
    rw [List.filter_append, List.filter_cons, if_pos h]
  rw [this, List.getElem?_append_right (Nat.le_refl _), Nat.sub_self]; rfl
end Go.Own.F
