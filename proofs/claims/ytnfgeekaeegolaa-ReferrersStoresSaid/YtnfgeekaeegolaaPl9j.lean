import Derived.Test.YtnfgeekaeegolaaPl9i
/-! counts added up in a map -/
namespace Go.Own.F
open Go Go.Own Go.Own.R Go.Own.S
structure KM (X : List (Int × Int)) (k : Nat) (M : List (Int × Int)) : Prop where
  nd : (M.map (·.1)).Nodup
  val : ∀ t, lkN M t = smN (X.take k) t
  pos : ∀ p ∈ M, 0 < p.2
  le : ∀ t, smN (X.take k) t ≤ 1600
  len : M.length ≤ k
theorem smN_cons (x : Int × Int) (r : List (Int × Int)) (t : Int) : smN (x :: r) t = (if t = x.1 then x.2 else 0) + smN r t := by simp [smN]
theorem smN_lt : ∀ {l : List (Int × Int)} {t : Int}, (∀ x ∈ l, t < x.1) → smN l t = 0
  | [], t, _ => rfl
  | x :: r, t, h => by
    have := h x (by simp)
    rw [smN_cons, if_neg (by omega), smN_lt fun y hy => h y (List.mem_cons_of_mem _ hy)]; rfl
theorem smN_nOf : ∀ {l : List (Int × Int)}, Asc l → ∀ t, smN l t = nOf l t
  | [], _, t => rfl
  | x :: r, h, t => by
    unfold Asc at h
    rw [List.pairwise_cons] at h
    rw [smN_cons, nOf_cons]
    by_cases e : t = x.1
    · subst e; rw [if_pos rfl, if_pos rfl, smN_lt h.1]; omega
    · rw [if_neg e, if_neg (fun q => e q.symm), smN_nOf h.2]; omega
end Go.Own.F
