import Derived.Test.YtpgkfndbfocibaaGreatPl15f
namespace Go.Own.Gr
open Go Go.Own Go.Own.R Go.Own.G
theorem ckd_nil (O : List Ab) (rs : List Int) : ckd O rs [] = (ckG O rs).2 := by unfold ckd; by_cases h : (ckG O rs).2 = 0 <;> simp [h]
theorem wdN_e {O : List Ab} {rs : List Int} (h : ¬ (ckG O rs).2 = 0) : wdN O rs = 0 := by unfold wdN; rw [if_pos h]
theorem wdN_k {O : List Ab} {rs : List Int} (h : (ckG O rs).2 = 0) : wdN O rs = ((lvL O rs).map (wd1 O)).sum := by unfold wdN; rw [if_neg (by simpa using h)]
theorem rcL_rng {O : List Ab} {rs p : List Int} {x : Int} (hg : GG O rs) (h : p ++ [x] <+: rcL O rs) : 1 ≤ x ∧ x ≤ (O.length : Int) :=
 ((rcL_wl hg).met x (h.subset (by simp))).rng hg
theorem wd1_at {O : List Ob} {x : Int} {y : Ob} (hy : O[(x - 1).toNat]? = some y) : wd1 (O.map ab) x = 1 + (y.1.2.length : Int) + (y.2.2.length : Int) := by
 unfold wd1; rw [List.getD_eq_getElem?_getD, mapE hy]
 simp only [Option.getD_some, ab]; omega
theorem wd_snoc {O : List Ob} {p : List Int} {x : Int} {y : Ob} (hy : O[(x - 1).toNat]? = some y) : ((p ++ [x]).map (wd1 (O.map ab))).sum = (p.map (wd1 (O.map ab))).sum + (1 + (y.1.2.length : Int) + (y.2.2.length : Int)) := by
 rw [List.map_append, List.sum_append, List.map_singleton, List.sum_singleton, wd1_at hy]
def WB (O : List Ab) (p : List Int) : Prop := 0 ≤ (p.map (wd1 O)).sum ∧ (p.map (wd1 O)).sum ≤ (p.length : Int) * 2097153
theorem WB.snoc {O : List Ob} {p : List Int} {x : Int} {y : Ob} (h : WB (O.map ab) p) (hy : O[(x - 1).toNat]? = some y) (hs : SM (O.map ab)) : WB (O.map ab) (p ++ [x]) := by
 have := hs.at hy
 unfold WB at h ⊢
 rw [wd_snoc hy, List.length_append, List.length_singleton]
 omega
theorem WB.bd {O : List Ab} {p : List Int} (h : WB O p) (hl : p.length ≤ 400) : 0 ≤ (p.map (wd1 O)).sum ∧ (p.map (wd1 O)).sum ≤ 838861200 := by
 obtain ⟨h1, h2⟩ := h
 refine ⟨h1, Int.le_trans h2 ?_⟩
 omega
theorem tk_snoc {l : List Int} {k : Nat} {x : Int} (h : l[k]? = some x) : l.take (k + 1) = l.take k ++ [x] := take_snoc' l k x h
end Go.Own.Gr
