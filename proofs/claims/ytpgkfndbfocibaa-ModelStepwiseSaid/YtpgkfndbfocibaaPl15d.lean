import Derived.Test.YtpgkfndbfocibaaPl15c
import Derived.Test.YtpgkfndbfocibaaSepU
namespace Go.Own.Gr
open Go Go.Own Go.Own.R Go.Own.G
theorem rg_at {rs : List Int} {a y : Int} (hy : rs[a.toNat]? = some y) : rg rs a = y := by unfold rg; rw [List.getD_eq_getElem?_getD, hy]; rfl
theorem ob_at {O : List Ob} {rs : List Int} {a : Int} {y : Ob} (hy : O[(rg rs a - 1).toNat]? = some y) : ob (O.map ab) rs a = ab y := by
  unfold ob; rw [List.getD_eq_getElem?_getD, mapE hy]; rfl
end Go.Own.Gr
namespace Go.Own.Gr
open Go Go.Own Go.Own.R Go.Own.G
theorem rw_ck {O : List Ab} {rs : List Int} {a f : Int} (h : ckd O rs [a] ≠ 0) : rwE O rs [a] a f = ckd O rs [a] ∧ rdV O rs a f = 0 := by
  have e : rwE O rs [a] a f = ckd O rs [a] := by unfold rwE; rw [if_pos h]
  refine ⟨e, ?_⟩; unfold rdV; rw [if_pos (by rw [e]; exact h)]
theorem rw_no {O : List Ab} {rs : List Int} {a f : Int} (h : ckd O rs [a] = 0) (hz : rg rs a = 0 ∨ f < 0 ∨ ((ob O rs a).2.length : Int) ≤ f) : rwE O rs [a] a f = 10 ∧ rdV O rs a f = 0 := by
  have e : rwE O rs [a] a f = 10 := by unfold rwE; rw [if_neg (by simpa using h), if_pos hz]
  refine ⟨e, ?_⟩; unfold rdV; rw [if_pos (by rw [e]; decide)]
theorem rw_ok {O : List Ab} {rs : List Int} {a f x : Int} {o : Ab} (h : ckd O rs [a] = 0) (hz : ¬ (rg rs a = 0 ∨ f < 0 ∨ ((ob O rs a).2.length : Int) ≤ f)) (hob : ob O rs a = o) (hx : o.2[f.toNat]? = some x) : rwE O rs [a] a f = 0 ∧ rdV O rs a f = x := by
  have e : rwE O rs [a] a f = 0 := by unfold rwE; rw [if_neg (by simpa using h), if_neg hz]
  refine ⟨e, ?_⟩; unfold rdV; rw [if_neg (by rw [e]; decide), hob, List.getD_eq_getElem?_getD, hx]; rfl
theorem sh_ck {O : List Ab} {rs : List Int} {a : Int} (h : ckd O rs [a] ≠ 0) : shE O rs a = ckd O rs [a] ∧ shP O rs a = 0 ∧ shR O rs a = 0 := by
  have e : shE O rs a = ckd O rs [a] := by unfold shE; rw [if_pos h]
  refine ⟨e, ?_, ?_⟩
  · unfold shP; rw [if_pos (by rw [e]; exact h)]
  · unfold shR; rw [if_pos (by rw [e]; exact h)]
theorem sh_no {O : List Ab} {rs : List Int} {a : Int} (h : ckd O rs [a] = 0) (hz : rg rs a = 0) : shE O rs a = 10 ∧ shP O rs a = 0 ∧ shR O rs a = 0 := by
  have e : shE O rs a = 10 := by unfold shE; rw [if_neg (by simpa using h), if_pos hz]
  refine ⟨e, ?_, ?_⟩
  · unfold shP; rw [if_pos (by rw [e]; decide)]
  · unfold shR; rw [if_pos (by rw [e]; decide)]
theorem sh_ok {O : List Ab} {rs : List Int} {a : Int} {o : Ab} (h : ckd O rs [a] = 0) (hz : ¬ rg rs a = 0) (hob : ob O rs a = o) : shE O rs a = 0 ∧ shP O rs a = (o.1.length : Int) ∧ shR O rs a = (o.2.length : Int) := by
  have e : shE O rs a = 0 := by unfold shE; rw [if_neg (by simpa using h), if_neg hz]
  refine ⟨e, ?_, ?_⟩
  · unfold shP; rw [if_neg (by rw [e]; decide), hob]
  · unfold shR; rw [if_neg (by rw [e]; decide), hob]
theorem al_ok {O : List Ab} {rs : List Int} {a b y z : Int} (h : ckd O rs [a, b] = 0) (hy : rs[a.toNat]? = some y) (hz : rs[b.toNat]? = some z) : alB O rs a b = decide (y = z) := by
  unfold alB; rw [rg_at hy, rg_at hz]; simp [h]
theorem al_err {O : List Ab} {rs : List Int} {a b : Int} (h : ¬ ckd O rs [a, b] = 0) : alB O rs a b = false := by unfold alB; simp [h]
end Go.Own.Gr
