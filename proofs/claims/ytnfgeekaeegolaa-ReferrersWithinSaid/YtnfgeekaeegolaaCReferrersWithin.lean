/- The law ReferrersWithin (shunterlaw09) returns true for every input. No condition. -/
import Derived.Test.YtnfgeekaeegolaaRows
import Derived.Test.YtnfgeekaeegolaaLReferrersWithin
import Derived.Test.YtnfgeekaeegolaaFr9
import Derived.ProofKit
namespace Go.Proofs.Ytnfgeekaeegolaa
open Go.ChangeShapes Go.WideShapes Go.ChangeAt Go.RowKit Go.Own

theorem own : ownKnob Try.prog.godebug = none := by kernel_rfl
theorem laid : laidOutB Try.prog = true := by kernel_rfl

set_option maxRecDepth 100000 in
theorem ReferrersWithin_lifted (os : Os) (started : os.Started) (H : Type) (enc : TypeId × Value → H) :
    ReturnsInHanded {} Try.checked os 10 .any (Rows.referrersWithinSpec.pre6 enc Try.prog Try.f10 Rows.referrersWithinRow.domain false) (Rows.referrersWithinSpec.post enc Try.prog Try.f10 false true false false) := by
  refine returnsInHanded_of_change (C := Try.checked) own started (by kernel_rfl) Try.func10
    (ChangeSpec.witness6 (enc := enc) (C := Try.checked) false ⟨#[], #[.slice none 0 0, .agg #[.int .u16 0, .int .u16 0, .int .u16 0]], []⟩ 8 (by kernel_rfl) (by kernel_rfl) (by kernel_rfl) (by kernel_rfl)) ?_
  intro W base args ds gs before hval0 hW hcnd _
  have hval : ∀ (j : Nat) t v, Try.f10.params[j]? = some t → args[j]? = some v → Value.okWide Try.prog W .any base t v := hval0
  have hW' := hW
  obtain ⟨p, q, hA0, hV, rfl, hfz, hnd⟩ := hW
  obtain ⟨rfl, rfl⟩ := trodVars_none hV
  have hA : DataW.TrodAll enc Try.prog W 0 (fun _ => true) true Try.f10.params.toList args.toList ds p := hA0
  have hA2 := hA
  rw [Try.params10] at hA hval
  obtain ⟨v0, vs0, d0, ds0, p0, q0, hargs, rfl, rfl, h0, r0⟩ := trodAll_cons hA
  obtain ⟨v1, vs1, d1, ds1, p1, q1, rfl, rfl, rfl, h1, r1⟩ := trodAll_cons r0
  obtain ⟨rfl, rfl, rfl⟩ := trodAll_nil r1
  obtain rfl : args = #[v0, v1] := by cases args; simp_all
  simp only [List.append_nil] at hW' hA2
  obtain ⟨n0, t0⟩ := h0
  obtain ⟨xs0, hx0⟩ := open_row2 Go.Own.F.rcC (fun _ => rfl) Try.underlying28 Try.underlying42 (by kernel_rfl) ⟨rfl, rfl⟩ rfl rfl Try.underlying3 (by kernel_rfl) (okW_cell Try.underlying28 (hval 0 28 v0 rfl rfl)) (trod_one Try.underlying28 (hval 0 28 v0 rfl rfl) t0)
  obtain ⟨xa1, xb1, xc1, rfl, wa1, wb1, wc1⟩ := open_arr3K Try.underlying59 Try.underlying43 (by kernel_rfl) (by kernel_rfl) (hval 1 59 _ rfl rfl)
  refine (ReferrersWithin_c hx0 (has_u16 wa1) (has_u16 wb1) (has_u16 wc1)).mono fun e W' ⟨he, hE⟩ => ?_
  subst he
  exact ⟨_, rfl, law_post laid (by kernel_rfl) rfl Try.underlying4 rfl rfl hW' hA2 hE.e⟩

theorem ReferrersWithin_holds : Rows.ReferrersWithinSaid :=
  OpenClaim.holds_of_wide 10 Try.f10 rfl rfl rfl rfl rfl rfl rfl ⟨rfl, rfl, rfl, rfl, rfl⟩ rfl rfl rfl rfl rfl (by kernel_rfl) Try.func10 (by kernel_rfl)
    (of_decide_eq_true (by kernel_rfl)) (by unfold Func.isWrapper; first | (rw [if_pos (by decide +kernel)]; kernel_rfl) | (rw [if_neg (by decide +kernel)]; exact ⟨rfl, rfl⟩))
    (fun os started H enc _ => ReferrersWithin_lifted os started H enc)
end Go.Proofs.Ytnfgeekaeegolaa
