/- The law ReferrersStores (shunterlaw09) returns true for every input. No condition. -/
import Derived.Test.YtnfgeekaeegolaaRows
import Derived.Test.YtnfgeekaeegolaaLReferrersStores
import Derived.Test.YtnfgeekaeegolaaFr9
import Derived.ProofKit
namespace Go.Proofs.Ytnfgeekaeegolaa
open Go.ChangeShapes Go.WideShapes Go.ChangeAt Go.RowKit Go.Own

theorem own : ownKnob Try.prog.godebug = none := by kernel_rfl
theorem laid : laidOutB Try.prog = true := by kernel_rfl

set_option maxRecDepth 100000 in
theorem ReferrersStores_lifted (os : Os) (started : os.Started) (H : Type) (enc : TypeId × Value → H) :
    ReturnsInHanded {} Try.checked os 5 .any (Rows.referrersStoresSpec.pre6 enc Try.prog Try.f5 Rows.referrersStoresRow.domain false) (Rows.referrersStoresSpec.post enc Try.prog Try.f5 false true false false) := by
  refine returnsInHanded_of_change (C := Try.checked) own started (by kernel_rfl) Try.func5
    (ChangeSpec.witness6 (enc := enc) (C := Try.checked) false ⟨#[], #[.slice none 0 0, .agg #[.slice none 0 0], .agg #[.int .u16 0, .int .u16 0]], []⟩ 8 (by kernel_rfl) (by kernel_rfl) (by kernel_rfl) (by kernel_rfl)) ?_
  intro W base args ds gs before hval0 hW hcnd _
  have hval : ∀ (j : Nat) t v, Try.f5.params[j]? = some t → args[j]? = some v → Value.okWide Try.prog W .any base t v := hval0
  have hW' := hW
  obtain ⟨p, q, hA0, hV, rfl, hfz, hnd⟩ := hW
  obtain ⟨rfl, rfl⟩ := trodVars_none hV
  have hA : DataW.TrodAll enc Try.prog W 0 (fun _ => true) true Try.f5.params.toList args.toList ds p := hA0
  have hA2 := hA
  rw [Try.params5] at hA hval
  obtain ⟨v0, vs0, d0, ds0, p0, q0, hargs, rfl, rfl, h0, r0⟩ := trodAll_cons hA
  obtain ⟨v1, vs1, d1, ds1, p1, q1, rfl, rfl, rfl, h1, r1⟩ := trodAll_cons r0
  obtain ⟨v2, vs2, d2, ds2, p2, q2, rfl, rfl, rfl, h2, r2⟩ := trodAll_cons r1
  obtain ⟨rfl, rfl, rfl⟩ := trodAll_nil r2
  obtain rfl : args = #[v0, v1, v2] := by cases args; simp_all
  simp only [List.append_nil] at hW' hA2
  obtain ⟨n0, t0⟩ := h0
  obtain ⟨zs0, hz0, hr0⟩ := open_slI Try.underlying22 Try.underlying40 (by kernel_rfl) (okW_cell Try.underlying22 (hval 0 22 v0 rfl rfl)) (trod_one Try.underlying22 (hval 0 22 v0 rfl rfl) t0)
  obtain ⟨n1, t1⟩ := h1
  obtain ⟨lv1, lo1, rfl, hl1⟩ := open_set1 Try.underlying25 (by kernel_rfl) rfl rfl Try.underlying23 (by kernel_rfl) Try.underlying3 (by kernel_rfl) (by kernel_rfl) (hval 1 25 _ rfl rfl) t1
  obtain ⟨xa2, xb2, rfl, wa2, wb2⟩ := open_arr2 Try.underlying44 Try.underlying43 (by kernel_rfl) (by kernel_rfl) (hval 2 44 _ rfl rfl)
  refine (ReferrersStores_c (ints_ro hz0) (ints_ro hl1) (fun z hz => ⟨wf_u64_lo (hr0 z hz), wf_u64_hi (hr0 z hz)⟩) (has_u16 wa2) (has_u16 wb2)).mono fun e W' ⟨he, hE⟩ => ?_
  subst he
  exact ⟨_, rfl, law_post laid (by kernel_rfl) rfl Try.underlying4 rfl rfl hW' hA2 hE.e⟩

theorem ReferrersStores_holds : Rows.ReferrersStoresSaid :=
  OpenClaim.holds_of_wide 5 Try.f5 rfl rfl rfl rfl rfl rfl rfl ⟨rfl, rfl, rfl, rfl, rfl⟩ rfl rfl rfl rfl rfl (by kernel_rfl) Try.func5 (by kernel_rfl)
    (of_decide_eq_true (by kernel_rfl)) (by unfold Func.isWrapper; first | (rw [if_pos (by decide +kernel)]; kernel_rfl) | (rw [if_neg (by decide +kernel)]; exact ⟨rfl, rfl⟩))
    (fun os started H enc _ => ReferrersStores_lifted os started H enc)
end Go.Proofs.Ytnfgeekaeegolaa
