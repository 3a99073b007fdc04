/- The law GraphChanges (shunterlaw15) returns true for every input. No condition. -/
import Derived.Test.YtdilbnmaihmgnaaRows
import Derived.Test.YtdilbnmaihmgnaaLGraphChanges
import Derived.Test.YtdilbnmaihmgnaaFr15
import Derived.ProofKit
namespace Go.Proofs.Ytdilbnmaihmgnaa
open Go.ChangeShapes Go.WideShapes Go.ChangeAt Go.RowKit Go.Own

theorem own : ownKnob Try.prog.godebug = none := by kernel_rfl
theorem laid : laidOutB Try.prog = true := by kernel_rfl

set_option maxRecDepth 100000 in
theorem GraphChanges_lifted (os : Os) (started : os.Started) (H : Type) (enc : TypeId × Value → H) :
    ReturnsInHanded {} Try.checked os 8 .any (Rows.graphChangesSpec.pre6 enc Try.prog Try.f8 Rows.graphChangesRow.domain false) (Rows.graphChangesSpec.post enc Try.prog Try.f8 false true false false) := by
  refine returnsInHanded_of_change_sized (C := Try.checked) own started (by kernel_rfl) Try.func8
    (ChangeSpec.witness6 (enc := enc) (C := Try.checked) false ⟨#[], #[.agg #[.slice none 0 0, .slice none 0 0], .agg #[.int .i64 0, .int .i64 0, .int .i64 0, .int .u64 0], .agg #[.int .i64 0, .int .i64 0]], []⟩ 8 (by kernel_rfl) (by kernel_rfl) (by kernel_rfl) (by kernel_rfl)) ?_
  intro W base args ds gs before hval0 hW hcnd hz _
  have hval : ∀ (j : Nat) t v, Try.f8.params[j]? = some t → args[j]? = some v → Value.okWide Try.prog W .any base t v := hval0
  have hW' := hW
  obtain ⟨p, q, hA0, hV, rfl, hfz, hnd⟩ := hW
  obtain ⟨rfl, rfl⟩ := trodVars_none hV
  have hA : DataW.TrodAll enc Try.prog W 0 (fun _ => true) true Try.f8.params.toList args.toList ds p := hA0
  have hA2 := hA
  rw [Try.params8] at hA hval hz
  obtain ⟨v0, vs0, d0, ds0, p0, q0, hargs, rfl, rfl, h0, r0⟩ := trodAll_cons hA
  obtain ⟨v1, vs1, d1, ds1, p1, q1, rfl, rfl, rfl, h1, r1⟩ := trodAll_cons r0
  obtain ⟨v2, vs2, d2, ds2, p2, q2, rfl, rfl, rfl, h2, r2⟩ := trodAll_cons r1
  obtain ⟨rfl, rfl, rfl⟩ := trodAll_nil r2
  obtain rfl : args = #[v0, v1, v2] := by cases args; simp_all
  simp only [List.append_nil] at hW' hA2
  obtain ⟨n0, t0⟩ := h0
  obtain ⟨ov0, O0, rv0, rs0, rfl, hO0, hN0, hR0, hB0, hU0⟩ := open_gr Try.underlying25 (by kernel_rfl) ⟨rfl, rfl⟩ rfl rfl Try.underlying22 (by kernel_rfl) (by kernel_rfl) Try.underlying40 (by kernel_rfl) ⟨rfl, rfl⟩ rfl rfl Try.underlying23 Try.underlying38 (by kernel_rfl) (by kernel_rfl) Try.underlying3 Try.underlying45 (by kernel_rfl) (by kernel_rfl) (by kernel_rfl) (by kernel_rfl) (hval 0 25 _ rfl rfl) t0 (wt_at 0 hz rfl rfl)
  obtain ⟨xa1, xb1, xc1, xd1, rfl, xu1⟩ := open_st4 Try.underlying49 (by kernel_rfl) (by kernel_rfl) Try.underlying3 Try.underlying45 (hval 1 49 _ rfl rfl)
  obtain ⟨xa2, xb2, rfl, wa2, wb2⟩ := open_arr2 Try.underlying56 Try.underlying3 (by kernel_rfl) (by kernel_rfl) (hval 2 56 _ rfl rfl)
  refine (GraphChanges_c hO0 hN0 hR0 hB0).mono fun e W' ⟨he, hE⟩ => ?_
  subst he
  exact ⟨_, rfl, law_post laid (by kernel_rfl) rfl Try.underlying4 rfl rfl hW' hA2 hE.e⟩

theorem GraphChanges_holds : Rows.GraphChangesSaid :=
  OpenClaim.holds_of_wide 8 Try.f8 rfl rfl rfl rfl rfl rfl rfl ⟨rfl, rfl, rfl, rfl, rfl⟩ rfl rfl rfl rfl rfl (by kernel_rfl) Try.func8 (by kernel_rfl)
    (of_decide_eq_true (by kernel_rfl)) (by unfold Func.isWrapper; first | (rw [if_pos (by decide +kernel)]; kernel_rfl) | (rw [if_neg (by decide +kernel)]; exact ⟨rfl, rfl⟩))
    (fun os started H enc _ => GraphChanges_lifted os started H enc)
end Go.Proofs.Ytdilbnmaihmgnaa
