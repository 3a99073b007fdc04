/- The law ModelMoments (shunterlaw29) returns true for every input. No condition. -/
import Derived.Test.YtpgkfndbfocibaaGreatRows
import Derived.Test.YtpgkfndbfocibaaGreatLModelMoments
import Derived.Test.YtpgkfndbfocibaaGreatFr29
import Derived.Test.YtpgkfndbfocibaaGreatFr15
import Derived.ProofKit
namespace Go.Proofs.YtpgkfndbfocibaaGreat
open Go.ChangeShapes Go.WideShapes Go.ChangeAt Go.RowKit Go.Own

theorem own : ownKnob Tryz.prog.godebug = none := by kernel_rfl
theorem laid : laidOutB Tryz.prog = true := by kernel_rfl

set_option maxRecDepth 100000 in
theorem ModelMoments_lifted (os : Os) (started : os.Started) (H : Type) (enc : TypeId × Value → H) :
  ReturnsInHanded {} Tryz.checked os 4 .any (Rows.modelMomentsSpec.pre6 enc Tryz.prog Tryz.f4 Rows.modelMomentsRow.domain false) (Rows.modelMomentsSpec.post enc Tryz.prog Tryz.f4 false true false false) := by
 refine returnsInHanded_of_change (C := Tryz.checked) own started (by kernel_rfl) Tryz.func4
  (ChangeSpec.witness6 (enc := enc) (C := Tryz.checked) false ⟨#[], #[.agg #[.int .i64 0, .int .i64 0, .int .i64 0, .int .i64 0, .int .i64 0], .slice none 0 0, .agg #[.slice none 0 0, .int .i64 0, .int .i64 0]], []⟩ 8 (by kernel_rfl) (by kernel_rfl) (by kernel_rfl) (by kernel_rfl)) ?_
 intro W base args ds gs before hval0 hW hcnd _
 have hval : ∀ (j : Nat) t v, Tryz.f4.params[j]? = some t → args[j]? = some v → Value.okWide Tryz.prog W .any base t v := hval0
 have hW' := hW
 obtain ⟨p, q, hA0, hV, rfl, hfz, hnd⟩ := hW
 obtain ⟨rfl, rfl⟩ := trodVars_none hV
 have hA : DataW.TrodAll enc Tryz.prog W 0 (fun _ => true) true Tryz.f4.params.toList args.toList ds p := hA0
 have hA2 := hA
 rw [Tryz.params4] at hA hval
 obtain ⟨v0, vs0, d0, ds0, p0, q0, hargs, rfl, rfl, h0, r0⟩ := trodAll_cons hA
 obtain ⟨v1, vs1, d1, ds1, p1, q1, rfl, rfl, rfl, h1, r1⟩ := trodAll_cons r0
 obtain ⟨v2, vs2, d2, ds2, p2, q2, rfl, rfl, rfl, h2, r2⟩ := trodAll_cons r1
 obtain ⟨rfl, rfl, rfl⟩ := trodAll_nil r2
 obtain rfl : args = #[v0, v1, v2] := by cases args; simp_all
 simp only [List.append_nil] at hW' hA2
 obtain ⟨C0, N0, Z0, K0, Q0, rfl⟩ := open_cfg Tryz.underlying23 (by kernel_rfl) (by kernel_rfl) Tryz.underlying3 (hval 0 23 _ rfl rfl)
 obtain ⟨n1, t1⟩ := h1
 obtain ⟨xs1, hx1, hr1⟩ := open_ops Tryz.underlying24 Tryz.underlying50 (by kernel_rfl) ⟨rfl, rfl, rfl, rfl, rfl, rfl, rfl⟩ ⟨rfl, rfl, rfl, rfl, rfl, rfl, rfl⟩ Tryz.underlying3 Tryz.underlying48 (by kernel_rfl) (by kernel_rfl) (okW_cell Tryz.underlying24 (hval 1 24 v1 rfl rfl)) (trod_one Tryz.underlying24 (hval 1 24 v1 rfl rfl) t1)
 obtain ⟨n2, t2⟩ := h2
 obtain ⟨fv2, zs2, mi2, mj2, rfl, hz2⟩ := open_mom Tryz.underlying42 (by kernel_rfl) (by kernel_rfl) ⟨rfl, rfl, rfl⟩ rfl Tryz.underlying25 (by kernel_rfl) Tryz.underlying3 (by kernel_rfl) (hval 2 42 _ rfl rfl) t2
 refine (ModelMoments_c hx1 hz2).mono fun e W' ⟨he, hE⟩ => ?_
 subst he
 exact ⟨_, rfl, law_post laid (by kernel_rfl) V Tryz.underlying4 V V hW' hA2 hE.e⟩

theorem ModelMoments_holds : Rows.ModelMomentsSaid :=
 OpenClaim.holds_of_wide 4 Tryz.f4 V V V V V V V ⟨rfl, rfl, rfl, rfl, rfl⟩ rfl V V V V (by kernel_rfl) Tryz.func4 (by kernel_rfl)
  (of_decide_eq_true (by kernel_rfl)) (by unfold Func.isWrapper; first | (rw [if_pos (by decide +kernel)]; kernel_rfl) | (rw [if_neg (by decide +kernel)]; exact ⟨rfl, rfl⟩))
  (fun os started H enc _ => ModelMoments_lifted os started H enc)
end Go.Proofs.YtpgkfndbfocibaaGreat
