/- The law RemsetBarrier (shunterlaw08) returns true for every input. No condition. -/
import Derived.Test.YteppjefmlibmoaaRows
import Derived.Test.YteppjefmlibmoaaLRemsetBarrier
import Derived.Test.YteppjefmlibmoaaFr8b
import Derived.ProofKit
namespace Go.Proofs.Yteppjefmlibmoaa
open Go.ChangeShapes Go.WideShapes Go.ChangeAt Go.RowKit Go.Own

theorem own : ownKnob Try.prog.godebug = none := by kernel_rfl
theorem laid : laidOutB Try.prog = true := by kernel_rfl

set_option maxRecDepth 100000 in
theorem RemsetBarrier_lifted (os : Os) (started : os.Started) (H : Type) (enc : TypeId × Value → H) :
  ReturnsInHanded {} Try.checked os 6 .any (Rows.remsetBarrierSpec.pre6 enc Try.prog Try.f6 Rows.remsetBarrierRow.domain false) (Rows.remsetBarrierSpec.post enc Try.prog Try.f6 false true false false) := by
 refine returnsInHanded_of_change (C := Try.checked) own started (by kernel_rfl) Try.func6
  (ChangeSpec.witness6 (enc := enc) (C := Try.checked) false ⟨#[], #[.agg #[.int .i64 0, .int .i64 0, .int .i64 0, .int .i64 0, .int .i64 0], .slice none 0 0], []⟩ 8 (by kernel_rfl) (by kernel_rfl) (by kernel_rfl) (by kernel_rfl)) ?_
 intro W base args ds gs before hval0 hW hcnd _
 have hval : ∀ (j : Nat) t v, Try.f6.params[j]? = some t → args[j]? = some v → Value.okWide Try.prog W .any base t v := hval0
 have hW' := hW
 obtain ⟨p, q, hA0, hV, rfl, hfz, hnd⟩ := hW
 obtain ⟨rfl, rfl⟩ := trodVars_none hV
 have hA : DataW.TrodAll enc Try.prog W 0 (fun _ => true) true Try.f6.params.toList args.toList ds p := hA0
 have hA2 := hA
 rw [Try.params6] at hA hval
 obtain ⟨v0, vs0, d0, ds0, p0, q0, hargs, rfl, rfl, h0, r0⟩ := trodAll_cons hA
 obtain ⟨v1, vs1, d1, ds1, p1, q1, rfl, rfl, rfl, h1, r1⟩ := trodAll_cons r0
 obtain ⟨rfl, rfl, rfl⟩ := trodAll_nil r1
 obtain rfl : args = #[v0, v1] := by cases args; simp_all
 simp only [List.append_nil] at hW' hA2
 obtain ⟨C0, N0, Z0, K0, Q0, rfl⟩ := open_cfg Try.underlying23 (by kernel_rfl) (by kernel_rfl) Try.underlying3 (hval 0 23 _ rfl rfl)
 obtain ⟨n1, t1⟩ := h1
 obtain ⟨xs1, hx1, hr1⟩ := open_rowuu Go.Own.E.auC (fun _ => rfl) Try.underlying55 Try.underlying59 (by kernel_rfl) ⟨rfl, rfl⟩ rfl rfl Try.underlying57 Try.underlying57 (by kernel_rfl) (by kernel_rfl) (okW_cell Try.underlying55 (hval 1 55 v1 rfl rfl)) (trod_one Try.underlying55 (hval 1 55 v1 rfl rfl) t1)
 refine (RemsetBarrier_c hx1 hr1).mono fun e W' ⟨he, hE⟩ => ?_
 subst he
 exact ⟨_, rfl, law_post laid (by kernel_rfl) rfl Try.underlying4 rfl rfl hW' hA2 hE.e⟩

theorem RemsetBarrier_holds : Rows.RemsetBarrierSaid :=
 OpenClaim.holds_of_wide 6 Try.f6 rfl rfl rfl rfl rfl rfl rfl ⟨rfl, rfl, rfl, rfl, rfl⟩ rfl rfl rfl rfl rfl (by kernel_rfl) Try.func6 (by kernel_rfl)
  (of_decide_eq_true (by kernel_rfl)) (by unfold Func.isWrapper; first | (rw [if_pos (by decide +kernel)]; kernel_rfl) | (rw [if_neg (by decide +kernel)]; exact ⟨rfl, rfl⟩))
  (fun os started H enc _ => RemsetBarrier_lifted os started H enc)
end Go.Proofs.Yteppjefmlibmoaa
