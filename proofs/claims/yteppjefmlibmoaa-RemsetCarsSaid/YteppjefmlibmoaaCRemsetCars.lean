/- The law RemsetCars (shunterlaw08) returns true for every input. No condition. -/
import Derived.Test.YteppjefmlibmoaaRows
import Derived.Test.YteppjefmlibmoaaLRemsetCars
import Derived.Test.YteppjefmlibmoaaFr8
import Derived.ProofKit
namespace Go.Proofs.Yteppjefmlibmoaa
open Go.ChangeShapes Go.WideShapes Go.ChangeAt Go.RowKit Go.Own

theorem own : ownKnob Try.prog.godebug = none := by kernel_rfl
theorem laid : laidOutB Try.prog = true := by kernel_rfl

set_option maxRecDepth 100000 in
theorem RemsetCars_lifted (os : Os) (started : os.Started) (H : Type) (enc : TypeId × Value → H) :
  ReturnsInHanded {} Try.checked os 3 .any (Rows.remsetCarsSpec.pre6 enc Try.prog Try.f3 Rows.remsetCarsRow.domain false) (Rows.remsetCarsSpec.post enc Try.prog Try.f3 false true false false) := by
 refine returnsInHanded_of_change (C := Try.checked) own started (by kernel_rfl) Try.func3
  (ChangeSpec.witness6 (enc := enc) (C := Try.checked) false ⟨#[], #[.agg #[.int .i64 0, .int .i64 0, .int .i64 0, .int .i64 0, .int .i64 0, .slice none 0 0, .slice none 0 0], .int .u8 0], []⟩ 8 (by kernel_rfl) (by kernel_rfl) (by kernel_rfl) (by kernel_rfl)) ?_
 intro W base args ds gs before hval0 hW hcnd _
 have hval : ∀ (j : Nat) t v, Try.f3.params[j]? = some t → args[j]? = some v → Value.okWide Try.prog W .any base t v := hval0
 have hW' := hW
 obtain ⟨p, q, hA0, hV, rfl, hfz, hnd⟩ := hW
 obtain ⟨rfl, rfl⟩ := trodVars_none hV
 have hA : DataW.TrodAll enc Try.prog W 0 (fun _ => true) true Try.f3.params.toList args.toList ds p := hA0
 have hA2 := hA
 rw [Try.params3] at hA hval
 obtain ⟨v0, vs0, d0, ds0, p0, q0, hargs, rfl, rfl, h0, r0⟩ := trodAll_cons hA
 obtain ⟨v1, vs1, d1, ds1, p1, q1, rfl, rfl, rfl, h1, r1⟩ := trodAll_cons r0
 obtain ⟨rfl, rfl, rfl⟩ := trodAll_nil r1
 obtain rfl : args = #[v0, v1] := by cases args; simp_all
 simp only [List.append_nil] at hW' hA2
 obtain ⟨n0, t0⟩ := h0
 obtain ⟨C0, N0, Z0, K0, Q0, cv0, Y0, nv0, ns0, rfl, hc0, hn0⟩ := open_case Try.underlying31 (by kernel_rfl) (by kernel_rfl) ⟨rfl, rfl⟩ (by kernel_rfl) ⟨rfl, rfl⟩ Try.underlying3 Try.underlying29 (by kernel_rfl) ⟨rfl, rfl⟩ ⟨rfl, rfl⟩ Try.underlying24 (by kernel_rfl) Try.underlying27 (by kernel_rfl) rfl rfl Try.underlying25 (by kernel_rfl) Try.underlying3 (by kernel_rfl) (hval 0 31 _ rfl rfl) t0
 obtain ⟨a1, rfl, rfl, rfl, w1⟩ := open_int Try.underlying5 (hval 1 5 v1 rfl rfl) h1
 refine (RemsetCars_c hc0 hn0 (u8_lo w1) (u8_hi w1)).mono fun e W' ⟨he, hE⟩ => ?_
 subst he
 exact ⟨_, rfl, law_post laid (by kernel_rfl) rfl Try.underlying4 rfl rfl hW' hA2 hE.e⟩

theorem RemsetCars_holds : Rows.RemsetCarsSaid :=
 OpenClaim.holds_of_wide 3 Try.f3 rfl rfl rfl rfl rfl rfl rfl ⟨rfl, rfl, rfl, rfl, rfl⟩ rfl rfl rfl rfl rfl (by kernel_rfl) Try.func3 (by kernel_rfl)
  (of_decide_eq_true (by kernel_rfl)) (by unfold Func.isWrapper; first | (rw [if_pos (by decide +kernel)]; kernel_rfl) | (rw [if_neg (by decide +kernel)]; exact ⟨rfl, rfl⟩))
  (fun os started H enc _ => RemsetCars_lifted os started H enc)
end Go.Proofs.Yteppjefmlibmoaa
