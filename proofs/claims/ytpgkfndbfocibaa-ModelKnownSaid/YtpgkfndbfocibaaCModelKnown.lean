/- The law ModelKnown (shunterlaw29) returns true for every input. No condition. -/
import Derived.Test.YtpgkfndbfocibaaRows
import Derived.Test.YtpgkfndbfocibaaLModelKnown
import Derived.Test.YtpgkfndbfocibaaFr29
import Derived.Test.YtpgkfndbfocibaaFr15
import Derived.ProofKit
namespace Go.Proofs.Ytpgkfndbfocibaa
open Go.ChangeShapes Go.WideShapes Go.ChangeAt Go.RowKit Go.Own

theorem own : ownKnob Try.prog.godebug = none := by kernel_rfl
theorem laid : laidOutB Try.prog = true := by kernel_rfl

set_option maxRecDepth 100000 in
theorem ModelKnown_lifted (os : Os) (started : os.Started) (H : Type) (enc : TypeId × Value → H) :
  ReturnsInHanded {} Try.checked os 6 .any (Rows.modelKnownSpec.pre6 enc Try.prog Try.f6 Rows.modelKnownRow.domain false) (Rows.modelKnownSpec.post enc Try.prog Try.f6 false true false false) := by
 refine returnsInHanded_of_change (C := Try.checked) own started (by kernel_rfl) Try.func6
  (ChangeSpec.witness6 (enc := enc) (C := Try.checked) false ⟨#[], #[], []⟩ 8 (by kernel_rfl) (by kernel_rfl) (by kernel_rfl) (by kernel_rfl)) ?_
 intro W base args ds gs before hval0 hW hcnd _
 have hval : ∀ (j : Nat) t v, Try.f6.params[j]? = some t → args[j]? = some v → Value.okWide Try.prog W .any base t v := hval0
 have hW' := hW
 obtain ⟨p, q, hA0, hV, rfl, hfz, hnd⟩ := hW
 obtain ⟨rfl, rfl⟩ := trodVars_none hV
 have hA : DataW.TrodAll enc Try.prog W 0 (fun _ => true) true Try.f6.params.toList args.toList ds p := hA0
 have hA2 := hA
 rw [Try.params6] at hA hval
 obtain ⟨hargs, rfl, rfl⟩ := trodAll_nil hA
 obtain rfl : args = #[] := by cases args; simp_all
 simp only [List.append_nil] at hW' hA2

 refine (ModelKnown_c ).mono fun e W' ⟨he, hE⟩ => ?_
 subst he
 exact ⟨_, rfl, law_post laid (by kernel_rfl) V Try.underlying4 V V hW' hA2 hE.e⟩

theorem ModelKnown_holds : Rows.ModelKnownSaid :=
 OpenClaim.holds_of_wide 6 Try.f6 V V V V V V V ⟨rfl, rfl, rfl, rfl, rfl⟩ rfl V V V V (by kernel_rfl) Try.func6 (by kernel_rfl)
  (of_decide_eq_true (by kernel_rfl)) (by unfold Func.isWrapper; first | (rw [if_pos (by decide +kernel)]; kernel_rfl) | (rw [if_neg (by decide +kernel)]; exact ⟨rfl, rfl⟩))
  (fun os started H enc _ => ModelKnown_lifted os started H enc)
end Go.Proofs.Ytpgkfndbfocibaa
