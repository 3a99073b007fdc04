/- The law SlotsOrders (shunterlaw07) returns true for every input. No condition. -/
import Derived.Test.YtoandfgkkmfobaaRows
import Derived.Test.YtoandfgkkmfobaaLSlotsOrders
import Derived.Test.YtoandfgkkmfobaaFr7
import Derived.ProofKit
namespace Go.Proofs.Ytoandfgkkmfobaa
open Go.ChangeShapes Go.WideShapes Go.ChangeAt Go.RowKit Go.Own

theorem own : ownKnob Try.prog.godebug = none := by kernel_rfl
theorem laid : laidOutB Try.prog = true := by kernel_rfl

set_option maxRecDepth 100000 in
theorem SlotsOrders_lifted (os : Os) (started : os.Started) (H : Type) (enc : TypeId × Value → H) :
    ReturnsInHanded {} Try.checked os 10 .any (Rows.slotsOrdersSpec.pre6 enc Try.prog Try.f10 Rows.slotsOrdersRow.domain false) (Rows.slotsOrdersSpec.post enc Try.prog Try.f10 false true false false) := by
  refine returnsInHanded_of_change (C := Try.checked) own started (by kernel_rfl) Try.func10
    (ChangeSpec.witness6 (enc := enc) (C := Try.checked) false ⟨#[], #[.agg #[.slice none 0 0], .agg #[.slice none 0 0], .slice none 0 0], []⟩ 8 (by kernel_rfl) (by kernel_rfl) (by kernel_rfl) (by kernel_rfl)) ?_
  intro W base args ds gs before hval0 hW hcnd _
  have hval : ∀ (j : Nat) t v, Try.f10.params[j]? = some t → args[j]? = some v → Value.okWide Try.prog W .any base t v := hval0
  have hW' := hW
  obtain ⟨p, q, hA0, hV, rfl, hfz, hnd⟩ := hW
  obtain ⟨rfl, rfl⟩ := trodVars_none hV
  have hA : DataW.TrodAll enc Try.prog W 0 (fun _ => true) true Try.f10.params.toList args.toList ds p := hA0
  have hA2 := hA
  rw [Try.params10] at hA hval
  obtain ⟨v0, vs0, d0, ds0, p0, q0, hargs, rfl, rfl, h0, r0⟩ := trodAll_cons hA
  obtain ⟨v1, vs1, d1, ds1, p1, q1, rfl, rfl, rfl, h1, r1⟩ := trodAll_cons r0
  obtain ⟨v2, vs2, d2, ds2, p2, q2, rfl, rfl, rfl, h2, r2⟩ := trodAll_cons r1
  obtain ⟨rfl, rfl, rfl⟩ := trodAll_nil r2
  obtain rfl : args = #[v0, v1, v2] := by cases args; simp_all
  simp only [List.append_nil] at hW' hA2
  obtain ⟨n0, t0⟩ := h0
  obtain ⟨lv0, lo0, rfl, hl0⟩ := open_set1 Try.underlying24 (by kernel_rfl) rfl rfl Try.underlying22 (by kernel_rfl) Try.underlying3 (by kernel_rfl) (by kernel_rfl) (hval 0 24 _ rfl rfl) t0
  obtain ⟨n1, t1⟩ := h1
  obtain ⟨lv1, lo1, rfl, hl1⟩ := open_set1 Try.underlying24 (by kernel_rfl) rfl rfl Try.underlying22 (by kernel_rfl) Try.underlying3 (by kernel_rfl) (by kernel_rfl) (hval 1 24 _ rfl rfl) t1
  obtain ⟨n2, t2⟩ := h2
  obtain ⟨zs2, hz2, hr2⟩ := open_slI Try.underlying22 Try.underlying3 (by kernel_rfl) (okW_cell Try.underlying22 (hval 2 22 v2 rfl rfl)) (trod_one Try.underlying22 (hval 2 22 v2 rfl rfl) t2)
  refine (SlotsOrders_c (ints_ro hl0) (ints_ro hl1) (ints_ro hz2)).mono fun e W' ⟨he, hE⟩ => ?_
  subst he
  exact ⟨_, rfl, law_post laid (by kernel_rfl) rfl Try.underlying4 rfl rfl hW' hA2 hE.e⟩

theorem SlotsOrders_holds : Rows.SlotsOrdersSaid :=
  OpenClaim.holds_of_wide 10 Try.f10 rfl rfl rfl rfl rfl rfl rfl ⟨rfl, rfl, rfl, rfl, rfl⟩ rfl rfl rfl rfl rfl (by kernel_rfl) Try.func10 (by kernel_rfl)
    (of_decide_eq_true (by kernel_rfl)) (by unfold Func.isWrapper; first | (rw [if_pos (by decide +kernel)]; kernel_rfl) | (rw [if_neg (by decide +kernel)]; exact ⟨rfl, rfl⟩))
    (fun os started H enc _ => SlotsOrders_lifted os started H enc)
end Go.Proofs.Ytoandfgkkmfobaa
