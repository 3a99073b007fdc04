/- The law RankTakes (shunterlaw12) returns true for every input. No condition. -/
import Derived.Test.YtodbfgfbkgpooaaDoorRows
import Derived.Test.YtodbfgfbkgpooaaDoorCards
import Derived.Test.YtodbfgfbkgpooaaDoorTie
import Derived.WalkKit
import Derived.OpenShut
import Derived.Deep.DeepHandedRow
import Derived.Lib.LaidTab
import Derived.Test.YtodbfgfbkgpooaaDoorLRankTakes
import Derived.Test.YtodbfgfbkgpooaaDoorFr3
import Derived.ProofKit
namespace Go.Proofs.YtodbfgfbkgpooaaDoor
open Go.ChangeShapes Go.WideShapes Go.ChangeAt Go.RowKit Go.Own

theorem own : ownKnob Tryd.prog.godebug = none := by kernel_rfl
theorem laid : laidOutB Tryd.prog = true := by kernel_rfl

theorem RankTakes_contract (H : Type) (enc : TypeId × Value → H) (W : World) (base : Nat) (args : Array Value) (ds gs : List (DataW H)) (before : List MemPlace)
    (hval0 : ∀ (j : Nat) t v, Tryd.f5.params[j]? = some t → args[j]? = some v → Value.okWide Tryd.prog W .any base t v)
    (hW : DataW.Whole enc Tryd.prog Tryd.f5.params.toList Rows.rankTakesSpec.vars false W args.toList ds gs before) (hL : laidMetH Tryd.prog Rows.rankTakesRow.laid W) :
    Calls Tryd.prog 5 args W fun e W' => ∃ v, e = .returned v ∧ Rows.rankTakesSpec.post enc Tryd.prog Tryd.f5 false true false false W args v W' := by
  obtain ⟨gT0, hG0⟩ := laid_pair (g := 0) (t := 50) (show Tryd.prog.globalNamed "shunter/rank.none" = some 0 by kernel_rfl) (by kernel_rfl) Tryd.underlying50 (by kernel_rfl) ⟨rfl, rfl⟩ rfl rfl Tryd.underlying3 (by kernel_rfl) hL
  have hval : ∀ (j : Nat) t v, Tryd.f5.params[j]? = some t → args[j]? = some v → Value.okWide Tryd.prog W .any base t v := hval0
  have hW' := hW
  obtain ⟨p, q, hA0, hV, rfl, hfz, hnd⟩ := hW
  obtain ⟨rfl, rfl⟩ := trodVars_none hV
  have hA : DataW.TrodAll enc Tryd.prog W 0 (fun _ => true) true Tryd.f5.params.toList args.toList ds p := hA0
  have hA2 := hA
  rw [Tryd.params5] at hA hval
  obtain ⟨v0, vs0, d0, ds0, p0, q0, hargs, rfl, rfl, h0, r0⟩ := trodAll_cons hA
  obtain ⟨v1, vs1, d1, ds1, p1, q1, rfl, rfl, rfl, h1, r1⟩ := trodAll_cons r0
  obtain ⟨rfl, rfl, rfl⟩ := trodAll_nil r1
  obtain rfl : args = #[v0, v1] := by cases args; simp_all
  simp only [List.append_nil] at hW' hA2
  obtain ⟨n0, t0⟩ := h0
  obtain ⟨lv0, yv0, lo0, yo0, rfl, hl0, hy0⟩ := open_tr Tryd.underlying24 (by kernel_rfl) ⟨rfl, rfl⟩ rfl rfl Tryd.underlying22 (by kernel_rfl) Tryd.underlying3 (by kernel_rfl) (by kernel_rfl) (hval 0 24 _ rfl rfl) t0
  obtain ⟨a1, rfl, rfl, rfl, w1⟩ := open_int Tryd.underlying5 (hval 1 5 v1 rfl rfl) h1
  refine (RankTakes_c (ints_ro hl0) (ints_ro hy0) hG0 (u8_lo w1) (u8_hi w1)).mono fun e W' ⟨he, hE⟩ => ?_
  subst he
  exact ⟨_, rfl, law_post laid (by kernel_rfl) rfl Tryd.underlying4 rfl rfl hW' hA2 hE.e⟩

noncomputable def laidWorld (os : Os) : World :=
  { World.holding Tryd.prog os ⟨#[], #[], []⟩ with heap := (World.holding Tryd.prog os ⟨#[], #[], []⟩).heap.modify 0 fun
      | .cells _ t frozen => .cells #[.int .i64 (-1), .int .i64 (-1)] t frozen
      | o => o }
set_option maxRecDepth 100000 in
theorem RankTakes_lifted (os : Os) (started : os.Started) (H : Type) (enc : TypeId × Value → H) (F : Stop.Interp) :
    ReturnsInHanded {} Tryd.checked os 5 .any ((OpenSpec.ofChange Rows.rankTakesSpec).preRow enc Tryd.prog Tryd.f5 Rows.rankTakesRow.domain false Rows.rankTakesRow.laid) (((OpenSpec.ofChange Rows.rankTakesSpec).at F).post enc Tryd.prog Tryd.f5 false true false false) := by
  have hx0 : (DataW.whole enc Tryd.prog ((laidWorld os).forCall (fun _ _ => 0) ⟨#[], #[.agg #[.slice none 0 0, .slice none 0 0], .int .u8 0], []⟩).memory Tryd.f5.params.toList Rows.rankTakesSpec.vars false (#[.agg #[.slice none 0 0, .slice none 0 0], .int .u8 0] : Array Value).toList 8).isSome = true := by kernel_rfl
  obtain ⟨x, hx⟩ := Option.isSome_iff_exists.1 hx0
  refine returnsInHanded_of_row (C := Tryd.checked) (s := OpenSpec.ofChange Rows.rankTakesSpec) own started (by kernel_rfl) Tryd.func5
    (witness_row_at (enc := enc) (C := Tryd.checked) false (laidWorld os) #[.agg #[.slice none 0 0, .slice none 0 0], .int .u8 0] rfl (by kernel_rfl) (by kernel_rfl) (by kernel_rfl)
      (OpenSpec.preRow_of_cond 8 hx rfl (fun k hk => by cases hk) (by kernel_rfl) (laidMet_of_run' 8 (by kernel_rfl) (by kernel_rfl)))) ?_
  intro W base args ds gs before hval hW _ _ _ hL _ _
  exact RankTakes_contract H enc W base args ds gs before hval hW hL
theorem RankTakes_said : Rows.RankTakesSaid :=
  OpenClaim.holds_of_cond 5 Tryd.f5 rfl rfl rfl rfl rfl rfl rfl ⟨rfl, rfl, rfl, rfl, rfl⟩ rfl rfl rfl rfl rfl (by kernel_rfl) Tryd.func5 (by kernel_rfl)
    (of_decide_eq_true (by kernel_rfl)) (by unfold Func.isWrapper; first | (rw [if_pos (by decide +kernel)]; kernel_rfl) | (rw [if_neg (by decide +kernel)]; exact ⟨rfl, rfl⟩))
    (fun os started H enc _ F => by rw [OpenClaim.pre_eq_preRow]; exact RankTakes_lifted os started H enc F)
theorem RankTakes_plain (f : FuncId) (fn : Func) (hf : Tryd.pinned.checked.prog.funcNamed "shunter/shunterlaw12.RankTakes" = some f) (hfn : Tryd.pinned.checked.prog.funcs[f]? = some fn) :
    false = Tryd.pinned.checked.prog.looks [] ∧ ∀ (j : Nat) t, fn.params[j]? = some t → Tryd.pinned.checked.prog.wantsStandIn t = false := by
  obtain rfl : f = 5 := Option.some.inj ((show Tryd.prog.funcNamed "shunter/shunterlaw12.RankTakes" = some 5 by kernel_rfl).symm.trans hf) |>.symm
  obtain rfl : fn = Tryd.f5 := (Option.some.inj (Tryd.func5.symm.trans hfn)).symm
  refine ⟨by kernel_rfl, fun j t ht => ?_⟩
  rw [Tryd.params5] at ht
  have ht := Array.mem_of_getElem? ht
  simp only [List.mem_toArray, List.mem_cons, List.not_mem_nil, or_false] at ht
  rcases ht with rfl | rfl
  · exact (show Tryd.prog.wantsStandIn 24 = false by kernel_rfl)
  · exact (show Tryd.prog.wantsStandIn 5 = false by kernel_rfl)
theorem RankTakes_holds : Rows.RankTakesCardSaid :=
  Claim7.holds_tied_plain_at .later [] _ _ _ _ RankTakes_said (fun _ h => by cases h) (by kernel_rfl) (fun _ h => by cases h) rankTakes_row_tie rfl ⟨rfl, rfl⟩ (by kernel_rfl) rfl RankTakes_plain (by kernel_rfl)
end Go.Proofs.YtodbfgfbkgpooaaDoor
