import Derived.Test.YtodbfgfbkgpooaaDoorTr8
import Derived.Test.YtodbfgfbkgpooaaDoorRf2
import Derived.Test.YtodbfgfbkgpooaaDoorLa1
import Derived.Test.YtodbfgfbkgpooaaDoorGen
import Derived.Test.YtodbfgfbkgpooaaDoorSp11
namespace Go.Proofs.YtodbfgfbkgpooaaDoor
open Go.RowKit Go.Own

theorem eqI_dec (a b : List Int) : eqI a b = decide (a = b) := by unfold eqI; first | rfl | (rw [Bool.eq_iff_iff]; simp)
theorem sameT_dec (a b c d : List Int) : sameT a b c d = decide (a = c ∧ b = d) := by unfold sameT; rw [eqI_dec, eqI_dec]; simp

set_option maxHeartbeats 4000000 in
theorem Check_c {lv : Value} {lo : List Int} {yv : Value} {yo : List Int} {w : World} (h_lv : Ints w lv lo) (h_yv : Ints w yv yo)  :
    Calls Tryd.prog 47 #[.agg #[lv, yv]] w fun e w' => e = .returned (.tuple #[.int .i64 (chk lo yo).1, .int .i64 (chk lo yo).2.1, .int .i64 (chk lo yo).2.2]) ∧ Ext w w' := by
  exact (Check_any _ _ _ _ _ h_lv h_yv).mono fun e w' h => h

set_option maxHeartbeats 4000000 in
theorem rCheck_c {lv : Value} {lo : List Int} {yv : Value} {yo : List Int} {w : World} (h_lv : Ints w lv lo) (h_yv : Ints w yv yo)  :
    Calls Tryd.prog 43 #[.agg #[lv, yv]] w fun e w' => e = .returned (.tuple #[.int .i64 (chk lo yo).1, .int .i64 (chk lo yo).2.1, .int .i64 (chk lo yo).2.2]) ∧ Ext w w' := by
  exact (rCheck_any _ _ _ _ _ h_lv h_yv).mono fun e w' h => h

set_option maxHeartbeats 4000000 in
theorem Ints_c {v : Value} {xs : List Int} {u : Value} {ys : List Int} {w : World} (h_v : Ints w v xs) (h_u : Ints w u ys)  :
    Calls Tryd.prog 17 #[v, u] w fun e w' => e = .returned (.bool (decide (xs = ys))) ∧ Ext w w' := by
  exact (Ints_any _ _ _ _ _ h_v h_u).mono fun e w' h => ⟨h.1.trans (by rw [eqI_dec]), h.2⟩

set_option maxHeartbeats 4000000 in
theorem rin_c {v : Value} {zs : List Int} {x : Int} {w : World} (h_v : Ints w v zs)  :
    Calls Tryd.prog 51 #[v, .int .i64 x] w fun e w' => e = .returned (.bool (decide (x ∈ zs))) ∧ Ext w w' := by
  exact (rin_any _ _ x _ h_v).mono fun e w' h => ⟨h.1, h.2 ▸ Ext.rfl' _⟩

set_option maxHeartbeats 4000000 in
theorem rcar_c {x : Int} {w : World}   :
    Calls Tryd.prog 50 #[.int .i64 x] w fun e w' => e = .returned (.bool (decide (0 ≤ x ∧ x < 24))) ∧ Ext w w' := by
  exact (rcar_any x _).mono fun e w' h => ⟨h.1, h.2 ▸ Ext.rfl' _⟩

set_option maxHeartbeats 4000000 in
theorem rtrain_c {x : Int} {w : World}   :
    Calls Tryd.prog 56 #[.int .i64 x] w fun e w' => e = .returned (.bool (decide (x = 0 ∨ x = 1))) ∧ Ext w w' := by
  exact (rtrain_any x _).mono fun e w' h => ⟨h.1, h.2 ▸ Ext.rfl' _⟩

set_option maxHeartbeats 4000000 in
theorem Far_c {lv : Value} {lo : List Int} {yv : Value} {yo : List Int} {w : World} (h_lv : Ints w lv lo) (h_yv : Ints w yv yo)  :
    Calls Tryd.prog 11 #[.agg #[lv, yv]] w fun e w' => e = .returned (.bool (decide (30 < lo.length ∨ 30 < yo.length))) ∧ Ext w w' := by
  obtain ⟨a1, c1, rfl⟩ := h_lv.form; obtain ⟨a2, c2, rfl⟩ := h_yv.form; exact Far_any _ _ _ _ _ _ _

end Go.Proofs.YtodbfgfbkgpooaaDoor