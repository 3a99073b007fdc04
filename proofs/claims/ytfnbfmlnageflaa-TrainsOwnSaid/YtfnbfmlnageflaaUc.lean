import Derived.Test.YtfnbfmlnageflaaTr8
import Derived.Test.YtfnbfmlnageflaaRf2
import Derived.Test.YtfnbfmlnageflaaLa1
import Derived.Test.YtfnbfmlnageflaaGen
import Derived.Test.YtfnbfmlnageflaaSp11h
namespace Go.Proofs.Ytfnbfmlnageflaa
open Go.RowKit Go.Own

theorem eqI_dec (a b : List Int) : eqI a b = decide (a = b) := by unfold eqI; first | rfl | (rw [Bool.eq_iff_iff]; simp)
theorem sameT_dec (a b c d : List Int) : sameT a b c d = decide (a = c ∧ b = d) := by unfold sameT; rw [eqI_dec, eqI_dec]; simp

set_option maxHeartbeats 4000000 in
theorem Append_c {lv : Value} {lo : List Int} {yv : Value} {yo : List Int} {tr : Int} {c : Int} {w : World} (h_lv : Ints w lv lo) (h_yv : Ints w yv yo)  :
    Calls Try.prog 13 #[.agg #[lv, yv], .int .i64 tr, .int .i64 c] w fun e w' => ∃ v1 v2, e = .returned (.tuple #[.agg #[v1, v2], .int .i64 (placeS lo yo tr c false).e]) ∧ FreI w' w.heap.size 3 (v1) ((placeS lo yo tr c false).lo) ∧ FreI w' w.heap.size 3 (v2) ((placeS lo yo tr c false).yo) ∧ Ext w w' := by
  exact (Append_any _ _ _ _ tr c _ h_lv h_yv).mono fun e w' ⟨v, h1, ⟨u1, u2, h2, h3, h4⟩, h5⟩ => ⟨u1, u2, by rw [h1, h2], h3, h4, h5⟩

set_option maxHeartbeats 4000000 in
theorem Insert_c {lv : Value} {lo : List Int} {yv : Value} {yo : List Int} {tr : Int} {c : Int} {w : World} (h_lv : Ints w lv lo) (h_yv : Ints w yv yo)  :
    Calls Try.prog 15 #[.agg #[lv, yv], .int .i64 tr, .int .i64 c] w fun e w' => ∃ v1 v2, e = .returned (.tuple #[.agg #[v1, v2], .int .i64 (placeS lo yo tr c true).e]) ∧ FreI w' w.heap.size 3 (v1) ((placeS lo yo tr c true).lo) ∧ FreI w' w.heap.size 3 (v2) ((placeS lo yo tr c true).yo) ∧ Ext w w' := by
  exact (Insert_any _ _ _ _ tr c _ h_lv h_yv).mono fun e w' ⟨v, h1, ⟨u1, u2, h2, h3, h4⟩, h5⟩ => ⟨u1, u2, by rw [h1, h2], h3, h4, h5⟩

set_option maxHeartbeats 4000000 in
theorem Take_c {lv : Value} {lo : List Int} {yv : Value} {yo : List Int} {w : World} (h_lv : Ints w lv lo) (h_yv : Ints w yv yo) (h1 : lo.length ≤ 1000) (h2 : yo.length ≤ 1000) :
    Calls Try.prog 19 #[.agg #[lv, yv]] w fun e w' => ∃ v1 v2, e = .returned (.tuple #[.agg #[v1, v2], .int .i64 (takeS lo yo).car, .int .i64 (takeS lo yo).e]) ∧ FreI w' w.heap.size 3 (v1) ((takeS lo yo).lo) ∧ FreI w' w.heap.size 3 (v2) ((takeS lo yo).yo) ∧ Ext w w' := by
  exact (Take_any _ _ _ _ _ h_lv h_yv h1 h2).mono fun e w' ⟨v, h1, ⟨u1, u2, h2, h3, h4⟩, h5⟩ => ⟨u1, u2, by rw [h1, h2], h3, h4, h5⟩

set_option maxHeartbeats 4000000 in
theorem Relink_c {lv : Value} {lo : List Int} {yv : Value} {yo : List Int} {bf : Bool} {w : World} (h_lv : Ints w lv lo) (h_yv : Ints w yv yo) (h1 : lo.length ≤ 1000) (h2 : yo.length ≤ 1000) :
    Calls Try.prog 26 #[.agg #[lv, yv], .bool bf] w fun e w' => ∃ v1 v2, e = .returned (.tuple #[.agg #[v1, v2], .int .i64 (relinkS lo yo bf).car, .int .i64 (relinkS lo yo bf).e]) ∧ FreI w' w.heap.size 3 (v1) ((relinkS lo yo bf).lo) ∧ FreI w' w.heap.size 3 (v2) ((relinkS lo yo bf).yo) ∧ Ext w w' := by
  exact (Relink_any _ _ _ _ bf _ h_lv h_yv h1 h2).mono fun e w' ⟨v, h1, ⟨u1, u2, h2, h3, h4⟩, h5⟩ => ⟨u1, u2, by rw [h1, h2], h3, h4, h5⟩

set_option maxHeartbeats 4000000 in
theorem Turn_c {lv : Value} {lo : List Int} {yv : Value} {yo : List Int} {w : World} (h_lv : Ints w lv lo) (h_yv : Ints w yv yo)  :
    Calls Try.prog 34 #[.agg #[lv, yv]] w fun e w' => ∃ v1 v2, e = .returned (.tuple #[.agg #[v1, v2], .int .i64 (turnS lo yo).e]) ∧ FreI w' w.heap.size 3 (v1) ((turnS lo yo).lo) ∧ FreI w' w.heap.size 3 (v2) ((turnS lo yo).yo) ∧ Ext w w' := by
  exact (Turn_any _ _ _ _ _ h_lv h_yv).mono fun e w' ⟨v, h1, ⟨u1, u2, h2, h3, h4⟩, h5⟩ => ⟨u1, u2, by rw [h1, h2], h3, h4, h5⟩

set_option maxHeartbeats 4000000 in
theorem Clear_c {lv : Value} {lo : List Int} {yv : Value} {yo : List Int} {w : World} (h_lv : Ints w lv lo) (h_yv : Ints w yv yo)  :
    Calls Try.prog 27 #[.agg #[lv, yv]] w fun e w' => ∃ v1 v2 u, e = .returned (.tuple #[.agg #[v1, v2], u, .int .i64 (clearS lo yo).e]) ∧ FreI w' w.heap.size 3 (v1) ([]) ∧ FreI w' w.heap.size 3 (v2) ((clearS lo yo).yo) ∧ FreI w' w.heap.size 3 (u) ((clearS lo yo).lo) ∧ Ext w w' := by
  exact (Clear_any _ _ _ _ _ h_lv h_yv).mono fun e w' ⟨v, u, h1, ⟨u1, u2, h2, h3, h4⟩, h5, h6⟩ => ⟨u1, u2, u, by rw [h1, h2], h3, h4, h5, h6⟩

set_option maxHeartbeats 4000000 in
theorem First_c {lv : Value} {lo : List Int} {yv : Value} {yo : List Int} {w : World} (h_lv : Ints w lv lo) (h_yv : Ints w yv yo) (h1 : lo.length ≤ 1000) (h2 : yo.length ≤ 1000) :
    Calls Try.prog 18 #[.agg #[lv, yv]] w fun e w' => e = .returned (.tuple #[.int .i64 (takeS lo yo).car, .int .i64 (takeS lo yo).e]) ∧ Ext w w' := by
  exact (First_any _ _ _ _ _ h_lv h_yv h1 h2).mono fun e w' h => h

set_option maxHeartbeats 4000000 in
theorem Last_c {lv : Value} {lo : List Int} {yv : Value} {yo : List Int} {tr : Int} {w : World} (h_lv : Ints w lv lo) (h_yv : Ints w yv yo)  :
    Calls Try.prog 30 #[.agg #[lv, yv], .int .i64 tr] w fun e w' => e = .returned (.tuple #[.int .i64 (lastS lo yo tr).1, .int .i64 (lastS lo yo tr).2]) ∧ Ext w w' := by
  exact (Last_any _ _ _ _ tr _ h_lv h_yv).mono fun e w' h => h

set_option maxHeartbeats 4000000 in
theorem Find_c {lv : Value} {lo : List Int} {yv : Value} {yo : List Int} {c : Int} {w : World} (h_lv : Ints w lv lo) (h_yv : Ints w yv yo)  :
    Calls Try.prog 22 #[.agg #[lv, yv], .int .i64 c] w fun e w' => e = .returned (.tuple #[.int .i64 (findS lo yo c).1, .int .i64 (findS lo yo c).2.1, .int .i64 (findS lo yo c).2.2]) ∧ Ext w w' := by
  exact (Find_any _ _ _ _ c _ h_lv h_yv).mono fun e w' h => h

set_option maxHeartbeats 4000000 in
theorem Check_c {lv : Value} {lo : List Int} {yv : Value} {yo : List Int} {w : World} (h_lv : Ints w lv lo) (h_yv : Ints w yv yo)  :
    Calls Try.prog 24 #[.agg #[lv, yv]] w fun e w' => e = .returned (.tuple #[.int .i64 (chk lo yo).1, .int .i64 (chk lo yo).2.1, .int .i64 (chk lo yo).2.2]) ∧ Ext w w' := by
  exact (Check_any _ _ _ _ _ h_lv h_yv).mono fun e w' h => h

set_option maxHeartbeats 4000000 in
theorem rCheck_c {lv : Value} {lo : List Int} {yv : Value} {yo : List Int} {w : World} (h_lv : Ints w lv lo) (h_yv : Ints w yv yo)  :
    Calls Try.prog 39 #[.agg #[lv, yv]] w fun e w' => e = .returned (.tuple #[.int .i64 (chk lo yo).1, .int .i64 (chk lo yo).2.1, .int .i64 (chk lo yo).2.2]) ∧ Ext w w' := by
  exact (rCheck_any _ _ _ _ _ h_lv h_yv).mono fun e w' h => h

set_option maxHeartbeats 4000000 in
theorem Cars_c {lv : Value} {lo : List Int} {yv : Value} {yo : List Int} {tr : Int} {w : World} (h_lv : Ints w lv lo) (h_yv : Ints w yv yo)  :
    Calls Try.prog 23 #[.agg #[lv, yv], .int .i64 tr] w fun e w' => ∃ v, e = .returned (.tuple #[v, .int .i64 (carsS lo yo tr).2]) ∧ FreI w' w.heap.size 3 (v) ((carsS lo yo tr).1) ∧ Ext w w' := by
  exact (Cars_any _ _ _ _ tr _ h_lv h_yv).mono fun e w' h => h

set_option maxHeartbeats 4000000 in
theorem Same_c {lv : Value} {lo : List Int} {yv : Value} {yo : List Int} {lv2 : Value} {lo2 : List Int} {yv2 : Value} {yo2 : List Int} {w : World} (h_lv : Ints w lv lo) (h_yv : Ints w yv yo) (h_lv2 : Ints w lv2 lo2) (h_yv2 : Ints w yv2 yo2)  :
    Calls Try.prog 28 #[.agg #[lv, yv], .agg #[lv2, yv2]] w fun e w' => e = .returned (.bool (decide (lo = lo2 ∧ yo = yo2))) ∧ Ext w w' := by
  exact (Same_any _ _ _ _ _ _ _ _ _ h_lv h_yv h_lv2 h_yv2).mono fun e w' h => ⟨h.1.trans (by rw [sameT_dec]), h.2⟩

set_option maxHeartbeats 4000000 in
theorem rSame_c {lv : Value} {lo : List Int} {yv : Value} {yo : List Int} {lv2 : Value} {lo2 : List Int} {yv2 : Value} {yo2 : List Int} {w : World} (h_lv : Ints w lv lo) (h_yv : Ints w yv yo) (h_lv2 : Ints w lv2 lo2) (h_yv2 : Ints w yv2 yo2)  :
    Calls Try.prog 17 #[.agg #[lv, yv], .agg #[lv2, yv2]] w fun e w' => e = .returned (.bool (decide (lo = lo2 ∧ yo = yo2))) ∧ Ext w w' := by
  exact (rSame_any _ _ _ _ _ _ _ _ _ h_lv h_yv h_lv2 h_yv2).mono fun e w' h => ⟨h.1.trans (by rw [sameT_dec]), h.2⟩

set_option maxHeartbeats 4000000 in
theorem Ints_c {v : Value} {xs : List Int} {u : Value} {ys : List Int} {w : World} (h_v : Ints w v xs) (h_u : Ints w u ys)  :
    Calls Try.prog 37 #[v, u] w fun e w' => e = .returned (.bool (decide (xs = ys))) ∧ Ext w w' := by
  exact (Ints_any _ _ _ _ _ h_v h_u).mono fun e w' h => ⟨h.1.trans (by rw [eqI_dec]), h.2⟩

set_option maxHeartbeats 4000000 in
theorem rin_c {v : Value} {zs : List Int} {x : Int} {w : World} (h_v : Ints w v zs)  :
    Calls Try.prog 57 #[v, .int .i64 x] w fun e w' => e = .returned (.bool (decide (x ∈ zs))) ∧ Ext w w' := by
  exact (rin_any _ _ x _ h_v).mono fun e w' h => ⟨h.1, h.2 ▸ Ext.rfl' _⟩

set_option maxHeartbeats 4000000 in
theorem rcar_c {x : Int} {w : World}   :
    Calls Try.prog 56 #[.int .i64 x] w fun e w' => e = .returned (.bool (decide (0 ≤ x ∧ x < 24))) ∧ Ext w w' := by
  exact (rcar_any x _).mono fun e w' h => ⟨h.1, h.2 ▸ Ext.rfl' _⟩

set_option maxHeartbeats 4000000 in
theorem rtrain_c {x : Int} {w : World}   :
    Calls Try.prog 60 #[.int .i64 x] w fun e w' => e = .returned (.bool (decide (x = 0 ∨ x = 1))) ∧ Ext w w' := by
  exact (rtrain_any x _).mono fun e w' h => ⟨h.1, h.2 ▸ Ext.rfl' _⟩

set_option maxHeartbeats 4000000 in
theorem awake_c  {w : World}   :
    Calls Try.prog 12 #[] w fun e w' => e = .returned (.bool true) ∧ Ext w w' := by
  exact awake_any _

set_option maxHeartbeats 4000000 in
theorem Far_c {lv : Value} {lo : List Int} {yv : Value} {yo : List Int} {w : World} (h_lv : Ints w lv lo) (h_yv : Ints w yv yo)  :
    Calls Try.prog 11 #[.agg #[lv, yv]] w fun e w' => e = .returned (.bool (decide (30 < lo.length ∨ 30 < yo.length))) ∧ Ext w w' := by
  obtain ⟨a1, c1, rfl⟩ := h_lv.form; obtain ⟨a2, c2, rfl⟩ := h_yv.form; exact Far_any _ _ _ _ _ _ _

end Go.Proofs.Ytfnbfmlnageflaa