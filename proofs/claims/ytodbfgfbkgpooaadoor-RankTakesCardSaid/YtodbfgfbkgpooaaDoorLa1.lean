import Derived.Test.YtodbfgfbkgpooaaDoorRf2
namespace Go.Proofs.YtodbfgfbkgpooaaDoor
open Go.RowKit Go.Own

theorem lit2 (w : World) (x y : Int) (e : TypeId) : Ints (w.alloc (.cells #[.int .i64 x, .int .i64 y] e)) (.slice (some ⟨w.heap.size, 0, none⟩) 2 2) [x, y] := by
  have := Sl.alloc w [.int .i64 x, .int .i64 y] e (by simp)
  exact this
theorem lit1 (w : World) (x : Int) (e : TypeId) : Ints (w.alloc (.cells #[.int .i64 x] e)) (.slice (some ⟨w.heap.size, 0, none⟩) 1 1) [x] := by
  have := Sl.alloc w [.int .i64 x] e (by simp)
  exact this
theorem lit3 (w : World) (x y z : Int) (e : TypeId) : Ints (w.alloc (.cells #[.int .i64 x, .int .i64 y, .int .i64 z] e)) (.slice (some ⟨w.heap.size, 0, none⟩) 3 3) [x, y, z] := by
  have := Sl.alloc w [.int .i64 x, .int .i64 y, .int .i64 z] e (by simp)
  exact this
theorem lit2' (w : World) (k : Nat) (x y : Int) (e : TypeId) (hk : w.heap.size = k) : Ints (w.alloc (.cells #[.int .i64 x, .int .i64 y] e)) (.slice (some ⟨k, 0, none⟩) 2 2) [x, y] := by
  subst hk; exact lit2 w x y e
theorem lit3' (w : World) (k : Nat) (x y z : Int) (e : TypeId) (hk : w.heap.size = k) : Ints (w.alloc (.cells #[.int .i64 x, .int .i64 y, .int .i64 z] e)) (.slice (some ⟨k, 0, none⟩) 3 3) [x, y, z] := by
  subst hk; exact lit3 w x y z e

theorem aw_append : placeS [3, 1] [5, 0] 1 7 false = ⟨[3, 1], [5, 0, 7], 0, 0⟩ := by rfl
theorem aw_insert : placeS [3, 1] [5, 0] 1 7 true = ⟨[3, 1], [5, 7, 0], 0, 0⟩ := by rfl
theorem aw_take : takeS [3, 1] [5, 0] = ⟨[1], [5, 0], 3, 0⟩ := by rfl
theorem aw_relink : relinkS [3, 1] [5, 0] true = ⟨[1], [5, 3, 0], 3, 0⟩ := by rfl
theorem aw_turn : turnS [3, 1] [5, 0] = ⟨[], [], 0, 9⟩ := by rfl
theorem aw_clear : clearS [3, 1] [5, 0] = ⟨[3, 1], [5, 0], 0, 0⟩ := by rfl
theorem aw_find : findS [3, 1] [5, 0] 0 = (1, 1, 0) := by rfl

end Go.Proofs.YtodbfgfbkgpooaaDoor
