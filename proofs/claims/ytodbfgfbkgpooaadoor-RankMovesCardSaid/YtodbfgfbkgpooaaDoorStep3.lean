import Derived.Test.YtodbfgfbkgpooaaDoorStep2
namespace Go.Own
open Go Go.RowKit
/-- the second of two new blocks. -/
theorem res_new (w : World) (o : Obj) (cs : Array Value) (T : TypeId) : ((w.alloc o).alloc (.cells cs T)).heap[w.heap.size + 1]? = some (.cells cs T (0, 0)) := by
  have := heap_alloc_new (w.alloc o) (.cells cs T)
  simpa using this
/-- a row of two cells, as the walk wants it. -/
theorem blk2 {w : World} {b : Nat} {x y : Value} {T : TypeId} (h : w.heap[b]? = some (.cells #[x, y] T (0, 0))) :
    w.cell? ⟨b, 0, none⟩ = some x ∧ w.cell? ⟨b, 1, none⟩ = some y ∧ (∀ o, w.frozen? ⟨b, o, none⟩ = false) ∧ b < w.heap.size :=
  ⟨by rw [blk_cells h]; rfl, by rw [blk_cells h]; rfl, blk_frozen ⟨_, h⟩, (Array.getElem?_eq_some_iff.1 h).1⟩
/-- both cells of a row of two are written. -/
theorem set01 {w : World} {b : Nat} {x y p q : Value} {T : TypeId} (h : w.heap[b]? = some (.cells #[x, y] T (0, 0))) :
    ((w.setCell ⟨b, 0, none⟩ p).setCell ⟨b, 1, none⟩ q).heap[b]? = some (.cells #[p, q] T (0, 0)) := by
  simp only [World.setCell, Array.getElem?_modify, if_true, h, Option.map_some]
  rfl
theorem set0 {w : World} {b : Nat} {x y p : Value} {T : TypeId} (h : w.heap[b]? = some (.cells #[x, y] T (0, 0))) :
    (w.setCell ⟨b, 0, none⟩ p).heap[b]? = some (.cells #[p, y] T (0, 0)) := by
  simp only [World.setCell, Array.getElem?_modify, if_true, h, Option.map_some]
  rfl
theorem set1 {w : World} {b : Nat} {x y q : Value} {T : TypeId} (h : w.heap[b]? = some (.cells #[x, y] T (0, 0))) :
    (w.setCell ⟨b, 1, none⟩ q).heap[b]? = some (.cells #[x, q] T (0, 0)) := by
  simp only [World.setCell, Array.getElem?_modify, if_true, h, Option.map_some]
  rfl
end Go.Own
