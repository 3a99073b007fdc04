import Derived.Test.YtodbfgfbkgpooaaDoorChecked
import Derived.Test.YtodbfgfbkgpooaaDoorSp11
import Derived.WalkLawsBesides
namespace Go.Proofs.YtodbfgfbkgpooaaDoor
open Go.RowKit Go.Own

theorem infoI : (Tryd.prog.info? 3).map (fun i => (i.zero, i.size, i.bytes)) = some (some (.int .i64 0), 1, 8) := by kernel_rfl

theorem infoS : (Tryd.prog.info? 22).map (fun i => (i.zero, i.size, i.bytes)) = some (some (.slice none 0 0), 1, 24) := by kernel_rfl
theorem bsI1 {o : Oper} {a : Act} {p0 : Operand} {v0 : Value} (ho : o.op = .buildSlice 22 1 #[(0, p0)]) (h0 : a.eval p0 = v0) (c0 : v0.cells = #[v0]) (w : World) :
    (execOp a.eval o).run Tryd.prog w = .ok (.value (.slice (some ⟨w.heap.size, 0, none⟩) 1 1)) (w.alloc (.cells #[v0] 3)) := by
  obtain ⟨i0, hi, hz0, hz1, hz2⟩ := info_parts infoI
  exact run_bs1 ho Tryd.underlying22 hi hz0 hz1 rfl h0 c0 w
theorem bsI2 {o : Oper} {a : Act} {p0 p1 : Operand} {v0 v1 : Value} (ho : o.op = .buildSlice 22 2 #[(0, p0), (1, p1)]) (h0 : a.eval p0 = v0) (c0 : v0.cells = #[v0]) (h1 : a.eval p1 = v1) (c1 : v1.cells = #[v1]) (w : World) :
    (execOp a.eval o).run Tryd.prog w = .ok (.value (.slice (some ⟨w.heap.size, 0, none⟩) 2 2)) (w.alloc (.cells #[v0, v1] 3)) := by
  obtain ⟨i0, hi, hz0, hz1, hz2⟩ := info_parts infoI
  exact run_bs2 ho Tryd.underlying22 hi hz0 hz1 rfl h0 c0 h1 c1 w
theorem bsI3 {o : Oper} {a : Act} {p0 p1 p2 : Operand} {v0 v1 v2 : Value} (ho : o.op = .buildSlice 22 3 #[(0, p0), (1, p1), (2, p2)]) (h0 : a.eval p0 = v0) (c0 : v0.cells = #[v0]) (h1 : a.eval p1 = v1) (c1 : v1.cells = #[v1]) (h2 : a.eval p2 = v2) (c2 : v2.cells = #[v2]) (w : World) :
    (execOp a.eval o).run Tryd.prog w = .ok (.value (.slice (some ⟨w.heap.size, 0, none⟩) 3 3)) (w.alloc (.cells #[v0, v1, v2] 3)) := by
  obtain ⟨i0, hi, hz0, hz1, hz2⟩ := info_parts infoI
  exact run_bs3 ho Tryd.underlying22 hi hz0 hz1 rfl h0 c0 h1 c1 h2 c2 w
theorem bsR1 {o : Oper} {a : Act} {p0 : Operand} {v0 : Value} (ho : o.op = .buildSlice 75 1 #[(0, p0)]) (h0 : a.eval p0 = v0) (c0 : v0.cells = #[v0]) (w : World) :
    (execOp a.eval o).run Tryd.prog w = .ok (.value (.slice (some ⟨w.heap.size, 0, none⟩) 1 1)) (w.alloc (.cells #[v0] 22)) := by
  obtain ⟨i0, hi, hz0, hz1, hz2⟩ := info_parts infoS
  exact run_bs1 ho Tryd.underlying75 hi hz0 hz1 rfl h0 c0 w
theorem bsR2 {o : Oper} {a : Act} {p0 p1 : Operand} {v0 v1 : Value} (ho : o.op = .buildSlice 75 2 #[(0, p0), (1, p1)]) (h0 : a.eval p0 = v0) (c0 : v0.cells = #[v0]) (h1 : a.eval p1 = v1) (c1 : v1.cells = #[v1]) (w : World) :
    (execOp a.eval o).run Tryd.prog w = .ok (.value (.slice (some ⟨w.heap.size, 0, none⟩) 2 2)) (w.alloc (.cells #[v0, v1] 22)) := by
  obtain ⟨i0, hi, hz0, hz1, hz2⟩ := info_parts infoS
  exact run_bs2 ho Tryd.underlying75 hi hz0 hz1 rfl h0 c0 h1 c1 w
theorem bsR3 {o : Oper} {a : Act} {p0 p1 p2 : Operand} {v0 v1 v2 : Value} (ho : o.op = .buildSlice 75 3 #[(0, p0), (1, p1), (2, p2)]) (h0 : a.eval p0 = v0) (c0 : v0.cells = #[v0]) (h1 : a.eval p1 = v1) (c1 : v1.cells = #[v1]) (h2 : a.eval p2 = v2) (c2 : v2.cells = #[v2]) (w : World) :
    (execOp a.eval o).run Tryd.prog w = .ok (.value (.slice (some ⟨w.heap.size, 0, none⟩) 3 3)) (w.alloc (.cells #[v0, v1, v2] 22)) := by
  obtain ⟨i0, hi, hz0, hz1, hz2⟩ := info_parts infoS
  exact run_bs3 ho Tryd.underlying75 hi hz0 hz1 rfl h0 c0 h1 c1 h2 c2 w

end Go.Proofs.YtodbfgfbkgpooaaDoor
