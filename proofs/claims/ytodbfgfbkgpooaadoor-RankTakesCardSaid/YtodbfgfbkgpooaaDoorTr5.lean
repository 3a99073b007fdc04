import Derived.Test.YtodbfgfbkgpooaaDoorTr4
namespace Go.Proofs.YtodbfgfbkgpooaaDoor
open Go.RowKit Go.Own

/-- Check at a world that has grown, its error under a name. -/
theorem Check_e (lv yv : Value) (lo yo : List Int) (w wx : World) (hl : Ints w lv lo) (hy : Ints w yv yo) (hE : Ext w wx) (e0 : Int) (he : e0 = (chk lo yo).2.2) :
    Calls Tryd.prog 47 #[.agg #[lv, yv]] wx fun e w' => e = .returned (.tuple #[.int .i64 (chk lo yo).1, .int .i64 (chk lo yo).2.1, .int .i64 e0]) ∧ Ext wx w' :=
  (Check_any lv yv lo yo wx (hl.ext hE) (hy.ext hE)).mono fun e w' ⟨h1, h2⟩ => ⟨by rw [h1, he], h2⟩

theorem ext2 (w : World) (o o' : Obj) : Ext w ((w.alloc o).alloc o') := (Ext.alloc _ _).tr (Ext.alloc _ _)

end Go.Proofs.YtodbfgfbkgpooaaDoor
