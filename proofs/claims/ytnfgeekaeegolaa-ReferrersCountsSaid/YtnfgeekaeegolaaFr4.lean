import Derived.Test.YtnfgeekaeegolaaFr
import Derived.Test.YtnfgeekaeegolaaSepR
import Derived.Deep.SlicePairs
/-! arguments: slices of pairs of ints, structs of three ints -/
namespace Go.Own
open Go Go.RowKit Go.WideShapes Go.ChangeShapes
section
variable {H : Type} {enc : TypeId × Value → H} {P : Program}
theorem ints_ro {w : World} {k : IntKind} {v : Value} {zs : List Int} (h : IntsK w k v zs) : Ro w NoX (il k v zs) := by
  have h' : SlN w 1 v (zs.map (Value.int k)).length (zs.map (Value.int k)) := h
  rw [List.length_map] at h'
  exact h'.ro
end
end Go.Own
