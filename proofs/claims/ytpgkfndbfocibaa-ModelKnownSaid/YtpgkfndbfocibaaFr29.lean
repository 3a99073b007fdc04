import Derived.Test.YtpgkfndbfocibaaFr4
import Derived.Test.YtpgkfndbfocibaaSep8
import Derived.Test.YtpgkfndbfocibaaFr15
import Derived.Test.YtpgkfndbfocibaaPl29c
import Derived.Test.YtpgkfndbfocibaaPl29d
/-! arguments: a struct of one slice of ints -/
namespace Go.Own
open Go Go.RowKit Go.WideShapes Go.ChangeShapes
section
variable {H : Type} {enc : TypeId × Value → H} {P : Program}
end
end Go.Own

/-! arguments of layer 9: the range of a word; slices of counts -/
namespace Go.Own
open Go Go.RowKit Go.WideShapes Go.ChangeShapes
section
variable {P : Program}
end
end Go.Own

/-! remembered sets as one chunk: the sets' rows and what they hold; all sets with their numbers -/
namespace Go.Own
open Go Go.RowKit
section
variable {w0 w : World} {X : Nat → Prop} {l : List HP} {U V : List SL} {v nv : Value} {Y : List (List Int)} {a b c : HP} {ns : List Int}
end
end Go.Own
namespace Go.Own
open Go Go.RowKit
section
variable {w0 w : World} {X : Nat → Prop} {l : List HP} {U : List SL} {v nv : Value}
end
end Go.Own

/-! arguments of layer 8: remembered sets, configs, cases -/
namespace Go.Own
open Go Go.RowKit Go.WideShapes Go.ChangeShapes
section
variable {H : Type} {enc : TypeId × Value → H} {P : Program}
end
end Go.Own

/-! the rows' opening: operations -/
namespace Go.Own
open Go Go.RowKit Go.ChangeShapes Go.WideShapes Go.ChangeAt Go.Own.Ml
variable {H : Type} {enc : TypeId × Value → H} {P : Program}
instance : Inhabited OpC := ⟨⟨0, 0, 0, 0, 0, 0, 0⟩⟩
instance : Inhabited AnC := ⟨⟨0, false, 0⟩⟩
end Go.Own
namespace Go.Own
open Go Go.RowKit Go.ChangeShapes Go.WideShapes Go.ChangeAt Go.Own.Ml
variable {P : Program}
end Go.Own
