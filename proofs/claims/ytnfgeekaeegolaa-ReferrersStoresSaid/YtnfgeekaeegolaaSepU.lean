import Derived.Test.YtnfgeekaeegolaaSepV
/-! slices of pairs of slices -/
namespace Go.Own
open Go Go.RowKit
abbrev Ob := (Value × List Int) × (Value × List Int)
def obC (o : Ob) : List Value := [o.1.1, o.2.1]
def ab (o : Ob) : List Int × List Int := (o.1.2, o.2.2)
/-- all are read. -/
def nst (L : List Ob) : HP where
  p w f := ∀ o ∈ L, (il .i64 o.1.1 o.1.2).p w f ∧ (il .u64 o.2.1 o.2.2).p w f
  loc := fun h h1 h2 o ho => ⟨(il .i64 o.1.1 o.1.2).loc (h o ho).1 h1 h2, (il .u64 o.2.1 o.2.2).loc (h o ho).2 h1 h2⟩
section
variable {w0 w : World} {X : Nat → Prop} {l : List HP} {L : List Ob} {k : Nat} {y : Ob}
end
end Go.Own
namespace Go.Own
open Go Go.RowKit
end Go.Own
