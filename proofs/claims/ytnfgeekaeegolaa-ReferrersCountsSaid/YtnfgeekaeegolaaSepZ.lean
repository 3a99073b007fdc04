import Derived.Test.YtnfgeekaeegolaaSepU
/-! graphs as own memory -/
namespace Go.Own
open Go Go.RowKit
section
variable {w0 w : World} {X : Nat → Prop} {cs : List HP} {c d e g q a b a' g' q' : HP} {i j k m n : Nat}
end
section
variable {w0 w : World} {X : Nat → Prop}
end
section
variable {P : Program} {ops : Array Oper} {l' : List Oper} {o : Oper} {A : Act} {Q : Exit → Act → World → Prop} {w0 w : World} {X : Nat → Prop} {l : List HP} {cP cQ cR : HP} {O : List Ob} {kk f B Of C off : Nat} {y : Ob} {z : Int} {hv : Value} {T : TypeId} {x u : Operand}
end
section
variable {P : Program} {ops : Array Oper} {Q : Exit → Act → World → Prop} {n : Nat} {L : Array Bool} {A : Act} {w : World} {Z : Nat → Array Bool → Act → World → Prop}
end
end Go.Own
