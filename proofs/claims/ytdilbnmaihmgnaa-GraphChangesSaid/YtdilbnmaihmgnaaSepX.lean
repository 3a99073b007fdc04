import Derived.Test.YtdilbnmaihmgnaaSep
namespace Go.Own
open Go Go.RowKit
theorem V_addw {P : Program} {A : Act} {o : Oper} {x y : Operand} {t t' : TypeId} {k : IntKind} {a b : Int} (ho : o.op = .binOp .add t x y t') (hx : EV A x = .int k a) (hy : EV A y = .int k b) : Val P A o (.int k (k.wrap (a + b))) := fun w => by
  unfold execOp
  simp [ho, hx, hy, eqGuard_at_int, binOp, Op.intArith]
end Go.Own
