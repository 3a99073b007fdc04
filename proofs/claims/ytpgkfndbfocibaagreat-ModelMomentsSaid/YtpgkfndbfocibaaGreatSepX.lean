import Derived.Test.YtpgkfndbfocibaaGreatSep
namespace Go.Own
open Go Go.RowKit
theorem V_addw {P : Program} {A : Act} {o : Oper} {x y : Operand} {t t' : TypeId} {k : IntKind} {a b : Int} (ho : o.op = .binOp .add t x y t') (hx : EV A x = .int k a) (hy : EV A y = .int k b) : Val P A o (.int k (k.wrap (a + b))) := fun w => by
 unfold execOp
 simp [ho, hx, hy, eqGuard_at_int, binOp, Op.intArith]
theorem gen18 {w0 w : World} {X : Nat → Prop} {l : List HP} {a0 a1 a2 a3 a4 a5 a6 a7 a8 a9 a10 a11 a12 a13 a14 a15 a16 a17 : HP} (h : St w0 X (a0 :: a1 :: a2 :: a3 :: a4 :: a5 :: a6 :: a7 :: a8 :: a9 :: a10 :: a11 :: a12 :: a13 :: a14 :: a15 :: a16 :: a17 :: l) w) : ∃ c0 c1 c2 c3 c4 c5 c6 c7 c8 c9 c10 c11 c12 c13 c14 c15 c16 c17, c0 = a0 ∧ c1 = a1 ∧ c2 = a2 ∧ c3 = a3 ∧ c4 = a4 ∧ c5 = a5 ∧ c6 = a6 ∧ c7 = a7 ∧ c8 = a8 ∧ c9 = a9 ∧ c10 = a10 ∧ c11 = a11 ∧ c12 = a12 ∧ c13 = a13 ∧ c14 = a14 ∧ c15 = a15 ∧ c16 = a16 ∧ c17 = a17 ∧ St w0 X (c0 :: c1 :: c2 :: c3 :: c4 :: c5 :: c6 :: c7 :: c8 :: c9 :: c10 :: c11 :: c12 :: c13 :: c14 :: c15 :: c16 :: c17 :: l) w := ⟨_, _, _, _, _, _, _, _, _, _, _, _, _, _, _, _, _, _, rfl, rfl, rfl, rfl, rfl, rfl, rfl, rfl, rfl, rfl, rfl, rfl, rfl, rfl, rfl, rfl, rfl, rfl, h⟩
end Go.Own
