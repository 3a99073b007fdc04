import Derived.Test.YtpgkfndbfocibaaGreatSepT
import Derived.Test.YtpgkfndbfocibaaGreatSep8
namespace Go.Own
open Go
theorem td_rng {a b : Int} (ha : -9223372036854775808 ≤ a ∧ a ≤ 0) (hb : 1 < b) : -9223372036854775808 ≤ a.tdiv b ∧ a.tdiv b ≤ 0 := by
 have e : a.tdiv b = -((-a) / b) := by
  rw [← Int.neg_neg a, Int.neg_tdiv, Int.tdiv_eq_ediv_of_nonneg (by omega), Int.neg_neg]
 have h1 := Int.ediv_nonneg (show 0 ≤ -a by omega) (show 0 ≤ b by omega)
 have h2 : (-a) / b ≤ -a := Int.ediv_le_self b (by omega)
 omega
section
variable {P : Program} {A : Act} {o : Oper} {x y p : Operand}
theorem V_quoN {t t' : TypeId} {a b : Int} (ho : o.op = .binOp .quo t x y t') (hx : EV A x = .int .i64 a) (hy : EV A y = .int .i64 b) (ha : -9223372036854775808 ≤ a ∧ a ≤ 0) (hb : 1 < b) : Val P A o (.int .i64 (a.tdiv b)) := fun w => by
 unfold execOp
 have hne : b ≠ 0 := by omega
 simp [ho, hx, hy, eqGuard_at_int, binOp, Op.intDiv, hne]
 have h := td_rng ha hb
 exact wrap_i64 (by omega) (by omega)
theorem V_negI {t : TypeId} {a : Int} (ho : o.op = .unOp .neg t x) (hx : EV A x = .int .i64 a) (h1 : -9223372036854775807 ≤ a) (h2 : a ≤ 9223372036854775807) : Val P A o (.int .i64 (-a)) := fun w => by
 unfold execOp
 have h : IntKind.i64.wrap (-a) = -a := wrap_i64 (by omega) (by omega)
 simp [ho, hx, Op.unary, Op.intArith, h]
theorem V_subU8 {t t' : TypeId} {a b : Int} (ho : o.op = .binOp .sub t x y t') (hx : EV A x = .int .u8 a) (hy : EV A y = .int .u8 b) (h1 : b ≤ a ∧ 0 ≤ b) (h2 : a ≤ 255) : Val P A o (.int .u8 (a - b)) := fun w => by
 unfold execOp
 have h : IntKind.u8.wrap (a - b) = a - b := wrap_u8 (by omega) (by omega)
 simp [ho, hx, hy, eqGuard, binOp, Op.intArith, h]
end
end Go.Own
