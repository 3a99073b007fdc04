import Derived.Test.YtnfgeekaeegolaaSepU
/-! min and max of three -/
namespace Go.Own
open Go Go.RowKit
def mn3 (a b c : Int) : Int := if c < (if b < a then b else a) then c else (if b < a then b else a)
def mx3 (a b c : Int) : Int := if c > (if b > a then b else a) then c else (if b > a then b else a)
theorem V_min3 {P : Program} {A : Act} {o : Oper} {x y z : Operand} {k : IntKind} {a b c : Int} {ts : Array TypeId} (ho : o.op = .call { callee := .builtin .min, args := #[x, y, z], argTypes := ts }) (hx : EV A x = .int k a) (hy : EV A y = .int k b) (hz : EV A z = .int k c) : Val P A o (.int k (mn3 a b c)) := fun w => by
  unfold execOp mn3
  by_cases h : b < a <;> simp [ho, hx, hy, hz, resolve, invoke, builtin, Builtin.min_, Builtin.min2, h]
theorem V_max3 {P : Program} {A : Act} {o : Oper} {x y z : Operand} {k : IntKind} {a b c : Int} {ts : Array TypeId} (ho : o.op = .call { callee := .builtin .max, args := #[x, y, z], argTypes := ts }) (hx : EV A x = .int k a) (hy : EV A y = .int k b) (hz : EV A z = .int k c) : Val P A o (.int k (mx3 a b c)) := fun w => by
  unfold execOp mx3
  by_cases h : b > a <;> simp [ho, hx, hy, hz, resolve, invoke, builtin, Builtin.max_, Builtin.max2, h]
theorem mnx3 {a b c : Int} (ha : 0 ≤ a ∧ a ≤ 65535) (hb : 0 ≤ b ∧ b ≤ 65535) (hc : 0 ≤ c ∧ c ≤ 65535) : (0 ≤ mn3 a b c ∧ mn3 a b c ≤ 65535) ∧ (0 ≤ mx3 a b c ∧ mx3 a b c ≤ 65535) ∧ mn3 a b c ≤ a + b + c - mn3 a b c - mx3 a b c ∧ a + b + c - mn3 a b c - mx3 a b c ≤ mx3 a b c := by
  unfold mn3 mx3
  (repeat' split) <;> omega
end Go.Own
