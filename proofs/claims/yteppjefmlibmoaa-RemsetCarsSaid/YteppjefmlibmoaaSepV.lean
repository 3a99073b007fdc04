import Derived.Test.YteppjefmlibmoaaSepO
/-! nil slices and pointers; maps from ints to bools -/
namespace Go.Own
open Go Go.RowKit
section
variable {P : Program} {A : Act} {o : Oper} {x y : Operand}
def nilB (v : Value) : Bool := match v with | .slice a _ _ => a.isNone | _ => false
theorem V_eqNilB {wS : World} {t t' e : TypeId} {s n : Nat} {v : Value} {xs : List Value} (ho : o.op = .binOp .eql t x y t') (hx : EV A x = v) (hy : EV A y = .slice none 0 0) (h : SlN wS s v n xs) (ht : P.underlying t = some (.slice e)) : Val P A o (.bool (nilB v)) := fun w => by
  obtain ⟨a, cap, rfl, _⟩ := h
  have hq : (Op.equal t (.slice a n cap) (.slice none 0 0)).run P w = .ok (nilB (.slice a n cap)) w := by
    unfold Op.equal Op.maxDepth Op.equalIn
    cases a <;> simp [run_underlying ht w, nilB]
  unfold execOp
  simp [ho, hx, hy, eqGuard, binOp, hq]
theorem nilB_len {w : World} {s n : Nat} {v : Value} {xs : List Value} (h : SlN w s v n xs) (hb : nilB v = true) : n = 0 := by
  obtain ⟨a, cap, rfl, _, _, _, h4, _⟩ := h
  cases a with
  | none => exact h4 rfl
  | some b => simp [nilB] at hb
end
end Go.Own
