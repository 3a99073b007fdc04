import Derived.Test.YteppjefmlibmoaaSp11
namespace Go.Own
open Go Go.RowKit
section
variable {A : Act} {d t : Tmp} {v : Value}
/-- aliases that no set of unfolding rules opens. -/
def EV (a : Act) (o : Operand) : Value := a.eval o
def PT (a : Act) (d : Tmp) (v : Value) : Act := a.put (some d) v
theorem sz_put (A : Act) (d : Tmp) (v : Value) : (PT A d v).tmps.size = A.tmps.size := by simp [PT, Act.put]
theorem ev_same (h : d < A.tmps.size) : EV (PT A d v) (.tmp d) = v := by simp [EV, PT, Act.eval, Act.put, h]
theorem ev_ne (h : (d == t) = false) : EV (PT A d v) (.tmp t) = EV A (.tmp t) := by
  have : d ≠ t := by simpa using h
  simp [EV, PT, Act.eval, Act.put, Array.getElem?_setIfInBounds_ne this]
theorem ex_ev {P : Program} {a : Act} {o : Oper} {w : World} {r} (h : (execOp (EV a) o).run P w = r) : (execOp a.eval o).run P w = r := h
end
end Go.Own
namespace Go.Own
open Go Go.RowKit
section
variable {P : Program} {ops : Array Oper} {l : List Oper} {o : Oper} {a a' : Act} {Q : Exit → Act → World → Prop} {w w' : World}
theorem WL_val {x : Value} (hw : Region.wanted o (yielded ops a.tmps) = true) (hx : (execOp a.eval o).run P w = .ok (.value x) w') (hp : a.put o.dst x = a')
    (h : wpList P ops Q l a' w') : wpList P ops Q (o :: l) a w := by
  unfold wpList; rw [if_pos hw]; left; unfold Oper.wp; rw [hx]; subst hp; exact h
theorem WL_un (hw : Region.wanted o (yielded ops a.tmps) = false) (hp : a.put o.dst undef = a')
    (h : wpList P ops Q l a' w) : wpList P ops Q (o :: l) a w := by
  unfold wpList; rw [if_neg (by rw [hw]; exact Bool.false_ne_true)]; subst hp; exact h
theorem WL_skip (hw : Region.wanted o (yielded ops a.tmps) = true) (hx : (execOp a.eval o).run P w = .ok .skip w') (hp : a.put o.dst undef = a')
    (h : wpList P ops Q l a' w') : wpList P ops Q (o :: l) a w := by
  unfold wpList; rw [if_pos hw]; left; unfold Oper.wp; rw [hx]; subst hp; exact h
theorem WL_call {f : FuncId} {fn : Func} {xs : Array Operand} {ats : Array TypeId} {args : Array Value} {R : Ending → World → Prop} (ho : o.op = .call { callee := .value (.func f), args := xs, argTypes := ats }) (hf : P.funcs[f]? = some fn)
    (hn : (fn.name == "runtime.NumGoroutine") = false) (hb : fn.body.isNone = false) (ha : xs.map a.eval = args) (hw : Region.wanted o (yielded ops a.tmps) = true)
    (hx : Calls P f args w R) (hR : ∀ e w', R e w' → ∃ v, e = .returned v ∧ wpList P ops Q l (a.put o.dst v) w') : wpList P ops Q (o :: l) a w := by
  unfold wpList; rw [if_pos hw]; left; unfold Oper.wp; rw [run_call ho hf hn hb ha]
  exact hx.mono fun e w' h => by obtain ⟨v, rfl, h2⟩ := hR e w' h; exact h2
end
end Go.Own
