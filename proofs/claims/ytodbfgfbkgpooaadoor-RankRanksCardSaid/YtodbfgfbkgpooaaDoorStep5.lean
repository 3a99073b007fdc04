import Derived.Test.YtodbfgfbkgpooaaDoorSp11h
namespace Go.Own
open Go Go.RowKit
section
variable {A : Act} {d t : Tmp} {v : Value}
/-- aliases that no set of unfolding rules opens. -/
def EV (a : Act) (o : Operand) : Value := a.eval o
def PT (a : Act) (d : Tmp) (v : Value) : Act := a.put (some d) v
theorem sz_put (A : Act) (d : Tmp) (v : Value) : (PT A d v).tmps.size = A.tmps.size := by simp [PT, Act.put]
theorem ev_same (h : d < A.tmps.size) : EV (PT A d v) (.tmp d) = v := by simp [EV, PT, Act.eval, Act.put, h]
theorem ev_ne (h : (d == t) = false) : EV (PT A d v) (.tmp t) = EV A (.tmp t) := by
  have : d ≠ t := by simpa using h
  simp [EV, PT, Act.eval, Act.put, Array.getElem?_setIfInBounds_ne this]
theorem ev_const (x : Value) : EV A (.const x) = x := rfl
theorem ev_func (f : FuncId) : EV A (.func f) = .func (.func f) #[] #[] := rfl
theorem yl_same (h : d < A.tmps.size) : (PT A d v).tmps[d]? = some v := by simp [PT, Act.put, h]
theorem yl_ne (h : (d == t) = false) : (PT A d v).tmps[t]? = A.tmps[t]? := by
  have : d ≠ t := by simpa using h
  simp [PT, Act.put, Array.getElem?_setIfInBounds_ne this]
theorem pt (a : Act) (d : Tmp) (v : Value) : a.put (some d) v = PT a d v := rfl
theorem ex_ev {P : Program} {a : Act} {o : Oper} {w : World} {r} (h : (execOp (EV a) o).run P w = r) : (execOp a.eval o).run P w = r := h
theorem pte (a : Act) (d : Tmp) (x : Operand) : a.put (some d) (a.eval x) = PT a d (EV a x) := rfl
theorem ev_act (a : Act) (o : Operand) : a.eval o = EV a o := rfl
theorem put_none (a : Act) (v : Value) : a.put none v = a := rfl
end
theorem region_gen {P : Program} {c : Code} {Q : Exit → Act → World → Prop} {a : Act} {w : World} (h : ∀ A, A = a → c.wp P Q A w) : c.wp P Q a w := h a rfl
theorem lookA {A a : Act} (hA : A = a) (t : Tmp) {v : Value} (h : a.eval (.tmp t) = v) : EV A (.tmp t) = v := by rw [hA]; exact h
end Go.Own
