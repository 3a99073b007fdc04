import Derived.Test.YtpgkfndbfocibaaGreatSp11
import Derived.Deep.MidRow
namespace Go.Own
open Go Go.RowKit
section
variable {A : Act} {d t : Tmp} {v : Value}
def EV (a : Act) (o : Operand) : Value := a.eval o
def PT (a : Act) (d : Tmp) (v : Value) : Act := a.put (some d) v
theorem sz_put (A : Act) (d : Tmp) (v : Value) : (PT A d v).tmps.size = A.tmps.size := by simp [PT, Act.put]
theorem ev_same (h : d < A.tmps.size) : EV (PT A d v) (.tmp d) = v := by simp [EV, PT, Act.eval, Act.put, h]
theorem ev_ne (h : (d == t) = false) : EV (PT A d v) (.tmp t) = EV A (.tmp t) := by
 have : d ≠ t := by simpa using h
 simp [EV, PT, Act.eval, Act.put, Array.getElem?_setIfInBounds_ne this]
theorem pt (a : Act) (d : Tmp) (v : Value) : a.put (some d) v = PT a d v := rfl
theorem ex_ev {P : Program} {a : Act} {o : Oper} {w : World} {r} (h : (execOp (EV a) o).run P w = r) : (execOp a.eval o).run P w = r := h
end
end Go.Own
namespace Go.Own
open Go Go.RowKit
section
variable {P : Program} {ops : Array Oper} {l : List Oper} {o : Oper} {a a' : Act} {Q : Exit → Act → World → Prop} {w w' : World}
theorem WL_val {x : Value} (hw : Region.wanted o (yielded ops a.tmps) = true) (hx : (execOp a.eval o).run P w = .ok (.value x) w') (hp : a.put o.dst x = a')
  (h : wpList P ops Q l a' w') : wpList P ops Q (o :: l) a w := by
 unfold wpList; rw [if_pos hw]; left; unfold Oper.wp; rw [hx]; subst hp; exact h
theorem WL_un (hw : Region.wanted o (yielded ops a.tmps) = false) (hp : a.put o.dst undef = a')
  (h : wpList P ops Q l a' w) : wpList P ops Q (o :: l) a w := by
 unfold wpList; rw [if_neg (by rw [hw]; exact Bool.false_ne_true)]; subst hp; exact h
theorem WL_skip (hw : Region.wanted o (yielded ops a.tmps) = true) (hx : (execOp a.eval o).run P w = .ok .skip w') (hp : a.put o.dst undef = a')
  (h : wpList P ops Q l a' w') : wpList P ops Q (o :: l) a w := by
 unfold wpList; rw [if_pos hw]; left; unfold Oper.wp; rw [hx]; subst hp; exact h
theorem WL_call {f : FuncId} {fn : Func} {xs : Array Operand} {ats : Array TypeId} {args : Array Value} {R : Ending → World → Prop} (ho : o.op = .call { callee := .value (.func f), args := xs, argTypes := ats }) (hf : P.funcs[f]? = some fn)
  (hn : (fn.name == "runtime.NumGoroutine") = false) (hb : fn.body.isNone = false) (ha : xs.map a.eval = args) (hw : Region.wanted o (yielded ops a.tmps) = true)
  (hx : Calls P f args w R) (hR : ∀ e w', R e w' → ∃ v, e = .returned v ∧ wpList P ops Q l (a.put o.dst v) w') : wpList P ops Q (o :: l) a w := by
 unfold wpList; rw [if_pos hw]; left; unfold Oper.wp; rw [run_call ho hf hn hb ha]
 exact hx.mono fun e w' h => by obtain ⟨v, rfl, h2⟩ := hR e w' h; exact h2
end
end Go.Own

namespace Go.Own
open Go Go.RowKit
theorem calls_in {P : Program} {f : FuncId} {fn : Func} {c : Code} {args : Array Value} {w : World} {R : Ending → World → Prop} (N : Nat)
  (hf : P.funcs[f]? = some fn) (hb : fn.body = some c) (hN : fn.ntmps = N) (ha : args.size ≤ N)
  (h : ∀ A : Act, A.tmps.size = N → A.defers = [] → (∀ (i : Nat) (v : Value), args[i]? = some v → EV A (.tmp i) = v) → c.wp P (bodyPost P fn R) A w) : Calls P f args w R := by
 refine calls_of_wp hf hb (h _ ?_ rfl fun i v hi => ?_)
 ·simp; omega
 ·have hlt := (Array.getElem?_eq_some_iff.1 hi).1
  simp [EV, Act.eval, Array.getElem?_append, hlt] at hi ⊢
  simp [hi]
section
variable {P : Program} {ops : Array Oper} {l : List Oper} {o : Oper} {A : Act} {Q : Exit → Act → World → Prop} {w w' : World} {d : Tmp} {v v1 v2 : Value} {x y : Operand} {k : IntKind} {a b n : Int}
structure WX (P : Program) (ops : Array Oper) (Q : Exit → Act → World → Prop) (l : List Oper) (A : Act) (w : World) : Prop where
 out : wpList P ops Q l A w
theorem region_in {id : Nat} {l : List Oper} (h : WX P l.toArray Q l A w) : (Code.region id l.toArray false).wp P Q A w := wp_region_lit h.out
theorem W_end (h : Q .normal A w) : WX P ops Q [] A w := ⟨wpList_nil h⟩
theorem W_val (hd : o.dst = some d) (hw : Region.wanted o (yielded ops A.tmps) = true) (hx : (execOp (EV A) o).run P w = .ok (.value v) w') (h : WX P ops Q l (PT A d v) w') : WX P ops Q (o :: l) A w :=
 ⟨WL_val hw (ex_ev hx) (by rw [hd]; rfl) h.out⟩
theorem W_nov (hd : o.dst = none) (hw : Region.wanted o (yielded ops A.tmps) = true) (hx : (execOp (EV A) o).run P w = .ok .skip w') (h : WX P ops Q l A w') : WX P ops Q (o :: l) A w :=
 ⟨WL_skip hw (ex_ev hx) (by rw [hd]; rfl) h.out⟩
theorem W_off (hd : o.dst = some d) (hw : Region.wanted o (yielded ops A.tmps) = false) (h : WX P ops Q l (PT A d undef) w) : WX P ops Q (o :: l) A w :=
 ⟨WL_un hw (by rw [hd]; rfl) h.out⟩
theorem args0 {A : Act}  : (#[] : Array Operand).map (EV A) = #[] := by subst_vars; simp
theorem parts0 {A : Act} : ((#[] : Array (Nat × Operand)).map fun (i, x) => (i, EV A x)).toList = [] := by simp
theorem args1 {A : Act} {x0 : Operand} {v0 : Value} (h0 : EV A x0 = v0) : (#[x0] : Array Operand).map (EV A) = #[v0] := by subst_vars; simp
theorem parts1 {A : Act} {i0 : Nat} {x0 : Operand} {v0 : Value} (h0 : EV A x0 = v0) : ((#[(i0, x0)] : Array (Nat × Operand)).map fun (i, x) => (i, EV A x)).toList = [(i0, v0)] := by subst_vars; simp
theorem args2 {A : Act} {x0 x1 : Operand} {v0 v1 : Value} (h0 : EV A x0 = v0) (h1 : EV A x1 = v1) : (#[x0, x1] : Array Operand).map (EV A) = #[v0, v1] := by subst_vars; simp
theorem parts2 {A : Act} {i0 i1 : Nat} {x0 x1 : Operand} {v0 v1 : Value} (h0 : EV A x0 = v0) (h1 : EV A x1 = v1) : ((#[(i0, x0), (i1, x1)] : Array (Nat × Operand)).map fun (i, x) => (i, EV A x)).toList = [(i0, v0), (i1, v1)] := by subst_vars; simp
theorem args3 {A : Act} {x0 x1 x2 : Operand} {v0 v1 v2 : Value} (h0 : EV A x0 = v0) (h1 : EV A x1 = v1) (h2 : EV A x2 = v2) : (#[x0, x1, x2] : Array Operand).map (EV A) = #[v0, v1, v2] := by subst_vars; simp
theorem parts3 {A : Act} {i0 i1 i2 : Nat} {x0 x1 x2 : Operand} {v0 v1 v2 : Value} (h0 : EV A x0 = v0) (h1 : EV A x1 = v1) (h2 : EV A x2 = v2) : ((#[(i0, x0), (i1, x1), (i2, x2)] : Array (Nat × Operand)).map fun (i, x) => (i, EV A x)).toList = [(i0, v0), (i1, v1), (i2, v2)] := by subst_vars; simp
theorem args4 {A : Act} {x0 x1 x2 x3 : Operand} {v0 v1 v2 v3 : Value} (h0 : EV A x0 = v0) (h1 : EV A x1 = v1) (h2 : EV A x2 = v2) (h3 : EV A x3 = v3) : (#[x0, x1, x2, x3] : Array Operand).map (EV A) = #[v0, v1, v2, v3] := by subst_vars; simp
theorem parts4 {A : Act} {i0 i1 i2 i3 : Nat} {x0 x1 x2 x3 : Operand} {v0 v1 v2 v3 : Value} (h0 : EV A x0 = v0) (h1 : EV A x1 = v1) (h2 : EV A x2 = v2) (h3 : EV A x3 = v3) : ((#[(i0, x0), (i1, x1), (i2, x2), (i3, x3)] : Array (Nat × Operand)).map fun (i, x) => (i, EV A x)).toList = [(i0, v0), (i1, v1), (i2, v2), (i3, v3)] := by subst_vars; simp
theorem args5 {A : Act} {x0 x1 x2 x3 x4 : Operand} {v0 v1 v2 v3 v4 : Value} (h0 : EV A x0 = v0) (h1 : EV A x1 = v1) (h2 : EV A x2 = v2) (h3 : EV A x3 = v3) (h4 : EV A x4 = v4) : (#[x0, x1, x2, x3, x4] : Array Operand).map (EV A) = #[v0, v1, v2, v3, v4] := by subst_vars; simp
theorem parts5 {A : Act} {i0 i1 i2 i3 i4 : Nat} {x0 x1 x2 x3 x4 : Operand} {v0 v1 v2 v3 v4 : Value} (h0 : EV A x0 = v0) (h1 : EV A x1 = v1) (h2 : EV A x2 = v2) (h3 : EV A x3 = v3) (h4 : EV A x4 = v4) : ((#[(i0, x0), (i1, x1), (i2, x2), (i3, x3), (i4, x4)] : Array (Nat × Operand)).map fun (i, x) => (i, EV A x)).toList = [(i0, v0), (i1, v1), (i2, v2), (i3, v3), (i4, v4)] := by subst_vars; simp
class SzN (A : Act) (N : outParam Nat) : Prop where
 out : A.tmps.size = N
instance szN_put {A : Act} {N d : Nat} {v : Value} [h : SzN A N] : SzN (PT A d v) N := ⟨by rw [sz_put]; exact h.out⟩
theorem es {A : Act} {d t : Tmp} {u v : Value} (hd : (d == t) = false) (h : EV A (.tmp t) = v) : EV (PT A d u) (.tmp t) = v := (ev_ne hd).trans h
theorem et {A : Act} {N d : Nat} {u : Value} [h : SzN A N] (ht : decide (d < N) = true) : EV (PT A d u) (.tmp d) = u := ev_same (by rw [h.out]; exact of_decide_eq_true ht)
theorem ez {A : Act} {N d : Nat} [h : SzN A N] (ht : decide (d < N) = true) : d < A.tmps.size := by rw [h.out]; exact of_decide_eq_true ht
def Val (P : Program) (A : Act) (o : Oper) (v : Value) : Prop := ∀ w, (execOp (EV A) o).run P w = .ok (.value v) w
def ValW (P : Program) (A : Act) (o : Oper) (w : World) (v : Value) : Prop := (execOp (EV A) o).run P w = .ok (.value v) w
theorem W_v (hd : o.dst = some d) (hw : Region.wanted o (yielded ops A.tmps) = true) (hx : Val P A o v) (h : WX P ops Q l (PT A d v) w) : WX P ops Q (o :: l) A w := W_val hd hw (hx w) h
theorem W_r (hd : o.dst = some d) (hw : Region.wanted o (yielded ops A.tmps) = true) (hx : ValW P A o w v) (h : WX P ops Q l (PT A d v) w) : WX P ops Q (o :: l) A w := W_val hd hw hx h
theorem V_mov (ho : o.op = .move x) (hx : EV A x = v) : Val P A o v := fun w => by unfold execOp; rw [ho, ← hx]; rfl
theorem V_asg (ho : o.op = .assign x) (hx : EV A x = v) : Val P A o v := fun w => by unfold execOp; rw [ho, ← hx]; rfl
theorem V_eql {t t' : TypeId} (ho : o.op = .binOp .eql t x y t') (hx : EV A x = .int k a) (hy : EV A y = .int k b) : Val P A o (.bool (decide (a = b))) := fun w => by
 unfold execOp; simp [ho, hx, hy, eqGuard_at_int, binOp, Op.intCmp]; by_cases h : a = b <;> simp [h]
theorem V_neq {t t' : TypeId} (ho : o.op = .binOp .neq t x y t') (hx : EV A x = .int k a) (hy : EV A y = .int k b) : Val P A o (.bool (decide (a ≠ b))) := fun w => by
 unfold execOp; simp [ho, hx, hy, eqGuard_at_int, binOp, Op.intCmp]; by_cases h : a = b <;> simp [h]
theorem V_lss {t t' : TypeId} (ho : o.op = .binOp .lss t x y t') (hx : EV A x = .int k a) (hy : EV A y = .int k b) : Val P A o (.bool (decide (a < b))) := fun w => by
 unfold execOp; simp [ho, hx, hy, eqGuard, binOp, Op.intCmp]
theorem V_leq {t t' : TypeId} (ho : o.op = .binOp .leq t x y t') (hx : EV A x = .int k a) (hy : EV A y = .int k b) : Val P A o (.bool (decide (a ≤ b))) := fun w => by
 unfold execOp; simp [ho, hx, hy, eqGuard, binOp, Op.intCmp]
theorem V_gtr {t t' : TypeId} (ho : o.op = .binOp .gtr t x y t') (hx : EV A x = .int k a) (hy : EV A y = .int k b) : Val P A o (.bool (decide (b < a))) := fun w => by
 unfold execOp; simp [ho, hx, hy, eqGuard, binOp, Op.intCmp]
theorem V_geq {t t' : TypeId} (ho : o.op = .binOp .geq t x y t') (hx : EV A x = .int k a) (hy : EV A y = .int k b) : Val P A o (.bool (decide (b ≤ a))) := fun w => by
 unfold execOp; simp [ho, hx, hy, eqGuard, binOp, Op.intCmp]
theorem V_add {t t' : TypeId} (ho : o.op = .binOp .add t x y t') (hx : EV A x = .int .i64 a) (hy : EV A y = .int .i64 b) (h1 : -9223372036854775808 ≤ a + b) (h2 : a + b ≤ 9223372036854775807) : Val P A o (.int .i64 (a + b)) := fun w => by
 unfold execOp; simp [ho, hx, hy, eqGuard, binOp, Op.intArith, IntKind.wrap, IntKind.bits, IntKind.signed]; omega
theorem V_sb {t t' : TypeId} (ho : o.op = .binOp .sub t x y t') (hx : EV A x = .int .i64 a) (hy : EV A y = .int .i64 b) (h1 : -9223372036854775808 ≤ a - b) (h2 : a - b ≤ 9223372036854775807) : Val P A o (.int .i64 (a - b)) := fun w => by
 unfold execOp; simp [ho, hx, hy, eqGuard, binOp, Op.intArith, IntKind.wrap, IntKind.bits, IntKind.signed]; omega
theorem V_not {t : TypeId} {c : Bool} (ho : o.op = .unOp .not t x) (hx : EV A x = .bool c) : Val P A o (.bool !c) := fun w => by
 unfold execOp; simp [ho, hx, Op.unary]
theorem V_pickT {c : Operand} (ho : o.op = .pick c x y) (hc : EV A c = .bool true) (hx : EV A x = v) : Val P A o v := fun w => by
 unfold execOp; simp [ho, hc, hx, asBool]
theorem V_pickF {c : Operand} (ho : o.op = .pick c x y) (hc : EV A c = .bool false) (hx : EV A y = v) : Val P A o v := fun w => by
 unfold execOp; simp [ho, hc, hx, asBool]
theorem V_ext {i : Nat} {vs : Array Value} (ho : o.op = .extract x i) (hx : EV A x = .tuple vs) (hi : vs[i]? = some v) : Val P A o v := fun w => by
 unfold execOp; simp [ho, hx, Instr.extract, hi]
theorem V_len {t : TypeId} {at_ : Option Addr} {m cap : Nat} (ho : o.op = .call { callee := .builtin .len, args := #[x], argTypes := #[t] }) (hx : EV A x = v1) (hv : v1 = .slice at_ m cap) {e : TypeId} (ht : P.underlying t = some (.slice e)) : Val P A o (.int .i64 (m : Int)) := fun w => by
 unfold execOp; simp [ho, hx, hv, resolve, invoke, builtin, Builtin.len_, goInt, run_underlying ht]
structure Tch (g : Nat) (w w' : World) : Prop where
 os : w'.os = w.os
 tape : w'.tape = w.tape
 output : w'.output = w.output
 size : w'.heap.size = w.heap.size
 block : ∀ b, b ≠ g → w'.heap[b]? = w.heap[b]?
theorem Tch.set (w : World) (g off : Nat) (x : Value) : Tch g w (w.setCell ⟨g, off, none⟩ x) := ⟨rfl, rfl, rfl, by simp, fun _ h => heap_setCell h⟩
theorem Tch.tr {g : Nat} {a b c : World} (h : Tch g a b) (k : Tch g b c) : Tch g a c :=
 ⟨k.os.trans h.os, k.tape.trans h.tape, k.output.trans h.output, k.size.trans h.size, fun b hb => (k.block b hb).trans (h.block b hb)⟩
theorem lt_size {w : World} {b : Nat} {ob : Obj} (h : w.heap[b]? = some ob) : b < w.heap.size := (Array.getElem?_eq_some_iff.1 h).1
theorem OwnI.tch {w w' : World} {B g : Nat} {E T : TypeId} {v : Value} {zs : List Int} {cs : Array Value} {fr : Nat × Nat} (h : OwnI w B E v zs) (t : Tch g w w') (hb : w.heap[g]? = some (.cells cs T fr)) (hT : (T == E) = false) : OwnI w' B E v zs := by
 obtain ⟨h1, h2⟩ := h
 refine ⟨h1, ?_⟩
 rcases h2 with h2 | ⟨g', cap, cur, hv, hg, hh, r⟩
 ·exact .inl h2
 ·refine .inr ⟨g', cap, cur, hv, hg, ?_, r⟩
  have hne : g' ≠ g := by
   intro e; subst e; rw [hb] at hh; cases hh; simp at hT
  rw [t.block _ hne]; exact hh
theorem W_box {T : TypeId} {cs : Array Value} (hd : o.dst = some d) (hw : Region.wanted o (yielded ops A.tmps) = true) (ho : o.op = .box T x) (hx : EV A x = v) (hc : v.cells = cs)
  (h : ∀ g w', g = w.heap.size → Ext w w' → w'.heap[g]? = some (.cells cs T (0, 0)) → WX P ops Q l (PT A d (.pointer (some ⟨g, 0, none⟩))) w') : WX P ops Q (o :: l) A w :=
 W_val (w' := w.alloc (.cells cs T)) hd hw (by unfold execOp; simp [ho, hx, Instr.box, newVar, newRow, hc]) (h _ _ rfl (Ext.alloc _ _) (heap_alloc_new _ _))
theorem W_alloc {T : TypeId} {z : Value} {cs : Array Value} (hd : o.dst = some d) (hw : Region.wanted o (yielded ops A.tmps) = true) (ho : o.op = .alloc T) (hz : (P.info? T).map (·.zero) = some (some z)) (hc : z.cells = cs)
  (h : ∀ g w', g = w.heap.size → Ext w w' → w'.heap[g]? = some (.cells cs T (0, 0)) → WX P ops Q l (PT A d (.pointer (some ⟨g, 0, none⟩))) w') : WX P ops Q (o :: l) A w := by
 refine W_val (w' := w.alloc (.cells cs T)) hd hw ?_ (h _ _ rfl (Ext.alloc _ _) (heap_alloc_new _ _))
 cases hi : P.info? T with
 | none => simp [hi] at hz
 | some i =>
  have hz' : i.zero = some z := by simpa [hi] using hz
  unfold execOp; simp [ho, Instr.alloc, zeroValue, typeInfo, hi, hz', newVar, newRow, hc]
theorem VR_ldA {T T' g : Nat} {cs : Array Value} {fr : Nat × Nat} {de : TypeDesc} (ho : o.op = .load T x) (hx : EV A x = .pointer (some ⟨g, 0, none⟩)) (hg : w.heap[g]? = some (.cells cs T' fr))
  (hu : P.underlying T = some de) (hd : (match de with | .struct _ | .array _ _ => true | _ => false) = true) (hi : (P.info? T).map (·.size) = some cs.size) : ValW P A o w (.agg cs) := by
 unfold ValW execOp
 simp only [ho, hx, Instr.loadAt, Instr.sureAddr, Sem.run_bind, Sem.run_pure, Result.andThen_ok, run_loadVar_row w g T' T cs fr de hg hu hd hi]
theorem VR_ldC {T : TypeId} {p : Addr} {de : TypeDesc} (ho : o.op = .load T x) (hx : EV A x = .pointer (some p)) (hc : w.cell? p = some v)
  (hu : P.underlying T = some de) (hd : (match de with | .struct _ | .array _ _ => true | _ => false) = false) : ValW P A o w v := by
 have hagg : (isAgg T).run P w = .ok false w := by
  unfold isAgg
  rw [Sem.run_bind, run_underlying hu w]
  cases de <;> simp_all
 unfold ValW execOp
 simp [ho, hx, Instr.loadAt, Instr.sureAddr, loadVar, hagg, hc]
theorem cell_box {g off : Nat} {T : TypeId} {cs : Array Value} {fr : Nat × Nat} (hg : w.heap[g]? = some (.cells cs T fr)) (hc : cs[off]? = some v) : w.cell? ⟨g, off, none⟩ = some v := (cell_of_row w g off cs T fr hg).trans hc
theorem V_fa {T f g off off' : Nat} {fs : Array Field} {fd : Field} (ho : o.op = .fieldAddr T x f) (hx : EV A x = .pointer (some ⟨g, off, none⟩)) (hu : P.underlying T = some (.struct fs)) (hf : fs[f]? = some fd)
  (hi : ((P.info? fd.type).map (·.size)).getD 0 ≠ 0) (hoff : off + fd.offset = off') : Val P A o (.pointer (some ⟨g, off', none⟩)) := fun w => by
 cases hq : P.info? fd.type with
 | none => simp [hq] at hi
 | some i =>
  have hs : i.size ≠ 0 := by simpa [hq] using hi
  subst hoff
  unfold execOp
  simp [ho, hx, Instr.fieldAt, Instr.sureAddr, run_underlying hu, hf, fieldPlace, sizeOf, typeInfo, hq, hs, Addr.add]
theorem V_bld {T : Nat} {parts : Array (Nat × Operand)} {vs : List (Nat × Value)} {cs : Array Value} (ho : o.op = .build T parts) (hp : (parts.map fun (i, x) => (i, EV A x)).toList = vs) (hf : P.built T vs = some cs) : Val P A o (.agg cs) := fun w => by
 have := run_build (P := P) w T (parts.map fun (i, x) => (i, EV A x)) cs (by rw [hp]; exact hf)
 unfold execOp
 simp only [ho, Sem.run_bind, this, Result.andThen_ok, Sem.run_pure]
theorem W_stC {T g off T' : Nat} {cs cs' : Array Value} (hd : o.dst = none) (hw : Region.wanted o (yielded ops A.tmps) = true) (ho : o.op = .store T x y) (hx : EV A x = .pointer (some ⟨g, off, none⟩)) (hy : EV A y = v) (h1 : v.oneCell' = true)
  (hg : w.heap[g]? = some (.cells cs T' (0, 0))) (hlt : (decide (off < cs.size)) = true) (hi : (P.info? T).map (·.size) = some 1) (hcs : cs.setIfInBounds off v = cs')
  (h : ∀ w', Tch g w w' → w'.heap[g]? = some (.cells cs' T' (0, 0)) → WX P ops Q l A w') : WX P ops Q (o :: l) A w := by
 have hlt : off < cs.size := by simpa using hlt
 refine W_nov (w' := w.setCell ⟨g, off, none⟩ v) hd hw ?_ (h _ (Tch.set _ _ _ _) ?_)
 ·cases hq : P.info? T with
  | none => simp [hq] at hi
  | some i =>
   have hs : i.size = 1 := by simpa [hq] using hi
   have hcl : v.cells = #[v] := by cases v <;> simp_all [Value.cells, Value.oneCell']
   have hcell : w.cell? ⟨g, off, none⟩ = some cs[off] := by rw [cell_of_row w g off cs T' (0, 0) hg]; simp [hlt]
   have hfr : w.frozen? ⟨g, off, none⟩ = false := blk_frozen ⟨_, hg⟩ off
   unfold execOp
   simp [ho, hx, hy, Instr.storeAt, Instr.sureAddr, storeVar, sizeOf, typeInfo, hq, hs, hcl, storeCells, Addr.add, run_store P w ⟨g, off, none⟩ v .plain h1, hcell, hfr]
 ·subst hcs
  simp [World.setCell, Array.getElem?_modify, hg]
theorem Tch.row {g : Nat} {T : TypeId} {old cells : Array Value} {w : World} (hg : w.heap[g]? = some (.cells old T (0, 0))) : Tch g w (w.setRow g cells) ∧ (w.setRow g cells).heap[g]? = some (.cells cells T (0, 0)) := by
 unfold World.setRow
 refine ⟨⟨rfl, rfl, rfl, by simp, fun b hb => by simp [Array.getElem?_modify, Ne.symm hb]⟩, ?_⟩
 simp [Array.getElem?_modify, hg]
theorem W_stA {T g T' : Nat} {cs old : Array Value} (hd : o.dst = none) (hw : Region.wanted o (yielded ops A.tmps) = true) (ho : o.op = .store T x y) (hx : EV A x = .pointer (some ⟨g, 0, none⟩)) (hy : EV A y = .agg cs) (h1 : cs.all (·.oneCell') = true)
  (hg : w.heap[g]? = some (.cells old T' (0, 0))) (hs : old.size = cs.size) (hi : (P.info? T).map (·.size) = some cs.size)
  (h : ∀ w', Tch g w w' → w'.heap[g]? = some (.cells cs T' (0, 0)) → WX P ops Q l A w') : WX P ops Q (o :: l) A w := by
 refine W_nov (w' := w.setRow g cs) hd hw ?_ (h _ (Tch.row hg).1 (Tch.row hg).2)
 unfold execOp
 simp only [ho, hx, hy, Instr.storeAt, Instr.sureAddr, Sem.run_bind, Sem.run_pure, Result.andThen_ok, run_storeVar_row w g T' T old cs hg hi hs h1]
theorem W_call {f : FuncId} {fn : Func} {xs : Array Operand} {ats : Array TypeId} {args : Array Value} {R : Ending → World → Prop} (hd : o.dst = some d) (hw : Region.wanted o (yielded ops A.tmps) = true)
  (ho : o.op = .call { callee := .value (.func f), args := xs, argTypes := ats }) (hf : P.funcs[f]? = some fn)
  (hn : (fn.name == "runtime.NumGoroutine") = false) (hb : fn.body.isNone = false) (ha : xs.map (EV A) = args)
  (hx : Calls P f args w R) (hR : ∀ e w', R e w' → ∃ v, e = .returned v ∧ WX P ops Q l (PT A d v) w') : WX P ops Q (o :: l) A w :=
 ⟨WL_call ho hf hn hb ha hw hx (fun e w' he => by obtain ⟨v, h1, h2⟩ := hR e w' he; exact ⟨v, h1, by rw [hd]; exact h2.out⟩)⟩
theorem W_split {p : Prop} [Decidable p] (hd : o.dst = some d) (hw : Region.wanted o (yielded ops A.tmps) = true) (hx : Val P A o (.bool (decide p))) (ht : p → WX P ops Q l (PT A d (.bool true)) w) (hf : ¬ p → WX P ops Q l (PT A d (.bool false)) w) : WX P ops Q (o :: l) A w := by
 refine W_v hd hw hx ?_
 by_cases h : p
 ·rw [decide_eq_true h]; exact ht h
 ·rw [decide_eq_false h]; exact hf h
theorem W_splitB {c : Bool} (hd : o.dst = some d) (hw : Region.wanted o (yielded ops A.tmps) = true) (hx : Val P A o (.bool c)) (ht : c = true → WX P ops Q l (PT A d (.bool true)) w) (hf : c = false → WX P ops Q l (PT A d (.bool false)) w) : WX P ops Q (o :: l) A w := by
 refine W_v hd hw hx ?_
 cases c
 ·exact hf rfl
 ·exact ht rfl
theorem W_sure {c c' : Bool} (hd : o.dst = some d) (hw : Region.wanted o (yielded ops A.tmps) = true) (hx : Val P A o (.bool c)) (hc : c = c') (ht : WX P ops Q l (PT A d (.bool c')) w) : WX P ops Q (o :: l) A w := by
 subst hc; exact W_v hd hw hx ht
end
section
variable {P : Program} {A : Act} {Q : Exit → Act → World → Prop} {w : World} {x y : Code} {c : Operand} {e : Exit}
theorem cond_dec {p : Prop} [Decidable p] (hc : EV A c = .bool (decide p)) (ht : p → x.wp P Q A w) (hf : ¬ p → y.wp P Q A w) : (Code.cond c x y).wp P Q A w := by
 refine wp_cond_split hc (fun h => ht (by simpa using h)) (fun h => hf (by simpa using h))
theorem cond_b {b : Bool} (hc : EV A c = .bool b) (ht : b = true → x.wp P Q A w) (hf : b = false → y.wp P Q A w) : (Code.cond c x y).wp P Q A w := wp_cond_split hc ht hf
theorem cond_t (hc : EV A c = .bool true) (ht : x.wp P Q A w) : (Code.cond c x y).wp P Q A w := wp_cond hc ht
theorem cond_f (hc : EV A c = .bool false) (hf : y.wp P Q A w) : (Code.cond c x y).wp P Q A w := wp_cond hc hf
theorem cond_sure {b : Bool} (hc : EV A c = .bool b) (hb : b = true) (ht : x.wp P Q A w) : (Code.cond c x y).wp P Q A w := wp_cond (t := true) (hc.trans (by rw [hb])) ht
theorem cond_not {b : Bool} (hc : EV A c = .bool b) (hb : b = false) (hf : y.wp P Q A w) : (Code.cond c x y).wp P Q A w := wp_cond (t := false) (hc.trans (by rw [hb])) hf
theorem gen_Q {a : Act} (h : ∀ A, A = a → Q e A w) : Q e a w := h a rfl
theorem lookE {A a : Act} (hA : A = a) (t : Tmp) {v : Value} (h : EV a (.tmp t) = v) : EV A (.tmp t) = v := by rw [hA]; exact h
theorem df_put (A : Act) (d : Tmp) (v : Value) : (PT A d v).defers = A.defers := rfl
theorem then_n {K : Act → World → Prop} (h : K A w) : Exit.then K Q .normal A w := h
theorem then_ret {K : Act → World → Prop} (h : Q .ret A w) : Exit.then K Q .ret A w := h
theorem then_exit {K : Act → World → Prop} {id : Nat} (h : Q (.exit id) A w) : Exit.then K Q (.exit id) A w := h
theorem inb_n {id : Nat} (h : Q .normal A w) : Exit.inBlock id Q .normal A w := h
theorem inb_ret {id : Nat} (h : Q .ret A w) : Exit.inBlock id Q .ret A w := h
theorem inb_hit {id : Nat} (h : Q .normal A w) : Exit.inBlock id Q (.exit id) A w := by simp only [Exit.inBlock, if_true]; exact h
theorem inb_miss {id i : Nat} (hne : (i == id) = false) (h : Q (.exit i) A w) : Exit.inBlock id Q (.exit i) A w := by
 have : i ≠ id := by simpa using hne
 simp only [Exit.inBlock, this, if_false]; exact h
theorem ret_in {fn : Func} {R : Ending → World → Prop} {v : Value} (hr : (results fn A.tmps).run P w = .ok v w) (hd : A.defers = []) (h : R (.returned v) w) : bodyPost P fn R .ret A w := ⟨hd, v, hr, h⟩
end
section
variable {P : Program} {A : Act} {w : World} {fn : Func} {r0 r1 r2 r3 r4 : ResultVar} {v0 v1 v2 v3 v4 : Value}
def RVal (P : Program) (A : Act) (w : World) : ResultVar → Value → Prop
 | .tmp t, v => A.tmps[t]?.getD undef = v
 | .cell a T, v => ∃ p, A.tmps[a]?.getD undef = .pointer (some p) ∧ (loadVar T p).run P w = .ok v w
theorem ev_tmps {t : Tmp} {v : Value} (h : EV A (.tmp t) = v) : A.tmps[t]?.getD undef = v := by unfold EV Act.eval at h; simpa using h
theorem rv_tmp {t : Tmp} (h : EV A (.tmp t) = v0) : RVal P A w (.tmp t) v0 := ev_tmps h
theorem rv_cellA {a T T' g : Nat} {cs : Array Value} {fr : Nat × Nat} {de : TypeDesc} (hx : EV A (.tmp a) = .pointer (some ⟨g, 0, none⟩)) (hg : w.heap[g]? = some (.cells cs T' fr))
  (hu : P.underlying T = some de) (hd : (match de with | .struct _ | .array _ _ => true | _ => false) = true) (hi : (P.info? T).map (·.size) = some cs.size) : RVal P A w (.cell a T) (.agg cs) :=
 ⟨_, ev_tmps hx, run_loadVar_row w g T' T cs fr de hg hu hd hi⟩
theorem rv_cellC {a T : Nat} {p : Addr} {de : TypeDesc} (hx : EV A (.tmp a) = .pointer (some p)) (hc : w.cell? p = some v0)
  (hu : P.underlying T = some de) (hd : (match de with | .struct _ | .array _ _ => true | _ => false) = false) : RVal P A w (.cell a T) v0 := by
 have hagg : (isAgg T).run P w = .ok false w := by
  unfold isAgg
  rw [Sem.run_bind, run_underlying hu w]
  cases de <;> simp_all
 exact ⟨p, ev_tmps hx, by simp [loadVar, hagg, hc]⟩
theorem results_0 (hr : fn.results = #[]) : (results fn A.tmps).run P w = .ok (.tuple #[]) w := by
 unfold results; simp [hr]
theorem results_1 (hr : fn.results = #[r0]) (h0 : RVal P A w r0 v0) : (results fn A.tmps).run P w = .ok v0 w := by
 unfold results; simp only [hr, Array.mapM_eq_foldlM]
 cases r0 with
 | tmp t0 =>
  simp_all [RVal, Sem.run_bind, asAddr]
 | cell a0 T0 =>
  obtain ⟨p0, q0, h0⟩ := h0
  simp_all [RVal, Sem.run_bind, asAddr]
theorem results_2 (hr : fn.results = #[r0, r1]) (h0 : RVal P A w r0 v0) (h1 : RVal P A w r1 v1) : (results fn A.tmps).run P w = .ok (.tuple #[v0, v1]) w := by
 unfold results; simp only [hr, Array.mapM_eq_foldlM]
 cases r0 with
 | tmp t0 =>
  cases r1 with
  | tmp t1 =>
   simp_all [RVal, Sem.run_bind, asAddr]
  | cell a1 T1 =>
   obtain ⟨p1, q1, h1⟩ := h1
   simp_all [RVal, Sem.run_bind, asAddr]
 | cell a0 T0 =>
  obtain ⟨p0, q0, h0⟩ := h0
  cases r1 with
  | tmp t1 =>
   simp_all [RVal, Sem.run_bind, asAddr]
  | cell a1 T1 =>
   obtain ⟨p1, q1, h1⟩ := h1
   simp_all [RVal, Sem.run_bind, asAddr]
theorem results_3 (hr : fn.results = #[r0, r1, r2]) (h0 : RVal P A w r0 v0) (h1 : RVal P A w r1 v1) (h2 : RVal P A w r2 v2) : (results fn A.tmps).run P w = .ok (.tuple #[v0, v1, v2]) w := by
 unfold results; simp only [hr, Array.mapM_eq_foldlM]
 cases r0 with
 | tmp t0 =>
  cases r1 with
  | tmp t1 =>
   cases r2 with
   | tmp t2 =>
    simp_all [RVal, Sem.run_bind, asAddr]
   | cell a2 T2 =>
    obtain ⟨p2, q2, h2⟩ := h2
    simp_all [RVal, Sem.run_bind, asAddr]
  | cell a1 T1 =>
   obtain ⟨p1, q1, h1⟩ := h1
   cases r2 with
   | tmp t2 =>
    simp_all [RVal, Sem.run_bind, asAddr]
   | cell a2 T2 =>
    obtain ⟨p2, q2, h2⟩ := h2
    simp_all [RVal, Sem.run_bind, asAddr]
 | cell a0 T0 =>
  obtain ⟨p0, q0, h0⟩ := h0
  cases r1 with
  | tmp t1 =>
   cases r2 with
   | tmp t2 =>
    simp_all [RVal, Sem.run_bind, asAddr]
   | cell a2 T2 =>
    obtain ⟨p2, q2, h2⟩ := h2
    simp_all [RVal, Sem.run_bind, asAddr]
  | cell a1 T1 =>
   obtain ⟨p1, q1, h1⟩ := h1
   cases r2 with
   | tmp t2 =>
    simp_all [RVal, Sem.run_bind, asAddr]
   | cell a2 T2 =>
    obtain ⟨p2, q2, h2⟩ := h2
    simp_all [RVal, Sem.run_bind, asAddr]
theorem results_4 (hr : fn.results = #[r0, r1, r2, r3]) (h0 : RVal P A w r0 v0) (h1 : RVal P A w r1 v1) (h2 : RVal P A w r2 v2) (h3 : RVal P A w r3 v3) : (results fn A.tmps).run P w = .ok (.tuple #[v0, v1, v2, v3]) w := by
 unfold results; simp only [hr, Array.mapM_eq_foldlM]
 cases r0 with
 | tmp t0 =>
  cases r1 with
  | tmp t1 =>
   cases r2 with
   | tmp t2 =>
    cases r3 with
    | tmp t3 =>
     simp_all [RVal, Sem.run_bind, asAddr]
    | cell a3 T3 =>
     obtain ⟨p3, q3, h3⟩ := h3
     simp_all [RVal, Sem.run_bind, asAddr]
   | cell a2 T2 =>
    obtain ⟨p2, q2, h2⟩ := h2
    cases r3 with
    | tmp t3 =>
     simp_all [RVal, Sem.run_bind, asAddr]
    | cell a3 T3 =>
     obtain ⟨p3, q3, h3⟩ := h3
     simp_all [RVal, Sem.run_bind, asAddr]
  | cell a1 T1 =>
   obtain ⟨p1, q1, h1⟩ := h1
   cases r2 with
   | tmp t2 =>
    cases r3 with
    | tmp t3 =>
     simp_all [RVal, Sem.run_bind, asAddr]
    | cell a3 T3 =>
     obtain ⟨p3, q3, h3⟩ := h3
     simp_all [RVal, Sem.run_bind, asAddr]
   | cell a2 T2 =>
    obtain ⟨p2, q2, h2⟩ := h2
    cases r3 with
    | tmp t3 =>
     simp_all [RVal, Sem.run_bind, asAddr]
    | cell a3 T3 =>
     obtain ⟨p3, q3, h3⟩ := h3
     simp_all [RVal, Sem.run_bind, asAddr]
 | cell a0 T0 =>
  obtain ⟨p0, q0, h0⟩ := h0
  cases r1 with
  | tmp t1 =>
   cases r2 with
   | tmp t2 =>
    cases r3 with
    | tmp t3 =>
     simp_all [RVal, Sem.run_bind, asAddr]
    | cell a3 T3 =>
     obtain ⟨p3, q3, h3⟩ := h3
     simp_all [RVal, Sem.run_bind, asAddr]
   | cell a2 T2 =>
    obtain ⟨p2, q2, h2⟩ := h2
    cases r3 with
    | tmp t3 =>
     simp_all [RVal, Sem.run_bind, asAddr]
    | cell a3 T3 =>
     obtain ⟨p3, q3, h3⟩ := h3
     simp_all [RVal, Sem.run_bind, asAddr]
  | cell a1 T1 =>
   obtain ⟨p1, q1, h1⟩ := h1
   cases r2 with
   | tmp t2 =>
    cases r3 with
    | tmp t3 =>
     simp_all [RVal, Sem.run_bind, asAddr]
    | cell a3 T3 =>
     obtain ⟨p3, q3, h3⟩ := h3
     simp_all [RVal, Sem.run_bind, asAddr]
   | cell a2 T2 =>
    obtain ⟨p2, q2, h2⟩ := h2
    cases r3 with
    | tmp t3 =>
     simp_all [RVal, Sem.run_bind, asAddr]
    | cell a3 T3 =>
     obtain ⟨p3, q3, h3⟩ := h3
     simp_all [RVal, Sem.run_bind, asAddr]
theorem V_nil {o : Oper} {x : Operand} {p : Addr} (ho : o.op = .nilCheck x) (hx : EV A x = .pointer (some p)) : Val P A o (.pointer (some p)) := fun w => by
 unfold execOp; simp [ho, hx]
theorem V_notd {o : Oper} {x : Operand} {t : TypeId} {p : Prop} [Decidable p] (ho : o.op = .unOp .not t x) (hx : EV A x = .bool (decide p)) : Val P A o (.bool (decide (¬ p))) := fun w => by
 rw [V_not ho hx w]; simp
theorem V_notT {o : Oper} {x : Operand} {t : TypeId} (ho : o.op = .unOp .not t x) (hx : EV A x = .bool true) : Val P A o (.bool false) := V_not ho hx
theorem V_notF {o : Oper} {x : Operand} {t : TypeId} (ho : o.op = .unOp .not t x) (hx : EV A x = .bool false) : Val P A o (.bool true) := V_not ho hx
theorem V_fld {o : Oper} {x : Operand} {T f : Nat} {fs : Array Field} {fd : Field} {cs : Array Value} {v : Value} {de : TypeDesc} (ho : o.op = .field T x f) (hx : EV A x = .agg cs) (hu : P.underlying T = some (.struct fs)) (hf : fs[f]? = some fd)
  (hd : P.underlying fd.type = some de) (ha : (match de with | .struct _ | .array _ _ => true | _ => false) = false) (hv : cs[fd.offset]? = some v) : Val P A o v := fun w => by
 have hagg : (isAgg fd.type).run P w = .ok false w := by
  unfold isAgg
  rw [Sem.run_bind, run_underlying hd w]
  cases de <;> simp_all
 unfold execOp
 simp [ho, hx, Instr.field, run_underlying hu, hf, asAgg, part, hagg, hv]
end
section
variable {P : Program} {ops : Array Oper} {w0 : World} {Φ : Nat → Option SP} {e : Nat} {Z : Act → (Nat → World → Prop) → Prop} {l : List Oper} {o : Oper} {i : Nat} {A : Act} {F : Nat → World → Prop} {d : Tmp} {v : Value} {x y : Operand}
def SP.blk (w0 : World) (T : TypeId) (cs : Array Value) : SP := ⟨fun w v => ∃ g, v = .pointer (some ⟨g, 0, none⟩) ∧ w0.heap.size ≤ g ∧ w.heap[g]? = some (.cells cs T (0, 0)),
 fun _ _ _ he ⟨g, h1, h2, h3⟩ => ⟨g, h1, h2, heap_ext he h3⟩⟩
def SP.any : SP := ⟨fun _ _ => True, fun _ _ _ _ _ => trivial⟩
end
/- []int{} and what is appended to it, by order -/
section
variable {P : Program} {ops : Array Oper} {l : List Oper} {o : Oper} {A : Act} {Q : Exit → Act → World → Prop} {w w' w0 : World} {d : Tmp} {v : Value} {s x : Operand}
end
section
variable {P : Program}
variable {ops : Array Oper} {l : List Oper} {o : Oper} {A : Act} {Q : Exit → Act → World → Prop} {w : World} {d : Tmp} {w0 : World} {Φ : Nat → Option SP} {e : Nat} {Z : Act → (Nat → World → Prop) → Prop} {i : Nat} {F : Nat → World → Prop}
end
theorem one_cells {v : Value} (h : v.oneCell' = true) : v.cells = #[v] := by cases v <;> simp_all [Value.cells, Value.oneCell']
def stN (P : Program) (T n : Nat) : Bool :=
 (match P.underlying T with
  | some (.struct fs) => match fs.toList.mapM (fun f => (P.info? f.type).map fun i => (f.offset, i.size)) with
   | some pl => decide (pl = (List.range n).map fun i => (i, 1))
   | none => false
  | _ => false) && (match P.info? T with | some i => (match i.zero with | some z => decide (z.cells.size = n) | none => false) | none => false)
theorem fill_fold (n : Nat) (place : Nat → Option (Nat × Nat)) (hpl : ∀ i, i < n → place i = some (i, 1)) : ∀ (ps : List (Nat × Value)) (cells : Array Value), cells.size = n →
  ps.all (fun p => decide (p.1 < n) && p.2.oneCell') = true → Instr.fill place cells ps = some (ps.foldl (fun cs p => cs.setIfInBounds p.1 p.2) cells)
 | [], cells, _, _ => rfl
 | (i, v) :: ps, cells, hs, h => by
  simp only [List.all_cons, Bool.and_eq_true, decide_eq_true_eq] at h
  obtain ⟨⟨h1, h2⟩, h3⟩ := h
  have hv := one_cells h2
  simp only [Instr.fill, hpl i h1, hv, List.size_toArray, List.length_cons, List.length_nil]
  rw [if_neg (by simp; omega)]
  simp only [List.foldl_cons]
  rw [← fill_fold n place hpl ps _ (by simpa using hs) (by simpa using h3)]
  simp
theorem V_bldS {P : Program} {A : Act} {o : Oper} {T n : Nat} {parts : Array (Nat × Operand)} {ps : List (Nat × Value)} {z : Value} {cs : Array Value} (ho : o.op = .build T parts) (hp : (parts.map fun (i, x) => (i, EV A x)).toList = ps)
  (hT : stN P T n = true) (hone : ps.all (fun p => decide (p.1 < n) && p.2.oneCell') = true) (hz : (P.info? T).map (·.zero) = some (some z)) (hcs : ps.foldl (fun cs p => cs.setIfInBounds p.1 p.2) z.cells = cs) : Val P A o (.agg cs) := by
 refine V_bld ho hp ?_
 cases hq : P.info? T with
 | none => simp [hq] at hz
 | some i =>
  have hz' : i.zero = some z := by simpa [hq] using hz
  unfold stN at hT
  cases hu : P.underlying T with
  | none => simp [hu] at hT
  | some de =>
   cases de with
   | struct fs =>
    simp only [hu, hq, hz', Bool.and_eq_true] at hT
    cases hm : fs.toList.mapM (fun f => (P.info? f.type).map fun i => (f.offset, i.size)) with
    | none => simp [hm] at hT
    | some pl =>
     simp only [hm, decide_eq_true_eq] at hT
     obtain ⟨h1, h2⟩ := hT
     unfold Program.built
     simp only [hq, hu, hz', hm]
     subst hcs h1
     exact fill_fold n _ (fun i hi => by simp [hi]) ps _ h2 hone
   | _ => simp [hu] at hT
theorem wanted_t {ops : Array Oper} {o : Oper} {A : Act} {j t : Nat} {b : Bool} (hg : o.guard = some (j, b)) (hj : (ops[j]?).bind (·.dst) = some t) (hv : EV A (.tmp t) = .bool b) (ht : t < A.tmps.size) : Region.wanted o (yielded ops A.tmps) = true := by
 unfold EV Act.eval at hv
 simp [ht] at hv
 simp [Region.wanted, hg, yielded, hj, ht, hv]
theorem wanted_f {ops : Array Oper} {o : Oper} {A : Act} {j t : Nat} {b c : Bool} (hg : o.guard = some (j, b)) (hj : (ops[j]?).bind (·.dst) = some t) (hv : EV A (.tmp t) = .bool c) (ht : t < A.tmps.size) (hbc : (c == b) = false) : Region.wanted o (yielded ops A.tmps) = false := by
 unfold EV Act.eval at hv
 simp [ht] at hv
 have : c ≠ b := by simpa using hbc
 simp [Region.wanted, hg, yielded, hj, ht, hv, this]
theorem wanted_u {ops : Array Oper} {o : Oper} {A : Act} {j t : Nat} {b : Bool} (hg : o.guard = some (j, b)) (hj : (ops[j]?).bind (·.dst) = some t) (hv : EV A (.tmp t) = undef) (ht : t < A.tmps.size) : Region.wanted o (yielded ops A.tmps) = false := by
 unfold EV Act.eval at hv
 simp [ht] at hv
 simp [Region.wanted, hg, yielded, hj, ht, hv, undef]
section
variable {P : Program} {ops : Array Oper} {l : List Oper} {o : Oper} {A : Act} {Q : Exit → Act → World → Prop} {w w' w0 : World} {d : Tmp} {v : Value} {s x : Operand}
end
structure AX (P : Program) (ops : Array Oper) (Q : Exit → Act → World → Prop) (fuel : Nat) (listed : Array Bool) (A : Act) (w : World) : Prop where
 out : wpAny P .any ops Q fuel listed A w
def KQ (K : Act → World → Prop) (Q : Exit → Act → World → Prop) : Exit → Act → World → Prop := fun x a w => match x with | .normal => K a w | x => Q x a w
section
variable {P : Program} {ops : Array Oper} {Q : Exit → Act → World → Prop} {fuel : Nat} {listed : Array Bool} {A : Act} {w : World}
theorem region_any {id : Nat} {l : List Oper} (hm : P.follows .mixedOrders = true) (n : Nat) (hn : l.toArray.size = n) (h : ∀ w', Ext w w' → AX P l.toArray Q n (Array.replicate n false) A w') : (Code.region id l.toArray true).wp P Q A w :=
 wp_region_any hm (by rw [hn]; exact (h { w with drawn := w.drawn + 1 } ⟨rfl, rfl, rfl, Nat.le_refl _, fun _ _ => rfl⟩).out)
theorem op_any {i : Nat} {o : Oper} {K : Act → World → Prop} (ho : ops[i]? = some o) (h : WX P ops (KQ K Q) [o] A w) : wpOp P ops Q i K A w := by
 have h := h.out
 unfold wpOp
 simp only [ho]
 unfold wpList at h
 split
 ·rename_i hw
  rw [if_pos hw] at h
  rcases h with h | ⟨h1, a, w', h2⟩
  ·left
   refine Oper.wp_mono (Q := Q) (fun a w h => h) ?_
   unfold Oper.wp Oper.upon at h ⊢
   generalize (execOp A.eval o).run P w = r at h ⊢
   cases r with
   | ok n w' => cases n <;> first | exact h | (exact h.mono fun e w'' he => by cases e <;> exact he) | (exact Rows.mono h fun _ _ he => he)
   | halt x w' => cases x <;> exact h
  ·exact .inr ⟨h1, a, w', h2⟩
 ·rename_i hw
  rw [if_neg hw] at h
  exact h
theorem kq (K : Act → World → Prop) (h : K A w) : KQ K Q .normal A w := h
end
theorem loopX {P : Program} {Q : Exit → Act → World → Prop} {c : Code} {A : Act} {w : World} (I : Nat → Act → World → Prop) (n0 : Nat) (h0 : I n0 A w)
  (round : ∀ n A w, I n A w → c.wp P (Exit.then (fun A' w' => ∃ m, m < n ∧ I m A' w') Q) A w) : (Code.loop c).wp P Q A w := by
 have key : ∀ n A w, I n A w → ∀ (b : Frame) (k : List Item) (cs : List Frame), ∃ e a' w', Q e a' w' ∧ Arrives P (lone (b.at A (.code c :: .inLoop c :: k)) cs w) b k cs e a' w' := by
  intro n
  induction n using Nat.strongRecOn with
  | _ n ih =>
   intro A w hI b k cs
   obtain ⟨e, a₁, w₁, hq, harr⟩ := round n A w hI b (.inLoop c :: k) cs
   cases e with
   | normal =>
    obtain ⟨m, hlt, hI₁⟩ := hq
    obtain ⟨e₂, a₂, w₂, hq₂, harr₂⟩ := ih m hlt a₁ w₁ hI₁ b k cs
    exact ⟨e₂, a₂, w₂, hq₂, .of_steps (Steps.trans harr (.one step_inLoop)) harr₂⟩
   | exit id => exact ⟨_, a₁, w₁, hq, .pass (x := .inLoop c) rfl (fun _ _ => .inl (by simp)) harr⟩
   | goto l => exact ⟨_, a₁, w₁, hq, .pass (x := .inLoop c) rfl (fun _ _ => .inl (by simp)) harr⟩
   | ret => exact ⟨_, a₁, w₁, hq, .pass (x := .inLoop c) rfl (fun _ _ => .inl (by simp)) harr⟩
   | panic ch => exact ⟨_, a₁, w₁, hq, .pass (x := .inLoop c) rfl (fun _ _ => .inl (by simp)) harr⟩
   | outgrown => exact ⟨_, a₁, w₁, hq, .pass (x := .inLoop c) rfl (fun _ _ => .inl (by simp)) harr⟩
 intro b k cs
 obtain ⟨e, a', w', hq, harr⟩ := key n0 A w h0 b k cs
 exact ⟨e, a', w', hq, .of_steps (.one step_loop) harr⟩
theorem V_cvt {P : Program} {A : Act} {o : Oper} {x : Operand} {t t' : TypeId} {k k' : IntKind} {a : Int} (ho : o.op = .convert t t' x) (hx : EV A x = .int k a) (hu : P.underlying t = some (.int k)) (hu' : P.underlying t' = some (.int k')) (hr : k'.wrap a = a) : Val P A o (.int k' a) := fun w => by
 unfold execOp; simp [ho, hx, convert, run_underlying hu, run_underlying hu', Conv.intToInt, hr]
theorem wrap_i64 {a : Int} (h1 : -9223372036854775808 ≤ a) (h2 : a ≤ 9223372036854775807) : IntKind.i64.wrap a = a := by simp [IntKind.wrap, IntKind.bits, IntKind.signed]; omega
theorem wrap_u8 {a : Int} (h1 : 0 ≤ a) (h2 : a ≤ 255) : IntKind.u8.wrap a = a := by simp [IntKind.wrap, IntKind.bits, IntKind.signed]; omega
theorem wrap_u64 {a : Int} (h1 : 0 ≤ a) (h2 : a ≤ 18446744073709551615) : IntKind.u64.wrap a = a := by simp [IntKind.wrap, IntKind.bits, IntKind.signed]; omega
def IntsK (w : World) (k : IntKind) (v : Value) (zs : List Int) : Prop := Sl w v (zs.map (Value.int k))
theorem IntsK.form {w : World} {k : IntKind} {v : Value} {zs : List Int} (h : IntsK w k v zs) : ∃ a cap, v = .slice a zs.length cap := by
 obtain ⟨a, cap, rfl, _⟩ := h; exact ⟨a, cap, by simp⟩
end Go.Own
namespace Go.Own
open Go Go.RowKit
end Go.Own
namespace Go.Own
open Go Go.RowKit
theorem VR_ldM {P : Program} {A : Act} {o : Oper} {x : Operand} {T b off : Nat} {cs : List Value} {w : World} {d : TypeDesc} (ho : o.op = .load T x) (hx : EV A x = .pointer (some ⟨b, off, none⟩)) (hc : w.rangeAt b off cs)
  (hu : P.underlying T = some d) (hd : d.isRow = true) (hi : (P.info? T).map (·.size) = some cs.length) : ValW P A o w (.agg cs.toArray) := by
 unfold ValW execOp
 simp only [ho, hx, Sem.run_bind, run_loadAt_mid w b off T cs d hc hu hd hi, Result.andThen_ok, Sem.run_pure]
end Go.Own
namespace Go.Own
open Go Go.RowKit
def stA (P : Program) (T n : Nat) : Bool :=
 (match P.underlying T with
  | some (.array _ e) => (match P.info? e with | some ie => decide (ie.size = 1) | none => false)
  | _ => false) && (match P.info? T with | some i => (match i.zero with | some z => decide (z.cells.size = n) | none => false) | none => false)
theorem V_bldA {P : Program} {A : Act} {o : Oper} {T n : Nat} {parts : Array (Nat × Operand)} {ps : List (Nat × Value)} {z : Value} {cs : Array Value} (ho : o.op = .build T parts) (hp : (parts.map fun (i, x) => (i, EV A x)).toList = ps)
  (hT : stA P T n = true) (hone : ps.all (fun p => decide (p.1 < n) && p.2.oneCell') = true) (hz : (P.info? T).map (·.zero) = some (some z)) (hcs : ps.foldl (fun cs p => cs.setIfInBounds p.1 p.2) z.cells = cs) : Val P A o (.agg cs) := by
 refine V_bld ho hp ?_
 cases hq : P.info? T with
 | none => simp [hq] at hz
 | some i =>
  have hz' : i.zero = some z := by simpa [hq] using hz
  unfold stA at hT
  cases hu : P.underlying T with
  | none => simp [hu] at hT
  | some de =>
   cases de with
   | array m e =>
    simp only [hu, hq, hz', Bool.and_eq_true] at hT
    cases he : P.info? e with
    | none => simp [he] at hT
    | some ie =>
     simp only [he, decide_eq_true_eq] at hT
     obtain ⟨h1, h2⟩ := hT
     unfold Program.built
     simp only [hq, hu, hz', he, h1]
     subst hcs
     exact fill_fold n _ (fun i hi => by simp) ps _ h2 hone
   | _ => simp [hu] at hT
theorem szq {A B : Act} {N : Nat} (h : A = B) [i : SzN B N] : SzN A N := by rw [h]; exact i
theorem dfE {A B : Act} (h : A = B) {D : _} (hB : B.defers = D) : A.defers = D := by rw [h]; exact hB
theorem orf {a b : Bool} (h : (a || b) = false) : a = false ∧ b = false := Bool.or_eq_false_iff.1 h
theorem dp {A : Act} {d : Tmp} {u : Value} {D : _} (h : A.defers = D) : (PT A d u).defers = D := by rw [df_put]; exact h
theorem V {α : Sort _} {a : α} : a = a := rfl

def FS (A : Act) {T : Type} (f : Act → T) (D : T) (l : List (Tmp × Value)) : Prop := f A = D ∧ ∀ p ∈ l, EV A (.tmp p.1) = p.2
def nin (d : Tmp) (l : List (Tmp × Value)) : Bool := l.all fun p => !(d == p.1)
theorem mxe {α : Type} {l : List α} (i : Nat) {p : α} (h : p ∈ l.eraseIdx i) : p ∈ l := List.mem_of_mem_eraseIdx h
theorem mig {α : Type} {l : List α} (i : Nat) {p : α} (h : l[i]? = some p) : p ∈ l := List.mem_of_getElem? h
theorem tk {K G : Act → World → Prop} {Q : Exit → Act → World → Prop} {A : Act} {w : World} (h : ∀ a w, G a w → K a w) (g : G A w) : Exit.then K Q .normal A w := then_n (h _ _ g)
section
variable {A B : Act} {N : Nat} {t d0 d1 d2 d3 d4 d5 d6 d7 : Tmp} {v u0 u1 u2 u3 u4 u5 u6 u7 : Value} {l : List (Tmp × Value)} {r p0 p1 p2 p3 p4 p5 p6 p7 p8 p9 p10 p11 p12 p13 p14 p15 p16 p17 p18 p19 p20 p21 p22 p23 p24 p25 p26 p27 p28 p29 : Tmp × Value} {T : Type} {f : Act → T} {D : T}
theorem FS.n {D} (h : A.defers = D) : FS A Act.defers D [] := ⟨h, fun p h => by cases h⟩
theorem FS.d {D} (h : FS A Act.defers D l) : A.defers = D := h.1
theorem FS.c (h : FS A f D l) (e : EV A (.tmp t) = v) : FS A f D ((t, v) :: l) := ⟨h.1, fun p hp => by
  rcases List.mem_cons.1 hp with rfl | q
  · exact e
  · exact h.2 p q⟩
theorem fsE (h : A = B) (g : FS B f D l) : FS A f D l := by rw [h]; exact g
theorem cq1 {D} (h : FS A Act.defers D l) (hd : nin d0 l = true) : FS (PT A d0 u0) Act.defers D l := ⟨(df_put A d0 u0).trans h.1, fun p hp => es (by have := List.all_eq_true.1 hd p hp; simpa using this) (h.2 p hp)⟩
theorem ck {D} [i : SzN A N] (h : FS A Act.defers D l) (hd : nin d0 l = true) (ht : decide (d0 < N) = true) : FS (PT A d0 u0) Act.defers D ((d0, u0) :: l) := (cq1 h hd).c (et ht)
theorem es2 (hd : (d0 == t || (d1 == t)) = false) (h : EV A (.tmp t) = v) : EV (PT (PT A d1 u1) d0 u0) (.tmp t) = v := by
  simp only [Bool.or_eq_false_iff] at hd
  exact es hd.1 (es hd.2 (h))
theorem cq2 {D} (h : FS A Act.defers D l) (hd : (nin d0 l && (nin d1 l)) = true) : FS (PT (PT A d1 u1) d0 u0) Act.defers D l := by
  simp only [Bool.and_eq_true] at hd
  exact cq1 (cq1 (h) hd.2) hd.1
theorem es3 (hd : (d0 == t || (d1 == t || (d2 == t))) = false) (h : EV A (.tmp t) = v) : EV (PT (PT (PT A d2 u2) d1 u1) d0 u0) (.tmp t) = v := by
  simp only [Bool.or_eq_false_iff] at hd
  exact es hd.1 (es hd.2.1 (es hd.2.2 (h)))
theorem cq3 {D} (h : FS A Act.defers D l) (hd : (nin d0 l && (nin d1 l && (nin d2 l))) = true) : FS (PT (PT (PT A d2 u2) d1 u1) d0 u0) Act.defers D l := by
  simp only [Bool.and_eq_true] at hd
  exact cq1 (cq1 (cq1 (h) hd.2.2) hd.2.1) hd.1
theorem es4 (hd : (d0 == t || (d1 == t || (d2 == t || (d3 == t)))) = false) (h : EV A (.tmp t) = v) : EV (PT (PT (PT (PT A d3 u3) d2 u2) d1 u1) d0 u0) (.tmp t) = v := by
  simp only [Bool.or_eq_false_iff] at hd
  exact es hd.1 (es hd.2.1 (es hd.2.2.1 (es hd.2.2.2 (h))))
theorem cq4 {D} (h : FS A Act.defers D l) (hd : (nin d0 l && (nin d1 l && (nin d2 l && (nin d3 l)))) = true) : FS (PT (PT (PT (PT A d3 u3) d2 u2) d1 u1) d0 u0) Act.defers D l := by
  simp only [Bool.and_eq_true] at hd
  exact cq1 (cq1 (cq1 (cq1 (h) hd.2.2.2) hd.2.2.1) hd.2.1) hd.1
theorem es5 (hd : (d0 == t || (d1 == t || (d2 == t || (d3 == t || (d4 == t))))) = false) (h : EV A (.tmp t) = v) : EV (PT (PT (PT (PT (PT A d4 u4) d3 u3) d2 u2) d1 u1) d0 u0) (.tmp t) = v := by
  simp only [Bool.or_eq_false_iff] at hd
  exact es hd.1 (es hd.2.1 (es hd.2.2.1 (es hd.2.2.2.1 (es hd.2.2.2.2 (h)))))
theorem cq5 {D} (h : FS A Act.defers D l) (hd : (nin d0 l && (nin d1 l && (nin d2 l && (nin d3 l && (nin d4 l))))) = true) : FS (PT (PT (PT (PT (PT A d4 u4) d3 u3) d2 u2) d1 u1) d0 u0) Act.defers D l := by
  simp only [Bool.and_eq_true] at hd
  exact cq1 (cq1 (cq1 (cq1 (cq1 (h) hd.2.2.2.2) hd.2.2.2.1) hd.2.2.1) hd.2.1) hd.1
theorem es6 (hd : (d0 == t || (d1 == t || (d2 == t || (d3 == t || (d4 == t || (d5 == t)))))) = false) (h : EV A (.tmp t) = v) : EV (PT (PT (PT (PT (PT (PT A d5 u5) d4 u4) d3 u3) d2 u2) d1 u1) d0 u0) (.tmp t) = v := by
  simp only [Bool.or_eq_false_iff] at hd
  exact es hd.1 (es hd.2.1 (es hd.2.2.1 (es hd.2.2.2.1 (es hd.2.2.2.2.1 (es hd.2.2.2.2.2 (h))))))
theorem cq6 {D} (h : FS A Act.defers D l) (hd : (nin d0 l && (nin d1 l && (nin d2 l && (nin d3 l && (nin d4 l && (nin d5 l)))))) = true) : FS (PT (PT (PT (PT (PT (PT A d5 u5) d4 u4) d3 u3) d2 u2) d1 u1) d0 u0) Act.defers D l := by
  simp only [Bool.and_eq_true] at hd
  exact cq1 (cq1 (cq1 (cq1 (cq1 (cq1 (h) hd.2.2.2.2.2) hd.2.2.2.2.1) hd.2.2.2.1) hd.2.2.1) hd.2.1) hd.1
theorem es7 (hd : (d0 == t || (d1 == t || (d2 == t || (d3 == t || (d4 == t || (d5 == t || (d6 == t))))))) = false) (h : EV A (.tmp t) = v) : EV (PT (PT (PT (PT (PT (PT (PT A d6 u6) d5 u5) d4 u4) d3 u3) d2 u2) d1 u1) d0 u0) (.tmp t) = v := by
  simp only [Bool.or_eq_false_iff] at hd
  exact es hd.1 (es hd.2.1 (es hd.2.2.1 (es hd.2.2.2.1 (es hd.2.2.2.2.1 (es hd.2.2.2.2.2.1 (es hd.2.2.2.2.2.2 (h)))))))
theorem cq7 {D} (h : FS A Act.defers D l) (hd : (nin d0 l && (nin d1 l && (nin d2 l && (nin d3 l && (nin d4 l && (nin d5 l && (nin d6 l))))))) = true) : FS (PT (PT (PT (PT (PT (PT (PT A d6 u6) d5 u5) d4 u4) d3 u3) d2 u2) d1 u1) d0 u0) Act.defers D l := by
  simp only [Bool.and_eq_true] at hd
  exact cq1 (cq1 (cq1 (cq1 (cq1 (cq1 (cq1 (h) hd.2.2.2.2.2.2) hd.2.2.2.2.2.1) hd.2.2.2.2.1) hd.2.2.2.1) hd.2.2.1) hd.2.1) hd.1
theorem es8 (hd : (d0 == t || (d1 == t || (d2 == t || (d3 == t || (d4 == t || (d5 == t || (d6 == t || (d7 == t)))))))) = false) (h : EV A (.tmp t) = v) : EV (PT (PT (PT (PT (PT (PT (PT (PT A d7 u7) d6 u6) d5 u5) d4 u4) d3 u3) d2 u2) d1 u1) d0 u0) (.tmp t) = v := by
  simp only [Bool.or_eq_false_iff] at hd
  exact es hd.1 (es hd.2.1 (es hd.2.2.1 (es hd.2.2.2.1 (es hd.2.2.2.2.1 (es hd.2.2.2.2.2.1 (es hd.2.2.2.2.2.2.1 (es hd.2.2.2.2.2.2.2 (h))))))))
theorem cq8 {D} (h : FS A Act.defers D l) (hd : (nin d0 l && (nin d1 l && (nin d2 l && (nin d3 l && (nin d4 l && (nin d5 l && (nin d6 l && (nin d7 l)))))))) = true) : FS (PT (PT (PT (PT (PT (PT (PT (PT A d7 u7) d6 u6) d5 u5) d4 u4) d3 u3) d2 u2) d1 u1) d0 u0) Act.defers D l := by
  simp only [Bool.and_eq_true] at hd
  exact cq1 (cq1 (cq1 (cq1 (cq1 (cq1 (cq1 (cq1 (h) hd.2.2.2.2.2.2.2) hd.2.2.2.2.2.2.1) hd.2.2.2.2.2.1) hd.2.2.2.2.1) hd.2.2.2.1) hd.2.2.1) hd.2.1) hd.1
theorem fg0 (h : FS A f D ((t, v) :: l)) : EV A (.tmp t) = v := h.2 (t, v) (mig 0 rfl)
theorem fx0 (h : FS A f D (r :: l)) : FS A f D (l) := ⟨h.1, fun p q => h.2 p (mxe 0 q)⟩
theorem fg1 (h : FS A f D (p0 :: (t, v) :: l)) : EV A (.tmp t) = v := h.2 (t, v) (mig 1 rfl)
theorem fx1 (h : FS A f D (p0 :: r :: l)) : FS A f D (p0 :: l) := ⟨h.1, fun p q => h.2 p (mxe 1 q)⟩
theorem fg2 (h : FS A f D (p0 :: p1 :: (t, v) :: l)) : EV A (.tmp t) = v := h.2 (t, v) (mig 2 rfl)
theorem fx2 (h : FS A f D (p0 :: p1 :: r :: l)) : FS A f D (p0 :: p1 :: l) := ⟨h.1, fun p q => h.2 p (mxe 2 q)⟩
theorem fg3 (h : FS A f D (p0 :: p1 :: p2 :: (t, v) :: l)) : EV A (.tmp t) = v := h.2 (t, v) (mig 3 rfl)
theorem fx3 (h : FS A f D (p0 :: p1 :: p2 :: r :: l)) : FS A f D (p0 :: p1 :: p2 :: l) := ⟨h.1, fun p q => h.2 p (mxe 3 q)⟩
theorem fg4 (h : FS A f D (p0 :: p1 :: p2 :: p3 :: (t, v) :: l)) : EV A (.tmp t) = v := h.2 (t, v) (mig 4 rfl)
theorem fx4 (h : FS A f D (p0 :: p1 :: p2 :: p3 :: r :: l)) : FS A f D (p0 :: p1 :: p2 :: p3 :: l) := ⟨h.1, fun p q => h.2 p (mxe 4 q)⟩
theorem fg5 (h : FS A f D (p0 :: p1 :: p2 :: p3 :: p4 :: (t, v) :: l)) : EV A (.tmp t) = v := h.2 (t, v) (mig 5 rfl)
theorem fx5 (h : FS A f D (p0 :: p1 :: p2 :: p3 :: p4 :: r :: l)) : FS A f D (p0 :: p1 :: p2 :: p3 :: p4 :: l) := ⟨h.1, fun p q => h.2 p (mxe 5 q)⟩
theorem fg6 (h : FS A f D (p0 :: p1 :: p2 :: p3 :: p4 :: p5 :: (t, v) :: l)) : EV A (.tmp t) = v := h.2 (t, v) (mig 6 rfl)
theorem fg7 (h : FS A f D (p0 :: p1 :: p2 :: p3 :: p4 :: p5 :: p6 :: (t, v) :: l)) : EV A (.tmp t) = v := h.2 (t, v) (mig 7 rfl)
theorem fx7 (h : FS A f D (p0 :: p1 :: p2 :: p3 :: p4 :: p5 :: p6 :: r :: l)) : FS A f D (p0 :: p1 :: p2 :: p3 :: p4 :: p5 :: p6 :: l) := ⟨h.1, fun p q => h.2 p (mxe 7 q)⟩
theorem fg8 (h : FS A f D (p0 :: p1 :: p2 :: p3 :: p4 :: p5 :: p6 :: p7 :: (t, v) :: l)) : EV A (.tmp t) = v := h.2 (t, v) (mig 8 rfl)
theorem fx8 (h : FS A f D (p0 :: p1 :: p2 :: p3 :: p4 :: p5 :: p6 :: p7 :: r :: l)) : FS A f D (p0 :: p1 :: p2 :: p3 :: p4 :: p5 :: p6 :: p7 :: l) := ⟨h.1, fun p q => h.2 p (mxe 8 q)⟩
theorem fg9 (h : FS A f D (p0 :: p1 :: p2 :: p3 :: p4 :: p5 :: p6 :: p7 :: p8 :: (t, v) :: l)) : EV A (.tmp t) = v := h.2 (t, v) (mig 9 rfl)
theorem fx9 (h : FS A f D (p0 :: p1 :: p2 :: p3 :: p4 :: p5 :: p6 :: p7 :: p8 :: r :: l)) : FS A f D (p0 :: p1 :: p2 :: p3 :: p4 :: p5 :: p6 :: p7 :: p8 :: l) := ⟨h.1, fun p q => h.2 p (mxe 9 q)⟩
theorem fg10 (h : FS A f D (p0 :: p1 :: p2 :: p3 :: p4 :: p5 :: p6 :: p7 :: p8 :: p9 :: (t, v) :: l)) : EV A (.tmp t) = v := h.2 (t, v) (mig 10 rfl)
theorem fx10 (h : FS A f D (p0 :: p1 :: p2 :: p3 :: p4 :: p5 :: p6 :: p7 :: p8 :: p9 :: r :: l)) : FS A f D (p0 :: p1 :: p2 :: p3 :: p4 :: p5 :: p6 :: p7 :: p8 :: p9 :: l) := ⟨h.1, fun p q => h.2 p (mxe 10 q)⟩
theorem fg11 (h : FS A f D (p0 :: p1 :: p2 :: p3 :: p4 :: p5 :: p6 :: p7 :: p8 :: p9 :: p10 :: (t, v) :: l)) : EV A (.tmp t) = v := h.2 (t, v) (mig 11 rfl)
theorem fg12 (h : FS A f D (p0 :: p1 :: p2 :: p3 :: p4 :: p5 :: p6 :: p7 :: p8 :: p9 :: p10 :: p11 :: (t, v) :: l)) : EV A (.tmp t) = v := h.2 (t, v) (mig 12 rfl)
theorem fg13 (h : FS A f D (p0 :: p1 :: p2 :: p3 :: p4 :: p5 :: p6 :: p7 :: p8 :: p9 :: p10 :: p11 :: p12 :: (t, v) :: l)) : EV A (.tmp t) = v := h.2 (t, v) (mig 13 rfl)
theorem fx13 (h : FS A f D (p0 :: p1 :: p2 :: p3 :: p4 :: p5 :: p6 :: p7 :: p8 :: p9 :: p10 :: p11 :: p12 :: r :: l)) : FS A f D (p0 :: p1 :: p2 :: p3 :: p4 :: p5 :: p6 :: p7 :: p8 :: p9 :: p10 :: p11 :: p12 :: l) := ⟨h.1, fun p q => h.2 p (mxe 13 q)⟩
theorem fg14 (h : FS A f D (p0 :: p1 :: p2 :: p3 :: p4 :: p5 :: p6 :: p7 :: p8 :: p9 :: p10 :: p11 :: p12 :: p13 :: (t, v) :: l)) : EV A (.tmp t) = v := h.2 (t, v) (mig 14 rfl)
theorem fg15 (h : FS A f D (p0 :: p1 :: p2 :: p3 :: p4 :: p5 :: p6 :: p7 :: p8 :: p9 :: p10 :: p11 :: p12 :: p13 :: p14 :: (t, v) :: l)) : EV A (.tmp t) = v := h.2 (t, v) (mig 15 rfl)
theorem fg16 (h : FS A f D (p0 :: p1 :: p2 :: p3 :: p4 :: p5 :: p6 :: p7 :: p8 :: p9 :: p10 :: p11 :: p12 :: p13 :: p14 :: p15 :: (t, v) :: l)) : EV A (.tmp t) = v := h.2 (t, v) (mig 16 rfl)
theorem fg17 (h : FS A f D (p0 :: p1 :: p2 :: p3 :: p4 :: p5 :: p6 :: p7 :: p8 :: p9 :: p10 :: p11 :: p12 :: p13 :: p14 :: p15 :: p16 :: (t, v) :: l)) : EV A (.tmp t) = v := h.2 (t, v) (mig 17 rfl)
theorem fg22 (h : FS A f D (p0 :: p1 :: p2 :: p3 :: p4 :: p5 :: p6 :: p7 :: p8 :: p9 :: p10 :: p11 :: p12 :: p13 :: p14 :: p15 :: p16 :: p17 :: p18 :: p19 :: p20 :: p21 :: (t, v) :: l)) : EV A (.tmp t) = v := h.2 (t, v) (mig 22 rfl)
theorem fg23 (h : FS A f D (p0 :: p1 :: p2 :: p3 :: p4 :: p5 :: p6 :: p7 :: p8 :: p9 :: p10 :: p11 :: p12 :: p13 :: p14 :: p15 :: p16 :: p17 :: p18 :: p19 :: p20 :: p21 :: p22 :: (t, v) :: l)) : EV A (.tmp t) = v := h.2 (t, v) (mig 23 rfl)
theorem fg24 (h : FS A f D (p0 :: p1 :: p2 :: p3 :: p4 :: p5 :: p6 :: p7 :: p8 :: p9 :: p10 :: p11 :: p12 :: p13 :: p14 :: p15 :: p16 :: p17 :: p18 :: p19 :: p20 :: p21 :: p22 :: p23 :: (t, v) :: l)) : EV A (.tmp t) = v := h.2 (t, v) (mig 24 rfl)
theorem fg25 (h : FS A f D (p0 :: p1 :: p2 :: p3 :: p4 :: p5 :: p6 :: p7 :: p8 :: p9 :: p10 :: p11 :: p12 :: p13 :: p14 :: p15 :: p16 :: p17 :: p18 :: p19 :: p20 :: p21 :: p22 :: p23 :: p24 :: (t, v) :: l)) : EV A (.tmp t) = v := h.2 (t, v) (mig 25 rfl)
end

section
variable {P : Program} {ops : Array Oper} {l : List Oper} {o : Oper} {A : Act} {Q : Exit → Act → World → Prop} {w : World} {d j t : Nat} {v : Value} {x : Operand} {b c : Bool}
theorem xof (hd : o.dst = some d) (hg : o.guard = some (j, b)) (hj : (ops[j]?).bind (·.dst) = some t) (hv : EV A (.tmp t) = .bool c) (h : WX P ops Q l (PT A d undef) w) (ht : t < A.tmps.size := by exact ez rfl) (hbc : (c == b) = false := by rfl) : WX P ops Q (o :: l) A w := W_off hd (wanted_f hg hj hv ht hbc) h
theorem xwt (hg : o.guard = some (j, b)) (hj : (ops[j]?).bind (·.dst) = some t) (hv : EV A (.tmp t) = .bool b) (ht : t < A.tmps.size := by exact ez rfl) : Region.wanted o (yielded ops A.tmps) = true := wanted_t hg hj hv ht
theorem xlC {T : TypeId} {g off : Nat} {de : TypeDesc} {T' : TypeId} {cs : Array Value} {fr : Nat × Nat} (ho : o.op = .load T x) (hx : EV A x = .pointer (some ⟨g, off, none⟩)) (hg : w.heap[g]? = some (.cells cs T' fr)) (hu : P.underlying T = some de) (hc : cs[off]? = some v := by rfl) (hd : (match de with | .struct _ | .array _ _ => true | _ => false) = false := by rfl) : ValW P A o w v := VR_ldC ho hx (cell_box hg hc) hu hd
theorem xbS {T n : Nat} {parts : Array (Nat × Operand)} {ps : List (Nat × Value)} {z : Value} {cs : Array Value} (ho : o.op = .build T parts) (hp : (parts.map fun (i, x) => (i, EV A x)).toList = ps) (hT : stN P T n = true := by kernel_rfl) (hone : ps.all (fun p => decide (p.1 < n) && p.2.oneCell') = true := by simp only [List.all_cons, List.all_nil, Bool.and_true] <;> rfl) (hz : (P.info? T).map (·.zero) = some (some z) := by kernel_rfl) (hcs : ps.foldl (fun cs p => cs.setIfInBounds p.1 p.2) z.cells = cs := by simp only [List.foldl_cons, List.foldl_nil, Value.cells, List.setIfInBounds_toArray, List.set_cons_succ, List.set_cons_zero] <;> rfl) : Val P A o (.agg cs) := V_bldS ho hp hT hone hz hcs
theorem xbT {T n : Nat} {parts : Array (Nat × Operand)} {ps : List (Nat × Value)} {z : Value} {cs : Array Value} (ho : o.op = .build T parts) (hp : (parts.map fun (i, x) => (i, EV A x)).toList = ps) (hone : ps.all (fun p => decide (p.1 < n) && p.2.oneCell') = true) (hT : stN P T n = true := by kernel_rfl) (hz : (P.info? T).map (·.zero) = some (some z) := by kernel_rfl) (hcs : ps.foldl (fun cs p => cs.setIfInBounds p.1 p.2) z.cells = cs := by simp only [List.foldl_cons, List.foldl_nil, Value.cells, List.setIfInBounds_toArray, List.set_cons_succ, List.set_cons_zero] <;> rfl) : Val P A o (.agg cs) := V_bldS ho hp hT hone hz hcs
end
end Go.Own
