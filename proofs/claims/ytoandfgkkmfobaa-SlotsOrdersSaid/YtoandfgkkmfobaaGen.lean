import Derived.Test.YtoandfgkkmfobaaStep5
import Derived.Deep.MidRow
/-! one rule for each operation, the frame and the world being variables: what the walk printer (wip/gen/walk.py) writes -/
namespace Go.Own
open Go Go.RowKit

/-- entering a function: the frame is a variable. -/
theorem calls_in {P : Program} {f : FuncId} {fn : Func} {c : Code} {args : Array Value} {w : World} {R : Ending → World → Prop} (N : Nat)
    (hf : P.funcs[f]? = some fn) (hb : fn.body = some c) (hN : fn.ntmps = N) (ha : args.size ≤ N)
    (h : ∀ A : Act, A.tmps.size = N → A.defers = [] → (∀ (i : Nat) (v : Value), args[i]? = some v → EV A (.tmp i) = v) → c.wp P (bodyPost P fn R) A w) : Calls P f args w R := by
  refine calls_of_wp hf hb (h _ ?_ rfl fun i v hi => ?_)
  · simp; omega
  · have hlt := (Array.getElem?_eq_some_iff.1 hi).1
    simp [EV, Act.eval, Array.getElem?_append, hlt] at hi ⊢
    simp [hi]

section
variable {P : Program} {ops : Array Oper} {l : List Oper} {o : Oper} {A : Act} {Q : Exit → Act → World → Prop} {w w' : World} {d : Tmp} {v v1 v2 : Value} {x y : Operand} {k : IntKind} {a b n : Int}

/-- what is left of a region, as a structure: nothing opens it by itself. -/
structure WX (P : Program) (ops : Array Oper) (Q : Exit → Act → World → Prop) (l : List Oper) (A : Act) (w : World) : Prop where
  out : wpList P ops Q l A w
theorem region_in {id : Nat} {l : List Oper} (h : WX P l.toArray Q l A w) : (Code.region id l.toArray false).wp P Q A w := wp_region_lit h.out
theorem W_end (h : Q .normal A w) : WX P ops Q [] A w := ⟨wpList_nil h⟩
theorem W_val (hd : o.dst = some d) (hw : Region.wanted o (yielded ops A.tmps) = true) (hx : (execOp (EV A) o).run P w = .ok (.value v) w') (h : WX P ops Q l (PT A d v) w') : WX P ops Q (o :: l) A w :=
  ⟨WL_val hw (ex_ev hx) (by rw [hd]; rfl) h.out⟩
theorem W_nov (hd : o.dst = none) (hw : Region.wanted o (yielded ops A.tmps) = true) (hx : (execOp (EV A) o).run P w = .ok .skip w') (h : WX P ops Q l A w') : WX P ops Q (o :: l) A w :=
  ⟨WL_skip hw (ex_ev hx) (by rw [hd]; rfl) h.out⟩
theorem W_off (hd : o.dst = some d) (hw : Region.wanted o (yielded ops A.tmps) = false) (h : WX P ops Q l (PT A d undef) w) : WX P ops Q (o :: l) A w :=
  ⟨WL_un hw (by rw [hd]; rfl) h.out⟩
theorem W_offn (hd : o.dst = none) (hw : Region.wanted o (yielded ops A.tmps) = false) (h : WX P ops Q l A w) : WX P ops Q (o :: l) A w :=
  ⟨WL_un hw (by rw [hd]; rfl) h.out⟩

theorem args0 {A : Act}  : (#[] : Array Operand).map (EV A) = #[] := by subst_vars; simp
theorem parts0 {A : Act} : ((#[] : Array (Nat × Operand)).map fun (i, x) => (i, EV A x)).toList = [] := by simp
theorem args1 {A : Act} {x0 : Operand} {v0 : Value} (h0 : EV A x0 = v0) : (#[x0] : Array Operand).map (EV A) = #[v0] := by subst_vars; simp
theorem parts1 {A : Act} {i0 : Nat} {x0 : Operand} {v0 : Value} (h0 : EV A x0 = v0) : ((#[(i0, x0)] : Array (Nat × Operand)).map fun (i, x) => (i, EV A x)).toList = [(i0, v0)] := by subst_vars; simp
theorem args2 {A : Act} {x0 x1 : Operand} {v0 v1 : Value} (h0 : EV A x0 = v0) (h1 : EV A x1 = v1) : (#[x0, x1] : Array Operand).map (EV A) = #[v0, v1] := by subst_vars; simp
theorem parts2 {A : Act} {i0 i1 : Nat} {x0 x1 : Operand} {v0 v1 : Value} (h0 : EV A x0 = v0) (h1 : EV A x1 = v1) : ((#[(i0, x0), (i1, x1)] : Array (Nat × Operand)).map fun (i, x) => (i, EV A x)).toList = [(i0, v0), (i1, v1)] := by subst_vars; simp
theorem args3 {A : Act} {x0 x1 x2 : Operand} {v0 v1 v2 : Value} (h0 : EV A x0 = v0) (h1 : EV A x1 = v1) (h2 : EV A x2 = v2) : (#[x0, x1, x2] : Array Operand).map (EV A) = #[v0, v1, v2] := by subst_vars; simp
theorem parts3 {A : Act} {i0 i1 i2 : Nat} {x0 x1 x2 : Operand} {v0 v1 v2 : Value} (h0 : EV A x0 = v0) (h1 : EV A x1 = v1) (h2 : EV A x2 = v2) : ((#[(i0, x0), (i1, x1), (i2, x2)] : Array (Nat × Operand)).map fun (i, x) => (i, EV A x)).toList = [(i0, v0), (i1, v1), (i2, v2)] := by subst_vars; simp
theorem args4 {A : Act} {x0 x1 x2 x3 : Operand} {v0 v1 v2 v3 : Value} (h0 : EV A x0 = v0) (h1 : EV A x1 = v1) (h2 : EV A x2 = v2) (h3 : EV A x3 = v3) : (#[x0, x1, x2, x3] : Array Operand).map (EV A) = #[v0, v1, v2, v3] := by subst_vars; simp
theorem parts4 {A : Act} {i0 i1 i2 i3 : Nat} {x0 x1 x2 x3 : Operand} {v0 v1 v2 v3 : Value} (h0 : EV A x0 = v0) (h1 : EV A x1 = v1) (h2 : EV A x2 = v2) (h3 : EV A x3 = v3) : ((#[(i0, x0), (i1, x1), (i2, x2), (i3, x3)] : Array (Nat × Operand)).map fun (i, x) => (i, EV A x)).toList = [(i0, v0), (i1, v1), (i2, v2), (i3, v3)] := by subst_vars; simp
theorem args5 {A : Act} {x0 x1 x2 x3 x4 : Operand} {v0 v1 v2 v3 v4 : Value} (h0 : EV A x0 = v0) (h1 : EV A x1 = v1) (h2 : EV A x2 = v2) (h3 : EV A x3 = v3) (h4 : EV A x4 = v4) : (#[x0, x1, x2, x3, x4] : Array Operand).map (EV A) = #[v0, v1, v2, v3, v4] := by subst_vars; simp
theorem parts5 {A : Act} {i0 i1 i2 i3 i4 : Nat} {x0 x1 x2 x3 x4 : Operand} {v0 v1 v2 v3 v4 : Value} (h0 : EV A x0 = v0) (h1 : EV A x1 = v1) (h2 : EV A x2 = v2) (h3 : EV A x3 = v3) (h4 : EV A x4 = v4) : ((#[(i0, x0), (i1, x1), (i2, x2), (i3, x3), (i4, x4)] : Array (Nat × Operand)).map fun (i, x) => (i, EV A x)).toList = [(i0, v0), (i1, v1), (i2, v2), (i3, v3), (i4, v4)] := by subst_vars; simp
theorem args6 {A : Act} {x0 x1 x2 x3 x4 x5 : Operand} {v0 v1 v2 v3 v4 v5 : Value} (h0 : EV A x0 = v0) (h1 : EV A x1 = v1) (h2 : EV A x2 = v2) (h3 : EV A x3 = v3) (h4 : EV A x4 = v4) (h5 : EV A x5 = v5) : (#[x0, x1, x2, x3, x4, x5] : Array Operand).map (EV A) = #[v0, v1, v2, v3, v4, v5] := by subst_vars; simp
theorem parts6 {A : Act} {i0 i1 i2 i3 i4 i5 : Nat} {x0 x1 x2 x3 x4 x5 : Operand} {v0 v1 v2 v3 v4 v5 : Value} (h0 : EV A x0 = v0) (h1 : EV A x1 = v1) (h2 : EV A x2 = v2) (h3 : EV A x3 = v3) (h4 : EV A x4 = v4) (h5 : EV A x5 = v5) : ((#[(i0, x0), (i1, x1), (i2, x2), (i3, x3), (i4, x4), (i5, x5)] : Array (Nat × Operand)).map fun (i, x) => (i, EV A x)).toList = [(i0, v0), (i1, v1), (i2, v2), (i3, v3), (i4, v4), (i5, v5)] := by subst_vars; simp
theorem args7 {A : Act} {x0 x1 x2 x3 x4 x5 x6 : Operand} {v0 v1 v2 v3 v4 v5 v6 : Value} (h0 : EV A x0 = v0) (h1 : EV A x1 = v1) (h2 : EV A x2 = v2) (h3 : EV A x3 = v3) (h4 : EV A x4 = v4) (h5 : EV A x5 = v5) (h6 : EV A x6 = v6) : (#[x0, x1, x2, x3, x4, x5, x6] : Array Operand).map (EV A) = #[v0, v1, v2, v3, v4, v5, v6] := by subst_vars; simp
theorem parts7 {A : Act} {i0 i1 i2 i3 i4 i5 i6 : Nat} {x0 x1 x2 x3 x4 x5 x6 : Operand} {v0 v1 v2 v3 v4 v5 v6 : Value} (h0 : EV A x0 = v0) (h1 : EV A x1 = v1) (h2 : EV A x2 = v2) (h3 : EV A x3 = v3) (h4 : EV A x4 = v4) (h5 : EV A x5 = v5) (h6 : EV A x6 = v6) : ((#[(i0, x0), (i1, x1), (i2, x2), (i3, x3), (i4, x4), (i5, x5), (i6, x6)] : Array (Nat × Operand)).map fun (i, x) => (i, EV A x)).toList = [(i0, v0), (i1, v1), (i2, v2), (i3, v3), (i4, v4), (i5, v5), (i6, v6)] := by subst_vars; simp
theorem ev_step {A : Act} {d t : Tmp} {u v : Value} (h : EV A (.tmp t) = v) (hd : (d == t) = false) : EV (PT A d u) (.tmp t) = v := (ev_ne hd).trans h
theorem ev_top {A : Act} {d : Tmp} {u : Value} (h : d < A.tmps.size) : EV (PT A d u) (.tmp d) = u := ev_same h
/-- the frame's size, found by instances. -/
class SzN (A : Act) (N : outParam Nat) : Prop where
  out : A.tmps.size = N
instance szN_put {A : Act} {N d : Nat} {v : Value} [h : SzN A N] : SzN (PT A d v) N := ⟨by rw [sz_put]; exact h.out⟩
theorem es {A : Act} {d t : Tmp} {u v : Value} (hd : (d == t) = false) (h : EV A (.tmp t) = v) : EV (PT A d u) (.tmp t) = v := (ev_ne hd).trans h
theorem et {A : Act} {N d : Nat} {u : Value} [h : SzN A N] (ht : decide (d < N) = true) : EV (PT A d u) (.tmp d) = u := ev_same (by rw [h.out]; exact of_decide_eq_true ht)
theorem ez {A : Act} {N d : Nat} [h : SzN A N] (ht : decide (d < N) = true) : d < A.tmps.size := by rw [h.out]; exact of_decide_eq_true ht
theorem lt_put {A : Act} {d t : Tmp} {u : Value} (h : t < A.tmps.size) : t < (PT A d u).tmps.size := by rw [sz_put]; exact h
theorem lt_sz {A : Act} {N t : Nat} (h : A.tmps.size = N) (ht : decide (t < N) = true) : t < A.tmps.size := by rw [h]; exact of_decide_eq_true ht

/-- an operation that looks at no world: its value. -/
def Val (P : Program) (A : Act) (o : Oper) (v : Value) : Prop := ∀ w, (execOp (EV A) o).run P w = .ok (.value v) w
/-- .. that reads this one. -/
def ValW (P : Program) (A : Act) (o : Oper) (w : World) (v : Value) : Prop := (execOp (EV A) o).run P w = .ok (.value v) w

theorem W_v (hd : o.dst = some d) (hw : Region.wanted o (yielded ops A.tmps) = true) (hx : Val P A o v) (h : WX P ops Q l (PT A d v) w) : WX P ops Q (o :: l) A w := W_val hd hw (hx w) h
theorem W_r (hd : o.dst = some d) (hw : Region.wanted o (yielded ops A.tmps) = true) (hx : ValW P A o w v) (h : WX P ops Q l (PT A d v) w) : WX P ops Q (o :: l) A w := W_val hd hw hx h

theorem V_mov (ho : o.op = .move x) (hx : EV A x = v) : Val P A o v := fun w => by unfold execOp; rw [ho, ← hx]; rfl
theorem V_asg (ho : o.op = .assign x) (hx : EV A x = v) : Val P A o v := fun w => by unfold execOp; rw [ho, ← hx]; rfl
theorem V_eql {t t' : TypeId} (ho : o.op = .binOp .eql t x y t') (hx : EV A x = .int k a) (hy : EV A y = .int k b) : Val P A o (.bool (decide (a = b))) := fun w => by
  unfold execOp; simp [ho, hx, hy, eqGuard_at_int, binOp, Op.intCmp]; by_cases h : a = b <;> simp [h]
theorem V_neq {t t' : TypeId} (ho : o.op = .binOp .neq t x y t') (hx : EV A x = .int k a) (hy : EV A y = .int k b) : Val P A o (.bool (decide (a ≠ b))) := fun w => by
  unfold execOp; simp [ho, hx, hy, eqGuard_at_int, binOp, Op.intCmp]; by_cases h : a = b <;> simp [h]
theorem V_lss {t t' : TypeId} (ho : o.op = .binOp .lss t x y t') (hx : EV A x = .int k a) (hy : EV A y = .int k b) : Val P A o (.bool (decide (a < b))) := fun w => by
  unfold execOp; simp [ho, hx, hy, eqGuard, binOp, Op.intCmp]
theorem V_leq {t t' : TypeId} (ho : o.op = .binOp .leq t x y t') (hx : EV A x = .int k a) (hy : EV A y = .int k b) : Val P A o (.bool (decide (a ≤ b))) := fun w => by
  unfold execOp; simp [ho, hx, hy, eqGuard, binOp, Op.intCmp]
theorem V_gtr {t t' : TypeId} (ho : o.op = .binOp .gtr t x y t') (hx : EV A x = .int k a) (hy : EV A y = .int k b) : Val P A o (.bool (decide (b < a))) := fun w => by
  unfold execOp; simp [ho, hx, hy, eqGuard, binOp, Op.intCmp]
theorem V_geq {t t' : TypeId} (ho : o.op = .binOp .geq t x y t') (hx : EV A x = .int k a) (hy : EV A y = .int k b) : Val P A o (.bool (decide (b ≤ a))) := fun w => by
  unfold execOp; simp [ho, hx, hy, eqGuard, binOp, Op.intCmp]
theorem V_add {t t' : TypeId} (ho : o.op = .binOp .add t x y t') (hx : EV A x = .int .i64 a) (hy : EV A y = .int .i64 b) (h1 : -9223372036854775808 ≤ a + b) (h2 : a + b ≤ 9223372036854775807) : Val P A o (.int .i64 (a + b)) := fun w => by
  unfold execOp; simp [ho, hx, hy, eqGuard, binOp, Op.intArith, IntKind.wrap, IntKind.bits, IntKind.signed]; omega
theorem V_sb {t t' : TypeId} (ho : o.op = .binOp .sub t x y t') (hx : EV A x = .int .i64 a) (hy : EV A y = .int .i64 b) (h1 : -9223372036854775808 ≤ a - b) (h2 : a - b ≤ 9223372036854775807) : Val P A o (.int .i64 (a - b)) := fun w => by
  unfold execOp; simp [ho, hx, hy, eqGuard, binOp, Op.intArith, IntKind.wrap, IntKind.bits, IntKind.signed]; omega
theorem V_not {t : TypeId} {c : Bool} (ho : o.op = .unOp .not t x) (hx : EV A x = .bool c) : Val P A o (.bool !c) := fun w => by
  unfold execOp; simp [ho, hx, Op.unary]
theorem V_pickT {c : Operand} (ho : o.op = .pick c x y) (hc : EV A c = .bool true) (hx : EV A x = v) : Val P A o v := fun w => by
  unfold execOp; simp [ho, hc, hx, asBool]
theorem V_pickF {c : Operand} (ho : o.op = .pick c x y) (hc : EV A c = .bool false) (hx : EV A y = v) : Val P A o v := fun w => by
  unfold execOp; simp [ho, hc, hx, asBool]
theorem V_ext {i : Nat} {vs : Array Value} (ho : o.op = .extract x i) (hx : EV A x = .tuple vs) (hi : vs[i]? = some v) : Val P A o v := fun w => by
  unfold execOp; simp [ho, hx, Instr.extract, hi]
theorem V_len {t : TypeId} {at_ : Option Addr} {m cap : Nat} (ho : o.op = .call { callee := .builtin .len, args := #[x], argTypes := #[t] }) (hx : EV A x = v1) (hv : v1 = .slice at_ m cap) {e : TypeId} (ht : P.underlying t = some (.slice e)) : Val P A o (.int .i64 (m : Int)) := fun w => by
  unfold execOp; simp [ho, hx, hv, resolve, invoke, builtin, Builtin.len_, goInt, run_underlying ht]

/-- memory -/
structure Tch (g : Nat) (w w' : World) : Prop where
  os : w'.os = w.os
  tape : w'.tape = w.tape
  output : w'.output = w.output
  size : w'.heap.size = w.heap.size
  block : ∀ b, b ≠ g → w'.heap[b]? = w.heap[b]?

theorem Tch.set (w : World) (g off : Nat) (x : Value) : Tch g w (w.setCell ⟨g, off, none⟩ x) := ⟨rfl, rfl, rfl, by simp, fun _ h => heap_setCell h⟩
theorem Tch.tr {g : Nat} {a b c : World} (h : Tch g a b) (k : Tch g b c) : Tch g a c :=
  ⟨k.os.trans h.os, k.tape.trans h.tape, k.output.trans h.output, k.size.trans h.size, fun b hb => (k.block b hb).trans (h.block b hb)⟩
theorem ext_tch {w0 w w' : World} {g : Nat} (h : Ext w0 w) (t : Tch g w w') (hg : w0.heap.size ≤ g) : Ext w0 w' :=
  ⟨t.os.trans h.os, t.tape.trans h.tape, t.output.trans h.output, by rw [t.size]; exact h.size, fun b hb => (t.block b (by omega)).trans (h.block b hb)⟩
theorem box_tch {w w' : World} {g b : Nat} {ob : Obj} (h : w.heap[b]? = some ob) (t : Tch g w w') (hne : b ≠ g) : w'.heap[b]? = some ob := (t.block b hne).trans h
theorem lt_size {w : World} {b : Nat} {ob : Obj} (h : w.heap[b]? = some ob) : b < w.heap.size := (Array.getElem?_eq_some_iff.1 h).1
theorem FreI.tch {w w' : World} {B g : Nat} {E T : TypeId} {v : Value} {zs : List Int} {cs : Array Value} {fr : Nat × Nat} (h : FreI w B E v zs) (t : Tch g w w') (hb : w.heap[g]? = some (.cells cs T fr)) (hT : (T == E) = false) : FreI w' B E v zs := by
  have hne : ∀ b n cap, v = .slice (some b) n cap → b.block ≠ g := by
    intro b n cap hv e
    obtain ⟨_, c, hc⟩ := h.2 b n cap hv
    rw [e, hb] at hc
    cases hc
    simp at hT
  obtain ⟨h1, h2⟩ := h
  refine ⟨?_, fun b n cap hv => ?_⟩
  · obtain ⟨a, cap, rfl, g1, g2, g3, g4, g5⟩ := h1
    refine ⟨a, cap, rfl, g1, g2, g3, g4, fun b hb' => ⟨(g5 b hb').1, fun j y hj => ?_⟩⟩
    subst hb'
    have := (g5 b rfl).2 j y hj
    unfold World.cell? at this ⊢
    rw [t.block b.block (hne b _ _ rfl)]; exact this
  · obtain ⟨q1, c, q2⟩ := h2 b n cap hv
    exact ⟨q1, c, (t.block _ (hne b n cap hv)).trans q2⟩
theorem OwnI.tch {w w' : World} {B g : Nat} {E T : TypeId} {v : Value} {zs : List Int} {cs : Array Value} {fr : Nat × Nat} (h : OwnI w B E v zs) (t : Tch g w w') (hb : w.heap[g]? = some (.cells cs T fr)) (hT : (T == E) = false) : OwnI w' B E v zs := by
  obtain ⟨h1, h2⟩ := h
  refine ⟨h1, ?_⟩
  rcases h2 with h2 | ⟨g', cap, cur, hv, hg, hh, r⟩
  · exact .inl h2
  · refine .inr ⟨g', cap, cur, hv, hg, ?_, r⟩
    have hne : g' ≠ g := by
      intro e; subst e; rw [hb] at hh; cases hh; simp at hT
    rw [t.block _ hne]; exact hh

theorem W_box {T : TypeId} {cs : Array Value} (hd : o.dst = some d) (hw : Region.wanted o (yielded ops A.tmps) = true) (ho : o.op = .box T x) (hx : EV A x = v) (hc : v.cells = cs)
    (h : ∀ g w', g = w.heap.size → Ext w w' → w'.heap[g]? = some (.cells cs T (0, 0)) → WX P ops Q l (PT A d (.pointer (some ⟨g, 0, none⟩))) w') : WX P ops Q (o :: l) A w :=
  W_val (w' := w.alloc (.cells cs T)) hd hw (by unfold execOp; simp [ho, hx, Instr.box, newVar, newRow, hc]) (h _ _ rfl (Ext.alloc _ _) (heap_alloc_new _ _))
theorem W_alloc {T : TypeId} {z : Value} {cs : Array Value} (hd : o.dst = some d) (hw : Region.wanted o (yielded ops A.tmps) = true) (ho : o.op = .alloc T) (hz : (P.info? T).map (·.zero) = some (some z)) (hc : z.cells = cs)
    (h : ∀ g w', g = w.heap.size → Ext w w' → w'.heap[g]? = some (.cells cs T (0, 0)) → WX P ops Q l (PT A d (.pointer (some ⟨g, 0, none⟩))) w') : WX P ops Q (o :: l) A w := by
  refine W_val (w' := w.alloc (.cells cs T)) hd hw ?_ (h _ _ rfl (Ext.alloc _ _) (heap_alloc_new _ _))
  cases hi : P.info? T with
  | none => simp [hi] at hz
  | some i =>
    have hz' : i.zero = some z := by simpa [hi] using hz
    unfold execOp; simp [ho, Instr.alloc, zeroValue, typeInfo, hi, hz', newVar, newRow, hc]
theorem VR_ldA {T T' g : Nat} {cs : Array Value} {fr : Nat × Nat} {de : TypeDesc} (ho : o.op = .load T x) (hx : EV A x = .pointer (some ⟨g, 0, none⟩)) (hg : w.heap[g]? = some (.cells cs T' fr))
    (hu : P.underlying T = some de) (hd : (match de with | .struct _ | .array _ _ => true | _ => false) = true) (hi : (P.info? T).map (·.size) = some cs.size) : ValW P A o w (.agg cs) := by
  unfold ValW execOp
  simp only [ho, hx, Instr.loadAt, Instr.sureAddr, Sem.run_bind, Sem.run_pure, Result.andThen_ok, run_loadVar_row w g T' T cs fr de hg hu hd hi]
theorem VR_ldC {T : TypeId} {p : Addr} {de : TypeDesc} (ho : o.op = .load T x) (hx : EV A x = .pointer (some p)) (hc : w.cell? p = some v)
    (hu : P.underlying T = some de) (hd : (match de with | .struct _ | .array _ _ => true | _ => false) = false) : ValW P A o w v := by
  have hagg : (isAgg T).run P w = .ok false w := by
    unfold isAgg
    rw [Sem.run_bind, run_underlying hu w]
    cases de <;> simp_all
  unfold ValW execOp
  simp [ho, hx, Instr.loadAt, Instr.sureAddr, loadVar, hagg, hc]
theorem cell_box {g off : Nat} {T : TypeId} {cs : Array Value} {fr : Nat × Nat} (hg : w.heap[g]? = some (.cells cs T fr)) (hc : cs[off]? = some v) : w.cell? ⟨g, off, none⟩ = some v := (cell_of_row w g off cs T fr hg).trans hc
theorem V_fa {T f g off off' : Nat} {fs : Array Field} {fd : Field} (ho : o.op = .fieldAddr T x f) (hx : EV A x = .pointer (some ⟨g, off, none⟩)) (hu : P.underlying T = some (.struct fs)) (hf : fs[f]? = some fd)
    (hi : ((P.info? fd.type).map (·.size)).getD 0 ≠ 0) (hoff : off + fd.offset = off') : Val P A o (.pointer (some ⟨g, off', none⟩)) := fun w => by
  cases hq : P.info? fd.type with
  | none => simp [hq] at hi
  | some i =>
    have hs : i.size ≠ 0 := by simpa [hq] using hi
    subst hoff
    unfold execOp
    simp [ho, hx, Instr.fieldAt, Instr.sureAddr, run_underlying hu, hf, fieldPlace, sizeOf, typeInfo, hq, hs, Addr.add]
theorem V_bld {T : Nat} {parts : Array (Nat × Operand)} {vs : List (Nat × Value)} {cs : Array Value} (ho : o.op = .build T parts) (hp : (parts.map fun (i, x) => (i, EV A x)).toList = vs) (hf : P.built T vs = some cs) : Val P A o (.agg cs) := fun w => by
  have := run_build (P := P) w T (parts.map fun (i, x) => (i, EV A x)) cs (by rw [hp]; exact hf)
  unfold execOp
  simp only [ho, Sem.run_bind, this, Result.andThen_ok, Sem.run_pure]
theorem W_stC {T g off T' : Nat} {cs cs' : Array Value} (hd : o.dst = none) (hw : Region.wanted o (yielded ops A.tmps) = true) (ho : o.op = .store T x y) (hx : EV A x = .pointer (some ⟨g, off, none⟩)) (hy : EV A y = v) (h1 : v.oneCell' = true)
    (hg : w.heap[g]? = some (.cells cs T' (0, 0))) (hlt : (decide (off < cs.size)) = true) (hi : (P.info? T).map (·.size) = some 1) (hcs : cs.setIfInBounds off v = cs')
    (h : ∀ w', Tch g w w' → w'.heap[g]? = some (.cells cs' T' (0, 0)) → WX P ops Q l A w') : WX P ops Q (o :: l) A w := by
  have hlt : off < cs.size := by simpa using hlt
  refine W_nov (w' := w.setCell ⟨g, off, none⟩ v) hd hw ?_ (h _ (Tch.set _ _ _ _) ?_)
  · cases hq : P.info? T with
    | none => simp [hq] at hi
    | some i =>
      have hs : i.size = 1 := by simpa [hq] using hi
      have hcl : v.cells = #[v] := by cases v <;> simp_all [Value.cells, Value.oneCell']
      have hcell : w.cell? ⟨g, off, none⟩ = some cs[off] := by rw [cell_of_row w g off cs T' (0, 0) hg]; simp [hlt]
      have hfr : w.frozen? ⟨g, off, none⟩ = false := blk_frozen ⟨_, hg⟩ off
      unfold execOp
      simp [ho, hx, hy, Instr.storeAt, Instr.sureAddr, storeVar, sizeOf, typeInfo, hq, hs, hcl, storeCells, Addr.add, run_store P w ⟨g, off, none⟩ v .plain h1, hcell, hfr]
  · subst hcs
    simp [World.setCell, Array.getElem?_modify, hg]
theorem Tch.row {g : Nat} {T : TypeId} {old cells : Array Value} {w : World} (hg : w.heap[g]? = some (.cells old T (0, 0))) : Tch g w (w.setRow g cells) ∧ (w.setRow g cells).heap[g]? = some (.cells cells T (0, 0)) := by
  unfold World.setRow
  refine ⟨⟨rfl, rfl, rfl, by simp, fun b hb => by simp [Array.getElem?_modify, Ne.symm hb]⟩, ?_⟩
  simp [Array.getElem?_modify, hg]
theorem W_stA {T g T' : Nat} {cs old : Array Value} (hd : o.dst = none) (hw : Region.wanted o (yielded ops A.tmps) = true) (ho : o.op = .store T x y) (hx : EV A x = .pointer (some ⟨g, 0, none⟩)) (hy : EV A y = .agg cs) (h1 : cs.all (·.oneCell') = true)
    (hg : w.heap[g]? = some (.cells old T' (0, 0))) (hs : old.size = cs.size) (hi : (P.info? T).map (·.size) = some cs.size)
    (h : ∀ w', Tch g w w' → w'.heap[g]? = some (.cells cs T' (0, 0)) → WX P ops Q l A w') : WX P ops Q (o :: l) A w := by
  refine W_nov (w' := w.setRow g cs) hd hw ?_ (h _ (Tch.row hg).1 (Tch.row hg).2)
  unfold execOp
  simp only [ho, hx, hy, Instr.storeAt, Instr.sureAddr, Sem.run_bind, Sem.run_pure, Result.andThen_ok, run_storeVar_row w g T' T old cs hg hi hs h1]
theorem W_call {f : FuncId} {fn : Func} {xs : Array Operand} {ats : Array TypeId} {args : Array Value} {R : Ending → World → Prop} (hd : o.dst = some d) (hw : Region.wanted o (yielded ops A.tmps) = true)
    (ho : o.op = .call { callee := .value (.func f), args := xs, argTypes := ats }) (hf : P.funcs[f]? = some fn)
    (hn : (fn.name == "runtime.NumGoroutine") = false) (hb : fn.body.isNone = false) (ha : xs.map (EV A) = args)
    (hx : Calls P f args w R) (hR : ∀ e w', R e w' → ∃ v, e = .returned v ∧ WX P ops Q l (PT A d v) w') : WX P ops Q (o :: l) A w :=
  ⟨WL_call ho hf hn hb ha hw hx (fun e w' he => by obtain ⟨v, h1, h2⟩ := hR e w' he; exact ⟨v, h1, by rw [hd]; exact h2.out⟩)⟩
theorem W_split {p : Prop} [Decidable p] (hd : o.dst = some d) (hw : Region.wanted o (yielded ops A.tmps) = true) (hx : Val P A o (.bool (decide p))) (ht : p → WX P ops Q l (PT A d (.bool true)) w) (hf : ¬ p → WX P ops Q l (PT A d (.bool false)) w) : WX P ops Q (o :: l) A w := by
  refine W_v hd hw hx ?_
  by_cases h : p
  · rw [decide_eq_true h]; exact ht h
  · rw [decide_eq_false h]; exact hf h
theorem W_splitB {c : Bool} (hd : o.dst = some d) (hw : Region.wanted o (yielded ops A.tmps) = true) (hx : Val P A o (.bool c)) (ht : c = true → WX P ops Q l (PT A d (.bool true)) w) (hf : c = false → WX P ops Q l (PT A d (.bool false)) w) : WX P ops Q (o :: l) A w := by
  refine W_v hd hw hx ?_
  cases c
  · exact hf rfl
  · exact ht rfl
theorem W_sure {c c' : Bool} (hd : o.dst = some d) (hw : Region.wanted o (yielded ops A.tmps) = true) (hx : Val P A o (.bool c)) (hc : c = c') (ht : WX P ops Q l (PT A d (.bool c')) w) : WX P ops Q (o :: l) A w := by
  subst hc; exact W_v hd hw hx ht
end
section
variable {P : Program} {A : Act} {Q : Exit → Act → World → Prop} {w : World} {x y : Code} {c : Operand} {e : Exit}
theorem cond_dec {p : Prop} [Decidable p] (hc : EV A c = .bool (decide p)) (ht : p → x.wp P Q A w) (hf : ¬ p → y.wp P Q A w) : (Code.cond c x y).wp P Q A w := by
  refine wp_cond_split hc (fun h => ht (by simpa using h)) (fun h => hf (by simpa using h))
theorem cond_b {b : Bool} (hc : EV A c = .bool b) (ht : b = true → x.wp P Q A w) (hf : b = false → y.wp P Q A w) : (Code.cond c x y).wp P Q A w := wp_cond_split hc ht hf
theorem cond_t (hc : EV A c = .bool true) (ht : x.wp P Q A w) : (Code.cond c x y).wp P Q A w := wp_cond hc ht
theorem cond_f (hc : EV A c = .bool false) (hf : y.wp P Q A w) : (Code.cond c x y).wp P Q A w := wp_cond hc hf
theorem cond_sure {b : Bool} (hc : EV A c = .bool b) (hb : b = true) (ht : x.wp P Q A w) : (Code.cond c x y).wp P Q A w := wp_cond (t := true) (hc.trans (by rw [hb])) ht
theorem cond_not {b : Bool} (hc : EV A c = .bool b) (hb : b = false) (hf : y.wp P Q A w) : (Code.cond c x y).wp P Q A w := wp_cond (t := false) (hc.trans (by rw [hb])) hf
theorem gen_Q {a : Act} (h : ∀ A, A = a → Q e A w) : Q e a w := h a rfl
theorem lookE {A a : Act} (hA : A = a) (t : Tmp) {v : Value} (h : EV a (.tmp t) = v) : EV A (.tmp t) = v := by rw [hA]; exact h
theorem df_put (A : Act) (d : Tmp) (v : Value) : (PT A d v).defers = A.defers := rfl
theorem then_n {K : Act → World → Prop} (h : K A w) : Exit.then K Q .normal A w := h
theorem then_ret {K : Act → World → Prop} (h : Q .ret A w) : Exit.then K Q .ret A w := h
theorem then_exit {K : Act → World → Prop} {id : Nat} (h : Q (.exit id) A w) : Exit.then K Q (.exit id) A w := h
theorem inb_n {id : Nat} (h : Q .normal A w) : Exit.inBlock id Q .normal A w := h
theorem inb_ret {id : Nat} (h : Q .ret A w) : Exit.inBlock id Q .ret A w := h
theorem inb_hit {id : Nat} (h : Q .normal A w) : Exit.inBlock id Q (.exit id) A w := by simp only [Exit.inBlock, if_true]; exact h
theorem inb_miss {id i : Nat} (hne : (i == id) = false) (h : Q (.exit i) A w) : Exit.inBlock id Q (.exit i) A w := by
  have : i ≠ id := by simpa using hne
  simp only [Exit.inBlock, this, if_false]; exact h
theorem ret_in {fn : Func} {R : Ending → World → Prop} {v : Value} (hr : (results fn A.tmps).run P w = .ok v w) (hd : A.defers = []) (h : R (.returned v) w) : bodyPost P fn R .ret A w := ⟨hd, v, hr, h⟩
end

section
variable {P : Program} {A : Act} {w : World} {fn : Func} {r0 r1 r2 r3 r4 : ResultVar} {v0 v1 v2 v3 v4 : Value}
def RVal (P : Program) (A : Act) (w : World) : ResultVar → Value → Prop
  | .tmp t, v => A.tmps[t]?.getD undef = v
  | .cell a T, v => ∃ p, A.tmps[a]?.getD undef = .pointer (some p) ∧ (loadVar T p).run P w = .ok v w
theorem ev_tmps {t : Tmp} {v : Value} (h : EV A (.tmp t) = v) : A.tmps[t]?.getD undef = v := by unfold EV Act.eval at h; simpa using h
theorem rv_tmp {t : Tmp} (h : EV A (.tmp t) = v0) : RVal P A w (.tmp t) v0 := ev_tmps h
theorem rv_cellA {a T T' g : Nat} {cs : Array Value} {fr : Nat × Nat} {de : TypeDesc} (hx : EV A (.tmp a) = .pointer (some ⟨g, 0, none⟩)) (hg : w.heap[g]? = some (.cells cs T' fr))
    (hu : P.underlying T = some de) (hd : (match de with | .struct _ | .array _ _ => true | _ => false) = true) (hi : (P.info? T).map (·.size) = some cs.size) : RVal P A w (.cell a T) (.agg cs) :=
  ⟨_, ev_tmps hx, run_loadVar_row w g T' T cs fr de hg hu hd hi⟩
theorem rv_cellC {a T : Nat} {p : Addr} {de : TypeDesc} (hx : EV A (.tmp a) = .pointer (some p)) (hc : w.cell? p = some v0)
    (hu : P.underlying T = some de) (hd : (match de with | .struct _ | .array _ _ => true | _ => false) = false) : RVal P A w (.cell a T) v0 := by
  have hagg : (isAgg T).run P w = .ok false w := by
    unfold isAgg
    rw [Sem.run_bind, run_underlying hu w]
    cases de <;> simp_all
  exact ⟨p, ev_tmps hx, by simp [loadVar, hagg, hc]⟩
theorem results_0 (hr : fn.results = #[]) : (results fn A.tmps).run P w = .ok (.tuple #[]) w := by
  unfold results; simp [hr]
theorem results_1 (hr : fn.results = #[r0]) (h0 : RVal P A w r0 v0) : (results fn A.tmps).run P w = .ok v0 w := by
  unfold results; simp only [hr, Array.mapM_eq_foldlM]
  cases r0 with
  | tmp t0 =>
    simp_all [RVal, Sem.run_bind, asAddr]
  | cell a0 T0 =>
    obtain ⟨p0, q0, h0⟩ := h0
    simp_all [RVal, Sem.run_bind, asAddr]
theorem results_2 (hr : fn.results = #[r0, r1]) (h0 : RVal P A w r0 v0) (h1 : RVal P A w r1 v1) : (results fn A.tmps).run P w = .ok (.tuple #[v0, v1]) w := by
  unfold results; simp only [hr, Array.mapM_eq_foldlM]
  cases r0 with
  | tmp t0 =>
    cases r1 with
    | tmp t1 =>
      simp_all [RVal, Sem.run_bind, asAddr]
    | cell a1 T1 =>
      obtain ⟨p1, q1, h1⟩ := h1
      simp_all [RVal, Sem.run_bind, asAddr]
  | cell a0 T0 =>
    obtain ⟨p0, q0, h0⟩ := h0
    cases r1 with
    | tmp t1 =>
      simp_all [RVal, Sem.run_bind, asAddr]
    | cell a1 T1 =>
      obtain ⟨p1, q1, h1⟩ := h1
      simp_all [RVal, Sem.run_bind, asAddr]
theorem results_3 (hr : fn.results = #[r0, r1, r2]) (h0 : RVal P A w r0 v0) (h1 : RVal P A w r1 v1) (h2 : RVal P A w r2 v2) : (results fn A.tmps).run P w = .ok (.tuple #[v0, v1, v2]) w := by
  unfold results; simp only [hr, Array.mapM_eq_foldlM]
  cases r0 with
  | tmp t0 =>
    cases r1 with
    | tmp t1 =>
      cases r2 with
      | tmp t2 =>
        simp_all [RVal, Sem.run_bind, asAddr]
      | cell a2 T2 =>
        obtain ⟨p2, q2, h2⟩ := h2
        simp_all [RVal, Sem.run_bind, asAddr]
    | cell a1 T1 =>
      obtain ⟨p1, q1, h1⟩ := h1
      cases r2 with
      | tmp t2 =>
        simp_all [RVal, Sem.run_bind, asAddr]
      | cell a2 T2 =>
        obtain ⟨p2, q2, h2⟩ := h2
        simp_all [RVal, Sem.run_bind, asAddr]
  | cell a0 T0 =>
    obtain ⟨p0, q0, h0⟩ := h0
    cases r1 with
    | tmp t1 =>
      cases r2 with
      | tmp t2 =>
        simp_all [RVal, Sem.run_bind, asAddr]
      | cell a2 T2 =>
        obtain ⟨p2, q2, h2⟩ := h2
        simp_all [RVal, Sem.run_bind, asAddr]
    | cell a1 T1 =>
      obtain ⟨p1, q1, h1⟩ := h1
      cases r2 with
      | tmp t2 =>
        simp_all [RVal, Sem.run_bind, asAddr]
      | cell a2 T2 =>
        obtain ⟨p2, q2, h2⟩ := h2
        simp_all [RVal, Sem.run_bind, asAddr]
theorem results_4 (hr : fn.results = #[r0, r1, r2, r3]) (h0 : RVal P A w r0 v0) (h1 : RVal P A w r1 v1) (h2 : RVal P A w r2 v2) (h3 : RVal P A w r3 v3) : (results fn A.tmps).run P w = .ok (.tuple #[v0, v1, v2, v3]) w := by
  unfold results; simp only [hr, Array.mapM_eq_foldlM]
  cases r0 with
  | tmp t0 =>
    cases r1 with
    | tmp t1 =>
      cases r2 with
      | tmp t2 =>
        cases r3 with
        | tmp t3 =>
          simp_all [RVal, Sem.run_bind, asAddr]
        | cell a3 T3 =>
          obtain ⟨p3, q3, h3⟩ := h3
          simp_all [RVal, Sem.run_bind, asAddr]
      | cell a2 T2 =>
        obtain ⟨p2, q2, h2⟩ := h2
        cases r3 with
        | tmp t3 =>
          simp_all [RVal, Sem.run_bind, asAddr]
        | cell a3 T3 =>
          obtain ⟨p3, q3, h3⟩ := h3
          simp_all [RVal, Sem.run_bind, asAddr]
    | cell a1 T1 =>
      obtain ⟨p1, q1, h1⟩ := h1
      cases r2 with
      | tmp t2 =>
        cases r3 with
        | tmp t3 =>
          simp_all [RVal, Sem.run_bind, asAddr]
        | cell a3 T3 =>
          obtain ⟨p3, q3, h3⟩ := h3
          simp_all [RVal, Sem.run_bind, asAddr]
      | cell a2 T2 =>
        obtain ⟨p2, q2, h2⟩ := h2
        cases r3 with
        | tmp t3 =>
          simp_all [RVal, Sem.run_bind, asAddr]
        | cell a3 T3 =>
          obtain ⟨p3, q3, h3⟩ := h3
          simp_all [RVal, Sem.run_bind, asAddr]
  | cell a0 T0 =>
    obtain ⟨p0, q0, h0⟩ := h0
    cases r1 with
    | tmp t1 =>
      cases r2 with
      | tmp t2 =>
        cases r3 with
        | tmp t3 =>
          simp_all [RVal, Sem.run_bind, asAddr]
        | cell a3 T3 =>
          obtain ⟨p3, q3, h3⟩ := h3
          simp_all [RVal, Sem.run_bind, asAddr]
      | cell a2 T2 =>
        obtain ⟨p2, q2, h2⟩ := h2
        cases r3 with
        | tmp t3 =>
          simp_all [RVal, Sem.run_bind, asAddr]
        | cell a3 T3 =>
          obtain ⟨p3, q3, h3⟩ := h3
          simp_all [RVal, Sem.run_bind, asAddr]
    | cell a1 T1 =>
      obtain ⟨p1, q1, h1⟩ := h1
      cases r2 with
      | tmp t2 =>
        cases r3 with
        | tmp t3 =>
          simp_all [RVal, Sem.run_bind, asAddr]
        | cell a3 T3 =>
          obtain ⟨p3, q3, h3⟩ := h3
          simp_all [RVal, Sem.run_bind, asAddr]
      | cell a2 T2 =>
        obtain ⟨p2, q2, h2⟩ := h2
        cases r3 with
        | tmp t3 =>
          simp_all [RVal, Sem.run_bind, asAddr]
        | cell a3 T3 =>
          obtain ⟨p3, q3, h3⟩ := h3
          simp_all [RVal, Sem.run_bind, asAddr]
theorem V_nil {o : Oper} {x : Operand} {p : Addr} (ho : o.op = .nilCheck x) (hx : EV A x = .pointer (some p)) : Val P A o (.pointer (some p)) := fun w => by
  unfold execOp; simp [ho, hx]
theorem V_lenI {o : Oper} {x : Operand} {v : Value} {t e : TypeId} {w0 : World} {zs : List Int} (ho : o.op = .call { callee := .builtin .len, args := #[x], argTypes := #[t] }) (hx : EV A x = v) (h : Ints w0 v zs) (ht : P.underlying t = some (.slice e)) : Val P A o (.int .i64 (zs.length : Int)) := by
  obtain ⟨a, c, hv⟩ := h.form
  exact V_len ho hx hv ht
theorem V_notd {o : Oper} {x : Operand} {t : TypeId} {p : Prop} [Decidable p] (ho : o.op = .unOp .not t x) (hx : EV A x = .bool (decide p)) : Val P A o (.bool (decide (¬ p))) := fun w => by
  rw [V_not ho hx w]; simp
theorem V_notT {o : Oper} {x : Operand} {t : TypeId} (ho : o.op = .unOp .not t x) (hx : EV A x = .bool true) : Val P A o (.bool false) := V_not ho hx
theorem V_notF {o : Oper} {x : Operand} {t : TypeId} (ho : o.op = .unOp .not t x) (hx : EV A x = .bool false) : Val P A o (.bool true) := V_not ho hx
theorem one_ints {w0 : World} {v : Value} {zs : List Int} (h : Ints w0 v zs) : v.oneCell' = true := by
  obtain ⟨a, c, rfl⟩ := h.form; rfl
theorem V_fld {o : Oper} {x : Operand} {T f : Nat} {fs : Array Field} {fd : Field} {cs : Array Value} {v : Value} {de : TypeDesc} (ho : o.op = .field T x f) (hx : EV A x = .agg cs) (hu : P.underlying T = some (.struct fs)) (hf : fs[f]? = some fd)
    (hd : P.underlying fd.type = some de) (ha : (match de with | .struct _ | .array _ _ => true | _ => false) = false) (hv : cs[fd.offset]? = some v) : Val P A o v := fun w => by
  have hagg : (isAgg fd.type).run P w = .ok false w := by
    unfold isAgg
    rw [Sem.run_bind, run_underlying hd w]
    cases de <;> simp_all
  unfold execOp
  simp [ho, hx, Instr.field, run_underlying hu, hf, asAgg, part, hagg, hv]
end

theorem range0 : Array.range 0 = #[] := by apply Array.ext'; simp

/-! regions that draw their order -/
section
variable {P : Program} {ops : Array Oper} {w0 : World} {Φ : Nat → Option SP} {e : Nat} {Z : Act → (Nat → World → Prop) → Prop} {l : List Oper} {o : Oper} {i : Nat} {A : Act} {F : Nat → World → Prop} {d : Tmp} {v : Value} {x y : Operand}
structure CK (P : Program) (ops : Array Oper) (w0 : World) (Φ : Nat → Option SP) (e : Nat) (Z : Act → (Nat → World → Prop) → Prop) (l : List Oper) (i : Nat) (A : Act) (F : Nat → World → Prop) : Prop where
  out : Chk P ops (fun w' => Ext w0 w') Φ e Z l i A F
theorem C_eff (he : i = e) (h : CK P ops w0 Φ e Z l (i + 1) A F) : CK P ops w0 Φ e Z (o :: l) i A F := ⟨Chk_eff he h.out⟩
theorem C_end (h : Z A F) : CK P ops w0 Φ e Z [] i A F := ⟨h⟩
theorem region_mono {id : Nat} {Q : Exit → Act → World → Prop} {w : World} {l : List Oper} (e k : Nat) (Φ : List (Option SP)) (hm : P.follows .mixedOrders = true) (hB : monoB l.toArray e k Φ = true)
    (h : CK P l.toArray w (fun i => (Φ[i]?).getD none) e (Zed P l.toArray (fun w' => Ext w w') e k Q) (l.take k) 0 A (fun _ _ => True)) : (Code.region id l.toArray true).wp P Q A w := wp_region_mono e k Φ hm hB h.out
theorem Z_eff {k : Nat} {Q : Exit → Act → World → Prop} {l : List Oper} (he : ops[e]? = some o) (hk : ops.toList.drop k = l) (h : ∀ w, Ext w0 w → (∀ k, F k w) → WX P ops (Qo Q) (o :: l) A w) : CK P ops w0 Φ e (Zed P ops (fun w' => Ext w0 w') e k Q) [] i A F :=
  ⟨Zed_eff he hk (fun w h1 h2 => (h w h1 h2).out)⟩
theorem Z_none {k : Nat} {Q : Exit → Act → World → Prop} (he : ops.size ≤ e) (hk : ops.size ≤ k) (h : ∀ w, Ext w0 w → (∀ k, F k w) → Q .normal A w) : CK P ops w0 Φ e (Zed P ops (fun w' => Ext w0 w') e k Q) [] i A F :=
  ⟨Zed_none he hk h⟩
theorem C_v (hd : o.dst = some d) (hw : Region.wanted o (yielded ops A.tmps) = true) (hx : Val P A o v) (he : (i == e) = false) (hΦ : Φ i = none) (h : CK P ops w0 Φ e Z l (i + 1) (PT A d v) F) : CK P ops w0 Φ e Z (o :: l) i A F :=
  ⟨Chk_pure he hw hΦ (fun w _ => ex_ev (hx w)) (by rw [hd]; rfl) h.out⟩
theorem C_r (hd : o.dst = some d) (hw : Region.wanted o (yielded ops A.tmps) = true) (hE : early ops e i = true) (hx : ∀ w, Ext w0 w → ancF ops i F w → ValW P A o w v) (he : (i == e) = false) (hΦ : Φ i = none)
    (h : CK P ops w0 Φ e Z l (i + 1) (PT A d v) F) : CK P ops w0 Φ e Z (o :: l) i A F :=
  ⟨Chk_pure he hw hΦ (fun w hh => ex_ev (hx w (hh hE).1 (hh hE).2)) (by rw [hd]; rfl) h.out⟩
theorem C_off (hd : o.dst = some d) (hw : Region.wanted o (yielded ops A.tmps) = false) (he : (i == e) = false) (h : CK P ops w0 Φ e Z l (i + 1) (PT A d undef) F) : CK P ops w0 Φ e Z (o :: l) i A F :=
  ⟨Chk_skip he hw (by rw [hd]; rfl) h.out⟩
theorem C_split {p : Prop} [Decidable p] (hd : o.dst = some d) (hw : Region.wanted o (yielded ops A.tmps) = true) (hx : Val P A o (.bool (decide p))) (he : (i == e) = false) (hΦ : Φ i = none)
    (ht : p → CK P ops w0 Φ e Z l (i + 1) (PT A d (.bool true)) F) (hf : ¬ p → CK P ops w0 Φ e Z l (i + 1) (PT A d (.bool false)) F) : CK P ops w0 Φ e Z (o :: l) i A F := by
  refine C_v hd hw hx he hΦ ?_
  by_cases h : p
  · rw [decide_eq_true h]; exact ht h
  · rw [decide_eq_false h]; exact hf h
theorem C_splitB {c : Bool} (hd : o.dst = some d) (hw : Region.wanted o (yielded ops A.tmps) = true) (hx : Val P A o (.bool c)) (he : (i == e) = false) (hΦ : Φ i = none)
    (ht : c = true → CK P ops w0 Φ e Z l (i + 1) (PT A d (.bool true)) F) (hf : c = false → CK P ops w0 Φ e Z l (i + 1) (PT A d (.bool false)) F) : CK P ops w0 Φ e Z (o :: l) i A F := by
  refine C_v hd hw hx he hΦ ?_
  cases c
  · exact hf rfl
  · exact ht rfl
theorem C_sure {c c' : Bool} (hd : o.dst = some d) (hw : Region.wanted o (yielded ops A.tmps) = true) (hx : Val P A o (.bool c)) (hc : c = c') (he : (i == e) = false) (hΦ : Φ i = none)
    (h : CK P ops w0 Φ e Z l (i + 1) (PT A d (.bool c')) F) : CK P ops w0 Φ e Z (o :: l) i A F := by
  subst hc; exact C_v hd hw hx he hΦ h
theorem C_call {φ : SP} {f : FuncId} {fn : Func} {xs : Array Operand} {ats : Array TypeId} {args : Array Value} (hd : o.dst = some d) (hw : Region.wanted o (yielded ops A.tmps) = true)
    (ho : o.op = .call { callee := .value (.func f), args := xs, argTypes := ats }) (hf : P.funcs[f]? = some fn)
    (hn : (fn.name == "runtime.NumGoroutine") = false) (hb : fn.body.isNone = false) (ha : xs.map (EV A) = args) (he : (i == e) = false) (hΦ : Φ i = some φ)
    (hx : ∀ w, Ext w0 w → ancF ops i F w → Calls P f args w fun e w' => ∃ v, e = .returned v ∧ Ext w w' ∧ φ.p w' v)
    (h : ∀ u, (∃ w, Ext w0 w ∧ φ.p w u) → CK P ops w0 Φ e Z l (i + 1) (PT A d u) (upd F i fun w => φ.p w u)) : CK P ops w0 Φ e Z (o :: l) i A F :=
  ⟨Chk_call he hw hΦ (run_call ho hf hn hb ha) hx fun u a' hu hp => by rw [hd] at hp; subst hp; exact (h u hu).out⟩
def SP.blk (w0 : World) (T : TypeId) (cs : Array Value) : SP := ⟨fun w v => ∃ g, v = .pointer (some ⟨g, 0, none⟩) ∧ w0.heap.size ≤ g ∧ w.heap[g]? = some (.cells cs T (0, 0)),
  fun _ _ _ he ⟨g, h1, h2, h3⟩ => ⟨g, h1, h2, heap_ext he h3⟩⟩
def SP.any : SP := ⟨fun _ _ => True, fun _ _ _ _ _ => trivial⟩
theorem C_alloc {T : TypeId} {z : Value} {cs : Array Value} (hd : o.dst = some d) (hw : Region.wanted o (yielded ops A.tmps) = true) (ho : o.op = .alloc T) (hz : (P.info? T).map (·.zero) = some (some z)) (hc : z.cells = cs) (he : (i == e) = false) (hΦ : Φ i = some (.blk w0 T cs))
    (h : ∀ g, w0.heap.size ≤ g → CK P ops w0 Φ e Z l (i + 1) (PT A d (.pointer (some ⟨g, 0, none⟩))) (upd F i fun w => (SP.blk w0 T cs).p w (.pointer (some ⟨g, 0, none⟩)))) : CK P ops w0 Φ e Z (o :: l) i A F := by
  refine ⟨Chk_val he hw hΦ (fun w hE _ => ⟨_, w.alloc (.cells cs T), ex_ev ?_, Ext.alloc _ _, w.heap.size, rfl, hE.size, heap_alloc_new _ _⟩) (fun u a' hu hp => ?_)⟩
  · cases hi : P.info? T with
    | none => simp [hi] at hz
    | some i =>
      have hz' : i.zero = some z := by simpa [hi] using hz
      unfold execOp; simp [ho, Instr.alloc, zeroValue, typeInfo, hi, hz', newVar, newRow, hc]
  · obtain ⟨w, hE, g, rfl, h1, h2⟩ := hu
    rw [hd] at hp; subst hp; exact (h g h1).out
theorem C_box {T : TypeId} {cs : Array Value} (hd : o.dst = some d) (hw : Region.wanted o (yielded ops A.tmps) = true) (ho : o.op = .box T x) (hx : EV A x = v) (hc : v.cells = cs) (he : (i == e) = false) (hΦ : Φ i = some (.blk w0 T cs))
    (h : ∀ g, w0.heap.size ≤ g → CK P ops w0 Φ e Z l (i + 1) (PT A d (.pointer (some ⟨g, 0, none⟩))) (upd F i fun w => (SP.blk w0 T cs).p w (.pointer (some ⟨g, 0, none⟩)))) : CK P ops w0 Φ e Z (o :: l) i A F := by
  refine ⟨Chk_val he hw hΦ (fun w hE _ => ⟨_, w.alloc (.cells cs T), ex_ev ?_, Ext.alloc _ _, w.heap.size, rfl, hE.size, heap_alloc_new _ _⟩) (fun u a' hu hp => ?_)⟩
  · unfold execOp; simp [ho, hx, Instr.box, newVar, newRow, hc]
  · obtain ⟨w, hE, g, rfl, h1, h2⟩ := hu
    rw [hd] at hp; subst hp; exact (h g h1).out
theorem C_emp {el t : TypeId} (hd : o.dst = some d) (hw : Region.wanted o (yielded ops A.tmps) = true) (ho : o.op = .buildSlice t 0 #[]) (ht : P.underlying t = some (.slice el)) (hi : (P.info? el).isSome = true) (he : (i == e) = false) (hΦ : Φ i = some (.emp w0 el))
    (h : ∀ g, CK P ops w0 Φ e Z l (i + 1) (PT A d (.slice (some ⟨g, 0, none⟩) 0 0)) (upd F i fun w => (SP.emp w0 el).p w (.slice (some ⟨g, 0, none⟩) 0 0))) : CK P ops w0 Φ e Z (o :: l) i A F := by
  refine ⟨Chk_val he hw hΦ (fun w hE _ => ⟨_, w.alloc (.cells #[] el), ex_ev ?_, Ext.alloc _ _, w.heap.size, rfl, hE.size, heap_alloc_new _ _⟩) (fun u a' hu hp => ?_)⟩
  · obtain ⟨inf, hinf⟩ := Option.isSome_iff_exists.1 hi
    unfold execOp; simp [ho, Instr.buildSlice, run_underlying ht, sizeOf, typeInfo, hinf, Instr.fill, newRow, range0]
  · obtain ⟨w, hE, g, rfl, h1, h2⟩ := hu
    rw [hd] at hp; subst hp; exact (h g).out
theorem C_appE {el t t2 e2 : TypeId} {s x : Operand} {zs : List Int} {g : Nat} {y : Value} (hd : o.dst = some d) (hw : Region.wanted o (yielded ops A.tmps) = true)
    (ho : o.op = .call { callee := .builtin .append, args := #[s, x], argTypes := #[t, t2] })
    (hs : EV A s = .slice (some ⟨g, 0, none⟩) 0 0) (hy : EV A x = y)
    (ht : P.underlying t = some (.slice el)) (ht2 : P.underlying t2 = some (.slice e2)) (hi : (P.info? el).map (fun i => (i.zero, i.size, i.bytes)) = some (some (.int .i64 0), 1, 8)) (he : (i == e) = false) (hΦ : Φ i = some (.own w0 el zs))
    (hg : ∀ w, Ext w0 w → ancF ops i F w → (SP.emp w0 el).p w (.slice (some ⟨g, 0, none⟩) 0 0) ∧ Ints w y zs) (hlen : zs.length ≤ 1000000)
    (h : ∀ u, (∃ w, Ext w0 w ∧ OwnI w w0.heap.size el u zs) → CK P ops w0 Φ e Z l (i + 1) (PT A d u) (upd F i fun w => OwnI w w0.heap.size el u zs)) : CK P ops w0 Φ e Z (o :: l) i A F := by
  refine ⟨Chk_val he hw hΦ (fun w hE hF => ?_) (fun u a' hu hp => ?_)⟩
  · obtain ⟨⟨g', he', h1, h2⟩, hy'⟩ := hg w hE hF
    cases he'
    cases hq : P.info? el with
    | none => simp [hq] at hi
    | some inf =>
      simp only [hq, Option.map_some, Option.some.injEq, Prod.mk.injEq] at hi
      obtain ⟨v', w', hr, q1, q2⟩ := run_fresh (P := P) w0.heap.size t t2 o.type el e2 inf ht ht2 hq hi.1 hi.2.1 hi.2.2 g h2 h1 hy' hlen
      refine ⟨v', w', ex_ev ?_, q2, q1⟩
      unfold execOp
      simp only [ho, resolve, invoke, builtin, Sem.run_bind, Sem.run_pure, Result.andThen_ok, List.map_toArray, List.map_cons, List.map_nil, hs, hy, hr]
  · rw [hd] at hp; subst hp; exact (h u hu).out
end
/- []int{} and what is appended to it, by order -/
section
variable {P : Program} {ops : Array Oper} {l : List Oper} {o : Oper} {A : Act} {Q : Exit → Act → World → Prop} {w w' w0 : World} {d : Tmp} {v : Value} {s x : Operand}
theorem W_emp {el t : TypeId} (hd : o.dst = some d) (hw : Region.wanted o (yielded ops A.tmps) = true) (ho : o.op = .buildSlice t 0 #[]) (ht : P.underlying t = some (.slice el)) (hi : (P.info? el).isSome = true)
    (h : ∀ g w', w.heap.size ≤ g → Ext w w' → OwnI w' w.heap.size el (.slice (some ⟨g, 0, none⟩) 0 0) [] → WX P ops Q l (PT A d (.slice (some ⟨g, 0, none⟩) 0 0)) w') : WX P ops Q (o :: l) A w := by
  obtain ⟨inf, hinf⟩ := Option.isSome_iff_exists.1 hi
  refine W_val (w' := w.alloc (.cells #[] el)) hd hw ?_ (h _ _ (Nat.le_refl _) (Ext.alloc _ _) ?_)
  · unfold execOp; simp [ho, Instr.buildSlice, run_underlying ht, sizeOf, typeInfo, hinf, Instr.fill, newRow, range0]
  · exact ⟨by simp, .inr ⟨_, 0, #[], rfl, Nat.le_refl _, heap_alloc_new _ _, by simp, by simp, by simp, by simp⟩⟩
/-- append(s, x...) of ints, s being memory of the call's own since the world w0. -/
theorem W_app {t t2 el e2 : TypeId} {xs ys : List Int} {y : Value} (hd : o.dst = some d) (hw : Region.wanted o (yielded ops A.tmps) = true)
    (ho : o.op = .call { callee := .builtin .append, args := #[s, x], argTypes := #[t, t2] })
    (hs : EV A s = v) (hy : EV A x = y)
    (ht : P.underlying t = some (.slice el)) (ht2 : P.underlying t2 = some (.slice e2)) (hi : (P.info? el).map (fun i => (i.zero, i.size, i.bytes)) = some (some (.int .i64 0), 1, 8))
    (hown : OwnI w w0.heap.size el v xs) (hE : Ext w0 w) (hyy : Ints w y ys) (hlen : xs.length + ys.length ≤ 1000000)
    (h : ∀ v' w', OwnI w' w0.heap.size el v' (xs ++ ys) → w.grownBy w' v.ownBlock → Ext w0 w' → WX P ops Q l (PT A d v') w') : WX P ops Q (o :: l) A w := by
  cases hq : P.info? el with
  | none => simp [hq] at hi
  | some inf =>
    simp only [hq, Option.map_some, Option.some.injEq, Prod.mk.injEq] at hi
    obtain ⟨v', w', hr, h2, h3, h4⟩ := run_append_ext w w0.heap.size t t2 o.type el e2 inf (.int .i64 0) 1 8 ht ht2 hq hi.1 hi.2.1 hi.2.2 rfl (by decide) _ _ _ hown _ ys.length (ys.map (Value.int .i64)) (by simpa [Ints, Sl] using hyy)
      (fun u hu => by obtain ⟨x, _, rfl⟩ := List.mem_map.1 hu; rfl) (by omega) (by omega) hE.size
    have hO : OwnI w' w0.heap.size el v' (xs ++ ys) := by
      unfold OwnI
      rw [List.map_append, List.length_append]
      exact h2
    refine W_val hd hw ?_ (h v' w' hO h3 (hE.grown h3 hE.size (fun j hj => (hown.lt j hj).1)))
    unfold execOp
    simp only [ho, resolve, invoke, builtin, Sem.run_bind, Sem.run_pure, Result.andThen_ok, List.map_toArray, List.map_cons, List.map_nil, hs, hy, hr]
end

theorem box_app {w w' : World} {b B : Nat} {E T : TypeId} {v : Value} {zs : List Int} {cs : Array Value} {fr : Nat × Nat} (h : w.heap[b]? = some (.cells cs T fr)) (hg : w.grownBy w' v.ownBlock) (hown : OwnI w B E v zs) (hT : (T == E) = false) :
    w'.heap[b]? = some (.cells cs T fr) := by
  obtain ⟨_, _, _, _, hb⟩ := hg
  rw [hb b (lt_size h) ?_]; · exact h
  intro he
  obtain ⟨_, h2 | ⟨g, cap, cur, rfl, _, hh, _⟩⟩ := hown
  · obtain ⟨rfl, _⟩ := h2; simp [Value.ownBlock] at he
  · simp [Value.ownBlock] at he
    subst he
    rw [h] at hh; cases hh; simp at hT
theorem cell_ext {w w' : World} (h : Ext w w') {p : Addr} {v : Value} (hc : w.cell? p = some v) : w'.cell? p = some v := by
  rw [h.cell (World.block_lt_of_cell? _ _ hc)]; exact hc

/-! slices of ints: a part, an element, a literal -/
section
variable {P : Program}
def subV (v : Value) (lo hh : Nat) : Value := match v with | .slice a _ cap => .slice (if cap = lo then a else a.map (·.add lo)) (hh - lo) (cap - lo) | v => v
theorem run_subV {w : World} {t e : TypeId} {i : TypeInfo} (ht : P.underlying t = some (.slice e)) (hi : P.info? e = some i) (hs : i.size = 1) {wS : World} {v : Value} {zs : List Int} (hv : Ints wS v zs)
    (lov hiv : Option Value) (lo hh : Nat) (hlo : lov = none ∧ lo = 0 ∨ lov = some (.int .i64 (lo : Int))) (hhi : hiv = none ∧ hh = zs.length ∨ hiv = some (.int .i64 (hh : Int))) (h1 : lo ≤ hh) (h2 : hh ≤ zs.length) :
    (Instr.sliceAt t v lov hiv none).run P w = .ok (subV v lo hh) w := by
  obtain ⟨a, cap, rfl⟩ := hv.form
  have g1 := hv.cap.2.1
  rcases hlo with ⟨rfl, rfl⟩ | rfl <;> rcases hhi with ⟨rfl, rfl⟩ | rfl <;>
    simp [subV, Instr.sliceAt, Instr.slice, Instr.sliceBounds, Instr.sliceBound, run_underlying ht, sizeOf, typeInfo, hi, hs, asIntOf, h1, Nat.le_trans h2 g1] <;> omega
theorem sub_ints {wS : World} {v : Value} {zs : List Int} (hv : Ints wS v zs) (lo hh : Nat) (h1 : lo ≤ hh) (h2 : hh ≤ zs.length) : Ints wS (subV v lo hh) ((zs.drop lo).take (hh - lo)) := by
  obtain ⟨a, cap, rfl, g1, g2, g3, g4, g5⟩ := hv
  have hl : (((zs.drop lo).take (hh - lo)).map (Value.int .i64)).length = hh - lo := by simp; omega
  simp only [List.length_map, Nat.mul_one] at g1 g4
  refine ⟨_, cap - lo, by simp only [subV]; rw [hl], by rw [hl]; omega, by omega, by simp, ?_, ?_⟩
  · intro h
    rw [hl]
    have : a = none := by
      split at h
      · exact h
      · simpa using h
    have := g4 this; omega
  · intro b hb
    have hadd : ∀ (c : Addr), c.spot = none → (c.add lo).block = c.block ∧ (c.add lo).off = c.off + lo ∧ (c.add lo).spot = none := by
      intro c hc; unfold Addr.add; split <;> simp_all
    by_cases hcl : cap = lo
    · rw [if_pos hcl] at hb
      refine ⟨(g5 b hb).1, fun j x hj => ?_⟩
      have h0 := (List.getElem?_eq_some_iff.1 hj).1
      rw [hl] at h0; omega
    · rw [if_neg hcl] at hb
      cases a with
      | none => simp at hb
      | some c =>
        simp at hb
        subst hb
        obtain ⟨q1, q2⟩ := g5 c rfl
        obtain ⟨p1, p2, p3⟩ := hadd c q1
        refine ⟨p3, fun j x hj => ?_⟩
        rw [p1, p2]
        rw [List.map_take, List.map_drop, List.getElem?_take] at hj
        split at hj
        · rw [List.getElem?_drop] at hj
          have := q2 _ x hj
          rw [Nat.add_assoc]; exact this
        · cases hj
theorem sub_fre {wS : World} {B : Nat} {E : TypeId} {v : Value} {zs : List Int} (hv : FreI wS B E v zs) (lo hh : Nat) (h1 : lo ≤ hh) (h2 : hh ≤ zs.length) : FreI wS B E (subV v lo hh) ((zs.drop lo).take (hh - lo)) := by
  refine ⟨sub_ints hv.1 lo hh h1 h2, fun b n cap hr => ?_⟩
  obtain ⟨a, c, rfl⟩ := hv.form
  simp only [subV, Value.slice.injEq] at hr
  obtain ⟨hr, _, _⟩ := hr
  split at hr
  · subst hr; exact hv.2 b _ _ rfl
  · cases a with
    | none => simp at hr
    | some b0 =>
      simp at hr
      have := hv.2 b0 _ _ rfl
      have hb : b.block = b0.block := by rw [← hr]; unfold Addr.add; split <;> rfl
      rw [hb]; exact this
theorem V_sub {A : Act} {o : Oper} {x : Operand} {lov hiv : Option Operand} {t e : TypeId} {wS : World} {v : Value} {zs : List Int} (lo hh : Nat) (ho : o.op = .slice t x lov hiv none) (hx : EV A x = v)
    (hlo : lov = none ∧ lo = 0 ∨ ∃ p z, lov = some p ∧ EV A p = .int .i64 z ∧ z = (lo : Int)) (hhi : hiv = none ∧ hh = zs.length ∨ ∃ p z, hiv = some p ∧ EV A p = .int .i64 z ∧ z = (hh : Int))
    (ht : P.underlying t = some (.slice e)) (hi : (P.info? e).map (fun i => (i.zero, i.size, i.bytes)) = some (some (.int .i64 0), 1, 8)) (hv : Ints wS v zs) (h1 : lo ≤ hh) (h2 : hh ≤ zs.length) : Val P A o (subV v lo hh) := fun w => by
  cases hq : P.info? e with
  | none => simp [hq] at hi
  | some inf =>
    simp only [hq, Option.map_some, Option.some.injEq, Prod.mk.injEq] at hi
    have := run_subV (P := P) (w := w) ht hq hi.2.1 hv (lov.map (EV A)) (hiv.map (EV A)) lo hh
      (by rcases hlo with ⟨rfl, rfl⟩ | ⟨p, z, rfl, h, rfl⟩ <;> simp [*]) (by rcases hhi with ⟨rfl, rfl⟩ | ⟨p, z, rfl, h, rfl⟩ <;> simp [*]) h1 h2
    unfold execOp
    simp only [ho, hx, Option.map_none, Sem.run_bind, this, Result.andThen_ok, Sem.run_pure]
theorem at_ints {wS : World} {v : Value} {zs : List Int} (h : Ints wS v zs) (k : Nat) (hk : k < zs.length) :
    ∃ b off cap y, v = .slice (some ⟨b, off, none⟩) zs.length cap ∧ zs[k]? = some y ∧ wS.cell? ⟨b, off + k, none⟩ = some (.int .i64 y) := by
  obtain ⟨a, cap, rfl⟩ := h.form
  obtain ⟨b, off, x, rfl, hx, hc⟩ := h.at hk
  exact ⟨b, off, cap, x, rfl, hx, hc⟩
theorem V_idx {A : Act} {o : Oper} {x p : Operand} {t e : TypeId} {v : Value} {b off n cap : Nat} {z : Int} (k : Nat) (ho : o.op = .indexAddr t x p) (hx : EV A x = v) (hp : EV A p = .int .i64 z) (hv : v = .slice (some ⟨b, off, none⟩) n cap) (hz : z = (k : Int)) (hk : k < n)
    (ht : P.underlying t = some (.slice e)) (hi : (P.info? e).map (·.size) = some 1) : Val P A o (.pointer (some ⟨b, off + k, none⟩)) := fun w => by
  cases hq : P.info? e with
  | none => simp [hq] at hi
  | some inf =>
    have hs : inf.size = 1 := by simpa [hq] using hi
    subst hz hv
    unfold execOp
    simp [ho, hx, hp, Instr.indexAt, asIntOf, run_underlying ht, sizeOf, typeInfo, hq, hs, hk, Addr.add]
variable {ops : Array Oper} {l : List Oper} {o : Oper} {A : Act} {Q : Exit → Act → World → Prop} {w : World} {d : Tmp} {w0 : World} {Φ : Nat → Option SP} {e : Nat} {Z : Act → (Nat → World → Prop) → Prop} {i : Nat} {F : Nat → World → Prop}
theorem fre_alloc (w : World) (zs : List Int) (el : TypeId) (h : zs.length ≤ 9223372036854775807) : FreI (w.alloc (.cells (zs.map (Value.int .i64)).toArray el)) w.heap.size el (.slice (some ⟨w.heap.size, 0, none⟩) zs.length zs.length) zs := by
  refine ⟨?_, fun b n cap hb => ?_⟩
  · have := Sl.alloc w (zs.map (Value.int .i64)) el (by simpa using h)
    unfold Ints
    simp only [List.length_map] at this
    exact this
  · cases hb
    exact ⟨Nat.le_refl _, _, heap_alloc_new _ _⟩
theorem W_lit1 {t el : TypeId} {p : Operand} {z : Int} (hd : o.dst = some d) (hw : Region.wanted o (yielded ops A.tmps) = true) (ho : o.op = .buildSlice t 1 #[(0, p)]) (hp : EV A p = .int .i64 z) (ht : P.underlying t = some (.slice el))
    (hi : (P.info? el).map (fun i => (i.zero, i.size, i.bytes)) = some (some (.int .i64 0), 1, 8))
    (h : ∀ g w', w.heap.size ≤ g → Ext w w' → FreI w' w.heap.size el (.slice (some ⟨g, 0, none⟩) 1 1) [z] → WX P ops Q l (PT A d (.slice (some ⟨g, 0, none⟩) 1 1)) w') : WX P ops Q (o :: l) A w := by
  cases hq : P.info? el with
  | none => simp [hq] at hi
  | some inf =>
    simp only [hq, Option.map_some, Option.some.injEq, Prod.mk.injEq] at hi
    exact W_val hd hw (run_bs1 (a := A) ho ht hq hi.1 hi.2.1 rfl hp rfl w) (h _ _ (Nat.le_refl _) (Ext.alloc _ _) (fre_alloc w [z] el (by simp)))
theorem W_lit2 {t el : TypeId} {p q : Operand} {z y : Int} (hd : o.dst = some d) (hw : Region.wanted o (yielded ops A.tmps) = true) (ho : o.op = .buildSlice t 2 #[(0, p), (1, q)]) (hp : EV A p = .int .i64 z) (hpq : EV A q = .int .i64 y) (ht : P.underlying t = some (.slice el))
    (hi : (P.info? el).map (fun i => (i.zero, i.size, i.bytes)) = some (some (.int .i64 0), 1, 8))
    (h : ∀ g w', w.heap.size ≤ g → Ext w w' → FreI w' w.heap.size el (.slice (some ⟨g, 0, none⟩) 2 2) [z, y] → WX P ops Q l (PT A d (.slice (some ⟨g, 0, none⟩) 2 2)) w') : WX P ops Q (o :: l) A w := by
  cases hq : P.info? el with
  | none => simp [hq] at hi
  | some inf =>
    simp only [hq, Option.map_some, Option.some.injEq, Prod.mk.injEq] at hi
    exact W_val hd hw (run_bs2 (a := A) ho ht hq hi.1 hi.2.1 rfl hp rfl hpq rfl w) (h _ _ (Nat.le_refl _) (Ext.alloc _ _) (fre_alloc w [z, y] el (by simp)))
end

theorem one_cells {v : Value} (h : v.oneCell' = true) : v.cells = #[v] := by cases v <;> simp_all [Value.cells, Value.oneCell']
/-- a struct of n fields of one cell each. -/
def stN (P : Program) (T n : Nat) : Bool :=
  (match P.underlying T with
    | some (.struct fs) => match fs.toList.mapM (fun f => (P.info? f.type).map fun i => (f.offset, i.size)) with
      | some pl => decide (pl = (List.range n).map fun i => (i, 1))
      | none => false
    | _ => false) && (match P.info? T with | some i => (match i.zero with | some z => decide (z.cells.size = n) | none => false) | none => false)
theorem fill_fold (n : Nat) (place : Nat → Option (Nat × Nat)) (hpl : ∀ i, i < n → place i = some (i, 1)) : ∀ (ps : List (Nat × Value)) (cells : Array Value), cells.size = n →
    ps.all (fun p => decide (p.1 < n) && p.2.oneCell') = true → Instr.fill place cells ps = some (ps.foldl (fun cs p => cs.setIfInBounds p.1 p.2) cells)
  | [], cells, _, _ => rfl
  | (i, v) :: ps, cells, hs, h => by
    simp only [List.all_cons, Bool.and_eq_true, decide_eq_true_eq] at h
    obtain ⟨⟨h1, h2⟩, h3⟩ := h
    have hv := one_cells h2
    simp only [Instr.fill, hpl i h1, hv, List.size_toArray, List.length_cons, List.length_nil]
    rw [if_neg (by simp; omega)]
    simp only [List.foldl_cons]
    rw [← fill_fold n place hpl ps _ (by simpa using hs) (by simpa using h3)]
    simp
theorem V_bldS {P : Program} {A : Act} {o : Oper} {T n : Nat} {parts : Array (Nat × Operand)} {ps : List (Nat × Value)} {z : Value} {cs : Array Value} (ho : o.op = .build T parts) (hp : (parts.map fun (i, x) => (i, EV A x)).toList = ps)
    (hT : stN P T n = true) (hone : ps.all (fun p => decide (p.1 < n) && p.2.oneCell') = true) (hz : (P.info? T).map (·.zero) = some (some z)) (hcs : ps.foldl (fun cs p => cs.setIfInBounds p.1 p.2) z.cells = cs) : Val P A o (.agg cs) := by
  refine V_bld ho hp ?_
  cases hq : P.info? T with
  | none => simp [hq] at hz
  | some i =>
    have hz' : i.zero = some z := by simpa [hq] using hz
    unfold stN at hT
    cases hu : P.underlying T with
    | none => simp [hu] at hT
    | some de =>
      cases de with
      | struct fs =>
        simp only [hu, hq, hz', Bool.and_eq_true] at hT
        cases hm : fs.toList.mapM (fun f => (P.info? f.type).map fun i => (f.offset, i.size)) with
        | none => simp [hm] at hT
        | some pl =>
          simp only [hm, decide_eq_true_eq] at hT
          obtain ⟨h1, h2⟩ := hT
          unfold Program.built
          simp only [hq, hu, hz', hm]
          subst hcs h1
          exact fill_fold n _ (fun i hi => by simp [hi]) ps _ h2 hone
      | _ => simp [hu] at hT
theorem wanted_t {ops : Array Oper} {o : Oper} {A : Act} {j t : Nat} {b : Bool} (hg : o.guard = some (j, b)) (hj : (ops[j]?).bind (·.dst) = some t) (hv : EV A (.tmp t) = .bool b) (ht : t < A.tmps.size) : Region.wanted o (yielded ops A.tmps) = true := by
  unfold EV Act.eval at hv
  simp [ht] at hv
  simp [Region.wanted, hg, yielded, hj, ht, hv]
theorem wanted_f {ops : Array Oper} {o : Oper} {A : Act} {j t : Nat} {b c : Bool} (hg : o.guard = some (j, b)) (hj : (ops[j]?).bind (·.dst) = some t) (hv : EV A (.tmp t) = .bool c) (ht : t < A.tmps.size) (hbc : (c == b) = false) : Region.wanted o (yielded ops A.tmps) = false := by
  unfold EV Act.eval at hv
  simp [ht] at hv
  have : c ≠ b := by simpa using hbc
  simp [Region.wanted, hg, yielded, hj, ht, hv, this]
theorem wanted_u {ops : Array Oper} {o : Oper} {A : Act} {j t : Nat} {b : Bool} (hg : o.guard = some (j, b)) (hj : (ops[j]?).bind (·.dst) = some t) (hv : EV A (.tmp t) = undef) (ht : t < A.tmps.size) : Region.wanted o (yielded ops A.tmps) = false := by
  unfold EV Act.eval at hv
  simp [ht] at hv
  simp [Region.wanted, hg, yielded, hj, ht, hv, undef]
section
variable {P : Program} {ops : Array Oper} {l : List Oper} {o : Oper} {A : Act} {Q : Exit → Act → World → Prop} {w w' w0 : World} {d : Tmp} {v : Value} {s x : Operand}
theorem W_emp0 {el t : TypeId} (hd : o.dst = some d) (hw : Region.wanted o (yielded ops A.tmps) = true) (ho : o.op = .buildSlice t 0 #[]) (ht : P.underlying t = some (.slice el)) (hi : (P.info? el).isSome = true)
    (h : ∀ g w', g = w.heap.size → Ext w w' → w'.heap[g]? = some (.cells #[] el (0, 0)) → WX P ops Q l (PT A d (.slice (some ⟨g, 0, none⟩) 0 0)) w') : WX P ops Q (o :: l) A w := by
  obtain ⟨inf, hinf⟩ := Option.isSome_iff_exists.1 hi
  refine W_val (w' := w.alloc (.cells #[] el)) hd hw ?_ (h _ _ rfl (Ext.alloc _ _) (heap_alloc_new _ _))
  unfold execOp; simp [ho, Instr.buildSlice, run_underlying ht, sizeOf, typeInfo, hinf, Instr.fill, newRow, range0]
theorem W_appE {t t2 el e2 : TypeId} {ys : List Int} {y : Value} {g B : Nat} (hd : o.dst = some d) (hw : Region.wanted o (yielded ops A.tmps) = true)
    (ho : o.op = .call { callee := .builtin .append, args := #[s, x], argTypes := #[t, t2] })
    (hs : EV A s = .slice (some ⟨g, 0, none⟩) 0 0) (hy : EV A x = y)
    (ht : P.underlying t = some (.slice el)) (ht2 : P.underlying t2 = some (.slice e2)) (hi : (P.info? el).map (fun i => (i.zero, i.size, i.bytes)) = some (some (.int .i64 0), 1, 8))
    (hg : w.heap[g]? = some (.cells #[] el (0, 0))) (hB : B ≤ g) (hyy : Ints w y ys) (hlen : ys.length ≤ 1000000)
    (h : ∀ v' w', OwnI w' B el v' ys → Ext w w' → WX P ops Q l (PT A d v') w') : WX P ops Q (o :: l) A w := by
  cases hq : P.info? el with
  | none => simp [hq] at hi
  | some inf =>
    simp only [hq, Option.map_some, Option.some.injEq, Prod.mk.injEq] at hi
    obtain ⟨v', w', hr, q1, q2⟩ := run_fresh (P := P) B t t2 o.type el e2 inf ht ht2 hq hi.1 hi.2.1 hi.2.2 g hg hB hyy hlen
    refine W_val hd hw ?_ (h v' w' q1 q2)
    unfold execOp
    simp only [ho, resolve, invoke, builtin, Sem.run_bind, Sem.run_pure, Result.andThen_ok, List.map_toArray, List.map_cons, List.map_nil, hs, hy, hr]
end

/-! a region that draws its order, order by order -/
structure AX (P : Program) (ops : Array Oper) (Q : Exit → Act → World → Prop) (fuel : Nat) (listed : Array Bool) (A : Act) (w : World) : Prop where
  out : wpAny P .any ops Q fuel listed A w
def KQ (K : Act → World → Prop) (Q : Exit → Act → World → Prop) : Exit → Act → World → Prop := fun x a w => match x with | .normal => K a w | x => Q x a w
section
variable {P : Program} {ops : Array Oper} {Q : Exit → Act → World → Prop} {fuel : Nat} {listed : Array Bool} {A : Act} {w : World}
theorem region_any {id : Nat} {l : List Oper} (hm : P.follows .mixedOrders = true) (n : Nat) (hn : l.toArray.size = n) (h : ∀ w', Ext w w' → AX P l.toArray Q n (Array.replicate n false) A w') : (Code.region id l.toArray true).wp P Q A w :=
  wp_region_any hm (by rw [hn]; exact (h { w with drawn := w.drawn + 1 } ⟨rfl, rfl, rfl, Nat.le_refl _, fun _ _ => rfl⟩).out)
theorem AX_end (hr : Region.ready .any ops listed = []) (h : Q .normal A w) : AX P ops Q 0 listed A w := ⟨hr, h⟩
theorem op_any {i : Nat} {o : Oper} {K : Act → World → Prop} (ho : ops[i]? = some o) (h : WX P ops (KQ K Q) [o] A w) : wpOp P ops Q i K A w := by
  have h := h.out
  unfold wpOp
  simp only [ho]
  unfold wpList at h
  split
  · rename_i hw
    rw [if_pos hw] at h
    rcases h with h | ⟨h1, a, w', h2⟩
    · left
      refine Oper.wp_mono (Q := Q) (fun a w h => h) ?_
      unfold Oper.wp Oper.upon at h ⊢
      generalize (execOp A.eval o).run P w = r at h ⊢
      cases r with
      | ok n w' => cases n <;> first | exact h | (exact h.mono fun e w'' he => by cases e <;> exact he) | (exact Rows.mono h fun _ _ he => he)
      | halt x w' => cases x <;> exact h
    · exact .inr ⟨h1, a, w', h2⟩
  · rename_i hw
    rw [if_neg hw] at h
    exact h
theorem AX_1 {i : Nat} {o : Oper} (hr : Region.ready .any ops listed = [i]) (ho : ops[i]? = some o) (h : WX P ops (KQ (AX P ops Q fuel (listed.setIfInBounds i true)) Q) [o] A w) : AX P ops Q (fuel + 1) listed A w := by
  refine ⟨fun h0 => (by rw [h0] at hr; cases hr), fun j hj => ?_⟩
  rw [hr] at hj
  obtain rfl : j = i := by simpa using hj
  exact wpOp_mono (fun a w h => h.out) (op_any ho h)
theorem AX_2 {i j : Nat} {o p : Oper} (hr : Region.ready .any ops listed = [i, j]) (ho : ops[i]? = some o) (hp : ops[j]? = some p) (h1 : WX P ops (KQ (AX P ops Q fuel (listed.setIfInBounds i true)) Q) [o] A w)
    (h2 : WX P ops (KQ (AX P ops Q fuel (listed.setIfInBounds j true)) Q) [p] A w) : AX P ops Q (fuel + 1) listed A w := by
  refine ⟨fun h0 => (by rw [h0] at hr; cases hr), fun k hk => ?_⟩
  rw [hr] at hk
  obtain rfl | rfl : k = i ∨ k = j := by simpa using hk
  · exact wpOp_mono (fun a w h => h.out) (op_any ho h1)
  · exact wpOp_mono (fun a w h => h.out) (op_any hp h2)
theorem AX_3 {i j m : Nat} {o p q : Oper} (hr : Region.ready .any ops listed = [i, j, m]) (ho : ops[i]? = some o) (hp : ops[j]? = some p) (hq : ops[m]? = some q) (h1 : WX P ops (KQ (AX P ops Q fuel (listed.setIfInBounds i true)) Q) [o] A w)
    (h2 : WX P ops (KQ (AX P ops Q fuel (listed.setIfInBounds j true)) Q) [p] A w) (h3 : WX P ops (KQ (AX P ops Q fuel (listed.setIfInBounds m true)) Q) [q] A w) : AX P ops Q (fuel + 1) listed A w := by
  refine ⟨fun h0 => (by rw [h0] at hr; cases hr), fun k hk => ?_⟩
  rw [hr] at hk
  obtain rfl | rfl | rfl : k = i ∨ k = j ∨ k = m := by simpa using hk
  · exact wpOp_mono (fun a w h => h.out) (op_any ho h1)
  · exact wpOp_mono (fun a w h => h.out) (op_any hp h2)
  · exact wpOp_mono (fun a w h => h.out) (op_any hq h3)
theorem kq (K : Act → World → Prop) (h : K A w) : KQ K Q .normal A w := h
theorem AX_cast {l2 : Array Bool} (h : AX P ops Q fuel l2 A w) (e : listed = l2) : AX P ops Q fuel listed A w := by subst e; exact h
end

/-- a loop, the measure a variable of the relation. -/
theorem loopX {P : Program} {Q : Exit → Act → World → Prop} {c : Code} {A : Act} {w : World} (I : Nat → Act → World → Prop) (n0 : Nat) (h0 : I n0 A w)
    (round : ∀ n A w, I n A w → c.wp P (Exit.then (fun A' w' => ∃ m, m < n ∧ I m A' w') Q) A w) : (Code.loop c).wp P Q A w := by
  have key : ∀ n A w, I n A w → ∀ (b : Frame) (k : List Item) (cs : List Frame), ∃ e a' w', Q e a' w' ∧ Arrives P (lone (b.at A (.code c :: .inLoop c :: k)) cs w) b k cs e a' w' := by
    intro n
    induction n using Nat.strongRecOn with
    | _ n ih =>
      intro A w hI b k cs
      obtain ⟨e, a₁, w₁, hq, harr⟩ := round n A w hI b (.inLoop c :: k) cs
      cases e with
      | normal =>
        obtain ⟨m, hlt, hI₁⟩ := hq
        obtain ⟨e₂, a₂, w₂, hq₂, harr₂⟩ := ih m hlt a₁ w₁ hI₁ b k cs
        exact ⟨e₂, a₂, w₂, hq₂, .of_steps (Steps.trans harr (.one step_inLoop)) harr₂⟩
      | exit id => exact ⟨_, a₁, w₁, hq, .pass (x := .inLoop c) rfl (fun _ _ => .inl (by simp)) harr⟩
      | goto l => exact ⟨_, a₁, w₁, hq, .pass (x := .inLoop c) rfl (fun _ _ => .inl (by simp)) harr⟩
      | ret => exact ⟨_, a₁, w₁, hq, .pass (x := .inLoop c) rfl (fun _ _ => .inl (by simp)) harr⟩
      | panic ch => exact ⟨_, a₁, w₁, hq, .pass (x := .inLoop c) rfl (fun _ _ => .inl (by simp)) harr⟩
      | outgrown => exact ⟨_, a₁, w₁, hq, .pass (x := .inLoop c) rfl (fun _ _ => .inl (by simp)) harr⟩
  intro b k cs
  obtain ⟨e, a', w', hq, harr⟩ := key n0 A w h0 b k cs
  exact ⟨e, a', w', hq, .of_steps (.one step_loop) harr⟩

theorem V_ixA {P : Program} {A : Act} {o : Oper} {x p : Operand} {t e g off off' len sz : Nat} {z : Int} {kd : IntKind} (k : Nat) (ho : o.op = .indexAddr t x p) (hx : EV A x = .pointer (some ⟨g, off, none⟩)) (hp : EV A p = .int kd z) (hz : z = (k : Int))
    (hu : P.underlying t = some (.array len e)) (hk : k < len) (hi : (P.info? e).map (·.size) = some sz) (hoff : off + k * sz = off') : Val P A o (.pointer (some ⟨g, off', none⟩)) := fun w => by
  cases hq : P.info? e with
  | none => simp [hq] at hi
  | some inf =>
    have hs : inf.size = sz := by simpa [hq] using hi
    subst hz hoff
    unfold execOp
    simp [ho, hx, hp, Instr.indexAt, Instr.sureAddr, asIntOf, run_underlying hu, sizeOf, typeInfo, hq, hs, hk, Addr.add]
theorem V_eqB {P : Program} {A : Act} {o : Oper} {x y : Operand} {t t' : TypeId} {a b : Bool} (ho : o.op = .binOp .eql t x y t') (hx : EV A x = .bool a) (hy : EV A y = .bool b) (hu : P.underlying t = some .bool) : Val P A o (.bool (decide (a = b))) := fun w => by
  unfold execOp; simp only [ho, hx, hy, eqGuard_at_bool, binOp, Sem.run_bind, Sem.run_pure, Result.andThen_ok, run_equal_bool w t a b hu]
  cases a <;> cases b <;> rfl
theorem V_neB {P : Program} {A : Act} {o : Oper} {x y : Operand} {t t' : TypeId} {a b : Bool} (ho : o.op = .binOp .neq t x y t') (hx : EV A x = .bool a) (hy : EV A y = .bool b) (hu : P.underlying t = some .bool) : Val P A o (.bool (decide (a ≠ b))) := fun w => by
  unfold execOp; simp only [ho, hx, hy, eqGuard_at_bool, binOp, Sem.run_bind, Sem.run_pure, Result.andThen_ok, run_equal_bool w t a b hu]
  cases a <;> cases b <;> rfl

/-- ints that lie in memory of the beginning, or in memory of the call's own. -/
def MixI (w0 w : World) (E : TypeId) (v : Value) (zs : List Int) : Prop := Ints w0 v zs ∨ FreI w w0.heap.size E v zs
theorem MixI.ints {w0 w : World} {E : TypeId} {v : Value} {zs : List Int} (h : MixI w0 w E v zs) (hE : Ext w0 w) : Ints w v zs := by
  rcases h with h | h
  · exact h.ext hE
  · exact h.1
theorem MixI.ext {w0 w w' : World} {E : TypeId} {v : Value} {zs : List Int} (h : MixI w0 w E v zs) (he : Ext w w') : MixI w0 w' E v zs := by
  rcases h with h | h
  · exact .inl h
  · exact .inr (h.ext he)
theorem MixI.tch {w0 w w' : World} {g : Nat} {E T : TypeId} {v : Value} {zs : List Int} {cs : Array Value} {fr : Nat × Nat} (h : MixI w0 w E v zs) (t : Tch g w w') (hb : w.heap[g]? = some (.cells cs T fr)) (hT : (T == E) = false) : MixI w0 w' E v zs := by
  rcases h with h | h
  · exact .inl h
  · exact .inr (h.tch t hb hT)
theorem MixI.form {w0 w : World} {E : TypeId} {v : Value} {zs : List Int} (h : MixI w0 w E v zs) : ∃ a cap, v = .slice a zs.length cap := by
  rcases h with h | h
  · exact h.form
  · exact h.form
theorem MixI.one {w0 w : World} {E : TypeId} {v : Value} {zs : List Int} (h : MixI w0 w E v zs) : v.oneCell' = true := by
  obtain ⟨a, c, rfl⟩ := h.form; rfl
theorem MixI.any {w0 w : World} {E : TypeId} {v : Value} {zs : List Int} (h : MixI w0 w E v zs) : ∃ w1, Ints w1 v zs := by
  rcases h with h | h
  · exact ⟨_, h⟩
  · exact ⟨_, h.1⟩
theorem V_cvt {P : Program} {A : Act} {o : Oper} {x : Operand} {t t' : TypeId} {k k' : IntKind} {a : Int} (ho : o.op = .convert t t' x) (hx : EV A x = .int k a) (hu : P.underlying t = some (.int k)) (hu' : P.underlying t' = some (.int k')) (hr : k'.wrap a = a) : Val P A o (.int k' a) := fun w => by
  unfold execOp; simp [ho, hx, convert, run_underlying hu, run_underlying hu', Conv.intToInt, hr]
theorem wrap_i64 {a : Int} (h1 : -9223372036854775808 ≤ a) (h2 : a ≤ 9223372036854775807) : IntKind.i64.wrap a = a := by simp [IntKind.wrap, IntKind.bits, IntKind.signed]; omega
theorem wrap_u8 {a : Int} (h1 : 0 ≤ a) (h2 : a ≤ 255) : IntKind.u8.wrap a = a := by simp [IntKind.wrap, IntKind.bits, IntKind.signed]; omega
theorem wrap_u64 {a : Int} (h1 : 0 ≤ a) (h2 : a ≤ 18446744073709551615) : IntKind.u64.wrap a = a := by simp [IntKind.wrap, IntKind.bits, IntKind.signed]; omega
theorem V_rem {P : Program} {A : Act} {o : Oper} {x y : Operand} {t t' : TypeId} {k : IntKind} {a b : Int} (ho : o.op = .binOp .rem t x y t') (hx : EV A x = .int k a) (hy : EV A y = .int k b) (h0 : 0 ≤ a) (hb : 0 < b) (hr : k.wrap (a % b) = a % b) : Val P A o (.int k (a % b)) := fun w => by
  unfold execOp
  have hne : b ≠ 0 := by omega
  simp [ho, hx, hy, eqGuard_at_int, binOp, Op.intDiv, hne]
  rw [Int.tmod_eq_emod_of_nonneg h0]
/-- a slice of integers of one kind. -/
def IntsK (w : World) (k : IntKind) (v : Value) (zs : List Int) : Prop := Sl w v (zs.map (Value.int k))

theorem IntsK.form {w : World} {k : IntKind} {v : Value} {zs : List Int} (h : IntsK w k v zs) : ∃ a cap, v = .slice a zs.length cap := by
  obtain ⟨a, cap, rfl, _⟩ := h; exact ⟨a, cap, by simp⟩
theorem at_intsK {wS : World} {kd : IntKind} {v : Value} {zs : List Int} (h : IntsK wS kd v zs) (k : Nat) (hk : k < zs.length) :
    ∃ b off cap y, v = .slice (some ⟨b, off, none⟩) zs.length cap ∧ zs[k]? = some y ∧ wS.cell? ⟨b, off + k, none⟩ = some (.int kd y) := by
  obtain ⟨a', cap', he, h1, h2, h3, h4, h5⟩ := h
  cases a' with
  | none => exact absurd (h4 rfl) (by simp only [List.length_map]; omega)
  | some b =>
    obtain ⟨bb, off, spot⟩ := b
    obtain ⟨hs, hc⟩ := h5 _ rfl
    simp only at hs hc
    subst hs
    have hx := List.getElem?_eq_getElem hk
    exact ⟨bb, off, cap', zs[k], by rw [he]; simp, hx, hc k _ (by rw [List.getElem?_map, hx]; rfl)⟩
theorem V_lenK {P : Program} {A : Act} {o : Oper} {x : Operand} {v : Value} {t e : TypeId} {w0 : World} {kd : IntKind} {zs : List Int} (ho : o.op = .call { callee := .builtin .len, args := #[x], argTypes := #[t] }) (hx : EV A x = v) (h : IntsK w0 kd v zs) (ht : P.underlying t = some (.slice e)) : Val P A o (.int .i64 (zs.length : Int)) := by
  obtain ⟨a, c, hv⟩ := h.form
  exact V_len ho hx hv ht
theorem own_lt {w : World} {B : Nat} {e : TypeId} {v : Value} {zs : List Int} (h : OwnI w B e v zs) : ∀ g, v.ownBlock = some g → g < w.heap.size := fun g hg => (h.lt g hg).2
theorem fre_lo {w : World} {B : Nat} {e : TypeId} {v : Value} {zs : List Int} (h : FreI w B e v zs) : ∀ b n cap, v = .slice (some b) n cap → B ≤ b.block := fun b n cap hv => (h.2 b n cap hv).1
theorem FreI.app {w w' : World} {B BB : Nat} {E : TypeId} {v : Value} {zs : List Int} {row : Option Nat} (h : FreI w B E v zs) (hu : ∀ b n cap, v = .slice (some b) n cap → BB ≤ b.block) (hg : w.grownBy w' row) (hr : ∀ g, row = some g → g < BB) : FreI w' B E v zs := by
  obtain ⟨h1, h2⟩ := h
  obtain ⟨_, _, _, _, hb⟩ := hg
  have key : ∀ b n cap, v = .slice (some b) n cap → w'.heap[b.block]? = w.heap[b.block]? := by
    intro b n cap hv
    obtain ⟨_, cs, hc⟩ := h2 b n cap hv
    refine hb _ (lt_size hc) fun he => ?_
    have := hr _ he.symm
    have := hu b n cap hv
    omega
  refine ⟨?_, fun b n cap hv => ?_⟩
  · obtain ⟨a, cap, rfl, g1, g2, g3, g4, g5⟩ := h1
    refine ⟨a, cap, rfl, g1, g2, g3, g4, fun b hb' => ⟨(g5 b hb').1, fun j y hj => ?_⟩⟩
    subst hb'
    have := (g5 b rfl).2 j y hj
    unfold World.cell? at this ⊢
    rw [key b _ _ rfl]; exact this
  · obtain ⟨q1, c, q2⟩ := h2 b n cap hv
    exact ⟨q1, c, (key b n cap hv).trans q2⟩
end Go.Own
namespace Go.Own
open Go Go.RowKit

/-! arrays of integers in a box, by the list of their numbers -/
def arrI (k : IntKind) (ns : List Int) : Array Value := (ns.map (Value.int k)).toArray
theorem arrI_size (k : IntKind) (ns : List Int) : (arrI k ns).size = ns.length := by simp [arrI]
theorem arrI_get {k : IntKind} {ns : List Int} {i : Nat} {y : Int} (h : ns[i]? = some y) : (arrI k ns)[i]? = some (.int k y) := by simp [arrI, h]
theorem arrI_set (k : IntKind) (ns : List Int) (i : Nat) (x : Int) : (arrI k ns).setIfInBounds i (.int k x) = arrI k (ns.set i x) := by simp [arrI, List.map_set]
theorem arrI_one (k : IntKind) (ns : List Int) : (arrI k ns).all (·.oneCell') = true := by
  rw [Array.all_eq_true_iff_forall_mem]; intro v hv; simp [arrI] at hv; obtain ⟨a, _, rfl⟩ := hv; rfl
theorem arrI_lt {k : IntKind} {ns : List Int} {n i : Nat} (h : ns.length = n) (hi : i < n) : decide (i < (arrI k ns).size) = true := by rw [arrI_size, h]; exact decide_eq_true hi
theorem arrI_info {P : Program} {T n : Nat} {k : IntKind} {ns : List Int} (h : ns.length = n) (hi : (P.info? T).map (·.size) = some n) : (P.info? T).map (·.size) = some (arrI k ns).size := by rw [arrI_size, h]; exact hi
theorem arrI_sz {k : IntKind} {ns ms : List Int} {n : Nat} (h : ns.length = n) (h' : ms.length = n) : (arrI k ns).size = (arrI k ms).size := by rw [arrI_size, arrI_size, h, h']
theorem some_get {ns : List Int} {i n : Nat} (h : ns.length = n) (hi : i < n) : ∃ y, ns[i]? = some y := ⟨_, List.getElem?_eq_getElem (by omega)⟩
theorem run_equalIn_arr {P : Program} {w : World} (d : Nat) {t e n : Nat} {k : IntKind} {ns ms : List Int} (hu : P.underlying t = some (.array n e)) (he : P.underlying e = some (.int k))
    (hi : (P.info? e).map (·.size) = some 1) (h1 : ns.length = n) (h2 : ms.length = n) : (Op.equalIn (d + 2) t (.agg (arrI k ns)) (.agg (arrI k ms))).run P w = .ok (decide (ns = ms)) w := by
  have hsz : (sizeOf e).run P w = .ok 1 w := by
    cases hq : P.info? e with
    | none => simp [hq] at hi
    | some i => have : i.size = 1 := by simpa [hq] using hi
                simp [sizeOf, typeInfo, hq, this]
  have hagg : (isAgg e).run P w = .ok false w := by unfold isAgg; rw [Sem.run_bind, run_underlying he w]; rfl
  have hpart : ∀ (l : List Int) (i : Nat) (z : Int), l[i]? = some z → (part e (arrI k l) (i * 1)).run P w = .ok (.int k z) w := by
    intro l i z hz; simp [part, hagg, arrI_get hz]
  rw [Op.equalIn]
  simp only [Sem.run_bind, run_underlying hu, Result.andThen_ok, hsz]
  simp only [Std.Legacy.Range.forIn_eq_forIn_range', Std.Legacy.Range.size, Nat.sub_zero, Nat.add_sub_cancel, Nat.div_one]
  have key : ∀ (m j : Nat), j + m = n → Sem.run P
          (forIn (List.range' j m) ((none, ()) : Option Bool × Unit) fun i __s => do
            let __do_lift ← part e (arrI k ns) (i * 1)
            let __do_lift_1 ← part e (arrI k ms) (i * 1)
            let __do_lift ← Op.equalIn (d + 1) e __do_lift __do_lift_1
            if (!__do_lift) = true then pure (ForInStep.done (some false, ())) else pure (ForInStep.yield (none, ()))) w
        = .ok (if ns.drop j = ms.drop j then (none, ()) else (some false, ())) w := by
    intro m
    induction m with
    | zero =>
      intro j hj
      rw [List.drop_eq_nil_of_le (by omega), List.drop_eq_nil_of_le (by omega)]
      simp
    | succ m ih =>
      intro j hj
      have ha := List.getElem?_eq_getElem (show j < ns.length by omega)
      have hb := List.getElem?_eq_getElem (show j < ms.length by omega)
      rw [List.range'_succ, List.forIn_cons]
      simp only [Sem.run_bind, hpart ns j _ ha, hpart ms j _ hb, Result.andThen_ok, run_equalIn_int w d e k k _ _ he]
      rw [List.drop_eq_getElem_cons (show j < ns.length by omega), List.drop_eq_getElem_cons (show j < ms.length by omega)]
      by_cases h : ns[j] = ms[j]
      · simp only [h, beq_self_eq_true, Bool.not_true, Bool.false_eq_true, if_false, Sem.run_pure, Result.andThen_ok, ih (j + 1) (by omega), List.cons.injEq, true_and]
      · have hb : (ns[j] == ms[j]) = false := by simpa using h
        rw [if_neg (fun hh => h (List.cons.inj hh).1)]
        simp only [hb, Bool.not_false, if_true, Sem.run_pure, Result.andThen_ok]
  rw [key n 0 (by omega)]
  simp only [List.drop_zero, Result.andThen_ok]
  by_cases h : ns = ms <;> simp [h]
theorem V_neArr {P : Program} {A : Act} {o : Oper} {x y : Operand} {t t' e n : Nat} {k : IntKind} {ns ms : List Int} (ho : o.op = .binOp .neq t x y t') (hx : EV A x = .agg (arrI k ns)) (hy : EV A y = .agg (arrI k ms)) (hu : P.underlying t = some (.array n e)) (he : P.underlying e = some (.int k))
    (hi : (P.info? e).map (·.size) = some 1) (hg : P.eqGuardType P.depth t = false) (h1 : ns.length = n) (h2 : ms.length = n) : Val P A o (.bool (decide (ns ≠ ms))) := fun w => by
  have hq : (Op.equal t (.agg (arrI k ns)) (.agg (arrI k ms))).run P w = .ok (decide (ns = ms)) w := run_equalIn_arr 9998 hu he hi h1 h2
  have hgd : (eqGuard .neq t x y (.agg (arrI k ns)) (.agg (arrI k ms))).run P w = .ok () w := by
    unfold eqGuard; simp [hg]
  unfold execOp
  simp only [ho, hx, hy, Sem.run_bind, hgd, Result.andThen_ok, binOp, hq, Sem.run_pure]
  by_cases h : ns = ms <;> simp [h]
theorem at_cell {w : World} {v : Value} {zs : List Int} {b o n c k : Nat} {y : Int} (h : Ints w v zs) (hv : v = .slice (some ⟨b, o, none⟩) n c) (hy : zs[k]? = some y) : w.cell? ⟨b, o + k, none⟩ = some (.int .i64 y) := by
  subst hv
  obtain ⟨a', cap', he, _, _, _, _, h5⟩ := h
  cases he
  exact (h5 _ rfl).2 k _ (by rw [List.getElem?_map, hy]; rfl)
end Go.Own
namespace Go.Own
open Go Go.RowKit

/-! a slice whose elements are structs of s cells -/
def RowV (w : World) (s : Nat) (v : Value) (xss : List (List Value)) : Prop :=
  ∃ a cap, v = .slice a xss.length cap ∧ xss.length ≤ 9223372036854775807 ∧ (a = none → xss = []) ∧
    ∀ b, a = some b → b.spot = none ∧ ∀ (k : Nat) (xs : List Value), xss[k]? = some xs → w.rangeAt b.block (b.off + k * s) xs
theorem rangeAt_ext {w w' : World} {b o : Nat} {cs : List Value} (he : Ext w w') (h : w.rangeAt b o cs) : w'.rangeAt b o cs := fun j v hv => by
  rw [he.cell (World.block_lt_of_cell? _ _ (h j v hv))]; exact h j v hv
theorem RowV.ext {w w' : World} {s : Nat} {v : Value} {xss : List (List Value)} (h : RowV w s v xss) (he : Ext w w') : RowV w' s v xss := by
  obtain ⟨a, cap, rfl, h1, h2, h3⟩ := h
  exact ⟨a, cap, rfl, h1, h2, fun b hb => ⟨(h3 b hb).1, fun k xs hk => rangeAt_ext he ((h3 b hb).2 k xs hk)⟩⟩
theorem RowV.form {w : World} {s : Nat} {v : Value} {xss : List (List Value)} (h : RowV w s v xss) : ∃ a cap, v = .slice a xss.length cap := by
  obtain ⟨a, cap, h, _⟩ := h; exact ⟨a, cap, h⟩
theorem RowV.nil (w : World) (s : Nat) : RowV w s (.slice none 0 0) [] := ⟨none, 0, rfl, by simp, fun _ => rfl, fun b hb => by cases hb⟩
theorem at_row {w : World} {s : Nat} {v : Value} {xss : List (List Value)} (h : RowV w s v xss) (k : Nat) (hk : k < xss.length) :
    ∃ b off cap xs, v = .slice (some ⟨b, off, none⟩) xss.length cap ∧ xss[k]? = some xs ∧ w.rangeAt b (off + k * s) xs := by
  obtain ⟨a, cap, he, h1, h2, h3⟩ := h
  cases a with
  | none => rw [h2 rfl] at hk; simp at hk
  | some b =>
    obtain ⟨bb, off, spot⟩ := b
    obtain ⟨hs, hc⟩ := h3 _ rfl
    simp only at hs hc
    subst hs
    have hx := List.getElem?_eq_getElem hk
    exact ⟨bb, off, cap, xss[k], he, hx, hc k _ hx⟩
theorem at_rowM {α : Type} {w : World} {s : Nat} {v : Value} {xs : List α} {f : α → List Value} (h : RowV w s v (xs.map f)) (k : Nat) (hk : k < xs.length) :
    ∃ b off cap y, v = .slice (some ⟨b, off, none⟩) xs.length cap ∧ xs[k]? = some y ∧ w.rangeAt b (off + k * s) (f y) := by
  obtain ⟨b, off, cap, ys, h1, h2, h3⟩ := at_row h k (by rw [List.length_map]; exact hk)
  rw [List.getElem?_map, Option.map_eq_some_iff] at h2
  obtain ⟨y, hy, rfl⟩ := h2
  exact ⟨b, off, cap, y, by rw [h1, List.length_map], hy, h3⟩
theorem V_lenR {P : Program} {A : Act} {o : Oper} {x : Operand} {v : Value} {t e : TypeId} {w0 : World} {α : Type} {s : Nat} {f : α → List Value} {xs : List α} (ho : o.op = .call { callee := .builtin .len, args := #[x], argTypes := #[t] }) (hx : EV A x = v) (h : RowV w0 s v (xs.map f)) (ht : P.underlying t = some (.slice e)) : Val P A o (.int .i64 (xs.length : Int)) := by
  obtain ⟨a, c, hv⟩ := h.form
  rw [List.length_map] at hv
  exact V_len ho hx hv ht
theorem V_idxR {P : Program} {A : Act} {o : Oper} {x p : Operand} {t e : TypeId} {v : Value} {b off n cap : Nat} {z : Int} (s k : Nat) (ho : o.op = .indexAddr t x p) (hx : EV A x = v) (hp : EV A p = .int .i64 z) (hv : v = .slice (some ⟨b, off, none⟩) n cap) (hz : z = (k : Int)) (hk : k < n)
    (ht : P.underlying t = some (.slice e)) (hi : (P.info? e).map (·.size) = some s) : Val P A o (.pointer (some ⟨b, off + k * s, none⟩)) := fun w => by
  cases hq : P.info? e with
  | none => simp [hq] at hi
  | some inf =>
    have hs : inf.size = s := by simpa [hq] using hi
    subst hz hv
    unfold execOp
    simp [ho, hx, hp, Instr.indexAt, asIntOf, run_underlying ht, sizeOf, typeInfo, hq, hs, hk, Addr.add]
    all_goals (intro h; rcases h with h | h <;> simp_all)
theorem VR_ldM {P : Program} {A : Act} {o : Oper} {x : Operand} {T b off : Nat} {cs : List Value} {w : World} {d : TypeDesc} (ho : o.op = .load T x) (hx : EV A x = .pointer (some ⟨b, off, none⟩)) (hc : w.rangeAt b off cs)
    (hu : P.underlying T = some d) (hd : d.isRow = true) (hi : (P.info? T).map (·.size) = some cs.length) : ValW P A o w (.agg cs.toArray) := by
  unfold ValW execOp
  simp only [ho, hx, Sem.run_bind, run_loadAt_mid w b off T cs d hc hu hd hi, Result.andThen_ok, Sem.run_pure]
theorem V_max {P : Program} {A : Act} {o : Oper} {x y : Operand} {k : IntKind} {a b : Int} {ts : Array TypeId} (ho : o.op = .call { callee := .builtin .max, args := #[x, y], argTypes := ts }) (hx : EV A x = .int k a) (hy : EV A y = .int k b) : Val P A o (.int k (if b > a then b else a)) := fun w => by
  unfold execOp; simp [ho, hx, hy, resolve, invoke, builtin, Builtin.max_, Builtin.max2]
end Go.Own
namespace Go.Own
open Go Go.RowKit

/-- an array of n cells, one for each element. -/
def stA (P : Program) (T n : Nat) : Bool :=
  (match P.underlying T with
    | some (.array _ e) => (match P.info? e with | some ie => decide (ie.size = 1) | none => false)
    | _ => false) && (match P.info? T with | some i => (match i.zero with | some z => decide (z.cells.size = n) | none => false) | none => false)
theorem V_bldA {P : Program} {A : Act} {o : Oper} {T n : Nat} {parts : Array (Nat × Operand)} {ps : List (Nat × Value)} {z : Value} {cs : Array Value} (ho : o.op = .build T parts) (hp : (parts.map fun (i, x) => (i, EV A x)).toList = ps)
    (hT : stA P T n = true) (hone : ps.all (fun p => decide (p.1 < n) && p.2.oneCell') = true) (hz : (P.info? T).map (·.zero) = some (some z)) (hcs : ps.foldl (fun cs p => cs.setIfInBounds p.1 p.2) z.cells = cs) : Val P A o (.agg cs) := by
  refine V_bld ho hp ?_
  cases hq : P.info? T with
  | none => simp [hq] at hz
  | some i =>
    have hz' : i.zero = some z := by simpa [hq] using hz
    unfold stA at hT
    cases hu : P.underlying T with
    | none => simp [hu] at hT
    | some de =>
      cases de with
      | array m e =>
        simp only [hu, hq, hz', Bool.and_eq_true] at hT
        cases he : P.info? e with
        | none => simp [he] at hT
        | some ie =>
          simp only [he, decide_eq_true_eq] at hT
          obtain ⟨h1, h2⟩ := hT
          unfold Program.built
          simp only [hq, hu, hz', he, h1]
          subst hcs
          exact fill_fold n _ (fun i hi => by simp) ps _ h2 hone
      | _ => simp [hu] at hT
/-! stores through a slice: who shares the memory is unknown -/
theorem fre_idx {w : World} {B : Nat} {E : TypeId} {v : Value} {zs : List Int} (h : FreI w B E v zs) (k : Nat) (hk : k < zs.length) :
    ∃ b off cap cs, v = .slice (some ⟨b, off, none⟩) zs.length cap ∧ B ≤ b ∧ w.heap[b]? = some (.cells cs E (0, 0)) ∧ (decide (off + k < cs.size)) = true := by
  obtain ⟨b, off, cap, y, hv, hy, hc⟩ := at_ints h.1 k hk
  obtain ⟨h1, cs, h2⟩ := h.2 _ _ _ hv
  refine ⟨b, off, cap, cs, hv, h1, h2, ?_⟩
  rw [cell_of_row w b (off + k) cs E (0, 0) h2] at hc
  exact decide_eq_true (Array.getElem?_eq_some_iff.1 hc).1
theorem fre_set {w w' : World} {B g off : Nat} {E : TypeId} {v : Value} {zs : List Int} {cs : Array Value} {x : Int} (h : FreI w B E v zs) (t : Tch g w w') (hg : w.heap[g]? = some (.cells cs E (0, 0)))
    (hg' : w'.heap[g]? = some (.cells (cs.setIfInBounds off (.int .i64 x)) E (0, 0))) : ∃ zs', FreI w' B E v zs' := by
  by_cases hb : ∃ b n cap, v = .slice (some b) n cap ∧ b.block = g
  · obtain ⟨b, n, cap, rfl, rfl⟩ := hb
    obtain ⟨⟨a, cap', he, g1, g2, g3, g4, g5⟩, h2⟩ := h
    cases he
    obtain ⟨hs, hc⟩ := g5 b rfl
    refine ⟨(List.range zs.length).map fun j => if b.off + j = off then x else zs.getD j 0, ⟨some b, cap, by simp, ?_, g2, by simp, (fun h => by cases h), fun b' hb' => ?_⟩, fun b' n' cap' hv => ?_⟩
    · simpa using g1
    · cases hb'
      refine ⟨hs, fun j y hj => ?_⟩
      rw [List.map_map, List.getElem?_map, Option.map_eq_some_iff] at hj
      obtain ⟨i, hi, rfl⟩ := hj
      obtain ⟨hi1, hi2⟩ := List.getElem?_eq_some_iff.1 hi
      simp at hi1 hi2
      subst hi2
      have hold := hc j (.int .i64 zs[j]) (by rw [List.getElem?_map, List.getElem?_eq_getElem hi1]; rfl)
      rw [cell_of_row w b.block (b.off + j) cs E (0, 0) hg] at hold
      rw [cell_of_row w' b.block (b.off + j) _ E (0, 0) hg', Array.getElem?_setIfInBounds]
      by_cases he : off = b.off + j
      · subst he
        have := (Array.getElem?_eq_some_iff.1 hold).1
        simp [this]
      · rw [if_neg he, hold]
        have : ¬ b.off + j = off := fun h => he h.symm
        simp [this, hi1]
    · cases hv
      exact ⟨(h2 _ _ _ rfl).1, _, hg'⟩
  · refine ⟨zs, ?_⟩
    have hne : ∀ b n cap, v = .slice (some b) n cap → b.block ≠ g := fun b n cap hv e => hb ⟨b, n, cap, hv, e⟩
    obtain ⟨h1, h2⟩ := h
    refine ⟨?_, fun b n cap hv => ?_⟩
    · obtain ⟨a, cap, rfl, g1, g2, g3, g4, g5⟩ := h1
      refine ⟨a, cap, rfl, g1, g2, g3, g4, fun b hb' => ⟨(g5 b hb').1, fun j y hj => ?_⟩⟩
      subst hb'
      have := (g5 b rfl).2 j y hj
      unfold World.cell? at this ⊢
      rw [t.block b.block (hne b _ _ rfl)]; exact this
    · obtain ⟨q1, c, q2⟩ := h2 b n cap hv
      exact ⟨q1, c, (t.block _ (hne b n cap hv)).trans q2⟩
theorem fre_all {w w' : World} {B g off : Nat} {E : TypeId} {l : List Value} {cs : Array Value} {x : Int} (h : ∀ v ∈ l, ∃ zs, FreI w B E v zs) (t : Tch g w w') (hg : w.heap[g]? = some (.cells cs E (0, 0)))
    (hg' : w'.heap[g]? = some (.cells (cs.setIfInBounds off (.int .i64 x)) E (0, 0))) : ∀ v ∈ l, ∃ zs, FreI w' B E v zs := fun v hv => by
  obtain ⟨zs, hz⟩ := h v hv
  exact fre_set hz t hg hg'
theorem box_tchT {w w' : World} {g b : Nat} {T E : TypeId} {cs cs' : Array Value} {fr fr' : Nat × Nat} (h : w.heap[b]? = some (.cells cs T fr)) (t : Tch g w w') (hg : w.heap[g]? = some (.cells cs' E fr')) (hT : (T == E) = false) :
    w'.heap[b]? = some (.cells cs T fr) := by
  refine box_tch h t fun e => ?_
  subst e
  rw [hg] at h
  cases h
  simp at hT
theorem fre_len {w : World} {B n : Nat} {E : TypeId} {v : Value} {zs : List Int} {a : Option Addr} {c : Nat} (h : FreI w B E v zs) (hv : v = .slice a n c) : zs.length = n := by
  obtain ⟨a', c', h'⟩ := h.1.form
  rw [hv] at h'
  cases h'
  rfl
theorem all4 {p : Value → Prop} {a b c d : Value} (h1 : p a) (h2 : p b) (h3 : p c) (h4 : p d) : ∀ v ∈ [a, b, c, d], p v := by
  intro v hv
  simp only [List.mem_cons, List.not_mem_nil, or_false] at hv
  rcases hv with rfl | rfl | rfl | rfl <;> assumption
theorem get4 {l : List Value} {i n : Nat} (h : l.length = n) (hi : i < n) : ∃ v, (l.toArray)[i]? = some v ∧ v ∈ l := ⟨l[i], by simp, List.getElem_mem _⟩
theorem ints_le {w : World} {v : Value} {zs : List Int} (h : Ints w v zs) : zs.length ≤ 9223372036854775807 := by
  obtain ⟨a, cap, he, h1, h2, _⟩ := h
  simp at h1; omega
end Go.Own
