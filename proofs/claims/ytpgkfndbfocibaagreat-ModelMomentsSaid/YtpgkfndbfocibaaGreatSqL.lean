import Derived.Test.YtpgkfndbfocibaaGreatGen
import Derived.Test.YtpgkfndbfocibaaGreatSep
import Derived.Test.YtpgkfndbfocibaaGreatSepR
import Derived.Test.YtpgkfndbfocibaaGreatSepH
import Derived.Test.YtpgkfndbfocibaaGreatSepG
import Derived.Test.YtpgkfndbfocibaaGreatSepZ
import Derived.Test.YtpgkfndbfocibaaGreatSep2
import Derived.ProofKit
namespace Go.Own
open Go Go.RowKit

def noAgg (P : Program) (T : Nat) : Bool := match P.underlying T with
  | some (.struct _) => false
  | some (.array _ _) => false
  | some _ => true
  | none => false
def agN (P : Program) (T n : Nat) : Bool := (match P.underlying T with
  | some (.struct _) => true
  | some (.array _ _) => true
  | _ => false) && (match P.info? T with
  | some i => i.size == n
  | none => false)
def isSl (P : Program) (T : Nat) : Bool := match P.underlying T with
  | some (.slice _) => true
  | _ => false
def faOK (P : Program) (T f off off' : Nat) : Bool := match P.underlying T with
  | some (.struct fs) => match fs[f]? with
    | some fd => (((P.info? fd.type).map (·.size)).getD 0 != 0) && (off + fd.offset == off')
    | none => false
  | _ => false
theorem noAgg_o {P : Program} {T : Nat} (h : noAgg P T = true) : ∃ de, P.underlying T = some de ∧ (match de with | .struct _ | .array _ _ => true | _ => false) = false := by
  unfold noAgg at h
  cases e : P.underlying T with
  | none => rw [e] at h; cases h
  | some de => rw [e] at h; refine ⟨de, rfl, ?_⟩; cases de <;> first | rfl | (simp at h)
theorem agN_o {P : Program} {T n : Nat} (h : agN P T n = true) : ∃ de, P.underlying T = some de ∧ (match de with | .struct _ | .array _ _ => true | _ => false) = true ∧ (P.info? T).map (·.size) = some n := by
  unfold agN at h
  rw [Bool.and_eq_true] at h
  obtain ⟨h1, h2⟩ := h
  cases e : P.underlying T with
  | none => rw [e] at h1; cases h1
  | some de =>
    rw [e] at h1
    refine ⟨de, rfl, ?_, ?_⟩
    · cases de <;> first | rfl | (simp at h1)
    · cases q : P.info? T with
      | none => rw [q] at h2; cases h2
      | some i => rw [q] at h2; simp at h2; simp [h2]
theorem isSl_o {P : Program} {T : Nat} (h : isSl P T = true) : ∃ e, P.underlying T = some (.slice e) := by
  unfold isSl at h
  cases e : P.underlying T with
  | none => rw [e] at h; cases h
  | some de => rw [e] at h; cases de <;> first | exact ⟨_, rfl⟩ | (simp at h)
theorem faOK_o {P : Program} {T f off off' : Nat} (h : faOK P T f off off' = true) : ∃ (fs : Array Field) (fd : Field), P.underlying T = some (.struct fs) ∧ fs[f]? = some fd ∧ ((P.info? fd.type).map (·.size)).getD 0 ≠ 0 ∧ off + fd.offset = off' := by
  unfold faOK at h
  cases e : P.underlying T with
  | none => rw [e] at h; cases h
  | some de =>
    rw [e] at h
    cases de with
    | struct fs =>
      simp only at h
      cases q : fs[f]? with
      | none => rw [q] at h; cases h
      | some fd => rw [q] at h; simp only [Bool.and_eq_true, bne_iff_ne, ne_eq, beq_iff_eq] at h; exact ⟨fs, fd, rfl, q, h.1, h.2⟩
    | _ => simp at h
theorem t0 {A : Act} {N d : Nat} {u : Value} [h : SzN A N] (ht : decide (d < N) = true := by rfl) : EV (PT A d u) (.tmp d) = u := et ht
section
variable {A : Act} {t d0 d1 d2 d3 d4 d5 d6 d7 : Tmp} {u0 u1 u2 u3 u4 u5 u6 u7 v : Value}
theorem Sa (h : EV A (.tmp t) = v) (hd : (d0 == t) = false := by rfl) : EV (PT A d0 u0) (.tmp t) = v := es hd h
end
section
variable {P : Program} {ops : Array Oper} {l : List Oper} {A : Act} {Q : Exit → Act → World → Prop} {w w' : World} {d : Tmp} {v v1 v2 : Value} {x y : Operand} {k : IntKind} {a b n : Int} {ty : TypeId} {ps : String} {af : Array Edge} {op : Op} {N : Nat} {j t : Nat} {c : Bool}
theorem wv (hx : Val P A ⟨some d, op, ty, ps, af, none⟩ v) (h : WX P ops Q l (PT A d v) w) : WX P ops Q (⟨some d, op, ty, ps, af, none⟩ :: l) A w := W_v rfl rfl hx h
theorem wr (hx : ValW P A ⟨some d, op, ty, ps, af, none⟩ w v) (h : WX P ops Q l (PT A d v) w) : WX P ops Q (⟨some d, op, ty, ps, af, none⟩ :: l) A w := W_r rfl rfl hx h
theorem wg (hj : (ops[j]?).bind (·.dst) = some t) (hv : EV A (.tmp t) = .bool c) (hx : Val P A ⟨some d, op, ty, ps, af, some (j, c)⟩ v) (h : WX P ops Q l (PT A d v) w) (ht : t < A.tmps.size := by exact ez rfl) : WX P ops Q (⟨some d, op, ty, ps, af, some (j, c)⟩ :: l) A w := W_v rfl (wanted_t rfl hj hv ht) hx h
theorem wq (hj : (ops[j]?).bind (·.dst) = some t) (hv : EV A (.tmp t) = .bool c) (hx : ValW P A ⟨some d, op, ty, ps, af, some (j, c)⟩ w v) (h : WX P ops Q l (PT A d v) w) (ht : t < A.tmps.size := by exact ez rfl) : WX P ops Q (⟨some d, op, ty, ps, af, some (j, c)⟩ :: l) A w := W_r rfl (wanted_t rfl hj hv ht) hx h
theorem xo {c' : Bool} (hj : (ops[j]?).bind (·.dst) = some t) (hv : EV A (.tmp t) = .bool c') (h : WX P ops Q l (PT A d undef) w) (ht : t < A.tmps.size := by exact ez rfl) (hbc : (c' == c) = false := by rfl) : WX P ops Q (⟨some d, op, ty, ps, af, some (j, c)⟩ :: l) A w := W_off rfl (wanted_f rfl hj hv ht hbc) h
theorem uvm {g : Option (Nat × Bool)} {dd : Option Tmp} (h : EV A x = v) : Val P A ⟨dd, .move x, ty, ps, af, g⟩ v := V_mov rfl h
theorem uva {g : Option (Nat × Bool)} {dd : Option Tmp} (h : EV A x = v) : Val P A ⟨dd, .assign x, ty, ps, af, g⟩ v := V_asg rfl h
theorem uni {g : Option (Nat × Bool)} {dd : Option Tmp} {p : Addr} (h : EV A x = .pointer (some p)) : Val P A ⟨dd, .nilCheck x, ty, ps, af, g⟩ (.pointer (some p)) := V_nil rfl h
theorem uvT {g : Option (Nat × Bool)} {dd : Option Tmp} {z : Operand} (hz : EV A z = .bool true) (h : EV A x = v) : Val P A ⟨dd, .pick z x y, ty, ps, af, g⟩ v := V_pickT rfl hz h
theorem uvF {g : Option (Nat × Bool)} {dd : Option Tmp} {z : Operand} (hz : EV A z = .bool false) (h : EV A y = v) : Val P A ⟨dd, .pick z x y, ty, ps, af, g⟩ v := V_pickF rfl hz h
theorem uve {g : Option (Nat × Bool)} {dd : Option Tmp} {r s : TypeId} (hx : EV A x = .int k a) (hy : EV A y = .int k b) : Val P A ⟨dd, .binOp .eql r x y s, ty, ps, af, g⟩ (.bool (decide (a = b))) := V_eql rfl hx hy
theorem uvn {g : Option (Nat × Bool)} {dd : Option Tmp} {r s : TypeId} (hx : EV A x = .int k a) (hy : EV A y = .int k b) : Val P A ⟨dd, .binOp .neq r x y s, ty, ps, af, g⟩ (.bool (decide (a ≠ b))) := V_neq rfl hx hy
theorem uvl {g : Option (Nat × Bool)} {dd : Option Tmp} {r s : TypeId} (hx : EV A x = .int k a) (hy : EV A y = .int k b) : Val P A ⟨dd, .binOp .lss r x y s, ty, ps, af, g⟩ (.bool (decide (a < b))) := V_lss rfl hx hy
theorem uvg {g : Option (Nat × Bool)} {dd : Option Tmp} {r s : TypeId} (hx : EV A x = .int k a) (hy : EV A y = .int k b) : Val P A ⟨dd, .binOp .gtr r x y s, ty, ps, af, g⟩ (.bool (decide (b < a))) := V_gtr rfl hx hy
theorem uvh {g : Option (Nat × Bool)} {dd : Option Tmp} {r s : TypeId} (hx : EV A x = .int k a) (hy : EV A y = .int k b) : Val P A ⟨dd, .binOp .geq r x y s, ty, ps, af, g⟩ (.bool (decide (b ≤ a))) := V_geq rfl hx hy
theorem uvk {g : Option (Nat × Bool)} {dd : Option Tmp} {r s : TypeId} (hx : EV A x = .int k a) (hy : EV A y = .int k b) : Val P A ⟨dd, .binOp .leq r x y s, ty, ps, af, g⟩ (.bool (decide (a ≤ b))) := V_leq rfl hx hy
theorem uad {g : Option (Nat × Bool)} {dd : Option Tmp} {r s : TypeId} (hx : EV A x = .int .i64 a) (hy : EV A y = .int .i64 b) (h1 : -9223372036854775808 ≤ a + b := by omega) (h2 : a + b ≤ 9223372036854775807 := by omega) : Val P A ⟨dd, .binOp .add r x y s, ty, ps, af, g⟩ (.int .i64 (a + b)) := V_add rfl hx hy h1 h2
theorem usu {g : Option (Nat × Bool)} {dd : Option Tmp} {r s : TypeId} (hx : EV A x = .int .i64 a) (hy : EV A y = .int .i64 b) (h1 : -9223372036854775808 ≤ a - b := by omega) (h2 : a - b ≤ 9223372036854775807 := by omega) : Val P A ⟨dd, .binOp .sub r x y s, ty, ps, af, g⟩ (.int .i64 (a - b)) := V_sb rfl hx hy h1 h2
theorem uvx {g : Option (Nat × Bool)} {dd : Option Tmp} {i : Nat} {vs : Array Value} (v : Value) (hx : EV A x = .tuple vs) (hi : vs[i]? = some v := by rfl) : Val P A ⟨dd, .extract x i, ty, ps, af, g⟩ v := V_ext rfl hx hi
theorem ufa {g : Option (Nat × Bool)} {dd : Option Tmp} {T f off q : Nat} (off' : Nat) (hx : EV A x = .pointer (some ⟨q, off, none⟩)) (hu : faOK P T f off off' = true := by kernel_rfl) : Val P A ⟨dd, .fieldAddr T x f, ty, ps, af, g⟩ (.pointer (some ⟨q, off', none⟩)) := by
  obtain ⟨fs, fd, h1, h2, h3, h4⟩ := faOK_o hu
  exact V_fa rfl hx h1 h2 h3 h4
theorem ule_ {g : Option (Nat × Bool)} {dd : Option Tmp} {tt : TypeId} {wS : World} {s m : Nat} {xs : List Value} (hx : EV A x = v) (h : SlN wS s v m xs) (ht : isSl P tt = true := by kernel_rfl) : Val P A ⟨dd, .call { callee := .builtin .len, args := #[x], argTypes := #[tt] }, ty, ps, af, g⟩ (.int .i64 (m : Int)) := by
  obtain ⟨e, he⟩ := isSl_o ht
  exact V_lenS rfl hx h he
def fnOK (P : Program) (f : FuncId) : Bool := match P.funcs[f]? with
  | some fn => !(fn.name == "runtime.NumGoroutine") && !fn.body.isNone
  | none => false
theorem wc {f : FuncId} {xs : Array Operand} {ats : Array TypeId} {args : Array Value} {R : Ending → World → Prop} (ha : xs.map (EV A) = args) (hx : Calls P f args w R) (hR : ∀ e w', R e w' → ∃ v, e = .returned v ∧ WX P ops Q l (PT A d v) w') (hf : fnOK P f = true := by kernel_rfl) : WX P ops Q (⟨some d, .call { callee := .value (.func f), args := xs, argTypes := ats }, ty, ps, af, none⟩ :: l) A w := by
  unfold fnOK at hf
  cases e : P.funcs[f]? with
  | none => rw [e] at hf; cases hf
  | some fn =>
    rw [e] at hf
    simp only [Bool.and_eq_true, Bool.not_eq_true'] at hf
    exact W_call rfl rfl rfl e hf.1 hf.2 ha hx hR
theorem vm (h : EV A x = v) (k : WX P ops Q l (PT A d v) w) : WX P ops Q (⟨some d, .move x, ty, ps, af, none⟩ :: l) A w := wv (uvm h) k
theorem va (h : EV A x = v) (k : WX P ops Q l (PT A d v) w) : WX P ops Q (⟨some d, .assign x, ty, ps, af, none⟩ :: l) A w := wv (uva h) k
theorem vc (k : WX P ops Q l (PT A d v) w) : WX P ops Q (⟨some d, .assign (.const v), ty, ps, af, none⟩ :: l) A w := wv (uva rfl) k
theorem vt {u : Value} {d0 : Tmp} [i : SzN A N] (k : WX P ops Q l (PT (PT A d0 u) d u) w) (ht : decide (d0 < N) = true := by rfl) : WX P ops Q (⟨some d, .assign (.tmp d0), ty, ps, af, none⟩ :: l) (PT A d0 u) w := wv (uva (et ht)) k
theorem ni {p : Addr} (h : EV A x = .pointer (some p)) (k : WX P ops Q l (PT A d (.pointer (some p))) w) : WX P ops Q (⟨some d, .nilCheck x, ty, ps, af, none⟩ :: l) A w := wv (uni h) k
theorem vT {z : Operand} (hz : EV A z = .bool true) (h : EV A x = v) (k : WX P ops Q l (PT A d v) w) : WX P ops Q (⟨some d, .pick z x y, ty, ps, af, none⟩ :: l) A w := wv (uvT hz h) k
theorem vF {z : Operand} (hz : EV A z = .bool false) (h : EV A y = v) (k : WX P ops Q l (PT A d v) w) : WX P ops Q (⟨some d, .pick z x y, ty, ps, af, none⟩ :: l) A w := wv (uvF hz h) k
theorem ve {r s : TypeId} {k} (hx : EV A x = .int k a) (hy : EV A y = .int k b) (h : WX P ops Q l (PT A d (.bool (decide (a = b)))) w) : WX P ops Q (⟨some d, .binOp .eql r x y s, ty, ps, af, none⟩ :: l) A w := wv (uve hx hy) h
theorem vn {r s : TypeId} {k} (hx : EV A x = .int k a) (hy : EV A y = .int k b) (h : WX P ops Q l (PT A d (.bool (decide (a ≠ b)))) w) : WX P ops Q (⟨some d, .binOp .neq r x y s, ty, ps, af, none⟩ :: l) A w := wv (uvn hx hy) h
theorem vl {r s : TypeId} {k} (hx : EV A x = .int k a) (hy : EV A y = .int k b) (h : WX P ops Q l (PT A d (.bool (decide (a < b)))) w) : WX P ops Q (⟨some d, .binOp .lss r x y s, ty, ps, af, none⟩ :: l) A w := wv (uvl hx hy) h
theorem vg {r s : TypeId} {k} (hx : EV A x = .int k a) (hy : EV A y = .int k b) (h : WX P ops Q l (PT A d (.bool (decide (b < a)))) w) : WX P ops Q (⟨some d, .binOp .gtr r x y s, ty, ps, af, none⟩ :: l) A w := wv (uvg hx hy) h
theorem vh {r s : TypeId} {k} (hx : EV A x = .int k a) (hy : EV A y = .int k b) (h : WX P ops Q l (PT A d (.bool (decide (b ≤ a)))) w) : WX P ops Q (⟨some d, .binOp .geq r x y s, ty, ps, af, none⟩ :: l) A w := wv (uvh hx hy) h
theorem vk {r s : TypeId} {k} (hx : EV A x = .int k a) (hy : EV A y = .int k b) (h : WX P ops Q l (PT A d (.bool (decide (a ≤ b)))) w) : WX P ops Q (⟨some d, .binOp .leq r x y s, ty, ps, af, none⟩ :: l) A w := wv (uvk hx hy) h
theorem ad {r s : TypeId} (hx : EV A x = .int .i64 a) (hy : EV A y = .int .i64 b) (h : WX P ops Q l (PT A d (.int .i64 (a + b))) w) (h1 : -9223372036854775808 ≤ a + b := by omega) (h2 : a + b ≤ 9223372036854775807 := by omega) : WX P ops Q (⟨some d, .binOp .add r x y s, ty, ps, af, none⟩ :: l) A w := wv (uad hx hy h1 h2) h
theorem su {r s : TypeId} (hx : EV A x = .int .i64 a) (hy : EV A y = .int .i64 b) (h : WX P ops Q l (PT A d (.int .i64 (a - b))) w) (h1 : -9223372036854775808 ≤ a - b := by omega) (h2 : a - b ≤ 9223372036854775807 := by omega) : WX P ops Q (⟨some d, .binOp .sub r x y s, ty, ps, af, none⟩ :: l) A w := wv (usu hx hy h1 h2) h
theorem vx {i : Nat} {vs : Array Value} (v : Value) (hx : EV A x = .tuple vs) (h : WX P ops Q l (PT A d v) w) (hi : vs[i]? = some v := by rfl) : WX P ops Q (⟨some d, .extract x i, ty, ps, af, none⟩ :: l) A w := wv (uvx v hx hi) h
theorem fa {T f off q : Nat} (off' : Nat) (hx : EV A x = .pointer (some ⟨q, off, none⟩)) (h : WX P ops Q l (PT A d (.pointer (some ⟨q, off', none⟩))) w) (hu : faOK P T f off off' = true := by kernel_rfl) : WX P ops Q (⟨some d, .fieldAddr T x f, ty, ps, af, none⟩ :: l) A w := wv (ufa off' hx hu) h
theorem le_ {tt : TypeId} {wS : World} {s m : Nat} {xs : List Value} (hx : EV A x = v) (h : SlN wS s v m xs) (k : WX P ops Q l (PT A d (.int .i64 (m : Int))) w) (ht : isSl P tt = true := by kernel_rfl) : WX P ops Q (⟨some d, .call { callee := .builtin .len, args := #[x], argTypes := #[tt] }, ty, ps, af, none⟩ :: l) A w := wv (ule_ hx h ht) k
theorem urL {g : Option (Nat × Bool)} {dd : Option Tmp} {T q off T' : Nat} {cs : Array Value} {fr : Nat × Nat} (v : Value) (hx : EV A x = .pointer (some ⟨q, off, none⟩)) (hg : w.heap[q]? = some (.cells cs T' fr)) (hc : cs[off]? = some v := by rfl) (hu : noAgg P T = true := by kernel_rfl) : ValW P A ⟨dd, .load T x, ty, ps, af, g⟩ w v := by
  obtain ⟨de, h1, h2⟩ := noAgg_o hu
  exact VR_ldC rfl hx (cell_box hg hc) h1 (by cases de <;> first | rfl | simp at h2)
theorem ura {g : Option (Nat × Bool)} {dd : Option Tmp} {T q T' : Nat} {cs : Array Value} {fr : Nat × Nat} (hx : EV A x = .pointer (some ⟨q, 0, none⟩)) (hg : w.heap[q]? = some (.cells cs T' fr)) (hu : agN P T cs.size = true := by kernel_rfl) : ValW P A ⟨dd, .load T x, ty, ps, af, g⟩ w (.agg cs) := by
  obtain ⟨de, h1, h2, h3⟩ := agN_o hu
  exact VR_ldA rfl hx hg h1 (by cases de <;> first | rfl | simp at h2) h3
theorem urc {g : Option (Nat × Bool)} {dd : Option Tmp} {T : Nat} {p : Addr} (hx : EV A x = .pointer (some p)) (hc : w.cell? p = some v) (hu : noAgg P T = true := by kernel_rfl) : ValW P A ⟨dd, .load T x, ty, ps, af, g⟩ w v := by
  obtain ⟨de, h1, h2⟩ := noAgg_o hu
  exact VR_ldC rfl hx hc h1 (by cases de <;> first | rfl | simp at h2)
theorem urd {g : Option (Nat × Bool)} {dd : Option Tmp} {T : Nat} {p : Addr} (v : Value) (hx : EV A x = .pointer (some p)) (hc : w.cell? p = some v) (hu : noAgg P T = true := by kernel_rfl) : ValW P A ⟨dd, .load T x, ty, ps, af, g⟩ w v := urc hx hc hu
theorem rL {T q off T' : Nat} {cs : Array Value} {fr : Nat × Nat} (v : Value) (hx : EV A x = .pointer (some ⟨q, off, none⟩)) (hg : w.heap[q]? = some (.cells cs T' fr)) (k : WX P ops Q l (PT A d v) w) (hc : cs[off]? = some v := by rfl) (hu : noAgg P T = true := by kernel_rfl) : WX P ops Q (⟨some d, .load T x, ty, ps, af, none⟩ :: l) A w := wr (urL v hx hg hc hu) k
theorem ra {T q T' : Nat} {cs : Array Value} {fr : Nat × Nat} (hx : EV A x = .pointer (some ⟨q, 0, none⟩)) (hg : w.heap[q]? = some (.cells cs T' fr)) (k : WX P ops Q l (PT A d (.agg cs)) w) (hu : agN P T cs.size = true := by kernel_rfl) : WX P ops Q (⟨some d, .load T x, ty, ps, af, none⟩ :: l) A w := wr (ura hx hg hu) k
theorem rc {T : Nat} {p : Addr} (hx : EV A x = .pointer (some p)) (hc : w.cell? p = some v) (k : WX P ops Q l (PT A d v) w) (hu : noAgg P T = true := by kernel_rfl) : WX P ops Q (⟨some d, .load T x, ty, ps, af, none⟩ :: l) A w := wr (urc hx hc hu) k
theorem rd {T : Nat} {p : Addr} (v : Value) (hx : EV A x = .pointer (some p)) (hc : w.cell? p = some v) (k : WX P ops Q l (PT A d v) w) (hu : noAgg P T = true := by kernel_rfl) : WX P ops Q (⟨some d, .load T x, ty, ps, af, none⟩ :: l) A w := wr (urc hx hc hu) k
end
section
variable {P : Program} {ops : Array Oper} {w0 : World} {Φ : Nat → Option L.SPd} {e : Nat} {Z : Act → (Nat → L.SW → Prop) → Prop} {l : List Oper} {i : Nat} {A : Act} {F : Nat → L.SW → Prop} {d : Tmp} {v : Value} {x : Operand} {ty : TypeId} {ps : String} {af : Array Edge} {op : Op}
theorem dv (hx : Val P A ⟨some d, op, ty, ps, af, none⟩ v) (h : DK P ops w0 Φ e Z l (i + 1) (PT A d v) F) (he : (i == e) = false := by rfl) (hΦ : Φ i = none := by rfl) : DK P ops w0 Φ e Z (⟨some d, op, ty, ps, af, none⟩ :: l) i A F := D_v rfl rfl hx he hΦ h
theorem dr (hx : ∀ s : L.SW, Ext w0 s.1 → L.ancF ops i F s → ValW P A ⟨some d, op, ty, ps, af, none⟩ s.1 v) (h : DK P ops w0 Φ e Z l (i + 1) (PT A d v) F) (hE : L.early ops e i = true := by kernel_rfl) (he : (i == e) = false := by rfl) (hΦ : Φ i = none := by rfl) : DK P ops w0 Φ e Z (⟨some d, op, ty, ps, af, none⟩ :: l) i A F := D_r rfl rfl hE hx he hΦ h
theorem dm (hx : EV A x = v) (h : DK P ops w0 Φ e Z l (i + 1) (PT A d v) F) (he : (i == e) = false := by rfl) (hΦ : Φ i = none := by rfl) : DK P ops w0 Φ e Z (⟨some d, .move x, ty, ps, af, none⟩ :: l) i A F := dv (uvm hx) h he hΦ
theorem dn {p : Addr} (hx : EV A x = .pointer (some p)) (h : DK P ops w0 Φ e Z l (i + 1) (PT A d (.pointer (some p))) F) (he : (i == e) = false := by rfl) (hΦ : Φ i = none := by rfl) : DK P ops w0 Φ e Z (⟨some d, .nilCheck x, ty, ps, af, none⟩ :: l) i A F := dv (uni hx) h he hΦ
theorem dx {j : Nat} {vs : Array Value} (v : Value) (hx : EV A x = .tuple vs) (h : DK P ops w0 Φ e Z l (i + 1) (PT A d v) F) (hi : vs[j]? = some v := by rfl) (he : (i == e) = false := by rfl) (hΦ : Φ i = none := by rfl) : DK P ops w0 Φ e Z (⟨some d, .extract x j, ty, ps, af, none⟩ :: l) i A F := dv (uvx v hx hi) h he hΦ
theorem df {T f off q : Nat} (off' : Nat) (hx : EV A x = .pointer (some ⟨q, off, none⟩)) (h : DK P ops w0 Φ e Z l (i + 1) (PT A d (.pointer (some ⟨q, off', none⟩))) F) (hu : faOK P T f off off' = true := by kernel_rfl) (he : (i == e) = false := by rfl) (hΦ : Φ i = none := by rfl) : DK P ops w0 Φ e Z (⟨some d, .fieldAddr T x f, ty, ps, af, none⟩ :: l) i A F := dv (ufa off' hx hu) h he hΦ
end
section
variable {P : Program} {ops : Array Oper} {l : List Oper} {A : Act} {Q : Exit → Act → World → Prop} {w w0 : World} {X : Nat → Prop} {cs : List HP} {d : Tmp} {v : Value} {x : Operand} {ty : TypeId} {ps : String} {af : Array Edge}
theorem wB {T : TypeId} (zs : Array Value) (hS : St w0 X cs w) (hx : EV A x = v) (h : ∀ g w' c, c = bx g T zs → St w0 X (c :: cs) w' → WX P ops Q l (PT A d (.pointer (some ⟨g, 0, none⟩))) w') (hc : v.cells = zs := by rfl) : WX P ops Q (⟨some d, .box T x, ty, ps, af, none⟩ :: l) A w := W_boxS hS rfl rfl rfl hx hc h
theorem wA {T : TypeId} (zs : Array Value) (hS : St w0 X cs w) (h : ∀ g w' c, c = bx g T zs → St w0 X (c :: cs) w' → WX P ops Q l (PT A d (.pointer (some ⟨g, 0, none⟩))) w') (hz : (P.info? T).map (·.zero) = some (some (.agg zs)) := by kernel_rfl) : WX P ops Q (⟨some d, .alloc T, ty, ps, af, none⟩ :: l) A w := W_allocS hS rfl rfl rfl hz rfl h
theorem wZ {T : TypeId} (z : Value) (hS : St w0 X cs w) (h : ∀ g w' c, c = bx g T #[z] → St w0 X (c :: cs) w' → WX P ops Q l (PT A d (.pointer (some ⟨g, 0, none⟩))) w') (hz : (P.info? T).map (·.zero) = some (some z) := by kernel_rfl) (hc : z.cells = #[z] := by rfl) : WX P ops Q (⟨some d, .alloc T, ty, ps, af, none⟩ :: l) A w := W_allocS hS rfl rfl rfl hz hc h
end
section
variable {P : Program} {A a : Act} {Q : Exit → Act → World → Prop} {w : World} {x y : Code} {c : Operand} {e : Exit} {T : Type} {f : Act → T} {D : T} {l : List (Tmp × Value)} {N : Nat} {ops : Array Oper}
theorem cd {p : Prop} [Decidable p] (hc : EV A c = .bool (decide p)) (ht : p → x.wp P Q A w) (hf : ¬ p → y.wp P Q A w) : (Code.cond c x y).wp P Q A w := cond_dec hc ht hf
theorem en {e} [i : SzN a N] (h : FS a f D l) (k : ∀ A, SzN A N → FS A f D l → Q e A w) : Q e a w := k a i h
theorem eN {e} [i : SzN a N] (h : FS a f D l) (k : ∀ A, A = a → SzN A N → FS A f D l → Q e A w) : Q e a w := k a rfl i h
theorem tb {id : Nat} {l : List Oper} (h : ∀ K : Act → World → Prop, (∀ a w, y.wp P Q a w → K a w) → WX P l.toArray (Exit.then K Q) l A w) : (Code.seq (Code.region id l.toArray false) y).wp P Q A w := wp_seq_k fun K H => region_in (h K H)
theorem td (h : ∀ K : Act → World → Prop, (∀ a w, y.wp P Q a w → K a w) → x.wp P (Exit.then K Q) A w) : (Code.seq x y).wp P Q A w := wp_seq_k h
theorem ta {id : Nat} {l : List Oper} {K1 : Act → World → Prop} {Q1 : Exit → Act → World → Prop} (H : ∀ a w, (Code.seq (Code.region id l.toArray false) y).wp P Q a w → K1 a w) (h : ∀ K : Act → World → Prop, (∀ a w, y.wp P Q a w → K a w) → WX P l.toArray (Exit.then K Q) l A w) : Exit.then K1 Q1 .normal A w := tk H (tb h)
theorem tc {K1 : Act → World → Prop} {Q1 : Exit → Act → World → Prop} (H : ∀ a w, (Code.seq x y).wp P Q a w → K1 a w) (h : ∀ K : Act → World → Prop, (∀ a w, y.wp P Q a w → K a w) → x.wp P (Exit.then K Q) A w) : Exit.then K1 Q1 .normal A w := tk H (td h)
end
section
variable {P : Program} {A : Act} {w : World} {fn : Func} {r0 r1 r2 r3 r4 : ResultVar} {v0 v1 v2 v3 v4 : Value} {l : List (Tmp × Value)} {R : Ending → World → Prop}
theorem rt0 (F : FS A Act.defers [] l) (h : R (.returned (.tuple #[])) w) (hr : fn.results = #[] := by rfl) : bodyPost P fn R .ret A w := ret_in (results_0 hr) F.d h
theorem rt1 (F : FS A Act.defers [] l) (h0 : RVal P A w r0 v0) (h : R (.returned v0) w) (hr : fn.results = #[r0] := by rfl) : bodyPost P fn R .ret A w := ret_in (results_1 hr h0) F.d h
theorem rt2 (F : FS A Act.defers [] l) (h0 : RVal P A w r0 v0) (h1 : RVal P A w r1 v1) (h : R (.returned (.tuple #[v0, v1])) w) (hr : fn.results = #[r0, r1] := by rfl) : bodyPost P fn R .ret A w := ret_in (results_2 hr h0 h1) F.d h
theorem rt3 (F : FS A Act.defers [] l) (h0 : RVal P A w r0 v0) (h1 : RVal P A w r1 v1) (h2 : RVal P A w r2 v2) (h : R (.returned (.tuple #[v0, v1, v2])) w) (hr : fn.results = #[r0, r1, r2] := by rfl) : bodyPost P fn R .ret A w := ret_in (results_3 hr h0 h1 h2) F.d h
theorem rt4 (F : FS A Act.defers [] l) (h0 : RVal P A w r0 v0) (h1 : RVal P A w r1 v1) (h2 : RVal P A w r2 v2) (h3 : RVal P A w r3 v3) (h : R (.returned (.tuple #[v0, v1, v2, v3])) w) (hr : fn.results = #[r0, r1, r2, r3] := by rfl) : bodyPost P fn R .ret A w := ret_in (results_4 hr h0 h1 h2 h3) F.d h
theorem rvA {a T T' g : Nat} {cs : Array Value} {fr : Nat × Nat} (hx : EV A (.tmp a) = .pointer (some ⟨g, 0, none⟩)) (hg : w.heap[g]? = some (.cells cs T' fr)) (hu : agN P T cs.size = true := by kernel_rfl) : RVal P A w (.cell a T) (.agg cs) := by
  obtain ⟨de, h1, h2, h3⟩ := agN_o hu
  exact rv_cellA hx hg h1 (by cases de <;> first | rfl | simp at h2) h3
theorem rvC {a T : Nat} {p : Addr} (hx : EV A (.tmp a) = .pointer (some p)) (hc : w.cell? p = some v0) (hu : noAgg P T = true := by kernel_rfl) : RVal P A w (.cell a T) v0 := by
  obtain ⟨de, h1, h2⟩ := noAgg_o hu
  exact rv_cellC hx hc h1 (by cases de <;> first | rfl | simp at h2)
end
section
variable {A : Act} {N : Nat} {d0 d1 d2 d3 d4 d5 d6 d7 : Tmp} {u0 u1 u2 u3 u4 u5 u6 u7 : Value} {l : List (Tmp × Value)} {T : Type} {f : Act → T} {D : T}
theorem Qa {D} (h : FS A Act.defers D l) (hd : nin d0 l = true := by rfl) : FS (PT A d0 u0) Act.defers D l := cq1 h hd
theorem Ka {D} [i : SzN A N] (h : FS A Act.defers D l) (h0 : nin d0 l = true := by rfl) (g0 : decide (d0 < N) = true := by rfl) : FS (PT A d0 u0) Act.defers D ((d0, u0) :: l) := ck h h0 g0
theorem Qb {D} (h : FS A Act.defers D l) (hd : (nin d0 l && (nin d1 l)) = true := by rfl) : FS (PT (PT A d1 u1) d0 u0) Act.defers D l := cq2 h hd
theorem Qc {D} (h : FS A Act.defers D l) (hd : (nin d0 l && (nin d1 l && (nin d2 l))) = true := by rfl) : FS (PT (PT (PT A d2 u2) d1 u1) d0 u0) Act.defers D l := cq3 h hd
theorem Qd {D} (h : FS A Act.defers D l) (hd : (nin d0 l && (nin d1 l && (nin d2 l && (nin d3 l)))) = true := by rfl) : FS (PT (PT (PT (PT A d3 u3) d2 u2) d1 u1) d0 u0) Act.defers D l := cq4 h hd
theorem Qe {D} (h : FS A Act.defers D l) (hd : (nin d0 l && (nin d1 l && (nin d2 l && (nin d3 l && (nin d4 l))))) = true := by rfl) : FS (PT (PT (PT (PT (PT A d4 u4) d3 u3) d2 u2) d1 u1) d0 u0) Act.defers D l := cq5 h hd
theorem Qf {D} (h : FS A Act.defers D l) (hd : (nin d0 l && (nin d1 l && (nin d2 l && (nin d3 l && (nin d4 l && (nin d5 l)))))) = true := by rfl) : FS (PT (PT (PT (PT (PT (PT A d5 u5) d4 u4) d3 u3) d2 u2) d1 u1) d0 u0) Act.defers D l := cq6 h hd
theorem Qg {D} (h : FS A Act.defers D l) (hd : (nin d0 l && (nin d1 l && (nin d2 l && (nin d3 l && (nin d4 l && (nin d5 l && (nin d6 l))))))) = true := by rfl) : FS (PT (PT (PT (PT (PT (PT (PT A d6 u6) d5 u5) d4 u4) d3 u3) d2 u2) d1 u1) d0 u0) Act.defers D l := cq7 h hd
theorem Qh {D} (h : FS A Act.defers D l) (hd : (nin d0 l && (nin d1 l && (nin d2 l && (nin d3 l && (nin d4 l && (nin d5 l && (nin d6 l && (nin d7 l)))))))) = true := by rfl) : FS (PT (PT (PT (PT (PT (PT (PT (PT A d7 u7) d6 u6) d5 u5) d4 u4) d3 u3) d2 u2) d1 u1) d0 u0) Act.defers D l := cq8 h hd
theorem Sb {t : Tmp} {v : Value} (h : EV A (.tmp t) = v) (hd : (d0 == t || (d1 == t)) = false := by rfl) : EV (PT (PT A d1 u1) d0 u0) (.tmp t) = v := es2 hd h
theorem Sc {t : Tmp} {v : Value} (h : EV A (.tmp t) = v) (hd : (d0 == t || (d1 == t || (d2 == t))) = false := by rfl) : EV (PT (PT (PT A d2 u2) d1 u1) d0 u0) (.tmp t) = v := es3 hd h
theorem Sd {t : Tmp} {v : Value} (h : EV A (.tmp t) = v) (hd : (d0 == t || (d1 == t || (d2 == t || (d3 == t)))) = false := by rfl) : EV (PT (PT (PT (PT A d3 u3) d2 u2) d1 u1) d0 u0) (.tmp t) = v := es4 hd h
theorem Se {t : Tmp} {v : Value} (h : EV A (.tmp t) = v) (hd : (d0 == t || (d1 == t || (d2 == t || (d3 == t || (d4 == t))))) = false := by rfl) : EV (PT (PT (PT (PT (PT A d4 u4) d3 u3) d2 u2) d1 u1) d0 u0) (.tmp t) = v := es5 hd h
theorem Sf {t : Tmp} {v : Value} (h : EV A (.tmp t) = v) (hd : (d0 == t || (d1 == t || (d2 == t || (d3 == t || (d4 == t || (d5 == t)))))) = false := by rfl) : EV (PT (PT (PT (PT (PT (PT A d5 u5) d4 u4) d3 u3) d2 u2) d1 u1) d0 u0) (.tmp t) = v := es6 hd h
theorem Sg {t : Tmp} {v : Value} (h : EV A (.tmp t) = v) (hd : (d0 == t || (d1 == t || (d2 == t || (d3 == t || (d4 == t || (d5 == t || (d6 == t))))))) = false := by rfl) : EV (PT (PT (PT (PT (PT (PT (PT A d6 u6) d5 u5) d4 u4) d3 u3) d2 u2) d1 u1) d0 u0) (.tmp t) = v := es7 hd h
theorem Sh {t : Tmp} {v : Value} (h : EV A (.tmp t) = v) (hd : (d0 == t || (d1 == t || (d2 == t || (d3 == t || (d4 == t || (d5 == t || (d6 == t || (d7 == t)))))))) = false := by rfl) : EV (PT (PT (PT (PT (PT (PT (PT (PT A d7 u7) d6 u6) d5 u5) d4 u4) d3 u3) d2 u2) d1 u1) d0 u0) (.tmp t) = v := es8 hd h
theorem Kb {D} [i : SzN A N] (h : FS A Act.defers D l) (hd : (nin d0 l && nin d1 ((d0, u0) :: l) && decide (d0 < N) && decide (d1 < N)) = true := by rfl) : FS (PT (PT A d0 u0) d1 u1) Act.defers D ((d1, u1) :: (d0, u0) :: l) := by
  simp only [Bool.and_eq_true] at hd
  exact (ck (ck h (hd.1.1.1) (hd.1.2)) (hd.1.1.2) (hd.2))
theorem Kc {D} [i : SzN A N] (h : FS A Act.defers D l) (hd : (nin d0 l && nin d1 ((d0, u0) :: l) && nin d2 ((d1, u1) :: (d0, u0) :: l) && decide (d0 < N) && decide (d1 < N) && decide (d2 < N)) = true := by rfl) : FS (PT (PT (PT A d0 u0) d1 u1) d2 u2) Act.defers D ((d2, u2) :: (d1, u1) :: (d0, u0) :: l) := by
  simp only [Bool.and_eq_true] at hd
  exact (ck (ck (ck h (hd.1.1.1.1.1) (hd.1.1.2)) (hd.1.1.1.1.2) (hd.1.2)) (hd.1.1.1.2) (hd.2))
theorem Kd {D} [i : SzN A N] (h : FS A Act.defers D l) (hd : (nin d0 l && nin d1 ((d0, u0) :: l) && nin d2 ((d1, u1) :: (d0, u0) :: l) && nin d3 ((d2, u2) :: (d1, u1) :: (d0, u0) :: l) && decide (d0 < N) && decide (d1 < N) && decide (d2 < N) && decide (d3 < N)) = true := by rfl) : FS (PT (PT (PT (PT A d0 u0) d1 u1) d2 u2) d3 u3) Act.defers D ((d3, u3) :: (d2, u2) :: (d1, u1) :: (d0, u0) :: l) := by
  simp only [Bool.and_eq_true] at hd
  exact (ck (ck (ck (ck h (hd.1.1.1.1.1.1.1) (hd.1.1.1.2)) (hd.1.1.1.1.1.1.2) (hd.1.1.2)) (hd.1.1.1.1.1.2) (hd.1.2)) (hd.1.1.1.1.2) (hd.2))
theorem Ke {D} [i : SzN A N] (h : FS A Act.defers D l) (hd : (nin d0 l && nin d1 ((d0, u0) :: l) && nin d2 ((d1, u1) :: (d0, u0) :: l) && nin d3 ((d2, u2) :: (d1, u1) :: (d0, u0) :: l) && nin d4 ((d3, u3) :: (d2, u2) :: (d1, u1) :: (d0, u0) :: l) && decide (d0 < N) && decide (d1 < N) && decide (d2 < N) && decide (d3 < N) && decide (d4 < N)) = true := by rfl) : FS (PT (PT (PT (PT (PT A d0 u0) d1 u1) d2 u2) d3 u3) d4 u4) Act.defers D ((d4, u4) :: (d3, u3) :: (d2, u2) :: (d1, u1) :: (d0, u0) :: l) := by
  simp only [Bool.and_eq_true] at hd
  exact (ck (ck (ck (ck (ck h (hd.1.1.1.1.1.1.1.1.1) (hd.1.1.1.1.2)) (hd.1.1.1.1.1.1.1.1.2) (hd.1.1.1.2)) (hd.1.1.1.1.1.1.1.2) (hd.1.1.2)) (hd.1.1.1.1.1.1.2) (hd.1.2)) (hd.1.1.1.1.1.2) (hd.2))
theorem Kf {D} [i : SzN A N] (h : FS A Act.defers D l) (hd : (nin d0 l && nin d1 ((d0, u0) :: l) && nin d2 ((d1, u1) :: (d0, u0) :: l) && nin d3 ((d2, u2) :: (d1, u1) :: (d0, u0) :: l) && nin d4 ((d3, u3) :: (d2, u2) :: (d1, u1) :: (d0, u0) :: l) && nin d5 ((d4, u4) :: (d3, u3) :: (d2, u2) :: (d1, u1) :: (d0, u0) :: l) && decide (d0 < N) && decide (d1 < N) && decide (d2 < N) && decide (d3 < N) && decide (d4 < N) && decide (d5 < N)) = true := by rfl) : FS (PT (PT (PT (PT (PT (PT A d0 u0) d1 u1) d2 u2) d3 u3) d4 u4) d5 u5) Act.defers D ((d5, u5) :: (d4, u4) :: (d3, u3) :: (d2, u2) :: (d1, u1) :: (d0, u0) :: l) := by
  simp only [Bool.and_eq_true] at hd
  exact (ck (ck (ck (ck (ck (ck h (hd.1.1.1.1.1.1.1.1.1.1.1) (hd.1.1.1.1.1.2)) (hd.1.1.1.1.1.1.1.1.1.1.2) (hd.1.1.1.1.2)) (hd.1.1.1.1.1.1.1.1.1.2) (hd.1.1.1.2)) (hd.1.1.1.1.1.1.1.1.2) (hd.1.1.2)) (hd.1.1.1.1.1.1.1.2) (hd.1.2)) (hd.1.1.1.1.1.1.2) (hd.2))
theorem Kg {D} [i : SzN A N] (h : FS A Act.defers D l) (hd : (nin d0 l && nin d1 ((d0, u0) :: l) && nin d2 ((d1, u1) :: (d0, u0) :: l) && nin d3 ((d2, u2) :: (d1, u1) :: (d0, u0) :: l) && nin d4 ((d3, u3) :: (d2, u2) :: (d1, u1) :: (d0, u0) :: l) && nin d5 ((d4, u4) :: (d3, u3) :: (d2, u2) :: (d1, u1) :: (d0, u0) :: l) && nin d6 ((d5, u5) :: (d4, u4) :: (d3, u3) :: (d2, u2) :: (d1, u1) :: (d0, u0) :: l) && decide (d0 < N) && decide (d1 < N) && decide (d2 < N) && decide (d3 < N) && decide (d4 < N) && decide (d5 < N) && decide (d6 < N)) = true := by rfl) : FS (PT (PT (PT (PT (PT (PT (PT A d0 u0) d1 u1) d2 u2) d3 u3) d4 u4) d5 u5) d6 u6) Act.defers D ((d6, u6) :: (d5, u5) :: (d4, u4) :: (d3, u3) :: (d2, u2) :: (d1, u1) :: (d0, u0) :: l) := by
  simp only [Bool.and_eq_true] at hd
  exact (ck (ck (ck (ck (ck (ck (ck h (hd.1.1.1.1.1.1.1.1.1.1.1.1.1) (hd.1.1.1.1.1.1.2)) (hd.1.1.1.1.1.1.1.1.1.1.1.1.2) (hd.1.1.1.1.1.2)) (hd.1.1.1.1.1.1.1.1.1.1.1.2) (hd.1.1.1.1.2)) (hd.1.1.1.1.1.1.1.1.1.1.2) (hd.1.1.1.2)) (hd.1.1.1.1.1.1.1.1.1.2) (hd.1.1.2)) (hd.1.1.1.1.1.1.1.1.2) (hd.1.2)) (hd.1.1.1.1.1.1.1.2) (hd.2))
theorem Kh {D} [i : SzN A N] (h : FS A Act.defers D l) (hd : (nin d0 l && nin d1 ((d0, u0) :: l) && nin d2 ((d1, u1) :: (d0, u0) :: l) && nin d3 ((d2, u2) :: (d1, u1) :: (d0, u0) :: l) && nin d4 ((d3, u3) :: (d2, u2) :: (d1, u1) :: (d0, u0) :: l) && nin d5 ((d4, u4) :: (d3, u3) :: (d2, u2) :: (d1, u1) :: (d0, u0) :: l) && nin d6 ((d5, u5) :: (d4, u4) :: (d3, u3) :: (d2, u2) :: (d1, u1) :: (d0, u0) :: l) && nin d7 ((d6, u6) :: (d5, u5) :: (d4, u4) :: (d3, u3) :: (d2, u2) :: (d1, u1) :: (d0, u0) :: l) && decide (d0 < N) && decide (d1 < N) && decide (d2 < N) && decide (d3 < N) && decide (d4 < N) && decide (d5 < N) && decide (d6 < N) && decide (d7 < N)) = true := by rfl) : FS (PT (PT (PT (PT (PT (PT (PT (PT A d0 u0) d1 u1) d2 u2) d3 u3) d4 u4) d5 u5) d6 u6) d7 u7) Act.defers D ((d7, u7) :: (d6, u6) :: (d5, u5) :: (d4, u4) :: (d3, u3) :: (d2, u2) :: (d1, u1) :: (d0, u0) :: l) := by
  simp only [Bool.and_eq_true] at hd
  exact (ck (ck (ck (ck (ck (ck (ck (ck h (hd.1.1.1.1.1.1.1.1.1.1.1.1.1.1.1) (hd.1.1.1.1.1.1.1.2)) (hd.1.1.1.1.1.1.1.1.1.1.1.1.1.1.2) (hd.1.1.1.1.1.1.2)) (hd.1.1.1.1.1.1.1.1.1.1.1.1.1.2) (hd.1.1.1.1.1.2)) (hd.1.1.1.1.1.1.1.1.1.1.1.1.2) (hd.1.1.1.1.2)) (hd.1.1.1.1.1.1.1.1.1.1.1.2) (hd.1.1.1.2)) (hd.1.1.1.1.1.1.1.1.1.1.2) (hd.1.1.2)) (hd.1.1.1.1.1.1.1.1.1.2) (hd.1.2)) (hd.1.1.1.1.1.1.1.1.2) (hd.2))
end
section
variable {P : Program} {ops : Array Oper} {l : List Oper} {o : Oper} {A : Act} {Q : Exit → Act → World → Prop} {w w0 : World} {X : Nat → Prop} {cs : List HP} {c : HP} {v : Value} {x : Operand}
theorem ci0 {P : Program} {f : FuncId} {fn : Func} {c : Code} {w : World} {R : Ending → World → Prop}  (N : Nat) (hf : P.funcs[f]? = some fn) (hb : fn.body = some c) (h : ∀ A : Act, SzN A N → FS A Act.defers [] [] → c.wp P (bodyPost P fn R) A w) (hN : fn.ntmps = N := by rfl) (ha : decide (0 ≤ N) = true := by rfl) : Calls P f #[] w R := calls_in N hf hb hN (of_decide_eq_true ha) fun A h1 h2 h3 => h A ⟨h1⟩ (FS.n h2)
theorem ci1 {P : Program} {f : FuncId} {fn : Func} {c : Code} {w : World} {R : Ending → World → Prop} {a0 : Value} (N : Nat) (hf : P.funcs[f]? = some fn) (hb : fn.body = some c) (h : ∀ A : Act, SzN A N → FS A Act.defers [] [(0, a0)] → c.wp P (bodyPost P fn R) A w) (hN : fn.ntmps = N := by rfl) (ha : decide (1 ≤ N) = true := by rfl) : Calls P f #[a0] w R := calls_in N hf hb hN (of_decide_eq_true ha) fun A h1 h2 h3 => h A ⟨h1⟩ ((FS.n h2).c (h3 0 a0 rfl))
theorem ci2 {P : Program} {f : FuncId} {fn : Func} {c : Code} {w : World} {R : Ending → World → Prop} {a0 a1 : Value} (N : Nat) (hf : P.funcs[f]? = some fn) (hb : fn.body = some c) (h : ∀ A : Act, SzN A N → FS A Act.defers [] [(0, a0), (1, a1)] → c.wp P (bodyPost P fn R) A w) (hN : fn.ntmps = N := by rfl) (ha : decide (2 ≤ N) = true := by rfl) : Calls P f #[a0, a1] w R := calls_in N hf hb hN (of_decide_eq_true ha) fun A h1 h2 h3 => h A ⟨h1⟩ (((FS.n h2).c (h3 1 a1 rfl)).c (h3 0 a0 rfl))
theorem ci3 {P : Program} {f : FuncId} {fn : Func} {c : Code} {w : World} {R : Ending → World → Prop} {a0 a1 a2 : Value} (N : Nat) (hf : P.funcs[f]? = some fn) (hb : fn.body = some c) (h : ∀ A : Act, SzN A N → FS A Act.defers [] [(0, a0), (1, a1), (2, a2)] → c.wp P (bodyPost P fn R) A w) (hN : fn.ntmps = N := by rfl) (ha : decide (3 ≤ N) = true := by rfl) : Calls P f #[a0, a1, a2] w R := calls_in N hf hb hN (of_decide_eq_true ha) fun A h1 h2 h3 => h A ⟨h1⟩ ((((FS.n h2).c (h3 2 a2 rfl)).c (h3 1 a1 rfl)).c (h3 0 a0 rfl))
theorem ci4 {P : Program} {f : FuncId} {fn : Func} {c : Code} {w : World} {R : Ending → World → Prop} {a0 a1 a2 a3 : Value} (N : Nat) (hf : P.funcs[f]? = some fn) (hb : fn.body = some c) (h : ∀ A : Act, SzN A N → FS A Act.defers [] [(0, a0), (1, a1), (2, a2), (3, a3)] → c.wp P (bodyPost P fn R) A w) (hN : fn.ntmps = N := by rfl) (ha : decide (4 ≤ N) = true := by rfl) : Calls P f #[a0, a1, a2, a3] w R := calls_in N hf hb hN (of_decide_eq_true ha) fun A h1 h2 h3 => h A ⟨h1⟩ (((((FS.n h2).c (h3 3 a3 rfl)).c (h3 2 a2 rfl)).c (h3 1 a1 rfl)).c (h3 0 a0 rfl))
theorem ci5 {P : Program} {f : FuncId} {fn : Func} {c : Code} {w : World} {R : Ending → World → Prop} {a0 a1 a2 a3 a4 : Value} (N : Nat) (hf : P.funcs[f]? = some fn) (hb : fn.body = some c) (h : ∀ A : Act, SzN A N → FS A Act.defers [] [(0, a0), (1, a1), (2, a2), (3, a3), (4, a4)] → c.wp P (bodyPost P fn R) A w) (hN : fn.ntmps = N := by rfl) (ha : decide (5 ≤ N) = true := by rfl) : Calls P f #[a0, a1, a2, a3, a4] w R := calls_in N hf hb hN (of_decide_eq_true ha) fun A h1 h2 h3 => h A ⟨h1⟩ ((((((FS.n h2).c (h3 4 a4 rfl)).c (h3 3 a3 rfl)).c (h3 2 a2 rfl)).c (h3 1 a1 rfl)).c (h3 0 a0 rfl))
theorem xsA0 {T g T' : Nat} {old zs : Array Value} {y : Operand} (hS : St w0 X (c :: cs) w) (hc : c = bx g T' old) (hd : o.dst = none) (hw : Region.wanted o (yielded ops A.tmps) = true) (ho : o.op = .store T x y) (hx : EV A x = .pointer (some ⟨g, 0, none⟩)) (hy : EV A y = .agg zs) (h : ∀ w' c', c' = bx g T' zs → St w0 X (c' :: cs) w' → WX P ops Q l A w') (h1 : zs.all (·.oneCell') = true := by first | (rw [List.all_toArray] <;> rfl) | (simp only [List.all_toArray, List.all_cons, List.all_nil] <;> rfl)) (hs : old.size = zs.size := by rfl) (hif : (P.info? T).map (·.size) = some zs.size := by kernel_rfl) : WX P ops Q (o :: l) A w := xsA 0 hS rfl hc hd hw ho hx hy h h1 hs hif
theorem xsA1 {T g T' : Nat} {old zs : Array Value} {y : Operand} {e0 : HP} (hS : St w0 X (e0 :: c :: cs) w) (hc : c = bx g T' old) (hd : o.dst = none) (hw : Region.wanted o (yielded ops A.tmps) = true) (ho : o.op = .store T x y) (hx : EV A x = .pointer (some ⟨g, 0, none⟩)) (hy : EV A y = .agg zs) (h : ∀ w' c', c' = bx g T' zs → St w0 X (e0 :: c' :: cs) w' → WX P ops Q l A w') (h1 : zs.all (·.oneCell') = true := by first | (rw [List.all_toArray] <;> rfl) | (simp only [List.all_toArray, List.all_cons, List.all_nil] <;> rfl)) (hs : old.size = zs.size := by rfl) (hif : (P.info? T).map (·.size) = some zs.size := by kernel_rfl) : WX P ops Q (o :: l) A w := xsA 1 hS rfl hc hd hw ho hx hy h h1 hs hif
theorem xsA2 {T g T' : Nat} {old zs : Array Value} {y : Operand} {e0 e1 : HP} (hS : St w0 X (e0 :: e1 :: c :: cs) w) (hc : c = bx g T' old) (hd : o.dst = none) (hw : Region.wanted o (yielded ops A.tmps) = true) (ho : o.op = .store T x y) (hx : EV A x = .pointer (some ⟨g, 0, none⟩)) (hy : EV A y = .agg zs) (h : ∀ w' c', c' = bx g T' zs → St w0 X (e0 :: e1 :: c' :: cs) w' → WX P ops Q l A w') (h1 : zs.all (·.oneCell') = true := by first | (rw [List.all_toArray] <;> rfl) | (simp only [List.all_toArray, List.all_cons, List.all_nil] <;> rfl)) (hs : old.size = zs.size := by rfl) (hif : (P.info? T).map (·.size) = some zs.size := by kernel_rfl) : WX P ops Q (o :: l) A w := xsA 2 hS rfl hc hd hw ho hx hy h h1 hs hif
theorem xsA3 {T g T' : Nat} {old zs : Array Value} {y : Operand} {e0 e1 e2 : HP} (hS : St w0 X (e0 :: e1 :: e2 :: c :: cs) w) (hc : c = bx g T' old) (hd : o.dst = none) (hw : Region.wanted o (yielded ops A.tmps) = true) (ho : o.op = .store T x y) (hx : EV A x = .pointer (some ⟨g, 0, none⟩)) (hy : EV A y = .agg zs) (h : ∀ w' c', c' = bx g T' zs → St w0 X (e0 :: e1 :: e2 :: c' :: cs) w' → WX P ops Q l A w') (h1 : zs.all (·.oneCell') = true := by first | (rw [List.all_toArray] <;> rfl) | (simp only [List.all_toArray, List.all_cons, List.all_nil] <;> rfl)) (hs : old.size = zs.size := by rfl) (hif : (P.info? T).map (·.size) = some zs.size := by kernel_rfl) : WX P ops Q (o :: l) A w := xsA 3 hS rfl hc hd hw ho hx hy h h1 hs hif
theorem xsA5 {T g T' : Nat} {old zs : Array Value} {y : Operand} {e0 e1 e2 e3 e4 : HP} (hS : St w0 X (e0 :: e1 :: e2 :: e3 :: e4 :: c :: cs) w) (hc : c = bx g T' old) (hd : o.dst = none) (hw : Region.wanted o (yielded ops A.tmps) = true) (ho : o.op = .store T x y) (hx : EV A x = .pointer (some ⟨g, 0, none⟩)) (hy : EV A y = .agg zs) (h : ∀ w' c', c' = bx g T' zs → St w0 X (e0 :: e1 :: e2 :: e3 :: e4 :: c' :: cs) w' → WX P ops Q l A w') (h1 : zs.all (·.oneCell') = true := by first | (rw [List.all_toArray] <;> rfl) | (simp only [List.all_toArray, List.all_cons, List.all_nil] <;> rfl)) (hs : old.size = zs.size := by rfl) (hif : (P.info? T).map (·.size) = some zs.size := by kernel_rfl) : WX P ops Q (o :: l) A w := xsA 5 hS rfl hc hd hw ho hx hy h h1 hs hif
theorem xsB0 {T g T' : Nat} {old zs : Array Value} {y : Operand} (hS : St w0 X (c :: cs) w) (hc : c = bx g T' old) (hd : o.dst = none) (hw : Region.wanted o (yielded ops A.tmps) = true) (ho : o.op = .store T x y) (hx : EV A x = .pointer (some ⟨g, 0, none⟩)) (hy : EV A y = .agg zs) (h1 : zs.all (·.oneCell') = true) (h : ∀ w' c', c' = bx g T' zs → St w0 X (c' :: cs) w' → WX P ops Q l A w') (hs : old.size = zs.size := by rfl) (hif : (P.info? T).map (·.size) = some zs.size := by kernel_rfl) : WX P ops Q (o :: l) A w := xsB 0 hS rfl hc hd hw ho hx hy h1 h hs hif
theorem xsB1 {T g T' : Nat} {old zs : Array Value} {y : Operand} {e0 : HP} (hS : St w0 X (e0 :: c :: cs) w) (hc : c = bx g T' old) (hd : o.dst = none) (hw : Region.wanted o (yielded ops A.tmps) = true) (ho : o.op = .store T x y) (hx : EV A x = .pointer (some ⟨g, 0, none⟩)) (hy : EV A y = .agg zs) (h1 : zs.all (·.oneCell') = true) (h : ∀ w' c', c' = bx g T' zs → St w0 X (e0 :: c' :: cs) w' → WX P ops Q l A w') (hs : old.size = zs.size := by rfl) (hif : (P.info? T).map (·.size) = some zs.size := by kernel_rfl) : WX P ops Q (o :: l) A w := xsB 1 hS rfl hc hd hw ho hx hy h1 h hs hif
theorem xsB10 {T g T' : Nat} {old zs : Array Value} {y : Operand} {e0 e1 e2 e3 e4 e5 e6 e7 e8 e9 : HP} (hS : St w0 X (e0 :: e1 :: e2 :: e3 :: e4 :: e5 :: e6 :: e7 :: e8 :: e9 :: c :: cs) w) (hc : c = bx g T' old) (hd : o.dst = none) (hw : Region.wanted o (yielded ops A.tmps) = true) (ho : o.op = .store T x y) (hx : EV A x = .pointer (some ⟨g, 0, none⟩)) (hy : EV A y = .agg zs) (h1 : zs.all (·.oneCell') = true) (h : ∀ w' c', c' = bx g T' zs → St w0 X (e0 :: e1 :: e2 :: e3 :: e4 :: e5 :: e6 :: e7 :: e8 :: e9 :: c' :: cs) w' → WX P ops Q l A w') (hs : old.size = zs.size := by rfl) (hif : (P.info? T).map (·.size) = some zs.size := by kernel_rfl) : WX P ops Q (o :: l) A w := xsB 10 hS rfl hc hd hw ho hx hy h1 h hs hif
theorem xsB2 {T g T' : Nat} {old zs : Array Value} {y : Operand} {e0 e1 : HP} (hS : St w0 X (e0 :: e1 :: c :: cs) w) (hc : c = bx g T' old) (hd : o.dst = none) (hw : Region.wanted o (yielded ops A.tmps) = true) (ho : o.op = .store T x y) (hx : EV A x = .pointer (some ⟨g, 0, none⟩)) (hy : EV A y = .agg zs) (h1 : zs.all (·.oneCell') = true) (h : ∀ w' c', c' = bx g T' zs → St w0 X (e0 :: e1 :: c' :: cs) w' → WX P ops Q l A w') (hs : old.size = zs.size := by rfl) (hif : (P.info? T).map (·.size) = some zs.size := by kernel_rfl) : WX P ops Q (o :: l) A w := xsB 2 hS rfl hc hd hw ho hx hy h1 h hs hif
theorem xsB3 {T g T' : Nat} {old zs : Array Value} {y : Operand} {e0 e1 e2 : HP} (hS : St w0 X (e0 :: e1 :: e2 :: c :: cs) w) (hc : c = bx g T' old) (hd : o.dst = none) (hw : Region.wanted o (yielded ops A.tmps) = true) (ho : o.op = .store T x y) (hx : EV A x = .pointer (some ⟨g, 0, none⟩)) (hy : EV A y = .agg zs) (h1 : zs.all (·.oneCell') = true) (h : ∀ w' c', c' = bx g T' zs → St w0 X (e0 :: e1 :: e2 :: c' :: cs) w' → WX P ops Q l A w') (hs : old.size = zs.size := by rfl) (hif : (P.info? T).map (·.size) = some zs.size := by kernel_rfl) : WX P ops Q (o :: l) A w := xsB 3 hS rfl hc hd hw ho hx hy h1 h hs hif
theorem xsB4 {T g T' : Nat} {old zs : Array Value} {y : Operand} {e0 e1 e2 e3 : HP} (hS : St w0 X (e0 :: e1 :: e2 :: e3 :: c :: cs) w) (hc : c = bx g T' old) (hd : o.dst = none) (hw : Region.wanted o (yielded ops A.tmps) = true) (ho : o.op = .store T x y) (hx : EV A x = .pointer (some ⟨g, 0, none⟩)) (hy : EV A y = .agg zs) (h1 : zs.all (·.oneCell') = true) (h : ∀ w' c', c' = bx g T' zs → St w0 X (e0 :: e1 :: e2 :: e3 :: c' :: cs) w' → WX P ops Q l A w') (hs : old.size = zs.size := by rfl) (hif : (P.info? T).map (·.size) = some zs.size := by kernel_rfl) : WX P ops Q (o :: l) A w := xsB 4 hS rfl hc hd hw ho hx hy h1 h hs hif
theorem xsB5 {T g T' : Nat} {old zs : Array Value} {y : Operand} {e0 e1 e2 e3 e4 : HP} (hS : St w0 X (e0 :: e1 :: e2 :: e3 :: e4 :: c :: cs) w) (hc : c = bx g T' old) (hd : o.dst = none) (hw : Region.wanted o (yielded ops A.tmps) = true) (ho : o.op = .store T x y) (hx : EV A x = .pointer (some ⟨g, 0, none⟩)) (hy : EV A y = .agg zs) (h1 : zs.all (·.oneCell') = true) (h : ∀ w' c', c' = bx g T' zs → St w0 X (e0 :: e1 :: e2 :: e3 :: e4 :: c' :: cs) w' → WX P ops Q l A w') (hs : old.size = zs.size := by rfl) (hif : (P.info? T).map (·.size) = some zs.size := by kernel_rfl) : WX P ops Q (o :: l) A w := xsB 5 hS rfl hc hd hw ho hx hy h1 h hs hif
theorem xsB6 {T g T' : Nat} {old zs : Array Value} {y : Operand} {e0 e1 e2 e3 e4 e5 : HP} (hS : St w0 X (e0 :: e1 :: e2 :: e3 :: e4 :: e5 :: c :: cs) w) (hc : c = bx g T' old) (hd : o.dst = none) (hw : Region.wanted o (yielded ops A.tmps) = true) (ho : o.op = .store T x y) (hx : EV A x = .pointer (some ⟨g, 0, none⟩)) (hy : EV A y = .agg zs) (h1 : zs.all (·.oneCell') = true) (h : ∀ w' c', c' = bx g T' zs → St w0 X (e0 :: e1 :: e2 :: e3 :: e4 :: e5 :: c' :: cs) w' → WX P ops Q l A w') (hs : old.size = zs.size := by rfl) (hif : (P.info? T).map (·.size) = some zs.size := by kernel_rfl) : WX P ops Q (o :: l) A w := xsB 6 hS rfl hc hd hw ho hx hy h1 h hs hif
theorem xsC0 {T g off T' : Nat} {zs : Array Value} {y : Operand} {zs' : Array Value} (hS : St w0 X (c :: cs) w) (hc : c = bx g T' zs) (hd : o.dst = none) (hw : Region.wanted o (yielded ops A.tmps) = true) (ho : o.op = .store T x y) (hx : EV A x = .pointer (some ⟨g, off, none⟩)) (hy : EV A y = v) (h1 : v.oneCell' = true) (h : ∀ w' c', c' = bx g T' zs' → St w0 X (c' :: cs) w' → WX P ops Q l A w') (hlt : (decide (off < zs.size)) = true := by rfl) (hif : (P.info? T).map (·.size) = some 1 := by kernel_rfl) (hz : zs.setIfInBounds off v = zs' := by first | rfl | (simp only [List.setIfInBounds_toArray, List.set_cons_succ, List.set_cons_zero] <;> rfl)) : WX P ops Q (o :: l) A w := xsC 0 hS rfl hc hd hw ho hx hy h1 h hlt hif hz
theorem xsC1 {T g off T' : Nat} {zs : Array Value} {y : Operand} {zs' : Array Value} {e0 : HP} (hS : St w0 X (e0 :: c :: cs) w) (hc : c = bx g T' zs) (hd : o.dst = none) (hw : Region.wanted o (yielded ops A.tmps) = true) (ho : o.op = .store T x y) (hx : EV A x = .pointer (some ⟨g, off, none⟩)) (hy : EV A y = v) (h1 : v.oneCell' = true) (h : ∀ w' c', c' = bx g T' zs' → St w0 X (e0 :: c' :: cs) w' → WX P ops Q l A w') (hlt : (decide (off < zs.size)) = true := by rfl) (hif : (P.info? T).map (·.size) = some 1 := by kernel_rfl) (hz : zs.setIfInBounds off v = zs' := by first | rfl | (simp only [List.setIfInBounds_toArray, List.set_cons_succ, List.set_cons_zero] <;> rfl)) : WX P ops Q (o :: l) A w := xsC 1 hS rfl hc hd hw ho hx hy h1 h hlt hif hz
theorem xsC2 {T g off T' : Nat} {zs : Array Value} {y : Operand} {zs' : Array Value} {e0 e1 : HP} (hS : St w0 X (e0 :: e1 :: c :: cs) w) (hc : c = bx g T' zs) (hd : o.dst = none) (hw : Region.wanted o (yielded ops A.tmps) = true) (ho : o.op = .store T x y) (hx : EV A x = .pointer (some ⟨g, off, none⟩)) (hy : EV A y = v) (h1 : v.oneCell' = true) (h : ∀ w' c', c' = bx g T' zs' → St w0 X (e0 :: e1 :: c' :: cs) w' → WX P ops Q l A w') (hlt : (decide (off < zs.size)) = true := by rfl) (hif : (P.info? T).map (·.size) = some 1 := by kernel_rfl) (hz : zs.setIfInBounds off v = zs' := by first | rfl | (simp only [List.setIfInBounds_toArray, List.set_cons_succ, List.set_cons_zero] <;> rfl)) : WX P ops Q (o :: l) A w := xsC 2 hS rfl hc hd hw ho hx hy h1 h hlt hif hz
theorem xsC3 {T g off T' : Nat} {zs : Array Value} {y : Operand} {zs' : Array Value} {e0 e1 e2 : HP} (hS : St w0 X (e0 :: e1 :: e2 :: c :: cs) w) (hc : c = bx g T' zs) (hd : o.dst = none) (hw : Region.wanted o (yielded ops A.tmps) = true) (ho : o.op = .store T x y) (hx : EV A x = .pointer (some ⟨g, off, none⟩)) (hy : EV A y = v) (h1 : v.oneCell' = true) (h : ∀ w' c', c' = bx g T' zs' → St w0 X (e0 :: e1 :: e2 :: c' :: cs) w' → WX P ops Q l A w') (hlt : (decide (off < zs.size)) = true := by rfl) (hif : (P.info? T).map (·.size) = some 1 := by kernel_rfl) (hz : zs.setIfInBounds off v = zs' := by first | rfl | (simp only [List.setIfInBounds_toArray, List.set_cons_succ, List.set_cons_zero] <;> rfl)) : WX P ops Q (o :: l) A w := xsC 3 hS rfl hc hd hw ho hx hy h1 h hlt hif hz
theorem xsC4 {T g off T' : Nat} {zs : Array Value} {y : Operand} {zs' : Array Value} {e0 e1 e2 e3 : HP} (hS : St w0 X (e0 :: e1 :: e2 :: e3 :: c :: cs) w) (hc : c = bx g T' zs) (hd : o.dst = none) (hw : Region.wanted o (yielded ops A.tmps) = true) (ho : o.op = .store T x y) (hx : EV A x = .pointer (some ⟨g, off, none⟩)) (hy : EV A y = v) (h1 : v.oneCell' = true) (h : ∀ w' c', c' = bx g T' zs' → St w0 X (e0 :: e1 :: e2 :: e3 :: c' :: cs) w' → WX P ops Q l A w') (hlt : (decide (off < zs.size)) = true := by rfl) (hif : (P.info? T).map (·.size) = some 1 := by kernel_rfl) (hz : zs.setIfInBounds off v = zs' := by first | rfl | (simp only [List.setIfInBounds_toArray, List.set_cons_succ, List.set_cons_zero] <;> rfl)) : WX P ops Q (o :: l) A w := xsC 4 hS rfl hc hd hw ho hx hy h1 h hlt hif hz
theorem xsC5 {T g off T' : Nat} {zs : Array Value} {y : Operand} {zs' : Array Value} {e0 e1 e2 e3 e4 : HP} (hS : St w0 X (e0 :: e1 :: e2 :: e3 :: e4 :: c :: cs) w) (hc : c = bx g T' zs) (hd : o.dst = none) (hw : Region.wanted o (yielded ops A.tmps) = true) (ho : o.op = .store T x y) (hx : EV A x = .pointer (some ⟨g, off, none⟩)) (hy : EV A y = v) (h1 : v.oneCell' = true) (h : ∀ w' c', c' = bx g T' zs' → St w0 X (e0 :: e1 :: e2 :: e3 :: e4 :: c' :: cs) w' → WX P ops Q l A w') (hlt : (decide (off < zs.size)) = true := by rfl) (hif : (P.info? T).map (·.size) = some 1 := by kernel_rfl) (hz : zs.setIfInBounds off v = zs' := by first | rfl | (simp only [List.setIfInBounds_toArray, List.set_cons_succ, List.set_cons_zero] <;> rfl)) : WX P ops Q (o :: l) A w := xsC 5 hS rfl hc hd hw ho hx hy h1 h hlt hif hz
theorem xsC6 {T g off T' : Nat} {zs : Array Value} {y : Operand} {zs' : Array Value} {e0 e1 e2 e3 e4 e5 : HP} (hS : St w0 X (e0 :: e1 :: e2 :: e3 :: e4 :: e5 :: c :: cs) w) (hc : c = bx g T' zs) (hd : o.dst = none) (hw : Region.wanted o (yielded ops A.tmps) = true) (ho : o.op = .store T x y) (hx : EV A x = .pointer (some ⟨g, off, none⟩)) (hy : EV A y = v) (h1 : v.oneCell' = true) (h : ∀ w' c', c' = bx g T' zs' → St w0 X (e0 :: e1 :: e2 :: e3 :: e4 :: e5 :: c' :: cs) w' → WX P ops Q l A w') (hlt : (decide (off < zs.size)) = true := by rfl) (hif : (P.info? T).map (·.size) = some 1 := by kernel_rfl) (hz : zs.setIfInBounds off v = zs' := by first | rfl | (simp only [List.setIfInBounds_toArray, List.set_cons_succ, List.set_cons_zero] <;> rfl)) : WX P ops Q (o :: l) A w := xsC 6 hS rfl hc hd hw ho hx hy h1 h hlt hif hz
theorem xsC9 {T g off T' : Nat} {zs : Array Value} {y : Operand} {zs' : Array Value} {e0 e1 e2 e3 e4 e5 e6 e7 e8 : HP} (hS : St w0 X (e0 :: e1 :: e2 :: e3 :: e4 :: e5 :: e6 :: e7 :: e8 :: c :: cs) w) (hc : c = bx g T' zs) (hd : o.dst = none) (hw : Region.wanted o (yielded ops A.tmps) = true) (ho : o.op = .store T x y) (hx : EV A x = .pointer (some ⟨g, off, none⟩)) (hy : EV A y = v) (h1 : v.oneCell' = true) (h : ∀ w' c', c' = bx g T' zs' → St w0 X (e0 :: e1 :: e2 :: e3 :: e4 :: e5 :: e6 :: e7 :: e8 :: c' :: cs) w' → WX P ops Q l A w') (hlt : (decide (off < zs.size)) = true := by rfl) (hif : (P.info? T).map (·.size) = some 1 := by kernel_rfl) (hz : zs.setIfInBounds off v = zs' := by first | rfl | (simp only [List.setIfInBounds_toArray, List.set_cons_succ, List.set_cons_zero] <;> rfl)) : WX P ops Q (o :: l) A w := xsC 9 hS rfl hc hd hw ho hx hy h1 h hlt hif hz
end
section
variable {w0 w w' : World} {X : Nat → Prop} {l : List HP}
theorem St.a1 {e0 : HP} (h : St w0 X ([e0] ++ l) w) : St w0 X (e0 :: l) w := h
theorem St.a2 {e0 e1 : HP} (h : St w0 X ([e0, e1] ++ l) w) : St w0 X (e0 :: e1 :: l) w := h
theorem St.a5 {e0 e1 e2 e3 e4 : HP} (h : St w0 X ([e0, e1, e2, e3, e4] ++ l) w) : St w0 X (e0 :: e1 :: e2 :: e3 :: e4 :: l) w := h
theorem St.j0 (h : St w0 X l w) (k : St w NoX [] w') : St w0 X (l) w' := h.join k
theorem St.j1 {e0 : HP} (h : St w0 X l w) (k : St w NoX [e0] w') : St w0 X (e0 :: l) w' := h.join k
theorem St.j2 {e0 e1 : HP} (h : St w0 X l w) (k : St w NoX [e0, e1] w') : St w0 X (e0 :: e1 :: l) w' := h.join k
theorem St.j3 {e0 e1 e2 : HP} (h : St w0 X l w) (k : St w NoX [e0, e1, e2] w') : St w0 X (e0 :: e1 :: e2 :: l) w' := h.join k
theorem St.j4 {e0 e1 e2 e3 : HP} (h : St w0 X l w) (k : St w NoX [e0, e1, e2, e3] w') : St w0 X (e0 :: e1 :: e2 :: e3 :: l) w' := h.join k
theorem St.se (h : St w0 X l w) (is : List Nat) (l' : List HP) (hl : is.map (fun i => l[i]?) = l'.map some := by rfl) (hn : is.Nodup := by decide) : St w0 X l' w := h.sel is hn hl
theorem C0 {P : Program} {ops : Array Oper} {l0 : List Oper} {A : Act} {Q : Exit → Act → World → Prop} {d : Tmp} {v : Value} (S : St w0 X l w) (k : ∀ w', St w0 X l w' → WX P ops Q l0 (PT A d v) w') : ∀ (e : Ending) (w' : World), (e = .returned v ∧ St w NoX [] w') → ∃ u, e = .returned u ∧ WX P ops Q l0 (PT A d u) w' := fun e w' h => ⟨v, h.1, k w' (S.join h.2)⟩
theorem St.f1 {c a : HP} (h : St w0 X l w) (i : Nat) (hc : c = a) (hi : l[i]? = some c := by rfl) : St w0 X [a] w := h.fin1 i hi hc
theorem St.f2 {c d a b : HP} (h : St w0 X l w) (i : Nat) (hc : c = a) (j : Nat) (hd : d = b) (hi : l[i]? = some c := by rfl) (hj : l[j]? = some d := by rfl) (hn : (decide (i = j)) = false := by decide) : St w0 X [a, b] w := h.fin2 i hi hc j hj hd hn
theorem St.f3 {c d e a b a' : HP} (h : St w0 X l w) (i : Nat) (hc : c = a) (j : Nat) (hd : d = b) (k : Nat) (he : e = a') (hi : l[i]? = some c := by rfl) (hj : l[j]? = some d := by rfl) (hk : l[k]? = some e := by rfl) (hn : ([i, j, k] : List Nat).Nodup := by decide) : St w0 X [a, b, a'] w := h.fin3 i hi hc j hj hd k hk he hn
theorem St.f4 {c d e g a b a' g' : HP} (h : St w0 X l w) (i : Nat) (hc : c = a) (j : Nat) (hd : d = b) (k : Nat) (he : e = a') (m : Nat) (hg : g = g') (hi : l[i]? = some c := by rfl) (hj : l[j]? = some d := by rfl) (hk : l[k]? = some e := by rfl) (hm : l[m]? = some g := by rfl) (hn : ([i, j, k, m] : List Nat).Nodup := by decide) : St w0 X [a, b, a', g'] w := h.fin4 i hi hc j hj hd k hk he m hm hg hn
theorem St.ob {g : Nat} {o : Obj} {c : HP} (h : St w0 X l w) (i : Nat) (hc : c = Go.Own.ob g o) (hi : l[i]? = some c := by rfl) : w.heap[g]? = some o := h.obj i hi hc
theorem St.cq {c c' : HP} (h : St w0 X l w) (i : Nat) (hc : c = c') (hi : l[i]? = some c := by rfl) : c'.at w := h.chq i hi hc
theorem St.cC {c c' : HP} (h : St w0 X l w) (i : Nat) (hc : c = c') (hi : l[i]? = some c := by rfl) : Ro w NoX c' := h.chC i hi hc
end
section
variable {p : Prop}
theorem om (h : p := by first | omega | (simp only [List.length_cons, List.length_nil]; omega) | (simp only [List.length_set]; omega) | decide) : p := h
theorem kr (h : p := by kernel_rfl) : p := h
theorem Za (h : p := by first | rfl | (simp; done) | (congr 1; omega)) : p := h
theorem Zb (h : p := by omega) : p := h
theorem Zc (h : p := by first | (simp; done) | (rw [List.take_of_length_le (l := List.drop _ _) (by rw [List.length_drop]; exact Nat.le_refl _)])) : p := h
theorem Zd (h : p := by first | omega | (simp; done) | (simp; omega)) : p := h
theorem Ze (h : p := by first | with_reducible assumption) : p := h
theorem Zf (h : p := by first | with_reducible assumption | omega) : p := h
theorem Zg (h : p := by decide) : p := h
theorem Zh (h : p := by first | omega | (simp only [List.length_cons, List.length_nil]; omega) | decide) : p := h
theorem Zi (h : p := by rfl) : p := h
theorem Zj (h : p := by decide +kernel) : p := h
theorem Zk (h : p := by simp only; omega) : p := h
theorem Zl (h : p := by first | with_reducible assumption | decide +kernel) : p := h
theorem Zm (h : p := by first | omega | with_reducible assumption) : p := h
theorem Zn (h : p := by simp only [List.foldl_cons, List.foldl_nil, Value.cells, List.setIfInBounds_toArray, List.set_cons_succ, List.set_cons_zero] <;> rfl) : p := h
theorem Zo (h : p := by simp) : p := h
theorem Zp (h : p := by rw [List.length_map]; omega) : p := h
theorem Zq (h : p := by first | (simp only [List.length_map]; omega) | omega) : p := h
theorem Zr (h : p := by assumption) : p := h
theorem Zs (h : p := by first | (simp; done) | decide +kernel) : p := h
theorem Zt (h : p := by first | (simp; done) | exact List.take_of_length_le (by rw [List.length_drop]; omega)) : p := h
theorem Zu (h : p := by first | with_reducible assumption | (rw [List.length_drop, List.length_take]; omega)) : p := h
theorem Zv (h : p := by simp [List.length_take]; omega) : p := h
theorem Zw (h : p := by first | with_reducible assumption | decide | (simp; done) | omega) : p := h
theorem Zx (h : p := by simp only [List.length_append, List.length_singleton]; congr 1) : p := h
end
end Go.Own
