import Derived.Orders
import Derived.Below
import Derived.StillTail
import Derived.WalkKit
import Derived.WalkSpells
import Derived.Laws.AppendOwnNone
import Derived.BigQuiet
namespace Go.Own
open Go Go.RowKit
abbrev Ext (w w' : World) : Prop := Below w.heap.size w w'
theorem Ext.rfl' (w : World) : Ext w w := Below.refl _ _
theorem Ext.tr {a b c : World} (h : Ext a b) (k : Ext b c) : Ext a c := Below.trans h (k.mono h.size)
def Stable (f : World → Prop) : Prop := ∀ w w', Ext w w' → f w → f w'
structure SP where
 p : World → Value → Prop
 st : ∀ u, Stable fun w => p w u
section
variable {P : Program} {ops : Array Oper}
def wpU (P : Program) (o : Oper) (a : Act) (w : World) (R : Value → World → Prop) : Prop :=
 match (execOp a.eval o).run P w with
 | .ok (.value v) w' => R v w'
 | .ok .skip w' => R undef w'
 | .ok (.enter f args) w' => Calls P f args w' fun e w'' => match e with | .returned v => R v w'' | _ => False
 | _ => False
theorem wpU_mono {o : Oper} {a : Act} {w : World} {R R' : Value → World → Prop} (hr : ∀ u w', R u w' → R' u w') (h : wpU P o a w R) : wpU P o a w R' := by
 unfold wpU at *
 split <;> simp_all
 exact h.mono fun e w'' he => by cases e <;> simp_all
theorem wpU_congr {o : Oper} {a b : Act} {w : World} {R : Value → World → Prop} (he : execOp a.eval o = execOp b.eval o) (h : wpU P o a w R) : wpU P o b w R := by
 unfold wpU at *
 rwa [← he]
theorem wpU_ex {o : Oper} {a : Act} {w : World} {R : Value → World → Prop} (h : wpU P o a w R) : ∃ u w', R u w' := by
 unfold wpU at h
 split at h
 ·exact ⟨_, _, h⟩
 ·exact ⟨_, _, h⟩
 ·obtain ⟨e, w', fr, r, _⟩ := h []
  cases e with
  | returned v => exact ⟨_, _, r⟩
  | _ => exact r.elim
 ·exact h.elim
theorem wpU_wp {o : Oper} {a : Act} {w : World} {R : Value → World → Prop} {K : Act → World → Prop} {Q : Exit → Act → World → Prop}
  (h : wpU P o a w R) (hk : ∀ u w', R u w' → K (a.put o.dst u) w') : o.wp P a w K Q := by
 unfold wpU at h
 unfold Oper.wp
 split at h
 ·rename_i heq; rw [heq]; exact hk _ _ h
 ·rename_i heq; rw [heq]; exact hk _ _ h
 ·rename_i heq; rw [heq]
  exact h.mono fun e w'' he => by cases e <;> simp_all
 ·exact h.elim
def Qo (Q : Exit → Act → World → Prop) : Exit → Act → World → Prop := fun x a w => match x with | .normal => Q .normal a w | _ => False
def upd (F : Nat → World → Prop) (i : Nat) (f : World → Prop) : Nat → World → Prop := fun k w => F k w ∧ (k = i → f w)
def anc (ops : Array Oper) (i k : Nat) : Bool := ((Region.before ops).getD i 0).testBit k
def ancF (ops : Array Oper) (i : Nat) (F : Nat → World → Prop) (w : World) : Prop := ∀ k, anc ops i k = true → F k w
variable (P ops)
variable (W : World → Prop) (Φ : Nat → Option SP) (e : Nat) (Q : Exit → Act → World → Prop)
def early (i : Nat) : Bool := decide (ops.size ≤ e) || anc ops e i
def pureV (i : Nat) (o : Oper) (a : Act) (F : Nat → World → Prop) (x : Value) : Prop :=
 ∀ w, (early ops e i = true → W w ∧ ancF ops i F w) → (execOp a.eval o).run P w = .ok (.value x) w
variable {P ops W Φ e Q}
def Closed (ops : Array Oper) (listed : Array Bool) : Prop :=
 ∀ i o, ops[i]? = some o → listed.getD i false = true → ∀ d ∈ o.after, Region.binds .any d = true → listed.getD d.on false = true
def AncOk (ops : Array Oper) : Prop :=
 ∀ i k, anc ops i k = true → ∃ o, ops[i]? = some o ∧ ∃ d ∈ o.after, Region.binds .any d = true ∧ d.on < i ∧ (d.on = k ∨ anc ops d.on k = true)
theorem Closed.set {listed : Array Bool} {i : Nat} (h : Closed ops listed) (hr : i ∈ Region.ready .any ops listed) : Closed ops (listed.setIfInBounds i true) := by
 intro j o ho hl d hd hb
 by_cases hij : i = j
 ·subst hij
  obtain ⟨_, o', ho', hall⟩ := mem_ready.1 hr
  rw [ho] at ho'; cases ho'
  exact getD_set_true (hall d hd hb)
 ·rw [getD_set_ne false hij] at hl
  exact getD_set_true (h j o ho hl d hd hb)
def YP (P : Program) (ops : Array Oper) (W : World → Prop) (Φ : Nat → Option SP) (e i : Nat) (o : Oper) (a : Act) (F : Nat → World → Prop) (x : Value) : Prop :=
 (Region.wanted o (yielded ops a.tmps) = true ∧ Φ i = none ∧ pureV P ops W e i o a F x) ∨ (Region.wanted o (yielded ops a.tmps) = false ∧ x = undef)
theorem YP.same {i : Nat} {o : Oper} {a b : Act} {F F' : Nat → World → Prop} {x : Value} (h : YP P ops W Φ e i o a F x) (he : execOp b.eval o = execOp a.eval o)
  (hw : Region.wanted o (yielded ops b.tmps) = Region.wanted o (yielded ops a.tmps)) (hF : ∀ w, ancF ops i F' w → ancF ops i F w) : YP P ops W Φ e i o b F' x := by
 unfold YP pureV at *
 rw [he, hw]
 rcases h with ⟨h1, h0, h2⟩ | h
 ·exact .inl ⟨h1, h0, fun w hh => h2 w fun hh' => ⟨(hh hh').1, hF w (hh hh').2⟩⟩
 ·exact .inr h
def ancB (ops : Array Oper) : Bool :=
 (List.range ops.size).all fun i =>
  decide ((Region.before ops).getD i 0 < 2 ^ i) &&
  (List.range i).all fun k => !((Region.before ops).getD i 0).testBit k ||
   ((ops[i]?).map fun o => o.after.any fun d => Region.binds .any d && decide (d.on < i) && (d.on == k || ((Region.before ops).getD d.on 0).testBit k)).getD false
theorem ancB_size (ops : Array Oper) : (Region.before ops).size = ops.size := by
 unfold Region.before
 refine Array.foldl_induction (motive := fun i (acc : Array Nat) => acc.size = i) rfl ?_
 intro i acc h
 simp [h]
theorem AncOk.of (h : ancB ops = true) : AncOk ops := by
 intro i k ha
 unfold anc at ha
 by_cases hi : i < ops.size
 ·simp only [ancB, List.all_eq_true, List.mem_range, Bool.and_eq_true, decide_eq_true_eq] at h
  obtain ⟨h1, h2⟩ := h i hi
  have hk : k < i := by
   rcases Nat.lt_or_ge k i with hk | hk
   ·exact hk
   ·exfalso
    have := Nat.testBit_lt_two_pow (Nat.lt_of_lt_of_le h1 (Nat.pow_le_pow_right (by omega) hk))
    rw [this] at ha; cases ha
  have h3 := h2 k hk
  rw [ha] at h3
  have ho : ops[i]? = some ops[i] := Array.getElem?_eq_getElem hi
  simp only [ho, Bool.not_true, Bool.false_or, Option.map_some, Option.getD_some] at h3
  obtain ⟨d, hd, hh⟩ := Array.any_eq_true'.1 h3
  simp only [Bool.and_eq_true, decide_eq_true_eq, Bool.or_eq_true, beq_iff_eq] at hh
  exact ⟨_, ho, d, hd, hh.1.1, hh.1.2, hh.2⟩
 ·rw [Array.getD_eq_getD_getElem?, Array.getElem?_eq_none (by rw [ancB_size]; omega)] at ha
  simp at ha
end
end Go.Own

namespace Go.Own
open Go Go.RowKit
def SlN (w : World) (s : Nat) (v : Value) (n : Nat) (xs : List Value) : Prop :=
 ∃ a cap, v = .slice a n cap ∧ n ≤ cap ∧ cap ≤ 9223372036854775807 ∧ xs.length = n * s ∧ (a = none → n = 0) ∧
  ∀ b, a = some b → (0 < cap → b.spot = none) ∧ ∀ (j : Nat) (x : Value), xs[j]? = some x → w.cell? ⟨b.block, b.off + j, none⟩ = some x
theorem SlN.ext {w w' : World} {s n : Nat} {v : Value} {xs : List Value} (h : SlN w s v n xs) (he : Ext w w') : SlN w' s v n xs := by
 obtain ⟨a, cap, rfl, h1, h2, h3, h4, h5⟩ := h
 refine ⟨a, cap, rfl, h1, h2, h3, h4, fun b hb => ⟨(h5 b hb).1, fun j x hj => ?_⟩⟩
 have hc := (h5 b hb).2 j x hj
 rw [he.cell (World.block_lt_of_cell? _ _ hc)]
 exact hc
def Sl (w : World) (v : Value) (xs : List Value) : Prop := SlN w 1 v xs.length xs
def Ints (w : World) (v : Value) (zs : List Int) : Prop := Sl w v (zs.map (Value.int .i64))
theorem Ints.ext {w w' : World} {v : Value} {zs : List Int} (h : Ints w v zs) (he : Ext w w') : Ints w' v zs := SlN.ext h he
theorem Sl.ext {w w' : World} {v : Value} {zs : List Value} (h : Sl w v zs) (he : Ext w w') : Sl w' v zs := SlN.ext h he
theorem SlN.nil (w : World) (s : Nat) : SlN w s (.slice none 0 0) 0 [] := ⟨none, 0, rfl, by simp, by simp, by simp, fun _ => rfl, fun b hb => by cases hb⟩
theorem Ints.nil (w : World) : Ints w (.slice none 0 0) [] := SlN.nil w 1
theorem SlN.of_own {w : World} {base : Nat} {e : TypeId} {s n : Nat} {v : Value} {xs : List Value} (h : w.ownsRow base e s v n xs) : SlN w s v n xs := by
 obtain ⟨h1, h2⟩ := h
 rcases h2 with ⟨rfl, rfl⟩ | ⟨g, cap, cur, rfl, _, hg, hn, hc, hs, hx⟩
 ·exact ⟨none, 0, rfl, by simp, by simp, h1, fun _ => rfl, fun b hb => by cases hb⟩
 ·refine ⟨_, cap, rfl, hn, by unfold maxLen at hc; omega, h1, (fun h => by cases h), fun b hb => ?_⟩
  cases hb
  refine ⟨fun _ => rfl, fun j x hj => ?_⟩
  rw [← hx, List.getElem?_take] at hj
  split at hj
  ·rw [Nat.zero_add, cell_of_row w g j cur e (0, 0) hg]; simpa using hj
  ·cases hj
theorem SlN.adds {w : World} {s n : Nat} {b : Addr} {cap : Nat} {xs : List Value} (h : SlN w s (.slice (some b) n cap) n xs) : ∀ j u, xs[j]? = some u → w.cell? (b.add j) = some u := by
 obtain ⟨a, cap', he, h1, h2, h3, h4, h5⟩ := h
 cases he
 obtain ⟨hs, hc⟩ := h5 b rfl
 intro j u hj
 have := hc j u hj
 have hs := hs (by
  have hlt := (List.getElem?_eq_some_iff.1 hj).1
  rw [h3] at hlt
  rcases Nat.eq_zero_or_pos cap with h0 | h0
  ·have hn : n = 0 := by omega
   rw [hn, Nat.zero_mul] at hlt; omega
  ·exact h0)
 obtain ⟨bb, off, spot⟩ := b
 simp only at hs this
 subst hs
 unfold Addr.add
 split
 ·rename_i h0; subst h0; simpa using this
 ·exact this
section
variable {P : Program}
end
def OwnI (w : World) (B : Nat) (e : TypeId) (v : Value) (zs : List Int) : Prop := w.ownsRow B e 1 v zs.length (zs.map (Value.int .i64))
theorem own_base {w : World} {B B' : Nat} {e : TypeId} {s n : Nat} {v : Value} {xs : List Value} (h : w.ownsRow B e s v n xs) (hb : B' ≤ B) : w.ownsRow B' e s v n xs := by
 obtain ⟨h1, h2⟩ := h
 refine ⟨h1, ?_⟩
 rcases h2 with h2 | ⟨g, cap, cur, a, b, c⟩
 ·exact .inl h2
 ·exact .inr ⟨g, cap, cur, a, Nat.le_trans hb b, c⟩
theorem own_ext {w w' : World} {B : Nat} {e : TypeId} {s n : Nat} {v : Value} {xs : List Value} (h : w.ownsRow B e s v n xs) (he : Ext w w') : w'.ownsRow B e s v n xs :=
 h.kept (row := none) ⟨he.os, he.tape, he.output, he.size, fun k hk _ => he.block k hk⟩ (by cases hv : v.ownBlock <;> simp)
theorem OwnI.base {w : World} {B B' : Nat} {e : TypeId} {v : Value} {zs : List Int} (h : OwnI w B e v zs) (hb : B' ≤ B) : OwnI w B' e v zs := own_base h hb
theorem OwnI.ext {w w' : World} {B : Nat} {e : TypeId} {v : Value} {zs : List Int} (h : OwnI w B e v zs) (he : Ext w w') : OwnI w' B e v zs := own_ext h he
theorem OwnI.ints {w : World} {B : Nat} {e : TypeId} {v : Value} {zs : List Int} (h : OwnI w B e v zs) : Ints w v zs := by
 have := SlN.of_own h
 unfold Ints Sl; rw [List.length_map]; exact this
end Go.Own

namespace Go.Own
open Go Go.RowKit
section
variable {P : Program} {ops : Array Oper} {w0 : World} {Φ : Nat → Option SP} {e : Nat} {Z : Act → (Nat → World → Prop) → Prop} {l : List Oper} {o : Oper} {i : Nat} {a a' : Act} {F : Nat → World → Prop}
theorem run_call {f : FuncId} {fn : Func} {xs : Array Operand} {ats : Array TypeId} {args : Array Value} (ho : o.op = .call { callee := .value (.func f), args := xs, argTypes := ats }) (hf : P.funcs[f]? = some fn)
  (hn : (fn.name == "runtime.NumGoroutine") = false) (hb : fn.body.isNone = false) (ha : xs.map a.eval = args) (w : World) : (execOp a.eval o).run P w = .ok (.enter f args) w := by
 obtain ⟨dst, op, ty, pos, after, guard⟩ := o
 simp only at ho
 subst ho
 rw [execOp_call_go, ha]
 have hn' : fn.name ≠ "runtime.NumGoroutine" := by simpa using hn
 have hb' : fn.body ≠ none := by intro h; rw [h] at hb; cases hb
 simp [callFunc, program, Sem.run, hf, hn', hb']
theorem ancF_get {i k : Nat} {f : World → Prop} {w : World} (h : ancF ops i (upd F k f) w) (hk : anc ops i k = true) : f w := (h k hk).2 rfl
theorem ancF_rest {i k : Nat} {f : World → Prop} {w : World} (h : ancF ops i (upd F k f) w) : ancF ops i F w := fun j hj => (h j hj).1
theorem all_get {k : Nat} {f : World → Prop} {w : World} (h : ∀ j, upd F k f j w) : f w := (h k).2 rfl
theorem all_rest {k : Nat} {f : World → Prop} {w : World} (h : ∀ j, upd F k f j w) : ∀ j, F j w := fun j => (h j).1
end
section
variable {P : Program} {ops : Array Oper} {w0 : World} {e k : Nat} {Q : Exit → Act → World → Prop} {a : Act} {F : Nat → World → Prop}
end
def SP.ints (zs : List Int) : SP := ⟨fun w v => Ints w v zs, fun _ _ _ he h => Ints.ext h he⟩
def SP.sl (xs : List Value) : SP := ⟨fun w v => Sl w v xs, fun _ _ _ he h => Sl.ext h he⟩
def SP.own (w0 : World) (e : TypeId) (zs : List Int) : SP := ⟨fun w v => OwnI w w0.heap.size e v zs, fun _ _ _ he h => OwnI.ext h he⟩
def SP.is (x : Value) : SP := ⟨fun _ v => v = x, fun _ _ _ _ h => h⟩
theorem SlN.form {w : World} {s n : Nat} {v : Value} {xs : List Value} (h : SlN w s v n xs) : ∃ a cap, v = .slice a n cap := by
 obtain ⟨a, cap, rfl, _⟩ := h; exact ⟨a, cap, rfl⟩
theorem Ints.form {w : World} {v : Value} {zs : List Int} (h : Ints w v zs) : ∃ a cap, v = .slice a zs.length cap := by
 obtain ⟨a, cap, rfl, _⟩ := h; exact ⟨a, cap, by simp⟩
theorem SlN.alloc (w : World) (cs : Array Value) (e : TypeId) (s n cap : Nat) (h1 : n ≤ cap) (h2 : cap ≤ 9223372036854775807) (h3 : n * s ≤ cs.size) :
  SlN (w.alloc (.cells cs e)) s (.slice (some ⟨w.heap.size, 0, none⟩) n cap) n (cs.toList.take (n * s)) := by
 refine ⟨_, cap, rfl, h1, h2, by simp; omega, (fun h => by cases h), fun b hb => ?_⟩
 cases hb
 refine ⟨fun _ => rfl, fun j x hj => ?_⟩
 rw [List.getElem?_take] at hj
 split at hj
 ·rw [Nat.zero_add, World.cell?_alloc_new]; simpa using hj
 ·cases hj
theorem Sl.alloc (w : World) (cs : List Value) (e : TypeId) (h2 : cs.length ≤ 9223372036854775807) : Sl (w.alloc (.cells cs.toArray e)) (.slice (some ⟨w.heap.size, 0, none⟩) cs.length cs.length) cs := by
 have := SlN.alloc w cs.toArray e 1 cs.length cs.length (Nat.le_refl _) h2 (by simp)
 simpa [Sl] using this
theorem Ext.alloc (w : World) (o : Obj) : Ext w (w.alloc o) := (Below.refl _ _).alloc (Nat.le_refl _) o
section
variable {P : Program}
end
section
variable {P : Program} {ops : Array Oper} {w0 : World} {Φ : Nat → Option SP} {e : Nat} {Z : Act → (Nat → World → Prop) → Prop} {l : List Oper} {o : Oper} {i : Nat} {a a' : Act} {F : Nat → World → Prop}
end
def Rows2 (w : World) (vs : List Value) (xss : List (List Int)) : Prop := vs.length = xss.length ∧ ∀ (i : Nat) (x : Value), vs[i]? = some x → Ints w x (xss.getD i [])
theorem Rows2.ext {w w' : World} {vs : List Value} {xss : List (List Int)} (h : Rows2 w vs xss) (he : Ext w w') : Rows2 w' vs xss := ⟨h.1, fun i x hi => (h.2 i x hi).ext he⟩
theorem Rows2.nil (w : World) : Rows2 w [] [] := ⟨rfl, fun i x h => by simp at h⟩
theorem Rows2.cons {w : World} {v : Value} {vs : List Value} {x : List Int} {xss : List (List Int)} (hv : Ints w v x) (h : Rows2 w vs xss) : Rows2 w (v :: vs) (x :: xss) := by
 refine ⟨by simp [h.1], fun i y hi => ?_⟩
 cases i with
 | zero => simp at hi; subst hi; simpa using hv
 | succ i => simp at hi ⊢; simpa using h.2 i y hi
def IntsS (w : World) (v : Value) (xss : List (List Int)) : Prop := ∃ vs, Sl w v vs ∧ Rows2 w vs xss
theorem IntsS.ext {w w' : World} {v : Value} {xss : List (List Int)} (h : IntsS w v xss) (he : Ext w w') : IntsS w' v xss := by
 obtain ⟨vs, h1, h2⟩ := h; exact ⟨vs, h1.ext he, h2.ext he⟩
theorem IntsS.form {w : World} {v : Value} {xss : List (List Int)} (h : IntsS w v xss) : ∃ a cap, v = .slice a xss.length cap := by
 obtain ⟨vs, h1, h2⟩ := h
 obtain ⟨a, c, rfl⟩ := SlN.form h1
 exact ⟨a, c, by rw [h2.1]⟩
def SP.rows (xss : List (List Int)) : SP := ⟨fun w v => IntsS w v xss, fun _ _ _ he h => h.ext he⟩
section
variable {P : Program} {ops : Array Oper} {w0 : World} {Φ : Nat → Option SP} {e : Nat} {Z : Act → (Nat → World → Prop) → Prop} {l : List Oper} {o : Oper} {i : Nat} {a a' : Act} {F : Nat → World → Prop}
end
section
variable {P : Program} {ops : Array Oper} {w0 : World} {Φ : Nat → Option SP} {e : Nat} {Z : Act → (Nat → World → Prop) → Prop} {l : List Oper} {o : Oper} {i : Nat} {a a' : Act} {F : Nat → World → Prop}
end
theorem Ints.at {w : World} {a : Option Addr} {n cap : Nat} {zs : List Int} {k : Nat} (h : Ints w (.slice a n cap) zs) (hk : k < zs.length) :
  ∃ b off x, a = some ⟨b, off, none⟩ ∧ zs[k]? = some x ∧ w.cell? ⟨b, off + k, none⟩ = some (.int .i64 x) := by
 obtain ⟨a', cap', he, h1, h2, h3, h4, h5⟩ := h
 cases he
 cases a with
 | none => exact absurd (h4 rfl) (by simp only [List.length_map]; omega)
 | some b =>
  obtain ⟨bb, off, spot⟩ := b
  obtain ⟨hs, hc⟩ := h5 _ rfl
  have hs := hs (by simp only [List.length_map] at *; omega)
  simp only at hs hc
  subst hs
  have hx := List.getElem?_eq_getElem hk
  exact ⟨bb, off, zs[k], rfl, hx, hc k _ (by rw [List.getElem?_map, hx]; rfl)⟩
theorem Ints.cap {w : World} {a : Option Addr} {n cap : Nat} {zs : List Int} (h : Ints w (.slice a n cap) zs) : n = zs.length ∧ n ≤ cap ∧ cap ≤ 9223372036854775807 := by
 obtain ⟨a', cap', he, h1, h2, _⟩ := h
 cases he
 simp only [List.length_map] at h1 ⊢
 exact ⟨trivial, h1, h2⟩
theorem heap_ext {w w' : World} (h : Ext w w') {b : Nat} {o : Obj} (hb : w.heap[b]? = some o) : w'.heap[b]? = some o := by
 rw [h.block b (Array.getElem?_eq_some_iff.1 hb).1]; exact hb
theorem OwnI.form {w : World} {B : Nat} {e : TypeId} {v : Value} {zs : List Int} (h : OwnI w B e v zs) : ∃ a cap, v = .slice a zs.length cap := h.ints.form
theorem heap_setCell {w : World} {p : Addr} {x : Value} {b : Nat} (h : b ≠ p.block) : (w.setCell p x).heap[b]? = w.heap[b]? := Below.heap_setCell _ _ _ _ h
theorem Qo_normal {Q : Exit → Act → World → Prop} {a : Act} {w : World} (h : Q .normal a w) : Qo Q .normal a w := h
section
variable {P : Program} {ops : Array Oper} {w0 : World} {Φ : Nat → Option SP} {e : Nat} {Z : Act → (Nat → World → Prop) → Prop} {l : List Oper} {o : Oper} {i : Nat} {a a' : Act} {F : Nat → World → Prop}
end
def IsBlk (w : World) (b : Nat) (T : TypeId) : Prop := ∃ cs, w.heap[b]? = some (.cells cs T (0, 0))
theorem IsBlk.ext {w w' : World} {b : Nat} {T : TypeId} (h : IsBlk w b T) (he : Ext w w') : IsBlk w' b T := by obtain ⟨cs, h⟩ := h; exact ⟨cs, heap_ext he h⟩
theorem IsBlk.set {w : World} {b : Nat} {T : TypeId} (h : IsBlk w b T) (p : Addr) (x : Value) : IsBlk (w.setCell p x) b T := by
 obtain ⟨cs, h⟩ := h
 by_cases hb : b = p.block
 ·subst hb
  simp only [IsBlk, World.setCell, Array.getElem?_modify, if_true, h, Option.map_some]
  exact ⟨_, rfl⟩
 ·exact ⟨cs, by rw [heap_setCell hb]; exact h⟩
theorem IsBlk.alloc (w : World) (cs : Array Value) (T : TypeId) : IsBlk (w.alloc (.cells cs T)) w.heap.size T := ⟨cs, heap_alloc_new _ _⟩
theorem blk_frozen {w : World} {b : Nat} {T : TypeId} (h : IsBlk w b T) (o : Nat) : w.frozen? ⟨b, o, none⟩ = false := by
 obtain ⟨cs, h⟩ := h; simp [World.frozen?, h]
end Go.Own
namespace Go.Own
open Go Go.RowKit
section
variable {P : Program} {ops : Array Oper} {w0 : World} {e k : Nat} {Q : Exit → Act → World → Prop} {a : Act} {F : Nat → World → Prop}
end
end Go.Own
namespace Go.Own
open Go Go.RowKit
end Go.Own
namespace Go.Own
open Go Go.RowKit
section
variable {P : Program}
def SP.emp (w0 : World) (e : TypeId) : SP := ⟨fun w v => ∃ g, v = .slice (some ⟨g, 0, none⟩) 0 0 ∧ w0.heap.size ≤ g ∧ w.heap[g]? = some (.cells #[] e (0, 0)),
 fun _ _ _ he ⟨g, h1, h2, h3⟩ => ⟨g, h1, h2, heap_ext he h3⟩⟩
variable {ops : Array Oper} {w0 : World} {Φ : Nat → Option SP} {e : Nat} {Z : Act → (Nat → World → Prop) → Prop} {l : List Oper} {o : Oper} {i : Nat} {a a' : Act} {F : Nat → World → Prop}
end
end Go.Own

namespace Go.Own
open Go
theorem take_snoc {α : Type} (l : List α) (k : Nat) (d : α) (h : k < l.length) : l.take (k + 1) = l.take k ++ [l.getD k d] := by
 rw [List.take_succ_eq_append_getElem h]; simp [h]
theorem take_snoc' {α : Type} (l : List α) (k : Nat) (x : α) (h : l[k]? = some x) : l.take (k + 1) = l.take k ++ [x] := by
 obtain ⟨hk, hx⟩ := List.getElem?_eq_some_iff.1 h
 rw [List.take_succ_eq_append_getElem hk, hx]
end Go.Own
namespace Go.Own
open Go
end Go.Own
namespace Go.Own
open Go Go.RowKit
end Go.Own
namespace Go.Own
open Go
end Go.Own
namespace Go.Own
end Go.Own
namespace Go.Own
end Go.Own
namespace Go.Own
end Go.Own
namespace Go.Own
end Go.Own
