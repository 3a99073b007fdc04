import Derived.Test.YtdilbnmaihmgnaaData
import Derived.BigQuiet
namespace Go.Own
open Go Go.RowKit

section
variable {P : Program} {ops : Array Oper} {w0 : World} {Φ : Nat → Option SP} {e : Nat} {Z : Act → (Nat → World → Prop) → Prop} {l : List Oper} {o : Oper} {i : Nat} {a a' : Act} {F : Nat → World → Prop}

/-- arriving at a call. -/
theorem run_call {f : FuncId} {fn : Func} {xs : Array Operand} {ats : Array TypeId} {args : Array Value} (ho : o.op = .call { callee := .value (.func f), args := xs, argTypes := ats }) (hf : P.funcs[f]? = some fn)
    (hn : (fn.name == "runtime.NumGoroutine") = false) (hb : fn.body.isNone = false) (ha : xs.map a.eval = args) (w : World) : (execOp a.eval o).run P w = .ok (.enter f args) w := by
  obtain ⟨dst, op, ty, pos, after, guard⟩ := o
  simp only at ho
  subst ho
  rw [execOp_call_go, ha]
  have hn' : fn.name ≠ "runtime.NumGoroutine" := by simpa using hn
  have hb' : fn.body ≠ none := by intro h; rw [h] at hb; cases hb
  simp [callFunc, program, Sem.run, hf, hn', hb']

/-- operations that look at no memory. -/
def kindMv : Op → Bool
  | .pick .. | .binOp .. | .unOp .. | .fieldAddr .. | .field .. | .extract .. | .nilCheck .. | .convert .. | .build .. | .index .. | .makeFunc .. => true
  | .call c => match c.callee with | .builtin .len => true | _ => false
  | _ => false
/-- .. or that read it. -/
def kindRd : Op → Bool
  | .load .. | .indexAddr .. => true
  | o => kindMv o

theorem ancF_get {i k : Nat} {f : World → Prop} {w : World} (h : ancF ops i (upd F k f) w) (hk : anc ops i k = true) : f w := (h k hk).2 rfl
theorem ancF_rest {i k : Nat} {f : World → Prop} {w : World} (h : ancF ops i (upd F k f) w) : ancF ops i F w := fun j hj => (h j hj).1
theorem all_get {k : Nat} {f : World → Prop} {w : World} (h : ∀ j, upd F k f j w) : f w := (h k).2 rfl
theorem all_rest {k : Nat} {f : World → Prop} {w : World} (h : ∀ j, upd F k f j w) : ∀ j, F j w := fun j => (h j).1
end

section
variable {P : Program} {ops : Array Oper} {w0 : World} {e k : Nat} {Q : Exit → Act → World → Prop} {a : Act} {F : Nat → World → Prop}
end

/-- facts -/
def SP.ints (zs : List Int) : SP := ⟨fun w v => Ints w v zs, fun _ _ _ he h => Ints.ext h he⟩
def SP.sl (xs : List Value) : SP := ⟨fun w v => Sl w v xs, fun _ _ _ he h => Sl.ext h he⟩
def SP.own (w0 : World) (e : TypeId) (zs : List Int) : SP := ⟨fun w v => OwnI w w0.heap.size e v zs, fun _ _ _ he h => OwnI.ext h he⟩
def SP.is (x : Value) : SP := ⟨fun _ v => v = x, fun _ _ _ _ h => h⟩


theorem SlN.form {w : World} {s n : Nat} {v : Value} {xs : List Value} (h : SlN w s v n xs) : ∃ a cap, v = .slice a n cap := by
  obtain ⟨a, cap, rfl, _⟩ := h; exact ⟨a, cap, rfl⟩
theorem Ints.form {w : World} {v : Value} {zs : List Int} (h : Ints w v zs) : ∃ a cap, v = .slice a zs.length cap := by
  obtain ⟨a, cap, rfl, _⟩ := h; exact ⟨a, cap, by simp⟩

/-- a slice that an operation has just laid. -/
theorem SlN.alloc (w : World) (cs : Array Value) (e : TypeId) (s n cap : Nat) (h1 : n ≤ cap) (h2 : cap ≤ 9223372036854775807) (h3 : n * s ≤ cs.size) :
    SlN (w.alloc (.cells cs e)) s (.slice (some ⟨w.heap.size, 0, none⟩) n cap) n (cs.toList.take (n * s)) := by
  refine ⟨_, cap, rfl, h1, h2, by simp; omega, (fun h => by cases h), fun b hb => ?_⟩
  cases hb
  refine ⟨fun _ => rfl, fun j x hj => ?_⟩
  rw [List.getElem?_take] at hj
  split at hj
  · rw [Nat.zero_add, World.cell?_alloc_new]; simpa using hj
  · cases hj

theorem Sl.alloc (w : World) (cs : List Value) (e : TypeId) (h2 : cs.length ≤ 9223372036854775807) : Sl (w.alloc (.cells cs.toArray e)) (.slice (some ⟨w.heap.size, 0, none⟩) cs.length cs.length) cs := by
  have := SlN.alloc w cs.toArray e 1 cs.length cs.length (Nat.le_refl _) h2 (by simp)
  simpa [Sl] using this

theorem Ext.alloc (w : World) (o : Obj) : Ext w (w.alloc o) := (Below.refl _ _).alloc (Nat.le_refl _) o

section
variable {P : Program}
end


section
variable {P : Program} {ops : Array Oper} {w0 : World} {Φ : Nat → Option SP} {e : Nat} {Z : Act → (Nat → World → Prop) → Prop} {l : List Oper} {o : Oper} {i : Nat} {a a' : Act} {F : Nat → World → Prop}

end


/-- the elements of a list of slices. -/
def Rows2 (w : World) (vs : List Value) (xss : List (List Int)) : Prop := vs.length = xss.length ∧ ∀ (i : Nat) (x : Value), vs[i]? = some x → Ints w x (xss.getD i [])
theorem Rows2.ext {w w' : World} {vs : List Value} {xss : List (List Int)} (h : Rows2 w vs xss) (he : Ext w w') : Rows2 w' vs xss := ⟨h.1, fun i x hi => (h.2 i x hi).ext he⟩
theorem Rows2.nil (w : World) : Rows2 w [] [] := ⟨rfl, fun i x h => by simp at h⟩
theorem Rows2.cons {w : World} {v : Value} {vs : List Value} {x : List Int} {xss : List (List Int)} (hv : Ints w v x) (h : Rows2 w vs xss) : Rows2 w (v :: vs) (x :: xss) := by
  refine ⟨by simp [h.1], fun i y hi => ?_⟩
  cases i with
  | zero => simp at hi; subst hi; simpa using hv
  | succ i => simp at hi ⊢; simpa using h.2 i y hi

def IntsS (w : World) (v : Value) (xss : List (List Int)) : Prop := ∃ vs, Sl w v vs ∧ Rows2 w vs xss
theorem IntsS.ext {w w' : World} {v : Value} {xss : List (List Int)} (h : IntsS w v xss) (he : Ext w w') : IntsS w' v xss := by
  obtain ⟨vs, h1, h2⟩ := h; exact ⟨vs, h1.ext he, h2.ext he⟩
theorem IntsS.form {w : World} {v : Value} {xss : List (List Int)} (h : IntsS w v xss) : ∃ a cap, v = .slice a xss.length cap := by
  obtain ⟨vs, h1, h2⟩ := h
  obtain ⟨a, c, rfl⟩ := SlN.form h1
  exact ⟨a, c, by rw [h2.1]⟩
def SP.rows (xss : List (List Int)) : SP := ⟨fun w v => IntsS w v xss, fun _ _ _ he h => h.ext he⟩

section
variable {P : Program} {ops : Array Oper} {w0 : World} {Φ : Nat → Option SP} {e : Nat} {Z : Act → (Nat → World → Prop) → Prop} {l : List Oper} {o : Oper} {i : Nat} {a a' : Act} {F : Nat → World → Prop}
end


section
variable {P : Program} {ops : Array Oper} {w0 : World} {Φ : Nat → Option SP} {e : Nat} {Z : Act → (Nat → World → Prop) → Prop} {l : List Oper} {o : Oper} {i : Nat} {a a' : Act} {F : Nat → World → Prop}
end

theorem Ints.at {w : World} {a : Option Addr} {n cap : Nat} {zs : List Int} {k : Nat} (h : Ints w (.slice a n cap) zs) (hk : k < zs.length) :
    ∃ b off x, a = some ⟨b, off, none⟩ ∧ zs[k]? = some x ∧ w.cell? ⟨b, off + k, none⟩ = some (.int .i64 x) := by
  obtain ⟨a', cap', he, h1, h2, h3, h4, h5⟩ := h
  cases he
  cases a with
  | none => exact absurd (h4 rfl) (by simp only [List.length_map]; omega)
  | some b =>
    obtain ⟨bb, off, spot⟩ := b
    obtain ⟨hs, hc⟩ := h5 _ rfl
    have hs := hs (by simp only [List.length_map] at *; omega)
    simp only at hs hc
    subst hs
    have hx := List.getElem?_eq_getElem hk
    exact ⟨bb, off, zs[k], rfl, hx, hc k _ (by rw [List.getElem?_map, hx]; rfl)⟩

theorem Ints.cap {w : World} {a : Option Addr} {n cap : Nat} {zs : List Int} (h : Ints w (.slice a n cap) zs) : n = zs.length ∧ n ≤ cap ∧ cap ≤ 9223372036854775807 := by
  obtain ⟨a', cap', he, h1, h2, _⟩ := h
  cases he
  simp only [List.length_map] at h1 ⊢
  exact ⟨trivial, h1, h2⟩


/-- a pointer to new memory that holds two slices of new memory. -/
def PairAt (w : World) (B T E : Nat) (v : Value) (lo yo : List Int) : Prop :=
  ∃ b lv yv, v = .pointer (some ⟨b, 0, none⟩) ∧ B ≤ b ∧ w.heap[b]? = some (.cells #[lv, yv] T (0, 0)) ∧ OwnI w B E lv lo ∧ OwnI w B E yv yo

theorem heap_ext {w w' : World} (h : Ext w w') {b : Nat} {o : Obj} (hb : w.heap[b]? = some o) : w'.heap[b]? = some o := by
  rw [h.block b (Array.getElem?_eq_some_iff.1 hb).1]; exact hb

theorem PairAt.ext {w w' : World} {B T E : Nat} {v : Value} {lo yo : List Int} (h : PairAt w B T E v lo yo) (he : Ext w w') : PairAt w' B T E v lo yo := by
  obtain ⟨b, lv, yv, rfl, h1, h2, h3, h4⟩ := h
  exact ⟨b, lv, yv, rfl, h1, heap_ext he h2, h3.ext he, h4.ext he⟩

def SP.pair (w0 : World) (T E : Nat) (lo yo : List Int) : SP := ⟨fun w v => PairAt w w0.heap.size T E v lo yo, fun _ _ _ he h => h.ext he⟩

theorem OwnI.form {w : World} {B : Nat} {e : TypeId} {v : Value} {zs : List Int} (h : OwnI w B e v zs) : ∃ a cap, v = .slice a zs.length cap := h.ints.form


/-- v is a slice of ints in memory of its own from block B on, that may be written. -/
def FreI (w : World) (B : Nat) (E : TypeId) (v : Value) (zs : List Int) : Prop :=
  Ints w v zs ∧ ∀ b n cap, v = .slice (some b) n cap → B ≤ b.block ∧ ∃ cs, w.heap[b.block]? = some (.cells cs E (0, 0))

theorem FreI.ext {w w' : World} {B : Nat} {E : TypeId} {v : Value} {zs : List Int} (h : FreI w B E v zs) (he : Ext w w') : FreI w' B E v zs :=
  ⟨h.1.ext he, fun b n cap hv => let ⟨h1, cs, h2⟩ := h.2 b n cap hv; ⟨h1, cs, heap_ext he h2⟩⟩
theorem FreI.base {w : World} {B B' : Nat} {E : TypeId} {v : Value} {zs : List Int} (h : FreI w B E v zs) (hb : B' ≤ B) : FreI w B' E v zs :=
  ⟨h.1, fun b n cap hv => let ⟨h1, h2⟩ := h.2 b n cap hv; ⟨Nat.le_trans hb h1, h2⟩⟩
theorem OwnI.fre {w : World} {B : Nat} {E : TypeId} {v : Value} {zs : List Int} (h : OwnI w B E v zs) : FreI w B E v zs := by
  refine ⟨h.ints, fun b n cap hv => ?_⟩
  rcases h.2 with ⟨rfl, _⟩ | ⟨g, cap', cur, rfl, hg, hh, _⟩
  · cases hv
  · cases hv; exact ⟨hg, cur, hh⟩
theorem FreI.nil (w : World) (B : Nat) (E : TypeId) : FreI w B E (.slice none 0 0) [] := ⟨Ints.nil w, fun b n cap h => by cases h⟩

theorem cell_setCell {w : World} {p : Addr} {x : Value} {b o : Nat} (h : b ≠ p.block) : (w.setCell p x).cell? ⟨b, o, none⟩ = w.cell? ⟨b, o, none⟩ :=
  World.cell?_setCell_other _ _ _ _ (fun e => h (by rw [e]))

theorem heap_setCell {w : World} {p : Addr} {x : Value} {b : Nat} (h : b ≠ p.block) : (w.setCell p x).heap[b]? = w.heap[b]? := Below.heap_setCell _ _ _ _ h

theorem FreI.set {w : World} {B : Nat} {E T : TypeId} {v : Value} {zs : List Int} {p : Addr} {x : Value} {cs : Array Value} {f : Nat × Nat} (h : FreI w B E v zs) (hp : w.heap[p.block]? = some (.cells cs T f)) (hT : (T == E) = false) :
    FreI (w.setCell p x) B E v zs := by
  have hne : ∀ b n cap, v = .slice (some b) n cap → b.block ≠ p.block := by
    intro b n cap hv e
    obtain ⟨_, c, hc⟩ := h.2 b n cap hv
    rw [e, hp] at hc
    cases hc
    simp at hT
  obtain ⟨h1, h2⟩ := h
  refine ⟨?_, fun b n cap hv => ?_⟩
  · obtain ⟨a, cap, rfl, g1, g2, g3, g4, g5⟩ := h1
    refine ⟨a, cap, rfl, g1, g2, g3, g4, fun b hb => ⟨(g5 b hb).1, fun j y hj => ?_⟩⟩
    subst hb
    rw [cell_setCell (hne b _ _ rfl)]
    exact (g5 b rfl).2 j y hj
  · obtain ⟨q1, c, q2⟩ := h2 b n cap hv
    exact ⟨q1, c, by rw [heap_setCell (hne b n cap hv)]; exact q2⟩

theorem FreI.form {w : World} {B : Nat} {e : TypeId} {v : Value} {zs : List Int} (h : FreI w B e v zs) : ∃ a cap, v = .slice a zs.length cap := h.1.form


def SP.fre (w0 : World) (e : TypeId) (zs : List Int) : SP := ⟨fun w v => FreI w w0.heap.size e v zs, fun _ _ _ he h => FreI.ext h he⟩

theorem Qo_normal {Q : Exit → Act → World → Prop} {a : Act} {w : World} (h : Q .normal a w) : Qo Q .normal a w := h

section
variable {P : Program} {ops : Array Oper} {w0 : World} {Φ : Nat → Option SP} {e : Nat} {Z : Act → (Nat → World → Prop) → Prop} {l : List Oper} {o : Oper} {i : Nat} {a a' : Act} {F : Nat → World → Prop}

end

/-- trains in fresh memory. -/
def TrF (w : World) (B : Nat) (E : TypeId) (v : Value) (lo yo : List Int) : Prop := ∃ u1 u2, v = .agg #[u1, u2] ∧ FreI w B E u1 lo ∧ FreI w B E u2 yo
theorem TrF.ext {w w' : World} {B : Nat} {E : TypeId} {v : Value} {lo yo : List Int} (h : TrF w B E v lo yo) (he : Ext w w') : TrF w' B E v lo yo := by
  obtain ⟨u1, u2, rfl, h1, h2⟩ := h; exact ⟨u1, u2, rfl, h1.ext he, h2.ext he⟩
theorem TrF.base {w : World} {B B' : Nat} {E : TypeId} {v : Value} {lo yo : List Int} (h : TrF w B E v lo yo) (hb : B' ≤ B) : TrF w B' E v lo yo := by
  obtain ⟨u1, u2, rfl, h1, h2⟩ := h; exact ⟨u1, u2, rfl, h1.base hb, h2.base hb⟩
theorem TrF.nil (w : World) (B : Nat) (E : TypeId) : TrF w B E (.agg #[.slice none 0 0, .slice none 0 0]) [] [] := ⟨_, _, rfl, FreI.nil _ _ _, FreI.nil _ _ _⟩


/-- block b is a row of cells of type T that may be written. -/
def IsBlk (w : World) (b : Nat) (T : TypeId) : Prop := ∃ cs, w.heap[b]? = some (.cells cs T (0, 0))
theorem IsBlk.ext {w w' : World} {b : Nat} {T : TypeId} (h : IsBlk w b T) (he : Ext w w') : IsBlk w' b T := by obtain ⟨cs, h⟩ := h; exact ⟨cs, heap_ext he h⟩
theorem IsBlk.set {w : World} {b : Nat} {T : TypeId} (h : IsBlk w b T) (p : Addr) (x : Value) : IsBlk (w.setCell p x) b T := by
  obtain ⟨cs, h⟩ := h
  by_cases hb : b = p.block
  · subst hb
    simp only [IsBlk, World.setCell, Array.getElem?_modify, if_true, h, Option.map_some]
    exact ⟨_, rfl⟩
  · exact ⟨cs, by rw [heap_setCell hb]; exact h⟩
theorem IsBlk.alloc (w : World) (cs : Array Value) (T : TypeId) : IsBlk (w.alloc (.cells cs T)) w.heap.size T := ⟨cs, heap_alloc_new _ _⟩
theorem blk_frozen {w : World} {b : Nat} {T : TypeId} (h : IsBlk w b T) (o : Nat) : w.frozen? ⟨b, o, none⟩ = false := by
  obtain ⟨cs, h⟩ := h; simp [World.frozen?, h]
end Go.Own
namespace Go.Own
open Go Go.RowKit
section
variable {P : Program} {ops : Array Oper} {w0 : World} {e k : Nat} {Q : Exit → Act → World → Prop} {a : Act} {F : Nat → World → Prop}
end
end Go.Own
namespace Go.Own
open Go Go.RowKit
end Go.Own
namespace Go.Own
open Go Go.RowKit
section
variable {P : Program}
def SP.emp (w0 : World) (e : TypeId) : SP := ⟨fun w v => ∃ g, v = .slice (some ⟨g, 0, none⟩) 0 0 ∧ w0.heap.size ≤ g ∧ w.heap[g]? = some (.cells #[] e (0, 0)),
  fun _ _ _ he ⟨g, h1, h2, h3⟩ => ⟨g, h1, h2, heap_ext he h3⟩⟩

variable {ops : Array Oper} {w0 : World} {Φ : Nat → Option SP} {e : Nat} {Z : Act → (Nat → World → Prop) → Prop} {l : List Oper} {o : Oper} {i : Nat} {a a' : Act} {F : Nat → World → Prop}

end
end Go.Own
