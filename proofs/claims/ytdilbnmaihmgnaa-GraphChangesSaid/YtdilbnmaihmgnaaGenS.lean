import Derived.Test.YtdilbnmaihmgnaaGenR
/-! a range over a function, in frames that are variables -/
namespace Go.Own
open Go Go.RowKit

/-- what holds still holds when a block that is no cells, at or beyond B, turned, or new blocks were laid. -/
def Own1 (B : Nat) (p : World → Prop) : Prop := ∀ W W' row, p W → W.grownBy W' row → (∀ r, row = some r → B ≤ r ∧ ∃ o : Obj, W.heap[r]? = some o ∧ o.isCells = false) → p W'
section
variable {B : Nat} {p q : World → Prop} {W W' : World} {row : Option Nat}
theorem Own1.and (h : Own1 B p) (h' : Own1 B q) : Own1 B (fun W => p W ∧ q W) := fun W W' row hp hg hr => ⟨h W W' row hp.1 hg hr, h' W W' row hp.2 hg hr⟩
end
theorem wpIn_n {r : Option Nat} {P : Program} {c : Code} {Q : Exit → Act → World → Prop} {a : Act} {w : World} {n m : Nat} (h : c.wpIn (Fw r) n P Q a w) : c.wpIn (Fw r) m P Q a w := fun b k cs h1 h2 _ => h b k cs h1 h2 (fun d hd => by cases hd)
/-! a function that holds such a loop: its way in, and its way out past the mark -/
theorem calls_inR {P : Program} {f : FuncId} {fn : Func} {c : Code} {args : Array Value} {w : World} {R : Ending → World → Prop} (N : Nat)
    (hf : P.funcs[f]? = some fn) (hb : fn.body = some c) (hN : fn.ntmps = N) (ha : args.size ≤ N)
    (h : ∀ A : Act, A.tmps.size = N → A.defers = [] → (∀ (i : Nat) (v : Value), args[i]? = some v → EV A (.tmp i) = v) → wpR none P c (bodyPostM (Fw none) 0 P fn R) A w) : Calls P f args w R := by
  refine callsIn_wide.1 (callsIn_of_wp_marks (F := Fw none) (n := 0) hf hb trivial (h _ ?_ rfl fun i v hi => ?_) rfl)
  · simp; omega
  · have hlt := (Array.getElem?_eq_some_iff.1 hi).1
    simp [EV, Act.eval, Array.getElem?_append, hlt] at hi ⊢
    simp [hi]
theorem ret_inR0 {P : Program} {fn : Func} {R : Ending → World → Prop} {A : Act} {w : World} {v : Value} (hr : (results fn A.tmps).run P w = .ok v w) (hd : A.defers = []) (h : R (.returned v) w) : bodyPostM (Fw none) 0 P fn R .ret A w := by
  show LeavesInM (Fw none) 0 P fn A.tmps R A.defers .returning w
  rw [hd]
  exact ⟨v, hr, h⟩
theorem ret_inR1 {P : Program} {fn : Func} {R : Ending → World → Prop} {A : Act} {w : World} {v : Value} {D : Nat} (hr : (results fn A.tmps).run P (w.putObj D (.deferred none)) = .ok v (w.putObj D (.deferred none))) (hd : A.defers = [{ target := .collected D, args := #[] }])
    (hD : w.heap[D]? = some (.deferred (some []))) (h : R (.returned v) (w.putObj D (.deferred none))) : bodyPostM (Fw none) 0 P fn R .ret A w := by
  show LeavesInM (Fw none) 0 P fn A.tmps R A.defers .returning w
  rw [hd]
  exact ⟨by simp, .inl ⟨D, _, rfl, run_takeDeferred hD, v, hr, h⟩⟩
/-! what an iterator needs kept: by place and by what lies there -/
def Kps (K : Nat → Obj → Prop) (W W' : World) : Prop := ∀ k o, W.heap[k]? = some o → K k o → W'.heap[k]? = some o
theorem Kps.tr {K : Nat → Obj → Prop} {A B C : World} (h : Kps K A B) (h' : Kps K B C) : Kps K A C := fun k o ho hk => h' k o (h k o ho hk) hk
theorem Kps.rfl' {K : Nat → Obj → Prop} (W : World) : Kps K W W := fun _ _ h _ => h
theorem Kps.ext {K : Nat → Obj → Prop} {A B : World} (h : Ext A B) : Kps K A B := fun k o ho _ => by rw [h.block k (lt_size ho)]; exact ho
theorem Kps.tch {K : Nat → Obj → Prop} {A B : World} {g : Nat} (t : Tch g A B) (hn : ∀ o, A.heap[g]? = some o → ¬ K g o) : Kps K A B := fun k o ho hk => by
  rw [t.block k fun e => ?_]
  · exact ho
  · subst e; exact hn o ho hk
theorem Kps.grown {K : Nat → Obj → Prop} {A B : World} {row : Option Nat} (hg : A.grownBy B row) (hn : ∀ r o, row = some r → A.heap[r]? = some o → ¬ K r o) : Kps K A B := fun k o ho hk => by
  obtain ⟨_, _, _, _, hb⟩ := hg
  rw [hb k (lt_size ho) fun e => hn k o e.symm ho hk]
  exact ho
theorem Kps.put {K : Nat → Obj → Prop} {B : Nat} (hK : ∀ l o, B ≤ l → o.isCells = false → ¬ K l o) (W : World) (l : Nat) (o o' : Obj) (hl : B ≤ l) (h : W.heap[l]? = some o) (hc : o.isCells = false) : Kps K W (W.putObj l o') :=
  Kps.grown (grownBy_putObj' W l o') fun r x e hx => by cases e; rw [h] at hx; cases hx; exact hK l o hl hc
/-- what the walk of a round's body carries along: both the iterator's word and the law's. -/
def KK (K : Nat → Obj → Prop) (B : Nat) : Nat → Obj → Prop := fun k o => K k o ∨ (B ≤ k ∧ o.isCells = false)
structure Kpt (K : Nat → Obj → Prop) (W W' : World) : Prop where
  size : W.heap.size ≤ W'.heap.size
  same : Kps K W W'
section
variable {K : Nat → Obj → Prop} {B : Nat} {X Y Z : World}
theorem Kpt.rfl' (W : World) : Kpt K W W := ⟨Nat.le_refl _, Kps.rfl' W⟩
theorem Kpt.ext (h : Kpt K X Y) (k : Ext Y Z) : Kpt K X Z := ⟨Nat.le_trans h.size k.size, h.same.tr (Kps.ext k)⟩
theorem Kpt.tch {g : Nat} {cs : Array Value} {T : TypeId} {fr : Nat × Nat} (h : Kpt K X Y) (t : Tch g Y Z) (hb : Y.heap[g]? = some (.cells cs T fr)) (hn : ¬ K g (.cells cs T fr)) : Kpt K X Z :=
  ⟨by rw [t.size]; exact h.size, h.same.tr (Kps.tch t fun o ho => by rw [hb] at ho; cases ho; exact hn)⟩
theorem Kpt.grown {row : Option Nat} (h : Kpt K X Y) (hg : Y.grownBy Z row) (hn : ∀ r o, row = some r → Y.heap[r]? = some o → ¬ K r o) : Kpt K X Z := ⟨Nat.le_trans h.size hg.size, h.same.tr (Kps.grown hg hn)⟩
theorem Kpt.from (h : Kpt (KK K B) X Y) : KeepsFrom B X Y := ⟨h.size, fun k o hB ho hc => h.same k o ho (.inr ⟨hB, hc⟩)⟩
/-- the usual choice: the entry world's blocks, one block more (the captured box), and each block of the type T0 of the iterator's own memory. -/
def KI (n g0 T0 : Nat) : Nat → Obj → Prop := fun k o => k < n ∨ k = g0 ∨ ∃ cs fr, o = .cells cs T0 fr
end
end Go.Own
