import Derived.Test.YtoandfgkkmfobaaGenR
/-! a range over a function, in frames that are variables -/
namespace Go.Own
open Go Go.RowKit

/-- what holds still holds when a block that is no cells, at or beyond B, turned, or new blocks were laid. -/
def Own1 (B : Nat) (p : World → Prop) : Prop := ∀ W W' row, p W → W.grownBy W' row → (∀ r, row = some r → B ≤ r ∧ ∃ o : Obj, W.heap[r]? = some o ∧ o.isCells = false) → p W'
theorem own1_from {β : Type} {B : Nat} {I : β → World → Prop} (h : ∀ s, Own1 B (I s)) : OwnFrom B I := fun s W W' row h1 h2 h3 => h s W W' row h1 h2 h3
section
variable {B : Nat} {p q : World → Prop} {W W' : World} {row : Option Nat}
theorem Own1.and (h : Own1 B p) (h' : Own1 B q) : Own1 B (fun W => p W ∧ q W) := fun W W' row hp hg hr => ⟨h W W' row hp.1 hg hr, h' W W' row hp.2 hg hr⟩
theorem Own1.ex {α : Type} {p : α → World → Prop} (h : ∀ x, Own1 B (p x)) : Own1 B (fun W => ∃ x, p x W) := fun W W' row ⟨x, hp⟩ hg hr => ⟨x, h x W W' row hp hg hr⟩
theorem Own1.pure {a : Prop} : Own1 B (fun _ => a) := fun _ _ _ h _ _ => h
theorem cells_same {k : Nat} {cs : Array Value} {T : TypeId} {fr : Nat × Nat} (hg : W.grownBy W' row) (hr : ∀ r, row = some r → B ≤ r ∧ ∃ o : Obj, W.heap[r]? = some o ∧ o.isCells = false) (h : W.heap[k]? = some (.cells cs T fr)) : W'.heap[k]? = some (.cells cs T fr) := by
  obtain ⟨_, _, _, _, hb⟩ := hg
  rw [hb k (lt_size h) fun e => ?_, h]
  obtain ⟨_, o, ho, hc⟩ := hr k e.symm
  rw [h] at ho
  cases ho
  cases hc
theorem cell_same {a : Addr} {v : Value} (hg : W.grownBy W' row) (hr : ∀ r, row = some r → B ≤ r ∧ ∃ o : Obj, W.heap[r]? = some o ∧ o.isCells = false) (h : W.cell? a = some v) : W'.cell? a = some v := by
  have h2 := h
  unfold World.cell? at h2
  split at h2
  · rename_i c e f hb
    have := cells_same hg hr hb
    unfold World.cell? at h ⊢
    rw [this]
    rw [hb] at h
    exact h
  · cases h2
theorem own1_box {g : Nat} {cs : Array Value} {T : TypeId} {fr : Nat × Nat} : Own1 B (fun W => W.heap[g]? = some (.cells cs T fr)) := fun _ _ _ h hg hr => cells_same hg hr h
theorem own1_ints {v : Value} {zs : List Int} : Own1 B (fun W => Ints W v zs) := fun W W' row h hg hr => by
  obtain ⟨a, cap, he, h1, h2, h3, h4, h5⟩ := h
  exact ⟨a, cap, he, h1, h2, h3, h4, fun b hb => ⟨(h5 b hb).1, fun j x hj => cell_same hg hr ((h5 b hb).2 j x hj)⟩⟩
theorem own1_fre {A : Nat} {E : TypeId} {v : Value} {zs : List Int} : Own1 B (fun W => FreI W A E v zs) := fun W W' row h hg hr =>
  ⟨own1_ints W W' row h.1 hg hr, fun b n cap hv => let ⟨h1, cs, h2⟩ := h.2 b n cap hv; ⟨h1, cs, cells_same hg hr h2⟩⟩
theorem own1_ext {w : World} (hB : w.heap.size ≤ B) : Own1 B (fun W => Ext w W) := fun W W' row h hg hr => by
  obtain ⟨g1, g2, g3, g4, g5⟩ := hg
  refine ⟨by rw [← h.os]; exact g1, by rw [← h.tape]; exact g2, by rw [← h.output]; exact g3, Nat.le_trans h.size g4, fun k hk => ?_⟩
  rw [g5 k (Nat.lt_of_lt_of_le hk h.size) fun e => ?_]
  · exact h.block k hk
  · have := (hr k e.symm).1
    omega
end
theorem wpIn_n {r : Option Nat} {P : Program} {c : Code} {Q : Exit → Act → World → Prop} {a : Act} {w : World} {n m : Nat} (h : c.wpIn (Fw r) n P Q a w) : c.wpIn (Fw r) m P Q a w := fun b k cs h1 h2 _ => h b k cs h1 h2 (fun d hd => by cases hd)
theorem R_range {α : Type} {P : Program} {g : Operand} {ps : Array Tmp} {assign body : Code} {Q : Exit → Act → World → Prop} {A : Act} {w : World} {gf : Nat} {lb : Array Value} (hg : EV A g = .func (.func gf) #[] lb) (eg : ∀ args w, (callFunc gf args).run P w = .ok (.enter gf args) w)
    {encs : α → Array Value} {Kp : World → World → Prop} {S Sp : List α → Prop} {N : Nat} {w0 : World} (hseq : ∀ n, SeqStopsK (Fw none) n P gf lb encs Kp S Sp N w0)
    (hKt : ∀ {A B C : World}, Kp A B → Kp B C → Kp A C) (hKb : ∀ (W : World) (l : Nat) (o o' : Obj), w.heap.size ≤ l → W.heap[l]? = some o → o.isCells = false → o.isWalk = false → Kp W (W.putObj l o')) (hb0 : Below w0.heap.size w0 w) (hps : ∀ x, (encs x).size = ps.size)
    (I : List α → World → Prop) (Ix : Code → List α → World → Prop) (hI : ∀ s, Own1 w.heap.size (I s)) (hIx : ∀ c s, Own1 w.heap.size (Ix c s)) (h0 : I [] w) (Ax : α → Act → World → Prop) (hAx : ∀ x a', Own1 w.heap.size (Ax x a'))
    (hassign : ∀ (l : Nat) (pre : List α) (x : α) (W : World) (K : Act → World → Prop), I pre W → (∀ a' W', KeepsFrom w.heap.size W W' → Kp W W' → I pre W' → Ax x a' W' → K a' W') →
      wpR (some l) P assign (Exit.then K (fun _ _ _ => False)) { tmps := (ps.zip (encs x)).foldl (fun t (p, v) => t.setIfInBounds p v) A.tmps, defers := [] } W)
    (hbody : ∀ (l : Nat) (pre : List α) (x : α) (a' : Act) (W : World), w.heap.size ≤ l → I pre W → Ax x a' W → pre.length < N → wpR (some l) P body (ownPostG w.heap.size Kp I Ix (pre ++ [x]) W) a' W)
    (hdone : ∀ (D : Nat) (xs : List α) (W : World), w.heap.size ≤ D → S xs → I xs W → W.heap[D]? = some (.deferred (some [])) → Q .normal { A with defers := { target := .collected D, args := #[] } :: A.defers } W)
    (hstop : ∀ (D : Nat) (c : Code) (pre : List α) (W : World), w.heap.size ≤ D → Sp pre → Ix c pre W → W.heap[D]? = some (.deferred (some [])) → wpR none P c Q { A with defers := { target := .collected D, args := #[] } :: A.defers } W) :
    wpR none P (Code.rangeFunc g ps assign body) Q A w := by
  refine wpIn_n (n := 3) (wpIn_rangeFunc_ownH (F := Fw none) rfl (by omega) (gf := gf) (lb := lb) hg trivial eg (hseq _) hKt hKb hb0 hps I Ix (own1_from hI) (fun c => own1_from (hIx c)) h0 Ax (fun x a' => own1_from fun _ => hAx x a') ?_ ?_ hdone ?_)
  · exact fun l pre x W K h1 h2 => wpIn_n (r := some l) (hassign l pre x W K h1 h2)
  · exact fun l pre x a' W h1 _ h3 h4 h5 => wpIn_n (r := some l) (hbody l pre x a' W h1 h3 h4 h5)
  · exact fun D c pre W h1 h2 h3 h4 => wpIn_n (hstop D c pre W h1 h2 h3 h4)
/-! a function that holds such a loop: its way in, and its way out past the mark -/
theorem calls_inR {P : Program} {f : FuncId} {fn : Func} {c : Code} {args : Array Value} {w : World} {R : Ending → World → Prop} (N : Nat)
    (hf : P.funcs[f]? = some fn) (hb : fn.body = some c) (hN : fn.ntmps = N) (ha : args.size ≤ N)
    (h : ∀ A : Act, A.tmps.size = N → A.defers = [] → (∀ (i : Nat) (v : Value), args[i]? = some v → EV A (.tmp i) = v) → wpR none P c (bodyPostM (Fw none) 0 P fn R) A w) : Calls P f args w R := by
  refine callsIn_wide.1 (callsIn_of_wp_marks (F := Fw none) (n := 0) hf hb trivial (h _ ?_ rfl fun i v hi => ?_) rfl)
  · simp; omega
  · have hlt := (Array.getElem?_eq_some_iff.1 hi).1
    simp [EV, Act.eval, Array.getElem?_append, hlt] at hi ⊢
    simp [hi]
theorem ret_inR0 {P : Program} {fn : Func} {R : Ending → World → Prop} {A : Act} {w : World} {v : Value} (hr : (results fn A.tmps).run P w = .ok v w) (hd : A.defers = []) (h : R (.returned v) w) : bodyPostM (Fw none) 0 P fn R .ret A w := by
  show LeavesInM (Fw none) 0 P fn A.tmps R A.defers .returning w
  rw [hd]
  exact ⟨v, hr, h⟩
theorem ret_inR1 {P : Program} {fn : Func} {R : Ending → World → Prop} {A : Act} {w : World} {v : Value} {D : Nat} (hr : (results fn A.tmps).run P (w.putObj D (.deferred none)) = .ok v (w.putObj D (.deferred none))) (hd : A.defers = [{ target := .collected D, args := #[] }])
    (hD : w.heap[D]? = some (.deferred (some []))) (h : R (.returned v) (w.putObj D (.deferred none))) : bodyPostM (Fw none) 0 P fn R .ret A w := by
  show LeavesInM (Fw none) 0 P fn A.tmps R A.defers .returning w
  rw [hd]
  exact ⟨by simp, .inl ⟨D, _, rfl, run_takeDeferred hD, v, hr, h⟩⟩
/-- what holds behind the mark's turn. -/
theorem own1_mark {B D : Nat} {w : World} {p : World → Prop} (h : Own1 B p) (hp : p w) (hB : B ≤ D) (hD : w.heap[D]? = some (.deferred (some []))) : p (w.putObj D (.deferred none)) :=
  h w _ (some D) hp (grownBy_putObj' w D _) fun r e => by cases e; exact ⟨hB, _, hD, rfl⟩
/-! what an iterator needs kept: by place and by what lies there -/
def Kps (K : Nat → Obj → Prop) (W W' : World) : Prop := ∀ k o, W.heap[k]? = some o → K k o → W'.heap[k]? = some o
theorem Kps.tr {K : Nat → Obj → Prop} {A B C : World} (h : Kps K A B) (h' : Kps K B C) : Kps K A C := fun k o ho hk => h' k o (h k o ho hk) hk
theorem Kps.rfl' {K : Nat → Obj → Prop} (W : World) : Kps K W W := fun _ _ h _ => h
theorem Kps.ext {K : Nat → Obj → Prop} {A B : World} (h : Ext A B) : Kps K A B := fun k o ho _ => by rw [h.block k (lt_size ho)]; exact ho
theorem Kps.tch {K : Nat → Obj → Prop} {A B : World} {g : Nat} (t : Tch g A B) (hn : ∀ o, A.heap[g]? = some o → ¬ K g o) : Kps K A B := fun k o ho hk => by
  rw [t.block k fun e => ?_]
  · exact ho
  · subst e; exact hn o ho hk
theorem Kps.grown {K : Nat → Obj → Prop} {A B : World} {row : Option Nat} (hg : A.grownBy B row) (hn : ∀ r o, row = some r → A.heap[r]? = some o → ¬ K r o) : Kps K A B := fun k o ho hk => by
  obtain ⟨_, _, _, _, hb⟩ := hg
  rw [hb k (lt_size ho) fun e => hn k o e.symm ho hk]
  exact ho
theorem Kps.put {K : Nat → Obj → Prop} {B : Nat} (hK : ∀ l o, B ≤ l → o.isCells = false → ¬ K l o) (W : World) (l : Nat) (o o' : Obj) (hl : B ≤ l) (h : W.heap[l]? = some o) (hc : o.isCells = false) : Kps K W (W.putObj l o') :=
  Kps.grown (grownBy_putObj' W l o') fun r x e hx => by cases e; rw [h] at hx; cases hx; exact hK l o hl hc
/-- what the walk of a round's body carries along: both the iterator's word and the law's. -/
def KK (K : Nat → Obj → Prop) (B : Nat) : Nat → Obj → Prop := fun k o => K k o ∨ (B ≤ k ∧ o.isCells = false)
structure Kpt (K : Nat → Obj → Prop) (W W' : World) : Prop where
  size : W.heap.size ≤ W'.heap.size
  same : Kps K W W'
section
variable {K : Nat → Obj → Prop} {B : Nat} {X Y Z : World}
theorem Kpt.rfl' (W : World) : Kpt K W W := ⟨Nat.le_refl _, Kps.rfl' W⟩
theorem Kpt.ext (h : Kpt K X Y) (k : Ext Y Z) : Kpt K X Z := ⟨Nat.le_trans h.size k.size, h.same.tr (Kps.ext k)⟩
theorem Kpt.tch {g : Nat} {cs : Array Value} {T : TypeId} {fr : Nat × Nat} (h : Kpt K X Y) (t : Tch g Y Z) (hb : Y.heap[g]? = some (.cells cs T fr)) (hn : ¬ K g (.cells cs T fr)) : Kpt K X Z :=
  ⟨by rw [t.size]; exact h.size, h.same.tr (Kps.tch t fun o ho => by rw [hb] at ho; cases ho; exact hn)⟩
theorem Kpt.grown {row : Option Nat} (h : Kpt K X Y) (hg : Y.grownBy Z row) (hn : ∀ r o, row = some r → Y.heap[r]? = some o → ¬ K r o) : Kpt K X Z := ⟨Nat.le_trans h.size hg.size, h.same.tr (Kps.grown hg hn)⟩
theorem Kpt.from (h : Kpt (KK K B) X Y) : KeepsFrom B X Y := ⟨h.size, fun k o hB ho hc => h.same k o ho (.inr ⟨hB, hc⟩)⟩
theorem Kpt.kps (h : Kpt (KK K B) X Y) : Kps K X Y := fun k o ho hk => h.same k o ho (.inl hk)
theorem KK_cells {g : Nat} {cs : Array Value} {T : TypeId} {fr : Nat × Nat} (h : ¬ K g (.cells cs T fr)) : ¬ KK K B g (.cells cs T fr) := fun x => x.elim h fun y => by cases y.2
/-- the usual choice: the entry world's blocks, one block more (the captured box), and each block of the type T0 of the iterator's own memory. -/
def KI (n g0 T0 : Nat) : Nat → Obj → Prop := fun k o => k < n ∨ k = g0 ∨ ∃ cs fr, o = .cells cs T0 fr
theorem KI_no {n g0 T0 g : Nat} {cs : Array Value} {T : TypeId} {fr : Nat × Nat} (h1 : n ≤ g) (h2 : g ≠ g0) (h3 : (T == T0) = false) : ¬ KI n g0 T0 g (.cells cs T fr) := by
  rintro (h | h | ⟨c, f, h⟩)
  · omega
  · exact h2 h
  · cases h; simp at h3
theorem KI_put {n g0 T0 : Nat} (h1 : n ≤ B) (h2 : g0 < B) : ∀ l o, B ≤ l → o.isCells = false → ¬ KI n g0 T0 l o := by
  rintro l o hl hc (h | h | ⟨c, f, h⟩)
  · omega
  · omega
  · subst h; cases hc
end
end Go.Own
