import Derived.Test.YtdilbnmaihmgnaaMono2
import Derived.Test.YtdilbnmaihmgnaaGenR
/-! the walk of a region that draws its order, memory by parts -/
namespace Go.Own
open Go Go.RowKit

/-- what is new: chunks that this operation laid. -/
def SPc (C : Value → List HP → Prop) (i : Nat) : L.SP where
  p s u := ∃ l' ws we, C u l' ∧ (i, ws.heap.size, we.heap.size) ∈ s.2 ∧ St ws NoX l' we ∧ Ext we s.1
  st := fun _ _ _ hle ⟨l', ws, we, h1, h2, h3, h4⟩ => ⟨l', ws, we, h1, by obtain ⟨p, hp⟩ := hle.log; rw [hp]; exact List.mem_append_right _ h2, h3, Ext.tr h4 hle.e⟩
/-- .. that looks at slots of the frame. -/
abbrev SPv (ts : List Tmp) (C : List Value → Value → List HP → Prop) (i : Nat) : L.SPd := ⟨ts, fun vs => SPc (C vs) i⟩
/-- the state, some operations' chunks being joined. -/
structure StJ (wr w0 : World) (X : Nat → Prop) (l : List HP) (s : L.SW) (J : List Nat) : Prop where
  ext : ExtX X w0 s.1
  le : w0.heap.size ≤ wr.heap.size
  sat : ∃ fs : Nat → Nat → Prop, (∀ (i : Nat) (c : HP), l[i]? = some c → c.p s.1 (fs i)) ∧ (∀ i b, fs i b → i < l.length ∧ (w0.heap.size ≤ b ∨ X b) ∧ b < s.1.heap.size) ∧ (∀ i j b, fs i b → fs j b → i = j) ∧
    ∀ i b, fs i b → b < wr.heap.size ∨ ∃ m ∈ J, ∃ x y, (m, x, y) ∈ s.2 ∧ x ≤ b ∧ b < y
theorem StJ.start {wr w0 : World} {X : Nat → Prop} {l : List HP} {s : L.SW} (h : St w0 X l wr) (hE : Ext wr s.1) : StJ wr w0 X l s [] := by
  obtain ⟨he, fs, h1, h2, h3⟩ := h
  exact ⟨he.tr (ExtX.of hE NoX) fun q hq => hq.elim, he.size, fs, fun i c hc => c.loc (h1 i c hc) (fun b hb => (h2 i b hb).2.2) fun b hb => hE.block b (h2 i b hb).2.2,
    fun i b hb => let ⟨a, b', c⟩ := h2 i b hb; ⟨a, b', Nat.lt_of_lt_of_le c hE.size⟩, h3, fun i b hb => .inl (h2 i b hb).2.2⟩
theorem StJ.st {wr w0 : World} {X : Nat → Prop} {l : List HP} {s : L.SW} {J : List Nat} (h : StJ wr w0 X l s J) : St w0 X l s.1 :=
  let ⟨he, _, fs, h1, h2, h3, _⟩ := h; ⟨he, fs, h1, h2, h3⟩
theorem pw_mem {R : Nat × Nat × Nat → Nat × Nat × Nat → Prop} {l : List (Nat × Nat × Nat)} (h : l.Pairwise R) {x y : Nat × Nat × Nat} (hx : x ∈ l) (hy : y ∈ l) (hne : x ≠ y) : R x y ∨ R y x := by
  induction h with
  | nil => cases hx
  | cons ha _ ih =>
    simp only [List.mem_cons] at hx hy
    rcases hx with rfl | hx <;> rcases hy with rfl | hy
    · exact absurd rfl hne
    · exact .inl (ha _ hy)
    · exact .inr (ha _ hx)
    · exact ih hx hy
theorem StJ.add {wr w0 ws we : World} {X : Nat → Prop} {l l' : List HP} {s : L.SW} {J : List Nat} {i : Nat} (h : StJ wr w0 X l s J) (hL : L.LogOk wr s) (hi : J.contains i = false) (hm : (i, ws.heap.size, we.heap.size) ∈ s.2)
    (k : St ws NoX l' we) (hE : Ext we s.1) : StJ wr w0 X (l' ++ l) s (i :: J) := by
  obtain ⟨he, hle, fs, h1, h2, h3, h4⟩ := h
  obtain ⟨ke, gs, k1, k2, k3⟩ := k
  have hi' : i ∉ J := by simpa using hi
  have hws := (hL.bd _ hm).1
  simp only at hws
  have key : ∀ j m b, gs j b → fs m b → False := fun j m b hj hm' => by
    obtain ⟨_, q, q'⟩ := k2 j b hj
    have q : ws.heap.size ≤ b := q.elim id fun x => x.elim
    rcases h4 m b hm' with r | ⟨n, hn, x, y, hxy, hb1, hb2⟩
    · omega
    · have hne : (i, ws.heap.size, we.heap.size) ≠ (n, x, y) := fun e => hi' (by have := congrArg Prod.fst e; simp only at this; rw [this]; exact hn)
      rcases pw_mem hL.pw hm hxy hne with r | r
      · simp only at r; omega
      · simp only at r; omega
  refine ⟨he, hle, fun j b => if j < l'.length then gs j b else fs (j - l'.length) b, fun j d hd => ?_, fun j b hb => ?_, fun j m b hj hm => ?_, fun j b hb => ?_⟩
  · by_cases hj : j < l'.length
    · rw [List.getElem?_append_left hj] at hd
      have e : (fun b => if j < l'.length then gs j b else fs (j - l'.length) b) = gs j := by funext b; simp [hj]
      exact HP.eq_p e <| d.loc (k1 j d hd) (fun b hb => (k2 j b hb).2.2) fun b hb => hE.block b (k2 j b hb).2.2
    · rw [List.getElem?_append_right (by omega)] at hd
      have e : (fun b => if j < l'.length then gs j b else fs (j - l'.length) b) = fs (j - l'.length) := by funext b; simp [hj]
      exact HP.eq_p e <| h1 _ d hd
  · by_cases hj : j < l'.length
    · simp only [hj, if_true] at hb
      obtain ⟨a, b', c⟩ := k2 j b hb
      have b' : ws.heap.size ≤ b := b'.elim id fun x => x.elim
      exact ⟨by simp; omega, .inl (by omega), Nat.lt_of_lt_of_le c hE.size⟩
    · simp only [hj, if_false] at hb
      obtain ⟨a, b', c⟩ := h2 _ b hb
      exact ⟨by simp; omega, b', c⟩
  · by_cases hj' : j < l'.length <;> by_cases hm' : m < l'.length
    · simp only [hj', hm', if_true] at hj hm; exact k3 j m b hj hm
    · simp only [hj', hm', if_true, if_false] at hj hm; exact (key j _ b hj hm).elim
    · simp only [hj', hm', if_true, if_false] at hj hm; exact (key m _ b hm hj).elim
    · simp only [hj', hm', if_false] at hj hm
      have := h3 _ _ b hj hm
      omega
  · by_cases hj : j < l'.length
    · simp only [hj, if_true] at hb
      obtain ⟨_, q, q'⟩ := k2 j b hb
      have q : ws.heap.size ≤ b := q.elim id fun x => x.elim
      exact .inr ⟨i, by simp, _, _, hm, q, q'⟩
    · simp only [hj, if_false] at hb
      rcases h4 _ b hb with r | ⟨n, hn, r⟩
      · exact .inl r
      · exact .inr ⟨n, by simp [hn], r⟩

section
variable {P : Program} {ops : Array Oper} {w0 : World} {Φ : Nat → Option L.SPd} {e : Nat} {Z : Act → (Nat → L.SW → Prop) → Prop} {l : List Oper} {o : Oper} {i : Nat} {A A' : Act} {F : Nat → L.SW → Prop} {d : Tmp} {v : Value} {x y : Operand}
structure DK (P : Program) (ops : Array Oper) (w0 : World) (Φ : Nat → Option L.SPd) (e : Nat) (Z : Act → (Nat → L.SW → Prop) → Prop) (l : List Oper) (i : Nat) (A : Act) (F : Nat → L.SW → Prop) : Prop where
  out : L.Chk P ops (L.WL w0) Φ e Z l i A F
theorem D_eff (he : i = e) (h : DK P ops w0 Φ e Z l (i + 1) A F) : DK P ops w0 Φ e Z (o :: l) i A F := ⟨by unfold L.Chk; rw [if_pos he]; exact h.out⟩
theorem D_pure (hd : A.put o.dst v = A') (hw : Region.wanted o (yielded ops A.tmps) = true) (hx : ∀ s : L.SW, (L.early ops e i = true → L.WL w0 s ∧ L.ancF ops i F s) → ValW P A o s.1 v) (he : (i == e) = false) (hΦ : Φ i = none)
    (h : DK P ops w0 Φ e Z l (i + 1) A' F) : DK P ops w0 Φ e Z (o :: l) i A F := by
  refine ⟨?_⟩
  unfold L.Chk; rw [if_neg (by simpa using he), if_pos hw]; simp only [hΦ]
  exact ⟨v, fun s hs => ex_ev (hx s hs), by rw [hd]; exact h.out⟩
theorem D_v (hd : o.dst = some d) (hw : Region.wanted o (yielded ops A.tmps) = true) (hx : Val P A o v) (he : (i == e) = false) (hΦ : Φ i = none) (h : DK P ops w0 Φ e Z l (i + 1) (PT A d v) F) : DK P ops w0 Φ e Z (o :: l) i A F :=
  D_pure (A' := PT A d v) (by rw [hd]; rfl) hw (fun s _ => hx s.1) he hΦ h
theorem D_r (hd : o.dst = some d) (hw : Region.wanted o (yielded ops A.tmps) = true) (hE : L.early ops e i = true) (hx : ∀ s : L.SW, Ext w0 s.1 → L.ancF ops i F s → ValW P A o s.1 v) (he : (i == e) = false) (hΦ : Φ i = none)
    (h : DK P ops w0 Φ e Z l (i + 1) (PT A d v) F) : DK P ops w0 Φ e Z (o :: l) i A F :=
  D_pure (A' := PT A d v) (by rw [hd]; rfl) hw (fun s hs => hx s (hs hE).1.1 (hs hE).2) he hΦ h
theorem D_off (hd : o.dst = some d) (hw : Region.wanted o (yielded ops A.tmps) = false) (he : (i == e) = false) (h : DK P ops w0 Φ e Z l (i + 1) (PT A d undef) F) : DK P ops w0 Φ e Z (o :: l) i A F := by
  refine ⟨?_⟩
  unfold L.Chk; rw [if_neg (by simpa using he), if_neg (by rw [hw]; exact Bool.false_ne_true), hd]; exact h.out
theorem D_split {p : Prop} [Decidable p] (hd : o.dst = some d) (hw : Region.wanted o (yielded ops A.tmps) = true) (hx : Val P A o (.bool (decide p))) (he : (i == e) = false) (hΦ : Φ i = none)
    (ht : p → DK P ops w0 Φ e Z l (i + 1) (PT A d (.bool true)) F) (hf : ¬ p → DK P ops w0 Φ e Z l (i + 1) (PT A d (.bool false)) F) : DK P ops w0 Φ e Z (o :: l) i A F := by
  refine D_v hd hw hx he hΦ ?_
  by_cases h : p
  · rw [decide_eq_true h]; exact ht h
  · rw [decide_eq_false h]; exact hf h
theorem D_sure {c c' : Bool} (hd : o.dst = some d) (hw : Region.wanted o (yielded ops A.tmps) = true) (hx : Val P A o (.bool c)) (hc : c = c') (he : (i == e) = false) (hΦ : Φ i = none)
    (h : DK P ops w0 Φ e Z l (i + 1) (PT A d (.bool c')) F) : DK P ops w0 Φ e Z (o :: l) i A F := by
  subst hc; exact D_v hd hw hx he hΦ h
theorem D_new {ts : List Tmp} {vs : List Value} {C0 : List Value → Value → List HP → Prop} {C : Value → List HP → Prop} (hd : o.dst = some d) (hw : Region.wanted o (yielded ops A.tmps) = true) (he : (i == e) = false) (hΦ : Φ i = some (SPv ts C0 i)) (hts : ts.map (fun t => EV A (.tmp t)) = vs) (hC : C0 vs = C)
    (hx : ∀ s : L.SW, Ext w0 s.1 → L.ancF ops i F s → wpU P o A s.1 fun u w' => ∃ l', C u l' ∧ St s.1 NoX l' w')
    (h : ∀ u l', C u l' → DK P ops w0 Φ e Z l (i + 1) (PT A d u) (L.upd F i fun s => (SPc C i).p s u)) : DK P ops w0 Φ e Z (o :: l) i A F := by
  refine ⟨?_⟩
  have hat : (SPv ts C0 i).at A = SPc C i := by rw [← hC, ← hts]; rfl
  unfold L.Chk; rw [if_neg (by simpa using he), if_pos hw]; simp only [hΦ, hat]
  refine ⟨fun s hs hF => wpU_mono (fun u w' ⟨l', h1, h2⟩ => ?_) (hx s hs.1 hF), fun u ⟨s, hs, l', _, _, hC, _⟩ => by rw [hd]; exact (h u l' hC).out⟩
  exact ⟨hs.push i h2.e, h2.e, l', s.1, w', h1, by simp [L.push], h2, Ext.rfl' _⟩
theorem D_call {ts : List Tmp} {vs : List Value} {C0 : List Value → Value → List HP → Prop} {C : Value → List HP → Prop} {f : FuncId} {fn : Func} {xs : Array Operand} {ats : Array TypeId} {args : Array Value} (hd : o.dst = some d) (hw : Region.wanted o (yielded ops A.tmps) = true)
    (ho : o.op = .call { callee := .value (.func f), args := xs, argTypes := ats }) (hf : P.funcs[f]? = some fn)
    (hn : (fn.name == "runtime.NumGoroutine") = false) (hb : fn.body.isNone = false) (ha : xs.map (EV A) = args) (he : (i == e) = false) (hΦ : Φ i = some (SPv ts C0 i)) (hts : ts.map (fun t => EV A (.tmp t)) = vs) (hC : C0 vs = C)
    (hx : ∀ s : L.SW, Ext w0 s.1 → L.ancF ops i F s → Calls P f args s.1 fun e w' => ∃ v, e = .returned v ∧ ∃ l', C v l' ∧ St s.1 NoX l' w')
    (h : ∀ u l', C u l' → DK P ops w0 Φ e Z l (i + 1) (PT A d u) (L.upd F i fun s => (SPc C i).p s u)) : DK P ops w0 Φ e Z (o :: l) i A F := by
  refine D_new hd hw he hΦ hts hC (fun s hs hF => ?_) h
  unfold wpU
  rw [ex_ev (run_call ho hf hn hb ha s.1)]
  exact (hx s hs hF).mono fun e w' ⟨v, he, hl⟩ => by subst he; exact hl
/-- a value and a new world at once. -/
theorem D_lay {ts : List Tmp} {vs : List Value} {C0 : List Value → Value → List HP → Prop} {C : Value → List HP → Prop} (hd : o.dst = some d) (hw : Region.wanted o (yielded ops A.tmps) = true) (he : (i == e) = false) (hΦ : Φ i = some (SPv ts C0 i)) (hts : ts.map (fun t => EV A (.tmp t)) = vs) (hC : C0 vs = C)
    (hx : ∀ s : L.SW, Ext w0 s.1 → L.ancF ops i F s → ∃ u w', (execOp (EV A) o).run P s.1 = .ok (.value u) w' ∧ ∃ l', C u l' ∧ St s.1 NoX l' w')
    (h : ∀ u l', C u l' → DK P ops w0 Φ e Z l (i + 1) (PT A d u) (L.upd F i fun s => (SPc C i).p s u)) : DK P ops w0 Φ e Z (o :: l) i A F := by
  refine D_new hd hw he hΦ hts hC (fun s hs hF => ?_) h
  obtain ⟨u, w', hr, hl⟩ := hx s hs hF
  unfold wpU
  rw [ex_ev hr]
  exact hl
theorem region_monoS {id : Nat} {Q : Exit → Act → World → Prop} {w : World} {l : List Oper} (e k : Nat) (Φ : List (Option L.SPd)) (hm : P.follows .mixedOrders = true) (hB : L.monoB l.toArray e k Φ = true)
    (h : DK P l.toArray w (fun i => (Φ[i]?).getD none) e (L.Zed P l.toArray (L.WL w) e k Q) (l.take k) 0 A (fun _ _ => True)) : (Code.region id l.toArray true).wp P Q A w := L.wp_region_mono e k Φ hm hB h.out
theorem ZS_eff {k : Nat} {Q : Exit → Act → World → Prop} {wb : World} {X : Nat → Prop} {cs : List HP} (hS : St wb X cs w0) (he : ops[e]? = some o) (hk : ops.toList.drop k = l)
    (h : ∀ s : L.SW, StJ w0 wb X cs s [] → L.LogOk w0 s → (∀ k, F k s) → WX P ops (Qo Q) (o :: l) A s.1) : DK P ops w0 Φ e (L.Zed P ops (L.WL w0) e k Q) [] i A F :=
  ⟨fun s hs hF => by have := (h s (StJ.start hS hs.1) hs.2 hF).out; rw [he, hk]; exact this⟩
theorem ZS_none {k : Nat} {Q : Exit → Act → World → Prop} {wb : World} {X : Nat → Prop} {cs : List HP} (hS : St wb X cs w0) (he : ops.size ≤ e) (hk : ops.size ≤ k)
    (h : ∀ s : L.SW, StJ w0 wb X cs s [] → L.LogOk w0 s → (∀ k, F k s) → Q .normal A s.1) : DK P ops w0 Φ e (L.Zed P ops (L.WL w0) e k Q) [] i A F :=
  ⟨fun s hs hF => by
    rw [Array.getElem?_eq_none he, List.drop_eq_nil_of_le (by simpa using hk)]
    exact h s (StJ.start hS hs.1) hs.2 hF⟩
end
namespace L
section
variable {ops : Array Oper} {F : Nat → SW → Prop}
theorem ancF_get {i k : Nat} {f : SW → Prop} {w : SW} (h : ancF ops i (upd F k f) w) (hk : anc ops i k = true) : f w := (h k hk).2 rfl
theorem ancF_rest {i k : Nat} {f : SW → Prop} {w : SW} (h : ancF ops i (upd F k f) w) : ancF ops i F w := fun j hj => (h j hj).1
theorem all_get {k : Nat} {f : SW → Prop} {w : SW} (h : ∀ j, upd F k f j w) : f w := (h k).2 rfl
theorem all_rest {k : Nat} {f : SW → Prop} {w : SW} (h : ∀ j, upd F k f j w) : ∀ j, F j w := fun j => (h j).1
end
end L
end Go.Own
namespace Go.Own
open Go Go.RowKit
section
variable {A : Act} {a b c d : Tmp} {x y z u : Value}
theorem ts1 (h1 : EV A (.tmp a) = x) : ([a] : List Tmp).map (fun t => EV A (.tmp t)) = [x] := by rw [List.map_cons, h1]; rfl
theorem ts2 (h1 : EV A (.tmp a) = x) (h2 : EV A (.tmp b) = y) : ([a, b] : List Tmp).map (fun t => EV A (.tmp t)) = [x, y] := by rw [List.map_cons, h1, ts1 h2]
end
end Go.Own
