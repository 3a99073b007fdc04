import Derived.Test.YtpgkfndbfocibaaGreatSep2
import Derived.Laws.CopyRow
namespace Go.Own
open Go Go.RowKit
def ob (g : Nat) (o : Obj) : HP := ⟨fun w f => f g ∧ w.heap[g]? = some o, fun h _ hb => ⟨h.1, (hb _ h.1).trans h.2⟩⟩
abbrev bx (g : Nat) (T : TypeId) (cs : Array Value) : HP := ob g (.cells cs T (0, 0))
def sl (s n : Nat) (v : Value) (xs : List Value) : HP where
  p w f := ∃ a cap, v = .slice a n cap ∧ n ≤ cap ∧ cap ≤ 9223372036854775807 ∧ xs.length = n * s ∧ (a = none → n = 0) ∧
    ∀ b, a = some b → (0 < cap → b.spot = none) ∧ ∀ (j : Nat) (x : Value), xs[j]? = some x → f b.block ∧ w.cell? ⟨b.block, b.off + j, none⟩ = some x
  loc := fun ⟨a, cap, h0, h1, h2, h3, h4, h5⟩ _ hb => ⟨a, cap, h0, h1, h2, h3, h4, fun b e => ⟨(h5 b e).1, fun j x hj => by
    obtain ⟨q1, q2⟩ := (h5 b e).2 j x hj
    refine ⟨q1, ?_⟩
    unfold World.cell? at q2 ⊢
    rw [hb _ q1]; exact q2⟩⟩
def ow (s n : Nat) (v : Value) (xs : List Value) : HP where
  p w f := xs.length = n * s ∧ ((∃ a, v = .slice a 0 0 ∧ n = 0 ∧ ∀ b : Addr, a = some b → 0 < 0 → b.spot = none) ∨
    ∃ g off cap cur T, v = .slice (some ⟨g, off, none⟩) n cap ∧ f g ∧ w.heap[g]? = some (.cells cur T (0, 0)) ∧ n ≤ cap ∧ cap ≤ maxLen ∧ off + cap * s ≤ cur.size ∧ ∀ (j : Nat) (x : Value), xs[j]? = some x → cur[off + j]? = some x)
  loc := fun ⟨h0, h⟩ _ hb => ⟨h0, h.imp id fun ⟨g, off, cap, cur, T, h1, h2, h3, h4⟩ => ⟨g, off, cap, cur, T, h1, h2, (hb _ h2).trans h3, h4⟩⟩
def HP.and (c d : HP) : HP := ⟨fun w f => c.p w f ∧ d.p w f, fun h hs hb => ⟨c.loc h.1 hs hb, d.loc h.2 hs hb⟩⟩
def pu (p : Prop) : HP := ⟨fun _ _ => p, fun h _ _ => h⟩
abbrev il (k : IntKind) (v : Value) (zs : List Int) : HP := sl 1 zs.length v (zs.map (Value.int k))
abbrev io (k : IntKind) (v : Value) (zs : List Int) : HP := ow 1 zs.length v (zs.map (Value.int k))
abbrev bo (v : Value) (zs : List Bool) : HP := ow 1 zs.length v (zs.map Value.bool)
abbrev rl {α : Type} (s : Nat) (fn : α → List Value) (v : Value) (ys : List α) : HP := sl s ys.length v (ys.flatMap fn)
abbrev ro {α : Type} (s : Nat) (fn : α → List Value) (v : Value) (ys : List α) : HP := ow s ys.length v (ys.flatMap fn)
section
variable {w w' w0 : World} {X f : Nat → Prop} {s n : Nat} {v : Value} {xs : List Value} {c : HP}
theorem sl_SlN (h : (sl s n v xs).at w) : SlN w s v n xs := by
  obtain ⟨f, a, cap, h0, h1, h2, h3, h4, h5⟩ := h
  exact ⟨a, cap, h0, h1, h2, h3, h4, fun b e => ⟨(h5 b e).1, fun j x hj => ((h5 b e).2 j x hj).2⟩⟩
theorem SlN.p (h : SlN w s v n xs) : (sl s n v xs).p w (fun b => b < w.heap.size) := by
  obtain ⟨a, cap, h0, h1, h2, h3, h4, h5⟩ := h
  exact ⟨a, cap, h0, h1, h2, h3, h4, fun b e => ⟨(h5 b e).1, fun j x hj => ⟨World.block_lt_of_cell? w (⟨b.block, b.off + j, none⟩ : Addr) ((h5 b e).2 j x hj), (h5 b e).2 j x hj⟩⟩⟩
theorem SlN.ro (h : SlN w s v n xs) : Ro w NoX (sl s n v xs) := ⟨_, h.p, fun _ hb => ⟨hb, fun x => x⟩⟩
theorem ow_sl (h : (ow s n v xs).p w f) : (sl s n v xs).p w f := by
  obtain ⟨h0, ⟨a, rfl, rfl, ha⟩ | ⟨g, off, cap, cur, T, rfl, h1, h2, h3, h4, h5, h6⟩⟩ := h
  · have : xs = [] := List.eq_nil_of_length_eq_zero (by simpa using h0)
    subst this
    exact ⟨a, 0, rfl, by simp, by simp, by simp, fun _ => rfl, fun b e => ⟨ha b e, fun j x hj => by simp at hj⟩⟩
  · refine ⟨_, cap, rfl, h3, by unfold maxLen at h4; omega, h0, fun h => (by cases h), fun b e => ?_⟩
    cases e
    exact ⟨fun _ => rfl, fun j x hj => ⟨h1, by rw [cell_of_row _ _ _ _ _ _ h2]; exact h6 j x hj⟩⟩
theorem ow_at (h : (ow s n v xs).at w) : SlN w s v n xs := let ⟨f, hf⟩ := h; sl_SlN ⟨f, ow_sl hf⟩
theorem Ro.own (h : Ro w0 X (ow s n v xs)) : Ro w0 X (sl s n v xs) := let ⟨f, h1, h2⟩ := h; ⟨f, ow_sl h1, h2⟩
theorem Ro.fst {c d : HP} (h : Ro w0 X (c.and d)) : Ro w0 X c := let ⟨f, h1, h2⟩ := h; ⟨f, h1.1, h2⟩
theorem Ro.snd {c d : HP} (h : Ro w0 X (c.and d)) : Ro w0 X d := let ⟨f, h1, h2⟩ := h; ⟨f, h1.2, h2⟩
theorem ob_at {g : Nat} {o : Obj} (h : (ob g o).at w) : w.heap[g]? = some o := let ⟨_, h1⟩ := h; h1.2
theorem SlN.blk (h : SlN w s v n xs) (hn : 0 < n) : ∃ B O C, v = .slice (some ⟨B, O, none⟩) n C := by
  obtain ⟨a, cap, rfl, hcp, _, _, h4, h5⟩ := h
  cases a with
  | none => have := h4 rfl; omega
  | some b => obtain ⟨B, O, sp⟩ := b; have e := (h5 _ rfl).1 (by omega); simp only at e; subst e; exact ⟨B, O, cap, rfl⟩
theorem SlN.cell {B O C j : Nat} {y : Value} (h : SlN w s v n xs) (hv : v = .slice (some ⟨B, O, none⟩) n C) (hy : xs[j]? = some y) : w.cell? ⟨B, O + j, none⟩ = some y := by
  obtain ⟨a, cap, h0, _, _, _, h4, h5⟩ := h
  rw [hv] at h0; cases h0
  exact (h5 _ rfl).2 j y hy
theorem SlN.len (h : SlN w s v n xs) : xs.length = n * s := by obtain ⟨_, _, _, _, _, h3, _⟩ := h; exact h3
theorem SlN.le (h : SlN w s v n xs) : (n : Int) ≤ 9223372036854775807 := by obtain ⟨_, _, _, h1, h2, h3, _⟩ := h; omega
theorem ow_nil {w : World} {s : Nat} : (ow s 0 (.slice none 0 0) []).p w f := ⟨by simp, .inl ⟨none, rfl, rfl, fun b e => by cases e⟩⟩
theorem sl_nil {w : World} {s : Nat} : (sl s 0 (.slice none 0 0) []).p w f := ow_sl ow_nil
theorem ro_nil {w : World} {s : Nat} {X : Nat → Prop} : Ro w X (sl s 0 (.slice none 0 0) []) := ⟨fun _ => False, sl_nil, fun _ h => h.elim⟩
theorem St.pnil {l : List HP} (h : St w0 X l w) : ∃ c, c = ow s 0 (.slice none 0 0) [] ∧ St w0 X (c :: l) w := ⟨_, rfl, h.push (Ext.rfl' _) (f := fun _ => False) ow_nil fun _ h => h.elim⟩
end
def subS (s : Nat) (v : Value) (lo hh : Nat) : Value := match v with | .slice a _ cap => .slice (if cap = lo then a else a.map (·.add (lo * s))) (hh - lo) (cap - lo) | v => v
theorem flat_len {α : Type} {s : Nat} {fn : α → List Value} (hs : ∀ a, (fn a).length = s) : ∀ ys : List α, (ys.flatMap fn).length = ys.length * s
  | [] => by simp
  | y :: ys => by simp [hs, flat_len hs ys, Nat.add_mul]; omega
theorem flat_get {α : Type} {s : Nat} {fn : α → List Value} (hs : ∀ a, (fn a).length = s) : ∀ (ys : List α) (k j : Nat) (y : α) (u : Value), ys[k]? = some y → (fn y)[j]? = some u → (ys.flatMap fn)[k * s + j]? = some u
  | [], k, j, y, u, h, _ => by simp at h
  | z :: ys, 0, j, y, u, h, h' => by
    simp at h; subst h
    have := (List.getElem?_eq_some_iff.1 h').1
    simp only [List.flatMap_cons, Nat.zero_mul, Nat.zero_add]
    rw [List.getElem?_append_left this]; exact h'
  | z :: ys, k + 1, j, y, u, h, h' => by
    have ih := flat_get hs ys k j y u (by simpa using h) h'
    simp only [List.flatMap_cons]
    rw [List.getElem?_append_right (by rw [hs, Nat.add_mul]; omega), hs, show (k + 1) * s + j - s = k * s + j by rw [Nat.add_mul]; omega]
    exact ih
section
variable {P : Program} {ops : Array Oper} {l : List Oper} {o : Oper} {A : Act} {Q : Exit → Act → World → Prop} {w w' w0 : World} {X : Nat → Prop} {cs : List HP} {c : HP} {d : Tmp} {v v1 v2 : Value} {x y : Operand} {k : IntKind} {a b : Int} {s n : Nat} {xs : List Value}
theorem V_lenS {t e : TypeId} {wS : World} (ho : o.op = .call { callee := .builtin .len, args := #[x], argTypes := #[t] }) (hx : EV A x = v) (h : SlN wS s v n xs) (ht : P.underlying t = some (.slice e)) : Val P A o (.int .i64 (n : Int)) := by
  obtain ⟨a, c, hv⟩ := h.form
  exact V_len ho hx hv ht
theorem V_ixS {p : Operand} {t e : TypeId} {B O C off : Nat} {z : Int} {kd : IntKind} (s k : Nat) (ho : o.op = .indexAddr t x p) (hx : EV A x = v) (hp : EV A p = .int kd z) (hv : v = .slice (some ⟨B, O, none⟩) n C) (hz : z = (k : Int)) (hk : k < n)
    (ht : P.underlying t = some (.slice e)) (hi : (P.info? e).map (·.size) = some s) (hoff : O + k * s = off) : Val P A o (.pointer (some ⟨B, off, none⟩)) := fun w => by
  cases hq : P.info? e with
  | none => simp [hq] at hi
  | some inf =>
    have hs : inf.size = s := by simpa [hq] using hi
    subst hz hv hoff
    unfold execOp
    simp [ho, hx, hp, Instr.indexAt, asIntOf, run_underlying ht, sizeOf, typeInfo, hq, hs, hk, Addr.add]
theorem VR_ldR {T B off : Nat} {ys : List Value} {de : TypeDesc} (ho : o.op = .load T x) (hx : EV A x = .pointer (some ⟨B, off, none⟩)) (hc : ∀ j u, ys[j]? = some u → w.cell? ⟨B, off + j, none⟩ = some u)
    (hu : P.underlying T = some de) (hd : de.isRow = true) (hi : (P.info? T).map (·.size) = some ys.length) : ValW P A o w (.agg ys.toArray) :=
  VR_ldM ho hx hc hu hd hi
theorem SlN.row {α : Type} {fn : α → List Value} {ys : List α} {B O C k off : Nat} {y : α} (hs : ∀ a, (fn a).length = s) (h : SlN w s v n (ys.flatMap fn)) (hv : v = .slice (some ⟨B, O, none⟩) n C) (hy : ys[k]? = some y) (hoff : O + k * s = off) : ∀ j u, (fn y)[j]? = some u → w.cell? ⟨B, off + j, none⟩ = some u := fun j u hu => by
  have := h.cell hv (flat_get hs ys k j y u hy hu)
  rw [← hoff, Nat.add_assoc]; exact this
theorem V_subS {lov hiv : Option Operand} {t e : TypeId} {wS : World} (s lo hh : Nat) (ho : o.op = .slice t x lov hiv none) (hx : EV A x = v)
    (hlo : lov = none ∧ lo = 0 ∨ ∃ p z, lov = some p ∧ EV A p = .int .i64 z ∧ z = (lo : Int)) (hhi : hiv = none ∧ hh = n ∨ ∃ p z, hiv = some p ∧ EV A p = .int .i64 z ∧ z = (hh : Int))
    (ht : P.underlying t = some (.slice e)) (hi : (P.info? e).map (·.size) = some s) (hv : SlN wS s v n xs) (h1 : lo ≤ hh) (h2 : hh ≤ n) : Val P A o (subS s v lo hh) := fun w => by
  cases hq : P.info? e with
  | none => simp [hq] at hi
  | some inf =>
    have hs : inf.size = s := by simpa [hq] using hi
    obtain ⟨a, cap, rfl⟩ := hv.form
    have g1 : n ≤ cap := by obtain ⟨_, _, h, h', _⟩ := hv; cases h; exact h'
    unfold execOp subS
    rcases hlo with ⟨rfl, rfl⟩ | ⟨p, z, rfl, hp, rfl⟩ <;> rcases hhi with ⟨rfl, rfl⟩ | ⟨p', z', rfl, hp', rfl⟩ <;>
      simp [ho, hx, *, Instr.sliceAt, Instr.slice, Instr.sliceBounds, Instr.sliceBound, run_underlying ht, sizeOf, typeInfo, hq, hs, asIntOf, h1, Nat.le_trans h2 g1] <;> omega
theorem add_off {c : Addr} {q : Nat} (hc : c.spot = none) : (c.add q).block = c.block ∧ (c.add q).off = c.off + q ∧ (c.add q).spot = none := by
  unfold Addr.add; split <;> simp_all
theorem sl_sub {f : Nat → Prop} (h : (sl s n v xs).p w f) (lo hh : Nat) (h1 : lo ≤ hh) (h2 : hh ≤ n) : (sl s (hh - lo) (subS s v lo hh) ((xs.drop (lo * s)).take ((hh - lo) * s))).p w f := by
  obtain ⟨a, cap, rfl, g1, g2, g3, g4, g5⟩ := h
  refine ⟨_, cap - lo, rfl, by omega, by omega, ?_, fun h => ?_, fun b hb => ?_⟩
  · have : hh * s ≤ n * s := Nat.mul_le_mul_right _ h2
    have : (hh - lo) * s = hh * s - lo * s := Nat.sub_mul ..
    simp only [List.length_take, List.length_drop]; omega
  · have : a = none := by
      split at h
      · exact h
      · simpa using h
    have := g4 this; omega
  · split at hb
    · rename_i hc
      refine ⟨fun h => (g5 b hb).1 (by omega), fun j x hj => ?_⟩
      have h0 := (List.getElem?_eq_some_iff.1 hj).1
      have : hh - lo = 0 := by omega
      rw [this] at h0; simp at h0
    · cases a with
      | none => simp at hb
      | some c =>
        simp at hb; subst hb
        obtain ⟨q1, q2⟩ := g5 c rfl
        obtain ⟨e1, e2, e3⟩ := add_off (q := lo * s) (q1 (by omega))
        refine ⟨fun _ => e3, fun j x hj => ?_⟩
        rw [e1, e2, Nat.add_assoc]
        refine q2 _ _ ?_
        have h0 := (List.getElem?_eq_some_iff.1 hj).1
        simp only [List.length_take] at h0
        rw [List.getElem?_take] at hj
        split at hj
        · simpa using hj
        · cases hj
theorem Ro.sub (h : Ro w0 X (sl s n v xs)) (lo hh : Nat) (h1 : lo ≤ hh) (h2 : hh ≤ n) : Ro w0 X (sl s (hh - lo) (subS s v lo hh) ((xs.drop (lo * s)).take ((hh - lo) * s))) := let ⟨f, q1, q2⟩ := h; ⟨f, sl_sub q1 lo hh h1 h2, q2⟩
theorem ow_sub {f : Nat → Prop} (h : (ow s n v xs).p w f) (lo hh : Nat) (h1 : lo ≤ hh) (h2 : hh ≤ n) : (ow s (hh - lo) (subS s v lo hh) ((xs.drop (lo * s)).take ((hh - lo) * s))).p w f := by
  obtain ⟨h0, h⟩ := h
  have : hh * s ≤ n * s := Nat.mul_le_mul_right _ h2
  have : (hh - lo) * s = hh * s - lo * s := Nat.sub_mul ..
  refine ⟨by simp only [List.length_take, List.length_drop]; omega, ?_⟩
  rcases h with ⟨a, rfl, rfl, ha⟩ | ⟨g, off, cap, cur, T, rfl, q1, q2, q3, q4, q5, q6⟩
  · have e1 : lo = 0 := by omega
    have e2 : hh = 0 := by omega
    subst e1 e2
    exact .inl ⟨a, by simp [subS], rfl, ha⟩
  · by_cases hc : cap = lo
    · refine .inl ⟨some ⟨g, off, none⟩, ?_, by omega, fun b e _ => by cases e; rfl⟩
      simp only [subS, hc, if_true]
      rw [show hh - lo = 0 by omega, Nat.sub_self]
    · refine .inr ⟨g, off + lo * s, cap - lo, cur, T, ?_, q1, q2, by omega, by omega, ?_, fun j x hj => ?_⟩
      · simp only [subS, hc, if_false, Option.map_some]
        congr 2
        unfold Addr.add; split <;> simp_all
      · have : (cap - lo) * s = cap * s - lo * s := Nat.sub_mul ..
        have : lo * s ≤ cap * s := Nat.mul_le_mul_right _ (by omega)
        omega
      · rw [Nat.add_assoc]
        refine q6 _ _ ?_
        rw [List.getElem?_take] at hj
        split at hj
        · simpa using hj
        · cases hj
theorem St.sub (h : St w0 X cs w) (i : Nat) (hi : cs[i]? = some c) (hc : c = ow s n v xs) (lo hh : Nat) (h1 : lo ≤ hh) (h2 : hh ≤ n) : ∃ c', c' = ow s (hh - lo) (subS s v lo hh) ((xs.drop (lo * s)).take ((hh - lo) * s)) ∧ St w0 X (cs.set i c') w := by
  subst hc
  obtain ⟨f, q1, q2, q3⟩ := h.upd i hi
  exact ⟨_, rfl, q3 w _ f (ExtX.rfl' _ w) (ow_sub q1 lo hh h1 h2) fun b hb => .inl hb⟩
theorem W_boxS {T : TypeId} {zs : Array Value} (hS : St w0 X cs w) (hd : o.dst = some d) (hw : Region.wanted o (yielded ops A.tmps) = true) (ho : o.op = .box T x) (hx : EV A x = v) (hc : v.cells = zs)
    (h : ∀ g w' c, c = bx g T zs → St w0 X (c :: cs) w' → WX P ops Q l (PT A d (.pointer (some ⟨g, 0, none⟩))) w') : WX P ops Q (o :: l) A w :=
  W_box hd hw ho hx hc fun g w' hg hE hb => h g w' _ rfl (hS.push hE (f := (· = g)) ⟨rfl, hb⟩ fun b e => by subst e; exact ⟨by omega, lt_size hb⟩)
theorem W_allocS {T : TypeId} {z : Value} {zs : Array Value} (hS : St w0 X cs w) (hd : o.dst = some d) (hw : Region.wanted o (yielded ops A.tmps) = true) (ho : o.op = .alloc T) (hz : (P.info? T).map (·.zero) = some (some z)) (hc : z.cells = zs)
    (h : ∀ g w' c, c = bx g T zs → St w0 X (c :: cs) w' → WX P ops Q l (PT A d (.pointer (some ⟨g, 0, none⟩))) w') : WX P ops Q (o :: l) A w :=
  W_alloc hd hw ho hz hc fun g w' hg hE hb => h g w' _ rfl (hS.push hE (f := (· = g)) ⟨rfl, hb⟩ fun b e => by subst e; exact ⟨by omega, lt_size hb⟩)
theorem W_stCS {T g off T' : Nat} {zs zs' : Array Value} (i : Nat) (hS : St w0 X cs w) (hi : cs[i]? = some c) (hc : c = bx g T' zs) (hd : o.dst = none) (hw : Region.wanted o (yielded ops A.tmps) = true) (ho : o.op = .store T x y) (hx : EV A x = .pointer (some ⟨g, off, none⟩)) (hy : EV A y = v) (h1 : v.oneCell' = true)
    (hlt : (decide (off < zs.size)) = true) (hif : (P.info? T).map (·.size) = some 1) (hz : zs.setIfInBounds off v = zs')
    (h : ∀ w' c', c' = bx g T' zs' → St w0 X (cs.set i c') w' → WX P ops Q l A w') : WX P ops Q (o :: l) A w := by
  subst hc
  obtain ⟨f, q1, q2, q3⟩ := hS.upd i hi
  refine W_stC hd hw ho hx hy h1 q1.2 hlt hif hz fun w' ht hb => h w' _ rfl (q3 w' _ f ((ExtX.tch ht).mono fun b e => by subst e; exact q1.1) ⟨q1.1, hb⟩ fun b hb => .inl hb)
theorem W_stAS {T g T' : Nat} {zs old : Array Value} (i : Nat) (hS : St w0 X cs w) (hi : cs[i]? = some c) (hc : c = bx g T' old) (hd : o.dst = none) (hw : Region.wanted o (yielded ops A.tmps) = true) (ho : o.op = .store T x y) (hx : EV A x = .pointer (some ⟨g, 0, none⟩)) (hy : EV A y = .agg zs) (h1 : zs.all (·.oneCell') = true)
    (hs : old.size = zs.size) (hif : (P.info? T).map (·.size) = some zs.size)
    (h : ∀ w' c', c' = bx g T' zs → St w0 X (cs.set i c') w' → WX P ops Q l A w') : WX P ops Q (o :: l) A w := by
  subst hc
  obtain ⟨f, q1, q2, q3⟩ := hS.upd i hi
  refine W_stA hd hw ho hx hy h1 q1.2 hs hif fun w' ht hb => h w' _ rfl (q3 w' _ f ((ExtX.tch ht).mono fun b e => by subst e; exact q1.1) ⟨q1.1, hb⟩ fun b hb => .inl hb)
theorem W_stE {T B O C j off : Nat} (i : Nat) (hS : St w0 X cs w) (hi : cs[i]? = some c) (hc : c = ow s n v1 xs) (hv : v1 = .slice (some ⟨B, O, none⟩) n C) (hd : o.dst = none) (hw : Region.wanted o (yielded ops A.tmps) = true) (ho : o.op = .store T x y)
    (hx : EV A x = .pointer (some ⟨B, off, none⟩)) (hy : EV A y = v) (h1 : v.oneCell' = true) (hoff : O + j = off) (hj : j < xs.length) (hif : (P.info? T).map (·.size) = some 1)
    (h : ∀ w' c', c' = ow s n v1 (xs.set j v) → St w0 X (cs.set i c') w' → WX P ops Q l A w') : WX P ops Q (o :: l) A w := by
  subst hc hv
  obtain ⟨f, q1, q2, q3⟩ := hS.upd i hi
  obtain ⟨g0, ⟨a, e, rfl, ha⟩ | ⟨g, O', cap, cur, T', e, g1, g2, g3, g4, g5, g6⟩⟩ := q1
  · exfalso; simp at g0; subst g0; simp at hj
  · cases e
    have hlt : off < cur.size := by
      have := g6 j _ (List.getElem?_eq_getElem hj)
      have := (Array.getElem?_eq_some_iff.1 this).1
      omega
    refine W_stC hd hw ho hx hy h1 g2 (by simpa using hlt) hif rfl fun w' ht hb => h w' _ rfl (q3 w' _ f ((ExtX.tch ht).mono fun b e => by subst e; exact g1) ⟨by simpa using g0, .inr ⟨B, O, C, _, T', rfl, g1, hb, g3, g4, by simpa using g5, fun m x hm => ?_⟩⟩ fun b hb => .inl hb)
    by_cases hmj : m = j
    · subst hmj
      rw [List.getElem?_set_self hj] at hm
      rw [hoff, Array.getElem?_setIfInBounds_self_of_lt hlt]
      exact hm
    · rw [List.getElem?_set_ne (fun e => hmj e.symm)] at hm
      rw [Array.getElem?_setIfInBounds_ne (by omega)]
      exact g6 m x hm
theorem ow_made {T : TypeId} {cur : Array Value} {cap : Nat} {f : Nat → Prop} (hg : w.heap[n]? = some (.cells cur T (0, 0))) (hf : f n) {m : Nat} (hm : m ≤ cap) (hc : cap ≤ maxLen) (hs : cap * s ≤ cur.size) (hl : xs.length = m * s) (hx : ∀ (j : Nat) (u : Value), xs[j]? = some u → cur[j]? = some u) :
    (ow s m (.slice (some ⟨n, 0, none⟩) m cap) xs).p w f := ⟨hl, .inr ⟨n, 0, cap, cur, T, rfl, hf, hg, hm, hc, by omega, fun j u hj => by rw [Nat.zero_add]; exact hx j u hj⟩⟩
theorem run_appS {f : Nat → Prop} (t t2 ty e e2 : TypeId) (inf : TypeInfo) (z : Value) (bytes : Nat) (ht : P.underlying t = some (.slice e)) (ht2 : P.underlying t2 = some (.slice e2)) (hi : P.info? e = some inf) (hz : inf.zero = some z)
    (hsize : inf.size = s) (hby : inf.bytes = bytes) (hzs : z.cells.size = s) (hsz : 0 < s) {v1 : Value} {m : Nat} {ys : List Value}
    (hown : (ow s n v xs).p w f) (hy : SlN w s v1 m ys) (h1 : ∀ u ∈ ys, u.oneCell' = true) (hbytes : (n + m) * bytes ≤ 140737488355328) (h63 : n + m ≤ maxLen) :
    ∃ v' w' f', (Builtin.append_ #[t, t2] ty #[v, v1]).run P w = .ok v' w' ∧ ExtX f w w' ∧ (ow s (n + m) v' (xs ++ ys)).p w' f' ∧ ∀ b, f' b → f b ∨ (w.heap.size ≤ b ∧ b < w'.heap.size) := by
  subst hsize hby
  obtain ⟨va, vc, rfl⟩ : ∃ a c, v = .slice a n c := by
    obtain ⟨_, ⟨a, rfl, rfl, _⟩ | ⟨g, off, cap, cur, T, rfl, _⟩⟩ := hown <;> exact ⟨_, _, rfl⟩
  have key : (Builtin.append_ #[t, t2] ty #[.slice va n vc, v1]).run P w = (Builtin.append_ #[t, t] ty #[.slice va n vc, v1]).run P w := by
    simp [Builtin.append_, run_underlying ht, run_underlying ht2]
  rw [key]
  have hy' := hy
  obtain ⟨a, cap, rfl, g1, g2, g3, g4, g5⟩ := hy
  have hl : (xs ++ ys).length = (n + m) * inf.size := by rw [List.length_append, hown.1, g3, Nat.add_mul]
  cases a with
  | none =>
    obtain rfl := g4 rfl
    have hn : ys = [] := List.eq_nil_of_length_eq_zero (by simpa using g3)
    subst hn
    refine ⟨_, w, f, ?_, ExtX.rfl' _ w, by simpa using hown, fun b hb => .inl hb⟩
    obtain ⟨q1, q2⟩ := hown
    rcases q2 with ⟨a, q2, q3, q4⟩ | ⟨g, off, cap, cur, T, q2, _, hg, hn, hc, hs, hx⟩
    · cases q2
      cases va <;> simp [Builtin.append_, run_underlying ht, sizeOf, typeInfo, hi, Builtin.lenOf, Builtin.firstCells, storeCells]
    · cases q2; simp [Builtin.append_, run_underlying ht, sizeOf, typeInfo, hi, Builtin.lenOf, Builtin.firstCells, hn, storeCells]
  | some b =>
    have hnews := hy'.adds
    have grown : ∀ old : Nat, old < n + m → (ow inf.size (n + m) (.slice (some ⟨w.heap.size, 0, none⟩) (n + m) (grownCap w (n + m) old e)) (xs ++ ys)).p
          (w.drew.alloc (.cells (xs.toArray ++ ys.toArray ++ Builtin.zeroCells z.cells (grownCap w (n + m) old e - (n + m))) e)) (· = w.heap.size) ∧
        ExtX f w (w.drew.alloc (.cells (xs.toArray ++ ys.toArray ++ Builtin.zeroCells z.cells (grownCap w (n + m) old e - (n + m))) e)) ∧
        ∀ q, (q = w.heap.size) → f q ∨ (w.heap.size ≤ q ∧ q < (w.drew.alloc (.cells (xs.toArray ++ ys.toArray ++ Builtin.zeroCells z.cells (grownCap w (n + m) old e - (n + m))) e)).heap.size) := by
      intro old ho
      have hge := grownCap_ge w (n + m) old e
      have hcm := grownCap_le_maxLen w (n + m) old e h63
      refine ⟨ow_made (f := fun q => q = w.heap.size) (n := w.heap.size) (heap_alloc_new w.drew _) rfl hge hcm ?_ hl ?_, ⟨rfl, rfl, rfl, by simp, fun k hk _ => (Ext.alloc w.drew _).block k hk⟩, fun q e => .inr (by subst e; simp)⟩
      · simp only [Array.size_append, List.size_toArray, size_zeroCells, hzs, hown.1, g3, ← Nat.add_mul]
        rw [show n + m + (grownCap w (n + m) old e - (n + m)) = grownCap w (n + m) old e by omega]
        exact Nat.le_refl _
      · intro j u hj
        have hlt := (List.getElem?_eq_some_iff.1 hj).1
        have e1 : xs.toArray ++ ys.toArray = (xs ++ ys).toArray := by simp
        rw [e1, Array.getElem?_append_left (by simpa using hlt)]
        simpa using hj
    obtain ⟨h0, ⟨a, e0, rfl, ha⟩ | ⟨g, off, cp, cur, T, e0, hf, hg, hnc, hcm, hcs, htake⟩⟩ := hown
    · cases e0
      have hx : xs = [] := List.eq_nil_of_length_eq_zero (by simpa using h0)
      subst hx
      by_cases hm : m = 0
      · subst hm
        have hn : ys = [] := List.eq_nil_of_length_eq_zero (by simpa using g3)
        subst hn
        refine ⟨.slice va 0 0, w, f, ?_, ExtX.rfl' _ w, ⟨by simp, .inl ⟨va, rfl, rfl, ha⟩⟩, fun b hb => .inl hb⟩
        cases va <;> simp [Builtin.append_, run_underlying ht, sizeOf, typeInfo, hi, Builtin.lenOf, Builtin.firstCells, loadCells, loadCellsFrom, storeCells]
      · have hgr := grown 0 (by omega)
        cases va with
        | none =>
          have hr := run_append_nil (P := P) w t ty e inf z ht hi hz b m cap ys g3 hnews (by omega) (by omega) (by have hb := hbytes; simp only [Nat.zero_add] at hb; omega)
          simp only [Nat.zero_add, List.nil_append, Array.empty_append] at hgr hr ⊢
          exact ⟨_, _, _, hr, hgr.2.1, hgr.1, hgr.2.2⟩
        | some a' =>
          have hr := run_append_grow (P := P) w t ty e inf z ht hi hz a' 0 0 [] (by simp) (by simp) b m cap ys g3 hnews (by omega) (by omega) (growslice_fits (by omega) hbytes)
          exact ⟨_, _, _, hr, hgr.2.1, hgr.1, hgr.2.2⟩
    · cases e0
      by_cases hroom : n + m ≤ vc
      · have hfit : off + n * inf.size + ys.length ≤ cur.size := by
          have : (n + m) * inf.size ≤ vc * inf.size := Nat.mul_le_mul_right _ hroom
          rw [Nat.add_mul] at this
          omega
        have hfc := run_firstCells_some (P := P) w inf.size m b m cap ys g3 hnews
        have hst := run_storeCells_at P g (off + n * inf.size) T ys 0 cur w hg (by omega) h1
        simp only [Nat.add_zero] at hst
        have hadd : (⟨g, off, none⟩ : Addr).add (n * inf.size) = ⟨g, off + n * inf.size, none⟩ := by unfold Addr.add; split <;> simp_all
        obtain ⟨nc, hnc'⟩ : ∃ nc, nc = (cur.toList.take (off + n * inf.size) ++ ys ++ cur.toList.drop (off + n * inf.size + ys.length)).toArray := ⟨_, rfl⟩
        rw [← hnc'] at hst
        refine ⟨.slice (some ⟨g, off, none⟩) (n + m) vc, w.setRow g nc, f, ?_, ⟨rfl, rfl, rfl, by simp, fun k _ hk => setRow_other w g k nc (fun e => hk (by rw [e]; exact hf))⟩, ⟨hl, .inr ⟨g, off, vc, nc, T, rfl, hf, setRow_heap w g cur nc T _ hg, hroom, hcm, ?_, fun j u hj => ?_⟩⟩, fun b hb => .inl hb⟩
        · simp [Builtin.append_, run_underlying ht, sizeOf, typeInfo, hi, Builtin.lenOf, hroom, hfc, hadd, hst]
        · rw [hnc']; simp only [List.size_toArray, List.length_append, List.length_take, List.length_drop, Array.length_toList]
          omega
        · rw [hnc', List.getElem?_toArray]
          have hlt := (List.getElem?_eq_some_iff.1 hj).1
          rw [List.length_append, h0] at hlt
          by_cases hjn : j < n * inf.size
          · rw [List.getElem?_append_left (by rw [h0]; exact hjn)] at hj
            rw [List.append_assoc, List.getElem?_append_left (by simp; omega), List.getElem?_take_of_lt (by omega)]
            simpa using htake j u hj
          · rw [List.getElem?_append_right (by rw [h0]; omega), h0] at hj
            have e1 : (cur.toList.take (off + n * inf.size)).length = off + n * inf.size := by simp; omega
            rw [List.append_assoc, List.getElem?_append_right (by rw [e1]; omega), e1, List.getElem?_append_left (by omega)]
            rw [show off + j - (off + n * inf.size) = j - n * inf.size by omega]
            exact hj
      · have holds : ∀ j u, xs[j]? = some u → w.cell? ((⟨g, off, none⟩ : Addr).add j) = some u := fun j u hj => by
          have hadd : (⟨g, off, none⟩ : Addr).add j = ⟨g, off + j, none⟩ := by unfold Addr.add; split <;> simp_all
          rw [hadd, cell_of_row _ _ _ _ _ _ hg]; exact htake j u hj
        have hr := run_append_grow (P := P) w t ty e inf z ht hi hz ⟨g, off, none⟩ n vc xs h0 holds b m cap ys g3 hnews (by omega) (by unfold maxLen at h63; omega) (growslice_fits (by omega) hbytes)
        have hgr := grown vc (by omega)
        exact ⟨_, _, _, hr, hgr.2.1, hgr.1, hgr.2.2⟩
theorem W_appS {t t2 el e2 : TypeId} {z : Value} {m bytes : Nat} {ys : List Value} {sx : Operand} (s : Nat) (i : Nat) (hS : St w0 X cs w) (hin : cs[i]? = some c) (hc : c = ow s n v xs) (hd : o.dst = some d) (hw : Region.wanted o (yielded ops A.tmps) = true)
    (ho : o.op = .call { callee := .builtin .append, args := #[sx, x], argTypes := #[t, t2] }) (hs : EV A sx = v) (hy : EV A x = v1)
    (ht : P.underlying t = some (.slice el)) (ht2 : P.underlying t2 = some (.slice e2)) (hi : (P.info? el).map (fun i => (i.zero, i.size, i.bytes)) = some (some z, s, bytes)) (hzs : z.cells.size = s) (hsz : 0 < s)
    (hyy : SlN w s v1 m ys) (h1 : ∀ u ∈ ys, u.oneCell' = true) (hbytes : (n + m) * bytes ≤ 140737488355328) (h63 : n + m ≤ 4611686018427387904)
    (h : ∀ v' w' c', c' = ow s (n + m) v' (xs ++ ys) → St w0 X (cs.set i c') w' → WX P ops Q l (PT A d v') w') : WX P ops Q (o :: l) A w := by
  subst hc
  obtain ⟨f, q1, q2, q3⟩ := hS.upd i hin
  cases hq : P.info? el with
  | none => simp [hq] at hi
  | some inf =>
    simp only [hq, Option.map_some, Option.some.injEq, Prod.mk.injEq] at hi
    obtain ⟨v', w', f', hr, k1, k2, k3⟩ := run_appS (P := P) t t2 o.type el e2 inf z bytes ht ht2 hq hi.1 hi.2.1 hi.2.2 hzs hsz q1 hyy h1 hbytes (by unfold maxLen; omega)
    refine W_val hd hw ?_ (h v' w' _ rfl (q3 w' _ f' k1 k2 k3))
    unfold execOp
    simp only [ho, resolve, invoke, builtin, Sem.run_bind, Sem.run_pure, Result.andThen_ok, List.map_toArray, List.map_cons, List.map_nil, hs, hy, hr]
theorem set_run {off : Nat} : ∀ (ys pre mid post : List Value) (q : Nat), mid.length = ys.length → pre.length = off + q →
    (ys.zipIdx q).foldl (fun (cs : Array Value) (p : Value × Nat) => cs.setIfInBounds (off + p.2) p.1) (pre ++ mid ++ post).toArray = (pre ++ ys ++ post).toArray
  | [], pre, mid, post, q, hm, _ => by simp at hm; subst hm; rfl
  | y :: ys, pre, [], post, q, hm, _ => by simp at hm
  | y :: ys, pre, m :: mid, post, q, hm, hp => by
    simp only [List.zipIdx_cons, List.foldl_cons]
    have e1 : (pre ++ m :: mid ++ post).toArray.setIfInBounds (off + q) y = ((pre ++ [y]) ++ mid ++ post).toArray := by
      rw [List.setIfInBounds_toArray, List.append_assoc, List.set_append_right _ _ (by omega)]
      rw [show off + q - pre.length = 0 by omega]
      simp
    rw [e1, set_run ys (pre ++ [y]) mid post (q + 1) (by simpa using hm) (by simp; omega)]
    simp
theorem fill_all (s : Nat) : ∀ (vs : List Value) (k : Nat) (pre rest : List Value), (∀ v ∈ vs, v.cells.size = s) → pre.length = k * s → rest.length = vs.length * s →
    Instr.fill (fun i => some (i * s, s)) (pre ++ rest).toArray ((vs.zipIdx k).map fun p => (p.2, p.1)) = some (pre ++ vs.flatMap fun v => v.cells.toList).toArray
  | [], k, pre, rest, _, _, hr => by
    have : rest = [] := List.eq_nil_of_length_eq_zero (by simpa using hr)
    subst this; simp [Instr.fill]
  | v :: vs, k, pre, rest, h1, hp, hr => by
    have hv := h1 v (by simp)
    simp only [List.length_cons, Nat.add_mul, Nat.one_mul] at hr
    have hb : ¬ (k * s + s > (pre ++ rest).toArray.size) := by simp; omega
    have hb2 : (v.cells.size ≠ s || k * s + v.cells.size > (pre ++ rest).toArray.size) = false := by rw [hv]; simp; omega
    simp only [List.zipIdx_cons, List.map_cons, Instr.fill, hb2]
    have e1 : pre ++ rest = pre ++ rest.take s ++ rest.drop s := by simp
    have e2 : v.cells.zipIdx.foldl (fun (cs : Array Value) (p : Value × Nat) => cs.setIfInBounds (k * s + p.2) p.1) (pre ++ rest).toArray = (pre ++ v.cells.toList ++ rest.drop s).toArray := by
      rw [← Array.foldl_toList, Array.toList_zipIdx, e1]
      exact set_run v.cells.toList pre (rest.take s) (rest.drop s) 0 (by simp [hv]; omega) (by simpa using hp)
    have e3 : (v.cells.zipIdx.foldl (fun (x : Array Value) (x_1 : Value × Nat) => match x_1 with | (c, j) => x.setIfInBounds (k * s + j) c) (pre ++ rest).toArray) = (pre ++ v.cells.toList ++ rest.drop s).toArray := e2
    simp only [Bool.false_eq_true, if_false]
    rw [e3, fill_all s vs (k + 1) (pre ++ v.cells.toList) (rest.drop s) (fun u hu => h1 u (by simp [hu])) (by simp [hv, hp, Nat.add_mul]) (by simp; omega)]
    simp
theorem run_lit {t el : TypeId} {inf : TypeInfo} {z : Value} {parts : Array (Nat × Operand)} {vs : List Value} {m : Nat} (ho : o.op = .buildSlice t m parts) (hp : (parts.map fun (i, x) => (i, EV A x)).toList = vs.zipIdx.map fun p => (p.2, p.1)) (hm : vs.length = m)
    (ht : P.underlying t = some (.slice el)) (hi : P.info? el = some inf) (hz : inf.zero = some z) (hs : inf.size = s) (hsm : m * s ≤ 16777216) (h1 : ∀ v ∈ vs, v.cells.size = s) :
    (execOp (EV A) o).run P w = .ok (.value (.slice (some ⟨w.heap.size, 0, none⟩) m m)) (w.alloc (.cells (vs.flatMap fun v => v.cells.toList).toArray el)) := by
  have hf : ∀ cs : Array Value, cs.size = m * s → Instr.fill (fun i => some (i * s, s)) cs (vs.zipIdx.map fun p => (p.2, p.1)) = some (vs.flatMap fun v => v.cells.toList).toArray := fun cs hcs => by
    have := fill_all s vs 0 [] cs.toList h1 (by simp) (by simp [hm, hcs])
    rw [List.nil_append, Array.toArray_toList, List.nil_append] at this
    exact this
  have hsm' : ¬ (16777216 < m * s) := by omega
  have hp' : List.map (fun x => (x.fst, EV A x.snd)) parts.toList = vs.zipIdx.map fun p => (p.2, p.1) := by rw [← hp]; simp
  unfold execOp
  by_cases h0 : m * s = 0
  · have h2 := hf (Array.map (fun x => default) (Array.range 0)) (by simp [h0])
    rw [← hp'] at h2
    simp [ho, Instr.buildSlice, run_underlying ht, sizeOf, typeInfo, hi, hs, h0, newRow, h2]
  · have h2 := hf (Array.map (fun x => z.cells[x % z.cells.size]!) (Array.range (m * s))) (by simp)
    rw [← hp'] at h2
    simp [ho, Instr.buildSlice, run_underlying ht, sizeOf, typeInfo, hi, hs, hsm', h0, newRow, zeroValue, hz, h2]
end
section
variable {P : Program} {ops : Array Oper} {l : List Oper} {o : Oper} {A : Act} {Q : Exit → Act → World → Prop} {w w0 : World} {X : Nat → Prop} {cs : List HP} {c : HP} {d : Tmp} {v : Value} {x y : Operand} {T g off T' : Nat} {zs zs' old : Array Value}
theorem xsC (i : Nat) (hS : St w0 X cs w) (hi : cs[i]? = some c) (hc : c = bx g T' zs) (hd : o.dst = none) (hw : Region.wanted o (yielded ops A.tmps) = true) (ho : o.op = .store T x y) (hx : EV A x = .pointer (some ⟨g, off, none⟩)) (hy : EV A y = v) (h1 : v.oneCell' = true) (h : ∀ w' c', c' = bx g T' zs' → St w0 X (cs.set i c') w' → WX P ops Q l A w') (hlt : (decide (off < zs.size)) = true := by rfl) (hif : (P.info? T).map (·.size) = some 1 := by kernel_rfl) (hz : zs.setIfInBounds off v = zs' := by first | rfl | (simp only [List.setIfInBounds_toArray, List.set_cons_succ, List.set_cons_zero] <;> rfl)) : WX P ops Q (o :: l) A w := W_stCS i hS hi hc hd hw ho hx hy h1 hlt hif hz h
theorem xsA (i : Nat) (hS : St w0 X cs w) (hi : cs[i]? = some c) (hc : c = bx g T' old) (hd : o.dst = none) (hw : Region.wanted o (yielded ops A.tmps) = true) (ho : o.op = .store T x y) (hx : EV A x = .pointer (some ⟨g, 0, none⟩)) (hy : EV A y = .agg zs) (h : ∀ w' c', c' = bx g T' zs → St w0 X (cs.set i c') w' → WX P ops Q l A w') (h1 : zs.all (·.oneCell') = true := by first | (rw [List.all_toArray] <;> rfl) | (simp only [List.all_toArray, List.all_cons, List.all_nil] <;> rfl)) (hs : old.size = zs.size := by rfl) (hif : (P.info? T).map (·.size) = some zs.size := by kernel_rfl) : WX P ops Q (o :: l) A w := W_stAS i hS hi hc hd hw ho hx hy h1 hs hif h
theorem xsB (i : Nat) (hS : St w0 X cs w) (hi : cs[i]? = some c) (hc : c = bx g T' old) (hd : o.dst = none) (hw : Region.wanted o (yielded ops A.tmps) = true) (ho : o.op = .store T x y) (hx : EV A x = .pointer (some ⟨g, 0, none⟩)) (hy : EV A y = .agg zs) (h1 : zs.all (·.oneCell') = true) (h : ∀ w' c', c' = bx g T' zs → St w0 X (cs.set i c') w' → WX P ops Q l A w') (hs : old.size = zs.size := by rfl) (hif : (P.info? T).map (·.size) = some zs.size := by kernel_rfl) : WX P ops Q (o :: l) A w := W_stAS i hS hi hc hd hw ho hx hy h1 hs hif h
end
end Go.Own
