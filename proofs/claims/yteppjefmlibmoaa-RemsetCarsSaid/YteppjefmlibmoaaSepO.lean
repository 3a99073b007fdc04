import Derived.Test.YteppjefmlibmoaaSepQ
import Derived.Test.YteppjefmlibmoaaSepH
/-! own slices of rows: a row is stored, a part is cleared -/
namespace Go.Own
open Go Go.RowKit
theorem ow_rowS {w : World} {g off cap n k s : Nat} {cur : Array Value} {T : TypeId} {xs ys : List Value} {f : Nat → Prop} (hg : w.heap[g]? = some (.cells cur T (0, 0))) (hf : f g) (hl : xs.length = n * s) (hn : n ≤ cap) (hm : cap ≤ maxLen) (hs : off + cap * s ≤ cur.size)
    (hx : ∀ (j : Nat) (x : Value), xs[j]? = some x → cur[off + j]? = some x) (hk : k + ys.length ≤ n * s) :
    (ow s n (.slice (some ⟨g, off, none⟩) n cap) (xs.take k ++ ys ++ xs.drop (k + ys.length))).p (w.setRow g (cur.toList.take (off + k) ++ ys ++ cur.toList.drop (off + k + ys.length)).toArray) f := by
  have hcs : n * s ≤ cap * s := Nat.mul_le_mul_right s hn
  have hlen : (cur.toList.take (off + k) ++ ys ++ cur.toList.drop (off + k + ys.length)).length = cur.size := by
    simp only [List.length_append, List.length_take, List.length_drop, Array.length_toList]; omega
  refine ⟨by simp only [List.length_append, List.length_take, List.length_drop]; omega, .inr ⟨g, off, cap, _, T, rfl, hf, setRow_heap w g cur _ T _ hg, hn, hm, by rw [List.size_toArray, hlen]; exact hs, fun j x hj => ?_⟩⟩
  rw [List.getElem?_toArray]
  have hkk : (xs.take k).length = k := by rw [List.length_take]; omega
  have hoo : (cur.toList.take (off + k)).length = off + k := by rw [List.length_take, Array.length_toList]; omega
  rw [List.append_assoc] at hj ⊢
  by_cases h : j < k
  · rw [List.getElem?_append_left (by omega), List.getElem?_take, if_pos h] at hj
    rw [List.getElem?_append_left (by omega), List.getElem?_take, if_pos (by omega), Array.getElem?_toList]
    exact hx j x hj
  · rw [List.getElem?_append_right (by omega), hkk] at hj
    rw [List.getElem?_append_right (by omega), hoo, show off + j - (off + k) = j - k by omega]
    by_cases h2 : j - k < ys.length
    · rw [List.getElem?_append_left h2] at hj ⊢; exact hj
    · rw [List.getElem?_append_right (by omega), List.getElem?_drop] at hj ⊢
      rw [Array.getElem?_toList, show off + k + ys.length + (j - k - ys.length) = off + j by omega]
      rw [show k + ys.length + (j - k - ys.length) = j by omega] at hj
      exact hx j x hj
theorem flat_set9 {α : Type} {s : Nat} {fn : α → List Value} (hs : ∀ a, (fn a).length = s) : ∀ (xs : List α) (k : Nat) (y : α), k < xs.length → (xs.flatMap fn).take (k * s) ++ fn y ++ (xs.flatMap fn).drop (k * s + s) = (xs.set k y).flatMap fn
  | [], k, y, h => by simp at h
  | x :: xs, 0, y, h => by
    simp only [List.flatMap_cons, List.set_cons_zero, Nat.zero_mul, List.take_zero, List.nil_append, Nat.zero_add]
    rw [List.drop_append_of_le_length (by rw [hs]; exact Nat.le_refl _), List.drop_of_length_le (by rw [hs]; exact Nat.le_refl _), List.nil_append]
  | x :: xs, k + 1, y, h => by
    have ih := flat_set9 hs xs k y (by simpa using h)
    simp only [List.flatMap_cons, List.set_cons_succ]
    rw [← ih, Nat.add_mul, Nat.one_mul]
    rw [List.take_append, List.drop_append, hs, List.take_of_length_le (by rw [hs]; omega), List.drop_of_length_le (by rw [hs]; omega), show k * s + s - s = k * s by omega, show k * s + s + s - s = k * s + s by omega]
    simp
section
variable {P : Program} {ops : Array Oper} {l : List Oper} {o : Oper} {A : Act} {Q : Exit → Act → World → Prop} {w0 w : World} {X : Nat → Prop} {cs : List HP} {c : HP} {d : Tmp} {n s : Nat} {v v1 : Value} {xs ys : List Value} {x y : Operand} {T dT el : TypeId}
theorem W_stR {B O C j off : Nat} (i : Nat) (hS : St w0 X cs w) (hi : cs[i]? = some c) (hc : c = ow s n v1 xs) (hv : v1 = .slice (some ⟨B, O, none⟩) n C) (hd : o.dst = none) (hw : Region.wanted o (yielded ops A.tmps) = true) (ho : o.op = .store T x y)
    (hx : EV A x = .pointer (some ⟨B, off, none⟩)) (hy : EV A y = .agg ys.toArray) (h1 : ∀ u ∈ ys, u.oneCell' = true) (hys : ys.length = s) (hoff : O + j * s = off) (hj : j < n) (hif : (P.info? T).map (·.size) = some s)
    (h : ∀ w' c', c' = ow s n v1 (xs.take (j * s) ++ ys ++ xs.drop (j * s + s)) → St w0 X (cs.set i c') w' → WX P ops Q l A w') : WX P ops Q (o :: l) A w := by
  subst hc hv hoff
  obtain ⟨f, q1, q2, q3⟩ := hS.upd i hi
  have hjs : j * s + s ≤ n * s := by rw [← Nat.succ_mul]; exact Nat.mul_le_mul_right s hj
  obtain ⟨g0, ⟨a, e, hn0, ha⟩ | ⟨g, O', cap, cur, T', e, g1, g2, g3, g4, g5, g6⟩⟩ := q1
  · omega
  · cases e
    have hcs : n * s ≤ C * s := Nat.mul_le_mul_right s g3
    have hst := run_storeCells_at P B (O + j * s) T' ys 0 cur w g2 (by simp; omega) h1
    simp only [Nat.add_zero] at hst
    have hrow := ow_rowS (k := j * s) (ys := ys) g2 g1 g0 g3 g4 g5 g6 (by omega)
    rw [hys] at hrow hst
    refine W_nov hd hw ?_ (h _ _ rfl (q3 _ _ f ((ExtX.tch (tch_row g2)).mono fun b e => by subst e; exact g1) hrow fun b hb => .inl hb))
    cases hq : P.info? T with
    | none => simp [hq] at hif
    | some inf =>
      have hsz : inf.size = s := by simpa [hq] using hif
      unfold execOp
      simp [ho, hx, hy, Instr.storeAt, Instr.sureAddr, storeVar, sizeOf, typeInfo, hq, hsz, hys, Value.cells, hst]
end
end Go.Own

/-! own slices of ints, many side by side: what a slice of slices holds -/
namespace Go.Own
open Go Go.RowKit
def owl (k : IntKind) (L : List (Value × List Int)) : HP where
  p w f := ∃ fs : Nat → Nat → Prop, (∀ (i : Nat) (y : Value × List Int), L[i]? = some y → (io k y.1 y.2).p w (fs i)) ∧ (∀ i b, fs i b → i < L.length ∧ f b) ∧ ∀ i j b, fs i b → fs j b → i = j
  loc := fun ⟨fs, h1, h2, h3⟩ hlt hb => ⟨fs, fun i y hy => (io k y.1 y.2).loc (h1 i y hy) (fun b hf => hlt b (h2 i b hf).2) fun b hf => hb b (h2 i b hf).2, h2, h3⟩
def nilp : Value × List Int := (.slice none 0 0, [])
theorem io_nil {k : IntKind} {w : World} : (io k nilp.1 nilp.2).p w fun _ => False := ⟨rfl, .inl ⟨none, rfl, rfl, fun b e => by cases e⟩⟩
def fstC (y : Value × List Int) : List Value := [y.1]
theorem fstC_len : ∀ a : Value × List Int, (fstC a).length = 1 := fun _ => rfl
section
variable {w0 w : World} {X : Nat → Prop} {l : List HP} {k : IntKind} {L : List (Value × List Int)} {v : Value} {xs : List Int}
/-- a chunk in front, of no block. -/
theorem St.emp {c : HP} (h : St w0 X l w) (hc : c.p w fun _ => False) : St w0 X (c :: l) w := h.push (Ext.rfl' w) hc fun _ hb => hb.elim
theorem owl_nils (n : Nat) (h : St w0 X l w) : St w0 X (owl k (List.replicate n nilp) :: l) w :=
  h.emp ⟨fun _ _ => False, fun i y hy => by
    have : y = nilp := List.eq_of_mem_replicate (List.mem_of_getElem? hy)
    subst this; exact io_nil, fun _ _ h => h.elim, fun _ _ _ h => h.elim⟩
/-- two chunks in front into one. -/
theorem St.two {a b c : HP} (h : St w0 X (a :: b :: l) w) (hc : ∀ f g : Nat → Prop, a.p w f → b.p w g → (∀ q, f q → ¬ g q) → ∃ f', c.p w f' ∧ ∀ q, f' q → f q ∨ g q) : St w0 X (c :: l) w := by
  obtain ⟨he, fs, h1, h2, h3⟩ := h
  obtain ⟨f', k1, k2⟩ := hc (fs 0) (fs 1) (h1 0 a rfl) (h1 1 b rfl) fun q p1 p2 => by have := h3 0 1 q p1 p2; omega
  refine ⟨he, fun i b => if i = 0 then f' b else fs (i + 1) b, fun i d hd => ?_, fun i b hb => ?_, fun i j b hi hj => ?_⟩
  · cases i with
    | zero => simp at hd; subst hd; exact HP.eq_p (by funext b; simp) k1
    | succ i => exact HP.eq_p (by funext b; simp) (h1 (i + 2) d (by simpa using hd))
  · by_cases e : i = 0
    · subst e
      simp only [if_true] at hb
      rcases k2 b hb with q | q
      · exact ⟨by simp, (h2 0 b q).2⟩
      · exact ⟨by simp, (h2 1 b q).2⟩
    · simp only [e, if_false] at hb
      have := h2 _ b hb
      exact ⟨by simp at this ⊢; omega, this.2⟩
  · have key : ∀ i b, i ≠ 0 → f' b → fs (i + 1) b → False := fun i b hi hf hs => by
      rcases k2 b hf with q | q
      · have := h3 _ _ b q hs; omega
      · have := h3 _ _ b q hs; omega
    by_cases ei : i = 0 <;> by_cases ej : j = 0
    · omega
    · simp only [ei, if_true, ej, if_false] at hi hj; exact (key j b ej hi hj).elim
    · simp only [ei, if_false, ej, if_true] at hi hj; exact (key i b ei hj hi).elim
    · simp only [ei, ej, if_false] at hi hj; have := h3 _ _ b hi hj; omega
/-- .. one in front into two. -/
theorem St.split {a b c : HP} (h : St w0 X (c :: l) w) (hc : ∀ f : Nat → Prop, c.p w f → ∃ f1 f2 : Nat → Prop, a.p w f1 ∧ b.p w f2 ∧ (∀ q, f1 q → f q) ∧ (∀ q, f2 q → f q) ∧ ∀ q, f1 q → ¬ f2 q) : St w0 X (a :: b :: l) w := by
  obtain ⟨he, fs, h1, h2, h3⟩ := h
  obtain ⟨f1, f2, k1, k2, k3, k4, k5⟩ := hc (fs 0) (h1 0 c rfl)
  refine ⟨he, fun i b => if i = 0 then f1 b else if i = 1 then f2 b else fs (i - 1) b, fun i d hd => ?_, fun i b hb => ?_, fun i j b hi hj => ?_⟩
  · match i, hd with
    | 0, hd => simp at hd; subst hd; exact HP.eq_p (by funext b; simp) k1
    | 1, hd => simp at hd; subst hd; exact HP.eq_p (by funext b; simp) k2
    | i + 2, hd => exact HP.eq_p (by funext b; simp) (h1 (i + 1) d (by simpa using hd))
  · by_cases e0 : i = 0
    · subst e0; simp only [if_true] at hb; exact ⟨by simp, (h2 0 b (k3 b hb)).2⟩
    · by_cases e1 : i = 1
      · subst e1; simp at hb; exact ⟨by simp, (h2 0 b (k4 b hb)).2⟩
      · simp only [e0, e1, if_false] at hb
        have := h2 _ b hb
        exact ⟨by simp at this ⊢; omega, this.2⟩
  · have n1 : ∀ i b, i ≠ 0 → i ≠ 1 → f1 b → fs (i - 1) b → False := fun i b e0 e1 p q => by have := h3 _ _ b (k3 b p) q; omega
    have n2 : ∀ i b, i ≠ 0 → i ≠ 1 → f2 b → fs (i - 1) b → False := fun i b e0 e1 p q => by have := h3 _ _ b (k4 b p) q; omega
    by_cases i0 : i = 0 <;> by_cases j0 : j = 0
    · omega
    · by_cases j1 : j = 1
      · simp [i0] at hi; simp [j0, j1] at hj; exact (k5 b hi hj).elim
      · simp [i0] at hi; simp only [j0, j1, if_false] at hj; exact (n1 j b j0 j1 hi hj).elim
    · by_cases i1 : i = 1
      · simp [j0] at hj; simp [i0, i1] at hi; exact (k5 b hj hi).elim
      · simp [j0] at hj; simp only [i0, i1, if_false] at hi; exact (n1 i b i0 i1 hj hi).elim
    · by_cases i1 : i = 1 <;> by_cases j1 : j = 1
      · omega
      · simp [i0, i1] at hi; simp only [j0, j1, if_false] at hj; exact (n2 j b j0 j1 hi hj).elim
      · simp [j0, j1] at hj; simp only [i0, i1, if_false] at hi; exact (n2 i b i0 i1 hj hi).elim
      · simp only [i0, i1, j0, j1, if_false] at hi hj; have := h3 _ _ b hi hj; omega
/-- another one in place i. -/
theorem owl_set {i : Nat} (hi : i < L.length) (h : St w0 X (io k v xs :: owl k L :: l) w) : St w0 X (owl k (L.set i (v, xs)) :: l) w :=
  h.two fun f g h1 ⟨fs, q1, q2, q3⟩ hd => ⟨fun b => f b ∨ g b, ⟨fun j b => if j = i then f b else fs j b, fun j y hy => by
      by_cases e : j = i
      · subst e
        rw [List.getElem?_set_self hi] at hy
        have := Option.some.inj hy
        subst this
        exact HP.eq_p (by funext b; simp) h1
      · rw [List.getElem?_set_ne (fun q => e q.symm)] at hy
        exact HP.eq_p (by funext b; simp [e]) (q1 j y hy), fun j b hb => by
      rw [List.length_set]
      by_cases e : j = i
      · simp only [e, if_true] at hb; exact ⟨by omega, .inl hb⟩
      · simp only [e, if_false] at hb; have := q2 j b hb; exact ⟨this.1, .inr this.2⟩, fun p q b hp hq => by
      by_cases ep : p = i <;> by_cases eq : q = i
      · omega
      · simp only [ep, if_true] at hp; simp only [eq, if_false] at hq; exact absurd (q2 q b hq).2 (hd b hp)
      · simp only [eq, if_true] at hq; simp only [ep, if_false] at hp; exact absurd (q2 p b hp).2 (hd b hq)
      · simp only [ep, eq, if_false] at hp hq; exact q3 p q b hp hq⟩, fun _ h => h⟩
theorem owl_at {i : Nat} {y : Value × List Int} (hy : L[i]? = some y) (h : (owl k L).at w) : (il k y.1 y.2).at w := by
  obtain ⟨f, fs, q1, _, _⟩ := h
  exact ow_sl_at ⟨fs i, q1 i y hy⟩
theorem owl_ro {i : Nat} {y : Value × List Int} (hy : L[i]? = some y) (h : Ro w0 X (owl k L)) : Ro w0 X (il k y.1 y.2) := by
  obtain ⟨f, ⟨fs, q1, q2, _⟩, hf⟩ := h
  exact Ro.own ⟨fs i, q1 i y hy, fun b hb => hf b (q2 i b hb).2⟩
end
end Go.Own
