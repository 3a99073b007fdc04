import Derived.Test.YtpgkfndbfocibaaGreatGen
namespace Go.Own
open Go Go.RowKit
structure HP where
  p : World → (Nat → Prop) → Prop
  loc : ∀ {w w' : World} {f : Nat → Prop}, p w f → (∀ b, f b → b < w.heap.size) → (∀ b, f b → w'.heap[b]? = w.heap[b]?) → p w' f
theorem HP.eq_p {c : HP} {w : World} {f g : Nat → Prop} (e : f = g) (h : c.p w g) : c.p w f := e ▸ h
def HP.at (c : HP) (w : World) : Prop := ∃ f, c.p w f
abbrev NoX : Nat → Prop := fun _ => False
structure ExtX (X : Nat → Prop) (w w' : World) : Prop where
  os : w'.os = w.os
  tape : w'.tape = w.tape
  output : w'.output = w.output
  size : w.heap.size ≤ w'.heap.size
  block : ∀ b, b < w.heap.size → ¬ X b → w'.heap[b]? = w.heap[b]?
theorem ExtX.rfl' (X : Nat → Prop) (w : World) : ExtX X w w := ⟨rfl, rfl, rfl, Nat.le_refl _, fun _ _ _ => rfl⟩
theorem ExtX.tr {X Y : Nat → Prop} {a b c : World} (h : ExtX X a b) (k : ExtX Y b c) (hY : ∀ q, Y q → q < a.heap.size → X q) : ExtX X a c :=
  ⟨k.os.trans h.os, k.tape.trans h.tape, k.output.trans h.output, Nat.le_trans h.size k.size, fun q hq hx => (k.block q (Nat.lt_of_lt_of_le hq h.size) fun hy => hx (hY q hy hq)).trans (h.block q hq hx)⟩
theorem ExtX.of {w w' : World} (h : Ext w w') (X : Nat → Prop) : ExtX X w w' := ⟨h.os, h.tape, h.output, h.size, fun b hb _ => h.block b hb⟩
theorem ExtX.ext {w w' : World} (h : ExtX NoX w w') : Ext w w' := ⟨h.os, h.tape, h.output, h.size, fun b hb => h.block b hb fun x => x⟩
theorem ExtX.mono {X Y : Nat → Prop} {w w' : World} (h : ExtX X w w') (hx : ∀ b, X b → Y b) : ExtX Y w w' := ⟨h.os, h.tape, h.output, h.size, fun b hb hy => h.block b hb fun x => hy (hx b x)⟩
theorem ExtX.tch {g : Nat} {w w' : World} (t : Tch g w w') : ExtX (· = g) w w' := ⟨t.os, t.tape, t.output, by rw [t.size]; exact Nat.le_refl _, fun b _ hb => t.block b hb⟩
structure St (w0 : World) (X : Nat → Prop) (l : List HP) (w : World) : Prop where
  ext : ExtX X w0 w
  sat : ∃ fs : Nat → Nat → Prop, (∀ (i : Nat) (c : HP), l[i]? = some c → c.p w (fs i)) ∧ (∀ i b, fs i b → i < l.length ∧ (w0.heap.size ≤ b ∨ X b) ∧ b < w.heap.size) ∧ ∀ i j b, fs i b → fs j b → i = j
section
variable {w0 w w' : World} {X : Nat → Prop} {l l' : List HP} {c c' : HP} {i j : Nat}
theorem St.nil (w : World) : St w NoX [] w := ⟨ExtX.rfl' _ w, fun _ _ => False, fun i c h => by simp at h, fun _ _ h => h.elim, fun _ _ _ h => h.elim⟩
theorem St.one {f : Nat → Prop} (h : c.p w f) (hf : ∀ b, f b → b < w.heap.size) : St w f [c] w :=
  ⟨ExtX.rfl' _ w, fun i b => i = 0 ∧ f b, fun i d hd => by
      cases i with
      | zero => simp at hd; subst hd; have e : (fun b => 0 = 0 ∧ f b) = f := by funext b; simp
                exact HP.eq_p e <| h
      | succ i => simp at hd, fun i b ⟨h1, h2⟩ => ⟨by simp; omega, .inr h2, hf b h2⟩, fun i j b h1 h2 => by omega⟩
theorem St.size (h : St w0 X l w) : w0.heap.size ≤ w.heap.size := h.ext.size
theorem St.e (h : St w0 NoX l w) : Ext w0 w := h.ext.ext
theorem St.upd (h : St w0 X l w) (i : Nat) (hi : l[i]? = some c) : ∃ f : Nat → Prop, c.p w f ∧ (∀ b, f b → b < w.heap.size) ∧
    ∀ (w' : World) (c' : HP) (f' : Nat → Prop), ExtX f w w' → c'.p w' f' → (∀ b, f' b → f b ∨ (w.heap.size ≤ b ∧ b < w'.heap.size)) → St w0 X (l.set i c') w' := by
  obtain ⟨he, fs, h1, h2, h3⟩ := h
  refine ⟨fs i, h1 i c hi, fun b hb => (h2 i b hb).2.2, fun w' c' f' hE hc' hf' => ?_⟩
  have hil : i < l.length := by
    rcases Nat.lt_or_ge i l.length with h | h
    · exact h
    · rw [List.getElem?_eq_none h] at hi; cases hi
  refine ⟨he.tr hE fun q hq hlt => ?_, fun j b => if j = i then f' b else fs j b, fun j d hd => ?_, fun j b hb => ?_, fun j k b hj hk => ?_⟩
  · rcases (h2 i q hq).2.1 with h | h
    · omega
    · exact h
  · by_cases hj : j = i
    · subst hj
      rw [List.getElem?_set_self hil] at hd
      cases hd
      have e : (fun b => if j = j then f' b else fs j b) = f' := by funext b; simp
      exact HP.eq_p e <| hc'
    · rw [List.getElem?_set_ne (fun e => hj e.symm)] at hd
      have e : (fun b => if j = i then f' b else fs j b) = fs j := by funext b; simp [hj]
      refine HP.eq_p e ?_
      refine d.loc (h1 j d hd) (fun b hb => (h2 j b hb).2.2) fun b hb => hE.block b (h2 j b hb).2.2 fun hib => hj (h3 j i b hb hib)
  · by_cases hj : j = i
    · subst hj
      simp only [if_true] at hb
      rw [List.length_set]
      rcases hf' b hb with h | ⟨h, h'⟩
      · obtain ⟨a, b', c⟩ := h2 j b h
        exact ⟨a, b', Nat.lt_of_lt_of_le c hE.size⟩
      · exact ⟨hil, .inl (Nat.le_trans he.size h), h'⟩
    · simp only [hj, if_false] at hb
      rw [List.length_set]
      obtain ⟨a, b', c⟩ := h2 j b hb
      exact ⟨a, b', Nat.lt_of_lt_of_le c hE.size⟩
  · have key : ∀ j b, j ≠ i → fs j b → f' b → False := fun j b hj hb hfb => by
      rcases hf' b hfb with h | h
      · exact hj (h3 j i b hb h)
      · have := (h2 j b hb).2.2; omega
    by_cases hj' : j = i <;> by_cases hk' : k = i
    · omega
    · simp only [hj', if_true, hk', if_false] at hj hk; exact (key k b hk' hk hj).elim
    · simp only [hj', if_false, hk', if_true] at hj hk; exact (key j b hj' hj hk).elim
    · simp only [hj', hk', if_false] at hj hk; exact h3 j k b hj hk
theorem St.join {l2 : List HP} (h : St w0 X l w) (k : St w NoX l2 w') : St w0 X (l2 ++ l) w' := by
  obtain ⟨he, fs, h1, h2, h3⟩ := h
  obtain ⟨ke, gs, k1, k2, k3⟩ := k
  refine ⟨he.tr ke fun q hq => hq.elim, fun j b => if j < l2.length then gs j b else fs (j - l2.length) b, fun j d hd => ?_, fun j b hb => ?_, fun j m b hj hm => ?_⟩
  · by_cases hj : j < l2.length
    · rw [List.getElem?_append_left hj] at hd
      have e : (fun b => if j < l2.length then gs j b else fs (j - l2.length) b) = gs j := by funext b; simp [hj]
      exact HP.eq_p e <| k1 j d hd
    · rw [List.getElem?_append_right (by omega)] at hd
      have e : (fun b => if j < l2.length then gs j b else fs (j - l2.length) b) = fs (j - l2.length) := by funext b; simp [hj]
      refine HP.eq_p e ?_
      exact d.loc (h1 _ d hd) (fun b hb => (h2 _ b hb).2.2) fun b hb => ke.block b (h2 _ b hb).2.2 fun x => x
  · by_cases hj : j < l2.length
    · simp only [hj, if_true] at hb
      obtain ⟨a, b', c⟩ := k2 j b hb
      refine ⟨by simp; omega, .inl ?_, c⟩
      rcases b' with b' | b'
      · exact Nat.le_trans he.size b'
      · exact b'.elim
    · simp only [hj, if_false] at hb
      obtain ⟨a, b', c⟩ := h2 _ b hb
      exact ⟨by simp; omega, b', Nat.lt_of_lt_of_le c ke.size⟩
  · have key : ∀ j m b, gs j b → fs m b → False := fun j m b hj hm => by
      have a := (h2 m b hm).2.2
      rcases (k2 j b hj).2.1 with q | q
      · omega
      · exact q
    by_cases hj' : j < l2.length <;> by_cases hm' : m < l2.length
    · simp only [hj', hm', if_true] at hj hm; exact k3 j m b hj hm
    · simp only [hj', hm', if_true, if_false] at hj hm; exact (key j _ b hj hm).elim
    · simp only [hj', hm', if_true, if_false] at hj hm; exact (key m _ b hm hj).elim
    · simp only [hj', hm', if_false] at hj hm
      have := h3 _ _ b hj hm
      omega
theorem St.grow (h : St w0 X l w) (k : Ext w w') : St w0 X l w' := by
  have := h.join (l2 := []) ⟨ExtX.of k NoX, fun _ _ => False, fun i c h => by simp at h, fun _ _ h => h.elim, fun _ _ _ h => h.elim⟩
  simpa using this
theorem St.push (h : St w0 X l w) (k : Ext w w') {f : Nat → Prop} (hc : c.p w' f) (hf : ∀ b, f b → w.heap.size ≤ b ∧ b < w'.heap.size) : St w0 X (c :: l) w' :=
  h.join (l2 := [c]) ⟨ExtX.of k NoX, fun i b => i = 0 ∧ f b, fun i d hd => by
      cases i with
      | zero => simp at hd; subst hd; have e : (fun b => 0 = 0 ∧ f b) = f := by funext b; simp
                exact HP.eq_p e <| hc
      | succ i => simp at hd, fun i b ⟨h1, h2⟩ => ⟨by simp; omega, .inl (hf b h2).1, (hf b h2).2⟩, fun i j b h1 h2 => by omega⟩
theorem St.sel (h : St w0 X l w) (is : List Nat) (hn : is.Nodup) (hl : is.map (fun i => l[i]?) = l'.map some) : St w0 X l' w := by
  obtain ⟨he, fs, h1, h2, h3⟩ := h
  have hlen : is.length = l'.length := by have := congrArg List.length hl; simpa using this
  refine ⟨he, fun j b => ∃ i, is[j]? = some i ∧ fs i b, fun j d hd => ?_, fun j b ⟨i, hi, hb⟩ => ?_, fun j k b ⟨i, hi, hb⟩ ⟨m, hm, hb'⟩ => ?_⟩
  · have hj : j < l'.length := by
      rcases Nat.lt_or_ge j l'.length with h | h
      · exact h
      · rw [List.getElem?_eq_none h] at hd; cases hd
    have hi := List.getElem?_eq_getElem (l := is) (i := j) (by omega)
    have e : (fun b => ∃ i, is[j]? = some i ∧ fs i b) = fs (is[j]'(by omega)) := by
      funext b; rw [hi]; simp
    refine HP.eq_p e ?_
    refine h1 _ d ?_
    have := congrArg (fun x => x[j]?) hl
    simp only [List.getElem?_map, hi, hd, Option.map_some] at this
    simpa using this
  · obtain ⟨_, b1, b2⟩ := h2 i b hb
    refine ⟨?_, b1, b2⟩
    rcases Nat.lt_or_ge j l'.length with h | h
    · exact h
    · rw [List.getElem?_eq_none (by omega)] at hi; cases hi
  · have := h3 i m b hb hb'
    subst this
    have q1 := List.getElem?_eq_some_iff.1 hi
    have q2 := List.getElem?_eq_some_iff.1 hm
    obtain ⟨a1, a2⟩ := q1
    obtain ⟨c1, c2⟩ := q2
    exact (List.getElem_inj hn).1 (a2.trans c2.symm)
theorem St.ch (h : St w0 X l w) (i : Nat) (hi : l[i]? = some c) : c.at w := by
  obtain ⟨_, fs, h1, _⟩ := h
  exact ⟨_, h1 i c hi⟩
theorem St.chq (h : St w0 X l w) (i : Nat) (hi : l[i]? = some c) (hc : c = c') : c'.at w := hc ▸ h.ch i hi
def Ro (w0 : World) (X : Nat → Prop) (c : HP) : Prop := ∃ f, c.p w0 f ∧ ∀ b, f b → b < w0.heap.size ∧ ¬ X b
theorem St.ro (h : St w0 X l w) (r : Ro w0 X c) : c.at w := by
  obtain ⟨f, hc, hf⟩ := r
  exact ⟨f, c.loc hc (fun b hb => (hf b hb).1) fun b hb => h.ext.block b (hf b hb).1 (hf b hb).2⟩
theorem Ro.at (r : Ro w0 X c) : c.at w0 := let ⟨f, hc, _⟩ := r; ⟨f, hc⟩
theorem St.roC (h : St w0 X l w) (r : Ro w0 X c) : Ro w NoX c := by
  obtain ⟨f, hc, hf⟩ := r
  exact ⟨f, c.loc hc (fun b hb => (hf b hb).1) fun b hb => h.ext.block b (hf b hb).1 (hf b hb).2, fun b hb => ⟨Nat.lt_of_lt_of_le (hf b hb).1 h.ext.size, fun x => x⟩⟩
theorem St.chC (h : St w0 X l w) (i : Nat) (hi : l[i]? = some c) (hc : c = c') : Ro w NoX c' := by
  subst hc
  obtain ⟨_, fs, h1, h2, _⟩ := h
  exact ⟨fs i, h1 i c hi, fun b hb => ⟨(h2 i b hb).2.2, fun x => x⟩⟩
theorem St.call {pre fr : List HP} (h : St w0 X (pre ++ fr) w) : ∃ Y : Nat → Prop, St w Y pre w ∧ (∀ c : HP, Ro w0 X c → Ro w Y c) ∧ (∀ (i : Nat) (c : HP), fr[i]? = some c → Ro w Y c) ∧
    ∀ (w' : World) (post : List HP), St w Y post w' → St w0 X (post ++ fr) w' := by
  obtain ⟨he, fs, h1, h2, h3⟩ := h
  refine ⟨fun b => ∃ i, i < pre.length ∧ fs i b, ⟨ExtX.rfl' _ w, fun i b => i < pre.length ∧ fs i b, fun i c hc => ?_, fun i b ⟨q1, q2⟩ => ⟨q1, .inr ⟨i, q1, q2⟩, (h2 i b q2).2.2⟩, fun i j b ⟨_, q⟩ ⟨_, q'⟩ => h3 i j b q q'⟩, ?_, ?_, ?_⟩
  · have hi : i < pre.length := by
      rcases Nat.lt_or_ge i pre.length with h | h
      · exact h
      · rw [List.getElem?_eq_none h] at hc; cases hc
    have e : (fun b => i < pre.length ∧ fs i b) = fs i := by funext b; simp [hi]
    exact HP.eq_p e <| h1 i c (by rw [List.getElem?_append_left hi]; exact hc)
  · rintro c ⟨f, hc, hf⟩
    refine ⟨f, c.loc hc (fun b hb => (hf b hb).1) fun b hb => he.block b (hf b hb).1 (hf b hb).2, fun b hb => ⟨Nat.lt_of_lt_of_le (hf b hb).1 he.size, ?_⟩⟩
    rintro ⟨i, _, hi⟩
    rcases (h2 i b hi).2.1 with q | q
    · have := (hf b hb).1; omega
    · exact (hf b hb).2 q
  · intro i c hc
    refine ⟨fs (pre.length + i), h1 _ c (by rw [List.getElem?_append_right (by omega)]; simpa using hc), fun b hb => ⟨(h2 _ b hb).2.2, ?_⟩⟩
    rintro ⟨j, hj, hjb⟩
    have := h3 _ _ b hb hjb
    omega
  · rintro w' post ⟨ke, gs, k1, k2, k3⟩
    refine ⟨he.tr ke fun q ⟨i, _, hq⟩ hlt => ?_, fun j b => if j < post.length then gs j b else fs (pre.length + (j - post.length)) b, fun j d hd => ?_, fun j b hb => ?_, fun j m b hj hm => ?_⟩
    · rcases (h2 i q hq).2.1 with a | a
      · omega
      · exact a
    · by_cases hj : j < post.length
      · rw [List.getElem?_append_left hj] at hd
        have e : (fun b => if j < post.length then gs j b else fs (pre.length + (j - post.length)) b) = gs j := by funext b; simp [hj]
        exact HP.eq_p e <| k1 j d hd
      · rw [List.getElem?_append_right (by omega)] at hd
        have e : (fun b => if j < post.length then gs j b else fs (pre.length + (j - post.length)) b) = fs (pre.length + (j - post.length)) := by funext b; simp [hj]
        refine HP.eq_p e ?_
        have hd' : (pre ++ fr)[pre.length + (j - post.length)]? = some d := by rw [List.getElem?_append_right (by omega)]; simpa using hd
        refine d.loc (h1 _ d hd') (fun b hb => (h2 _ b hb).2.2) fun b hb => ke.block b (h2 _ b hb).2.2 ?_
        rintro ⟨i, hi, hib⟩
        have := h3 _ _ b hb hib
        omega
    · by_cases hj : j < post.length
      · simp only [hj, if_true] at hb
        obtain ⟨_, q1, q2⟩ := k2 j b hb
        refine ⟨by simp; omega, ?_, q2⟩
        rcases q1 with q1 | ⟨i, _, hi⟩
        · exact .inl (Nat.le_trans he.size q1)
        · exact (h2 i b hi).2.1
      · simp only [hj, if_false] at hb
        obtain ⟨q0, q1, q2⟩ := h2 _ b hb
        exact ⟨by simp at q0 ⊢; omega, q1, Nat.lt_of_lt_of_le q2 ke.size⟩
    · have key : ∀ j m b, gs j b → fs (pre.length + m) b → False := fun j m b hj hm => by
        rcases (k2 j b hj).2.1 with q | ⟨i, hi, q⟩
        · have := (h2 _ b hm).2.2; omega
        · have := h3 _ _ b q hm; omega
      by_cases hj' : j < post.length <;> by_cases hm' : m < post.length
      · simp only [hj', hm', if_true] at hj hm; exact k3 j m b hj hm
      · simp only [hj', hm', if_true, if_false] at hj hm; exact (key j _ b hj hm).elim
      · simp only [hj', hm', if_true, if_false] at hj hm; exact (key m _ b hm hj).elim
      · simp only [hj', hm', if_false] at hj hm
        have := h3 _ _ b hj hm
        omega
theorem gen1 {a : HP} (h : St w0 X (a :: l) w) : ∃ c, c = a ∧ St w0 X (c :: l) w := ⟨_, rfl, h⟩
theorem gen2 {a b : HP} (h : St w0 X (a :: b :: l) w) : ∃ c d, c = a ∧ d = b ∧ St w0 X (c :: d :: l) w := ⟨_, _, rfl, rfl, h⟩
theorem gen3 {a b e : HP} (h : St w0 X (a :: b :: e :: l) w) : ∃ c d k, c = a ∧ d = b ∧ k = e ∧ St w0 X (c :: d :: k :: l) w := ⟨_, _, _, rfl, rfl, rfl, h⟩
theorem gen4 {a b e m : HP} (h : St w0 X (a :: b :: e :: m :: l) w) : ∃ c d k n, c = a ∧ d = b ∧ k = e ∧ n = m ∧ St w0 X (c :: d :: k :: n :: l) w := ⟨_, _, _, _, rfl, rfl, rfl, rfl, h⟩
end
end Go.Own
