import Derived.Test.YtpgkfndbfocibaaGreatGenR
import Derived.Test.YtpgkfndbfocibaaGreatSepH
namespace Go.Own
open Go Go.RowKit
section
variable {B : Nat} {p q : World → Prop} {W W' : World} {row : Option Nat}
end
theorem wpIn_n {r : Option Nat} {P : Program} {c : Code} {Q : Exit → Act → World → Prop} {a : Act} {w : World} {n m : Nat} (h : c.wpIn (Fw r) n P Q a w) : c.wpIn (Fw r) m P Q a w := fun b k cs h1 h2 _ => h b k cs h1 h2 (fun d hd => by cases hd)
theorem calls_inR {P : Program} {f : FuncId} {fn : Func} {c : Code} {args : Array Value} {w : World} {R : Ending → World → Prop} (N : Nat)
  (hf : P.funcs[f]? = some fn) (hb : fn.body = some c) (hN : fn.ntmps = N) (ha : args.size ≤ N)
  (h : ∀ A : Act, A.tmps.size = N → A.defers = [] → (∀ (i : Nat) (v : Value), args[i]? = some v → EV A (.tmp i) = v) → wpR none P c (bodyPostM (Fw none) 0 P fn R) A w) : Calls P f args w R := by
 refine callsIn_wide.1 (callsIn_of_wp_marks (F := Fw none) (n := 0) hf hb trivial (h _ ?_ rfl fun i v hi => ?_) rfl)
 ·simp; omega
 ·have hlt := (Array.getElem?_eq_some_iff.1 hi).1
  simp [EV, Act.eval, Array.getElem?_append, hlt] at hi ⊢
  simp [hi]
theorem ret_inR0 {P : Program} {fn : Func} {R : Ending → World → Prop} {A : Act} {w : World} {v : Value} (hr : (results fn A.tmps).run P w = .ok v w) (hd : A.defers = []) (h : R (.returned v) w) : bodyPostM (Fw none) 0 P fn R .ret A w := by
 show LeavesInM (Fw none) 0 P fn A.tmps R A.defers .returning w
 rw [hd]
 exact ⟨v, hr, h⟩
theorem ret_inR1 {P : Program} {fn : Func} {R : Ending → World → Prop} {A : Act} {w : World} {v : Value} {D : Nat} (hr : (results fn A.tmps).run P (w.putObj D (.deferred none)) = .ok v (w.putObj D (.deferred none))) (hd : A.defers = [{ target := .collected D, args := #[] }])
  (hD : w.heap[D]? = some (.deferred (some []))) (h : R (.returned v) (w.putObj D (.deferred none))) : bodyPostM (Fw none) 0 P fn R .ret A w := by
 show LeavesInM (Fw none) 0 P fn A.tmps R A.defers .returning w
 rw [hd]
 exact ⟨by simp, .inl ⟨D, _, rfl, run_takeDeferred hD, v, hr, h⟩⟩
section
variable {K : Nat → Obj → Prop} {B : Nat} {X Y Z : World}
end
end Go.Own

namespace Go.Own
open Go Go.RowKit
def pk (C : List HP → Prop) : HP where
 p w f := ∃ l, C l ∧ ∃ fs : Nat → Nat → Prop, (∀ (i : Nat) (c : HP), l[i]? = some c → c.p w (fs i)) ∧ (∀ i b, fs i b → i < l.length ∧ f b) ∧ ∀ i j b, fs i b → fs j b → i = j
 loc := fun ⟨l, h0, fs, h1, h2, h3⟩ hs hb => ⟨l, h0, fs, fun i c hc => c.loc (h1 i c hc) (fun b h => hs b (h2 i b h).2) fun b h => hb b (h2 i b h).2, h2, h3⟩
theorem pk_at {C : List HP → Prop} {w : World} (h : (pk C).at w) : ∃ l, C l ∧ ∀ (i : Nat) (c : HP), l[i]? = some c → c.at w := let ⟨_, l, h0, fs, h1, _⟩ := h; ⟨l, h0, fun i c hc => ⟨_, h1 i c hc⟩⟩
section
variable {w0 w : World} {X : Nat → Prop} {cs fr : List HP}
theorem St.pack {C : List HP → Prop} {l : List HP} (h : St w0 X (l ++ fr) w) (hC : C l) : St w0 X (pk C :: fr) w := by
 obtain ⟨he, fs, h1, h2, h3⟩ := h
 refine ⟨he, fun j b => match j with | 0 => ∃ i, i < l.length ∧ fs i b | j + 1 => fs (l.length + j) b, fun j d hd => ?_, fun j b hb => ?_, fun j k b hj hk => ?_⟩
 ·cases j with
  | zero =>
   simp at hd; subst hd
   refine ⟨l, hC, fun i b => i < l.length ∧ fs i b, fun i c hc => ?_, fun i b ⟨q1, q2⟩ => ⟨q1, i, q1, q2⟩, fun i j b ⟨_, q⟩ ⟨_, q'⟩ => h3 i j b q q'⟩
   have hi : i < l.length := by
    rcases Nat.lt_or_ge i l.length with h | h
    ·exact h
    ·rw [List.getElem?_eq_none h] at hc; cases hc
   have e : (fun b => i < l.length ∧ fs i b) = fs i := by funext b; simp [hi]
   exact HP.eq_p e <| h1 i c (by rw [List.getElem?_append_left hi]; exact hc)
  | succ j => exact h1 _ d (by rw [List.getElem?_append_right (by omega)]; simpa using hd)
 ·cases j with
  | zero => obtain ⟨i, _, hi⟩ := hb; exact ⟨by simp, (h2 i b hi).2⟩
  | succ j => obtain ⟨q1, q2⟩ := h2 _ b hb; exact ⟨by simp at q1 ⊢; omega, q2⟩
 ·cases j with
  | zero => cases k with
   | zero => rfl
   | succ k => obtain ⟨i, hi, hib⟩ := hj; have := h3 _ _ b hib hk; omega
  | succ j => cases k with
   | zero => obtain ⟨i, hi, hib⟩ := hk; have := h3 _ _ b hib hj; omega
   | succ k => have := h3 _ _ b hj hk; omega
theorem St.unpack {C : List HP → Prop} (h : St w0 X (pk C :: fr) w) : ∃ l, C l ∧ St w0 X (l ++ fr) w := by
 obtain ⟨he, fs, h1, h2, h3⟩ := h
 obtain ⟨l, hC, gs, g1, g2, g3⟩ := h1 0 _ rfl
 refine ⟨l, hC, he, fun j b => if j < l.length then gs j b else fs (j - l.length + 1) b, fun j d hd => ?_, fun j b hb => ?_, fun j k b hj hk => ?_⟩
 ·by_cases hj : j < l.length
  ·rw [List.getElem?_append_left hj] at hd
   have e : (fun b => if j < l.length then gs j b else fs (j - l.length + 1) b) = gs j := by funext b; simp [hj]
   exact HP.eq_p e <| g1 j d hd
  ·rw [List.getElem?_append_right (by omega)] at hd
   have e : (fun b => if j < l.length then gs j b else fs (j - l.length + 1) b) = fs (j - l.length + 1) := by funext b; simp [hj]
   exact HP.eq_p e <| h1 _ d (by simpa using hd)
 ·by_cases hj : j < l.length
  ·simp only [hj, if_true] at hb
   exact ⟨by simp; omega, (h2 0 b (g2 j b hb).2).2⟩
  ·simp only [hj, if_false] at hb
   obtain ⟨q1, q2⟩ := h2 _ b hb
   exact ⟨by simp at q1 ⊢; omega, q2⟩
 ·by_cases hj' : j < l.length <;> by_cases hk' : k < l.length
  ·simp only [hj', hk', if_true] at hj hk; exact g3 j k b hj hk
  ·simp only [hj', hk', if_true, if_false] at hj hk; have := h3 _ _ b (g2 j b hj).2 hk; omega
  ·simp only [hj', hk', if_true, if_false] at hj hk; have := h3 _ _ b (g2 k b hk).2 hj; omega
  ·simp only [hj', hk', if_false] at hj hk; have := h3 _ _ b hj hk; omega
theorem St.obj {g : Nat} {o : Obj} {c : HP} (h : St w0 X cs w) (i : Nat) (hi : cs[i]? = some c) (hc : c = ob g o) : w.heap[g]? = some o := ob_at (h.chq i hi hc)
theorem St.put {g : Nat} {o o' : Obj} {c : HP} (h : St w0 X cs w) (i : Nat) (hi : cs[i]? = some c) (hc : c = ob g o) : St w0 X (cs.set i (ob g o')) (w.putObj g o') := by
 subst hc
 obtain ⟨f, q1, q2, q3⟩ := h.upd i hi
 refine q3 _ _ f ⟨rfl, rfl, rfl, by simp, fun k _ hk => World.putObj_heap_other fun e => hk (by rw [e]; exact q1.1)⟩ ⟨q1.1, World.putObj_heap_same (q2 _ q1.1)⟩ fun b hb => .inl hb
theorem St.lay (h : St w0 X cs w) (o : Obj) : St w0 X (ob w.heap.size o :: cs) (w.alloc o) :=
 h.push (Ext.alloc _ _) (f := (· = w.heap.size)) ⟨rfl, heap_alloc_new _ _⟩ fun b e => by subst e; simp
end
def MK (D : Nat) (A : Act) : Act := { A with defers := { target := .collected D, args := #[] } :: A.defers }
theorem mk_l {D : Nat} {A : Act} {x : Operand} {v : Value} (h : EV A x = v) : EV (MK D A) x = v := h
instance szN_mk {D N : Nat} {A : Act} [h : SzN A N] : SzN (MK D A) N := ⟨h.out⟩
theorem df_mk {D : Nat} {A : Act} : (MK D A).defers = { target := .collected D, args := #[] } :: A.defers := rfl
theorem gen_w {r : Option Nat} {P : Program} {c : Code} {Q : Exit → Act → World → Prop} {a : Act} {w : World} (h : ∀ A, A = a → wpR r P c Q A w) : wpR r P c Q a w := h a rfl
section
variable {w0 w : World} {X : Nat → Prop} {fr : List HP} {a b c : HP}
theorem St.swap (h : St w0 X (a :: b :: fr) w) : St w0 X (b :: a :: fr) w := by
 obtain ⟨he, fs, h1, h2, h3⟩ := h
 refine ⟨he, fun j q => fs (if j = 0 then 1 else if j = 1 then 0 else j) q, fun j d hd => ?_, fun j q hq => ?_, fun j k q hj hk => ?_⟩
 ·match j, hd with
  | 0, hd => exact h1 1 d hd
  | 1, hd => exact h1 0 d hd
  | j + 2, hd => exact h1 (j + 2) d hd
 ·obtain ⟨q1, q2⟩ := h2 _ q hq
  refine ⟨?_, q2⟩
  simp only [List.length_cons] at q1 ⊢
  split at q1 <;> (try split at q1) <;> omega
 ·have := h3 _ _ q hj hk
  split at this <;> split at this <;> (try split at this) <;> (try split at this) <;> omega
theorem St.asg0 (h : St w0 X (a :: fr) w) : St w0 X (a :: pk (· = []) :: fr) w := (St.pack (C := (· = [])) (l := []) (fr := a :: fr) h rfl).swap
theorem St.asg1 (h : St w0 X (b :: a :: fr) w) : St w0 X (a :: pk (· = [b]) :: fr) w := (St.pack (C := (· = [b])) (l := [b]) (fr := a :: fr) h rfl).swap
theorem St.body2 {C D : List HP → Prop} (h : St w0 X (pk C :: pk D :: fr) w) : ∃ l m, C l ∧ D m ∧ St w0 X (l ++ (m ++ fr)) w := by
 obtain ⟨m, hm, h⟩ := h.swap.unpack
 have h2 : ∀ (m : List HP) (fr' : List HP), St w0 X (m ++ pk C :: fr') w → St w0 X (pk C :: (m ++ fr')) w := by
  intro m
  induction m with
  | nil => intro _ h; exact h
  | cons x m ih => 
   intro fr' h
   have h5 : St w0 X (m ++ [pk C] ++ fr') w → True := fun _ => trivial
   obtain ⟨he, fs, q1, q2, q3⟩ := h
   refine ⟨he, fun j b => fs (if j = 0 then m.length + 1 else if j ≤ m.length + 1 then j - 1 else j) b, fun j d hd => ?_, fun j b hb => ?_, fun j k b hj hk => ?_⟩
   ·refine q1 _ d ?_
    cases j with
    | zero => simp at hd; subst hd; simp
    | succ j =>
     simp only [List.cons_append, List.getElem?_cons_succ] at hd ⊢
     by_cases hj : j + 1 ≤ m.length + 1
     ·simp only [Nat.succ_ne_zero, if_false, hj, if_true, Nat.add_sub_cancel]
      cases j with
      | zero => simpa using hd
      | succ j =>
       simp only [List.getElem?_cons_succ] at hd ⊢
       rw [List.getElem?_append_left (by omega)] at hd ⊢; exact hd
     ·simp only [Nat.succ_ne_zero, if_false, hj]
      cases j with
      | zero => omega
      | succ j =>
       simp only [List.getElem?_cons_succ] at hd ⊢
       rw [List.getElem?_append_right (by omega)] at hd ⊢
       have : j + 1 - m.length = (j - m.length) + 1 := by omega
       rw [this, List.getElem?_cons_succ]; exact hd
   ·obtain ⟨a1, a2⟩ := q2 _ b hb
    refine ⟨?_, a2⟩
    simp only [List.length_cons, List.length_append] at a1 ⊢
    split at a1 <;> (try split at a1) <;> omega
   ·have := q3 _ _ b hj hk
    split at this <;> split at this <;> (try split at this) <;> (try split at this) <;> omega
 obtain ⟨l, hl, h⟩ := (h2 m fr h).unpack
 exact ⟨l, m, hl, hm, h⟩
end
def Iter {α : Type} (P : Program) (gf : Nat) (lb : Array Value) (encs : α → Array Value) (S Sp Vd : List α → Prop) (Rd : World → Prop) : Prop :=
 ∀ (l : Nat) (wb : World) (X : Nat → Prop) (cs : List HP) (i : Nat) (J Jx : List α → HP) (W : World), cs[i]? = some (J []) →
  (∀ (pre : List α) (W1 : World) (l' : List HP) (j : Nat), St wb X l' W1 → l'[j]? = some (J pre) → Rd W1) →
  (∀ (pre : List α) (x : α) (W1 : World) (l' : List HP) (j : Nat), St wb X l' W1 → l'[j]? = some (J pre) → Vd (pre ++ [x]) → YieldAt (Fw none) 0 P l (encs x) W1 fun e W' =>
   (e = .returned (.bool true) ∧ St wb X (l'.set j (J (pre ++ [x]))) W') ∨ (e = .returned (.bool false) ∧ St wb X (l'.set j (Jx (pre ++ [x]))) W')) →
  St wb X cs W →
  Calls P gf (#[.func (.yield l) #[] #[]] ++ lb) W fun e W' => (∃ v, e = .returned v) ∧ ((∃ xs, S xs ∧ St wb X (cs.set i (J xs)) W') ∨ (∃ pre, Sp pre ∧ St wb X (cs.set i (Jx pre)) W'))
def rngPost {α : Type} (wb : World) (X : Nat → Prop) (fr : List HP) (I : List α → HP) (Ix : Code → List α → HP) (xs : List α) : Exit → Act → World → Prop
 | .normal, _, W' => St wb X (I xs :: fr) W'
 | .ret, _, W' => St wb X (Ix .ret xs :: fr) W'
 | .exit id, _, W' => St wb X (Ix (.exit id) xs :: fr) W'
 | .goto t, _, W' => St wb X (Ix (.goto t) xs :: fr) W'
 | .panic _, _, _ => False
 | .outgrown, _, _ => False
theorem St.sel3 {w0 w : World} {X : Nat → Prop} {a b c : HP} {fr : List HP} (h : St w0 X (a :: b :: c :: fr) w) : St w0 X ([c, a, b] ++ fr) w := by
 obtain ⟨he, fs, h1, h2, h3⟩ := h
 refine ⟨he, fun j q => fs (if j = 0 then 2 else if j = 1 then 0 else if j = 2 then 1 else j) q, fun j d hd => ?_, fun j q hq => ?_, fun j k q hj hk => ?_⟩
 ·match j, hd with
  | 0, hd => exact h1 2 d hd
  | 1, hd => exact h1 0 d hd
  | 2, hd => exact h1 1 d hd
  | j + 3, hd => exact h1 (j + 3) d hd
 ·obtain ⟨q1, q2⟩ := h2 _ q hq
  refine ⟨?_, q2⟩
  simp only [List.length_cons, List.length_append, List.length_nil] at q1 ⊢
  split at q1 <;> (try split at q1) <;> (try split at q1) <;> omega
 ·have := h3 _ _ q hj hk
  split at this <;> split at this <;> (try split at this) <;> (try split at this) <;> (try split at this) <;> (try split at this) <;> omega
theorem St.front {w0 w : World} {X : Nat → Prop} {cs : List HP} {c : HP} {i : Nat} (h : St w0 X cs w) (hi : cs[i]? = some c) : St w0 X (c :: cs.eraseIdx i) w ∧ ∀ (c' : HP) (w' : World), St w0 X (c' :: cs.eraseIdx i) w' → St w0 X (cs.set i c') w' := by
 have hil : i < cs.length := (List.getElem?_eq_some_iff.1 hi).1
 have swap : ∀ (c : HP) (l : List HP) (m : Nat) (W : World), m ≤ l.length → (St w0 X (c :: l) W ↔ St w0 X (l.insertIdx m c) W) := by
  intro c l m W hm
  constructor
  ·rintro ⟨he, fs, h1, h2, h3⟩
   refine ⟨he, fun j b => if j < m then fs (j + 1) b else if j = m then fs 0 b else fs j b, fun j d hd => ?_, fun j b hb => ?_, fun j k b hj hk => ?_⟩
   ·rw [List.getElem?_insertIdx] at hd
    by_cases hj : j < m
    ·simp only [hj, if_true] at hd ⊢; exact h1 (j + 1) d (by simpa using hd)
    ·simp only [hj, if_false] at hd ⊢
     by_cases hj' : j = m
     ·subst hj'
      rw [if_pos rfl, if_pos hm] at hd
      have e : (fun b => if j = j then fs 0 b else fs j b) = fs 0 := by funext b; simp
      exact HP.eq_p e (h1 0 d hd)
     ·simp only [hj', if_false] at hd ⊢
      obtain ⟨q, rfl⟩ : ∃ q, j = q + 1 := ⟨j - 1, by omega⟩
      exact h1 (q + 1) d (by simpa using hd)
   ·rw [List.length_insertIdx]
    simp only [hm, if_true]
    by_cases hj : j < m
    ·simp only [hj, if_true] at hb; obtain ⟨q1, q2⟩ := h2 _ b hb; simp at q1; exact ⟨by omega, q2⟩
    ·simp only [hj, if_false] at hb
     by_cases hj' : j = m
     ·simp only [hj', if_true] at hb; exact ⟨by omega, (h2 _ b hb).2⟩
     ·simp only [hj', if_false] at hb; obtain ⟨q1, q2⟩ := h2 _ b hb; simp at q1; exact ⟨by omega, q2⟩
   ·have : ∀ j, (if j < m then fs (j + 1) b else if j = m then fs 0 b else fs j b) = fs (if j < m then j + 1 else if j = m then 0 else j) b := fun j => by split <;> (try split) <;> rfl
    simp only [this] at hj hk
    have := h3 _ _ b hj hk
    split at this <;> split at this <;> (try split at this) <;> (try split at this) <;> omega
  ·rintro ⟨he, fs, h1, h2, h3⟩
   refine ⟨he, fun j b => fs (if j = 0 then m else if j ≤ m then j - 1 else j) b, fun j d hd => ?_, fun j b hb => ?_, fun j k b hj hk => ?_⟩
   ·refine h1 _ d ?_
    rw [List.getElem?_insertIdx]
    cases j with
    | zero => simp at hd; subst hd; simp [hm]
    | succ j =>
     simp at hd
     by_cases hj : j + 1 ≤ m
     ·have : j < m := by omega
      simp [hj, this, hd]
     ·have h4 : ¬ j + 1 < m := by omega
      have h5 : j + 1 ≠ m := by omega
      simp [hj, h4, h5, hd]
   ·obtain ⟨q1, q2⟩ := h2 _ b hb
    rw [List.length_insertIdx] at q1
    simp only [hm, if_true] at q1
    refine ⟨?_, q2⟩
    simp only [List.length_cons]
    split at q1 <;> (try split at q1) <;> omega
   ·have := h3 _ _ b hj hk
    split at this <;> split at this <;> (try split at this) <;> (try split at this) <;> omega
 have hle : i ≤ (cs.eraseIdx i).length := by rw [List.length_eraseIdx]; split <;> omega
 have e : ∀ c', (cs.eraseIdx i).insertIdx i c' = cs.set i c' := fun c' => by
  apply List.ext_getElem?
  intro j
  rw [List.getElem?_insertIdx, List.getElem?_set]
  by_cases hj : j < i
  ·have h1 : i ≠ j := by omega
   simp [hj, h1, List.getElem?_eraseIdx]
  ·by_cases hj' : j = i
   ·subst hj'; simp [hle, hil]
   ·have h1 : i ≠ j := by omega
    have h2 : ¬ j - 1 < i := by omega
    simp [hj, hj', h1, List.getElem?_eraseIdx, h2, show j - 1 + 1 = j by omega]
 have e0 : cs.set i c = cs := by
  apply List.ext_getElem?
  intro j
  rw [List.getElem?_set]
  by_cases hj : i = j
  ·subst hj; rw [if_pos rfl, if_pos hil, hi]
  ·simp [hj]
 exact ⟨(swap c _ i w hle).2 (by rw [e, e0]; exact h), fun c' w' h' => by rw [← e]; exact (swap c' _ i w' hle).1 h'⟩
theorem R_rangeS {α : Type} {P : Program} {g : Operand} {ps : Array Tmp} {assign body : Code} {Q : Exit → Act → World → Prop} {A : Act} {w : World} {gf : Nat} {lb : Array Value} (hg : EV A g = .func (.func gf) #[] lb) (eg : ∀ args w, (callFunc gf args).run P w = .ok (.enter gf args) w)
  {encs : α → Array Value} {S Sp Vd : List α → Prop} {Rd : World → Prop} (hseq : Iter P gf lb encs S Sp Vd Rd) (hps : ∀ x, (encs x).size = ps.size)
  {wb : World} {X : Nat → Prop} {fr : List HP} (I : List α → HP) (Ix : Code → List α → HP) (h0 : St wb X (I [] :: fr) w)
  (hR : ∀ pre W l', St wb X (I pre :: l') W → Rd W) (Ax : α → Act → HP → Prop)
  (hassign : ∀ (l : Nat) (pre : List α) (x : α) (W : World) (fr' : List HP) (K : Act → World → Prop), St wb X (I pre :: fr') W → (∀ a' W' c, Ax x a' c → St wb X (I pre :: c :: fr') W' → K a' W') →
   wpR (some l) P assign (Exit.then K (fun _ _ _ => False)) { tmps := (ps.zip (encs x)).foldl (fun t (p, v) => t.setIfInBounds p v) A.tmps, defers := [] } W)
  (hbody : ∀ (l : Nat) (pre : List α) (x : α) (a' : Act) (W : World) (c : HP) (fr' : List HP), Ax x a' c → (∃ r, W.heap[l]? = some (.loop r)) → St wb X (I pre :: c :: fr') W → Vd (pre ++ [x]) → wpR (some l) P body (rngPost wb X fr' I Ix (pre ++ [x])) a' W)
  (hdone : ∀ (D : Nat) (xs : List α) (W : World), S xs → St wb X (I xs :: ob D (.deferred (some [])) :: fr) W → Q .normal (MK D A) W)
  (hstop : ∀ (D : Nat) (c : Code) (pre : List α) (W : World), Sp pre → St wb X (Ix c pre :: ob D (.deferred (some [])) :: fr) W → wpR none P c Q (MK D A) W) :
  wpR none P (Code.rangeFunc g ps assign body) Q A w := by
 refine wpIn_rangeFunc ?_
 intro fn hfn
 obtain ⟨rec, hrec⟩ : ∃ rec : LoopState → Option Code → Loop, rec = fun st pe => { state := st, pending := pe, fn, tmps := A.tmps, params := ps, assign, body, defers := w.heap.size } := ⟨_, rfl⟩
 obtain ⟨W1, hW1⟩ : ∃ W1, (w.alloc (.deferred (some []))).alloc (.loop (rec .ready none)) = W1 := ⟨_, rfl⟩
 have hS1 : St wb X (ob (w.heap.size + 1) (.loop (rec .ready none)) :: ob w.heap.size (.deferred (some [])) :: I [] :: fr) W1 := by
  have := (h0.lay (.deferred (some []))).lay (.loop (rec .ready none))
  rw [hW1, World.size_alloc] at this; exact this
 let J : List α → HP := fun pre => pk (· = [I pre, ob (w.heap.size + 1) (.loop (rec .ready none)), ob w.heap.size (.deferred (some []))])
 let Jx : List α → HP := fun pre => pk (fun l => ∃ c, l = [Ix c pre, ob (w.heap.size + 1) (.loop (rec .done (some c))), ob w.heap.size (.deferred (some []))])
 have hS2 : St wb X (J [] :: fr) W1 := by
  have h3 := hS1.sel3
  exact St.pack (l := [I [], ob (w.heap.size + 1) (.loop (rec .ready none)), ob w.heap.size (.deferred (some []))]) (fr := fr) h3 rfl
 refine ⟨w.heap.size + 1, [{ target := .collected w.heap.size, args := #[] }], W1, { target := .fn (.func gf) lb, args := #[.func (.yield (w.heap.size + 1)) #[] #[]] }, W1, gf,
  #[.func (.yield (w.heap.size + 1)) #[] #[]] ++ lb, W1, ?_, ?_, ?_, ?_, fun h => (by cases h), ?_⟩
 ·rw [← hW1, hrec]; exact run_enterLoop_outer (P := P) fn A.tmps ps assign body
 ·have hg' : A.eval g = .func (.func gf) #[] lb := hg
  simp only [resolve, hg']
  simp [go_sem]
 ·intro f' hf'; trivial
 ·simp [invoke, go_sem, eg]
 ·refine callsIn_wide.2 ?_
  refine (hseq (w.heap.size + 1) wb X (J [] :: fr) 0 J Jx W1 rfl ?_ ?_ hS2).mono ?_
  ·intro pre W1 l' j hS hj
   obtain ⟨hf, _⟩ := hS.front hj
   obtain ⟨l, rfl, hl⟩ := hf.unpack
   exact hR pre W1 _ hl
  ·-- ONE ROUND
   intro pre x W l' j hS hj hlen
   obtain ⟨hf, hb⟩ := hS.front hj
   obtain ⟨l, rfl, hl⟩ := hf.unpack
   have hL := hl.obj 1 rfl rfl
   have hy := run_yield (P := P) (args := encs x) hL (by rw [hrec]; exact hps x)
   rw [hrec] at hy
   refine ⟨fn, _, assign, body, hy, roundIn_of_wpIn hfn ?_⟩
   clear hy
   refine wpIn_n (r := some (w.heap.size + 1)) (hassign _ pre x W _ _ hl ?_)
   intro a' W' c hax hS'
   refine ⟨_, run_beginRound (hS'.obj 2 rfl rfl) (by rw [hrec]), ?_⟩
   have hS3 := hS'.put (o' := .loop { rec .ready none with state := .busy }) 2 rfl rfl
   refine wpIn_mono (wpIn_n (r := some (w.heap.size + 1)) (hbody _ pre x a' _ c _ hax ⟨_, hS3.obj 2 rfl rfl⟩ hS3 hlen)) ?_
   have fin : ∀ (jump : Option Code) (W3 : World) (Y : HP), St wb X (Y :: ob (w.heap.size + 1) (.loop { rec .ready none with state := .busy }) :: ob w.heap.size (.deferred (some [])) :: l'.eraseIdx j) W3 →
     (Instr.endRound (w.heap.size + 1) jump).run P W3 = .ok (.bool jump.isNone) (W3.putObj (w.heap.size + 1) (.loop (rec (if jump.isNone then .ready else .done) jump))) ∧
     St wb X ([Y, ob (w.heap.size + 1) (.loop (rec (if jump.isNone then .ready else .done) jump)), ob w.heap.size (.deferred (some []))] ++ l'.eraseIdx j) (W3.putObj (w.heap.size + 1) (.loop (rec (if jump.isNone then .ready else .done) jump))) := fun jump W3 Y h => by
    have hr := run_endRound (P := P) jump (h.obj 1 rfl rfl)
    rw [hrec] at hr ⊢
    exact ⟨hr, h.put (o' := .loop _) 1 rfl rfl⟩
   rintro e a3 W3 hp
   cases e with
   | normal =>
    obtain ⟨hr, h4⟩ := fin none W3 _ hp
    exact ⟨_, _, hr, .inl ⟨rfl, hb _ _ (h4.pack rfl)⟩⟩
   | ret =>
    obtain ⟨hr, h4⟩ := fin (some .ret) W3 _ hp
    exact ⟨_, _, hr, .inr ⟨rfl, hb _ _ (h4.pack ⟨.ret, rfl⟩)⟩⟩
   | exit id =>
    obtain ⟨hr, h4⟩ := fin (some (.exit id)) W3 _ hp
    exact ⟨_, _, hr, .inr ⟨rfl, hb _ _ (h4.pack ⟨.exit id, rfl⟩)⟩⟩
   | goto t =>
    obtain ⟨hr, h4⟩ := fin (some (.goto t)) W3 _ hp
    exact ⟨_, _, hr, .inr ⟨rfl, hb _ _ (h4.pack ⟨.goto t, rfl⟩)⟩⟩
   | panic ch => exact hp.elim
   | outgrown => exact hp.elim
  ·-- BEHIND THE ITERATOR
   rintro e W2 ⟨⟨v, rfl⟩, (⟨xs, hS, h⟩ | ⟨pre, hSp, h⟩)⟩
   ·obtain ⟨l, rfl, hl⟩ := St.unpack h
    have hr := run_endLoop (P := P) (hl.obj 1 rfl rfl) (by rw [hrec]; simp)
    have h5 := hl.put (o' := .loop { rec .ready none with state := .exhausted }) 1 rfl rfl
    refine ⟨none, W2.putObj (w.heap.size + 1) (.loop { rec .ready none with state := .exhausted }), (by rw [hrec] at hr ⊢; exact hr), hdone _ xs _ hS ?_⟩
    exact h5.del 1
   ·obtain ⟨l, ⟨c, rfl⟩, hl⟩ := St.unpack h
    have hr := run_endLoop (P := P) (hl.obj 1 rfl rfl) (by rw [hrec]; simp)
    have h5 := hl.put (o' := .loop { rec .done (some c) with state := .exhausted }) 1 rfl rfl
    refine ⟨some c, W2.putObj (w.heap.size + 1) (.loop { rec .done (some c) with state := .exhausted }), (by rw [hrec] at hr ⊢; exact hr), wpIn_n (r := none) (hstop _ c pre _ hSp ?_)⟩
    exact h5.del 1
theorem ret_inR1' {P : Program} {fn : Func} {R : Ending → World → Prop} {A : Act} {w w1 : World} {v : Value} {D : Nat} (hw : w1 = w.putObj D (.deferred none)) (hr : (results fn A.tmps).run P w1 = .ok v w1) (hd : A.defers = [{ target := .collected D, args := #[] }])
  (hD : w.heap[D]? = some (.deferred (some []))) (h : R (.returned v) w1) : bodyPostM (Fw none) 0 P fn R .ret A w := by
 subst hw; exact ret_inR1 hr hd hD h
theorem run_yield1 {P : Program} {A : Act} {o : Oper} {c : Operand} {x : Operand} {ts : Array TypeId} {lY : Nat} {a : Value} {res : Next} {w : World} (ho : o.op = .call { callee := .value c, args := #[x], argTypes := ts }) (hc : EV A c = .func (.yield lY) #[] #[]) (hx : EV A x = a)
  (h : (Instr.yield lY #[a]).run P w = .ok res w) : (execOp (EV A) o).run P w = .ok res w := by
 unfold execOp
 simp [ho, resolve, hc, hx, invoke, h, Deferred.ofValue]
theorem rnd1 {A : Act} {p : Tmp} {a : Value} : ({ tmps := ((#[p] : Array Tmp).zip #[a]).foldl (fun t (p, v) => t.setIfInBounds p v) A.tmps, defers := [] } : Act) = PT { tmps := A.tmps, defers := [] } p a := by simp [PT, Act.put]
theorem rnd2 {A : Act} {p q : Tmp} {a b : Value} : ({ tmps := ((#[p, q] : Array Tmp).zip #[a, b]).foldl (fun t (p, v) => t.setIfInBounds p v) A.tmps, defers := [] } : Act) = PT (PT { tmps := A.tmps, defers := [] } p a) q b := by simp [PT, Act.put]
theorem rnd_l {A : Act} {t : Tmp} {v : Value} (h : EV A (.tmp t) = v) : EV ({ tmps := A.tmps, defers := [] } : Act) (.tmp t) = v := h
instance szN_rnd {N : Nat} {A : Act} [h : SzN A N] : SzN ({ tmps := A.tmps, defers := [] } : Act) N := ⟨h.out⟩
theorem calls_enter {P : Program} {f : Nat} {fn : Func} (hf : P.funcs[f]? = some fn) (hn : (fn.name == "runtime.NumGoroutine") = false) (hb : fn.body.isNone = false) (args : Array Value) (w : World) : (callFunc f args).run P w = .ok (.enter f args) w := by
 have hn' : fn.name ≠ "runtime.NumGoroutine" := by simpa using hn
 have hb' : fn.body ≠ none := by intro h; rw [h] at hb; cases hb
 simp [callFunc, program, Sem.run, hf, hn', hb']
theorem W_callV {P : Program} {ops : Array Oper} {l : List Oper} {o : Oper} {A : Act} {Q : Exit → Act → World → Prop} {w : World} {d : Tmp} {f : FuncId} {fn : Func} {xs : Array Operand} {c : Operand} {ats : Array TypeId} {args lb : Array Value} {R : Ending → World → Prop} (hd : o.dst = some d) (hw : Region.wanted o (yielded ops A.tmps) = true)
  (ho : o.op = .call { callee := .value c, args := xs, argTypes := ats }) (hc : EV A c = .func (.func f) #[] lb) (hf : P.funcs[f]? = some fn)
  (hn : (fn.name == "runtime.NumGoroutine") = false) (hb : fn.body.isNone = false) (ha : xs.map (EV A) = args)
  (hx : Calls P f (args ++ lb) w R) (hR : ∀ e w', R e w' → ∃ v, e = .returned v ∧ WX P ops Q l (PT A d v) w') : WX P ops Q (o :: l) A w := by
 refine ⟨?_⟩
 have hrun : (execOp (EV A) o).run P w = .ok (.enter f (args ++ lb)) w := by
  unfold execOp
  simp [ho, resolve, hc, ha, invoke, Deferred.ofValue, calls_enter hf hn hb]
 unfold wpList
 rw [if_pos hw]
 refine .inl ?_
 unfold Oper.wp Oper.upon
 rw [ex_ev hrun]
 exact hx.mono fun e w' he => by obtain ⟨v, h1, h2⟩ := hR e w' he; subst h1; simp only [hd]; exact h2.out
theorem il_Ints {w : World} {v : Value} {zs : List Int} (h : SlN w 1 v zs.length (zs.map (Value.int .i64))) : Ints w v zs := by unfold Ints Sl; rw [List.length_map]; exact h
theorem Ro.ints {w : World} {X : Nat → Prop} {v : Value} {zs : List Int} (h : Ro w X (il .i64 v zs)) : Ints w v zs := il_Ints (sl_SlN h.at)
theorem OwnI.p {w : World} {B : Nat} {E : TypeId} {v : Value} {zs : List Int} (h : OwnI w B E v zs) : (io .i64 v zs).p w (fun b => B ≤ b ∧ b < w.heap.size) := by
 obtain ⟨h0, ⟨rfl, h1⟩ | ⟨g, cap, cur, rfl, h1, h2, h3, h4, h5, h6⟩⟩ := h
 ·exact ⟨h0, .inl ⟨none, rfl, h1, fun b e => by cases e⟩⟩
 ·refine ow_made (f := fun b => B ≤ b ∧ b < w.heap.size) h2 ⟨h1, lt_size h2⟩ h3 h4 (by rw [h5]; exact Nat.le_refl _) h0 fun j u hj => ?_
  rw [← h6, List.getElem?_take] at hj
  split at hj
  ·simpa using hj
  ·cases hj
end Go.Own
