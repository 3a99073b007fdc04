import Derived.Test.YtpgkfndbfocibaaGreatSep
import Derived.Test.YtpgkfndbfocibaaGreatGenR
namespace Go.Own.L
open Go Go.RowKit Go.Own
abbrev SW := World × List (Nat × Nat × Nat)
structure Le (s s' : SW) : Prop where
 e : Ext s.1 s'.1
 log : ∃ p, s'.2 = p ++ s.2
theorem Le.rfl' (s : SW) : Le s s := ⟨Ext.rfl' _, [], rfl⟩
def Stable (f : SW → Prop) : Prop := ∀ s s', Le s s' → f s → f s'
structure SP where
 p : SW → Value → Prop
 st : ∀ u, Stable fun s => p s u
structure SPd where
 ts : List Tmp
 p : List Value → SP
def SPd.at (φ : SPd) (a : Act) : SP := φ.p (φ.ts.map fun t => a.eval (.tmp t))
theorem SPd.at_put {φ : SPd} {a : Act} {d : Option Tmp} {v : Value} (h : ∀ t, d = some t → t ∉ φ.ts) : φ.at (a.put d v) = φ.at a := by
 cases d with
 | none => rfl
 | some t =>
  unfold SPd.at
  congr 1
  refine List.map_congr_left fun q hq => ?_
  have hne : (t == q) = false := by
   cases e : (t == q) with
   | false => rfl
   | true => exact absurd (by rw [eq_of_beq e]; exact hq) (h t rfl)
  exact Go.Own.ev_ne hne
def push (i : Nat) (s : SW) (w : World) : SW := (w, (i, s.1.heap.size, w.heap.size) :: s.2)
theorem le_push {i : Nat} {s : SW} {w : World} (h : Ext s.1 w) : Le s (push i s w) := ⟨h, [_], rfl⟩
section
variable {P : Program} {ops : Array Oper}
def upd (F : Nat → SW → Prop) (i : Nat) (f : SW → Prop) : Nat → SW → Prop := fun k w => F k w ∧ (k = i → f w)
theorem upd_all {F : Nat → SW → Prop} {i : Nat} {f : SW → Prop} {w : SW} : (∀ k, upd F i f k w) ↔ (∀ k, F k w) ∧ f w :=
 ⟨fun h => ⟨fun k => (h k).1, (h i).2 rfl⟩, fun h k => ⟨h.1 k, fun _ => h.2⟩⟩
theorem upd_comm (F : Nat → SW → Prop) (i j : Nat) (f g : SW → Prop) : upd (upd F i f) j g = upd (upd F j g) i f := by
 funext k w
 exact propext ⟨fun ⟨⟨a, b⟩, c⟩ => ⟨⟨a, c⟩, b⟩, fun ⟨⟨a, b⟩, c⟩ => ⟨⟨a, c⟩, b⟩⟩
def anc (ops : Array Oper) (i k : Nat) : Bool := ((Region.before ops).getD i 0).testBit k
def ancF (ops : Array Oper) (i : Nat) (F : Nat → SW → Prop) (w : SW) : Prop := ∀ k, anc ops i k = true → F k w
variable (P ops)
variable (W : SW → Prop) (Φ : Nat → Option SPd) (e : Nat) (Q : Exit → Act → World → Prop)
def early (i : Nat) : Bool := decide (ops.size ≤ e) || anc ops e i
def pureV (i : Nat) (o : Oper) (a : Act) (F : Nat → SW → Prop) (x : Value) : Prop :=
 ∀ w, (early ops e i = true → W w ∧ ancF ops i F w) → (execOp a.eval o).run P w.1 = .ok (.value x) w.1
def monoV (i : Nat) (o : Oper) (a : Act) (F : Nat → SW → Prop) (φ : SP) : Prop :=
 ∀ w, W w → ancF ops i F w → wpU P o a w.1 fun u w' => W (push i w w') ∧ Ext w.1 w' ∧ φ.p (push i w w') u
def mOp (i : Nat) (K : Act → (Nat → SW → Prop) → Prop) (E : Act → World → Prop) (a : Act) (F : Nat → SW → Prop) : Prop :=
 match ops[i]? with
 | none => K a F
 | some o =>
  if Region.wanted o (yielded ops a.tmps) then
   if i = e then ∀ w, W w → (∀ k, F k w) → wpOp P ops (Qo Q) i E a w.1
   else match Φ i with
    | none => ∃ x, pureV P ops W e i o a F x ∧ K (a.put o.dst x) F
    | some φ => monoV P ops W i o a F (φ.at a) ∧ ∀ u, (∃ w, W w ∧ (∀ k, F k w) ∧ (φ.at a).p w u) → K (a.put o.dst u) (upd F i fun w => (φ.at a).p w u)
  else K (a.put o.dst undef) F
def Fin (a : Act) (F : Nat → SW → Prop) : Prop := ∀ w, W w → (∀ k, F k w) → Q .normal a w.1
def wpAnyM : Nat → Array Bool → Act → (Nat → SW → Prop) → Prop
 | 0, listed, a, F => Region.ready .any ops listed = [] ∧ Fin W Q a F
 | fuel + 1, listed, a, F =>
  (Region.ready .any ops listed = [] → Fin W Q a F) ∧
  ∀ i ∈ Region.ready .any ops listed, mOp P ops W Φ e Q i (wpAnyM fuel (listed.setIfInBounds i true)) (wpAny P .any ops (Qo Q) fuel (listed.setIfInBounds i true)) a F
variable {P ops W Φ e Q}
theorem wpAny_of_M : ∀ (fuel : Nat) (listed : Array Bool) (a : Act) (F : Nat → SW → Prop) (w : SW),
  (∀ k, Stable (F k)) → W w → (∀ k, F k w) → wpAnyM P ops W Φ e Q fuel listed a F → wpAny P .any ops (Qo Q) fuel listed a w.1
 | 0, _, _, _, w, _, hW, hF, h => ⟨h.1, h.2 w hW hF⟩
 | fuel + 1, listed, a, F, w, hS, hW, hF, h => by
  refine ⟨fun h0 => h.1 h0 w hW hF, fun i hi => ?_⟩
  have hm := h.2 i hi
  unfold mOp at hm
  unfold wpOp
  cases ho : ops[i]? with
  | none => simp only [ho] at hm ⊢; exact wpAny_of_M fuel _ _ _ w hS hW hF hm
  | some o =>
   simp only [ho] at hm ⊢
   by_cases hw : Region.wanted o (yielded ops a.tmps) = true
   ·simp only [hw, if_true] at hm ⊢
    by_cases hie : i = e
    ·simp only [hie, if_true] at hm
     have := hm w hW hF
     unfold wpOp at this
     rw [hie] at ho ⊢
     simp only [ho, hw, if_true] at this
     exact this
    ·simp only [hie, if_false] at hm
     left
     cases hφ : Φ i with
     | none =>
      simp only [hφ] at hm
      obtain ⟨x, hx, hk⟩ := hm
      have hr := hx w fun _ => ⟨hW, fun k _ => hF k⟩
      unfold Oper.wp
      rw [hr]
      exact wpAny_of_M fuel _ _ _ w hS hW hF hk
     | some φ =>
      simp only [hφ] at hm
      obtain ⟨hv, hk⟩ := hm
      refine wpU_wp (hv w hW fun k _ => hF k) ?_
      rintro u w' ⟨hW', hE, hu⟩
      have hF' : ∀ k, F k (push i w w') := fun k => hS k w _ (le_push hE) (hF k)
      refine wpAny_of_M fuel _ _ _ (push i w w') ?_ hW' (upd_all.2 ⟨hF', hu⟩) (hk u ⟨_, hW', hF', hu⟩)
      intro k x y hxy ⟨h1, h2⟩
      exact ⟨hS k x y hxy h1, fun hki => (φ.at a).st u x y hxy (h2 hki)⟩
   ·simp only [hw] at hm ⊢
    exact wpAny_of_M fuel _ _ _ w hS hW hF hm
theorem ancF_upd {i j : Nat} {F : Nat → SW → Prop} {f : SW → Prop} {w : SW} (h : anc ops j i = false) : ancF ops j (upd F i f) w ↔ ancF ops j F w := by
 constructor
 ·intro hh k hk; exact (hh k hk).1
 ·intro hh k hk; exact ⟨hh k hk, fun e => by rw [e, h] at hk; cases hk⟩
theorem anc_listed (hB : ∀ i k, anc ops i k = true → ∃ o, ops[i]? = some o ∧ ∃ d ∈ o.after, Region.binds .any d = true ∧ d.on < i ∧ (d.on = k ∨ anc ops d.on k = true)) {listed : Array Bool}
  (hcl : ∀ i o, ops[i]? = some o → listed.getD i false = true → ∀ d ∈ o.after, Region.binds .any d = true → listed.getD d.on false = true) :
  ∀ (n i k : Nat), i ≤ n → (∀ o, ops[i]? = some o → ∀ d ∈ o.after, Region.binds .any d = true → listed.getD d.on false = true) → anc ops i k = true → listed.getD k false = true := by
 intro n
 induction n with
 | zero =>
  intro i k hi h ha
  obtain ⟨o, ho, d, hd, hb, hlt, _⟩ := hB i k ha
  omega
 | succ n ih =>
  intro i k hi h ha
  obtain ⟨o, ho, d, hd, hb, hlt, hor⟩ := hB i k ha
  have hl := h o ho d hd hb
  rcases hor with rfl | hor
  ·exact hl
  ·exact ih d.on k (by omega) (fun o' ho' => hcl d.on o' ho' hl) hor
def Closed (ops : Array Oper) (listed : Array Bool) : Prop :=
 ∀ i o, ops[i]? = some o → listed.getD i false = true → ∀ d ∈ o.after, Region.binds .any d = true → listed.getD d.on false = true
def AncOk (ops : Array Oper) : Prop :=
 ∀ i k, anc ops i k = true → ∃ o, ops[i]? = some o ∧ ∃ d ∈ o.after, Region.binds .any d = true ∧ d.on < i ∧ (d.on = k ∨ anc ops d.on k = true)
theorem Closed.set {listed : Array Bool} {i : Nat} (h : Closed ops listed) (hr : i ∈ Region.ready .any ops listed) : Closed ops (listed.setIfInBounds i true) := by
 intro j o ho hl d hd hb
 by_cases hij : i = j
 ·subst hij
  obtain ⟨_, o', ho', hall⟩ := mem_ready.1 hr
  rw [ho] at ho'; cases ho'
  exact getD_set_true (hall d hd hb)
 ·rw [getD_set_ne false hij] at hl
  exact getD_set_true (h j o ho hl d hd hb)
theorem not_anc (hA : AncOk ops) {listed : Array Bool} (hcl : Closed ops listed) {i j : Nat} (hi : i ∈ Region.ready .any ops listed) (hj : listed.getD j true = false) : anc ops i j = false := by
 cases hh : anc ops i j with
 | false => rfl
 | true =>
  obtain ⟨_, o, ho, hall⟩ := mem_ready.1 hi
  have := anc_listed hA hcl i i j (Nat.le_refl _) (fun o' ho' => by rw [ho] at ho'; cases ho'; exact hall) hh
  rcases Nat.lt_or_ge j listed.size with h' | h'
  ·simp [h'] at this hj; rw [hj] at this; cases this
  ·simp [Array.getElem?_eq_none h'] at this
def Ind (ops : Array Oper) (Φ : Nat → Option SPd) : Prop := ∀ i φ, Φ i = some φ → ∀ (j : Nat) oj, ops[j]? = some oj → anc ops i j = false → ∀ (a : Act) x, φ.at (a.put oj.dst x) = φ.at a
def YP (P : Program) (ops : Array Oper) (W : SW → Prop) (Φ : Nat → Option SPd) (e i : Nat) (o : Oper) (a : Act) (F : Nat → SW → Prop) (x : Value) : Prop :=
 (Region.wanted o (yielded ops a.tmps) = true ∧ Φ i = none ∧ pureV P ops W e i o a F x) ∨ (Region.wanted o (yielded ops a.tmps) = false ∧ x = undef)
theorem YP.same {i : Nat} {o : Oper} {a b : Act} {F F' : Nat → SW → Prop} {x : Value} (h : YP P ops W Φ e i o a F x) (he : execOp b.eval o = execOp a.eval o)
  (hw : Region.wanted o (yielded ops b.tmps) = Region.wanted o (yielded ops a.tmps)) (hF : ∀ w, ancF ops i F' w → ancF ops i F w) : YP P ops W Φ e i o b F' x := by
 unfold YP pureV at *
 rw [he, hw]
 rcases h with ⟨h1, h0, h2⟩ | h
 ·exact .inl ⟨h1, h0, fun w hh => h2 w fun hh' => ⟨(hh hh').1, hF w (hh hh').2⟩⟩
 ·exact .inr h
theorem M_firstP {i : Nat} {oi : Oper} {x : Value} (hI : Ind ops Φ) (hA : AncOk ops) (hi : ops[i]? = some oi) (hsel : ∀ (j : Nat) (o : Oper) cs b, ops[j]? = some o → o.op ≠ .select cs b)
  (hie : i ≠ e) :
  ∀ (fuel : Nat) (listed : Array Bool) (a : Act) (F : Nat → SW → Prop),
   (∀ j oj, ops[j]? = some oj → j ≠ i → listed.getD j true = false → (∀ d ∈ oj.after, Region.binds .any d = true → d.on ≠ i) → oi.apart ops oj = true) →
   Closed ops listed → i ∈ Region.ready .any ops listed → YP P ops W Φ e i oi a F x →
   wpAnyM P ops W Φ e Q fuel (listed.setIfInBounds i true) (a.put oi.dst x) F → wpAnyM P ops W Φ e Q (fuel + 1) listed a F := by
 intro fuel
 have own : ∀ fuel (listed : Array Bool) (a : Act) (F : Nat → SW → Prop), YP P ops W Φ e i oi a F x → wpAnyM P ops W Φ e Q fuel (listed.setIfInBounds i true) (a.put oi.dst x) F →
   mOp P ops W Φ e Q i (wpAnyM P ops W Φ e Q fuel (listed.setIfInBounds i true)) (wpAny P .any ops (Qo Q) fuel (listed.setIfInBounds i true)) a F := by
  intro fuel listed a F hy H
  unfold mOp
  simp only [hi]
  rcases hy with ⟨hw, hn, hv⟩ | ⟨hw, rfl⟩
  ·simp only [hw, if_true, if_neg hie, hn]; exact ⟨x, hv, H⟩
  ·simp only [hw, Bool.false_eq_true, if_false]; exact H
 induction fuel with
 | zero =>
  intro listed a F _ _ hr hy H
  refine ⟨fun h => (by rw [h] at hr; cases hr), fun j hj => ?_⟩
  by_cases hji : j = i
  ·subst hji; exact own 0 listed a F hy H
  ·have := ready_mono hj hji
   rw [H.1] at this
   cases this
 | succ fuel ih =>
  intro listed a F hfree hcl hr hy H
  refine ⟨fun h => (by rw [h] at hr; cases hr), fun j hj => ?_⟩
  by_cases hji : j = i
  ·subst hji; exact own (fuel + 1) listed a F hy H
  ·have h1 := H.2 j (ready_mono hj hji)
   obtain ⟨hjun, oj, hoj, hall⟩ := mem_ready.1 hj
   have hiun := (mem_ready.1 hr).1
   have hnot : ∀ d ∈ oj.after, Region.binds .any d = true → d.on ≠ i := fun d hd hb heq => by
    have h1 := hall d hd hb
    rw [heq] at h1
    rcases Nat.lt_or_ge i listed.size with h' | h'
    ·simp [h'] at hiun h1; rw [hiun] at h1; cases h1
    ·simp [Array.getElem?_eq_none h'] at h1
   have hap := hfree j oj hoj hji hjun hnot
   obtain ⟨q1, q2, q3⟩ := Oper.apart_spec hap
   have hij : anc ops i j = false := not_anc hA hcl hr hjun
   have hji' : anc ops j i = false := not_anc hA hcl hj hiun
   have hfree' : ∀ k ok, ops[k]? = some ok → k ≠ i → (listed.setIfInBounds j true).getD k true = false →
     (∀ d ∈ ok.after, Region.binds .any d = true → d.on ≠ i) → oi.apart ops ok = true := fun k ok hk hki hun hno => by
    refine hfree k ok hk hki ?_ hno
    by_cases hjk : j = k
    ·subst hjk; exact hjun
    ·rw [getD_set_ne true hjk] at hun; exact hun
   have hcl' := hcl.set hj
   have hr' := ready_mono hr (Ne.symm hji)
   have hx : execOp (a.put oi.dst x).eval oj = execOp a.eval oj := execOp_put oj (fun cs b => hsel j oj cs b hoj) a oi.dst x q1
   have hwx : Region.wanted oj (yielded ops (a.put oi.dst x).tmps) = Region.wanted oj (yielded ops a.tmps) := wanted_put oj a oi.dst x q1
   have hy' : ∀ (F' : Nat → SW → Prop) u, (∀ w, ancF ops i F' w → ancF ops i F w) → YP P ops W Φ e i oi (a.put oj.dst u) F' x := fun F' u hF' =>
    hy.same (execOp_put oi (fun cs b => hsel i oi cs b hi) a oj.dst u q3) (wanted_put oi a oj.dst u q3) hF'
   have comm : ∀ u, (a.put oi.dst x).put oj.dst u = (a.put oj.dst u).put oi.dst x := fun u => Act.put_comm a x u q2
   unfold mOp at h1 ⊢
   simp only [hoj, hwx] at h1 ⊢
   by_cases hwj : Region.wanted oj (yielded ops a.tmps) = true
   ·simp only [hwj, if_true] at h1 ⊢
    by_cases hje : j = e
    ·rw [if_pos hje] at h1 ⊢
     intro w hW hF
     have hE : early ops e i = false := by
      unfold early
      rw [← hje, hji']
      have := (Array.getElem?_eq_some_iff.1 hoj).1
      simp; omega
     have hyy : Yields P ops oi x a := by
      rcases hy with ⟨h, _, hv⟩ | h
      ·exact .inl ⟨h, fun w => hv (w, []) fun hh => by rw [hE] at hh; cases hh⟩
      ·exact .inr h
     have h2 := wpOp_put (Q := Qo Q) hoj hap (fun cs b => hsel i oi cs b hi) (fun cs b => hsel j oj cs b hoj) (fun c a w h => h.elim) hyy (h1 w hW hF)
     refine wpOp_mono (fun a' w' h3 => wpAny_first hi hsel (fun c a w h => h.elim) fuel (listed.setIfInBounds j true) a' w' hfree' hr' h3.1 ?_) h2
     rw [Array.setIfInBounds_comm _ _ hji]
     exact h3.2
    ·rw [if_neg hje] at h1 ⊢
     cases hφ : Φ j with
     | none =>
      simp only [hφ] at h1 ⊢
      obtain ⟨y, hv, hk⟩ := h1
      refine ⟨y, by unfold pureV at *; rw [← hx]; exact hv, ih _ _ _ hfree' hcl' hr' (hy' F y fun _ h => h) ?_⟩
      rw [Array.setIfInBounds_comm _ _ hji, ← comm]
      exact hk
     | some φ =>
      simp only [hφ] at h1 ⊢
      rw [hI j φ hφ i oi hi hji' a x] at h1
      obtain ⟨hv, hk⟩ := h1
      refine ⟨fun w hW hF => wpU_congr hx (hv w hW hF), fun u hu => ih _ _ _ hfree' hcl' hr' (hy' _ u fun w => (ancF_upd hij).1) ?_⟩
      rw [Array.setIfInBounds_comm _ _ hji, ← comm]
      exact hk u hu
   ·simp only [hwj] at h1 ⊢
    refine ih _ _ _ hfree' hcl' hr' (hy' F undef fun _ h => h) ?_
    rw [Array.setIfInBounds_comm _ _ hji, ← comm]
    exact h1
theorem M_firstM {i : Nat} {oi : Oper} {φd : SPd} {φ : SP} (hI : Ind ops Φ) (hA : AncOk ops) (hi : ops[i]? = some oi) (hsel : ∀ (j : Nat) (o : Oper) cs b, ops[j]? = some o → o.op ≠ .select cs b)
  (hie : i ≠ e) (hΦi : Φ i = some φd) (hearly : early ops e i = true) :
  ∀ (fuel : Nat) (listed : Array Bool) (a : Act) (F : Nat → SW → Prop), φd.at a = φ →
   (∀ j oj, ops[j]? = some oj → j ≠ i → listed.getD j true = false → (∀ d ∈ oj.after, Region.binds .any d = true → d.on ≠ i) → oi.apart ops oj = true) →
   Closed ops listed → i ∈ Region.ready .any ops listed → (∀ k, Stable (F k)) → (∃ w, W w ∧ ∀ k, F k w) →
   Region.wanted oi (yielded ops a.tmps) = true → monoV P ops W i oi a F φ →
   (∀ u, (∃ w, W w ∧ (∀ k, F k w) ∧ φ.p w u) → wpAnyM P ops W Φ e Q fuel (listed.setIfInBounds i true) (a.put oi.dst u) (upd F i fun w => φ.p w u)) → wpAnyM P ops W Φ e Q (fuel + 1) listed a F := by
 intro fuel
 have own : ∀ fuel (listed : Array Bool) (a : Act) (F : Nat → SW → Prop), φd.at a = φ → Region.wanted oi (yielded ops a.tmps) = true → monoV P ops W i oi a F φ →
   (∀ u, (∃ w, W w ∧ (∀ k, F k w) ∧ φ.p w u) → wpAnyM P ops W Φ e Q fuel (listed.setIfInBounds i true) (a.put oi.dst u) (upd F i fun w => φ.p w u)) →
   mOp P ops W Φ e Q i (wpAnyM P ops W Φ e Q fuel (listed.setIfInBounds i true)) (wpAny P .any ops (Qo Q) fuel (listed.setIfInBounds i true)) a F := by
  intro fuel listed a F hd hw hv H
  unfold mOp
  simp only [hi, hw, if_true, if_neg hie, hΦi, hd]
  exact ⟨hv, H⟩
 have some_u : ∀ (a : Act) (F : Nat → SW → Prop), (∀ k, Stable (F k)) → (∃ w, W w ∧ ∀ k, F k w) → monoV P ops W i oi a F φ → ∃ u w, W w ∧ (∀ k, F k w) ∧ φ.p w u := by
  rintro a F hS ⟨w, hW, hF⟩ hv
  obtain ⟨u, w', hW', hE, hu⟩ := wpU_ex (hv w hW fun k _ => hF k)
  exact ⟨u, push i w w', hW', fun k => hS k w _ (le_push hE) (hF k), hu⟩
 induction fuel with
 | zero =>
  intro listed a F hd _ _ hr hS hc hw hv H
  refine ⟨fun h => (by rw [h] at hr; cases hr), fun j hj => ?_⟩
  by_cases hji : j = i
  ·subst hji; exact own 0 listed a F hd hw hv H
  ·obtain ⟨u, hu⟩ := some_u a F hS hc hv
   have := ready_mono hj hji
   rw [(H u hu).1] at this
   cases this
 | succ fuel ih =>
  intro listed a F hd hfree hcl hr hS hc hw hv H
  refine ⟨fun h => (by rw [h] at hr; cases hr), fun j hj => ?_⟩
  by_cases hji : j = i
  ·subst hji; exact own (fuel + 1) listed a F hd hw hv H
  ·obtain ⟨u0, hu0⟩ := some_u a F hS hc hv
   obtain ⟨hjun, oj, hoj, hall⟩ := mem_ready.1 hj
   have hiun := (mem_ready.1 hr).1
   have hnot : ∀ d ∈ oj.after, Region.binds .any d = true → d.on ≠ i := fun d hd hb heq => by
    have h1 := hall d hd hb
    rw [heq] at h1
    rcases Nat.lt_or_ge i listed.size with h' | h'
    ·simp [h'] at hiun h1; rw [hiun] at h1; cases h1
    ·simp [Array.getElem?_eq_none h'] at h1
   have hap := hfree j oj hoj hji hjun hnot
   obtain ⟨q1, q2, q3⟩ := Oper.apart_spec hap
   have hij : anc ops i j = false := not_anc hA hcl hr hjun
   have hji' : anc ops j i = false := not_anc hA hcl hj hiun
   have hd' : ∀ y, φd.at (a.put oj.dst y) = φ := fun y => (hI i φd hΦi j oj hoj hij a y).trans hd
   have hfree' : ∀ k ok, ops[k]? = some ok → k ≠ i → (listed.setIfInBounds j true).getD k true = false →
     (∀ d ∈ ok.after, Region.binds .any d = true → d.on ≠ i) → oi.apart ops ok = true := fun k ok hk hki hun hno => by
    refine hfree k ok hk hki ?_ hno
    by_cases hjk : j = k
    ·subst hjk; exact hjun
    ·rw [getD_set_ne true hjk] at hun; exact hun
   have hcl' := hcl.set hj
   have hr' := ready_mono hr (Ne.symm hji)
   have hx : ∀ x, execOp (a.put oi.dst x).eval oj = execOp a.eval oj := fun x => execOp_put oj (fun cs b => hsel j oj cs b hoj) a oi.dst x q1
   have hwx : ∀ x, Region.wanted oj (yielded ops (a.put oi.dst x).tmps) = Region.wanted oj (yielded ops a.tmps) := fun x => wanted_put oj a oi.dst x q1
   have hxi : ∀ y, execOp (a.put oj.dst y).eval oi = execOp a.eval oi := fun y => execOp_put oi (fun cs b => hsel i oi cs b hi) a oj.dst y q3
   have hwi : ∀ y, Region.wanted oi (yielded ops (a.put oj.dst y).tmps) = true := fun y => (wanted_put oi a oj.dst y q3).trans hw
   have hvi : ∀ (F' : Nat → SW → Prop) y, (∀ w, ancF ops i F' w → ancF ops i F w) → monoV P ops W i oi (a.put oj.dst y) F' φ := fun F' y hF' w hW hF =>
    wpU_congr (hxi y).symm (hv w hW (hF' w hF))
   have comm : ∀ x u, (a.put oi.dst x).put oj.dst u = (a.put oj.dst u).put oi.dst x := fun x u => Act.put_comm a x u q2
   have h1 := fun u hu => (H u hu).2 j (ready_mono hj hji)
   unfold mOp at h1 ⊢
   simp only [hoj, hwx] at h1 ⊢
   by_cases hwj : Region.wanted oj (yielded ops a.tmps) = true
   ·simp only [hwj, if_true] at h1 ⊢
    by_cases hje : j = e
    ·exfalso
     unfold early at hearly
     rw [← hje, hji'] at hearly
     have := (Array.getElem?_eq_some_iff.1 hoj).1
     simp at hearly; omega
    ·simp only [if_neg hje] at h1 ⊢
     cases hφ : Φ j with
     | none =>
      simp only [hφ] at h1 ⊢
      obtain ⟨y, hvy, hk0⟩ := h1 u0 hu0
      have hvy' : pureV P ops W e j oj a F y := by
       intro w hh
       have := hvy w fun hl => ⟨(hh hl).1, (ancF_upd hji').2 (hh hl).2⟩
       rwa [hx] at this
      refine ⟨y, hvy', ih _ _ _ (hd' y) hfree' hcl' hr' hS hc (hwi y) (hvi F y fun _ h => h) ?_⟩
      intro u hu
      obtain ⟨y', hvy2, hk⟩ := h1 u hu
      obtain ⟨w, hW, hF⟩ := hc
      have e1 := hvy' w fun _ => ⟨hW, fun k _ => hF k⟩
      have e2 := hvy2 w fun _ => ⟨hW, (ancF_upd hji').2 fun k _ => hF k⟩
      rw [hx, e1] at e2
      have hyy : y = y' := by simpa using e2
      subst hyy
      rw [Array.setIfInBounds_comm _ _ hji, ← comm]
      exact hk
     | some ψ0 =>
      simp only [hφ] at h1 ⊢
      generalize hψ : ψ0.at a = ψ
      have h1 : ∀ u hu, _ := fun u hu => by have q := h1 u hu; rw [hI j ψ0 hφ i oi hi hji' a u, hψ] at q; exact q
      refine ⟨fun w hW hF => wpU_congr (hx u0) ((h1 u0 hu0).1 w hW ((ancF_upd hji').2 hF)), fun y hy => ?_⟩
      have hS' : ∀ k, Stable (upd F j (fun w => ψ.p w y) k) := fun k w w' hE ⟨p1, p2⟩ => ⟨hS k w w' hE p1, fun hkj => ψ.st y w w' hE (p2 hkj)⟩
      obtain ⟨wy, hWy, hFy, hψy⟩ := hy
      refine ih _ _ _ (hd' y) hfree' hcl' hr' hS' ⟨wy, hWy, upd_all.2 ⟨hFy, hψy⟩⟩ (hwi y) (hvi _ y fun w => (ancF_upd hij).1) ?_
      rintro u ⟨w, hW, hF, hφu⟩
      obtain ⟨hF1, hF2⟩ := upd_all.1 hF
      rw [Array.setIfInBounds_comm _ _ hji, ← comm, upd_comm]
      exact (h1 u ⟨w, hW, hF1, hφu⟩).2 y ⟨w, hW, upd_all.2 ⟨hF1, hφu⟩, hF2⟩
   ·simp only [hwj] at h1 ⊢
    refine ih _ _ _ (hd' undef) hfree' hcl' hr' hS hc (hwi undef) (hvi F undef fun _ h => h) ?_
    intro u hu
    rw [Array.setIfInBounds_comm _ _ hji, ← comm]
    exact h1 u hu
def Chk (P : Program) (ops : Array Oper) (W : SW → Prop) (Φ : Nat → Option SPd) (e : Nat) (Z : Act → (Nat → SW → Prop) → Prop) : List Oper → Nat → Act → (Nat → SW → Prop) → Prop
 | [], _, a, F => Z a F
 | o :: l, i, a, F =>
  if i = e then Chk P ops W Φ e Z l (i + 1) a F
  else if Region.wanted o (yielded ops a.tmps) then
   match Φ i with
   | none => ∃ x, pureV P ops W e i o a F x ∧ Chk P ops W Φ e Z l (i + 1) (a.put o.dst x) F
   | some φ => monoV P ops W i o a F (φ.at a) ∧ ∀ u, (∃ w, W w ∧ (φ.at a).p w u) → Chk P ops W Φ e Z l (i + 1) (a.put o.dst u) (upd F i fun w => (φ.at a).p w u)
  else Chk P ops W Φ e Z l (i + 1) (a.put o.dst undef) F
def lexM (ops : Array Oper) (e k : Nat) : Nat → Nat → Array Bool → Bool
 | 0, i, listed => decide (i = k) && (if e < ops.size then decide (Region.ready .any ops listed = [e]) && Region.seqB .any ops (ops.size - k) k (listed.setIfInBounds e true)
   else (Region.ready .any ops listed).isEmpty && decide (k = ops.size))
 | f + 1, i, listed => if i = e then lexM ops e k f (i + 1) listed
   else (Region.ready .any ops listed).contains i && Region.free .any ops listed i && lexM ops e k f (i + 1) (listed.setIfInBounds i true)
def fuelM (ops : Array Oper) (e k : Nat) : Nat → Nat → Nat
 | 0, _ => if e < ops.size then (ops.size - k) + 1 else 0
 | f + 1, i => if i = e then fuelM ops e k f (i + 1) else fuelM ops e k f (i + 1) + 1
def Zed (P : Program) (ops : Array Oper) (W : SW → Prop) (e k : Nat) (Q : Exit → Act → World → Prop) (a : Act) (F : Nat → SW → Prop) : Prop :=
 ∀ w, W w → (∀ k, F k w) → wpList P ops (Qo Q) ((ops[e]?).toList ++ ops.toList.drop k) a w.1
theorem M_lex {k : Nat} (hI : Ind ops Φ) (hA : AncOk ops) (hsel : Region.noSelect ops = true) (hearly : ∀ i φ, Φ i = some φ → i ≠ e → early ops e i = true) (hg : ∀ o, ops[e]? = some o → o.guard = none) :
  ∀ (l : List Oper) (i : Nat) (listed : Array Bool) (a : Act) (F : Nat → SW → Prop), (∀ j, j < l.length → l[j]? = ops[i + j]?) →
  Closed ops listed → (∀ k, Stable (F k)) → (∃ w, W w ∧ ∀ k, F k w) → lexM ops e k l.length i listed = true →
  Chk P ops W Φ e (Zed P ops W e k Q) l i a F → wpAnyM P ops W Φ e Q (fuelM ops e k l.length i) listed a F
 | [], i, listed, a, F, _, _, _, _, hB, h => by
  simp only [List.length_nil, lexM, Bool.and_eq_true, decide_eq_true_eq] at hB
  obtain ⟨rfl, hB⟩ := hB
  simp only [List.length_nil, fuelM]
  simp only [Chk, Zed] at h
  by_cases he : e < ops.size
  ·rw [if_pos he] at hB
   simp only [he, if_true]
   simp only [Bool.and_eq_true, decide_eq_true_eq] at hB
   obtain ⟨h1, h2⟩ := hB
   refine ⟨fun h0 => (by rw [h1] at h0; cases h0), fun j hj => ?_⟩
   rw [h1] at hj
   obtain rfl : j = e := by simpa using hj
   have ho : ops[j]? = some ops[j] := Array.getElem?_eq_getElem he
   have hw : Region.wanted ops[j] (yielded ops a.tmps) = true := by simp [Region.wanted, hg _ ho]
   unfold mOp
   simp only [ho, hw, if_true]
   intro w hW hF
   have h3 := h w hW hF
   rw [ho] at h3
   simp only [Option.toList_some, List.singleton_append] at h3
   have h4 : wpOp P ops (Qo Q) j (wpList P ops (Qo Q) (ops.toList.drop i)) a w.1 := by unfold wpOp; simp only [ho]; exact h3
   have hlen : (ops.toList.drop i).length = ops.size - i := by simp
   refine wpOp_mono (fun a' w' h' => ?_) h4
   have := wpAny_of_seq (md := .any) (ops.toList.drop i) i (listed.setIfInBounds j true) a' w' (fun j => by simp [List.getElem?_drop]) (by rw [hlen]; exact h2) h'
   rwa [hlen] at this
  ·rw [if_neg he] at hB
   simp only [he, if_false]
   simp only [Bool.and_eq_true, decide_eq_true_eq, List.isEmpty_iff] at hB
   obtain ⟨h1, rfl⟩ := hB
   refine ⟨h1, fun w hW hF => ?_⟩
   have h3 := h w hW hF
   rw [Array.getElem?_eq_none (by omega)] at h3
   rw [List.drop_eq_nil_of_le (by simp)] at h3
   simpa [wpList, Qo] using h3
 | o :: l, i, listed, a, F, hl, hcl, hS, hc, hB, h => by
  have h0 : ops[i]? = some o := by simpa using (hl 0 (by simp)).symm
  have hl' : ∀ j, j < l.length → l[j]? = ops[i + 1 + j]? := fun j hj => by
   have := hl (j + 1) (by simp; omega); simpa [Nat.add_assoc, Nat.add_comm 1 j] using this
  simp only [List.length_cons, lexM] at hB
  simp only [List.length_cons, fuelM]
  unfold Chk at h
  by_cases hie : i = e
  ·rw [if_pos hie] at hB h ⊢
   exact M_lex hI hA hsel hearly hg l (i + 1) listed a F hl' hcl hS hc hB h
  ·rw [if_neg hie] at hB h ⊢
   simp only [Bool.and_eq_true] at hB
   obtain ⟨⟨hr, hf⟩, hB'⟩ := hB
   have hr' : i ∈ Region.ready .any ops listed := by simpa using hr
   have hsp := Region.free_spec h0 hf
   have hcl' := hcl.set hr'
   by_cases hw : Region.wanted o (yielded ops a.tmps) = true
   ·rw [if_pos hw] at h
    cases hφ : Φ i with
    | none =>
     simp only [hφ] at h
     obtain ⟨x, hx, hk⟩ := h
     exact M_firstP hI hA h0 (Region.noSelect_spec hsel) hie _ listed a F hsp hcl hr' (.inl ⟨hw, hφ, hx⟩) (M_lex hI hA hsel hearly hg l (i + 1) _ _ F hl' hcl' hS hc hB' hk)
    | some φ =>
     simp only [hφ] at h
     obtain ⟨hv, hk⟩ := h
     refine M_firstM hI hA h0 (Region.noSelect_spec hsel) hie hφ (hearly i φ hφ hie) _ listed a F rfl hsp hcl hr' hS hc hw hv fun u ⟨w, hW, hF, hu⟩ => ?_
     refine M_lex hI hA hsel hearly hg l (i + 1) _ _ _ hl' hcl' (fun k w w' hE ⟨p1, p2⟩ => ⟨hS k w w' hE p1, fun hki => (φ.at a).st u w w' hE (p2 hki)⟩) ⟨w, hW, upd_all.2 ⟨hF, hu⟩⟩ hB' (hk u ⟨w, hW, hu⟩)
   ·rw [if_neg hw] at h
    have hw' : Region.wanted o (yielded ops a.tmps) = false := by simpa using hw
    exact M_firstP hI hA h0 (Region.noSelect_spec hsel) hie _ listed a F hsp hcl hr' (.inr ⟨hw', rfl⟩) (M_lex hI hA hsel hearly hg l (i + 1) _ _ F hl' hcl' hS hc hB' h)
def ancB (ops : Array Oper) : Bool :=
 (List.range ops.size).all fun i =>
  decide ((Region.before ops).getD i 0 < 2 ^ i) &&
  (List.range i).all fun k => !((Region.before ops).getD i 0).testBit k ||
   ((ops[i]?).map fun o => o.after.any fun d => Region.binds .any d && decide (d.on < i) && (d.on == k || ((Region.before ops).getD d.on 0).testBit k)).getD false
theorem ancB_size (ops : Array Oper) : (Region.before ops).size = ops.size := by
 unfold Region.before
 refine Array.foldl_induction (motive := fun i (acc : Array Nat) => acc.size = i) rfl ?_
 intro i acc h
 simp [h]
theorem AncOk.of (h : ancB ops = true) : AncOk ops := by
 intro i k ha
 unfold anc at ha
 by_cases hi : i < ops.size
 ·simp only [ancB, List.all_eq_true, List.mem_range, Bool.and_eq_true, decide_eq_true_eq] at h
  obtain ⟨h1, h2⟩ := h i hi
  have hk : k < i := by
   rcases Nat.lt_or_ge k i with hk | hk
   ·exact hk
   ·exfalso
    have := Nat.testBit_lt_two_pow (Nat.lt_of_lt_of_le h1 (Nat.pow_le_pow_right (by omega) hk))
    rw [this] at ha; cases ha
  have h3 := h2 k hk
  rw [ha] at h3
  have ho : ops[i]? = some ops[i] := Array.getElem?_eq_getElem hi
  simp only [ho, Bool.not_true, Bool.false_or, Option.map_some, Option.getD_some] at h3
  obtain ⟨d, hd, hh⟩ := Array.any_eq_true'.1 h3
  simp only [Bool.and_eq_true, decide_eq_true_eq, Bool.or_eq_true, beq_iff_eq] at hh
  exact ⟨_, ho, d, hd, hh.1.1, hh.1.2, hh.2⟩
 ·rw [Array.getD_eq_getD_getElem?, Array.getElem?_eq_none (by rw [ancB_size]; omega)] at ha
  simp at ha
def monoB (ops : Array Oper) (e k : Nat) (Φ : List (Option SPd)) : Bool :=
 ((List.range Φ.length).all fun i => (match Φ[i]? with | some (some φ) => φ.ts.all fun t => (List.range ops.size).all fun j => (match ops[j]? with | some o => !(match o.dst with | some d => d == t | none => false) || anc ops i j | none => true) | _ => true)) &&
 Region.noSelect ops && ancB ops && (match ops[e]? with | some o => o.guard.isNone | none => true) &&
 ((List.range Φ.length).all fun i => (match Φ[i]? with | some (some _) => early ops e i || i == e | _ => true)) &&
 lexM ops e k k 0 (Array.replicate ops.size false) && decide (fuelM ops e k k 0 = ops.size) && decide (k ≤ ops.size)
theorem Ind.of {Φ : List (Option SPd)} (h : ((List.range Φ.length).all fun i => (match Φ[i]? with | some (some φ) => φ.ts.all fun t => (List.range ops.size).all fun j => (match ops[j]? with | some o => !(match o.dst with | some d => d == t | none => false) || anc ops i j | none => true) | _ => true)) = true) :
  Ind ops fun i => (Φ[i]?).getD none := by
 intro i φ hφ j oj hoj hij a x
 have hi : i < Φ.length := by
  rcases Nat.lt_or_ge i Φ.length with hi | hi
  ·exact hi
  ·simp only [List.getElem?_eq_none hi] at hφ; cases hφ
 have h1 := List.all_eq_true.1 h i (List.mem_range.2 hi)
 have hq : Φ[i]? = some (some φ) := by
  cases hh : Φ[i]? with
  | none => simp only [hh] at hφ; cases hφ
  | some y => simp only [hh, Option.getD_some] at hφ; rw [hφ]
 rw [hq] at h1
 refine SPd.at_put fun t ht hm => ?_
 have h2 := List.all_eq_true.1 h1 t hm
 have h3 := List.all_eq_true.1 h2 j (List.mem_range.2 (Array.getElem?_eq_some_iff.1 hoj).1)
 rw [hoj] at h3
 simp only [ht, hij, beq_self_eq_true, Bool.not_true, Bool.or_self] at h3
 cases h3
structure LogOk (w : World) (s : SW) : Prop where
 bd : ∀ x ∈ s.2, w.heap.size ≤ x.2.1 ∧ x.2.2 ≤ s.1.heap.size
 pw : s.2.Pairwise fun x y => y.2.2 ≤ x.2.1
def WL (w : World) (s : SW) : Prop := Ext w s.1 ∧ LogOk w s
theorem WL.push {w w' : World} {s : SW} (i : Nat) (h : WL w s) (hE : Ext s.1 w') : WL w (push i s w') := by
 obtain ⟨h1, h2, h3⟩ := h
 refine ⟨Ext.tr h1 hE, fun x hx => ?_, ?_⟩
 ·simp only [L.push, List.mem_cons] at hx
  rcases hx with rfl | hx
  ·exact ⟨h1.size, Nat.le_refl _⟩
  ·exact ⟨(h2 x hx).1, Nat.le_trans (h2 x hx).2 hE.size⟩
 ·simp only [L.push, List.pairwise_cons]
  exact ⟨fun y hy => (h2 y hy).2, h3⟩
theorem wpAny_mono {Q : Exit → Act → World → Prop} {a : Act} {w : World} {l : List Oper} (e k : Nat) (Φ : List (Option SPd))
  (hB : monoB l.toArray e k Φ = true)
  (h : Chk P l.toArray (WL w) (fun i => (Φ[i]?).getD none) e (Zed P l.toArray (WL w) e k Q) (l.take k) 0 a (fun _ _ => True)) : wpAny P .any l.toArray (Qo Q) l.toArray.size (Array.replicate l.toArray.size false) a { w with drawn := w.drawn + 1 } := by
 simp only [monoB, Bool.and_eq_true, decide_eq_true_eq] at hB
 obtain ⟨⟨⟨⟨⟨⟨⟨hi0, h1⟩, h2⟩, h3⟩, h4⟩, h5⟩, h6⟩, h7⟩ := hB
 have h7' : k ≤ l.length := by simpa using h7
 have hl : (l.take k).length = k := by simp; omega
 have h0 : WL w (w, []) := ⟨Ext.rfl' w, (fun x hx => by cases hx), .nil⟩
 have key := M_lex (P := P) (ops := l.toArray) (W := WL w) (Φ := fun i => (Φ[i]?).getD none) (e := e) (Q := Q) (k := k) (Ind.of hi0) (AncOk.of h2) h1
  (fun i φ hφ hie => by
   simp only [List.all_eq_true, List.mem_range] at h4
   have hi : i < Φ.length := by
    rcases Nat.lt_or_ge i Φ.length with hi | hi
    ·exact hi
    ·rw [List.getElem?_eq_none hi] at hφ; cases hφ
   have := h4 i hi
   cases hh : Φ[i]? with
   | none => rw [hh] at hφ; cases hφ
   | some x =>
    cases x with
    | none => rw [hh] at hφ; cases hφ
    | some y =>
     rw [hh] at this
     simp only [Bool.or_eq_true, beq_iff_eq] at this
     exact this.resolve_right hie)
  (fun o ho => by rw [ho] at h3; simpa using h3)
  (l.take k) 0 (Array.replicate l.toArray.size false) a (fun _ _ => True)
  (fun j hj => by rw [hl] at hj; simp [hj])
  (fun i o ho hli => by rw [getD_replicate_false] at hli; cases hli)
  (fun _ _ _ _ _ => trivial) ⟨(w, []), h0, fun _ => trivial⟩ (by rw [hl]; exact h5) h
 rw [hl, h6] at key
 have hw : Ext w { w with drawn := w.drawn + 1 } := ⟨rfl, rfl, rfl, Nat.le_refl _, fun _ _ => rfl⟩
 exact wpAny_of_M _ _ a (fun _ _ => True) ({ w with drawn := w.drawn + 1 }, []) (fun _ _ _ _ _ => trivial) ⟨hw, (fun x hx => by cases hx), .nil⟩ (fun _ => trivial) key
theorem wp_region_mono {id : Nat} {Q : Exit → Act → World → Prop} {a : Act} {w : World} {l : List Oper} (e k : Nat) (Φ : List (Option SPd)) (hm : P.follows .mixedOrders = true)
  (hB : monoB l.toArray e k Φ = true)
  (h : Chk P l.toArray (WL w) (fun i => (Φ[i]?).getD none) e (Zed P l.toArray (WL w) e k Q) (l.take k) 0 a (fun _ _ => True)) : (Code.region id l.toArray true).wp P Q a w :=
 wp_mono (Q := Qo Q) (wp_region_any hm (wpAny_mono e k Φ hB h)) fun x a w hx => by
  cases x <;> first | exact hx | exact hx.elim
end
end Go.Own.L

namespace Go.Own
open Go Go.RowKit
def SPc (C : Value → List HP → Prop) (i : Nat) : L.SP where
 p s u := ∃ l' ws we, C u l' ∧ (i, ws.heap.size, we.heap.size) ∈ s.2 ∧ St ws NoX l' we ∧ Ext we s.1
 st := fun _ _ _ hle ⟨l', ws, we, h1, h2, h3, h4⟩ => ⟨l', ws, we, h1, by obtain ⟨p, hp⟩ := hle.log; rw [hp]; exact List.mem_append_right _ h2, h3, Ext.tr h4 hle.e⟩
abbrev SPv (ts : List Tmp) (C : List Value → Value → List HP → Prop) (i : Nat) : L.SPd := ⟨ts, fun vs => SPc (C vs) i⟩
structure StJ (wr w0 : World) (X : Nat → Prop) (l : List HP) (s : L.SW) (J : List Nat) : Prop where
 ext : ExtX X w0 s.1
 le : w0.heap.size ≤ wr.heap.size
 sat : ∃ fs : Nat → Nat → Prop, (∀ (i : Nat) (c : HP), l[i]? = some c → c.p s.1 (fs i)) ∧ (∀ i b, fs i b → i < l.length ∧ (w0.heap.size ≤ b ∨ X b) ∧ b < s.1.heap.size) ∧ (∀ i j b, fs i b → fs j b → i = j) ∧
  ∀ i b, fs i b → b < wr.heap.size ∨ ∃ m ∈ J, ∃ x y, (m, x, y) ∈ s.2 ∧ x ≤ b ∧ b < y
theorem StJ.start {wr w0 : World} {X : Nat → Prop} {l : List HP} {s : L.SW} (h : St w0 X l wr) (hE : Ext wr s.1) : StJ wr w0 X l s [] := by
 obtain ⟨he, fs, h1, h2, h3⟩ := h
 exact ⟨he.tr (ExtX.of hE NoX) fun q hq => hq.elim, he.size, fs, fun i c hc => c.loc (h1 i c hc) (fun b hb => (h2 i b hb).2.2) fun b hb => hE.block b (h2 i b hb).2.2,
  fun i b hb => let ⟨a, b', c⟩ := h2 i b hb; ⟨a, b', Nat.lt_of_lt_of_le c hE.size⟩, h3, fun i b hb => .inl (h2 i b hb).2.2⟩
theorem StJ.st {wr w0 : World} {X : Nat → Prop} {l : List HP} {s : L.SW} {J : List Nat} (h : StJ wr w0 X l s J) : St w0 X l s.1 :=
 let ⟨he, _, fs, h1, h2, h3, _⟩ := h; ⟨he, fs, h1, h2, h3⟩
theorem pw_mem {R : Nat × Nat × Nat → Nat × Nat × Nat → Prop} {l : List (Nat × Nat × Nat)} (h : l.Pairwise R) {x y : Nat × Nat × Nat} (hx : x ∈ l) (hy : y ∈ l) (hne : x ≠ y) : R x y ∨ R y x := by
 induction h with
 | nil => cases hx
 | cons ha _ ih =>
  simp only [List.mem_cons] at hx hy
  rcases hx with rfl | hx <;> rcases hy with rfl | hy
  ·exact absurd rfl hne
  ·exact .inl (ha _ hy)
  ·exact .inr (ha _ hx)
  ·exact ih hx hy
theorem StJ.add {wr w0 ws we : World} {X : Nat → Prop} {l l' : List HP} {s : L.SW} {J : List Nat} {i : Nat} (h : StJ wr w0 X l s J) (hL : L.LogOk wr s) (hi : J.contains i = false) (hm : (i, ws.heap.size, we.heap.size) ∈ s.2)
  (k : St ws NoX l' we) (hE : Ext we s.1) : StJ wr w0 X (l' ++ l) s (i :: J) := by
 obtain ⟨he, hle, fs, h1, h2, h3, h4⟩ := h
 obtain ⟨ke, gs, k1, k2, k3⟩ := k
 have hi' : i ∉ J := by simpa using hi
 have hws := (hL.bd _ hm).1
 simp only at hws
 have key : ∀ j m b, gs j b → fs m b → False := fun j m b hj hm' => by
  obtain ⟨_, q, q'⟩ := k2 j b hj
  have q : ws.heap.size ≤ b := q.elim id fun x => x.elim
  rcases h4 m b hm' with r | ⟨n, hn, x, y, hxy, hb1, hb2⟩
  ·omega
  ·have hne : (i, ws.heap.size, we.heap.size) ≠ (n, x, y) := fun e => hi' (by have := congrArg Prod.fst e; simp only at this; rw [this]; exact hn)
   rcases pw_mem hL.pw hm hxy hne with r | r
   ·simp only at r; omega
   ·simp only at r; omega
 refine ⟨he, hle, fun j b => if j < l'.length then gs j b else fs (j - l'.length) b, fun j d hd => ?_, fun j b hb => ?_, fun j m b hj hm => ?_, fun j b hb => ?_⟩
 ·by_cases hj : j < l'.length
  ·rw [List.getElem?_append_left hj] at hd
   have e : (fun b => if j < l'.length then gs j b else fs (j - l'.length) b) = gs j := by funext b; simp [hj]
   exact HP.eq_p e <| d.loc (k1 j d hd) (fun b hb => (k2 j b hb).2.2) fun b hb => hE.block b (k2 j b hb).2.2
  ·rw [List.getElem?_append_right (by omega)] at hd
   have e : (fun b => if j < l'.length then gs j b else fs (j - l'.length) b) = fs (j - l'.length) := by funext b; simp [hj]
   exact HP.eq_p e <| h1 _ d hd
 ·by_cases hj : j < l'.length
  ·simp only [hj, if_true] at hb
   obtain ⟨a, b', c⟩ := k2 j b hb
   have b' : ws.heap.size ≤ b := b'.elim id fun x => x.elim
   exact ⟨by simp; omega, .inl (by omega), Nat.lt_of_lt_of_le c hE.size⟩
  ·simp only [hj, if_false] at hb
   obtain ⟨a, b', c⟩ := h2 _ b hb
   exact ⟨by simp; omega, b', c⟩
 ·by_cases hj' : j < l'.length <;> by_cases hm' : m < l'.length
  ·simp only [hj', hm', if_true] at hj hm; exact k3 j m b hj hm
  ·simp only [hj', hm', if_true, if_false] at hj hm; exact (key j _ b hj hm).elim
  ·simp only [hj', hm', if_true, if_false] at hj hm; exact (key m _ b hm hj).elim
  ·simp only [hj', hm', if_false] at hj hm
   have := h3 _ _ b hj hm
   omega
 ·by_cases hj : j < l'.length
  ·simp only [hj, if_true] at hb
   obtain ⟨_, q, q'⟩ := k2 j b hb
   have q : ws.heap.size ≤ b := q.elim id fun x => x.elim
   exact .inr ⟨i, by simp, _, _, hm, q, q'⟩
  ·simp only [hj, if_false] at hb
   rcases h4 _ b hb with r | ⟨n, hn, r⟩
   ·exact .inl r
   ·exact .inr ⟨n, by simp [hn], r⟩
section
variable {P : Program} {ops : Array Oper} {w0 : World} {Φ : Nat → Option L.SPd} {e : Nat} {Z : Act → (Nat → L.SW → Prop) → Prop} {l : List Oper} {o : Oper} {i : Nat} {A A' : Act} {F : Nat → L.SW → Prop} {d : Tmp} {v : Value} {x y : Operand}
structure DK (P : Program) (ops : Array Oper) (w0 : World) (Φ : Nat → Option L.SPd) (e : Nat) (Z : Act → (Nat → L.SW → Prop) → Prop) (l : List Oper) (i : Nat) (A : Act) (F : Nat → L.SW → Prop) : Prop where
 out : L.Chk P ops (L.WL w0) Φ e Z l i A F
theorem D_eff (he : i = e) (h : DK P ops w0 Φ e Z l (i + 1) A F) : DK P ops w0 Φ e Z (o :: l) i A F := ⟨by unfold L.Chk; rw [if_pos he]; exact h.out⟩
theorem D_pure (hd : A.put o.dst v = A') (hw : Region.wanted o (yielded ops A.tmps) = true) (hx : ∀ s : L.SW, (L.early ops e i = true → L.WL w0 s ∧ L.ancF ops i F s) → ValW P A o s.1 v) (he : (i == e) = false) (hΦ : Φ i = none)
  (h : DK P ops w0 Φ e Z l (i + 1) A' F) : DK P ops w0 Φ e Z (o :: l) i A F := by
 refine ⟨?_⟩
 unfold L.Chk; rw [if_neg (by simpa using he), if_pos hw]; simp only [hΦ]
 exact ⟨v, fun s hs => ex_ev (hx s hs), by rw [hd]; exact h.out⟩
theorem D_v (hd : o.dst = some d) (hw : Region.wanted o (yielded ops A.tmps) = true) (hx : Val P A o v) (he : (i == e) = false) (hΦ : Φ i = none) (h : DK P ops w0 Φ e Z l (i + 1) (PT A d v) F) : DK P ops w0 Φ e Z (o :: l) i A F :=
 D_pure (A' := PT A d v) (by rw [hd]; rfl) hw (fun s _ => hx s.1) he hΦ h
theorem D_r (hd : o.dst = some d) (hw : Region.wanted o (yielded ops A.tmps) = true) (hE : L.early ops e i = true) (hx : ∀ s : L.SW, Ext w0 s.1 → L.ancF ops i F s → ValW P A o s.1 v) (he : (i == e) = false) (hΦ : Φ i = none)
  (h : DK P ops w0 Φ e Z l (i + 1) (PT A d v) F) : DK P ops w0 Φ e Z (o :: l) i A F :=
 D_pure (A' := PT A d v) (by rw [hd]; rfl) hw (fun s hs => hx s (hs hE).1.1 (hs hE).2) he hΦ h
theorem D_off (hd : o.dst = some d) (hw : Region.wanted o (yielded ops A.tmps) = false) (he : (i == e) = false) (h : DK P ops w0 Φ e Z l (i + 1) (PT A d undef) F) : DK P ops w0 Φ e Z (o :: l) i A F := by
 refine ⟨?_⟩
 unfold L.Chk; rw [if_neg (by simpa using he), if_neg (by rw [hw]; exact Bool.false_ne_true), hd]; exact h.out
theorem D_split {p : Prop} [Decidable p] (hd : o.dst = some d) (hw : Region.wanted o (yielded ops A.tmps) = true) (hx : Val P A o (.bool (decide p))) (he : (i == e) = false) (hΦ : Φ i = none)
  (ht : p → DK P ops w0 Φ e Z l (i + 1) (PT A d (.bool true)) F) (hf : ¬ p → DK P ops w0 Φ e Z l (i + 1) (PT A d (.bool false)) F) : DK P ops w0 Φ e Z (o :: l) i A F := by
 refine D_v hd hw hx he hΦ ?_
 by_cases h : p
 ·rw [decide_eq_true h]; exact ht h
 ·rw [decide_eq_false h]; exact hf h
theorem D_splitB {c : Bool} (hd : o.dst = some d) (hw : Region.wanted o (yielded ops A.tmps) = true) (hx : Val P A o (.bool c)) (he : (i == e) = false) (hΦ : Φ i = none)
  (ht : c = true → DK P ops w0 Φ e Z l (i + 1) (PT A d (.bool true)) F) (hf : c = false → DK P ops w0 Φ e Z l (i + 1) (PT A d (.bool false)) F) : DK P ops w0 Φ e Z (o :: l) i A F := by
 refine D_v hd hw hx he hΦ ?_
 cases c
 ·exact hf rfl
 ·exact ht rfl
theorem D_new {ts : List Tmp} {vs : List Value} {C0 : List Value → Value → List HP → Prop} {C : Value → List HP → Prop} (hd : o.dst = some d) (hw : Region.wanted o (yielded ops A.tmps) = true) (he : (i == e) = false) (hΦ : Φ i = some (SPv ts C0 i)) (hts : ts.map (fun t => EV A (.tmp t)) = vs) (hC : C0 vs = C)
  (hx : ∀ s : L.SW, Ext w0 s.1 → L.ancF ops i F s → wpU P o A s.1 fun u w' => ∃ l', C u l' ∧ St s.1 NoX l' w')
  (h : ∀ u l', C u l' → DK P ops w0 Φ e Z l (i + 1) (PT A d u) (L.upd F i fun s => (SPc C i).p s u)) : DK P ops w0 Φ e Z (o :: l) i A F := by
 refine ⟨?_⟩
 have hat : (SPv ts C0 i).at A = SPc C i := by rw [← hC, ← hts]; rfl
 unfold L.Chk; rw [if_neg (by simpa using he), if_pos hw]; simp only [hΦ, hat]
 refine ⟨fun s hs hF => wpU_mono (fun u w' ⟨l', h1, h2⟩ => ?_) (hx s hs.1 hF), fun u ⟨s, hs, l', _, _, hC, _⟩ => by rw [hd]; exact (h u l' hC).out⟩
 exact ⟨hs.push i h2.e, h2.e, l', s.1, w', h1, by simp [L.push], h2, Ext.rfl' _⟩
theorem D_call {ts : List Tmp} {vs : List Value} {C0 : List Value → Value → List HP → Prop} {C : Value → List HP → Prop} {f : FuncId} {fn : Func} {xs : Array Operand} {ats : Array TypeId} {args : Array Value} (hd : o.dst = some d) (hw : Region.wanted o (yielded ops A.tmps) = true)
  (ho : o.op = .call { callee := .value (.func f), args := xs, argTypes := ats }) (hf : P.funcs[f]? = some fn)
  (hn : (fn.name == "runtime.NumGoroutine") = false) (hb : fn.body.isNone = false) (ha : xs.map (EV A) = args) (he : (i == e) = false) (hΦ : Φ i = some (SPv ts C0 i)) (hts : ts.map (fun t => EV A (.tmp t)) = vs) (hC : C0 vs = C)
  (hx : ∀ s : L.SW, Ext w0 s.1 → L.ancF ops i F s → Calls P f args s.1 fun e w' => ∃ v, e = .returned v ∧ ∃ l', C v l' ∧ St s.1 NoX l' w')
  (h : ∀ u l', C u l' → DK P ops w0 Φ e Z l (i + 1) (PT A d u) (L.upd F i fun s => (SPc C i).p s u)) : DK P ops w0 Φ e Z (o :: l) i A F := by
 refine D_new hd hw he hΦ hts hC (fun s hs hF => ?_) h
 unfold wpU
 rw [ex_ev (run_call ho hf hn hb ha s.1)]
 exact (hx s hs hF).mono fun e w' ⟨v, he, hl⟩ => by subst he; exact hl
theorem D_lay {ts : List Tmp} {vs : List Value} {C0 : List Value → Value → List HP → Prop} {C : Value → List HP → Prop} (hd : o.dst = some d) (hw : Region.wanted o (yielded ops A.tmps) = true) (he : (i == e) = false) (hΦ : Φ i = some (SPv ts C0 i)) (hts : ts.map (fun t => EV A (.tmp t)) = vs) (hC : C0 vs = C)
  (hx : ∀ s : L.SW, Ext w0 s.1 → L.ancF ops i F s → ∃ u w', (execOp (EV A) o).run P s.1 = .ok (.value u) w' ∧ ∃ l', C u l' ∧ St s.1 NoX l' w')
  (h : ∀ u l', C u l' → DK P ops w0 Φ e Z l (i + 1) (PT A d u) (L.upd F i fun s => (SPc C i).p s u)) : DK P ops w0 Φ e Z (o :: l) i A F := by
 refine D_new hd hw he hΦ hts hC (fun s hs hF => ?_) h
 obtain ⟨u, w', hr, hl⟩ := hx s hs hF
 unfold wpU
 rw [ex_ev hr]
 exact hl
theorem region_monoS {id : Nat} {Q : Exit → Act → World → Prop} {w : World} {l : List Oper} (e k : Nat) (Φ : List (Option L.SPd)) (hm : P.follows .mixedOrders = true) (hB : L.monoB l.toArray e k Φ = true)
  (h : DK P l.toArray w (fun i => (Φ[i]?).getD none) e (L.Zed P l.toArray (L.WL w) e k Q) (l.take k) 0 A (fun _ _ => True)) : (Code.region id l.toArray true).wp P Q A w := L.wp_region_mono e k Φ hm hB h.out
theorem R_monoS {r : Option Nat} {id : Nat} {Q : Exit → Act → World → Prop} {w : World} {l : List Oper} (hn : noDef l = true) (e k : Nat) (Φ : List (Option L.SPd)) (hm : P.follows .mixedOrders = true) (hB : L.monoB l.toArray e k Φ = true)
  (h : DK P l.toArray w (fun i => (Φ[i]?).getD none) e (L.Zed P l.toArray (L.WL w) e k Q) (l.take k) 0 A (fun _ _ => True)) : wpR r P (Code.region id l.toArray true) Q A w :=
 wpIn_mono (Q := Qo Q) (wpIn_region_any hm (wpAny_up Qo_in hn _ _ _ _ (L.wpAny_mono e k Φ hB h.out))) fun _ _ _ h => Qo_mono h
theorem ZS_eff {k : Nat} {Q : Exit → Act → World → Prop} {wb : World} {X : Nat → Prop} {cs : List HP} (hS : St wb X cs w0) (he : ops[e]? = some o) (hk : ops.toList.drop k = l)
  (h : ∀ s : L.SW, StJ w0 wb X cs s [] → L.LogOk w0 s → (∀ k, F k s) → WX P ops (Qo Q) (o :: l) A s.1) : DK P ops w0 Φ e (L.Zed P ops (L.WL w0) e k Q) [] i A F :=
 ⟨fun s hs hF => by have := (h s (StJ.start hS hs.1) hs.2 hF).out; rw [he, hk]; exact this⟩
theorem ZS_none {k : Nat} {Q : Exit → Act → World → Prop} {wb : World} {X : Nat → Prop} {cs : List HP} (hS : St wb X cs w0) (he : ops.size ≤ e) (hk : ops.size ≤ k)
  (h : ∀ s : L.SW, StJ w0 wb X cs s [] → L.LogOk w0 s → (∀ k, F k s) → Q .normal A s.1) : DK P ops w0 Φ e (L.Zed P ops (L.WL w0) e k Q) [] i A F :=
 ⟨fun s hs hF => by
  rw [Array.getElem?_eq_none he, List.drop_eq_nil_of_le (by simpa using hk)]
  exact h s (StJ.start hS hs.1) hs.2 hF⟩
end
namespace L
section
variable {ops : Array Oper} {F : Nat → SW → Prop}
theorem ancF_get {i k : Nat} {f : SW → Prop} {w : SW} (h : ancF ops i (upd F k f) w) (hk : anc ops i k = true) : f w := (h k hk).2 rfl
theorem ancF_rest {i k : Nat} {f : SW → Prop} {w : SW} (h : ancF ops i (upd F k f) w) : ancF ops i F w := fun j hj => (h j hj).1
theorem all_get {k : Nat} {f : SW → Prop} {w : SW} (h : ∀ j, upd F k f j w) : f w := (h k).2 rfl
theorem all_rest {k : Nat} {f : SW → Prop} {w : SW} (h : ∀ j, upd F k f j w) : ∀ j, F j w := fun j => (h j).1
end
end L
end Go.Own
namespace Go.Own
open Go Go.RowKit
section
variable {A : Act} {a b c d : Tmp} {x y z u : Value}
theorem ts1 (h1 : EV A (.tmp a) = x) : ([a] : List Tmp).map (fun t => EV A (.tmp t)) = [x] := by rw [List.map_cons, h1]; rfl
theorem ts2 (h1 : EV A (.tmp a) = x) (h2 : EV A (.tmp b) = y) : ([a, b] : List Tmp).map (fun t => EV A (.tmp t)) = [x, y] := by rw [List.map_cons, h1, ts1 h2]
end
end Go.Own
