import Derived.Orders
import Derived.Below
import Derived.StillTail
import Derived.WalkKit
import Derived.WalkSpells
import Derived.Laws.AppendOwnNone
import Derived.BigQuiet
namespace Go.Own
open Go Go.RowKit

/-- every block that was there is as it was. -/
abbrev Ext (w w' : World) : Prop := Below w.heap.size w w'

theorem Ext.rfl' (w : World) : Ext w w := Below.refl _ _
theorem Ext.tr {a b c : World} (h : Ext a b) (k : Ext b c) : Ext a c := Below.trans h (k.mono h.size)

/-- what holds of a world holds of what has grown out of it. -/
def Stable (f : World → Prop) : Prop := ∀ w w', Ext w w' → f w → f w'

/-- a stable fact of a value. -/
structure SP where
  p : World → Value → Prop
  st : ∀ u, Stable fun w => p w u

section
variable {P : Program} {ops : Array Oper}

/-- one operation: R of what its temporary gets and of the world. -/
def wpU (P : Program) (o : Oper) (a : Act) (w : World) (R : Value → World → Prop) : Prop :=
  match (execOp a.eval o).run P w with
  | .ok (.value v) w' => R v w'
  | .ok .skip w' => R undef w'
  | .ok (.enter f args) w' => Calls P f args w' fun e w'' => match e with | .returned v => R v w'' | _ => False
  | _ => False

theorem wpU_mono {o : Oper} {a : Act} {w : World} {R R' : Value → World → Prop} (hr : ∀ u w', R u w' → R' u w') (h : wpU P o a w R) : wpU P o a w R' := by
  unfold wpU at *
  split <;> simp_all
  exact h.mono fun e w'' he => by cases e <;> simp_all

theorem wpU_congr {o : Oper} {a b : Act} {w : World} {R : Value → World → Prop} (he : execOp a.eval o = execOp b.eval o) (h : wpU P o a w R) : wpU P o b w R := by
  unfold wpU at *
  rwa [← he]

theorem wpU_ex {o : Oper} {a : Act} {w : World} {R : Value → World → Prop} (h : wpU P o a w R) : ∃ u w', R u w' := by
  unfold wpU at h
  split at h
  · exact ⟨_, _, h⟩
  · exact ⟨_, _, h⟩
  · obtain ⟨e, w', fr, r, _⟩ := h []
    cases e with
    | returned v => exact ⟨_, _, r⟩
    | _ => exact r.elim
  · exact h.elim

theorem wpU_wp {o : Oper} {a : Act} {w : World} {R : Value → World → Prop} {K : Act → World → Prop} {Q : Exit → Act → World → Prop}
    (h : wpU P o a w R) (hk : ∀ u w', R u w' → K (a.put o.dst u) w') : o.wp P a w K Q := by
  unfold wpU at h
  unfold Oper.wp
  split at h
  · rename_i heq; rw [heq]; exact hk _ _ h
  · rename_i heq; rw [heq]; exact hk _ _ h
  · rename_i heq; rw [heq]
    exact h.mono fun e w'' he => by cases e <;> simp_all
  · exact h.elim

/-- only the normal end. -/
def Qo (Q : Exit → Act → World → Prop) : Exit → Act → World → Prop := fun x a w => match x with | .normal => Q .normal a w | _ => False

def upd (F : Nat → World → Prop) (i : Nat) (f : World → Prop) : Nat → World → Prop := fun k w => F k w ∧ (k = i → f w)

theorem upd_all {F : Nat → World → Prop} {i : Nat} {f : World → Prop} {w : World} : (∀ k, upd F i f k w) ↔ (∀ k, F k w) ∧ f w :=
  ⟨fun h => ⟨fun k => (h k).1, (h i).2 rfl⟩, fun h k => ⟨h.1 k, fun _ => h.2⟩⟩

theorem upd_comm (F : Nat → World → Prop) (i j : Nat) (f g : World → Prop) : upd (upd F i f) j g = upd (upd F j g) i f := by
  funext k w
  exact propext ⟨fun ⟨⟨a, b⟩, c⟩ => ⟨⟨a, c⟩, b⟩, fun ⟨⟨a, b⟩, c⟩ => ⟨⟨a, c⟩, b⟩⟩

/-- the operations that must have come up before number i. -/
def anc (ops : Array Oper) (i k : Nat) : Bool := ((Region.before ops).getD i 0).testBit k

def ancF (ops : Array Oper) (i : Nat) (F : Nat → World → Prop) (w : World) : Prop := ∀ k, anc ops i k = true → F k w

variable (P ops)
variable (W : World → Prop) (Φ : Nat → Option SP) (e : Nat) (Q : Exit → Act → World → Prop)

/-- may number i come up behind the effect? -/
def early (i : Nat) : Bool := decide (ops.size ≤ e) || anc ops e i

def pureV (i : Nat) (o : Oper) (a : Act) (F : Nat → World → Prop) (x : Value) : Prop :=
  ∀ w, (early ops e i = true → W w ∧ ancF ops i F w) → (execOp a.eval o).run P w = .ok (.value x) w

def monoV (i : Nat) (o : Oper) (a : Act) (F : Nat → World → Prop) (φ : SP) : Prop :=
  ∀ w, W w → ancF ops i F w → wpU P o a w fun u w' => W w' ∧ Ext w w' ∧ φ.p w' u

def mOp (i : Nat) (K : Act → (Nat → World → Prop) → Prop) (E : Act → World → Prop) (a : Act) (F : Nat → World → Prop) : Prop :=
  match ops[i]? with
  | none => K a F
  | some o =>
    if Region.wanted o (yielded ops a.tmps) then
      if i = e then ∀ w, W w → (∀ k, F k w) → wpOp P ops (Qo Q) i E a w
      else match Φ i with
        | none => ∃ x, pureV P ops W e i o a F x ∧ K (a.put o.dst x) F
        | some φ => monoV P ops W i o a F φ ∧ ∀ u, (∃ w, W w ∧ (∀ k, F k w) ∧ φ.p w u) → K (a.put o.dst u) (upd F i fun w => φ.p w u)
    else K (a.put o.dst undef) F

def Fin (a : Act) (F : Nat → World → Prop) : Prop := ∀ w, W w → (∀ k, F k w) → Q .normal a w

def wpAnyM : Nat → Array Bool → Act → (Nat → World → Prop) → Prop
  | 0, listed, a, F => Region.ready .any ops listed = [] ∧ Fin W Q a F
  | fuel + 1, listed, a, F =>
    (Region.ready .any ops listed = [] → Fin W Q a F) ∧
    ∀ i ∈ Region.ready .any ops listed, mOp P ops W Φ e Q i (wpAnyM fuel (listed.setIfInBounds i true)) (wpAny P .any ops (Qo Q) fuel (listed.setIfInBounds i true)) a F

variable {P ops W Φ e Q}

/-- what is proved of it serves in the run. -/
theorem wpAny_of_M : ∀ (fuel : Nat) (listed : Array Bool) (a : Act) (F : Nat → World → Prop) (w : World),
    (∀ k, Stable (F k)) → W w → (∀ k, F k w) → wpAnyM P ops W Φ e Q fuel listed a F → wpAny P .any ops (Qo Q) fuel listed a w
  | 0, _, _, _, w, _, hW, hF, h => ⟨h.1, h.2 w hW hF⟩
  | fuel + 1, listed, a, F, w, hS, hW, hF, h => by
    refine ⟨fun h0 => h.1 h0 w hW hF, fun i hi => ?_⟩
    have hm := h.2 i hi
    unfold mOp at hm
    unfold wpOp
    cases ho : ops[i]? with
    | none => simp only [ho] at hm ⊢; exact wpAny_of_M fuel _ _ _ w hS hW hF hm
    | some o =>
      simp only [ho] at hm ⊢
      by_cases hw : Region.wanted o (yielded ops a.tmps) = true
      · simp only [hw, if_true] at hm ⊢
        by_cases hie : i = e
        · simp only [hie, if_true] at hm
          have := hm w hW hF
          unfold wpOp at this
          rw [hie] at ho ⊢
          simp only [ho, hw, if_true] at this
          exact this
        · simp only [hie, if_false] at hm
          left
          cases hφ : Φ i with
          | none =>
            simp only [hφ] at hm
            obtain ⟨x, hx, hk⟩ := hm
            have hr := hx w fun _ => ⟨hW, fun k _ => hF k⟩
            unfold Oper.wp
            rw [hr]
            exact wpAny_of_M fuel _ _ _ w hS hW hF hk
          | some φ =>
            simp only [hφ] at hm
            obtain ⟨hv, hk⟩ := hm
            refine wpU_wp (hv w hW fun k _ => hF k) ?_
            rintro u w' ⟨hW', hE, hu⟩
            have hF' : ∀ k, F k w' := fun k => hS k w w' hE (hF k)
            refine wpAny_of_M fuel _ _ _ w' ?_ hW' (upd_all.2 ⟨hF', hu⟩) (hk u ⟨w', hW', hF', hu⟩)
            intro k x y hxy ⟨h1, h2⟩
            exact ⟨hS k x y hxy h1, fun hki => φ.st u x y hxy (h2 hki)⟩
      · simp only [hw] at hm ⊢
        exact wpAny_of_M fuel _ _ _ w hS hW hF hm

/-- the facts of ancestors do not turn by one that is none. -/
theorem ancF_upd {i j : Nat} {F : Nat → World → Prop} {f : World → Prop} {w : World} (h : anc ops j i = false) : ancF ops j (upd F i f) w ↔ ancF ops j F w := by
  constructor
  · intro hh k hk; exact (hh k hk).1
  · intro hh k hk; exact ⟨hh k hk, fun e => by rw [e, h] at hk; cases hk⟩

/-- what is listed has its ancestors listed. -/
theorem anc_listed (hB : ∀ i k, anc ops i k = true → ∃ o, ops[i]? = some o ∧ ∃ d ∈ o.after, Region.binds .any d = true ∧ d.on < i ∧ (d.on = k ∨ anc ops d.on k = true)) {listed : Array Bool}
    (hcl : ∀ i o, ops[i]? = some o → listed.getD i false = true → ∀ d ∈ o.after, Region.binds .any d = true → listed.getD d.on false = true) :
    ∀ (n i k : Nat), i ≤ n → (∀ o, ops[i]? = some o → ∀ d ∈ o.after, Region.binds .any d = true → listed.getD d.on false = true) → anc ops i k = true → listed.getD k false = true := by
  intro n
  induction n with
  | zero =>
    intro i k hi h ha
    obtain ⟨o, ho, d, hd, hb, hlt, _⟩ := hB i k ha
    omega
  | succ n ih =>
    intro i k hi h ha
    obtain ⟨o, ho, d, hd, hb, hlt, hor⟩ := hB i k ha
    have hl := h o ho d hd hb
    rcases hor with rfl | hor
    · exact hl
    · exact ih d.on k (by omega) (fun o' ho' => hcl d.on o' ho' hl) hor


/-- the listed are closed under the edges. -/
def Closed (ops : Array Oper) (listed : Array Bool) : Prop :=
  ∀ i o, ops[i]? = some o → listed.getD i false = true → ∀ d ∈ o.after, Region.binds .any d = true → listed.getD d.on false = true

/-- the table of ancestors is sound. -/
def AncOk (ops : Array Oper) : Prop :=
  ∀ i k, anc ops i k = true → ∃ o, ops[i]? = some o ∧ ∃ d ∈ o.after, Region.binds .any d = true ∧ d.on < i ∧ (d.on = k ∨ anc ops d.on k = true)

theorem Closed.set {listed : Array Bool} {i : Nat} (h : Closed ops listed) (hr : i ∈ Region.ready .any ops listed) : Closed ops (listed.setIfInBounds i true) := by
  intro j o ho hl d hd hb
  by_cases hij : i = j
  · subst hij
    obtain ⟨_, o', ho', hall⟩ := mem_ready.1 hr
    rw [ho] at ho'; cases ho'
    exact getD_set_true (hall d hd hb)
  · rw [getD_set_ne false hij] at hl
    exact getD_set_true (h j o ho hl d hd hb)

theorem not_anc (hA : AncOk ops) {listed : Array Bool} (hcl : Closed ops listed) {i j : Nat} (hi : i ∈ Region.ready .any ops listed) (hj : listed.getD j true = false) : anc ops i j = false := by
  cases hh : anc ops i j with
  | false => rfl
  | true =>
    obtain ⟨_, o, ho, hall⟩ := mem_ready.1 hi
    have := anc_listed hA hcl i i j (Nat.le_refl _) (fun o' ho' => by rw [ho] at ho'; cases ho'; exact hall) hh
    rcases Nat.lt_or_ge j listed.size with h' | h'
    · simp [h'] at this hj; rw [hj] at this; cases this
    · simp [Array.getElem?_eq_none h'] at this

/-- number i hands this on, whatever came before. -/
def YP (P : Program) (ops : Array Oper) (W : World → Prop) (Φ : Nat → Option SP) (e i : Nat) (o : Oper) (a : Act) (F : Nat → World → Prop) (x : Value) : Prop :=
  (Region.wanted o (yielded ops a.tmps) = true ∧ Φ i = none ∧ pureV P ops W e i o a F x) ∨ (Region.wanted o (yielded ops a.tmps) = false ∧ x = undef)

theorem YP.same {i : Nat} {o : Oper} {a b : Act} {F F' : Nat → World → Prop} {x : Value} (h : YP P ops W Φ e i o a F x) (he : execOp b.eval o = execOp a.eval o)
    (hw : Region.wanted o (yielded ops b.tmps) = Region.wanted o (yielded ops a.tmps)) (hF : ∀ w, ancF ops i F' w → ancF ops i F w) : YP P ops W Φ e i o b F' x := by
  unfold YP pureV at *
  rw [he, hw]
  rcases h with ⟨h1, h0, h2⟩ | h
  · exact .inl ⟨h1, h0, fun w hh => h2 w fun hh' => ⟨(hh hh').1, hF w (hh hh').2⟩⟩
  · exact .inr h

theorem M_firstP {i : Nat} {oi : Oper} {x : Value} (hA : AncOk ops) (hi : ops[i]? = some oi) (hsel : ∀ (j : Nat) (o : Oper) cs b, ops[j]? = some o → o.op ≠ .select cs b)
    (hie : i ≠ e) :
    ∀ (fuel : Nat) (listed : Array Bool) (a : Act) (F : Nat → World → Prop),
      (∀ j oj, ops[j]? = some oj → j ≠ i → listed.getD j true = false → (∀ d ∈ oj.after, Region.binds .any d = true → d.on ≠ i) → oi.apart ops oj = true) →
      Closed ops listed → i ∈ Region.ready .any ops listed → YP P ops W Φ e i oi a F x →
      wpAnyM P ops W Φ e Q fuel (listed.setIfInBounds i true) (a.put oi.dst x) F → wpAnyM P ops W Φ e Q (fuel + 1) listed a F := by
  intro fuel
  have own : ∀ fuel (listed : Array Bool) (a : Act) (F : Nat → World → Prop), YP P ops W Φ e i oi a F x → wpAnyM P ops W Φ e Q fuel (listed.setIfInBounds i true) (a.put oi.dst x) F →
      mOp P ops W Φ e Q i (wpAnyM P ops W Φ e Q fuel (listed.setIfInBounds i true)) (wpAny P .any ops (Qo Q) fuel (listed.setIfInBounds i true)) a F := by
    intro fuel listed a F hy H
    unfold mOp
    simp only [hi]
    rcases hy with ⟨hw, hn, hv⟩ | ⟨hw, rfl⟩
    · simp only [hw, if_true, if_neg hie, hn]; exact ⟨x, hv, H⟩
    · simp only [hw, Bool.false_eq_true, if_false]; exact H
  induction fuel with
  | zero =>
    intro listed a F _ _ hr hy H
    refine ⟨fun h => (by rw [h] at hr; cases hr), fun j hj => ?_⟩
    by_cases hji : j = i
    · subst hji; exact own 0 listed a F hy H
    · have := ready_mono hj hji
      rw [H.1] at this
      cases this
  | succ fuel ih =>
    intro listed a F hfree hcl hr hy H
    refine ⟨fun h => (by rw [h] at hr; cases hr), fun j hj => ?_⟩
    by_cases hji : j = i
    · subst hji; exact own (fuel + 1) listed a F hy H
    · have h1 := H.2 j (ready_mono hj hji)
      obtain ⟨hjun, oj, hoj, hall⟩ := mem_ready.1 hj
      have hiun := (mem_ready.1 hr).1
      have hnot : ∀ d ∈ oj.after, Region.binds .any d = true → d.on ≠ i := fun d hd hb heq => by
        have h1 := hall d hd hb
        rw [heq] at h1
        rcases Nat.lt_or_ge i listed.size with h' | h'
        · simp [h'] at hiun h1; rw [hiun] at h1; cases h1
        · simp [Array.getElem?_eq_none h'] at h1
      have hap := hfree j oj hoj hji hjun hnot
      obtain ⟨q1, q2, q3⟩ := Oper.apart_spec hap
      have hij : anc ops i j = false := not_anc hA hcl hr hjun
      have hji' : anc ops j i = false := not_anc hA hcl hj hiun
      have hfree' : ∀ k ok, ops[k]? = some ok → k ≠ i → (listed.setIfInBounds j true).getD k true = false →
          (∀ d ∈ ok.after, Region.binds .any d = true → d.on ≠ i) → oi.apart ops ok = true := fun k ok hk hki hun hno => by
        refine hfree k ok hk hki ?_ hno
        by_cases hjk : j = k
        · subst hjk; exact hjun
        · rw [getD_set_ne true hjk] at hun; exact hun
      have hcl' := hcl.set hj
      have hr' := ready_mono hr (Ne.symm hji)
      have hx : execOp (a.put oi.dst x).eval oj = execOp a.eval oj := execOp_put oj (fun cs b => hsel j oj cs b hoj) a oi.dst x q1
      have hwx : Region.wanted oj (yielded ops (a.put oi.dst x).tmps) = Region.wanted oj (yielded ops a.tmps) := wanted_put oj a oi.dst x q1
      have hy' : ∀ (F' : Nat → World → Prop) u, (∀ w, ancF ops i F' w → ancF ops i F w) → YP P ops W Φ e i oi (a.put oj.dst u) F' x := fun F' u hF' =>
        hy.same (execOp_put oi (fun cs b => hsel i oi cs b hi) a oj.dst u q3) (wanted_put oi a oj.dst u q3) hF'
      have comm : ∀ u, (a.put oi.dst x).put oj.dst u = (a.put oj.dst u).put oi.dst x := fun u => Act.put_comm a x u q2
      unfold mOp at h1 ⊢
      simp only [hoj, hwx] at h1 ⊢
      by_cases hwj : Region.wanted oj (yielded ops a.tmps) = true
      · simp only [hwj, if_true] at h1 ⊢
        by_cases hje : j = e
        · rw [if_pos hje] at h1 ⊢
          intro w hW hF
          have hE : early ops e i = false := by
            unfold early
            rw [← hje, hji']
            have := (Array.getElem?_eq_some_iff.1 hoj).1
            simp; omega
          have hyy : Yields P ops oi x a := by
            rcases hy with ⟨h, _, hv⟩ | h
            · exact .inl ⟨h, fun w => hv w fun hh => by rw [hE] at hh; cases hh⟩
            · exact .inr h
          have h2 := wpOp_put (Q := Qo Q) hoj hap (fun cs b => hsel i oi cs b hi) (fun cs b => hsel j oj cs b hoj) (fun c a w h => h.elim) hyy (h1 w hW hF)
          refine wpOp_mono (fun a' w' h3 => wpAny_first hi hsel (fun c a w h => h.elim) fuel (listed.setIfInBounds j true) a' w' hfree' hr' h3.1 ?_) h2
          rw [Array.setIfInBounds_comm _ _ hji]
          exact h3.2
        · rw [if_neg hje] at h1 ⊢
          cases hφ : Φ j with
          | none =>
            simp only [hφ] at h1 ⊢
            obtain ⟨y, hv, hk⟩ := h1
            refine ⟨y, by unfold pureV at *; rw [← hx]; exact hv, ih _ _ _ hfree' hcl' hr' (hy' F y fun _ h => h) ?_⟩
            rw [Array.setIfInBounds_comm _ _ hji, ← comm]
            exact hk
          | some φ =>
            simp only [hφ] at h1 ⊢
            obtain ⟨hv, hk⟩ := h1
            refine ⟨fun w hW hF => wpU_congr hx (hv w hW hF), fun u hu => ih _ _ _ hfree' hcl' hr' (hy' _ u fun w => (ancF_upd hij).1) ?_⟩
            rw [Array.setIfInBounds_comm _ _ hji, ← comm]
            exact hk u hu
      · simp only [hwj] at h1 ⊢
        refine ih _ _ _ hfree' hcl' hr' (hy' F undef fun _ h => h) ?_
        rw [Array.setIfInBounds_comm _ _ hji, ← comm]
        exact h1

theorem M_firstM {i : Nat} {oi : Oper} {φ : SP} (hA : AncOk ops) (hi : ops[i]? = some oi) (hsel : ∀ (j : Nat) (o : Oper) cs b, ops[j]? = some o → o.op ≠ .select cs b)
    (hie : i ≠ e) (hΦi : Φ i = some φ) (hearly : early ops e i = true) :
    ∀ (fuel : Nat) (listed : Array Bool) (a : Act) (F : Nat → World → Prop),
      (∀ j oj, ops[j]? = some oj → j ≠ i → listed.getD j true = false → (∀ d ∈ oj.after, Region.binds .any d = true → d.on ≠ i) → oi.apart ops oj = true) →
      Closed ops listed → i ∈ Region.ready .any ops listed → (∀ k, Stable (F k)) → (∃ w, W w ∧ ∀ k, F k w) →
      Region.wanted oi (yielded ops a.tmps) = true → monoV P ops W i oi a F φ →
      (∀ u, (∃ w, W w ∧ (∀ k, F k w) ∧ φ.p w u) → wpAnyM P ops W Φ e Q fuel (listed.setIfInBounds i true) (a.put oi.dst u) (upd F i fun w => φ.p w u)) → wpAnyM P ops W Φ e Q (fuel + 1) listed a F := by
  intro fuel
  have own : ∀ fuel (listed : Array Bool) (a : Act) (F : Nat → World → Prop), Region.wanted oi (yielded ops a.tmps) = true → monoV P ops W i oi a F φ →
      (∀ u, (∃ w, W w ∧ (∀ k, F k w) ∧ φ.p w u) → wpAnyM P ops W Φ e Q fuel (listed.setIfInBounds i true) (a.put oi.dst u) (upd F i fun w => φ.p w u)) →
      mOp P ops W Φ e Q i (wpAnyM P ops W Φ e Q fuel (listed.setIfInBounds i true)) (wpAny P .any ops (Qo Q) fuel (listed.setIfInBounds i true)) a F := by
    intro fuel listed a F hw hv H
    unfold mOp
    simp only [hi, hw, if_true, if_neg hie, hΦi]
    exact ⟨hv, H⟩
  have some_u : ∀ (a : Act) (F : Nat → World → Prop), (∀ k, Stable (F k)) → (∃ w, W w ∧ ∀ k, F k w) → monoV P ops W i oi a F φ → ∃ u w, W w ∧ (∀ k, F k w) ∧ φ.p w u := by
    rintro a F hS ⟨w, hW, hF⟩ hv
    obtain ⟨u, w', hW', hE, hu⟩ := wpU_ex (hv w hW fun k _ => hF k)
    exact ⟨u, w', hW', fun k => hS k w w' hE (hF k), hu⟩
  induction fuel with
  | zero =>
    intro listed a F _ _ hr hS hc hw hv H
    refine ⟨fun h => (by rw [h] at hr; cases hr), fun j hj => ?_⟩
    by_cases hji : j = i
    · subst hji; exact own 0 listed a F hw hv H
    · obtain ⟨u, hu⟩ := some_u a F hS hc hv
      have := ready_mono hj hji
      rw [(H u hu).1] at this
      cases this
  | succ fuel ih =>
    intro listed a F hfree hcl hr hS hc hw hv H
    refine ⟨fun h => (by rw [h] at hr; cases hr), fun j hj => ?_⟩
    by_cases hji : j = i
    · subst hji; exact own (fuel + 1) listed a F hw hv H
    · obtain ⟨u0, hu0⟩ := some_u a F hS hc hv
      obtain ⟨hjun, oj, hoj, hall⟩ := mem_ready.1 hj
      have hiun := (mem_ready.1 hr).1
      have hnot : ∀ d ∈ oj.after, Region.binds .any d = true → d.on ≠ i := fun d hd hb heq => by
        have h1 := hall d hd hb
        rw [heq] at h1
        rcases Nat.lt_or_ge i listed.size with h' | h'
        · simp [h'] at hiun h1; rw [hiun] at h1; cases h1
        · simp [Array.getElem?_eq_none h'] at h1
      have hap := hfree j oj hoj hji hjun hnot
      obtain ⟨q1, q2, q3⟩ := Oper.apart_spec hap
      have hij : anc ops i j = false := not_anc hA hcl hr hjun
      have hji' : anc ops j i = false := not_anc hA hcl hj hiun
      have hfree' : ∀ k ok, ops[k]? = some ok → k ≠ i → (listed.setIfInBounds j true).getD k true = false →
          (∀ d ∈ ok.after, Region.binds .any d = true → d.on ≠ i) → oi.apart ops ok = true := fun k ok hk hki hun hno => by
        refine hfree k ok hk hki ?_ hno
        by_cases hjk : j = k
        · subst hjk; exact hjun
        · rw [getD_set_ne true hjk] at hun; exact hun
      have hcl' := hcl.set hj
      have hr' := ready_mono hr (Ne.symm hji)
      have hx : ∀ x, execOp (a.put oi.dst x).eval oj = execOp a.eval oj := fun x => execOp_put oj (fun cs b => hsel j oj cs b hoj) a oi.dst x q1
      have hwx : ∀ x, Region.wanted oj (yielded ops (a.put oi.dst x).tmps) = Region.wanted oj (yielded ops a.tmps) := fun x => wanted_put oj a oi.dst x q1
      have hxi : ∀ y, execOp (a.put oj.dst y).eval oi = execOp a.eval oi := fun y => execOp_put oi (fun cs b => hsel i oi cs b hi) a oj.dst y q3
      have hwi : ∀ y, Region.wanted oi (yielded ops (a.put oj.dst y).tmps) = true := fun y => (wanted_put oi a oj.dst y q3).trans hw
      have hvi : ∀ (F' : Nat → World → Prop) y, (∀ w, ancF ops i F' w → ancF ops i F w) → monoV P ops W i oi (a.put oj.dst y) F' φ := fun F' y hF' w hW hF =>
        wpU_congr (hxi y).symm (hv w hW (hF' w hF))
      have comm : ∀ x u, (a.put oi.dst x).put oj.dst u = (a.put oj.dst u).put oi.dst x := fun x u => Act.put_comm a x u q2
      have h1 := fun u hu => (H u hu).2 j (ready_mono hj hji)
      unfold mOp at h1 ⊢
      simp only [hoj, hwx] at h1 ⊢
      by_cases hwj : Region.wanted oj (yielded ops a.tmps) = true
      · simp only [hwj, if_true] at h1 ⊢
        by_cases hje : j = e
        · exfalso
          unfold early at hearly
          rw [← hje, hji'] at hearly
          have := (Array.getElem?_eq_some_iff.1 hoj).1
          simp at hearly; omega
        · simp only [if_neg hje] at h1 ⊢
          cases hφ : Φ j with
          | none =>
            simp only [hφ] at h1 ⊢
            obtain ⟨y, hvy, hk0⟩ := h1 u0 hu0
            have hvy' : pureV P ops W e j oj a F y := by
              intro w hh
              have := hvy w fun hl => ⟨(hh hl).1, (ancF_upd hji').2 (hh hl).2⟩
              rwa [hx] at this
            refine ⟨y, hvy', ih _ _ _ hfree' hcl' hr' hS hc (hwi y) (hvi F y fun _ h => h) ?_⟩
            intro u hu
            obtain ⟨y', hvy2, hk⟩ := h1 u hu
            obtain ⟨w, hW, hF⟩ := hc
            have e1 := hvy' w fun _ => ⟨hW, fun k _ => hF k⟩
            have e2 := hvy2 w fun _ => ⟨hW, (ancF_upd hji').2 fun k _ => hF k⟩
            rw [hx, e1] at e2
            have hyy : y = y' := by simpa using e2
            subst hyy
            rw [Array.setIfInBounds_comm _ _ hji, ← comm]
            exact hk
          | some ψ =>
            simp only [hφ] at h1 ⊢
            refine ⟨fun w hW hF => wpU_congr (hx u0) ((h1 u0 hu0).1 w hW ((ancF_upd hji').2 hF)), fun y hy => ?_⟩
            have hS' : ∀ k, Stable (upd F j (fun w => ψ.p w y) k) := fun k w w' hE ⟨p1, p2⟩ => ⟨hS k w w' hE p1, fun hkj => ψ.st y w w' hE (p2 hkj)⟩
            obtain ⟨wy, hWy, hFy, hψy⟩ := hy
            refine ih _ _ _ hfree' hcl' hr' hS' ⟨wy, hWy, upd_all.2 ⟨hFy, hψy⟩⟩ (hwi y) (hvi _ y fun w => (ancF_upd hij).1) ?_
            rintro u ⟨w, hW, hF, hφu⟩
            obtain ⟨hF1, hF2⟩ := upd_all.1 hF
            rw [Array.setIfInBounds_comm _ _ hji, ← comm, upd_comm]
            exact (h1 u ⟨w, hW, hF1, hφu⟩).2 y ⟨w, hW, upd_all.2 ⟨hF1, hφu⟩, hF2⟩
      · simp only [hwj] at h1 ⊢
        refine ih _ _ _ hfree' hcl' hr' hS hc (hwi undef) (hvi F undef fun _ h => h) ?_
        intro u hu
        rw [Array.setIfInBounds_comm _ _ hji, ← comm]
        exact h1 u hu

/-- THE WALK: the text's order, the effect left for the end. -/
def Chk (P : Program) (ops : Array Oper) (W : World → Prop) (Φ : Nat → Option SP) (e : Nat) (Z : Act → (Nat → World → Prop) → Prop) : List Oper → Nat → Act → (Nat → World → Prop) → Prop
  | [], _, a, F => Z a F
  | o :: l, i, a, F =>
    if i = e then Chk P ops W Φ e Z l (i + 1) a F
    else if Region.wanted o (yielded ops a.tmps) then
      match Φ i with
      | none => ∃ x, pureV P ops W e i o a F x ∧ Chk P ops W Φ e Z l (i + 1) (a.put o.dst x) F
      | some φ => monoV P ops W i o a F φ ∧ ∀ u, (∃ w, W w ∧ φ.p w u) → Chk P ops W Φ e Z l (i + 1) (a.put o.dst u) (upd F i fun w => φ.p w u)
    else Chk P ops W Φ e Z l (i + 1) (a.put o.dst undef) F

def lexM (ops : Array Oper) (e k : Nat) : Nat → Nat → Array Bool → Bool
  | 0, i, listed => decide (i = k) && (if e < ops.size then decide (Region.ready .any ops listed = [e]) && Region.seqB .any ops (ops.size - k) k (listed.setIfInBounds e true)
      else (Region.ready .any ops listed).isEmpty && decide (k = ops.size))
  | f + 1, i, listed => if i = e then lexM ops e k f (i + 1) listed
      else (Region.ready .any ops listed).contains i && Region.free .any ops listed i && lexM ops e k f (i + 1) (listed.setIfInBounds i true)

def fuelM (ops : Array Oper) (e k : Nat) : Nat → Nat → Nat
  | 0, _ => if e < ops.size then (ops.size - k) + 1 else 0
  | f + 1, i => if i = e then fuelM ops e k f (i + 1) else fuelM ops e k f (i + 1) + 1

/-- what stands behind the walk. -/
def Zed (P : Program) (ops : Array Oper) (W : World → Prop) (e k : Nat) (Q : Exit → Act → World → Prop) (a : Act) (F : Nat → World → Prop) : Prop :=
  ∀ w, W w → (∀ k, F k w) → wpList P ops (Qo Q) ((ops[e]?).toList ++ ops.toList.drop k) a w

theorem M_lex {k : Nat} (hA : AncOk ops) (hsel : Region.noSelect ops = true) (hearly : ∀ i φ, Φ i = some φ → i ≠ e → early ops e i = true) (hg : ∀ o, ops[e]? = some o → o.guard = none) :
    ∀ (l : List Oper) (i : Nat) (listed : Array Bool) (a : Act) (F : Nat → World → Prop), (∀ j, j < l.length → l[j]? = ops[i + j]?) →
    Closed ops listed → (∀ k, Stable (F k)) → (∃ w, W w ∧ ∀ k, F k w) → lexM ops e k l.length i listed = true →
    Chk P ops W Φ e (Zed P ops W e k Q) l i a F → wpAnyM P ops W Φ e Q (fuelM ops e k l.length i) listed a F
  | [], i, listed, a, F, _, _, _, _, hB, h => by
    simp only [List.length_nil, lexM, Bool.and_eq_true, decide_eq_true_eq] at hB
    obtain ⟨rfl, hB⟩ := hB
    simp only [List.length_nil, fuelM]
    simp only [Chk, Zed] at h
    by_cases he : e < ops.size
    · rw [if_pos he] at hB
      simp only [he, if_true]
      simp only [Bool.and_eq_true, decide_eq_true_eq] at hB
      obtain ⟨h1, h2⟩ := hB
      refine ⟨fun h0 => (by rw [h1] at h0; cases h0), fun j hj => ?_⟩
      rw [h1] at hj
      obtain rfl : j = e := by simpa using hj
      have ho : ops[j]? = some ops[j] := Array.getElem?_eq_getElem he
      have hw : Region.wanted ops[j] (yielded ops a.tmps) = true := by simp [Region.wanted, hg _ ho]
      unfold mOp
      simp only [ho, hw, if_true]
      intro w hW hF
      have h3 := h w hW hF
      rw [ho] at h3
      simp only [Option.toList_some, List.singleton_append] at h3
      have h4 : wpOp P ops (Qo Q) j (wpList P ops (Qo Q) (ops.toList.drop i)) a w := by unfold wpOp; simp only [ho]; exact h3
      have hlen : (ops.toList.drop i).length = ops.size - i := by simp
      refine wpOp_mono (fun a' w' h' => ?_) h4
      have := wpAny_of_seq (md := .any) (ops.toList.drop i) i (listed.setIfInBounds j true) a' w' (fun j => by simp [List.getElem?_drop]) (by rw [hlen]; exact h2) h'
      rwa [hlen] at this
    · rw [if_neg he] at hB
      simp only [he, if_false]
      simp only [Bool.and_eq_true, decide_eq_true_eq, List.isEmpty_iff] at hB
      obtain ⟨h1, rfl⟩ := hB
      refine ⟨h1, fun w hW hF => ?_⟩
      have h3 := h w hW hF
      rw [Array.getElem?_eq_none (by omega)] at h3
      rw [List.drop_eq_nil_of_le (by simp)] at h3
      simpa [wpList, Qo] using h3
  | o :: l, i, listed, a, F, hl, hcl, hS, hc, hB, h => by
    have h0 : ops[i]? = some o := by simpa using (hl 0 (by simp)).symm
    have hl' : ∀ j, j < l.length → l[j]? = ops[i + 1 + j]? := fun j hj => by
      have := hl (j + 1) (by simp; omega); simpa [Nat.add_assoc, Nat.add_comm 1 j] using this
    simp only [List.length_cons, lexM] at hB
    simp only [List.length_cons, fuelM]
    unfold Chk at h
    by_cases hie : i = e
    · rw [if_pos hie] at hB h ⊢
      exact M_lex hA hsel hearly hg l (i + 1) listed a F hl' hcl hS hc hB h
    · rw [if_neg hie] at hB h ⊢
      simp only [Bool.and_eq_true] at hB
      obtain ⟨⟨hr, hf⟩, hB'⟩ := hB
      have hr' : i ∈ Region.ready .any ops listed := by simpa using hr
      have hsp := Region.free_spec h0 hf
      have hcl' := hcl.set hr'
      by_cases hw : Region.wanted o (yielded ops a.tmps) = true
      · rw [if_pos hw] at h
        cases hφ : Φ i with
        | none =>
          simp only [hφ] at h
          obtain ⟨x, hx, hk⟩ := h
          exact M_firstP hA h0 (Region.noSelect_spec hsel) hie _ listed a F hsp hcl hr' (.inl ⟨hw, hφ, hx⟩) (M_lex hA hsel hearly hg l (i + 1) _ _ F hl' hcl' hS hc hB' hk)
        | some φ =>
          simp only [hφ] at h
          obtain ⟨hv, hk⟩ := h
          refine M_firstM hA h0 (Region.noSelect_spec hsel) hie hφ (hearly i φ hφ hie) _ listed a F hsp hcl hr' hS hc hw hv fun u ⟨w, hW, hF, hu⟩ => ?_
          refine M_lex hA hsel hearly hg l (i + 1) _ _ _ hl' hcl' (fun k w w' hE ⟨p1, p2⟩ => ⟨hS k w w' hE p1, fun hki => φ.st u w w' hE (p2 hki)⟩) ⟨w, hW, upd_all.2 ⟨hF, hu⟩⟩ hB' (hk u ⟨w, hW, hu⟩)
      · rw [if_neg hw] at h
        have hw' : Region.wanted o (yielded ops a.tmps) = false := by simpa using hw
        exact M_firstP hA h0 (Region.noSelect_spec hsel) hie _ listed a F hsp hcl hr' (.inr ⟨hw', rfl⟩) (M_lex hA hsel hearly hg l (i + 1) _ _ F hl' hcl' hS hc hB' h)

/-- the table of ancestors, looked through. -/
def ancB (ops : Array Oper) : Bool :=
  (List.range ops.size).all fun i =>
    decide ((Region.before ops).getD i 0 < 2 ^ i) &&
    (List.range i).all fun k => !((Region.before ops).getD i 0).testBit k ||
      ((ops[i]?).map fun o => o.after.any fun d => Region.binds .any d && decide (d.on < i) && (d.on == k || ((Region.before ops).getD d.on 0).testBit k)).getD false

theorem ancB_size (ops : Array Oper) : (Region.before ops).size = ops.size := by
  unfold Region.before
  refine Array.foldl_induction (motive := fun i (acc : Array Nat) => acc.size = i) rfl ?_
  intro i acc h
  simp [h]

theorem AncOk.of (h : ancB ops = true) : AncOk ops := by
  intro i k ha
  unfold anc at ha
  by_cases hi : i < ops.size
  · simp only [ancB, List.all_eq_true, List.mem_range, Bool.and_eq_true, decide_eq_true_eq] at h
    obtain ⟨h1, h2⟩ := h i hi
    have hk : k < i := by
      rcases Nat.lt_or_ge k i with hk | hk
      · exact hk
      · exfalso
        have := Nat.testBit_lt_two_pow (Nat.lt_of_lt_of_le h1 (Nat.pow_le_pow_right (by omega) hk))
        rw [this] at ha; cases ha
    have h3 := h2 k hk
    rw [ha] at h3
    have ho : ops[i]? = some ops[i] := Array.getElem?_eq_getElem hi
    simp only [ho, Bool.not_true, Bool.false_or, Option.map_some, Option.getD_some] at h3
    obtain ⟨d, hd, hh⟩ := Array.any_eq_true'.1 h3
    simp only [Bool.and_eq_true, decide_eq_true_eq, Bool.or_eq_true, beq_iff_eq] at hh
    exact ⟨_, ho, d, hd, hh.1.1, hh.1.2, hh.2⟩
  · rw [Array.getD_eq_getD_getElem?, Array.getElem?_eq_none (by rw [ancB_size]; omega)] at ha
    simp at ha

/-- all that is asked of the region's form: e: the number of the one operation that writes (or the region's size); k: from k on all wait for e. -/
def monoB (ops : Array Oper) (e k : Nat) (Φ : List (Option SP)) : Bool :=
  Region.noSelect ops && ancB ops && (match ops[e]? with | some o => o.guard.isNone | none => true) &&
  ((List.range Φ.length).all fun i => (match Φ[i]? with | some (some _) => early ops e i || i == e | _ => true)) &&
  lexM ops e k k 0 (Array.replicate ops.size false) && decide (fuelM ops e k k 0 = ops.size) && decide (k ≤ ops.size)

theorem wpAny_mono {Q : Exit → Act → World → Prop} {a : Act} {w : World} {l : List Oper} (e k : Nat) (Φ : List (Option SP))
    (hB : monoB l.toArray e k Φ = true)
    (h : Chk P l.toArray (fun w' => Ext w w') (fun i => (Φ[i]?).getD none) e (Zed P l.toArray (fun w' => Ext w w') e k Q) (l.take k) 0 a (fun _ _ => True)) : wpAny P .any l.toArray (Qo Q) l.toArray.size (Array.replicate l.toArray.size false) a { w with drawn := w.drawn + 1 } := by
  simp only [monoB, Bool.and_eq_true, decide_eq_true_eq] at hB
  obtain ⟨⟨⟨⟨⟨⟨h1, h2⟩, h3⟩, h4⟩, h5⟩, h6⟩, h7⟩ := hB
  have h7' : k ≤ l.length := by simpa using h7
  have hl : (l.take k).length = k := by simp; omega
  have key := M_lex (P := P) (ops := l.toArray) (W := fun w' => Ext w w') (Φ := fun i => (Φ[i]?).getD none) (e := e) (Q := Q) (k := k) (AncOk.of h2) h1
    (fun i φ hφ hie => by
      simp only [List.all_eq_true, List.mem_range] at h4
      have hi : i < Φ.length := by
        rcases Nat.lt_or_ge i Φ.length with hi | hi
        · exact hi
        · rw [List.getElem?_eq_none hi] at hφ; cases hφ
      have := h4 i hi
      cases hh : Φ[i]? with
      | none => rw [hh] at hφ; cases hφ
      | some x =>
        cases x with
        | none => rw [hh] at hφ; cases hφ
        | some y =>
          rw [hh] at this
          simp only [Bool.or_eq_true, beq_iff_eq] at this
          exact this.resolve_right hie)
    (fun o ho => by rw [ho] at h3; simpa using h3)
    (l.take k) 0 (Array.replicate l.toArray.size false) a (fun _ _ => True)
    (fun j hj => by rw [hl] at hj; simp [hj])
    (fun i o ho hli => by rw [getD_replicate_false] at hli; cases hli)
    (fun _ _ _ _ _ => trivial) ⟨w, Ext.rfl' w, fun _ => trivial⟩ (by rw [hl]; exact h5) h
  rw [hl, h6] at key
  have hw : Ext w { w with drawn := w.drawn + 1 } := ⟨rfl, rfl, rfl, Nat.le_refl _, fun _ _ => rfl⟩
  exact wpAny_of_M _ _ a (fun _ _ => True) { w with drawn := w.drawn + 1 } (fun _ _ _ _ _ => trivial) hw (fun _ => trivial) key
theorem wp_region_mono {id : Nat} {Q : Exit → Act → World → Prop} {a : Act} {w : World} {l : List Oper} (e k : Nat) (Φ : List (Option SP)) (hm : P.follows .mixedOrders = true)
    (hB : monoB l.toArray e k Φ = true)
    (h : Chk P l.toArray (fun w' => Ext w w') (fun i => (Φ[i]?).getD none) e (Zed P l.toArray (fun w' => Ext w w') e k Q) (l.take k) 0 a (fun _ _ => True)) : (Code.region id l.toArray true).wp P Q a w :=
  wp_mono (Q := Qo Q) (wp_region_any hm (wpAny_mono e k Φ hB h)) fun x a w hx => by
    cases x <;> first | exact hx | exact hx.elim
end
#print axioms wp_region_mono
end Go.Own

namespace Go.Own
open Go Go.RowKit

/-- v reads as a slice of n elements of s cells each, the cells xs. -/
def SlN (w : World) (s : Nat) (v : Value) (n : Nat) (xs : List Value) : Prop :=
  ∃ a cap, v = .slice a n cap ∧ n ≤ cap ∧ cap ≤ 9223372036854775807 ∧ xs.length = n * s ∧ (a = none → n = 0) ∧
    ∀ b, a = some b → (0 < cap → b.spot = none) ∧ ∀ (j : Nat) (x : Value), xs[j]? = some x → w.cell? ⟨b.block, b.off + j, none⟩ = some x

theorem SlN.ext {w w' : World} {s n : Nat} {v : Value} {xs : List Value} (h : SlN w s v n xs) (he : Ext w w') : SlN w' s v n xs := by
  obtain ⟨a, cap, rfl, h1, h2, h3, h4, h5⟩ := h
  refine ⟨a, cap, rfl, h1, h2, h3, h4, fun b hb => ⟨(h5 b hb).1, fun j x hj => ?_⟩⟩
  have hc := (h5 b hb).2 j x hj
  rw [he.cell (World.block_lt_of_cell? _ _ hc)]
  exact hc

/-- One-cell elements. -/
def Sl (w : World) (v : Value) (xs : List Value) : Prop := SlN w 1 v xs.length xs

def Ints (w : World) (v : Value) (zs : List Int) : Prop := Sl w v (zs.map (Value.int .i64))

theorem Ints.ext {w w' : World} {v : Value} {zs : List Int} (h : Ints w v zs) (he : Ext w w') : Ints w' v zs := SlN.ext h he
theorem Sl.ext {w w' : World} {v : Value} {zs : List Value} (h : Sl w v zs) (he : Ext w w') : Sl w' v zs := SlN.ext h he

theorem SlN.nil (w : World) (s : Nat) : SlN w s (.slice none 0 0) 0 [] := ⟨none, 0, rfl, by simp, by simp, by simp, fun _ => rfl, fun b hb => by cases hb⟩
theorem Ints.nil (w : World) : Ints w (.slice none 0 0) [] := SlN.nil w 1

theorem SlN.of_own {w : World} {base : Nat} {e : TypeId} {s n : Nat} {v : Value} {xs : List Value} (h : w.ownsRow base e s v n xs) : SlN w s v n xs := by
  obtain ⟨h1, h2⟩ := h
  rcases h2 with ⟨rfl, rfl⟩ | ⟨g, cap, cur, rfl, _, hg, hn, hc, hs, hx⟩
  · exact ⟨none, 0, rfl, by simp, by simp, h1, fun _ => rfl, fun b hb => by cases hb⟩
  · refine ⟨_, cap, rfl, hn, by unfold maxLen at hc; omega, h1, (fun h => by cases h), fun b hb => ?_⟩
    cases hb
    refine ⟨fun _ => rfl, fun j x hj => ?_⟩
    rw [← hx, List.getElem?_take] at hj
    split at hj
    · rw [Nat.zero_add, cell_of_row w g j cur e (0, 0) hg]; simpa using hj
    · cases hj

/-- the cells of the words of what is appended. -/
theorem SlN.adds {w : World} {s n : Nat} {b : Addr} {cap : Nat} {xs : List Value} (h : SlN w s (.slice (some b) n cap) n xs) : ∀ j u, xs[j]? = some u → w.cell? (b.add j) = some u := by
  obtain ⟨a, cap', he, h1, h2, h3, h4, h5⟩ := h
  cases he
  obtain ⟨hs, hc⟩ := h5 b rfl
  intro j u hj
  have := hc j u hj
  have hs := hs (by
    have hlt := (List.getElem?_eq_some_iff.1 hj).1
    rw [h3] at hlt
    rcases Nat.eq_zero_or_pos cap with h0 | h0
    · have hn : n = 0 := by omega
      rw [hn, Nat.zero_mul] at hlt; omega
    · exact h0)
  obtain ⟨bb, off, spot⟩ := b
  simp only at hs this
  subst hs
  unfold Addr.add
  split
  · rename_i h0; subst h0; simpa using this
  · exact this

section
variable {P : Program}

end

/-- fresh memory: v is a slice of n ints of type e in blocks from B on that nobody else has. -/
def OwnI (w : World) (B : Nat) (e : TypeId) (v : Value) (zs : List Int) : Prop := w.ownsRow B e 1 v zs.length (zs.map (Value.int .i64))

theorem own_base {w : World} {B B' : Nat} {e : TypeId} {s n : Nat} {v : Value} {xs : List Value} (h : w.ownsRow B e s v n xs) (hb : B' ≤ B) : w.ownsRow B' e s v n xs := by
  obtain ⟨h1, h2⟩ := h
  refine ⟨h1, ?_⟩
  rcases h2 with h2 | ⟨g, cap, cur, a, b, c⟩
  · exact .inl h2
  · exact .inr ⟨g, cap, cur, a, Nat.le_trans hb b, c⟩

theorem own_ext {w w' : World} {B : Nat} {e : TypeId} {s n : Nat} {v : Value} {xs : List Value} (h : w.ownsRow B e s v n xs) (he : Ext w w') : w'.ownsRow B e s v n xs :=
  h.kept (row := none) ⟨he.os, he.tape, he.output, he.size, fun k hk _ => he.block k hk⟩ (by cases hv : v.ownBlock <;> simp)

theorem OwnI.base {w : World} {B B' : Nat} {e : TypeId} {v : Value} {zs : List Int} (h : OwnI w B e v zs) (hb : B' ≤ B) : OwnI w B' e v zs := own_base h hb
theorem OwnI.ext {w w' : World} {B : Nat} {e : TypeId} {v : Value} {zs : List Int} (h : OwnI w B e v zs) (he : Ext w w') : OwnI w' B e v zs := own_ext h he
theorem OwnI.ints {w : World} {B : Nat} {e : TypeId} {v : Value} {zs : List Int} (h : OwnI w B e v zs) : Ints w v zs := by
  have := SlN.of_own h
  unfold Ints Sl; rw [List.length_map]; exact this

end Go.Own

namespace Go.Own
open Go Go.RowKit

section
variable {P : Program} {ops : Array Oper} {w0 : World} {Φ : Nat → Option SP} {e : Nat} {Z : Act → (Nat → World → Prop) → Prop} {l : List Oper} {o : Oper} {i : Nat} {a a' : Act} {F : Nat → World → Prop}

/-- arriving at a call. -/
theorem run_call {f : FuncId} {fn : Func} {xs : Array Operand} {ats : Array TypeId} {args : Array Value} (ho : o.op = .call { callee := .value (.func f), args := xs, argTypes := ats }) (hf : P.funcs[f]? = some fn)
    (hn : (fn.name == "runtime.NumGoroutine") = false) (hb : fn.body.isNone = false) (ha : xs.map a.eval = args) (w : World) : (execOp a.eval o).run P w = .ok (.enter f args) w := by
  obtain ⟨dst, op, ty, pos, after, guard⟩ := o
  simp only at ho
  subst ho
  rw [execOp_call_go, ha]
  have hn' : fn.name ≠ "runtime.NumGoroutine" := by simpa using hn
  have hb' : fn.body ≠ none := by intro h; rw [h] at hb; cases hb
  simp [callFunc, program, Sem.run, hf, hn', hb']

/-- operations that look at no memory. -/
def kindMv : Op → Bool
  | .pick .. | .binOp .. | .unOp .. | .fieldAddr .. | .field .. | .extract .. | .nilCheck .. | .convert .. | .build .. | .index .. | .makeFunc .. => true
  | .call c => match c.callee with | .builtin .len => true | _ => false
  | _ => false
/-- .. or that read it. -/
def kindRd : Op → Bool
  | .load .. | .indexAddr .. => true
  | o => kindMv o

theorem ancF_get {i k : Nat} {f : World → Prop} {w : World} (h : ancF ops i (upd F k f) w) (hk : anc ops i k = true) : f w := (h k hk).2 rfl
theorem all_get {k : Nat} {f : World → Prop} {w : World} (h : ∀ j, upd F k f j w) : f w := (h k).2 rfl
theorem all_rest {k : Nat} {f : World → Prop} {w : World} (h : ∀ j, upd F k f j w) : ∀ j, F j w := fun j => (h j).1
end

section
variable {P : Program} {ops : Array Oper} {w0 : World} {e k : Nat} {Q : Exit → Act → World → Prop} {a : Act} {F : Nat → World → Prop}
end

/-- facts -/
def SP.ints (zs : List Int) : SP := ⟨fun w v => Ints w v zs, fun _ _ _ he h => Ints.ext h he⟩
def SP.sl (xs : List Value) : SP := ⟨fun w v => Sl w v xs, fun _ _ _ he h => Sl.ext h he⟩
def SP.own (w0 : World) (e : TypeId) (zs : List Int) : SP := ⟨fun w v => OwnI w w0.heap.size e v zs, fun _ _ _ he h => OwnI.ext h he⟩
def SP.is (x : Value) : SP := ⟨fun _ v => v = x, fun _ _ _ _ h => h⟩


theorem SlN.form {w : World} {s n : Nat} {v : Value} {xs : List Value} (h : SlN w s v n xs) : ∃ a cap, v = .slice a n cap := by
  obtain ⟨a, cap, rfl, _⟩ := h; exact ⟨a, cap, rfl⟩
theorem Ints.form {w : World} {v : Value} {zs : List Int} (h : Ints w v zs) : ∃ a cap, v = .slice a zs.length cap := by
  obtain ⟨a, cap, rfl, _⟩ := h; exact ⟨a, cap, by simp⟩

/-- a slice that an operation has just laid. -/
theorem SlN.alloc (w : World) (cs : Array Value) (e : TypeId) (s n cap : Nat) (h1 : n ≤ cap) (h2 : cap ≤ 9223372036854775807) (h3 : n * s ≤ cs.size) :
    SlN (w.alloc (.cells cs e)) s (.slice (some ⟨w.heap.size, 0, none⟩) n cap) n (cs.toList.take (n * s)) := by
  refine ⟨_, cap, rfl, h1, h2, by simp; omega, (fun h => by cases h), fun b hb => ?_⟩
  cases hb
  refine ⟨fun _ => rfl, fun j x hj => ?_⟩
  rw [List.getElem?_take] at hj
  split at hj
  · rw [Nat.zero_add, World.cell?_alloc_new]; simpa using hj
  · cases hj

theorem Sl.alloc (w : World) (cs : List Value) (e : TypeId) (h2 : cs.length ≤ 9223372036854775807) : Sl (w.alloc (.cells cs.toArray e)) (.slice (some ⟨w.heap.size, 0, none⟩) cs.length cs.length) cs := by
  have := SlN.alloc w cs.toArray e 1 cs.length cs.length (Nat.le_refl _) h2 (by simp)
  simpa [Sl] using this

theorem Ext.alloc (w : World) (o : Obj) : Ext w (w.alloc o) := (Below.refl _ _).alloc (Nat.le_refl _) o

section
variable {P : Program}
end


section
variable {P : Program} {ops : Array Oper} {w0 : World} {Φ : Nat → Option SP} {e : Nat} {Z : Act → (Nat → World → Prop) → Prop} {l : List Oper} {o : Oper} {i : Nat} {a a' : Act} {F : Nat → World → Prop}

end


/-- the elements of a list of slices. -/
def Rows2 (w : World) (vs : List Value) (xss : List (List Int)) : Prop := vs.length = xss.length ∧ ∀ (i : Nat) (x : Value), vs[i]? = some x → Ints w x (xss.getD i [])
theorem Rows2.ext {w w' : World} {vs : List Value} {xss : List (List Int)} (h : Rows2 w vs xss) (he : Ext w w') : Rows2 w' vs xss := ⟨h.1, fun i x hi => (h.2 i x hi).ext he⟩
theorem Rows2.nil (w : World) : Rows2 w [] [] := ⟨rfl, fun i x h => by simp at h⟩
theorem Rows2.cons {w : World} {v : Value} {vs : List Value} {x : List Int} {xss : List (List Int)} (hv : Ints w v x) (h : Rows2 w vs xss) : Rows2 w (v :: vs) (x :: xss) := by
  refine ⟨by simp [h.1], fun i y hi => ?_⟩
  cases i with
  | zero => simp at hi; subst hi; simpa using hv
  | succ i => simp at hi ⊢; simpa using h.2 i y hi

def IntsS (w : World) (v : Value) (xss : List (List Int)) : Prop := ∃ vs, Sl w v vs ∧ Rows2 w vs xss
theorem IntsS.ext {w w' : World} {v : Value} {xss : List (List Int)} (h : IntsS w v xss) (he : Ext w w') : IntsS w' v xss := by
  obtain ⟨vs, h1, h2⟩ := h; exact ⟨vs, h1.ext he, h2.ext he⟩
theorem IntsS.form {w : World} {v : Value} {xss : List (List Int)} (h : IntsS w v xss) : ∃ a cap, v = .slice a xss.length cap := by
  obtain ⟨vs, h1, h2⟩ := h
  obtain ⟨a, c, rfl⟩ := SlN.form h1
  exact ⟨a, c, by rw [h2.1]⟩
def SP.rows (xss : List (List Int)) : SP := ⟨fun w v => IntsS w v xss, fun _ _ _ he h => h.ext he⟩

section
variable {P : Program} {ops : Array Oper} {w0 : World} {Φ : Nat → Option SP} {e : Nat} {Z : Act → (Nat → World → Prop) → Prop} {l : List Oper} {o : Oper} {i : Nat} {a a' : Act} {F : Nat → World → Prop}
end


section
variable {P : Program} {ops : Array Oper} {w0 : World} {Φ : Nat → Option SP} {e : Nat} {Z : Act → (Nat → World → Prop) → Prop} {l : List Oper} {o : Oper} {i : Nat} {a a' : Act} {F : Nat → World → Prop}
end

theorem Ints.at {w : World} {a : Option Addr} {n cap : Nat} {zs : List Int} {k : Nat} (h : Ints w (.slice a n cap) zs) (hk : k < zs.length) :
    ∃ b off x, a = some ⟨b, off, none⟩ ∧ zs[k]? = some x ∧ w.cell? ⟨b, off + k, none⟩ = some (.int .i64 x) := by
  obtain ⟨a', cap', he, h1, h2, h3, h4, h5⟩ := h
  cases he
  cases a with
  | none => exact absurd (h4 rfl) (by simp only [List.length_map]; omega)
  | some b =>
    obtain ⟨bb, off, spot⟩ := b
    obtain ⟨hs, hc⟩ := h5 _ rfl
    have hs := hs (by simp only [List.length_map] at *; omega)
    simp only at hs hc
    subst hs
    have hx := List.getElem?_eq_getElem hk
    exact ⟨bb, off, zs[k], rfl, hx, hc k _ (by rw [List.getElem?_map, hx]; rfl)⟩

theorem Ints.cap {w : World} {a : Option Addr} {n cap : Nat} {zs : List Int} (h : Ints w (.slice a n cap) zs) : n = zs.length ∧ n ≤ cap ∧ cap ≤ 9223372036854775807 := by
  obtain ⟨a', cap', he, h1, h2, _⟩ := h
  cases he
  simp only [List.length_map] at h1 ⊢
  exact ⟨trivial, h1, h2⟩


/-- a pointer to new memory that holds two slices of new memory. -/
def PairAt (w : World) (B T E : Nat) (v : Value) (lo yo : List Int) : Prop :=
  ∃ b lv yv, v = .pointer (some ⟨b, 0, none⟩) ∧ B ≤ b ∧ w.heap[b]? = some (.cells #[lv, yv] T (0, 0)) ∧ OwnI w B E lv lo ∧ OwnI w B E yv yo

theorem heap_ext {w w' : World} (h : Ext w w') {b : Nat} {o : Obj} (hb : w.heap[b]? = some o) : w'.heap[b]? = some o := by
  rw [h.block b (Array.getElem?_eq_some_iff.1 hb).1]; exact hb

theorem PairAt.ext {w w' : World} {B T E : Nat} {v : Value} {lo yo : List Int} (h : PairAt w B T E v lo yo) (he : Ext w w') : PairAt w' B T E v lo yo := by
  obtain ⟨b, lv, yv, rfl, h1, h2, h3, h4⟩ := h
  exact ⟨b, lv, yv, rfl, h1, heap_ext he h2, h3.ext he, h4.ext he⟩

def SP.pair (w0 : World) (T E : Nat) (lo yo : List Int) : SP := ⟨fun w v => PairAt w w0.heap.size T E v lo yo, fun _ _ _ he h => h.ext he⟩

theorem OwnI.form {w : World} {B : Nat} {e : TypeId} {v : Value} {zs : List Int} (h : OwnI w B e v zs) : ∃ a cap, v = .slice a zs.length cap := h.ints.form


/-- v is a slice of ints in memory of its own from block B on, that may be written. -/
def FreI (w : World) (B : Nat) (E : TypeId) (v : Value) (zs : List Int) : Prop :=
  Ints w v zs ∧ ∀ b n cap, v = .slice (some b) n cap → B ≤ b.block ∧ ∃ cs, w.heap[b.block]? = some (.cells cs E (0, 0))

theorem FreI.ext {w w' : World} {B : Nat} {E : TypeId} {v : Value} {zs : List Int} (h : FreI w B E v zs) (he : Ext w w') : FreI w' B E v zs :=
  ⟨h.1.ext he, fun b n cap hv => let ⟨h1, cs, h2⟩ := h.2 b n cap hv; ⟨h1, cs, heap_ext he h2⟩⟩
theorem FreI.base {w : World} {B B' : Nat} {E : TypeId} {v : Value} {zs : List Int} (h : FreI w B E v zs) (hb : B' ≤ B) : FreI w B' E v zs :=
  ⟨h.1, fun b n cap hv => let ⟨h1, h2⟩ := h.2 b n cap hv; ⟨Nat.le_trans hb h1, h2⟩⟩
theorem OwnI.fre {w : World} {B : Nat} {E : TypeId} {v : Value} {zs : List Int} (h : OwnI w B E v zs) : FreI w B E v zs := by
  refine ⟨h.ints, fun b n cap hv => ?_⟩
  rcases h.2 with ⟨rfl, _⟩ | ⟨g, cap', cur, rfl, hg, hh, _⟩
  · cases hv
  · cases hv; exact ⟨hg, cur, hh⟩
theorem FreI.nil (w : World) (B : Nat) (E : TypeId) : FreI w B E (.slice none 0 0) [] := ⟨Ints.nil w, fun b n cap h => by cases h⟩

theorem cell_setCell {w : World} {p : Addr} {x : Value} {b o : Nat} (h : b ≠ p.block) : (w.setCell p x).cell? ⟨b, o, none⟩ = w.cell? ⟨b, o, none⟩ :=
  World.cell?_setCell_other _ _ _ _ (fun e => h (by rw [e]))

theorem heap_setCell {w : World} {p : Addr} {x : Value} {b : Nat} (h : b ≠ p.block) : (w.setCell p x).heap[b]? = w.heap[b]? := Below.heap_setCell _ _ _ _ h

theorem FreI.set {w : World} {B : Nat} {E T : TypeId} {v : Value} {zs : List Int} {p : Addr} {x : Value} {cs : Array Value} {f : Nat × Nat} (h : FreI w B E v zs) (hp : w.heap[p.block]? = some (.cells cs T f)) (hT : (T == E) = false) :
    FreI (w.setCell p x) B E v zs := by
  have hne : ∀ b n cap, v = .slice (some b) n cap → b.block ≠ p.block := by
    intro b n cap hv e
    obtain ⟨_, c, hc⟩ := h.2 b n cap hv
    rw [e, hp] at hc
    cases hc
    simp at hT
  obtain ⟨h1, h2⟩ := h
  refine ⟨?_, fun b n cap hv => ?_⟩
  · obtain ⟨a, cap, rfl, g1, g2, g3, g4, g5⟩ := h1
    refine ⟨a, cap, rfl, g1, g2, g3, g4, fun b hb => ⟨(g5 b hb).1, fun j y hj => ?_⟩⟩
    subst hb
    rw [cell_setCell (hne b _ _ rfl)]
    exact (g5 b rfl).2 j y hj
  · obtain ⟨q1, c, q2⟩ := h2 b n cap hv
    exact ⟨q1, c, by rw [heap_setCell (hne b n cap hv)]; exact q2⟩

theorem FreI.form {w : World} {B : Nat} {e : TypeId} {v : Value} {zs : List Int} (h : FreI w B e v zs) : ∃ a cap, v = .slice a zs.length cap := h.1.form


def SP.fre (w0 : World) (e : TypeId) (zs : List Int) : SP := ⟨fun w v => FreI w w0.heap.size e v zs, fun _ _ _ he h => FreI.ext h he⟩

theorem Qo_normal {Q : Exit → Act → World → Prop} {a : Act} {w : World} (h : Q .normal a w) : Qo Q .normal a w := h

section
variable {P : Program} {ops : Array Oper} {w0 : World} {Φ : Nat → Option SP} {e : Nat} {Z : Act → (Nat → World → Prop) → Prop} {l : List Oper} {o : Oper} {i : Nat} {a a' : Act} {F : Nat → World → Prop}

end

/-- trains in fresh memory. -/
def TrF (w : World) (B : Nat) (E : TypeId) (v : Value) (lo yo : List Int) : Prop := ∃ u1 u2, v = .agg #[u1, u2] ∧ FreI w B E u1 lo ∧ FreI w B E u2 yo
theorem TrF.ext {w w' : World} {B : Nat} {E : TypeId} {v : Value} {lo yo : List Int} (h : TrF w B E v lo yo) (he : Ext w w') : TrF w' B E v lo yo := by
  obtain ⟨u1, u2, rfl, h1, h2⟩ := h; exact ⟨u1, u2, rfl, h1.ext he, h2.ext he⟩
theorem TrF.base {w : World} {B B' : Nat} {E : TypeId} {v : Value} {lo yo : List Int} (h : TrF w B E v lo yo) (hb : B' ≤ B) : TrF w B' E v lo yo := by
  obtain ⟨u1, u2, rfl, h1, h2⟩ := h; exact ⟨u1, u2, rfl, h1.base hb, h2.base hb⟩
theorem TrF.nil (w : World) (B : Nat) (E : TypeId) : TrF w B E (.agg #[.slice none 0 0, .slice none 0 0]) [] [] := ⟨_, _, rfl, FreI.nil _ _ _, FreI.nil _ _ _⟩


/-- block b is a row of cells of type T that may be written. -/
def IsBlk (w : World) (b : Nat) (T : TypeId) : Prop := ∃ cs, w.heap[b]? = some (.cells cs T (0, 0))
theorem IsBlk.ext {w w' : World} {b : Nat} {T : TypeId} (h : IsBlk w b T) (he : Ext w w') : IsBlk w' b T := by obtain ⟨cs, h⟩ := h; exact ⟨cs, heap_ext he h⟩
theorem IsBlk.set {w : World} {b : Nat} {T : TypeId} (h : IsBlk w b T) (p : Addr) (x : Value) : IsBlk (w.setCell p x) b T := by
  obtain ⟨cs, h⟩ := h
  by_cases hb : b = p.block
  · subst hb
    simp only [IsBlk, World.setCell, Array.getElem?_modify, if_true, h, Option.map_some]
    exact ⟨_, rfl⟩
  · exact ⟨cs, by rw [heap_setCell hb]; exact h⟩
theorem IsBlk.alloc (w : World) (cs : Array Value) (T : TypeId) : IsBlk (w.alloc (.cells cs T)) w.heap.size T := ⟨cs, heap_alloc_new _ _⟩
theorem blk_frozen {w : World} {b : Nat} {T : TypeId} (h : IsBlk w b T) (o : Nat) : w.frozen? ⟨b, o, none⟩ = false := by
  obtain ⟨cs, h⟩ := h; simp [World.frozen?, h]
end Go.Own
namespace Go.Own
open Go Go.RowKit
section
variable {P : Program} {ops : Array Oper} {w0 : World} {e k : Nat} {Q : Exit → Act → World → Prop} {a : Act} {F : Nat → World → Prop}
end
end Go.Own
namespace Go.Own
open Go Go.RowKit
end Go.Own
namespace Go.Own
open Go Go.RowKit
section
variable {P : Program}
def SP.emp (w0 : World) (e : TypeId) : SP := ⟨fun w v => ∃ g, v = .slice (some ⟨g, 0, none⟩) 0 0 ∧ w0.heap.size ≤ g ∧ w.heap[g]? = some (.cells #[] e (0, 0)),
  fun _ _ _ he ⟨g, h1, h2, h3⟩ => ⟨g, h1, h2, heap_ext he h3⟩⟩

variable {ops : Array Oper} {w0 : World} {Φ : Nat → Option SP} {e : Nat} {Z : Act → (Nat → World → Prop) → Prop} {l : List Oper} {o : Oper} {i : Nat} {a a' : Act} {F : Nat → World → Prop}

end
end Go.Own

/-! plain functions of layer 11 -/
namespace Go.Own
open Go

def putAt (n : Nat) (b : Bool) : Nat := if b && decide (0 < n) then n - 1 else n
def putL (xs : List Int) (c : Int) (b : Bool) : List Int := xs.take (putAt xs.length b) ++ c :: xs.drop (putAt xs.length b)
theorem take_snoc {α : Type} (l : List α) (k : Nat) (d : α) (h : k < l.length) : l.take (k + 1) = l.take k ++ [l.getD k d] := by
  rw [List.take_succ_eq_append_getElem h]; simp [h]
theorem take_snoc' {α : Type} (l : List α) (k : Nat) (x : α) (h : l[k]? = some x) : l.take (k + 1) = l.take k ++ [x] := by
  obtain ⟨hk, hx⟩ := List.getElem?_eq_some_iff.1 h
  rw [List.take_succ_eq_append_getElem hk, hx]

/-- the place of a number in a list, or -1. -/
def idx (zs : List Int) (x : Int) : Int := match zs.findIdx? (· == x) with | some i => i | none => -1
def eqI (xs ys : List Int) : Bool := decide (xs = ys)
/-- where a car is. -/
def findT (lo yo : List Int) (c : Int) : Int × Int × Int :=
  if 0 ≤ idx lo c then (0, idx lo c, 0) else if 0 ≤ idx yo c then (1, idx yo c, 0) else (-1, -1, 4)

/-- what is wrong with the car at a place, behind some others. -/
def errAt (pre l : List Int) (k : Nat) : Int := if l.getD k 0 < 0 ∨ 24 ≤ l.getD k 0 then 7 else if l.getD k 0 ∈ pre ++ l.take k then 8 else 0
def scan (pre l : List Int) : Option Nat := (List.range l.length).find? fun k => errAt pre l k != 0
def chk (lo yo : List Int) : Int × Int × Int :=
  if 24 < lo.length then (0, -1, 3) else if 24 < yo.length then (1, -1, 3) else
  match scan [] lo with
  | some k => (0, k, errAt [] lo k)
  | none => match scan lo yo with
    | some k => (1, k, errAt lo yo k)
    | none => (0, 0, 0)
def preAt (lo yo : List Int) (i : Nat) : List Int := if i = 0 then [] else if i = 1 then lo else lo ++ yo
def trAt (lo yo : List Int) (i : Nat) : List Int := if i = 0 then lo else yo
/-- which cars were met. -/
def metA (seen : List Int) : Array Value := ((List.range 24).map fun (c : Nat) => Value.bool (decide ((c : Int) ∈ seen))).toArray
def chkE (lo yo : List Int) (train car : Int) : Int :=
  if (chk lo yo).2.2 ≠ 0 then (chk lo yo).2.2 else if (train ≠ 0 ∧ train ≠ 1) ∨ car < 0 ∨ 24 ≤ car then 7 else 0


structure TrS where
  lo : List Int
  yo : List Int
  car : Int
  e : Int
def takeS (lo yo : List Int) : TrS :=
  if (chk lo yo).2.2 ≠ 0 then ⟨[], [], 0, (chk lo yo).2.2⟩ else match lo with | [] => ⟨[], [], 0, 4⟩ | c :: r => ⟨r, yo, c, 0⟩

def placeS (lo yo : List Int) (tr c : Int) (b : Bool) : TrS :=
  if chkE lo yo tr c ≠ 0 then ⟨[], [], 0, chkE lo yo tr c⟩ else if (findT lo yo c).2.2 = 0 then ⟨[], [], 0, 8⟩ else
  if tr = 0 then ⟨putL lo c b, yo, 0, 0⟩ else ⟨lo, putL yo c b, 0, 0⟩
def relinkS (lo yo : List Int) (b : Bool) : TrS :=
  if (takeS lo yo).e ≠ 0 then ⟨[], [], 0, (takeS lo yo).e⟩ else ⟨(takeS lo yo).lo, putL (takeS lo yo).yo (takeS lo yo).car b, (takeS lo yo).car, 0⟩
def turnS (lo yo : List Int) : TrS :=
  if (chk lo yo).2.2 ≠ 0 then ⟨[], [], 0, (chk lo yo).2.2⟩ else if 0 < lo.length then ⟨[], [], 0, 9⟩ else ⟨yo, [], 0, 0⟩
/-- lo: the cars that were taken -/
def clearS (lo yo : List Int) : TrS :=
  if (chk lo yo).2.2 ≠ 0 then ⟨[], [], 0, (chk lo yo).2.2⟩ else ⟨lo, yo, 0, 0⟩
def findS (lo yo : List Int) (c : Int) : Int × Int × Int := if chkE lo yo 0 c ≠ 0 then (0, 0, chkE lo yo 0 c) else findT lo yo c
def carsS (lo yo : List Int) (tr : Int) : List Int × Int := if chkE lo yo tr 0 ≠ 0 then ([], chkE lo yo tr 0) else (if tr = 0 then lo else yo, 0)
def lastS (lo yo : List Int) (tr : Int) : Int × Int :=
  if (carsS lo yo tr).2 ≠ 0 then (0, (carsS lo yo tr).2) else match (carsS lo yo tr).1.getLast? with | none => (0, 4) | some x => (x, 0)

end Go.Own
/-! plain law: what Check accepts -/
namespace Go.Own
open Go

def GoodL (l : List Int) : Prop := l.Nodup ∧ ∀ x ∈ l, 0 ≤ x ∧ x < 24

theorem pigeon : ∀ (n : Nat) (l : List Int), l.Nodup → (∀ x ∈ l, 0 ≤ x ∧ x < n) → l.length ≤ n := by
  intro n
  induction n with
  | zero =>
    intro l _ h
    cases l with
    | nil => simp
    | cons x r => have := h x (by simp); omega
  | succ n ih =>
    intro l hn h
    by_cases hm : (n : Int) ∈ l
    · have h1 := ih (l.erase (n : Int)) (hn.erase _) (fun x hx => by
        have hx' := (hn.mem_erase_iff).1 hx
        have := h x hx'.2
        have hne := hx'.1
        omega)
      rw [List.length_erase_of_mem hm] at h1
      omega
    · have h1 := ih l hn (fun x hx => by
        have := h x hx
        have hne : x ≠ (n : Int) := fun e => hm (e ▸ hx)
        omega)
      omega

theorem GoodL.len {l : List Int} (h : GoodL l) : l.length ≤ 24 := pigeon 24 l h.1 h.2

end Go.Own
namespace Go.Own
open Go Go.RowKit
theorem GoodL.tail {c : Int} {r : List Int} (h : GoodL (c :: r)) : GoodL r := ⟨(List.nodup_cons.1 h.1).2, fun x hx => h.2 x (by simp [hx])⟩
end Go.Own
namespace Go.Own
open Go
end Go.Own
namespace Go.Own
end Go.Own
namespace Go.Own
end Go.Own
namespace Go.Own
end Go.Own
namespace Go.Own
end Go.Own
