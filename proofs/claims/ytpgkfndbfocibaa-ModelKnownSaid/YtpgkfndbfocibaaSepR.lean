import Derived.Test.YtpgkfndbfocibaaSep
import Derived.Test.YtpgkfndbfocibaaGenR
import Derived.Laws.CopyRow
/-! regions that draw their order, with a log: which operation laid which blocks -/
namespace Go.Own.L
open Go Go.RowKit Go.Own

/-- a world, and who laid what: (number of the operation, from, to). -/
abbrev SW := World × List (Nat × Nat × Nat)
structure Le (s s' : SW) : Prop where
  e : Ext s.1 s'.1
  log : ∃ p, s'.2 = p ++ s.2
theorem Le.rfl' (s : SW) : Le s s := ⟨Ext.rfl' _, [], rfl⟩
def Stable (f : SW → Prop) : Prop := ∀ s s', Le s s' → f s → f s'
structure SP where
  p : SW → Value → Prop
  st : ∀ u, Stable fun s => p s u
/-- .. that looks at some slots of the frame. -/
structure SPd where
  ts : List Tmp
  p : List Value → SP
def SPd.at (φ : SPd) (a : Act) : SP := φ.p (φ.ts.map fun t => a.eval (.tmp t))
theorem SPd.at_put {φ : SPd} {a : Act} {d : Option Tmp} {v : Value} (h : ∀ t, d = some t → t ∉ φ.ts) : φ.at (a.put d v) = φ.at a := by
  cases d with
  | none => rfl
  | some t =>
    unfold SPd.at
    congr 1
    refine List.map_congr_left fun q hq => ?_
    have hne : (t == q) = false := by
      cases e : (t == q) with
      | false => rfl
      | true => exact absurd (by rw [eq_of_beq e]; exact hq) (h t rfl)
    exact Go.Own.ev_ne hne
def push (i : Nat) (s : SW) (w : World) : SW := (w, (i, s.1.heap.size, w.heap.size) :: s.2)
theorem le_push {i : Nat} {s : SW} {w : World} (h : Ext s.1 w) : Le s (push i s w) := ⟨h, [_], rfl⟩

section
variable {P : Program} {ops : Array Oper}

def upd (F : Nat → SW → Prop) (i : Nat) (f : SW → Prop) : Nat → SW → Prop := fun k w => F k w ∧ (k = i → f w)

theorem upd_all {F : Nat → SW → Prop} {i : Nat} {f : SW → Prop} {w : SW} : (∀ k, upd F i f k w) ↔ (∀ k, F k w) ∧ f w :=
  ⟨fun h => ⟨fun k => (h k).1, (h i).2 rfl⟩, fun h k => ⟨h.1 k, fun _ => h.2⟩⟩

theorem upd_comm (F : Nat → SW → Prop) (i j : Nat) (f g : SW → Prop) : upd (upd F i f) j g = upd (upd F j g) i f := by
  funext k w
  exact propext ⟨fun ⟨⟨a, b⟩, c⟩ => ⟨⟨a, c⟩, b⟩, fun ⟨⟨a, b⟩, c⟩ => ⟨⟨a, c⟩, b⟩⟩

/-- the operations that must have come up before number i. -/
def anc (ops : Array Oper) (i k : Nat) : Bool := ((Region.before ops).getD i 0).testBit k

def ancF (ops : Array Oper) (i : Nat) (F : Nat → SW → Prop) (w : SW) : Prop := ∀ k, anc ops i k = true → F k w

variable (P ops)
variable (W : SW → Prop) (Φ : Nat → Option SPd) (e : Nat) (Q : Exit → Act → World → Prop)

/-- may number i come up behind the effect? -/
def early (i : Nat) : Bool := decide (ops.size ≤ e) || anc ops e i

def pureV (i : Nat) (o : Oper) (a : Act) (F : Nat → SW → Prop) (x : Value) : Prop :=
  ∀ w, (early ops e i = true → W w ∧ ancF ops i F w) → (execOp a.eval o).run P w.1 = .ok (.value x) w.1

def monoV (i : Nat) (o : Oper) (a : Act) (F : Nat → SW → Prop) (φ : SP) : Prop :=
  ∀ w, W w → ancF ops i F w → wpU P o a w.1 fun u w' => W (push i w w') ∧ Ext w.1 w' ∧ φ.p (push i w w') u

def mOp (i : Nat) (K : Act → (Nat → SW → Prop) → Prop) (E : Act → World → Prop) (a : Act) (F : Nat → SW → Prop) : Prop :=
  match ops[i]? with
  | none => K a F
  | some o =>
    if Region.wanted o (yielded ops a.tmps) then
      if i = e then ∀ w, W w → (∀ k, F k w) → wpOp P ops (Qo Q) i E a w.1
      else match Φ i with
        | none => ∃ x, pureV P ops W e i o a F x ∧ K (a.put o.dst x) F
        | some φ => monoV P ops W i o a F (φ.at a) ∧ ∀ u, (∃ w, W w ∧ (∀ k, F k w) ∧ (φ.at a).p w u) → K (a.put o.dst u) (upd F i fun w => (φ.at a).p w u)
    else K (a.put o.dst undef) F

def Fin (a : Act) (F : Nat → SW → Prop) : Prop := ∀ w, W w → (∀ k, F k w) → Q .normal a w.1

def wpAnyM : Nat → Array Bool → Act → (Nat → SW → Prop) → Prop
  | 0, listed, a, F => Region.ready .any ops listed = [] ∧ Fin W Q a F
  | fuel + 1, listed, a, F =>
    (Region.ready .any ops listed = [] → Fin W Q a F) ∧
    ∀ i ∈ Region.ready .any ops listed, mOp P ops W Φ e Q i (wpAnyM fuel (listed.setIfInBounds i true)) (wpAny P .any ops (Qo Q) fuel (listed.setIfInBounds i true)) a F

variable {P ops W Φ e Q}

/-- what is proved of it serves in the run. -/
theorem wpAny_of_M : ∀ (fuel : Nat) (listed : Array Bool) (a : Act) (F : Nat → SW → Prop) (w : SW),
    (∀ k, Stable (F k)) → W w → (∀ k, F k w) → wpAnyM P ops W Φ e Q fuel listed a F → wpAny P .any ops (Qo Q) fuel listed a w.1
  | 0, _, _, _, w, _, hW, hF, h => ⟨h.1, h.2 w hW hF⟩
  | fuel + 1, listed, a, F, w, hS, hW, hF, h => by
    refine ⟨fun h0 => h.1 h0 w hW hF, fun i hi => ?_⟩
    have hm := h.2 i hi
    unfold mOp at hm
    unfold wpOp
    cases ho : ops[i]? with
    | none => simp only [ho] at hm ⊢; exact wpAny_of_M fuel _ _ _ w hS hW hF hm
    | some o =>
      simp only [ho] at hm ⊢
      by_cases hw : Region.wanted o (yielded ops a.tmps) = true
      · simp only [hw, if_true] at hm ⊢
        by_cases hie : i = e
        · simp only [hie, if_true] at hm
          have := hm w hW hF
          unfold wpOp at this
          rw [hie] at ho ⊢
          simp only [ho, hw, if_true] at this
          exact this
        · simp only [hie, if_false] at hm
          left
          cases hφ : Φ i with
          | none =>
            simp only [hφ] at hm
            obtain ⟨x, hx, hk⟩ := hm
            have hr := hx w fun _ => ⟨hW, fun k _ => hF k⟩
            unfold Oper.wp
            rw [hr]
            exact wpAny_of_M fuel _ _ _ w hS hW hF hk
          | some φ =>
            simp only [hφ] at hm
            obtain ⟨hv, hk⟩ := hm
            refine wpU_wp (hv w hW fun k _ => hF k) ?_
            rintro u w' ⟨hW', hE, hu⟩
            have hF' : ∀ k, F k (push i w w') := fun k => hS k w _ (le_push hE) (hF k)
            refine wpAny_of_M fuel _ _ _ (push i w w') ?_ hW' (upd_all.2 ⟨hF', hu⟩) (hk u ⟨_, hW', hF', hu⟩)
            intro k x y hxy ⟨h1, h2⟩
            exact ⟨hS k x y hxy h1, fun hki => (φ.at a).st u x y hxy (h2 hki)⟩
      · simp only [hw] at hm ⊢
        exact wpAny_of_M fuel _ _ _ w hS hW hF hm

/-- the facts of ancestors do not turn by one that is none. -/
theorem ancF_upd {i j : Nat} {F : Nat → SW → Prop} {f : SW → Prop} {w : SW} (h : anc ops j i = false) : ancF ops j (upd F i f) w ↔ ancF ops j F w := by
  constructor
  · intro hh k hk; exact (hh k hk).1
  · intro hh k hk; exact ⟨hh k hk, fun e => by rw [e, h] at hk; cases hk⟩

/-- what is listed has its ancestors listed. -/
theorem anc_listed (hB : ∀ i k, anc ops i k = true → ∃ o, ops[i]? = some o ∧ ∃ d ∈ o.after, Region.binds .any d = true ∧ d.on < i ∧ (d.on = k ∨ anc ops d.on k = true)) {listed : Array Bool}
    (hcl : ∀ i o, ops[i]? = some o → listed.getD i false = true → ∀ d ∈ o.after, Region.binds .any d = true → listed.getD d.on false = true) :
    ∀ (n i k : Nat), i ≤ n → (∀ o, ops[i]? = some o → ∀ d ∈ o.after, Region.binds .any d = true → listed.getD d.on false = true) → anc ops i k = true → listed.getD k false = true := by
  intro n
  induction n with
  | zero =>
    intro i k hi h ha
    obtain ⟨o, ho, d, hd, hb, hlt, _⟩ := hB i k ha
    omega
  | succ n ih =>
    intro i k hi h ha
    obtain ⟨o, ho, d, hd, hb, hlt, hor⟩ := hB i k ha
    have hl := h o ho d hd hb
    rcases hor with rfl | hor
    · exact hl
    · exact ih d.on k (by omega) (fun o' ho' => hcl d.on o' ho' hl) hor


/-- the listed are closed under the edges. -/
def Closed (ops : Array Oper) (listed : Array Bool) : Prop :=
  ∀ i o, ops[i]? = some o → listed.getD i false = true → ∀ d ∈ o.after, Region.binds .any d = true → listed.getD d.on false = true

/-- the table of ancestors is sound. -/
def AncOk (ops : Array Oper) : Prop :=
  ∀ i k, anc ops i k = true → ∃ o, ops[i]? = some o ∧ ∃ d ∈ o.after, Region.binds .any d = true ∧ d.on < i ∧ (d.on = k ∨ anc ops d.on k = true)

theorem Closed.set {listed : Array Bool} {i : Nat} (h : Closed ops listed) (hr : i ∈ Region.ready .any ops listed) : Closed ops (listed.setIfInBounds i true) := by
  intro j o ho hl d hd hb
  by_cases hij : i = j
  · subst hij
    obtain ⟨_, o', ho', hall⟩ := mem_ready.1 hr
    rw [ho] at ho'; cases ho'
    exact getD_set_true (hall d hd hb)
  · rw [getD_set_ne false hij] at hl
    exact getD_set_true (h j o ho hl d hd hb)

theorem not_anc (hA : AncOk ops) {listed : Array Bool} (hcl : Closed ops listed) {i j : Nat} (hi : i ∈ Region.ready .any ops listed) (hj : listed.getD j true = false) : anc ops i j = false := by
  cases hh : anc ops i j with
  | false => rfl
  | true =>
    obtain ⟨_, o, ho, hall⟩ := mem_ready.1 hi
    have := anc_listed hA hcl i i j (Nat.le_refl _) (fun o' ho' => by rw [ho] at ho'; cases ho'; exact hall) hh
    rcases Nat.lt_or_ge j listed.size with h' | h'
    · simp [h'] at this hj; rw [hj] at this; cases this
    · simp [Array.getElem?_eq_none h'] at this

/-- a fact looks at slots alone that are filled ahead of it. -/
def Ind (ops : Array Oper) (Φ : Nat → Option SPd) : Prop := ∀ i φ, Φ i = some φ → ∀ (j : Nat) oj, ops[j]? = some oj → anc ops i j = false → ∀ (a : Act) x, φ.at (a.put oj.dst x) = φ.at a
/-- number i hands this on, whatever came before. -/
def YP (P : Program) (ops : Array Oper) (W : SW → Prop) (Φ : Nat → Option SPd) (e i : Nat) (o : Oper) (a : Act) (F : Nat → SW → Prop) (x : Value) : Prop :=
  (Region.wanted o (yielded ops a.tmps) = true ∧ Φ i = none ∧ pureV P ops W e i o a F x) ∨ (Region.wanted o (yielded ops a.tmps) = false ∧ x = undef)

theorem YP.same {i : Nat} {o : Oper} {a b : Act} {F F' : Nat → SW → Prop} {x : Value} (h : YP P ops W Φ e i o a F x) (he : execOp b.eval o = execOp a.eval o)
    (hw : Region.wanted o (yielded ops b.tmps) = Region.wanted o (yielded ops a.tmps)) (hF : ∀ w, ancF ops i F' w → ancF ops i F w) : YP P ops W Φ e i o b F' x := by
  unfold YP pureV at *
  rw [he, hw]
  rcases h with ⟨h1, h0, h2⟩ | h
  · exact .inl ⟨h1, h0, fun w hh => h2 w fun hh' => ⟨(hh hh').1, hF w (hh hh').2⟩⟩
  · exact .inr h

theorem M_firstP {i : Nat} {oi : Oper} {x : Value} (hI : Ind ops Φ) (hA : AncOk ops) (hi : ops[i]? = some oi) (hsel : ∀ (j : Nat) (o : Oper) cs b, ops[j]? = some o → o.op ≠ .select cs b)
    (hie : i ≠ e) :
    ∀ (fuel : Nat) (listed : Array Bool) (a : Act) (F : Nat → SW → Prop),
      (∀ j oj, ops[j]? = some oj → j ≠ i → listed.getD j true = false → (∀ d ∈ oj.after, Region.binds .any d = true → d.on ≠ i) → oi.apart ops oj = true) →
      Closed ops listed → i ∈ Region.ready .any ops listed → YP P ops W Φ e i oi a F x →
      wpAnyM P ops W Φ e Q fuel (listed.setIfInBounds i true) (a.put oi.dst x) F → wpAnyM P ops W Φ e Q (fuel + 1) listed a F := by
  intro fuel
  have own : ∀ fuel (listed : Array Bool) (a : Act) (F : Nat → SW → Prop), YP P ops W Φ e i oi a F x → wpAnyM P ops W Φ e Q fuel (listed.setIfInBounds i true) (a.put oi.dst x) F →
      mOp P ops W Φ e Q i (wpAnyM P ops W Φ e Q fuel (listed.setIfInBounds i true)) (wpAny P .any ops (Qo Q) fuel (listed.setIfInBounds i true)) a F := by
    intro fuel listed a F hy H
    unfold mOp
    simp only [hi]
    rcases hy with ⟨hw, hn, hv⟩ | ⟨hw, rfl⟩
    · simp only [hw, if_true, if_neg hie, hn]; exact ⟨x, hv, H⟩
    · simp only [hw, Bool.false_eq_true, if_false]; exact H
  induction fuel with
  | zero =>
    intro listed a F _ _ hr hy H
    refine ⟨fun h => (by rw [h] at hr; cases hr), fun j hj => ?_⟩
    by_cases hji : j = i
    · subst hji; exact own 0 listed a F hy H
    · have := ready_mono hj hji
      rw [H.1] at this
      cases this
  | succ fuel ih =>
    intro listed a F hfree hcl hr hy H
    refine ⟨fun h => (by rw [h] at hr; cases hr), fun j hj => ?_⟩
    by_cases hji : j = i
    · subst hji; exact own (fuel + 1) listed a F hy H
    · have h1 := H.2 j (ready_mono hj hji)
      obtain ⟨hjun, oj, hoj, hall⟩ := mem_ready.1 hj
      have hiun := (mem_ready.1 hr).1
      have hnot : ∀ d ∈ oj.after, Region.binds .any d = true → d.on ≠ i := fun d hd hb heq => by
        have h1 := hall d hd hb
        rw [heq] at h1
        rcases Nat.lt_or_ge i listed.size with h' | h'
        · simp [h'] at hiun h1; rw [hiun] at h1; cases h1
        · simp [Array.getElem?_eq_none h'] at h1
      have hap := hfree j oj hoj hji hjun hnot
      obtain ⟨q1, q2, q3⟩ := Oper.apart_spec hap
      have hij : anc ops i j = false := not_anc hA hcl hr hjun
      have hji' : anc ops j i = false := not_anc hA hcl hj hiun
      have hfree' : ∀ k ok, ops[k]? = some ok → k ≠ i → (listed.setIfInBounds j true).getD k true = false →
          (∀ d ∈ ok.after, Region.binds .any d = true → d.on ≠ i) → oi.apart ops ok = true := fun k ok hk hki hun hno => by
        refine hfree k ok hk hki ?_ hno
        by_cases hjk : j = k
        · subst hjk; exact hjun
        · rw [getD_set_ne true hjk] at hun; exact hun
      have hcl' := hcl.set hj
      have hr' := ready_mono hr (Ne.symm hji)
      have hx : execOp (a.put oi.dst x).eval oj = execOp a.eval oj := execOp_put oj (fun cs b => hsel j oj cs b hoj) a oi.dst x q1
      have hwx : Region.wanted oj (yielded ops (a.put oi.dst x).tmps) = Region.wanted oj (yielded ops a.tmps) := wanted_put oj a oi.dst x q1
      have hy' : ∀ (F' : Nat → SW → Prop) u, (∀ w, ancF ops i F' w → ancF ops i F w) → YP P ops W Φ e i oi (a.put oj.dst u) F' x := fun F' u hF' =>
        hy.same (execOp_put oi (fun cs b => hsel i oi cs b hi) a oj.dst u q3) (wanted_put oi a oj.dst u q3) hF'
      have comm : ∀ u, (a.put oi.dst x).put oj.dst u = (a.put oj.dst u).put oi.dst x := fun u => Act.put_comm a x u q2
      unfold mOp at h1 ⊢
      simp only [hoj, hwx] at h1 ⊢
      by_cases hwj : Region.wanted oj (yielded ops a.tmps) = true
      · simp only [hwj, if_true] at h1 ⊢
        by_cases hje : j = e
        · rw [if_pos hje] at h1 ⊢
          intro w hW hF
          have hE : early ops e i = false := by
            unfold early
            rw [← hje, hji']
            have := (Array.getElem?_eq_some_iff.1 hoj).1
            simp; omega
          have hyy : Yields P ops oi x a := by
            rcases hy with ⟨h, _, hv⟩ | h
            · exact .inl ⟨h, fun w => hv (w, []) fun hh => by rw [hE] at hh; cases hh⟩
            · exact .inr h
          have h2 := wpOp_put (Q := Qo Q) hoj hap (fun cs b => hsel i oi cs b hi) (fun cs b => hsel j oj cs b hoj) (fun c a w h => h.elim) hyy (h1 w hW hF)
          refine wpOp_mono (fun a' w' h3 => wpAny_first hi hsel (fun c a w h => h.elim) fuel (listed.setIfInBounds j true) a' w' hfree' hr' h3.1 ?_) h2
          rw [Array.setIfInBounds_comm _ _ hji]
          exact h3.2
        · rw [if_neg hje] at h1 ⊢
          cases hφ : Φ j with
          | none =>
            simp only [hφ] at h1 ⊢
            obtain ⟨y, hv, hk⟩ := h1
            refine ⟨y, by unfold pureV at *; rw [← hx]; exact hv, ih _ _ _ hfree' hcl' hr' (hy' F y fun _ h => h) ?_⟩
            rw [Array.setIfInBounds_comm _ _ hji, ← comm]
            exact hk
          | some φ =>
            simp only [hφ] at h1 ⊢
            rw [hI j φ hφ i oi hi hji' a x] at h1
            obtain ⟨hv, hk⟩ := h1
            refine ⟨fun w hW hF => wpU_congr hx (hv w hW hF), fun u hu => ih _ _ _ hfree' hcl' hr' (hy' _ u fun w => (ancF_upd hij).1) ?_⟩
            rw [Array.setIfInBounds_comm _ _ hji, ← comm]
            exact hk u hu
      · simp only [hwj] at h1 ⊢
        refine ih _ _ _ hfree' hcl' hr' (hy' F undef fun _ h => h) ?_
        rw [Array.setIfInBounds_comm _ _ hji, ← comm]
        exact h1

theorem M_firstM {i : Nat} {oi : Oper} {φd : SPd} {φ : SP} (hI : Ind ops Φ) (hA : AncOk ops) (hi : ops[i]? = some oi) (hsel : ∀ (j : Nat) (o : Oper) cs b, ops[j]? = some o → o.op ≠ .select cs b)
    (hie : i ≠ e) (hΦi : Φ i = some φd) (hearly : early ops e i = true) :
    ∀ (fuel : Nat) (listed : Array Bool) (a : Act) (F : Nat → SW → Prop), φd.at a = φ →
      (∀ j oj, ops[j]? = some oj → j ≠ i → listed.getD j true = false → (∀ d ∈ oj.after, Region.binds .any d = true → d.on ≠ i) → oi.apart ops oj = true) →
      Closed ops listed → i ∈ Region.ready .any ops listed → (∀ k, Stable (F k)) → (∃ w, W w ∧ ∀ k, F k w) →
      Region.wanted oi (yielded ops a.tmps) = true → monoV P ops W i oi a F φ →
      (∀ u, (∃ w, W w ∧ (∀ k, F k w) ∧ φ.p w u) → wpAnyM P ops W Φ e Q fuel (listed.setIfInBounds i true) (a.put oi.dst u) (upd F i fun w => φ.p w u)) → wpAnyM P ops W Φ e Q (fuel + 1) listed a F := by
  intro fuel
  have own : ∀ fuel (listed : Array Bool) (a : Act) (F : Nat → SW → Prop), φd.at a = φ → Region.wanted oi (yielded ops a.tmps) = true → monoV P ops W i oi a F φ →
      (∀ u, (∃ w, W w ∧ (∀ k, F k w) ∧ φ.p w u) → wpAnyM P ops W Φ e Q fuel (listed.setIfInBounds i true) (a.put oi.dst u) (upd F i fun w => φ.p w u)) →
      mOp P ops W Φ e Q i (wpAnyM P ops W Φ e Q fuel (listed.setIfInBounds i true)) (wpAny P .any ops (Qo Q) fuel (listed.setIfInBounds i true)) a F := by
    intro fuel listed a F hd hw hv H
    unfold mOp
    simp only [hi, hw, if_true, if_neg hie, hΦi, hd]
    exact ⟨hv, H⟩
  have some_u : ∀ (a : Act) (F : Nat → SW → Prop), (∀ k, Stable (F k)) → (∃ w, W w ∧ ∀ k, F k w) → monoV P ops W i oi a F φ → ∃ u w, W w ∧ (∀ k, F k w) ∧ φ.p w u := by
    rintro a F hS ⟨w, hW, hF⟩ hv
    obtain ⟨u, w', hW', hE, hu⟩ := wpU_ex (hv w hW fun k _ => hF k)
    exact ⟨u, push i w w', hW', fun k => hS k w _ (le_push hE) (hF k), hu⟩
  induction fuel with
  | zero =>
    intro listed a F hd _ _ hr hS hc hw hv H
    refine ⟨fun h => (by rw [h] at hr; cases hr), fun j hj => ?_⟩
    by_cases hji : j = i
    · subst hji; exact own 0 listed a F hd hw hv H
    · obtain ⟨u, hu⟩ := some_u a F hS hc hv
      have := ready_mono hj hji
      rw [(H u hu).1] at this
      cases this
  | succ fuel ih =>
    intro listed a F hd hfree hcl hr hS hc hw hv H
    refine ⟨fun h => (by rw [h] at hr; cases hr), fun j hj => ?_⟩
    by_cases hji : j = i
    · subst hji; exact own (fuel + 1) listed a F hd hw hv H
    · obtain ⟨u0, hu0⟩ := some_u a F hS hc hv
      obtain ⟨hjun, oj, hoj, hall⟩ := mem_ready.1 hj
      have hiun := (mem_ready.1 hr).1
      have hnot : ∀ d ∈ oj.after, Region.binds .any d = true → d.on ≠ i := fun d hd hb heq => by
        have h1 := hall d hd hb
        rw [heq] at h1
        rcases Nat.lt_or_ge i listed.size with h' | h'
        · simp [h'] at hiun h1; rw [hiun] at h1; cases h1
        · simp [Array.getElem?_eq_none h'] at h1
      have hap := hfree j oj hoj hji hjun hnot
      obtain ⟨q1, q2, q3⟩ := Oper.apart_spec hap
      have hij : anc ops i j = false := not_anc hA hcl hr hjun
      have hji' : anc ops j i = false := not_anc hA hcl hj hiun
      have hd' : ∀ y, φd.at (a.put oj.dst y) = φ := fun y => (hI i φd hΦi j oj hoj hij a y).trans hd
      have hfree' : ∀ k ok, ops[k]? = some ok → k ≠ i → (listed.setIfInBounds j true).getD k true = false →
          (∀ d ∈ ok.after, Region.binds .any d = true → d.on ≠ i) → oi.apart ops ok = true := fun k ok hk hki hun hno => by
        refine hfree k ok hk hki ?_ hno
        by_cases hjk : j = k
        · subst hjk; exact hjun
        · rw [getD_set_ne true hjk] at hun; exact hun
      have hcl' := hcl.set hj
      have hr' := ready_mono hr (Ne.symm hji)
      have hx : ∀ x, execOp (a.put oi.dst x).eval oj = execOp a.eval oj := fun x => execOp_put oj (fun cs b => hsel j oj cs b hoj) a oi.dst x q1
      have hwx : ∀ x, Region.wanted oj (yielded ops (a.put oi.dst x).tmps) = Region.wanted oj (yielded ops a.tmps) := fun x => wanted_put oj a oi.dst x q1
      have hxi : ∀ y, execOp (a.put oj.dst y).eval oi = execOp a.eval oi := fun y => execOp_put oi (fun cs b => hsel i oi cs b hi) a oj.dst y q3
      have hwi : ∀ y, Region.wanted oi (yielded ops (a.put oj.dst y).tmps) = true := fun y => (wanted_put oi a oj.dst y q3).trans hw
      have hvi : ∀ (F' : Nat → SW → Prop) y, (∀ w, ancF ops i F' w → ancF ops i F w) → monoV P ops W i oi (a.put oj.dst y) F' φ := fun F' y hF' w hW hF =>
        wpU_congr (hxi y).symm (hv w hW (hF' w hF))
      have comm : ∀ x u, (a.put oi.dst x).put oj.dst u = (a.put oj.dst u).put oi.dst x := fun x u => Act.put_comm a x u q2
      have h1 := fun u hu => (H u hu).2 j (ready_mono hj hji)
      unfold mOp at h1 ⊢
      simp only [hoj, hwx] at h1 ⊢
      by_cases hwj : Region.wanted oj (yielded ops a.tmps) = true
      · simp only [hwj, if_true] at h1 ⊢
        by_cases hje : j = e
        · exfalso
          unfold early at hearly
          rw [← hje, hji'] at hearly
          have := (Array.getElem?_eq_some_iff.1 hoj).1
          simp at hearly; omega
        · simp only [if_neg hje] at h1 ⊢
          cases hφ : Φ j with
          | none =>
            simp only [hφ] at h1 ⊢
            obtain ⟨y, hvy, hk0⟩ := h1 u0 hu0
            have hvy' : pureV P ops W e j oj a F y := by
              intro w hh
              have := hvy w fun hl => ⟨(hh hl).1, (ancF_upd hji').2 (hh hl).2⟩
              rwa [hx] at this
            refine ⟨y, hvy', ih _ _ _ (hd' y) hfree' hcl' hr' hS hc (hwi y) (hvi F y fun _ h => h) ?_⟩
            intro u hu
            obtain ⟨y', hvy2, hk⟩ := h1 u hu
            obtain ⟨w, hW, hF⟩ := hc
            have e1 := hvy' w fun _ => ⟨hW, fun k _ => hF k⟩
            have e2 := hvy2 w fun _ => ⟨hW, (ancF_upd hji').2 fun k _ => hF k⟩
            rw [hx, e1] at e2
            have hyy : y = y' := by simpa using e2
            subst hyy
            rw [Array.setIfInBounds_comm _ _ hji, ← comm]
            exact hk
          | some ψ0 =>
            simp only [hφ] at h1 ⊢
            generalize hψ : ψ0.at a = ψ
            have h1 : ∀ u hu, _ := fun u hu => by have q := h1 u hu; rw [hI j ψ0 hφ i oi hi hji' a u, hψ] at q; exact q
            refine ⟨fun w hW hF => wpU_congr (hx u0) ((h1 u0 hu0).1 w hW ((ancF_upd hji').2 hF)), fun y hy => ?_⟩
            have hS' : ∀ k, Stable (upd F j (fun w => ψ.p w y) k) := fun k w w' hE ⟨p1, p2⟩ => ⟨hS k w w' hE p1, fun hkj => ψ.st y w w' hE (p2 hkj)⟩
            obtain ⟨wy, hWy, hFy, hψy⟩ := hy
            refine ih _ _ _ (hd' y) hfree' hcl' hr' hS' ⟨wy, hWy, upd_all.2 ⟨hFy, hψy⟩⟩ (hwi y) (hvi _ y fun w => (ancF_upd hij).1) ?_
            rintro u ⟨w, hW, hF, hφu⟩
            obtain ⟨hF1, hF2⟩ := upd_all.1 hF
            rw [Array.setIfInBounds_comm _ _ hji, ← comm, upd_comm]
            exact (h1 u ⟨w, hW, hF1, hφu⟩).2 y ⟨w, hW, upd_all.2 ⟨hF1, hφu⟩, hF2⟩
      · simp only [hwj] at h1 ⊢
        refine ih _ _ _ (hd' undef) hfree' hcl' hr' hS hc (hwi undef) (hvi F undef fun _ h => h) ?_
        intro u hu
        rw [Array.setIfInBounds_comm _ _ hji, ← comm]
        exact h1 u hu

/-- THE WALK: the text's order, the effect left for the end. -/
def Chk (P : Program) (ops : Array Oper) (W : SW → Prop) (Φ : Nat → Option SPd) (e : Nat) (Z : Act → (Nat → SW → Prop) → Prop) : List Oper → Nat → Act → (Nat → SW → Prop) → Prop
  | [], _, a, F => Z a F
  | o :: l, i, a, F =>
    if i = e then Chk P ops W Φ e Z l (i + 1) a F
    else if Region.wanted o (yielded ops a.tmps) then
      match Φ i with
      | none => ∃ x, pureV P ops W e i o a F x ∧ Chk P ops W Φ e Z l (i + 1) (a.put o.dst x) F
      | some φ => monoV P ops W i o a F (φ.at a) ∧ ∀ u, (∃ w, W w ∧ (φ.at a).p w u) → Chk P ops W Φ e Z l (i + 1) (a.put o.dst u) (upd F i fun w => (φ.at a).p w u)
    else Chk P ops W Φ e Z l (i + 1) (a.put o.dst undef) F

def lexM (ops : Array Oper) (e k : Nat) : Nat → Nat → Array Bool → Bool
  | 0, i, listed => decide (i = k) && (if e < ops.size then decide (Region.ready .any ops listed = [e]) && Region.seqB .any ops (ops.size - k) k (listed.setIfInBounds e true)
      else (Region.ready .any ops listed).isEmpty && decide (k = ops.size))
  | f + 1, i, listed => if i = e then lexM ops e k f (i + 1) listed
      else (Region.ready .any ops listed).contains i && Region.free .any ops listed i && lexM ops e k f (i + 1) (listed.setIfInBounds i true)

def fuelM (ops : Array Oper) (e k : Nat) : Nat → Nat → Nat
  | 0, _ => if e < ops.size then (ops.size - k) + 1 else 0
  | f + 1, i => if i = e then fuelM ops e k f (i + 1) else fuelM ops e k f (i + 1) + 1

/-- what stands behind the walk. -/
def Zed (P : Program) (ops : Array Oper) (W : SW → Prop) (e k : Nat) (Q : Exit → Act → World → Prop) (a : Act) (F : Nat → SW → Prop) : Prop :=
  ∀ w, W w → (∀ k, F k w) → wpList P ops (Qo Q) ((ops[e]?).toList ++ ops.toList.drop k) a w.1

theorem M_lex {k : Nat} (hI : Ind ops Φ) (hA : AncOk ops) (hsel : Region.noSelect ops = true) (hearly : ∀ i φ, Φ i = some φ → i ≠ e → early ops e i = true) (hg : ∀ o, ops[e]? = some o → o.guard = none) :
    ∀ (l : List Oper) (i : Nat) (listed : Array Bool) (a : Act) (F : Nat → SW → Prop), (∀ j, j < l.length → l[j]? = ops[i + j]?) →
    Closed ops listed → (∀ k, Stable (F k)) → (∃ w, W w ∧ ∀ k, F k w) → lexM ops e k l.length i listed = true →
    Chk P ops W Φ e (Zed P ops W e k Q) l i a F → wpAnyM P ops W Φ e Q (fuelM ops e k l.length i) listed a F
  | [], i, listed, a, F, _, _, _, _, hB, h => by
    simp only [List.length_nil, lexM, Bool.and_eq_true, decide_eq_true_eq] at hB
    obtain ⟨rfl, hB⟩ := hB
    simp only [List.length_nil, fuelM]
    simp only [Chk, Zed] at h
    by_cases he : e < ops.size
    · rw [if_pos he] at hB
      simp only [he, if_true]
      simp only [Bool.and_eq_true, decide_eq_true_eq] at hB
      obtain ⟨h1, h2⟩ := hB
      refine ⟨fun h0 => (by rw [h1] at h0; cases h0), fun j hj => ?_⟩
      rw [h1] at hj
      obtain rfl : j = e := by simpa using hj
      have ho : ops[j]? = some ops[j] := Array.getElem?_eq_getElem he
      have hw : Region.wanted ops[j] (yielded ops a.tmps) = true := by simp [Region.wanted, hg _ ho]
      unfold mOp
      simp only [ho, hw, if_true]
      intro w hW hF
      have h3 := h w hW hF
      rw [ho] at h3
      simp only [Option.toList_some, List.singleton_append] at h3
      have h4 : wpOp P ops (Qo Q) j (wpList P ops (Qo Q) (ops.toList.drop i)) a w.1 := by unfold wpOp; simp only [ho]; exact h3
      have hlen : (ops.toList.drop i).length = ops.size - i := by simp
      refine wpOp_mono (fun a' w' h' => ?_) h4
      have := wpAny_of_seq (md := .any) (ops.toList.drop i) i (listed.setIfInBounds j true) a' w' (fun j => by simp [List.getElem?_drop]) (by rw [hlen]; exact h2) h'
      rwa [hlen] at this
    · rw [if_neg he] at hB
      simp only [he, if_false]
      simp only [Bool.and_eq_true, decide_eq_true_eq, List.isEmpty_iff] at hB
      obtain ⟨h1, rfl⟩ := hB
      refine ⟨h1, fun w hW hF => ?_⟩
      have h3 := h w hW hF
      rw [Array.getElem?_eq_none (by omega)] at h3
      rw [List.drop_eq_nil_of_le (by simp)] at h3
      simpa [wpList, Qo] using h3
  | o :: l, i, listed, a, F, hl, hcl, hS, hc, hB, h => by
    have h0 : ops[i]? = some o := by simpa using (hl 0 (by simp)).symm
    have hl' : ∀ j, j < l.length → l[j]? = ops[i + 1 + j]? := fun j hj => by
      have := hl (j + 1) (by simp; omega); simpa [Nat.add_assoc, Nat.add_comm 1 j] using this
    simp only [List.length_cons, lexM] at hB
    simp only [List.length_cons, fuelM]
    unfold Chk at h
    by_cases hie : i = e
    · rw [if_pos hie] at hB h ⊢
      exact M_lex hI hA hsel hearly hg l (i + 1) listed a F hl' hcl hS hc hB h
    · rw [if_neg hie] at hB h ⊢
      simp only [Bool.and_eq_true] at hB
      obtain ⟨⟨hr, hf⟩, hB'⟩ := hB
      have hr' : i ∈ Region.ready .any ops listed := by simpa using hr
      have hsp := Region.free_spec h0 hf
      have hcl' := hcl.set hr'
      by_cases hw : Region.wanted o (yielded ops a.tmps) = true
      · rw [if_pos hw] at h
        cases hφ : Φ i with
        | none =>
          simp only [hφ] at h
          obtain ⟨x, hx, hk⟩ := h
          exact M_firstP hI hA h0 (Region.noSelect_spec hsel) hie _ listed a F hsp hcl hr' (.inl ⟨hw, hφ, hx⟩) (M_lex hI hA hsel hearly hg l (i + 1) _ _ F hl' hcl' hS hc hB' hk)
        | some φ =>
          simp only [hφ] at h
          obtain ⟨hv, hk⟩ := h
          refine M_firstM hI hA h0 (Region.noSelect_spec hsel) hie hφ (hearly i φ hφ hie) _ listed a F rfl hsp hcl hr' hS hc hw hv fun u ⟨w, hW, hF, hu⟩ => ?_
          refine M_lex hI hA hsel hearly hg l (i + 1) _ _ _ hl' hcl' (fun k w w' hE ⟨p1, p2⟩ => ⟨hS k w w' hE p1, fun hki => (φ.at a).st u w w' hE (p2 hki)⟩) ⟨w, hW, upd_all.2 ⟨hF, hu⟩⟩ hB' (hk u ⟨w, hW, hu⟩)
      · rw [if_neg hw] at h
        have hw' : Region.wanted o (yielded ops a.tmps) = false := by simpa using hw
        exact M_firstP hI hA h0 (Region.noSelect_spec hsel) hie _ listed a F hsp hcl hr' (.inr ⟨hw', rfl⟩) (M_lex hI hA hsel hearly hg l (i + 1) _ _ F hl' hcl' hS hc hB' h)

/-- the table of ancestors, looked through. -/
def ancB (ops : Array Oper) : Bool :=
  (List.range ops.size).all fun i =>
    decide ((Region.before ops).getD i 0 < 2 ^ i) &&
    (List.range i).all fun k => !((Region.before ops).getD i 0).testBit k ||
      ((ops[i]?).map fun o => o.after.any fun d => Region.binds .any d && decide (d.on < i) && (d.on == k || ((Region.before ops).getD d.on 0).testBit k)).getD false

theorem ancB_size (ops : Array Oper) : (Region.before ops).size = ops.size := by
  unfold Region.before
  refine Array.foldl_induction (motive := fun i (acc : Array Nat) => acc.size = i) rfl ?_
  intro i acc h
  simp [h]

theorem AncOk.of (h : ancB ops = true) : AncOk ops := by
  intro i k ha
  unfold anc at ha
  by_cases hi : i < ops.size
  · simp only [ancB, List.all_eq_true, List.mem_range, Bool.and_eq_true, decide_eq_true_eq] at h
    obtain ⟨h1, h2⟩ := h i hi
    have hk : k < i := by
      rcases Nat.lt_or_ge k i with hk | hk
      · exact hk
      · exfalso
        have := Nat.testBit_lt_two_pow (Nat.lt_of_lt_of_le h1 (Nat.pow_le_pow_right (by omega) hk))
        rw [this] at ha; cases ha
    have h3 := h2 k hk
    rw [ha] at h3
    have ho : ops[i]? = some ops[i] := Array.getElem?_eq_getElem hi
    simp only [ho, Bool.not_true, Bool.false_or, Option.map_some, Option.getD_some] at h3
    obtain ⟨d, hd, hh⟩ := Array.any_eq_true'.1 h3
    simp only [Bool.and_eq_true, decide_eq_true_eq, Bool.or_eq_true, beq_iff_eq] at hh
    exact ⟨_, ho, d, hd, hh.1.1, hh.1.2, hh.2⟩
  · rw [Array.getD_eq_getD_getElem?, Array.getElem?_eq_none (by rw [ancB_size]; omega)] at ha
    simp at ha

/-- all that is asked of the region's form: e: the number of the one operation that writes (or the region's size); k: from k on all wait for e. -/
def monoB (ops : Array Oper) (e k : Nat) (Φ : List (Option SPd)) : Bool :=
  ((List.range Φ.length).all fun i => (match Φ[i]? with | some (some φ) => φ.ts.all fun t => (List.range ops.size).all fun j => (match ops[j]? with | some o => !(match o.dst with | some d => d == t | none => false) || anc ops i j | none => true) | _ => true)) &&
  Region.noSelect ops && ancB ops && (match ops[e]? with | some o => o.guard.isNone | none => true) &&
  ((List.range Φ.length).all fun i => (match Φ[i]? with | some (some _) => early ops e i || i == e | _ => true)) &&
  lexM ops e k k 0 (Array.replicate ops.size false) && decide (fuelM ops e k k 0 = ops.size) && decide (k ≤ ops.size)

theorem Ind.of {Φ : List (Option SPd)} (h : ((List.range Φ.length).all fun i => (match Φ[i]? with | some (some φ) => φ.ts.all fun t => (List.range ops.size).all fun j => (match ops[j]? with | some o => !(match o.dst with | some d => d == t | none => false) || anc ops i j | none => true) | _ => true)) = true) :
    Ind ops fun i => (Φ[i]?).getD none := by
  intro i φ hφ j oj hoj hij a x
  have hi : i < Φ.length := by
    rcases Nat.lt_or_ge i Φ.length with hi | hi
    · exact hi
    · simp only [List.getElem?_eq_none hi] at hφ; cases hφ
  have h1 := List.all_eq_true.1 h i (List.mem_range.2 hi)
  have hq : Φ[i]? = some (some φ) := by
    cases hh : Φ[i]? with
    | none => simp only [hh] at hφ; cases hφ
    | some y => simp only [hh, Option.getD_some] at hφ; rw [hφ]
  rw [hq] at h1
  refine SPd.at_put fun t ht hm => ?_
  have h2 := List.all_eq_true.1 h1 t hm
  have h3 := List.all_eq_true.1 h2 j (List.mem_range.2 (Array.getElem?_eq_some_iff.1 hoj).1)
  rw [hoj] at h3
  simp only [ht, hij, beq_self_eq_true, Bool.not_true, Bool.or_self] at h3
  cases h3
/-- the log is in order. -/
structure LogOk (w : World) (s : SW) : Prop where
  bd : ∀ x ∈ s.2, w.heap.size ≤ x.2.1 ∧ x.2.2 ≤ s.1.heap.size
  pw : s.2.Pairwise fun x y => y.2.2 ≤ x.2.1
def WL (w : World) (s : SW) : Prop := Ext w s.1 ∧ LogOk w s
theorem WL.push {w w' : World} {s : SW} (i : Nat) (h : WL w s) (hE : Ext s.1 w') : WL w (push i s w') := by
  obtain ⟨h1, h2, h3⟩ := h
  refine ⟨Ext.tr h1 hE, fun x hx => ?_, ?_⟩
  · simp only [L.push, List.mem_cons] at hx
    rcases hx with rfl | hx
    · exact ⟨h1.size, Nat.le_refl _⟩
    · exact ⟨(h2 x hx).1, Nat.le_trans (h2 x hx).2 hE.size⟩
  · simp only [L.push, List.pairwise_cons]
    exact ⟨fun y hy => (h2 y hy).2, h3⟩

theorem wpAny_mono {Q : Exit → Act → World → Prop} {a : Act} {w : World} {l : List Oper} (e k : Nat) (Φ : List (Option SPd))
    (hB : monoB l.toArray e k Φ = true)
    (h : Chk P l.toArray (WL w) (fun i => (Φ[i]?).getD none) e (Zed P l.toArray (WL w) e k Q) (l.take k) 0 a (fun _ _ => True)) : wpAny P .any l.toArray (Qo Q) l.toArray.size (Array.replicate l.toArray.size false) a { w with drawn := w.drawn + 1 } := by
  simp only [monoB, Bool.and_eq_true, decide_eq_true_eq] at hB
  obtain ⟨⟨⟨⟨⟨⟨⟨hi0, h1⟩, h2⟩, h3⟩, h4⟩, h5⟩, h6⟩, h7⟩ := hB
  have h7' : k ≤ l.length := by simpa using h7
  have hl : (l.take k).length = k := by simp; omega
  have h0 : WL w (w, []) := ⟨Ext.rfl' w, (fun x hx => by cases hx), .nil⟩
  have key := M_lex (P := P) (ops := l.toArray) (W := WL w) (Φ := fun i => (Φ[i]?).getD none) (e := e) (Q := Q) (k := k) (Ind.of hi0) (AncOk.of h2) h1
    (fun i φ hφ hie => by
      simp only [List.all_eq_true, List.mem_range] at h4
      have hi : i < Φ.length := by
        rcases Nat.lt_or_ge i Φ.length with hi | hi
        · exact hi
        · rw [List.getElem?_eq_none hi] at hφ; cases hφ
      have := h4 i hi
      cases hh : Φ[i]? with
      | none => rw [hh] at hφ; cases hφ
      | some x =>
        cases x with
        | none => rw [hh] at hφ; cases hφ
        | some y =>
          rw [hh] at this
          simp only [Bool.or_eq_true, beq_iff_eq] at this
          exact this.resolve_right hie)
    (fun o ho => by rw [ho] at h3; simpa using h3)
    (l.take k) 0 (Array.replicate l.toArray.size false) a (fun _ _ => True)
    (fun j hj => by rw [hl] at hj; simp [hj])
    (fun i o ho hli => by rw [getD_replicate_false] at hli; cases hli)
    (fun _ _ _ _ _ => trivial) ⟨(w, []), h0, fun _ => trivial⟩ (by rw [hl]; exact h5) h
  rw [hl, h6] at key
  have hw : Ext w { w with drawn := w.drawn + 1 } := ⟨rfl, rfl, rfl, Nat.le_refl _, fun _ _ => rfl⟩
  exact wpAny_of_M _ _ a (fun _ _ => True) ({ w with drawn := w.drawn + 1 }, []) (fun _ _ _ _ _ => trivial) ⟨hw, (fun x hx => by cases hx), .nil⟩ (fun _ => trivial) key
theorem wp_region_mono {id : Nat} {Q : Exit → Act → World → Prop} {a : Act} {w : World} {l : List Oper} (e k : Nat) (Φ : List (Option SPd)) (hm : P.follows .mixedOrders = true)
    (hB : monoB l.toArray e k Φ = true)
    (h : Chk P l.toArray (WL w) (fun i => (Φ[i]?).getD none) e (Zed P l.toArray (WL w) e k Q) (l.take k) 0 a (fun _ _ => True)) : (Code.region id l.toArray true).wp P Q a w :=
  wp_mono (Q := Qo Q) (wp_region_any hm (wpAny_mono e k Φ hB h)) fun x a w hx => by
    cases x <;> first | exact hx | exact hx.elim
end
end Go.Own.L

/-! the walk of a region that draws its order, memory by parts -/
namespace Go.Own
open Go Go.RowKit

/-- what is new: chunks that this operation laid. -/
def SPc (C : Value → List HP → Prop) (i : Nat) : L.SP where
  p s u := ∃ l' ws we, C u l' ∧ (i, ws.heap.size, we.heap.size) ∈ s.2 ∧ St ws NoX l' we ∧ Ext we s.1
  st := fun _ _ _ hle ⟨l', ws, we, h1, h2, h3, h4⟩ => ⟨l', ws, we, h1, by obtain ⟨p, hp⟩ := hle.log; rw [hp]; exact List.mem_append_right _ h2, h3, Ext.tr h4 hle.e⟩
/-- .. that looks at slots of the frame. -/
abbrev SPv (ts : List Tmp) (C : List Value → Value → List HP → Prop) (i : Nat) : L.SPd := ⟨ts, fun vs => SPc (C vs) i⟩
/-- the state, some operations' chunks being joined. -/
structure StJ (wr w0 : World) (X : Nat → Prop) (l : List HP) (s : L.SW) (J : List Nat) : Prop where
  ext : ExtX X w0 s.1
  le : w0.heap.size ≤ wr.heap.size
  sat : ∃ fs : Nat → Nat → Prop, (∀ (i : Nat) (c : HP), l[i]? = some c → c.p s.1 (fs i)) ∧ (∀ i b, fs i b → i < l.length ∧ (w0.heap.size ≤ b ∨ X b) ∧ b < s.1.heap.size) ∧ (∀ i j b, fs i b → fs j b → i = j) ∧
    ∀ i b, fs i b → b < wr.heap.size ∨ ∃ m ∈ J, ∃ x y, (m, x, y) ∈ s.2 ∧ x ≤ b ∧ b < y
theorem StJ.start {wr w0 : World} {X : Nat → Prop} {l : List HP} {s : L.SW} (h : St w0 X l wr) (hE : Ext wr s.1) : StJ wr w0 X l s [] := by
  obtain ⟨he, fs, h1, h2, h3⟩ := h
  exact ⟨he.tr (ExtX.of hE NoX) fun q hq => hq.elim, he.size, fs, fun i c hc => c.loc (h1 i c hc) (fun b hb => (h2 i b hb).2.2) fun b hb => hE.block b (h2 i b hb).2.2,
    fun i b hb => let ⟨a, b', c⟩ := h2 i b hb; ⟨a, b', Nat.lt_of_lt_of_le c hE.size⟩, h3, fun i b hb => .inl (h2 i b hb).2.2⟩
theorem StJ.st {wr w0 : World} {X : Nat → Prop} {l : List HP} {s : L.SW} {J : List Nat} (h : StJ wr w0 X l s J) : St w0 X l s.1 :=
  let ⟨he, _, fs, h1, h2, h3, _⟩ := h; ⟨he, fs, h1, h2, h3⟩
theorem pw_mem {R : Nat × Nat × Nat → Nat × Nat × Nat → Prop} {l : List (Nat × Nat × Nat)} (h : l.Pairwise R) {x y : Nat × Nat × Nat} (hx : x ∈ l) (hy : y ∈ l) (hne : x ≠ y) : R x y ∨ R y x := by
  induction h with
  | nil => cases hx
  | cons ha _ ih =>
    simp only [List.mem_cons] at hx hy
    rcases hx with rfl | hx <;> rcases hy with rfl | hy
    · exact absurd rfl hne
    · exact .inl (ha _ hy)
    · exact .inr (ha _ hx)
    · exact ih hx hy
theorem StJ.add {wr w0 ws we : World} {X : Nat → Prop} {l l' : List HP} {s : L.SW} {J : List Nat} {i : Nat} (h : StJ wr w0 X l s J) (hL : L.LogOk wr s) (hi : J.contains i = false) (hm : (i, ws.heap.size, we.heap.size) ∈ s.2)
    (k : St ws NoX l' we) (hE : Ext we s.1) : StJ wr w0 X (l' ++ l) s (i :: J) := by
  obtain ⟨he, hle, fs, h1, h2, h3, h4⟩ := h
  obtain ⟨ke, gs, k1, k2, k3⟩ := k
  have hi' : i ∉ J := by simpa using hi
  have hws := (hL.bd _ hm).1
  simp only at hws
  have key : ∀ j m b, gs j b → fs m b → False := fun j m b hj hm' => by
    obtain ⟨_, q, q'⟩ := k2 j b hj
    have q : ws.heap.size ≤ b := q.elim id fun x => x.elim
    rcases h4 m b hm' with r | ⟨n, hn, x, y, hxy, hb1, hb2⟩
    · omega
    · have hne : (i, ws.heap.size, we.heap.size) ≠ (n, x, y) := fun e => hi' (by have := congrArg Prod.fst e; simp only at this; rw [this]; exact hn)
      rcases pw_mem hL.pw hm hxy hne with r | r
      · simp only at r; omega
      · simp only at r; omega
  refine ⟨he, hle, fun j b => if j < l'.length then gs j b else fs (j - l'.length) b, fun j d hd => ?_, fun j b hb => ?_, fun j m b hj hm => ?_, fun j b hb => ?_⟩
  · by_cases hj : j < l'.length
    · rw [List.getElem?_append_left hj] at hd
      have e : (fun b => if j < l'.length then gs j b else fs (j - l'.length) b) = gs j := by funext b; simp [hj]
      exact HP.eq_p e <| d.loc (k1 j d hd) (fun b hb => (k2 j b hb).2.2) fun b hb => hE.block b (k2 j b hb).2.2
    · rw [List.getElem?_append_right (by omega)] at hd
      have e : (fun b => if j < l'.length then gs j b else fs (j - l'.length) b) = fs (j - l'.length) := by funext b; simp [hj]
      exact HP.eq_p e <| h1 _ d hd
  · by_cases hj : j < l'.length
    · simp only [hj, if_true] at hb
      obtain ⟨a, b', c⟩ := k2 j b hb
      have b' : ws.heap.size ≤ b := b'.elim id fun x => x.elim
      exact ⟨by simp; omega, .inl (by omega), Nat.lt_of_lt_of_le c hE.size⟩
    · simp only [hj, if_false] at hb
      obtain ⟨a, b', c⟩ := h2 _ b hb
      exact ⟨by simp; omega, b', c⟩
  · by_cases hj' : j < l'.length <;> by_cases hm' : m < l'.length
    · simp only [hj', hm', if_true] at hj hm; exact k3 j m b hj hm
    · simp only [hj', hm', if_true, if_false] at hj hm; exact (key j _ b hj hm).elim
    · simp only [hj', hm', if_true, if_false] at hj hm; exact (key m _ b hm hj).elim
    · simp only [hj', hm', if_false] at hj hm
      have := h3 _ _ b hj hm
      omega
  · by_cases hj : j < l'.length
    · simp only [hj, if_true] at hb
      obtain ⟨_, q, q'⟩ := k2 j b hb
      have q : ws.heap.size ≤ b := q.elim id fun x => x.elim
      exact .inr ⟨i, by simp, _, _, hm, q, q'⟩
    · simp only [hj, if_false] at hb
      rcases h4 _ b hb with r | ⟨n, hn, r⟩
      · exact .inl r
      · exact .inr ⟨n, by simp [hn], r⟩

section
variable {P : Program} {ops : Array Oper} {w0 : World} {Φ : Nat → Option L.SPd} {e : Nat} {Z : Act → (Nat → L.SW → Prop) → Prop} {l : List Oper} {o : Oper} {i : Nat} {A A' : Act} {F : Nat → L.SW → Prop} {d : Tmp} {v : Value} {x y : Operand}
structure DK (P : Program) (ops : Array Oper) (w0 : World) (Φ : Nat → Option L.SPd) (e : Nat) (Z : Act → (Nat → L.SW → Prop) → Prop) (l : List Oper) (i : Nat) (A : Act) (F : Nat → L.SW → Prop) : Prop where
  out : L.Chk P ops (L.WL w0) Φ e Z l i A F
theorem D_eff (he : i = e) (h : DK P ops w0 Φ e Z l (i + 1) A F) : DK P ops w0 Φ e Z (o :: l) i A F := ⟨by unfold L.Chk; rw [if_pos he]; exact h.out⟩
theorem D_pure (hd : A.put o.dst v = A') (hw : Region.wanted o (yielded ops A.tmps) = true) (hx : ∀ s : L.SW, (L.early ops e i = true → L.WL w0 s ∧ L.ancF ops i F s) → ValW P A o s.1 v) (he : (i == e) = false) (hΦ : Φ i = none)
    (h : DK P ops w0 Φ e Z l (i + 1) A' F) : DK P ops w0 Φ e Z (o :: l) i A F := by
  refine ⟨?_⟩
  unfold L.Chk; rw [if_neg (by simpa using he), if_pos hw]; simp only [hΦ]
  exact ⟨v, fun s hs => ex_ev (hx s hs), by rw [hd]; exact h.out⟩
theorem D_v (hd : o.dst = some d) (hw : Region.wanted o (yielded ops A.tmps) = true) (hx : Val P A o v) (he : (i == e) = false) (hΦ : Φ i = none) (h : DK P ops w0 Φ e Z l (i + 1) (PT A d v) F) : DK P ops w0 Φ e Z (o :: l) i A F :=
  D_pure (A' := PT A d v) (by rw [hd]; rfl) hw (fun s _ => hx s.1) he hΦ h
theorem D_r (hd : o.dst = some d) (hw : Region.wanted o (yielded ops A.tmps) = true) (hE : L.early ops e i = true) (hx : ∀ s : L.SW, Ext w0 s.1 → L.ancF ops i F s → ValW P A o s.1 v) (he : (i == e) = false) (hΦ : Φ i = none)
    (h : DK P ops w0 Φ e Z l (i + 1) (PT A d v) F) : DK P ops w0 Φ e Z (o :: l) i A F :=
  D_pure (A' := PT A d v) (by rw [hd]; rfl) hw (fun s hs => hx s (hs hE).1.1 (hs hE).2) he hΦ h
theorem D_off (hd : o.dst = some d) (hw : Region.wanted o (yielded ops A.tmps) = false) (he : (i == e) = false) (h : DK P ops w0 Φ e Z l (i + 1) (PT A d undef) F) : DK P ops w0 Φ e Z (o :: l) i A F := by
  refine ⟨?_⟩
  unfold L.Chk; rw [if_neg (by simpa using he), if_neg (by rw [hw]; exact Bool.false_ne_true), hd]; exact h.out
theorem D_split {p : Prop} [Decidable p] (hd : o.dst = some d) (hw : Region.wanted o (yielded ops A.tmps) = true) (hx : Val P A o (.bool (decide p))) (he : (i == e) = false) (hΦ : Φ i = none)
    (ht : p → DK P ops w0 Φ e Z l (i + 1) (PT A d (.bool true)) F) (hf : ¬ p → DK P ops w0 Φ e Z l (i + 1) (PT A d (.bool false)) F) : DK P ops w0 Φ e Z (o :: l) i A F := by
  refine D_v hd hw hx he hΦ ?_
  by_cases h : p
  · rw [decide_eq_true h]; exact ht h
  · rw [decide_eq_false h]; exact hf h
theorem D_new {ts : List Tmp} {vs : List Value} {C0 : List Value → Value → List HP → Prop} {C : Value → List HP → Prop} (hd : o.dst = some d) (hw : Region.wanted o (yielded ops A.tmps) = true) (he : (i == e) = false) (hΦ : Φ i = some (SPv ts C0 i)) (hts : ts.map (fun t => EV A (.tmp t)) = vs) (hC : C0 vs = C)
    (hx : ∀ s : L.SW, Ext w0 s.1 → L.ancF ops i F s → wpU P o A s.1 fun u w' => ∃ l', C u l' ∧ St s.1 NoX l' w')
    (h : ∀ u l', C u l' → DK P ops w0 Φ e Z l (i + 1) (PT A d u) (L.upd F i fun s => (SPc C i).p s u)) : DK P ops w0 Φ e Z (o :: l) i A F := by
  refine ⟨?_⟩
  have hat : (SPv ts C0 i).at A = SPc C i := by rw [← hC, ← hts]; rfl
  unfold L.Chk; rw [if_neg (by simpa using he), if_pos hw]; simp only [hΦ, hat]
  refine ⟨fun s hs hF => wpU_mono (fun u w' ⟨l', h1, h2⟩ => ?_) (hx s hs.1 hF), fun u ⟨s, hs, l', _, _, hC, _⟩ => by rw [hd]; exact (h u l' hC).out⟩
  exact ⟨hs.push i h2.e, h2.e, l', s.1, w', h1, by simp [L.push], h2, Ext.rfl' _⟩
theorem D_call {ts : List Tmp} {vs : List Value} {C0 : List Value → Value → List HP → Prop} {C : Value → List HP → Prop} {f : FuncId} {fn : Func} {xs : Array Operand} {ats : Array TypeId} {args : Array Value} (hd : o.dst = some d) (hw : Region.wanted o (yielded ops A.tmps) = true)
    (ho : o.op = .call { callee := .value (.func f), args := xs, argTypes := ats }) (hf : P.funcs[f]? = some fn)
    (hn : (fn.name == "runtime.NumGoroutine") = false) (hb : fn.body.isNone = false) (ha : xs.map (EV A) = args) (he : (i == e) = false) (hΦ : Φ i = some (SPv ts C0 i)) (hts : ts.map (fun t => EV A (.tmp t)) = vs) (hC : C0 vs = C)
    (hx : ∀ s : L.SW, Ext w0 s.1 → L.ancF ops i F s → Calls P f args s.1 fun e w' => ∃ v, e = .returned v ∧ ∃ l', C v l' ∧ St s.1 NoX l' w')
    (h : ∀ u l', C u l' → DK P ops w0 Φ e Z l (i + 1) (PT A d u) (L.upd F i fun s => (SPc C i).p s u)) : DK P ops w0 Φ e Z (o :: l) i A F := by
  refine D_new hd hw he hΦ hts hC (fun s hs hF => ?_) h
  unfold wpU
  rw [ex_ev (run_call ho hf hn hb ha s.1)]
  exact (hx s hs hF).mono fun e w' ⟨v, he, hl⟩ => by subst he; exact hl
/-- a value and a new world at once. -/
theorem D_lay {ts : List Tmp} {vs : List Value} {C0 : List Value → Value → List HP → Prop} {C : Value → List HP → Prop} (hd : o.dst = some d) (hw : Region.wanted o (yielded ops A.tmps) = true) (he : (i == e) = false) (hΦ : Φ i = some (SPv ts C0 i)) (hts : ts.map (fun t => EV A (.tmp t)) = vs) (hC : C0 vs = C)
    (hx : ∀ s : L.SW, Ext w0 s.1 → L.ancF ops i F s → ∃ u w', (execOp (EV A) o).run P s.1 = .ok (.value u) w' ∧ ∃ l', C u l' ∧ St s.1 NoX l' w')
    (h : ∀ u l', C u l' → DK P ops w0 Φ e Z l (i + 1) (PT A d u) (L.upd F i fun s => (SPc C i).p s u)) : DK P ops w0 Φ e Z (o :: l) i A F := by
  refine D_new hd hw he hΦ hts hC (fun s hs hF => ?_) h
  obtain ⟨u, w', hr, hl⟩ := hx s hs hF
  unfold wpU
  rw [ex_ev hr]
  exact hl
theorem region_monoS {id : Nat} {Q : Exit → Act → World → Prop} {w : World} {l : List Oper} (e k : Nat) (Φ : List (Option L.SPd)) (hm : P.follows .mixedOrders = true) (hB : L.monoB l.toArray e k Φ = true)
    (h : DK P l.toArray w (fun i => (Φ[i]?).getD none) e (L.Zed P l.toArray (L.WL w) e k Q) (l.take k) 0 A (fun _ _ => True)) : (Code.region id l.toArray true).wp P Q A w := L.wp_region_mono e k Φ hm hB h.out
theorem R_monoS {r : Option Nat} {id : Nat} {Q : Exit → Act → World → Prop} {w : World} {l : List Oper} (hn : noDef l = true) (e k : Nat) (Φ : List (Option L.SPd)) (hm : P.follows .mixedOrders = true) (hB : L.monoB l.toArray e k Φ = true)
    (h : DK P l.toArray w (fun i => (Φ[i]?).getD none) e (L.Zed P l.toArray (L.WL w) e k Q) (l.take k) 0 A (fun _ _ => True)) : wpR r P (Code.region id l.toArray true) Q A w :=
  wpIn_mono (Q := Qo Q) (wpIn_region_any hm (wpAny_up Qo_in hn _ _ _ _ (L.wpAny_mono e k Φ hB h.out))) fun _ _ _ h => Qo_mono h
theorem ZS_eff {k : Nat} {Q : Exit → Act → World → Prop} {wb : World} {X : Nat → Prop} {cs : List HP} (hS : St wb X cs w0) (he : ops[e]? = some o) (hk : ops.toList.drop k = l)
    (h : ∀ s : L.SW, StJ w0 wb X cs s [] → L.LogOk w0 s → (∀ k, F k s) → WX P ops (Qo Q) (o :: l) A s.1) : DK P ops w0 Φ e (L.Zed P ops (L.WL w0) e k Q) [] i A F :=
  ⟨fun s hs hF => by have := (h s (StJ.start hS hs.1) hs.2 hF).out; rw [he, hk]; exact this⟩
theorem ZS_none {k : Nat} {Q : Exit → Act → World → Prop} {wb : World} {X : Nat → Prop} {cs : List HP} (hS : St wb X cs w0) (he : ops.size ≤ e) (hk : ops.size ≤ k)
    (h : ∀ s : L.SW, StJ w0 wb X cs s [] → L.LogOk w0 s → (∀ k, F k s) → Q .normal A s.1) : DK P ops w0 Φ e (L.Zed P ops (L.WL w0) e k Q) [] i A F :=
  ⟨fun s hs hF => by
    rw [Array.getElem?_eq_none he, List.drop_eq_nil_of_le (by simpa using hk)]
    exact h s (StJ.start hS hs.1) hs.2 hF⟩
end
namespace L
section
variable {ops : Array Oper} {F : Nat → SW → Prop}
theorem ancF_get {i k : Nat} {f : SW → Prop} {w : SW} (h : ancF ops i (upd F k f) w) (hk : anc ops i k = true) : f w := (h k hk).2 rfl
theorem ancF_rest {i k : Nat} {f : SW → Prop} {w : SW} (h : ancF ops i (upd F k f) w) : ancF ops i F w := fun j hj => (h j hj).1
theorem all_get {k : Nat} {f : SW → Prop} {w : SW} (h : ∀ j, upd F k f j w) : f w := (h k).2 rfl
theorem all_rest {k : Nat} {f : SW → Prop} {w : SW} (h : ∀ j, upd F k f j w) : ∀ j, F j w := fun j => (h j).1
end
end L
end Go.Own
namespace Go.Own
open Go Go.RowKit
section
variable {A : Act} {a b c d : Tmp} {x y z u : Value}
theorem ts1 (h1 : EV A (.tmp a) = x) : ([a] : List Tmp).map (fun t => EV A (.tmp t)) = [x] := by rw [List.map_cons, h1]; rfl
theorem ts2 (h1 : EV A (.tmp a) = x) (h2 : EV A (.tmp b) = y) : ([a, b] : List Tmp).map (fun t => EV A (.tmp t)) = [x, y] := by rw [List.map_cons, h1, ts1 h2]
end
end Go.Own

/-! kinds of chunks; one rule for each operation, memory by parts -/
namespace Go.Own
open Go Go.RowKit

/-- block g holds o. -/
def ob (g : Nat) (o : Obj) : HP := ⟨fun w f => f g ∧ w.heap[g]? = some o, fun h _ hb => ⟨h.1, (hb _ h.1).trans h.2⟩⟩
abbrev bx (g : Nat) (T : TypeId) (cs : Array Value) : HP := ob g (.cells cs T (0, 0))
/-- v reads as n elements of s cells each, the cells xs. -/
def sl (s n : Nat) (v : Value) (xs : List Value) : HP where
  p w f := ∃ a cap, v = .slice a n cap ∧ n ≤ cap ∧ cap ≤ 9223372036854775807 ∧ xs.length = n * s ∧ (a = none → n = 0) ∧
    ∀ b, a = some b → (0 < cap → b.spot = none) ∧ ∀ (j : Nat) (x : Value), xs[j]? = some x → f b.block ∧ w.cell? ⟨b.block, b.off + j, none⟩ = some x
  loc := fun ⟨a, cap, h0, h1, h2, h3, h4, h5⟩ _ hb => ⟨a, cap, h0, h1, h2, h3, h4, fun b e => ⟨(h5 b e).1, fun j x hj => by
    obtain ⟨q1, q2⟩ := (h5 b e).2 j x hj
    refine ⟨q1, ?_⟩
    unfold World.cell? at q2 ⊢
    rw [hb _ q1]; exact q2⟩⟩
/-- .. in a block of its own, that may be written and appended to. -/
def ow (s n : Nat) (v : Value) (xs : List Value) : HP where
  p w f := xs.length = n * s ∧ ((∃ a, v = .slice a 0 0 ∧ n = 0 ∧ ∀ b : Addr, a = some b → 0 < 0 → b.spot = none) ∨
    ∃ g off cap cur T, v = .slice (some ⟨g, off, none⟩) n cap ∧ f g ∧ w.heap[g]? = some (.cells cur T (0, 0)) ∧ n ≤ cap ∧ cap ≤ maxLen ∧ off + cap * s ≤ cur.size ∧ ∀ (j : Nat) (x : Value), xs[j]? = some x → cur[off + j]? = some x)
  loc := fun ⟨h0, h⟩ _ hb => ⟨h0, h.imp id fun ⟨g, off, cap, cur, T, h1, h2, h3, h4⟩ => ⟨g, off, cap, cur, T, h1, h2, (hb _ h2).trans h3, h4⟩⟩
/-- both, of the same blocks. -/
def HP.and (c d : HP) : HP := ⟨fun w f => c.p w f ∧ d.p w f, fun h hs hb => ⟨c.loc h.1 hs hb, d.loc h.2 hs hb⟩⟩
/-- nothing is said of memory. -/
def pu (p : Prop) : HP := ⟨fun _ _ => p, fun h _ _ => h⟩
abbrev il (k : IntKind) (v : Value) (zs : List Int) : HP := sl 1 zs.length v (zs.map (Value.int k))
abbrev io (k : IntKind) (v : Value) (zs : List Int) : HP := ow 1 zs.length v (zs.map (Value.int k))
abbrev bo (v : Value) (zs : List Bool) : HP := ow 1 zs.length v (zs.map Value.bool)
abbrev rl {α : Type} (s : Nat) (fn : α → List Value) (v : Value) (ys : List α) : HP := sl s ys.length v (ys.flatMap fn)
abbrev ro {α : Type} (s : Nat) (fn : α → List Value) (v : Value) (ys : List α) : HP := ow s ys.length v (ys.flatMap fn)

section
variable {w w' w0 : World} {X f : Nat → Prop} {s n : Nat} {v : Value} {xs : List Value} {c : HP}
theorem sl_SlN (h : (sl s n v xs).at w) : SlN w s v n xs := by
  obtain ⟨f, a, cap, h0, h1, h2, h3, h4, h5⟩ := h
  exact ⟨a, cap, h0, h1, h2, h3, h4, fun b e => ⟨(h5 b e).1, fun j x hj => ((h5 b e).2 j x hj).2⟩⟩
theorem SlN.p (h : SlN w s v n xs) : (sl s n v xs).p w (fun b => b < w.heap.size) := by
  obtain ⟨a, cap, h0, h1, h2, h3, h4, h5⟩ := h
  exact ⟨a, cap, h0, h1, h2, h3, h4, fun b e => ⟨(h5 b e).1, fun j x hj => ⟨World.block_lt_of_cell? w (⟨b.block, b.off + j, none⟩ : Addr) ((h5 b e).2 j x hj), (h5 b e).2 j x hj⟩⟩⟩
theorem SlN.ro (h : SlN w s v n xs) : Ro w NoX (sl s n v xs) := ⟨_, h.p, fun _ hb => ⟨hb, fun x => x⟩⟩
theorem ow_sl (h : (ow s n v xs).p w f) : (sl s n v xs).p w f := by
  obtain ⟨h0, ⟨a, rfl, rfl, ha⟩ | ⟨g, off, cap, cur, T, rfl, h1, h2, h3, h4, h5, h6⟩⟩ := h
  · have : xs = [] := List.eq_nil_of_length_eq_zero (by simpa using h0)
    subst this
    exact ⟨a, 0, rfl, by simp, by simp, by simp, fun _ => rfl, fun b e => ⟨ha b e, fun j x hj => by simp at hj⟩⟩
  · refine ⟨_, cap, rfl, h3, by unfold maxLen at h4; omega, h0, fun h => (by cases h), fun b e => ?_⟩
    cases e
    exact ⟨fun _ => rfl, fun j x hj => ⟨h1, by rw [cell_of_row _ _ _ _ _ _ h2]; exact h6 j x hj⟩⟩
theorem ow_at (h : (ow s n v xs).at w) : SlN w s v n xs := let ⟨f, hf⟩ := h; sl_SlN ⟨f, ow_sl hf⟩
theorem Ro.own (h : Ro w0 X (ow s n v xs)) : Ro w0 X (sl s n v xs) := let ⟨f, h1, h2⟩ := h; ⟨f, ow_sl h1, h2⟩
theorem Ro.fst {c d : HP} (h : Ro w0 X (c.and d)) : Ro w0 X c := let ⟨f, h1, h2⟩ := h; ⟨f, h1.1, h2⟩
theorem Ro.snd {c d : HP} (h : Ro w0 X (c.and d)) : Ro w0 X d := let ⟨f, h1, h2⟩ := h; ⟨f, h1.2, h2⟩
theorem ob_at {g : Nat} {o : Obj} (h : (ob g o).at w) : w.heap[g]? = some o := let ⟨_, h1⟩ := h; h1.2
theorem SlN.blk (h : SlN w s v n xs) (hn : 0 < n) : ∃ B O C, v = .slice (some ⟨B, O, none⟩) n C := by
  obtain ⟨a, cap, rfl, hcp, _, _, h4, h5⟩ := h
  cases a with
  | none => have := h4 rfl; omega
  | some b => obtain ⟨B, O, sp⟩ := b; have e := (h5 _ rfl).1 (by omega); simp only at e; subst e; exact ⟨B, O, cap, rfl⟩
theorem SlN.cell {B O C j : Nat} {y : Value} (h : SlN w s v n xs) (hv : v = .slice (some ⟨B, O, none⟩) n C) (hy : xs[j]? = some y) : w.cell? ⟨B, O + j, none⟩ = some y := by
  obtain ⟨a, cap, h0, _, _, _, h4, h5⟩ := h
  rw [hv] at h0; cases h0
  exact (h5 _ rfl).2 j y hy
theorem SlN.len (h : SlN w s v n xs) : xs.length = n * s := by obtain ⟨_, _, _, _, _, h3, _⟩ := h; exact h3
theorem SlN.le (h : SlN w s v n xs) : (n : Int) ≤ 9223372036854775807 := by obtain ⟨_, _, _, h1, h2, h3, _⟩ := h; omega
/-- nil. -/
theorem ow_nil {w : World} {s : Nat} : (ow s 0 (.slice none 0 0) []).p w f := ⟨by simp, .inl ⟨none, rfl, rfl, fun b e => by cases e⟩⟩
theorem sl_nil {w : World} {s : Nat} : (sl s 0 (.slice none 0 0) []).p w f := ow_sl ow_nil
theorem ro_nil {w : World} {s : Nat} {X : Nat → Prop} : Ro w X (sl s 0 (.slice none 0 0) []) := ⟨fun _ => False, sl_nil, fun _ h => h.elim⟩
/-- a nil slice is a chunk of own memory. -/
theorem St.pnil {l : List HP} (h : St w0 X l w) : ∃ c, c = ow s 0 (.slice none 0 0) [] ∧ St w0 X (c :: l) w := ⟨_, rfl, h.push (Ext.rfl' _) (f := fun _ => False) ow_nil fun _ h => h.elim⟩
end

def subS (s : Nat) (v : Value) (lo hh : Nat) : Value := match v with | .slice a _ cap => .slice (if cap = lo then a else a.map (·.add (lo * s))) (hh - lo) (cap - lo) | v => v
theorem flat_get {α : Type} {s : Nat} {fn : α → List Value} (hs : ∀ a, (fn a).length = s) : ∀ (ys : List α) (k j : Nat) (y : α) (u : Value), ys[k]? = some y → (fn y)[j]? = some u → (ys.flatMap fn)[k * s + j]? = some u
  | [], k, j, y, u, h, _ => by simp at h
  | z :: ys, 0, j, y, u, h, h' => by
    simp at h; subst h
    have := (List.getElem?_eq_some_iff.1 h').1
    simp only [List.flatMap_cons, Nat.zero_mul, Nat.zero_add]
    rw [List.getElem?_append_left this]; exact h'
  | z :: ys, k + 1, j, y, u, h, h' => by
    have ih := flat_get hs ys k j y u (by simpa using h) h'
    simp only [List.flatMap_cons]
    rw [List.getElem?_append_right (by rw [hs, Nat.add_mul]; omega), hs, show (k + 1) * s + j - s = k * s + j by rw [Nat.add_mul]; omega]
    exact ih

section
variable {P : Program} {ops : Array Oper} {l : List Oper} {o : Oper} {A : Act} {Q : Exit → Act → World → Prop} {w w' w0 : World} {X : Nat → Prop} {cs : List HP} {c : HP} {d : Tmp} {v v1 v2 : Value} {x y : Operand} {k : IntKind} {a b : Int} {s n : Nat} {xs : List Value}

/-! values -/
theorem V_lenS {t e : TypeId} {wS : World} (ho : o.op = .call { callee := .builtin .len, args := #[x], argTypes := #[t] }) (hx : EV A x = v) (h : SlN wS s v n xs) (ht : P.underlying t = some (.slice e)) : Val P A o (.int .i64 (n : Int)) := by
  obtain ⟨a, c, hv⟩ := h.form
  exact V_len ho hx hv ht
theorem V_ixS {p : Operand} {t e : TypeId} {B O C off : Nat} {z : Int} {kd : IntKind} (s k : Nat) (ho : o.op = .indexAddr t x p) (hx : EV A x = v) (hp : EV A p = .int kd z) (hv : v = .slice (some ⟨B, O, none⟩) n C) (hz : z = (k : Int)) (hk : k < n)
    (ht : P.underlying t = some (.slice e)) (hi : (P.info? e).map (·.size) = some s) (hoff : O + k * s = off) : Val P A o (.pointer (some ⟨B, off, none⟩)) := fun w => by
  cases hq : P.info? e with
  | none => simp [hq] at hi
  | some inf =>
    have hs : inf.size = s := by simpa [hq] using hi
    subst hz hv hoff
    unfold execOp
    simp [ho, hx, hp, Instr.indexAt, asIntOf, run_underlying ht, sizeOf, typeInfo, hq, hs, hk, Addr.add]
theorem VR_ldR {T B off : Nat} {ys : List Value} {de : TypeDesc} (ho : o.op = .load T x) (hx : EV A x = .pointer (some ⟨B, off, none⟩)) (hc : ∀ j u, ys[j]? = some u → w.cell? ⟨B, off + j, none⟩ = some u)
    (hu : P.underlying T = some de) (hd : de.isRow = true) (hi : (P.info? T).map (·.size) = some ys.length) : ValW P A o w (.agg ys.toArray) :=
  VR_ldM ho hx hc hu hd hi
theorem SlN.row {α : Type} {fn : α → List Value} {ys : List α} {B O C k off : Nat} {y : α} (hs : ∀ a, (fn a).length = s) (h : SlN w s v n (ys.flatMap fn)) (hv : v = .slice (some ⟨B, O, none⟩) n C) (hy : ys[k]? = some y) (hoff : O + k * s = off) : ∀ j u, (fn y)[j]? = some u → w.cell? ⟨B, off + j, none⟩ = some u := fun j u hu => by
  have := h.cell hv (flat_get hs ys k j y u hy hu)
  rw [← hoff, Nat.add_assoc]; exact this
/-- x[lo:hi] -/
theorem V_subS {lov hiv : Option Operand} {t e : TypeId} {wS : World} (s lo hh : Nat) (ho : o.op = .slice t x lov hiv none) (hx : EV A x = v)
    (hlo : lov = none ∧ lo = 0 ∨ ∃ p z, lov = some p ∧ EV A p = .int .i64 z ∧ z = (lo : Int)) (hhi : hiv = none ∧ hh = n ∨ ∃ p z, hiv = some p ∧ EV A p = .int .i64 z ∧ z = (hh : Int))
    (ht : P.underlying t = some (.slice e)) (hi : (P.info? e).map (·.size) = some s) (hv : SlN wS s v n xs) (h1 : lo ≤ hh) (h2 : hh ≤ n) : Val P A o (subS s v lo hh) := fun w => by
  cases hq : P.info? e with
  | none => simp [hq] at hi
  | some inf =>
    have hs : inf.size = s := by simpa [hq] using hi
    obtain ⟨a, cap, rfl⟩ := hv.form
    have g1 : n ≤ cap := by obtain ⟨_, _, h, h', _⟩ := hv; cases h; exact h'
    unfold execOp subS
    rcases hlo with ⟨rfl, rfl⟩ | ⟨p, z, rfl, hp, rfl⟩ <;> rcases hhi with ⟨rfl, rfl⟩ | ⟨p', z', rfl, hp', rfl⟩ <;>
      simp [ho, hx, *, Instr.sliceAt, Instr.slice, Instr.sliceBounds, Instr.sliceBound, run_underlying ht, sizeOf, typeInfo, hq, hs, asIntOf, h1, Nat.le_trans h2 g1] <;> omega
theorem add_off {c : Addr} {q : Nat} (hc : c.spot = none) : (c.add q).block = c.block ∧ (c.add q).off = c.off + q ∧ (c.add q).spot = none := by
  unfold Addr.add; split <;> simp_all
theorem sl_sub {f : Nat → Prop} (h : (sl s n v xs).p w f) (lo hh : Nat) (h1 : lo ≤ hh) (h2 : hh ≤ n) : (sl s (hh - lo) (subS s v lo hh) ((xs.drop (lo * s)).take ((hh - lo) * s))).p w f := by
  obtain ⟨a, cap, rfl, g1, g2, g3, g4, g5⟩ := h
  refine ⟨_, cap - lo, rfl, by omega, by omega, ?_, fun h => ?_, fun b hb => ?_⟩
  · have : hh * s ≤ n * s := Nat.mul_le_mul_right _ h2
    have : (hh - lo) * s = hh * s - lo * s := Nat.sub_mul ..
    simp only [List.length_take, List.length_drop]; omega
  · have : a = none := by
      split at h
      · exact h
      · simpa using h
    have := g4 this; omega
  · split at hb
    · rename_i hc
      refine ⟨fun h => (g5 b hb).1 (by omega), fun j x hj => ?_⟩
      have h0 := (List.getElem?_eq_some_iff.1 hj).1
      have : hh - lo = 0 := by omega
      rw [this] at h0; simp at h0
    · cases a with
      | none => simp at hb
      | some c =>
        simp at hb; subst hb
        obtain ⟨q1, q2⟩ := g5 c rfl
        obtain ⟨e1, e2, e3⟩ := add_off (q := lo * s) (q1 (by omega))
        refine ⟨fun _ => e3, fun j x hj => ?_⟩
        rw [e1, e2, Nat.add_assoc]
        refine q2 _ _ ?_
        have h0 := (List.getElem?_eq_some_iff.1 hj).1
        simp only [List.length_take] at h0
        rw [List.getElem?_take] at hj
        split at hj
        · simpa using hj
        · cases hj
theorem Ro.sub (h : Ro w0 X (sl s n v xs)) (lo hh : Nat) (h1 : lo ≤ hh) (h2 : hh ≤ n) : Ro w0 X (sl s (hh - lo) (subS s v lo hh) ((xs.drop (lo * s)).take ((hh - lo) * s))) := let ⟨f, q1, q2⟩ := h; ⟨f, sl_sub q1 lo hh h1 h2, q2⟩
theorem ow_sub {f : Nat → Prop} (h : (ow s n v xs).p w f) (lo hh : Nat) (h1 : lo ≤ hh) (h2 : hh ≤ n) : (ow s (hh - lo) (subS s v lo hh) ((xs.drop (lo * s)).take ((hh - lo) * s))).p w f := by
  obtain ⟨h0, h⟩ := h
  have : hh * s ≤ n * s := Nat.mul_le_mul_right _ h2
  have : (hh - lo) * s = hh * s - lo * s := Nat.sub_mul ..
  refine ⟨by simp only [List.length_take, List.length_drop]; omega, ?_⟩
  rcases h with ⟨a, rfl, rfl, ha⟩ | ⟨g, off, cap, cur, T, rfl, q1, q2, q3, q4, q5, q6⟩
  · have e1 : lo = 0 := by omega
    have e2 : hh = 0 := by omega
    subst e1 e2
    exact .inl ⟨a, by simp [subS], rfl, ha⟩
  · by_cases hc : cap = lo
    · refine .inl ⟨some ⟨g, off, none⟩, ?_, by omega, fun b e _ => by cases e; rfl⟩
      simp only [subS, hc, if_true]
      rw [show hh - lo = 0 by omega, Nat.sub_self]
    · refine .inr ⟨g, off + lo * s, cap - lo, cur, T, ?_, q1, q2, by omega, by omega, ?_, fun j x hj => ?_⟩
      · simp only [subS, hc, if_false, Option.map_some]
        congr 2
        unfold Addr.add; split <;> simp_all
      · have : (cap - lo) * s = cap * s - lo * s := Nat.sub_mul ..
        have : lo * s ≤ cap * s := Nat.mul_le_mul_right _ (by omega)
        omega
      · rw [Nat.add_assoc]
        refine q6 _ _ ?_
        rw [List.getElem?_take] at hj
        split at hj
        · simpa using hj
        · cases hj
/-- .. it takes the chunk's place. -/
theorem St.sub (h : St w0 X cs w) (i : Nat) (hi : cs[i]? = some c) (hc : c = ow s n v xs) (lo hh : Nat) (h1 : lo ≤ hh) (h2 : hh ≤ n) : ∃ c', c' = ow s (hh - lo) (subS s v lo hh) ((xs.drop (lo * s)).take ((hh - lo) * s)) ∧ St w0 X (cs.set i c') w := by
  subst hc
  obtain ⟨f, q1, q2, q3⟩ := h.upd i hi
  exact ⟨_, rfl, q3 w _ f (ExtX.rfl' _ w) (ow_sub q1 lo hh h1 h2) fun b hb => .inl hb⟩

/-! operations that lay or write -/
theorem W_boxS {T : TypeId} {zs : Array Value} (hS : St w0 X cs w) (hd : o.dst = some d) (hw : Region.wanted o (yielded ops A.tmps) = true) (ho : o.op = .box T x) (hx : EV A x = v) (hc : v.cells = zs)
    (h : ∀ g w' c, c = bx g T zs → St w0 X (c :: cs) w' → WX P ops Q l (PT A d (.pointer (some ⟨g, 0, none⟩))) w') : WX P ops Q (o :: l) A w :=
  W_box hd hw ho hx hc fun g w' hg hE hb => h g w' _ rfl (hS.push hE (f := (· = g)) ⟨rfl, hb⟩ fun b e => by subst e; exact ⟨by omega, lt_size hb⟩)
theorem W_allocS {T : TypeId} {z : Value} {zs : Array Value} (hS : St w0 X cs w) (hd : o.dst = some d) (hw : Region.wanted o (yielded ops A.tmps) = true) (ho : o.op = .alloc T) (hz : (P.info? T).map (·.zero) = some (some z)) (hc : z.cells = zs)
    (h : ∀ g w' c, c = bx g T zs → St w0 X (c :: cs) w' → WX P ops Q l (PT A d (.pointer (some ⟨g, 0, none⟩))) w') : WX P ops Q (o :: l) A w :=
  W_alloc hd hw ho hz hc fun g w' hg hE hb => h g w' _ rfl (hS.push hE (f := (· = g)) ⟨rfl, hb⟩ fun b e => by subst e; exact ⟨by omega, lt_size hb⟩)
theorem W_stCS {T g off T' : Nat} {zs zs' : Array Value} (i : Nat) (hS : St w0 X cs w) (hi : cs[i]? = some c) (hc : c = bx g T' zs) (hd : o.dst = none) (hw : Region.wanted o (yielded ops A.tmps) = true) (ho : o.op = .store T x y) (hx : EV A x = .pointer (some ⟨g, off, none⟩)) (hy : EV A y = v) (h1 : v.oneCell' = true)
    (hlt : (decide (off < zs.size)) = true) (hif : (P.info? T).map (·.size) = some 1) (hz : zs.setIfInBounds off v = zs')
    (h : ∀ w' c', c' = bx g T' zs' → St w0 X (cs.set i c') w' → WX P ops Q l A w') : WX P ops Q (o :: l) A w := by
  subst hc
  obtain ⟨f, q1, q2, q3⟩ := hS.upd i hi
  refine W_stC hd hw ho hx hy h1 q1.2 hlt hif hz fun w' ht hb => h w' _ rfl (q3 w' _ f ((ExtX.tch ht).mono fun b e => by subst e; exact q1.1) ⟨q1.1, hb⟩ fun b hb => .inl hb)
theorem W_stAS {T g T' : Nat} {zs old : Array Value} (i : Nat) (hS : St w0 X cs w) (hi : cs[i]? = some c) (hc : c = bx g T' old) (hd : o.dst = none) (hw : Region.wanted o (yielded ops A.tmps) = true) (ho : o.op = .store T x y) (hx : EV A x = .pointer (some ⟨g, 0, none⟩)) (hy : EV A y = .agg zs) (h1 : zs.all (·.oneCell') = true)
    (hs : old.size = zs.size) (hif : (P.info? T).map (·.size) = some zs.size)
    (h : ∀ w' c', c' = bx g T' zs → St w0 X (cs.set i c') w' → WX P ops Q l A w') : WX P ops Q (o :: l) A w := by
  subst hc
  obtain ⟨f, q1, q2, q3⟩ := hS.upd i hi
  refine W_stA hd hw ho hx hy h1 q1.2 hs hif fun w' ht hb => h w' _ rfl (q3 w' _ f ((ExtX.tch ht).mono fun b e => by subst e; exact q1.1) ⟨q1.1, hb⟩ fun b hb => .inl hb)
/-- a cell of a slice of one's own. -/
theorem W_stE {T B O C j off : Nat} (i : Nat) (hS : St w0 X cs w) (hi : cs[i]? = some c) (hc : c = ow s n v1 xs) (hv : v1 = .slice (some ⟨B, O, none⟩) n C) (hd : o.dst = none) (hw : Region.wanted o (yielded ops A.tmps) = true) (ho : o.op = .store T x y)
    (hx : EV A x = .pointer (some ⟨B, off, none⟩)) (hy : EV A y = v) (h1 : v.oneCell' = true) (hoff : O + j = off) (hj : j < xs.length) (hif : (P.info? T).map (·.size) = some 1)
    (h : ∀ w' c', c' = ow s n v1 (xs.set j v) → St w0 X (cs.set i c') w' → WX P ops Q l A w') : WX P ops Q (o :: l) A w := by
  subst hc hv
  obtain ⟨f, q1, q2, q3⟩ := hS.upd i hi
  obtain ⟨g0, ⟨a, e, rfl, ha⟩ | ⟨g, O', cap, cur, T', e, g1, g2, g3, g4, g5, g6⟩⟩ := q1
  · exfalso; simp at g0; subst g0; simp at hj
  · cases e
    have hlt : off < cur.size := by
      have := g6 j _ (List.getElem?_eq_getElem hj)
      have := (Array.getElem?_eq_some_iff.1 this).1
      omega
    refine W_stC hd hw ho hx hy h1 g2 (by simpa using hlt) hif rfl fun w' ht hb => h w' _ rfl (q3 w' _ f ((ExtX.tch ht).mono fun b e => by subst e; exact g1) ⟨by simpa using g0, .inr ⟨B, O, C, _, T', rfl, g1, hb, g3, g4, by simpa using g5, fun m x hm => ?_⟩⟩ fun b hb => .inl hb)
    by_cases hmj : m = j
    · subst hmj
      rw [List.getElem?_set_self hj] at hm
      rw [hoff, Array.getElem?_setIfInBounds_self_of_lt hlt]
      exact hm
    · rw [List.getElem?_set_ne (fun e => hmj e.symm)] at hm
      rw [Array.getElem?_setIfInBounds_ne (by omega)]
      exact g6 m x hm

/-! append -/
theorem ow_made {T : TypeId} {cur : Array Value} {cap : Nat} {f : Nat → Prop} (hg : w.heap[n]? = some (.cells cur T (0, 0))) (hf : f n) {m : Nat} (hm : m ≤ cap) (hc : cap ≤ maxLen) (hs : cap * s ≤ cur.size) (hl : xs.length = m * s) (hx : ∀ (j : Nat) (u : Value), xs[j]? = some u → cur[j]? = some u) :
    (ow s m (.slice (some ⟨n, 0, none⟩) m cap) xs).p w f := ⟨hl, .inr ⟨n, 0, cap, cur, T, rfl, hf, hg, hm, hc, by omega, fun j u hj => by rw [Nat.zero_add]; exact hx j u hj⟩⟩
theorem run_appS {f : Nat → Prop} (t t2 ty e e2 : TypeId) (inf : TypeInfo) (z : Value) (bytes : Nat) (ht : P.underlying t = some (.slice e)) (ht2 : P.underlying t2 = some (.slice e2)) (hi : P.info? e = some inf) (hz : inf.zero = some z)
    (hsize : inf.size = s) (hby : inf.bytes = bytes) (hzs : z.cells.size = s) (hsz : 0 < s) {v1 : Value} {m : Nat} {ys : List Value}
    (hown : (ow s n v xs).p w f) (hy : SlN w s v1 m ys) (h1 : ∀ u ∈ ys, u.oneCell' = true) (hbytes : (n + m) * bytes ≤ 140737488355328) (h63 : n + m ≤ maxLen) :
    ∃ v' w' f', (Builtin.append_ #[t, t2] ty #[v, v1]).run P w = .ok v' w' ∧ ExtX f w w' ∧ (ow s (n + m) v' (xs ++ ys)).p w' f' ∧ ∀ b, f' b → f b ∨ (w.heap.size ≤ b ∧ b < w'.heap.size) := by
  subst hsize hby
  obtain ⟨va, vc, rfl⟩ : ∃ a c, v = .slice a n c := by
    obtain ⟨_, ⟨a, rfl, rfl, _⟩ | ⟨g, off, cap, cur, T, rfl, _⟩⟩ := hown <;> exact ⟨_, _, rfl⟩
  have key : (Builtin.append_ #[t, t2] ty #[.slice va n vc, v1]).run P w = (Builtin.append_ #[t, t] ty #[.slice va n vc, v1]).run P w := by
    simp [Builtin.append_, run_underlying ht, run_underlying ht2]
  rw [key]
  have hy' := hy
  obtain ⟨a, cap, rfl, g1, g2, g3, g4, g5⟩ := hy
  have hl : (xs ++ ys).length = (n + m) * inf.size := by rw [List.length_append, hown.1, g3, Nat.add_mul]
  cases a with
  | none =>
    obtain rfl := g4 rfl
    have hn : ys = [] := List.eq_nil_of_length_eq_zero (by simpa using g3)
    subst hn
    refine ⟨_, w, f, ?_, ExtX.rfl' _ w, by simpa using hown, fun b hb => .inl hb⟩
    obtain ⟨q1, q2⟩ := hown
    rcases q2 with ⟨a, q2, q3, q4⟩ | ⟨g, off, cap, cur, T, q2, _, hg, hn, hc, hs, hx⟩
    · cases q2
      cases va <;> simp [Builtin.append_, run_underlying ht, sizeOf, typeInfo, hi, Builtin.lenOf, Builtin.firstCells, storeCells]
    · cases q2; simp [Builtin.append_, run_underlying ht, sizeOf, typeInfo, hi, Builtin.lenOf, Builtin.firstCells, hn, storeCells]
  | some b =>
    have hnews := hy'.adds
    have grown : ∀ old : Nat, old < n + m → (ow inf.size (n + m) (.slice (some ⟨w.heap.size, 0, none⟩) (n + m) (grownCap w (n + m) old e)) (xs ++ ys)).p
          (w.drew.alloc (.cells (xs.toArray ++ ys.toArray ++ Builtin.zeroCells z.cells (grownCap w (n + m) old e - (n + m))) e)) (· = w.heap.size) ∧
        ExtX f w (w.drew.alloc (.cells (xs.toArray ++ ys.toArray ++ Builtin.zeroCells z.cells (grownCap w (n + m) old e - (n + m))) e)) ∧
        ∀ q, (q = w.heap.size) → f q ∨ (w.heap.size ≤ q ∧ q < (w.drew.alloc (.cells (xs.toArray ++ ys.toArray ++ Builtin.zeroCells z.cells (grownCap w (n + m) old e - (n + m))) e)).heap.size) := by
      intro old ho
      have hge := grownCap_ge w (n + m) old e
      have hcm := grownCap_le_maxLen w (n + m) old e h63
      refine ⟨ow_made (f := fun q => q = w.heap.size) (n := w.heap.size) (heap_alloc_new w.drew _) rfl hge hcm ?_ hl ?_, ⟨rfl, rfl, rfl, by simp, fun k hk _ => (Ext.alloc w.drew _).block k hk⟩, fun q e => .inr (by subst e; simp)⟩
      · simp only [Array.size_append, List.size_toArray, size_zeroCells, hzs, hown.1, g3, ← Nat.add_mul]
        rw [show n + m + (grownCap w (n + m) old e - (n + m)) = grownCap w (n + m) old e by omega]
        exact Nat.le_refl _
      · intro j u hj
        have hlt := (List.getElem?_eq_some_iff.1 hj).1
        have e1 : xs.toArray ++ ys.toArray = (xs ++ ys).toArray := by simp
        rw [e1, Array.getElem?_append_left (by simpa using hlt)]
        simpa using hj
    obtain ⟨h0, ⟨a, e0, rfl, ha⟩ | ⟨g, off, cp, cur, T, e0, hf, hg, hnc, hcm, hcs, htake⟩⟩ := hown
    · cases e0
      have hx : xs = [] := List.eq_nil_of_length_eq_zero (by simpa using h0)
      subst hx
      by_cases hm : m = 0
      · subst hm
        have hn : ys = [] := List.eq_nil_of_length_eq_zero (by simpa using g3)
        subst hn
        refine ⟨.slice va 0 0, w, f, ?_, ExtX.rfl' _ w, ⟨by simp, .inl ⟨va, rfl, rfl, ha⟩⟩, fun b hb => .inl hb⟩
        cases va <;> simp [Builtin.append_, run_underlying ht, sizeOf, typeInfo, hi, Builtin.lenOf, Builtin.firstCells, loadCells, loadCellsFrom, storeCells]
      · have hgr := grown 0 (by omega)
        cases va with
        | none =>
          have hr := run_append_nil (P := P) w t ty e inf z ht hi hz b m cap ys g3 hnews (by omega) (by omega) (by have hb := hbytes; simp only [Nat.zero_add] at hb; omega)
          simp only [Nat.zero_add, List.nil_append, Array.empty_append] at hgr hr ⊢
          exact ⟨_, _, _, hr, hgr.2.1, hgr.1, hgr.2.2⟩
        | some a' =>
          have hr := run_append_grow (P := P) w t ty e inf z ht hi hz a' 0 0 [] (by simp) (by simp) b m cap ys g3 hnews (by omega) (by omega) (growslice_fits (by omega) hbytes)
          exact ⟨_, _, _, hr, hgr.2.1, hgr.1, hgr.2.2⟩
    · cases e0
      by_cases hroom : n + m ≤ vc
      · have hfit : off + n * inf.size + ys.length ≤ cur.size := by
          have : (n + m) * inf.size ≤ vc * inf.size := Nat.mul_le_mul_right _ hroom
          rw [Nat.add_mul] at this
          omega
        have hfc := run_firstCells_some (P := P) w inf.size m b m cap ys g3 hnews
        have hst := run_storeCells_at P g (off + n * inf.size) T ys 0 cur w hg (by omega) h1
        simp only [Nat.add_zero] at hst
        have hadd : (⟨g, off, none⟩ : Addr).add (n * inf.size) = ⟨g, off + n * inf.size, none⟩ := by unfold Addr.add; split <;> simp_all
        obtain ⟨nc, hnc'⟩ : ∃ nc, nc = (cur.toList.take (off + n * inf.size) ++ ys ++ cur.toList.drop (off + n * inf.size + ys.length)).toArray := ⟨_, rfl⟩
        rw [← hnc'] at hst
        refine ⟨.slice (some ⟨g, off, none⟩) (n + m) vc, w.setRow g nc, f, ?_, ⟨rfl, rfl, rfl, by simp, fun k _ hk => setRow_other w g k nc (fun e => hk (by rw [e]; exact hf))⟩, ⟨hl, .inr ⟨g, off, vc, nc, T, rfl, hf, setRow_heap w g cur nc T _ hg, hroom, hcm, ?_, fun j u hj => ?_⟩⟩, fun b hb => .inl hb⟩
        · simp [Builtin.append_, run_underlying ht, sizeOf, typeInfo, hi, Builtin.lenOf, hroom, hfc, hadd, hst]
        · rw [hnc']; simp only [List.size_toArray, List.length_append, List.length_take, List.length_drop, Array.length_toList]
          omega
        · rw [hnc', List.getElem?_toArray]
          have hlt := (List.getElem?_eq_some_iff.1 hj).1
          rw [List.length_append, h0] at hlt
          by_cases hjn : j < n * inf.size
          · rw [List.getElem?_append_left (by rw [h0]; exact hjn)] at hj
            rw [List.append_assoc, List.getElem?_append_left (by simp; omega), List.getElem?_take_of_lt (by omega)]
            simpa using htake j u hj
          · rw [List.getElem?_append_right (by rw [h0]; omega), h0] at hj
            have e1 : (cur.toList.take (off + n * inf.size)).length = off + n * inf.size := by simp; omega
            rw [List.append_assoc, List.getElem?_append_right (by rw [e1]; omega), e1, List.getElem?_append_left (by omega)]
            rw [show off + j - (off + n * inf.size) = j - n * inf.size by omega]
            exact hj
      · have holds : ∀ j u, xs[j]? = some u → w.cell? ((⟨g, off, none⟩ : Addr).add j) = some u := fun j u hj => by
          have hadd : (⟨g, off, none⟩ : Addr).add j = ⟨g, off + j, none⟩ := by unfold Addr.add; split <;> simp_all
          rw [hadd, cell_of_row _ _ _ _ _ _ hg]; exact htake j u hj
        have hr := run_append_grow (P := P) w t ty e inf z ht hi hz ⟨g, off, none⟩ n vc xs h0 holds b m cap ys g3 hnews (by omega) (by unfold maxLen at h63; omega) (growslice_fits (by omega) hbytes)
        have hgr := grown vc (by omega)
        exact ⟨_, _, _, hr, hgr.2.1, hgr.1, hgr.2.2⟩
theorem W_appS {t t2 el e2 : TypeId} {z : Value} {m bytes : Nat} {ys : List Value} {sx : Operand} (s : Nat) (i : Nat) (hS : St w0 X cs w) (hin : cs[i]? = some c) (hc : c = ow s n v xs) (hd : o.dst = some d) (hw : Region.wanted o (yielded ops A.tmps) = true)
    (ho : o.op = .call { callee := .builtin .append, args := #[sx, x], argTypes := #[t, t2] }) (hs : EV A sx = v) (hy : EV A x = v1)
    (ht : P.underlying t = some (.slice el)) (ht2 : P.underlying t2 = some (.slice e2)) (hi : (P.info? el).map (fun i => (i.zero, i.size, i.bytes)) = some (some z, s, bytes)) (hzs : z.cells.size = s) (hsz : 0 < s)
    (hyy : SlN w s v1 m ys) (h1 : ∀ u ∈ ys, u.oneCell' = true) (hbytes : (n + m) * bytes ≤ 140737488355328) (h63 : n + m ≤ 4611686018427387904)
    (h : ∀ v' w' c', c' = ow s (n + m) v' (xs ++ ys) → St w0 X (cs.set i c') w' → WX P ops Q l (PT A d v') w') : WX P ops Q (o :: l) A w := by
  subst hc
  obtain ⟨f, q1, q2, q3⟩ := hS.upd i hin
  cases hq : P.info? el with
  | none => simp [hq] at hi
  | some inf =>
    simp only [hq, Option.map_some, Option.some.injEq, Prod.mk.injEq] at hi
    obtain ⟨v', w', f', hr, k1, k2, k3⟩ := run_appS (P := P) t t2 o.type el e2 inf z bytes ht ht2 hq hi.1 hi.2.1 hi.2.2 hzs hsz q1 hyy h1 hbytes (by unfold maxLen; omega)
    refine W_val hd hw ?_ (h v' w' _ rfl (q3 w' _ f' k1 k2 k3))
    unfold execOp
    simp only [ho, resolve, invoke, builtin, Sem.run_bind, Sem.run_pure, Result.andThen_ok, List.map_toArray, List.map_cons, List.map_nil, hs, hy, hr]
/-! literals and make -/
theorem set_run {off : Nat} : ∀ (ys pre mid post : List Value) (q : Nat), mid.length = ys.length → pre.length = off + q →
    (ys.zipIdx q).foldl (fun (cs : Array Value) (p : Value × Nat) => cs.setIfInBounds (off + p.2) p.1) (pre ++ mid ++ post).toArray = (pre ++ ys ++ post).toArray
  | [], pre, mid, post, q, hm, _ => by simp at hm; subst hm; rfl
  | y :: ys, pre, [], post, q, hm, _ => by simp at hm
  | y :: ys, pre, m :: mid, post, q, hm, hp => by
    simp only [List.zipIdx_cons, List.foldl_cons]
    have e1 : (pre ++ m :: mid ++ post).toArray.setIfInBounds (off + q) y = ((pre ++ [y]) ++ mid ++ post).toArray := by
      rw [List.setIfInBounds_toArray, List.append_assoc, List.set_append_right _ _ (by omega)]
      rw [show off + q - pre.length = 0 by omega]
      simp
    rw [e1, set_run ys (pre ++ [y]) mid post (q + 1) (by simpa using hm) (by simp; omega)]
    simp
theorem fill_all (s : Nat) : ∀ (vs : List Value) (k : Nat) (pre rest : List Value), (∀ v ∈ vs, v.cells.size = s) → pre.length = k * s → rest.length = vs.length * s →
    Instr.fill (fun i => some (i * s, s)) (pre ++ rest).toArray ((vs.zipIdx k).map fun p => (p.2, p.1)) = some (pre ++ vs.flatMap fun v => v.cells.toList).toArray
  | [], k, pre, rest, _, _, hr => by
    have : rest = [] := List.eq_nil_of_length_eq_zero (by simpa using hr)
    subst this; simp [Instr.fill]
  | v :: vs, k, pre, rest, h1, hp, hr => by
    have hv := h1 v (by simp)
    simp only [List.length_cons, Nat.add_mul, Nat.one_mul] at hr
    have hb : ¬ (k * s + s > (pre ++ rest).toArray.size) := by simp; omega
    have hb2 : (v.cells.size ≠ s || k * s + v.cells.size > (pre ++ rest).toArray.size) = false := by rw [hv]; simp; omega
    simp only [List.zipIdx_cons, List.map_cons, Instr.fill, hb2]
    have e1 : pre ++ rest = pre ++ rest.take s ++ rest.drop s := by simp
    have e2 : v.cells.zipIdx.foldl (fun (cs : Array Value) (p : Value × Nat) => cs.setIfInBounds (k * s + p.2) p.1) (pre ++ rest).toArray = (pre ++ v.cells.toList ++ rest.drop s).toArray := by
      rw [← Array.foldl_toList, Array.toList_zipIdx, e1]
      exact set_run v.cells.toList pre (rest.take s) (rest.drop s) 0 (by simp [hv]; omega) (by simpa using hp)
    have e3 : (v.cells.zipIdx.foldl (fun (x : Array Value) (x_1 : Value × Nat) => match x_1 with | (c, j) => x.setIfInBounds (k * s + j) c) (pre ++ rest).toArray) = (pre ++ v.cells.toList ++ rest.drop s).toArray := e2
    simp only [Bool.false_eq_true, if_false]
    rw [e3, fill_all s vs (k + 1) (pre ++ v.cells.toList) (rest.drop s) (fun u hu => h1 u (by simp [hu])) (by simp [hv, hp, Nat.add_mul]) (by simp; omega)]
    simp
theorem run_lit {t el : TypeId} {inf : TypeInfo} {z : Value} {parts : Array (Nat × Operand)} {vs : List Value} {m : Nat} (ho : o.op = .buildSlice t m parts) (hp : (parts.map fun (i, x) => (i, EV A x)).toList = vs.zipIdx.map fun p => (p.2, p.1)) (hm : vs.length = m)
    (ht : P.underlying t = some (.slice el)) (hi : P.info? el = some inf) (hz : inf.zero = some z) (hs : inf.size = s) (hsm : m * s ≤ 16777216) (h1 : ∀ v ∈ vs, v.cells.size = s) :
    (execOp (EV A) o).run P w = .ok (.value (.slice (some ⟨w.heap.size, 0, none⟩) m m)) (w.alloc (.cells (vs.flatMap fun v => v.cells.toList).toArray el)) := by
  have hf : ∀ cs : Array Value, cs.size = m * s → Instr.fill (fun i => some (i * s, s)) cs (vs.zipIdx.map fun p => (p.2, p.1)) = some (vs.flatMap fun v => v.cells.toList).toArray := fun cs hcs => by
    have := fill_all s vs 0 [] cs.toList h1 (by simp) (by simp [hm, hcs])
    rw [List.nil_append, Array.toArray_toList, List.nil_append] at this
    exact this
  have hsm' : ¬ (16777216 < m * s) := by omega
  have hp' : List.map (fun x => (x.fst, EV A x.snd)) parts.toList = vs.zipIdx.map fun p => (p.2, p.1) := by rw [← hp]; simp
  unfold execOp
  by_cases h0 : m * s = 0
  · have h2 := hf (Array.map (fun x => default) (Array.range 0)) (by simp [h0])
    rw [← hp'] at h2
    simp [ho, Instr.buildSlice, run_underlying ht, sizeOf, typeInfo, hi, hs, h0, newRow, h2]
  · have h2 := hf (Array.map (fun x => z.cells[x % z.cells.size]!) (Array.range (m * s))) (by simp)
    rw [← hp'] at h2
    simp [ho, Instr.buildSlice, run_underlying ht, sizeOf, typeInfo, hi, hs, hsm', h0, newRow, zeroValue, hz, h2]
end
section
variable {P : Program} {ops : Array Oper} {l : List Oper} {o : Oper} {A : Act} {Q : Exit → Act → World → Prop} {w w0 : World} {X : Nat → Prop} {cs : List HP} {c : HP} {d : Tmp} {v : Value} {x y : Operand} {T g off T' : Nat} {zs zs' old : Array Value}
theorem xsC (i : Nat) (hS : St w0 X cs w) (hi : cs[i]? = some c) (hc : c = bx g T' zs) (hd : o.dst = none) (hw : Region.wanted o (yielded ops A.tmps) = true) (ho : o.op = .store T x y) (hx : EV A x = .pointer (some ⟨g, off, none⟩)) (hy : EV A y = v) (h1 : v.oneCell' = true) (h : ∀ w' c', c' = bx g T' zs' → St w0 X (cs.set i c') w' → WX P ops Q l A w') (hlt : (decide (off < zs.size)) = true := by rfl) (hif : (P.info? T).map (·.size) = some 1 := by kernel_rfl) (hz : zs.setIfInBounds off v = zs' := by first | rfl | (simp only [List.setIfInBounds_toArray, List.set_cons_succ, List.set_cons_zero] <;> rfl)) : WX P ops Q (o :: l) A w := W_stCS i hS hi hc hd hw ho hx hy h1 hlt hif hz h
theorem xsA (i : Nat) (hS : St w0 X cs w) (hi : cs[i]? = some c) (hc : c = bx g T' old) (hd : o.dst = none) (hw : Region.wanted o (yielded ops A.tmps) = true) (ho : o.op = .store T x y) (hx : EV A x = .pointer (some ⟨g, 0, none⟩)) (hy : EV A y = .agg zs) (h : ∀ w' c', c' = bx g T' zs → St w0 X (cs.set i c') w' → WX P ops Q l A w') (h1 : zs.all (·.oneCell') = true := by first | (rw [List.all_toArray] <;> rfl) | (simp only [List.all_toArray, List.all_cons, List.all_nil] <;> rfl)) (hs : old.size = zs.size := by rfl) (hif : (P.info? T).map (·.size) = some zs.size := by kernel_rfl) : WX P ops Q (o :: l) A w := W_stAS i hS hi hc hd hw ho hx hy h1 hs hif h
theorem xsB (i : Nat) (hS : St w0 X cs w) (hi : cs[i]? = some c) (hc : c = bx g T' old) (hd : o.dst = none) (hw : Region.wanted o (yielded ops A.tmps) = true) (ho : o.op = .store T x y) (hx : EV A x = .pointer (some ⟨g, 0, none⟩)) (hy : EV A y = .agg zs) (h1 : zs.all (·.oneCell') = true) (h : ∀ w' c', c' = bx g T' zs → St w0 X (cs.set i c') w' → WX P ops Q l A w') (hs : old.size = zs.size := by rfl) (hif : (P.info? T).map (·.size) = some zs.size := by kernel_rfl) : WX P ops Q (o :: l) A w := W_stAS i hS hi hc hd hw ho hx hy h1 hs hif h
end
end Go.Own
