import Derived.Test.YtpgkfndbfocibaaGreatGen
import Derived.RangeFuncNested
import Derived.RangeFuncCalls
import Derived.OrdersIn
import Derived.TacticsIn
namespace Go.Own
open Go Go.RowKit
def Fw (r : Option Nat) : Fence := { fn := fun _ => True, depth := none, alive := false, round := r }
def wpR (r : Option Nat) (P : Program) (c : Code) (Q : Exit → Act → World → Prop) (A : Act) (w : World) : Prop := c.wpIn (Fw r) 0 P Q A w
section
variable {P : Program} {r : Option Nat}
theorem calls_up {n : Nat} {f : FuncId} {args : Array Value} {w : World} {R : Ending → World → Prop} (h : Calls P f args w R) : CallsIn (Fw r) n P f args w R := (callsIn_wide.2 h : CallsIn Fence.wide n P f args w R)
theorem rows_up {n : Nat} {row : String} {args : Array Value} {w : World} {R : Value → World → Prop} (h : Rows P row args w R) : RowsIn (Fw r) n P row args w R :=
 (show RowsIn Fence.wide n P row args w R from fun c cs _ => let ⟨v, w', q, s⟩ := h c cs; ⟨v, w', q, stepsIn_wide.2 s⟩)
theorem oper_up {o : Oper} {a : Act} {w : World} {K : Act → World → Prop} {Q : Exit → Act → World → Prop} (hnd : ∀ c, o.op ≠ .defer c) (h : o.wp P a w K Q) : o.wpIn (Fw r) 0 P a w K Q := by
 refine ⟨fun _ _ => trivial, ?_⟩
 rw [Oper.semAt_eq _ _ _ hnd]
 unfold Oper.wp at h
 generalize (execOp a.eval o).run P w = res at h
 cases res with
 | ok nx w' =>
  cases nx <;> first
   | exact h
   | exact h.elim
   | exact ⟨fun h => (by cases h), calls_up h⟩
   | exact ⟨fun h => (by cases h), rows_up h⟩
 | halt x w' => cases x <;> first | exact h | exact h.elim
def noDef (l : List Oper) : Bool := l.all fun o => match o.op with | .defer _ => false | _ => true
theorem noDef_at {l : List Oper} {o : Oper} (h : noDef l = true) (ho : o ∈ l) : ∀ c, o.op ≠ .defer c := by
 intro c hc
 have := List.all_eq_true.1 h o ho
 simp [hc] at this
theorem wpList_up {ops : Array Oper} {Q : Exit → Act → World → Prop} (hQ : ¬ LetsOut Q) : ∀ (l : List Oper) (a : Act) (w : World), noDef l = true → wpList P ops Q l a w → wpListIn (Fw r) 0 P ops Q l a w
 | [], _, _, _, h => h
 | o :: l, a, w, hn, h => by
  have hl : noDef l = true := by unfold noDef at hn ⊢; rw [List.all_cons, Bool.and_eq_true] at hn; exact hn.2
  unfold wpList at h
  unfold wpListIn
  split at h
  ·rename_i hw
   rw [if_pos hw]
   rcases h with h | h
   ·exact Oper.wpIn_mono (fun a w h => wpList_up hQ l a w hl h) (oper_up (noDef_at hn (by simp)) h)
   ·exact absurd h.2 hQ
  ·rename_i hw
   rw [if_neg hw]
   exact ⟨fun _ _ => trivial, wpList_up hQ l _ _ hl h⟩
theorem wpAny_up {ops : Array Oper} {Q : Exit → Act → World → Prop} (hQ : ¬ LetsOut Q) (hn : noDef ops.toList = true) : ∀ (fuel : Nat) (listed : Array Bool) (a : Act) (w : World), wpAny P .any ops Q fuel listed a w → wpAnyIn (Fw r) 0 P .any ops Q fuel listed a w
 | 0, _, _, _, h => h
 | fuel + 1, listed, a, w, h => by
  refine ⟨h.1, fun i hi => ?_⟩
  have h2 := h.2 i hi
  unfold wpOp at h2
  unfold wpOpIn
  cases ho : ops[i]? with
  | none => simp only [ho] at h2 ⊢; exact wpAny_up hQ hn fuel _ _ _ h2
  | some o =>
   simp only [ho] at h2 ⊢
   split at h2
   ·rename_i hw
    rw [if_pos hw]
    rcases h2 with h2 | h2
    ·exact Oper.wpIn_mono (fun a w h => wpAny_up hQ hn fuel _ a w h) (oper_up (noDef_at hn (by rw [Array.mem_toList_iff]; exact Array.mem_of_getElem? ho)) h2)
    ·exact absurd h2.2 hQ
   ·rename_i hw
    rw [if_neg hw]
    exact ⟨fun _ _ => trivial, wpAny_up hQ hn fuel _ _ _ h2⟩
theorem Qo_in {Q : Exit → Act → World → Prop} : ¬ LetsOut (Qo Q) := fun ⟨_, _, h⟩ => h
theorem Qo_mono {Q : Exit → Act → World → Prop} {x : Exit} {a : Act} {w : World} (h : Qo Q x a w) : Q x a w := by cases x <;> first | exact h | exact h.elim
variable {Q : Exit → Act → World → Prop} {A : Act} {w : World} {x y : Code} {c : Operand}
theorem R_region {id : Nat} {l : List Oper} (hn : noDef l = true) (h : WX P l.toArray (Qo Q) l A w) : wpR r P (Code.region id l.toArray false) Q A w :=
 wpIn_mono (Q := Qo Q) (wpIn_region_lit (wpList_up Qo_in l A w hn h.out)) fun _ _ _ h => Qo_mono h
theorem R_any {id : Nat} {l : List Oper} (hn : noDef l = true) (hm : P.follows .mixedOrders = true) (n : Nat) (hl : l.toArray.size = n) (h : ∀ w', Ext w w' → AX P l.toArray (Qo Q) n (Array.replicate n false) A w') : wpR r P (Code.region id l.toArray true) Q A w :=
 wpIn_mono (Q := Qo Q) (wpIn_region_any hm (by rw [hl]; exact wpAny_up Qo_in hn _ _ _ _ (h { w with drawn := w.drawn + 1 } ⟨rfl, rfl, rfl, Nat.le_refl _, fun _ _ => rfl⟩).out)) fun _ _ _ h => Qo_mono h
theorem R_loop {c : Code} (I : Nat → Act → World → Prop) (n0 : Nat) (h0 : I n0 A w)
  (round : ∀ n A w, I n A w → wpR r P c (Exit.then (fun A' w' => ∃ m, m < n ∧ I m A' w') Q) A w) : wpR r P (Code.loop c) Q A w := by
 intro b k cs hro hb hr
 have key : ∀ n A w, I n A w → ∃ e a' w', Q e a' w' ∧ ArrivesIn (Machine.fenced P (Fw r)) P (lone (b.atR A (.code c :: .inLoop c :: k)) cs w) b k cs e a' w' := by
  intro n
  induction n using Nat.strongRecOn with
  | _ n ih =>
   intro A w hI
   obtain ⟨e, a₁, w₁, hq, harr⟩ := round n A w hI b (.inLoop c :: k) cs hro hb hr
   cases e with
   | normal =>
    obtain ⟨m, hlt, hI₁⟩ := hq
    obtain ⟨e₂, a₂, w₂, hq₂, harr₂⟩ := ih m hlt a₁ w₁ hI₁
    exact ⟨e₂, a₂, w₂, hq₂, .of_steps (StepsIn.trans harr (.one (fenced_calm hb hr rfl) stepR_inLoop)) harr₂⟩
   | exit id => exact ⟨_, a₁, w₁, hq, .pass (x := .inLoop c) rfl (fun _ _ => .inl (by simp)) harr⟩
   | goto l => exact ⟨_, a₁, w₁, hq, .pass (x := .inLoop c) rfl (fun _ _ => .inl (by simp)) harr⟩
   | ret => exact ⟨_, a₁, w₁, hq, .pass (x := .inLoop c) rfl (fun _ _ => .inl (by simp)) harr⟩
   | panic ch => exact ⟨_, a₁, w₁, hq, .pass (x := .inLoop c) rfl (fun _ _ => .inl (by simp)) harr⟩
   | outgrown => exact ⟨_, a₁, w₁, hq, .pass (x := .inLoop c) rfl (fun _ _ => .inl (by simp)) harr⟩
 obtain ⟨e, a', w', hq, harr⟩ := key n0 A w h0
 exact ⟨e, a', w', hq, .of_steps (.one (fenced_calm hb hr rfl) stepR_loop) harr⟩
theorem R_seq (h : ∀ K : Act → World → Prop, (∀ a w, wpR r P y Q a w → K a w) → wpR r P x (Exit.then K Q) A w) : wpR r P (Code.seq x y) Q A w := wpIn_seq_k h
theorem R_skip (h : Q .normal A w) : wpR r P Code.skip Q A w := wpIn_skip h
theorem R_exit {id : Nat} (h : Q (.exit id) A w) : wpR r P (Code.exit id) Q A w := wpIn_exit h
theorem R_ret (h : Q .ret A w) : wpR r P Code.ret Q A w := wpIn_ret h
theorem R_block {id : Nat} {c : Code} (h : wpR r P c (Exit.inBlock id Q) A w) : wpR r P (Code.block id c) Q A w := wpIn_block h
theorem R_cond_dec {p : Prop} [Decidable p] (hc : EV A c = .bool (decide p)) (ht : p → wpR r P x Q A w) (hf : ¬ p → wpR r P y Q A w) : wpR r P (Code.cond c x y) Q A w :=
 wpIn_cond_split hc (fun h => ht (by simpa using h)) (fun h => hf (by simpa using h))
theorem R_cond_t (hc : EV A c = .bool true) (ht : wpR r P x Q A w) : wpR r P (Code.cond c x y) Q A w := wpIn_cond_true hc ht
theorem R_cond_f (hc : EV A c = .bool false) (hf : wpR r P y Q A w) : wpR r P (Code.cond c x y) Q A w := wpIn_cond_false hc hf
theorem R_cond_sure {b : Bool} (hc : EV A c = .bool b) (hb : b = true) (ht : wpR r P x Q A w) : wpR r P (Code.cond c x y) Q A w := wpIn_cond_true (hc.trans (by rw [hb])) ht
theorem R_cond_not {b : Bool} (hc : EV A c = .bool b) (hb : b = false) (hf : wpR r P y Q A w) : wpR r P (Code.cond c x y) Q A w := wpIn_cond_false (hc.trans (by rw [hb])) hf
end
structure WI (r : Option Nat) (P : Program) (ops : Array Oper) (Q : Exit → Act → World → Prop) (l : List Oper) (A : Act) (w : World) : Prop where
 out : wpListIn (Fw r) 0 P ops Q l A w
section
variable {r : Option Nat} {P : Program} {ops : Array Oper} {Q : Exit → Act → World → Prop} {l : List Oper} {o : Oper} {A : Act} {w w' : World} {d : Tmp} {v : Value}
theorem R_regionI {id : Nat} {l : List Oper} (h : WI r P l.toArray (Qo Q) l A w) : wpR r P (Code.region id l.toArray false) Q A w := wpIn_mono (Q := Qo Q) (wpIn_region_lit h.out) fun _ _ _ h => Qo_mono h
theorem I_up (hn : noDef l = true) (h : WX P ops (Qo Q) l A w) : WI r P ops (Qo Q) l A w := ⟨wpList_up Qo_in l A w hn h.out⟩
theorem I_val (hd : o.dst = some d) (hw : Region.wanted o (yielded ops A.tmps) = true) (hn : noDef [o] = true) (hx : (execOp (EV A) o).run P w = .ok (.value v) w') (h : WI r P ops Q l (PT A d v) w') : WI r P ops Q (o :: l) A w := by
 refine ⟨?_⟩
 unfold wpListIn
 rw [if_pos hw]
 refine ⟨fun _ _ => trivial, ?_⟩
 rw [Oper.semAt_eq _ _ _ (noDef_at hn (by simp)), ex_ev hx, Oper.uponIn_value, hd]
 exact h.out
theorem I_v (hd : o.dst = some d) (hw : Region.wanted o (yielded ops A.tmps) = true) (hn : noDef [o] = true) (hx : Val P A o v) (h : WI r P ops Q l (PT A d v) w) : WI r P ops Q (o :: l) A w := I_val hd hw hn (hx w) h
theorem I_r (hd : o.dst = some d) (hw : Region.wanted o (yielded ops A.tmps) = true) (hn : noDef [o] = true) (hx : ValW P A o w v) (h : WI r P ops Q l (PT A d v) w) : WI r P ops Q (o :: l) A w := I_val hd hw hn hx h
theorem run_yield2 {c : Operand} {x y : Operand} {ts : Array TypeId} {lY : Nat} {a b : Value} {res : Next} (ho : o.op = .call { callee := .value c, args := #[x, y], argTypes := ts }) (hc : EV A c = .func (.yield lY) #[] #[]) (hx : EV A x = a) (hy : EV A y = b)
  (h : (Instr.yield lY #[a, b]).run P w = .ok res w) : (execOp (EV A) o).run P w = .ok res w := by
 unfold execOp
 simp [ho, resolve, hc, hx, hy, invoke, h, Deferred.ofValue]
theorem I_yield {rs : Ending → World → Prop} {lY : Nat} {args : Array Value} (hd : o.dst = some d) (hw : Region.wanted o (yielded ops A.tmps) = true) (hn : noDef [o] = true) (hY : YieldAt (Fw r) 0 P lY args w rs)
  (hx : ∀ res, (Instr.yield lY args).run P w = .ok res w → (execOp (EV A) o).run P w = .ok res w)
  (h : ∀ e w', rs e w' → ∃ v, e = .returned v ∧ WI r P ops Q l (PT A d v) w') : WI r P ops Q (o :: l) A w := by
 obtain ⟨fn, tmps, assign, body, hy, hR⟩ := hY
 refine ⟨?_⟩
 unfold wpListIn
 rw [if_pos hw]
 refine ⟨fun _ _ => trivial, ?_⟩
 rw [Oper.semAt_eq _ _ _ (noDef_at hn (by simp)), ex_ev (hx _ hy), Oper.uponIn_round]
 refine ⟨fun h => (by cases h), hR.mono ?_⟩
 intro e w' he
 obtain ⟨v, rfl, hk⟩ := h e w' he
 simp only [hd]
 exact hk.out
end
end Go.Own
