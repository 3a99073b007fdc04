import Derived.Test.YtpgkfndbfocibaaGreatPl29e
import Derived.Test.YtpgkfndbfocibaaGreatSep29
import Derived.Test.YtpgkfndbfocibaaGreatSepP
namespace Go.Own.Ml
open Go Go.Own Go.Own.R Go.Own.G Go.Own.Gr
def scF : Nat → List OpC → Int × Int
 | _, [] => (0, 0)
 | k, c :: r => if opE c ≠ 0 then ((k : Int), opE c) else scF (k + 1) r
def scE (cf : Int) (l : List OpC) : Int × Int := if cf ≠ 0 then (-1, cf) else if 200 < l.length then (-1, 3) else scF 0 l
section
variable {cf : Int} {l : List OpC} {k : Nat} {y : OpC}
theorem dropA {α : Type} {l : List α} {k : Nat} {y : α} (hy : l[k]? = some y) : l.drop k = y :: l.drop (k + 1) := by
 obtain ⟨hk, rfl⟩ := List.getElem?_eq_some_iff.1 hy
 exact List.drop_eq_getElem_cons hk
theorem sc_cf (h : cf ≠ 0) : scE cf l = (-1, cf) := if_pos h
theorem sc_long (h : ¬ cf ≠ 0) (h2 : (200 : Int) < (l.length : Int)) : scE cf l = (-1, 3) := by unfold scE; rw [if_neg h, if_pos (by omega)]
theorem sc_step (h : scF 0 l = scF k (l.drop k)) (hy : l[k]? = some y) (h0 : ¬ opE y ≠ 0) : scF 0 l = scF (k + 1) (l.drop (k + 1)) := by
 rw [h, dropA hy, scF, if_neg h0]
theorem sc_op (h : ¬ cf ≠ 0) (h2 : ¬ (200 : Int) < (l.length : Int)) (hz : scF 0 l = scF k (l.drop k)) (hy : l[k]? = some y) (h0 : opE y ≠ 0) : scE cf l = ((k : Int), opE y) := by
 unfold scE; rw [if_neg h, if_neg (by omega), hz, dropA hy, scF, if_pos h0]
theorem sc_ok (h : ¬ cf ≠ 0) (h2 : ¬ (200 : Int) < (l.length : Int)) (hz : scF 0 l = scF k (l.drop k)) (hk : l.length ≤ k) : scE cf l = (0, 0) := by
 unfold scE; rw [if_neg h, if_neg (by omega), hz, List.drop_eq_nil_of_le hk]; rfl
theorem scF_all : ∀ (l : List OpC) (k : Nat), (scF k l).2 = 0 → ∀ c ∈ l, opE c = 0
 | [], _, _, c, hc => by cases hc
 | x :: r, k, h, c, hc => by
  unfold scF at h
  by_cases h0 : opE x ≠ 0
  ·rw [if_pos h0] at h; exact absurd h h0
  ·rw [if_neg h0] at h
   rcases List.mem_cons.1 hc with rfl | hc
   ·omega
   ·exact scF_all r (k + 1) h c hc
theorem sc_inv (h : (scE cf l).2 = 0) : cf = 0 ∧ l.length ≤ 200 ∧ (∀ c ∈ l, opE c = 0) ∧ scE cf l = (0, 0) := by
 unfold scE at h ⊢
 by_cases h1 : cf ≠ 0
 ·rw [if_pos h1] at h; exact absurd h h1
 ·rw [if_neg h1] at h ⊢
  by_cases h2 : 200 < l.length
  ·rw [if_pos h2] at h; cases h
  ·rw [if_neg h2] at h ⊢
   refine ⟨by omega, by omega, scF_all l 0 h, ?_⟩
   have key : ∀ (l : List OpC) (k : Nat), (scF k l).2 = 0 → scF k l = (0, 0) := by
    intro l
    induction l with
    | nil => intro _ _; rfl
    | cons x r ih =>
     intro k h
     unfold scF at h ⊢
     by_cases h0 : opE x ≠ 0
     ·rw [if_pos h0] at h; exact absurd h h0
     ·rw [if_neg h0] at h ⊢; exact ih (k + 1) h
   exact key l 0 h
end
def stp (mx : Int) (rf : Bool) (g : GA) (c : OpC) : GA × AnC := if rf = true ∧ c.kd = 1 ∧ (doG mx g c).2.e = 0 then (g, ⟨5, false, 0⟩) else doG mx g c
def mom (mx : Int) (rf : Nat → Bool) : Nat → GA → List OpC → List (GA × AnC)
 | _, _, [] => []
 | k, g, c :: r => stp mx (rf k) g c :: mom mx rf (k + 1) (stp mx (rf k) g c).1 r
abbrev ME := Int × AnC × GV
def encM (x : ME) : Array Value := #[.int .i64 x.1, .agg #[.int .i64 x.2.1.e, .bool x.2.1.t, .int .u64 x.2.1.v]]
def gsM (G0 : GV) (pre : List ME) : List GV := G0 :: pre.map fun x : ME => x.2.2
def lastG (G0 : GV) (pre : List ME) : GV := match pre.getLast? with
 | some x => x.2.2
 | none => G0
theorem lastG_app {G0 : GV} {pre : List ME} {x : ME} : lastG G0 (pre ++ [x]) = x.2.2 := by unfold lastG; simp
theorem gsM_app {G0 : GV} {pre : List ME} {x : ME} : gsM G0 (pre ++ [x]) = gsM G0 pre ++ [x.2.2] := by unfold gsM; simp
theorem lastG_mem (G0 : GV) (pre : List ME) : lastG G0 pre ∈ gsM G0 pre := by
 unfold lastG gsM
 cases h : pre.getLast? with
 | none => simp
 | some x => exact List.mem_cons_of_mem _ (List.mem_map.2 ⟨x, List.mem_of_getLast? h, rfl⟩)
theorem SM_set {L : List Ab} {o : Ab} {i : Nat} (h : SM L) (ho : o.1.length ≤ 1048576 ∧ o.2.length ≤ 1048576) : SM (L.set i o) := fun x hx => by
 rcases List.mem_or_eq_of_mem_set hx with q | q
 ·exact h x q
 ·subst q; exact ho
theorem SM_ob {L : List Ab} {rs : List Int} {a : Int} (hs : SM L) : (Gr.ob L rs a).1.length ≤ 1048576 ∧ (Gr.ob L rs a).2.length ≤ 1048576 := by
 unfold Gr.ob
 rcases Nat.lt_or_ge (rg rs a - 1).toNat L.length with h | h
 ·rw [List.getD_eq_getElem?_getD, List.getElem?_eq_getElem h]; exact hs _ (List.getElem_mem h)
 ·rw [List.getD_eq_getElem?_getD, List.getElem?_eq_none h]; decide
theorem alE_k {L : List Ab} {rs : List Int} {a p r : Int} (h : alE L rs a p r = 0) : 0 ≤ p ∧ p ≤ 31 ∧ 0 ≤ r ∧ r ≤ 31 ∧ alO L rs a p r = L ++ [nwO p r] ∧ alR L rs a p r = rs.set a.toNat ((L.length : Int) + 1) ∧ ckd L rs [a] = 0 := by
 by_cases hc : ckd L rs [a] ≠ 0
 ·unfold alE at h; rw [if_pos hc] at h; exact absurd h hc
 ·have hc : ckd L rs [a] = 0 := by omega
  have hx := al_X (p := p) (r := r) hc
  rw [h] at hx
  have hq := alX_lt hx.symm
  have h2 := al_ok' (a := a) hc hx.symm
  exact ⟨by omega, by omega, by omega, by omega, h2.2.1, h2.2.2, hc⟩
theorem fin_SM {g g' : GA} {e : Int} (h : SM g.1) (h' : e = 0 → SM g'.1) : SM (fin g e g').1.1 := by
 unfold fin; split
 ·exact h' (by assumption)
 ·exact h
theorem doG_SM {mx : Int} {g : GA} {c : OpC} (h : SM g.1) : SM (doG mx g c).1.1 := by
 have al : SM (fin g (alA mx g c.a c.p c.q) (alO g.1 g.2 c.a c.p c.q, alR g.1 g.2 c.a c.p c.q)).1.1 := fin_SM h fun e => by
  have he : alE g.1 g.2 c.a c.p c.q = 0 := by
   unfold alA at e
   split at e
   ·exact absurd e (by assumption)
   ·split at e
    ·cases e
    ·split at e
     ·cases e
     ·exact e
  obtain ⟨h1, h2, h3, h4, h5, _⟩ := alE_k he
  show SM (alO g.1 g.2 c.a c.p c.q)
  rw [h5]
  intro o ho
  rcases List.mem_append.1 ho with q | q
  ·exact h o q
  ·rw [List.mem_singleton] at q; subst q
   unfold nwO; simp only [List.length_replicate]; omega
 have so : SM (soO g.1 g.2 c.a c.f c.b) := by
  unfold soO; split
  ·exact SM_nil
  ·have := SM_ob (rs := g.2) (a := c.a) h
   exact SM_set h ⟨by rw [List.length_set]; exact this.1, this.2⟩
 have wr : SM (wrO g.1 g.2 c.a c.f c.u) := by
  unfold wrO; split
  ·exact SM_nil
  ·have := SM_ob (rs := g.2) (a := c.a) h
   exact SM_set h ⟨this.1, by rw [List.length_set]; exact this.2⟩
 have ld : SM (ldO g.1 g.2 c.a c.b c.f) := by
  unfold ldO; split
  ·exact SM_nil
  ·exact h
 have kp : ∀ ns, SM (kpO g.1 g.2 ns) := fun ns => by
  unfold kpO; split
  ·exact SM_nil
  ·exact h
 unfold doG
 split
 ·exact al
 ·split
  ·exact fin_SM h fun _ => ld
  ·split
   ·exact fin_SM h fun _ => so
   ·split
    ·exact h
    ·split
     ·exact fin_SM h fun _ => wr
     ·split
      ·exact fin_SM h fun _ => kp _
      ·split
       ·exact fin_SM h fun _ => kp _
       ·split
        ·exact h
        ·split
         ·exact h
         ·split <;> exact h
theorem stp_SM {mx : Int} {rf : Bool} {g : GA} {c : OpC} (h : SM g.1) : SM (stp mx rf g c).1.1 := by
 unfold stp; split
 ·exact h
 ·exact doG_SM h
structure Tr (mx : Int) (rf : Nat → Bool) (G0 : GV) (l : List OpC) (pre : List ME) : Prop where
 len : pre.length ≤ l.length
 run : mom mx rf 0 (gab G0) l = pre.map (fun x : ME => (gab x.2.2, x.2.1)) ++ mom mx rf pre.length (gab (lastG G0 pre)) (l.drop pre.length)
 ix : ∀ (k : Nat) (x : ME), pre[k]? = some x → x.1 = (k : Int)
 sm : SM (gab (lastG G0 pre)).1
section
variable {mx : Int} {rf : Nat → Bool} {G0 : GV} {l : List OpC} {pre : List ME} {y : OpC} {x : ME}
theorem Tr.nil (h : SM (gab G0).1) : Tr mx rf G0 l [] := ⟨by simp, rfl, fun k x h => by simp at h, h⟩
theorem Tr.step (h : Tr mx rf G0 l pre) (hy : l[pre.length]? = some y) (h1 : x.1 = (pre.length : Int)) (h2 : (gab x.2.2, x.2.1) = stp mx (rf pre.length) (gab (lastG G0 pre)) y) : Tr mx rf G0 l (pre ++ [x]) := by
 have hl := (List.getElem?_eq_some_iff.1 hy).1
 refine ⟨by simp; omega, ?_, fun k z hz => ?_, ?_⟩
 ·rw [h.run, dropA hy, mom, ← h2, List.map_append, List.append_assoc, lastG_app, List.length_append, List.length_singleton]; rfl
 ·rcases Nat.lt_or_ge k pre.length with q | q
  ·rw [List.getElem?_append_left q] at hz; exact h.ix k z hz
  ·rw [List.getElem?_append_right q] at hz
   have e : k - pre.length = 0 := by
    rcases Nat.eq_zero_or_pos (k - pre.length) with r | r
    ·exact r
    ·rw [List.getElem?_eq_none (by simp; omega)] at hz; cases hz
   rw [e] at hz
   simp at hz; subst hz; rw [h1]; congr 1; omega
 ·rw [lastG_app]
  have := congrArg Prod.fst h2
  simp only at this
  rw [this]; exact stp_SM h.sm
theorem Tr.done (h : Tr mx rf G0 l pre) (hl : l.length ≤ pre.length) : pre.map (fun x : ME => (gab x.2.2, x.2.1)) = mom mx rf 0 (gab G0) l := by
 rw [h.run, List.drop_eq_nil_of_le hl]; simp [mom]
theorem stp_0 {rb : Bool} {g : GA} {c : OpC} (h : ¬ (rb = true ∧ c.kd = 1 ∧ (doG mx g c).2.e = 0)) : stp mx rb g c = doG mx g c := if_neg h
theorem stp_1 {rb : Bool} {g : GA} {c : OpC} (h : rb = true ∧ c.kd = 1 ∧ (doG mx g c).2.e = 0) : stp mx rb g c = (g, ⟨5, false, 0⟩) := if_pos h
end
theorem gm_mem {G x : GV} {L M : List GV} (h : G ∈ L) (hm : gmem x G M) : x ∈ L ++ M := by
 rcases hm with rfl | q
 ·exact List.mem_append_left _ h
 ·exact List.mem_append_right _ q
end Go.Own.Ml

namespace Go.Own
open Go Go.RowKit
def IterT {α : Type} (P : Program) (gf : Nat) (lb : Array Value) (encs : α → Array Value) (S Sp Vd : List α → Prop) (T : List α → HP) (Rd : World → Prop) : Prop :=
 ∀ (l : Nat) (wb : World) (X : Nat → Prop) (fr : List HP) (J Jx : List α → HP) (W : World),
  (∀ (pre : List α) (W1 : World) (l' : List HP) (j : Nat), St wb X l' W1 → l'[j]? = some (J pre) → Rd W1) →
  (∀ (pre : List α) (x : α) (W1 : World) (l' : List HP), St wb X (J pre :: T (pre ++ [x]) :: l') W1 → Vd (pre ++ [x]) → YieldAt (Fw none) 0 P l (encs x) W1 fun e W' =>
   (e = .returned (.bool true) ∧ St wb X (J (pre ++ [x]) :: T (pre ++ [x]) :: l') W') ∨ (e = .returned (.bool false) ∧ St wb X (Jx (pre ++ [x]) :: T (pre ++ [x]) :: l') W')) →
  St wb X (J [] :: T [] :: fr) W →
  Calls P gf (#[.func (.yield l) #[] #[]] ++ lb) W fun e W' => (∃ v, e = .returned v) ∧ ((∃ xs, S xs ∧ St wb X (J xs :: T xs :: fr) W') ∨ (∃ pre, Sp pre ∧ St wb X (Jx pre :: T pre :: fr) W'))
theorem R_rangeT {α : Type} {P : Program} {g : Operand} {ps : Array Tmp} {assign body : Code} {Q : Exit → Act → World → Prop} {A : Act} {w : World} {gf : Nat} {lb : Array Value} (hg : EV A g = .func (.func gf) #[] lb) (eg : ∀ args w, (callFunc gf args).run P w = .ok (.enter gf args) w)
  {encs : α → Array Value} {S Sp Vd : List α → Prop} {T : List α → HP} {Rd : World → Prop} (hseq : IterT P gf lb encs S Sp Vd T Rd) (hps : ∀ x, (encs x).size = ps.size)
  {wb : World} {X : Nat → Prop} {fr : List HP} (I : List α → HP) (Ix : Code → List α → HP) (h0 : St wb X (I [] :: T [] :: fr) w)
  (hR : ∀ pre W l', St wb X (I pre :: l') W → Rd W) (Ax : α → Act → HP → Prop)
  (hassign : ∀ (l : Nat) (pre : List α) (x : α) (W : World) (fr' : List HP) (K : Act → World → Prop), St wb X (I pre :: fr') W → (∀ a' W' c, Ax x a' c → St wb X (I pre :: c :: fr') W' → K a' W') →
   wpR (some l) P assign (Exit.then K (fun _ _ _ => False)) { tmps := (ps.zip (encs x)).foldl (fun t (p, v) => t.setIfInBounds p v) A.tmps, defers := [] } W)
  (hbody : ∀ (l : Nat) (pre : List α) (x : α) (a' : Act) (W : World) (c : HP) (fr' : List HP), Ax x a' c → (∃ r, W.heap[l]? = some (.loop r)) → St wb X (I pre :: c :: T (pre ++ [x]) :: fr') W → Vd (pre ++ [x]) → wpR (some l) P body (rngPost wb X (T (pre ++ [x]) :: fr') I Ix (pre ++ [x])) a' W)
  (hdone : ∀ (D : Nat) (xs : List α) (W : World), S xs → St wb X (I xs :: ob D (.deferred (some [])) :: T xs :: fr) W → Q .normal (MK D A) W)
  (hstop : ∀ (D : Nat) (c : Code) (pre : List α) (W : World), Sp pre → St wb X (Ix c pre :: ob D (.deferred (some [])) :: T pre :: fr) W → wpR none P c Q (MK D A) W) :
  wpR none P (Code.rangeFunc g ps assign body) Q A w := by
 refine wpIn_rangeFunc ?_
 intro fn hfn
 obtain ⟨rec, hrec⟩ : ∃ rec : LoopState → Option Code → Loop, rec = fun st pe => { state := st, pending := pe, fn, tmps := A.tmps, params := ps, assign, body, defers := w.heap.size } := ⟨_, rfl⟩
 obtain ⟨W1, hW1⟩ : ∃ W1, (w.alloc (.deferred (some []))).alloc (.loop (rec .ready none)) = W1 := ⟨_, rfl⟩
 have hS1 : St wb X (ob (w.heap.size + 1) (.loop (rec .ready none)) :: ob w.heap.size (.deferred (some [])) :: I [] :: T [] :: fr) W1 := by
  have := (h0.lay (.deferred (some []))).lay (.loop (rec .ready none))
  rw [hW1, World.size_alloc] at this; exact this
 let J : List α → HP := fun pre => pk (· = [I pre, ob (w.heap.size + 1) (.loop (rec .ready none)), ob w.heap.size (.deferred (some []))])
 let Jx : List α → HP := fun pre => pk (fun l => ∃ c, l = [Ix c pre, ob (w.heap.size + 1) (.loop (rec .done (some c))), ob w.heap.size (.deferred (some []))])
 have hS2 : St wb X (J [] :: T [] :: fr) W1 := by
  have h3 := hS1.sel3
  exact St.pack (l := [I [], ob (w.heap.size + 1) (.loop (rec .ready none)), ob w.heap.size (.deferred (some []))]) (fr := T [] :: fr) h3 rfl
 refine ⟨w.heap.size + 1, [{ target := .collected w.heap.size, args := #[] }], W1, { target := .fn (.func gf) lb, args := #[.func (.yield (w.heap.size + 1)) #[] #[]] }, W1, gf,
  #[.func (.yield (w.heap.size + 1)) #[] #[]] ++ lb, W1, ?_, ?_, ?_, ?_, fun h => (by cases h), ?_⟩
 ·rw [← hW1, hrec]; exact run_enterLoop_outer (P := P) fn A.tmps ps assign body
 ·have hg' : A.eval g = .func (.func gf) #[] lb := hg
  simp only [resolve, hg']
  simp [go_sem]
 ·intro f' hf'; trivial
 ·simp [invoke, go_sem, eg]
 ·refine callsIn_wide.2 ?_
  refine (hseq (w.heap.size + 1) wb X fr J Jx W1 ?_ ?_ hS2).mono ?_
  ·intro pre W1 l' j hS hj
   obtain ⟨hf, _⟩ := hS.front hj
   obtain ⟨l, rfl, hl⟩ := hf.unpack
   exact hR pre W1 _ hl
  ·-- ONE ROUND
   intro pre x W l' hf hlen
   obtain ⟨l, rfl, hl⟩ := hf.unpack
   have hL := hl.obj 1 rfl rfl
   have hy := run_yield (P := P) (args := encs x) hL (by rw [hrec]; exact hps x)
   rw [hrec] at hy
   refine ⟨fn, _, assign, body, hy, roundIn_of_wpIn hfn ?_⟩
   clear hy
   refine wpIn_n (r := some (w.heap.size + 1)) (hassign _ pre x W _ _ hl ?_)
   intro a' W' c hax hS'
   refine ⟨_, run_beginRound (hS'.obj 2 rfl rfl) (by rw [hrec]), ?_⟩
   have hS3 := hS'.put (o' := .loop { rec .ready none with state := .busy }) 2 rfl rfl
   have hS4 : St wb X (I pre :: c :: T (pre ++ [x]) :: ob (w.heap.size + 1) (.loop { rec .ready none with state := .busy }) :: ob w.heap.size (.deferred (some [])) :: l') _ :=
    St.selR (l := [I pre, c, ob (w.heap.size + 1) (.loop { rec .ready none with state := .busy }), ob w.heap.size (.deferred (some [])), T (pre ++ [x])]) (l' := [I pre, c, T (pre ++ [x]), ob (w.heap.size + 1) (.loop { rec .ready none with state := .busy }), ob w.heap.size (.deferred (some []))]) (fr := l') hS3 [0, 1, 4, 2, 3] (by decide) (by rfl) rfl
   refine wpIn_mono (wpIn_n (r := some (w.heap.size + 1)) (hbody _ pre x a' _ c _ hax ⟨_, hS3.obj 2 rfl rfl⟩ hS4 hlen)) ?_
   have fin : ∀ (jump : Option Code) (W3 : World) (Y : HP), St wb X (Y :: T (pre ++ [x]) :: ob (w.heap.size + 1) (.loop { rec .ready none with state := .busy }) :: ob w.heap.size (.deferred (some [])) :: l') W3 →
     (Instr.endRound (w.heap.size + 1) jump).run P W3 = .ok (.bool jump.isNone) (W3.putObj (w.heap.size + 1) (.loop (rec (if jump.isNone then .ready else .done) jump))) ∧
     St wb X ([Y, ob (w.heap.size + 1) (.loop (rec (if jump.isNone then .ready else .done) jump)), ob w.heap.size (.deferred (some []))] ++ T (pre ++ [x]) :: l') (W3.putObj (w.heap.size + 1) (.loop (rec (if jump.isNone then .ready else .done) jump))) := fun jump W3 Y h => by
    have hr := run_endRound (P := P) jump (h.obj 2 rfl rfl)
    rw [hrec] at hr ⊢
    refine ⟨hr, ?_⟩
    have h5 := h.put (o' := .loop ({ ({ state := .ready, pending := none, fn, tmps := A.tmps, params := ps, assign, body, defers := w.heap.size } : Loop) with state := if jump.isNone then .ready else .done, pending := jump } : Loop)) 2 rfl rfl
    exact St.selR (l := [Y, T (pre ++ [x]), _, ob w.heap.size (.deferred (some []))]) (l' := [Y, _, ob w.heap.size (.deferred (some [])), T (pre ++ [x])]) (fr := l') h5 [0, 2, 3, 1] (by decide) (by rfl) rfl
   rintro e a3 W3 hp
   cases e with
   | normal =>
    obtain ⟨hr, h4⟩ := fin none W3 _ hp
    exact ⟨_, _, hr, .inl ⟨rfl, h4.pack rfl⟩⟩
   | ret =>
    obtain ⟨hr, h4⟩ := fin (some .ret) W3 _ hp
    exact ⟨_, _, hr, .inr ⟨rfl, h4.pack ⟨.ret, rfl⟩⟩⟩
   | exit id =>
    obtain ⟨hr, h4⟩ := fin (some (.exit id)) W3 _ hp
    exact ⟨_, _, hr, .inr ⟨rfl, h4.pack ⟨.exit id, rfl⟩⟩⟩
   | goto t =>
    obtain ⟨hr, h4⟩ := fin (some (.goto t)) W3 _ hp
    exact ⟨_, _, hr, .inr ⟨rfl, h4.pack ⟨.goto t, rfl⟩⟩⟩
   | panic ch => exact hp.elim
   | outgrown => exact hp.elim
  ·-- BEHIND THE ITERATOR
   rintro e W2 ⟨⟨v, rfl⟩, (⟨xs, hS, h⟩ | ⟨pre, hSp, h⟩)⟩
   ·obtain ⟨l, rfl, hl⟩ := St.unpack h
    have hr := run_endLoop (P := P) (hl.obj 1 rfl rfl) (by rw [hrec]; simp)
    have h5 := hl.put (o' := .loop { rec .ready none with state := .exhausted }) 1 rfl rfl
    refine ⟨none, W2.putObj (w.heap.size + 1) (.loop { rec .ready none with state := .exhausted }), (by rw [hrec] at hr ⊢; exact hr), hdone _ xs _ hS ?_⟩
    exact h5.del 1
   ·obtain ⟨l, ⟨c, rfl⟩, hl⟩ := St.unpack h
    have hr := run_endLoop (P := P) (hl.obj 1 rfl rfl) (by rw [hrec]; simp)
    have h5 := hl.put (o' := .loop { rec .done (some c) with state := .exhausted }) 1 rfl rfl
    refine ⟨some c, W2.putObj (w.heap.size + 1) (.loop { rec .done (some c) with state := .exhausted }), (by rw [hrec] at hr ⊢; exact hr), wpIn_n (r := none) (hstop _ c pre _ hSp ?_)⟩
    exact h5.del 1
section
variable {w0 w : World} {X : Nat → Prop} {a b c : HP} {fr : List HP}
theorem T_open (h : St w0 X (c :: pk (· = [a, b]) :: fr) w) : St w0 X (c :: a :: b :: fr) w := by
 obtain ⟨l, rfl, h2⟩ := (St.swap h).unpack
 exact St.selR (l := [a, b, c]) (l' := [c, a, b]) (fr := fr) h2 [2, 0, 1] (by decide) (by rfl) rfl
theorem T_shut (h : St w0 X (c :: a :: b :: fr) w) : St w0 X (c :: pk (· = [a, b]) :: fr) w := by
 have h2 : St w0 X ([a, b] ++ (c :: fr)) w := St.selR (l := [c, a, b]) (l' := [a, b, c]) (fr := fr) h [1, 2, 0] (by decide) (by rfl) rfl
 exact St.swap (St.pack (C := (· = [a, b])) (l := [a, b]) (fr := c :: fr) h2 rfl)
theorem at_obRo {g : Nat} {o : Obj} (h : (ob g o).at w) : Ro w NoX (ob g o) := by
 have := ob_at h
 refine ⟨(· = g), ⟨rfl, this⟩, fun b hb => ⟨?_, fun x => x⟩⟩
 subst hb; exact (Array.getElem?_eq_some_iff.1 this).1
end
theorem W_callB {P : Program} {ops : Array Oper} {l : List Oper} {o : Oper} {A : Act} {Q : Exit → Act → World → Prop} {w : World} {d : Tmp} {f : FuncId} {fn : Func} {xs : Array Operand} {c : Operand} {ats : Array TypeId} {args fb lb : Array Value} {R : Ending → World → Prop} (hd : o.dst = some d) (hw : Region.wanted o (yielded ops A.tmps) = true)
  (ho : o.op = .call { callee := .value c, args := xs, argTypes := ats }) (hc : EV A c = .func (.func f) fb lb) (hf : P.funcs[f]? = some fn)
  (hn : (fn.name == "runtime.NumGoroutine") = false) (hb : fn.body.isNone = false) (ha : xs.map (EV A) = args)
  (hx : Calls P f ((fb ++ args) ++ lb) w R) (hR : ∀ e w', R e w' → ∃ v, e = .returned v ∧ WX P ops Q l (PT A d v) w') : WX P ops Q (o :: l) A w := by
 refine ⟨?_⟩
 have hrun : (execOp (EV A) o).run P w = .ok (.enter f ((fb ++ args) ++ lb)) w := by
  unfold execOp
  simp [ho, resolve, hc, ha, invoke, Deferred.ofValue, calls_enter hf hn hb]
 unfold wpList
 rw [if_pos hw]
 refine .inl ?_
 unfold Oper.wp Oper.upon
 rw [ex_ev hrun]
 exact hx.mono fun e w' he => by obtain ⟨v, h1, h2⟩ := hR e w' he; subst h1; simp only [hd]; exact h2.out
end Go.Own

namespace Go.Own
open Go Go.RowKit Go.Own.Ml
def mT (gs T : Nat) (n : Int) (G0 : GV) (pre : List ME) : HP := pk (· = [bx gs T #[(lastG G0 pre).1.1, (lastG G0 pre).2.1, .int .i64 n], gls (gsM G0 pre)])
section
variable {w0 w : World} {X : Nat → Prop} {c : HP} {fr : List HP} {gs T : Nat} {n : Int} {G0 : GV} {pre : List ME} {x : ME}
theorem mT_open (h : St w0 X (c :: mT gs T n G0 pre :: fr) w) : ∃ b k, b = bx gs T #[(lastG G0 pre).1.1, (lastG G0 pre).2.1, .int .i64 n] ∧ k = gls (gsM G0 pre) ∧ St w0 X (c :: b :: k :: fr) w := ⟨_, _, rfl, rfl, T_open h⟩
theorem mT_shut {b k : HP} (hb : b = bx gs T #[(lastG G0 pre).1.1, (lastG G0 pre).2.1, .int .i64 n]) (hk : k = gls (gsM G0 pre)) (h : St w0 X (c :: b :: k :: fr) w) : St w0 X (c :: mT gs T n G0 pre :: fr) w := by
 subst hb hk; exact T_shut h
theorem gsM_sub {L : List GV} (h1 : ∀ G ∈ gsM G0 pre, G ∈ L) (h2 : x.2.2 ∈ L) : ∀ G ∈ gsM G0 (pre ++ [x]), G ∈ L := fun G hG => by
 rw [gsM_app] at hG
 rcases List.mem_append.1 hG with q | q
 ·exact h1 G q
 ·rw [List.mem_singleton] at q; subst q; exact h2
theorem gsM_last : x.2.2 ∈ gsM G0 (pre ++ [x]) := by rw [gsM_app]; simp
end
end Go.Own
namespace Go.Own.Ml
open Go Go.Own
section
variable {l : List Int} {x y : Int} {lo m : Nat}
def Asc (l : List Int) : Prop := ∀ i j : Nat, i < j → ∀ a b, l[i]? = some a → l[j]? = some b → a < b
theorem bs_lo (hs : Asc l) (hy : l[m]? = some y) (h : y < x) : ∀ i, i < m + 1 → ∀ z, l[i]? = some z → z < x := fun i hi z hz => by
 by_cases e : i = m
 ·subst e; rw [hy] at hz; cases hz; exact h
 ·have := hs i m (by omega) z y hz hy; omega
theorem bs_hi (hs : Asc l) (hy : l[m]? = some y) (h : ¬ y < x) : ∀ i, m ≤ i → ∀ z, l[i]? = some z → x ≤ z := fun i hi z hz => by
 by_cases e : i = m
 ·subst e; rw [hy] at hz; cases hz; omega
 ·have := hs m i (by omega) y z hy hz; omega
theorem bs_no1 (hlo : ∀ i, i < lo → ∀ z, l[i]? = some z → z < x) (h : l.length ≤ lo) : ¬ x ∈ l := fun hm => by
 obtain ⟨i, hi, rfl⟩ := List.mem_iff_getElem.1 hm
 have := hlo i (by omega) _ (List.getElem?_eq_getElem hi)
 omega
theorem bs_no2 (hs : Asc l) (hlo : ∀ i, i < lo → ∀ z, l[i]? = some z → z < x) (hhi : ∀ i, lo ≤ i → ∀ z, l[i]? = some z → x ≤ z) (hy : l[lo]? = some y) (h : ¬ y = x) : ¬ x ∈ l := fun hm => by
 obtain ⟨i, hi, he⟩ := List.mem_iff_getElem.1 hm
 have hg : l[i]? = some x := by rw [List.getElem?_eq_getElem hi, he]
 rcases Nat.lt_trichotomy i lo with q | q | q
 ·have := hlo i q x hg; omega
 ·subst q; rw [hy] at hg; exact h (Option.some.inj hg)
 ·have h1 := hhi lo (Nat.le_refl _) y hy
  have h2 := hs lo i q y x hy hg
  omega
end
end Go.Own.Ml
