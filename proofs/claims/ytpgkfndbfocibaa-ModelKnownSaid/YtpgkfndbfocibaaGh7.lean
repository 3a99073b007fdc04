import Derived.Test.YtpgkfndbfocibaaSepG
import Derived.Test.YtpgkfndbfocibaaProg
import Derived.Test.YtpgkfndbfocibaaGh3
import Derived.Test.YtpgkfndbfocibaaPl15e
import Derived.Test.YtpgkfndbfocibaaSepZ
import Derived.Test.YtpgkfndbfocibaaPl15f
import Derived.Test.YtpgkfndbfocibaaSepB
import Derived.Test.YtpgkfndbfocibaaPl15g
import Derived.Test.YtpgkfndbfocibaaPl15h
/-! regions that draw their order: each operation says which chunks it reads and which it turns; those that turn the same chunk wait for each other -/
namespace Go.Own
open Go Go.RowKit
/-- chunks by number. -/
def StF (w0 : World) (X : Nat → Prop) (n : Nat) (f : Nat → HP) (w : World) : Prop :=
  ExtX X w0 w ∧ ∃ fs : Nat → Nat → Prop, (∀ r, r < n → (f r).p w (fs r)) ∧ (∀ r b, fs r b → r < n ∧ (w0.heap.size ≤ b ∨ X b) ∧ b < w.heap.size) ∧ ∀ r q b, fs r b → fs q b → r = q
/-- all chunks but those of rs. -/
def bag (n : Nat) (rs : List Nat) (f : Nat → HP) : HP where
  p w g := ∃ gs : Nat → Nat → Prop, (∀ r, r < n → r ∉ rs → (f r).p w (gs r)) ∧ (∀ r b, gs r b → (r < n ∧ r ∉ rs) ∧ g b) ∧ ∀ r q b, gs r b → gs q b → r = q
  loc := fun ⟨gs, h1, h2, h3⟩ hs hb => ⟨gs, fun r hr hn => (f r).loc (h1 r hr hn) (fun b h => hs b (h2 r b h).2) fun b h => hb b (h2 r b h).2, h2, h3⟩
section
variable {w0 w : World} {X : Nat → Prop} {n : Nat} {f : Nat → HP} {rs : List Nat}
theorem StF.of {l : List HP} (h : St w0 X l w) (hn : l.length = n) (hf : ∀ r c, l[r]? = some c → f r = c) : StF w0 X n f w := by
  obtain ⟨he, fs, h1, h2, h3⟩ := h
  refine ⟨he, fs, fun r hr => ?_, fun r b hb => by rw [← hn]; exact h2 r b hb, h3⟩
  have := List.getElem?_eq_getElem (l := l) (i := r) (by omega)
  rw [hf r _ this]; exact h1 r _ this
theorem StF.st (h : StF w0 X n f w) : St w0 X ((List.range n).map f) w := by
  obtain ⟨he, fs, h1, h2, h3⟩ := h
  refine ⟨he, fs, fun r c hc => ?_, fun r b hb => by simpa using h2 r b hb, h3⟩
  have hr : r < n := by
    have := (List.getElem?_eq_some_iff.1 hc).1
    simpa using this
  rw [List.getElem?_map, List.getElem?_range hr] at hc
  simp only [Option.map_some, Option.some.injEq] at hc
  subst hc; exact h1 r hr
theorem StF.congr {g : Nat → HP} (h : StF w0 X n f w) (e : ∀ r, r < n → f r = g r) : StF w0 X n g w := by
  obtain ⟨he, fs, h1, h2, h3⟩ := h
  exact ⟨he, fs, fun r hr => e r hr ▸ h1 r hr, h2, h3⟩
theorem StF.pick (h : StF w0 X n f w) (hr : ∀ r ∈ rs, r < n) (hn : rs.Nodup) : St w0 X (rs.map f ++ [bag n rs f]) w := by
  obtain ⟨he, fs, h1, h2, h3⟩ := h
  have gi : ∀ {i : Nat}, i < rs.length → ∃ r, rs[i]? = some r ∧ r ∈ rs := fun {i} hi => ⟨rs[i], List.getElem?_eq_getElem hi, List.getElem_mem hi⟩
  refine ⟨he, fun i b => if i < rs.length then ∃ r, rs[i]? = some r ∧ fs r b else i = rs.length ∧ ∃ r, r < n ∧ r ∉ rs ∧ fs r b, fun i c hc => ?_, fun i b hb => ?_, fun i j b hi hj => ?_⟩
  · by_cases hi : i < rs.length
    · rw [List.getElem?_append_left (by simpa using hi), List.getElem?_map, List.getElem?_eq_getElem hi] at hc
      simp only [Option.map_some, Option.some.injEq] at hc
      subst hc
      exact HP.eq_p (by funext b; simp [hi]) (h1 _ (hr _ (List.getElem_mem hi)))
    · have hi2 : i = rs.length := by
        have := (List.getElem?_eq_some_iff.1 hc).1
        simp at this; omega
      subst hi2
      rw [List.getElem?_append_right (by simp)] at hc
      simp at hc; subst hc
      have hb : (bag n rs f).p w (fun b => ∃ r, r < n ∧ r ∉ rs ∧ fs r b) := ⟨fun r b => r < n ∧ r ∉ rs ∧ fs r b, fun r hr' hn' => HP.eq_p (g := fs r) (f := fun b => r < n ∧ r ∉ rs ∧ fs r b) (by funext b; simp [hr', hn']) (h1 r hr'), fun r b hb => ⟨⟨hb.1, hb.2.1⟩, r, hb⟩, fun r q b h h' => h3 r q b h.2.2 h'.2.2⟩
      exact HP.eq_p (by funext b; simp) hb
  · by_cases hi : i < rs.length
    · simp only [hi, if_true] at hb
      obtain ⟨r, _, hb⟩ := hb
      exact ⟨by simp; omega, (h2 r b hb).2⟩
    · simp only [hi, if_false] at hb
      obtain ⟨e, r, _, _, hb⟩ := hb
      exact ⟨by simp; omega, (h2 r b hb).2⟩
  · by_cases hi' : i < rs.length <;> by_cases hj' : j < rs.length
    · simp only [hi', hj', if_true] at hi hj
      obtain ⟨r, hr1, hb1⟩ := hi
      obtain ⟨q, hq1, hb2⟩ := hj
      have e := h3 r q b hb1 hb2
      subst e
      obtain ⟨_, e1⟩ := List.getElem?_eq_some_iff.1 hr1
      obtain ⟨_, e2⟩ := List.getElem?_eq_some_iff.1 hq1
      exact (List.getElem_inj hn).1 (e1.trans e2.symm)
    · simp only [hi', hj', if_true, if_false] at hi hj
      obtain ⟨r, hr1, hb1⟩ := hi
      obtain ⟨_, q, _, hq, hb2⟩ := hj
      exact absurd (h3 r q b hb1 hb2 ▸ List.mem_of_getElem? hr1) hq
    · simp only [hi', hj', if_true, if_false] at hi hj
      obtain ⟨r, hr1, hb1⟩ := hj
      obtain ⟨_, q, _, hq, hb2⟩ := hi
      exact absurd (h3 r q b hb1 hb2 ▸ List.mem_of_getElem? hr1) hq
    · simp only [hi', hj', if_false] at hi hj; omega
theorem StF.unpick {g : List HP} (h : St w0 X (g ++ [bag n rs f]) w) (hr : ∀ r ∈ rs, r < n) (hn : rs.Nodup) (hg : g.length = rs.length) : StF w0 X n (fun r => if r ∈ rs then g.getD (rs.idxOf r) (pu True) else f r) w := by
  obtain ⟨he, hs, h1, h2, h3⟩ := h
  obtain ⟨gs, g1, g2, g3⟩ := h1 rs.length (bag n rs f) (by rw [List.getElem?_append_right (by omega)]; simp [hg])
  have ix : ∀ {r}, r ∈ rs → rs.idxOf r < rs.length := fun h => List.idxOf_lt_length_of_mem h
  refine ⟨he, fun r b => if r ∈ rs then hs (rs.idxOf r) b else gs r b, fun r hr' => ?_, fun r b hb => ?_, fun r q b hb hb' => ?_⟩
  · by_cases h : r ∈ rs
    · simp only [h, if_true]
      have hl : rs.idxOf r < g.length := by rw [hg]; exact ix h
      have e : g.getD (rs.idxOf r) (pu True) = g[rs.idxOf r] := by rw [List.getD_eq_getElem?_getD, List.getElem?_eq_getElem hl]; rfl
      rw [e]
      exact HP.eq_p (g := hs (rs.idxOf r)) (by funext b; simp [h]) (h1 (rs.idxOf r) _ (by rw [List.getElem?_append_left hl]; exact List.getElem?_eq_getElem hl))
    · simp only [h, if_false]
      exact HP.eq_p (by funext b; simp [h]) (g1 r hr' h)
  · by_cases h : r ∈ rs
    · simp only [h, if_true] at hb
      exact ⟨hr r h, (h2 _ b hb).2⟩
    · simp only [h, if_false] at hb
      have := g2 r b hb
      exact ⟨this.1.1, (h2 _ b this.2).2⟩
  · by_cases hA : r ∈ rs <;> by_cases hC : q ∈ rs
    · simp only [hA, hC, if_true] at hb hb'
      have e := h3 _ _ b hb hb'
      have e1 := List.getElem_idxOf (ix hA)
      have e2 := List.getElem_idxOf (ix hC)
      rw [← e1, ← e2]; congr 1
    · simp only [hA, hC, if_true, if_false] at hb hb'
      have := h3 _ _ b hb (g2 q b hb').2
      have := ix hA; omega
    · simp only [hA, hC, if_true, if_false] at hb hb'
      have := h3 _ _ b hb' (g2 r b hb).2
      have := ix hC; omega
    · simp only [hA, hC, if_false] at hb hb'; exact g3 r q b hb hb'
end
/-- what one operation does: the chunks it reads, those it turns, and how; what is known of its slot. -/
structure PO where
  rd : List Nat
  wr : List Nat
  ts : List Tmp
  post : List Value → List HP
  fact : List Value → Prop
def po0 : PO := ⟨[], [], [], fun _ => [], fun _ => True⟩
def vsA (ts : List Tmp) (a : Act) : List Value := ts.map fun t => EV a (.tmp t)
/-- chunk r as the last of the operations below n that are on has left it. -/
def ver (I : List HP) (po : List PO) (on : Nat → Bool) (a : Act) : Nat → Nat → HP
  | 0, r => I.getD r (pu True)
  | n + 1, r => if (on n && (po.getD n po0).wr.contains r) = true then ((po.getD n po0).post (vsA (po.getD n po0).ts a)).getD ((po.getD n po0).wr.idxOf r) (pu True) else ver I po on a n r
def dstB (o : Oper) (t : Tmp) : Bool := match o.dst with | some d => d == t | none => false
def parB (ops : Array Oper) (po : List PO) (nr : Nat) : Bool :=
  L.ancB ops && decide (po.length = ops.size) &&
  ((List.range ops.size).all fun i => (match ops[i]? with | some o => o.after.all fun d => !(Region.binds .any d) || (decide (d.on < i) && L.anc ops i d.on) | none => true)) &&
  ((List.range ops.size).all fun i => ((po.getD i po0).rd ++ (po.getD i po0).wr).all (fun r => decide (r < nr)) && decide (((po.getD i po0).rd ++ (po.getD i po0).wr).Nodup)) &&
  ((List.range ops.size).all fun i => (List.range ops.size).all fun j => i == j || L.anc ops i j || L.anc ops j i || ((po.getD i po0).rd ++ (po.getD i po0).wr).all fun r => !(po.getD j po0).wr.contains r) &&
  ((List.range ops.size).all fun j => (po.getD j po0).ts.all fun t => (List.range ops.size).all fun i => i == j || L.anc ops j i || (match ops[i]? with | some o => !dstB o t | none => true))
/-- on: what may have been run. -/
structure FrA (ops : Array Oper) (on : Nat → Bool) (A a : Act) : Prop where
  sz : a.tmps.size = A.tmps.size
  df : a.defers = A.defers
  old : ∀ t : Tmp, (∀ (i : Nat) (o : Oper), ops[i]? = some o → dstB o t = true → on i = false) → EV a (.tmp t) = EV A (.tmp t)
theorem FrA.mono {ops : Array Oper} {on on' : Nat → Bool} {A a : Act} (h : FrA ops on A a) (hm : ∀ i, i < ops.size → on i = true → on' i = true) : FrA ops on' A a :=
  ⟨h.sz, h.df, fun t ht => h.old t fun i o ho hd => by
    cases hq : on i with
    | false => rfl
    | true => have := hm i (Array.getElem?_eq_some_iff.1 ho).1 hq; rw [ht i o ho hd] at this; cases this⟩
/-- ahead of operation i: neither itself nor what waits for it. -/
def onI (ops : Array Oper) (i j : Nat) : Bool := !(L.anc ops j i) && !(j == i)
theorem ver_congr {I : List HP} {po : List PO} {on on' : Nat → Bool} {a a' : Act} {r : Nat} : ∀ n, (∀ j, j < n → (po.getD j po0).wr.contains r = true → on j = on' j ∧ (on j = true → vsA (po.getD j po0).ts a = vsA (po.getD j po0).ts a')) → ver I po on a n r = ver I po on' a' n r
  | 0, _ => rfl
  | n + 1, h => by
    unfold ver
    by_cases hw : (po.getD n po0).wr.contains r = true
    · obtain ⟨h1, h2⟩ := h n (by omega) hw
      rw [← h1]
      by_cases ho : on n = true
      · rw [h2 ho]; simp only [ho, hw, Bool.true_and, if_true]
      · have ho' : on n = false := by simpa using ho
        simp only [ho', Bool.false_and]
        exact ver_congr n fun j hj hc => h j (by omega) hc
    · have hw' : (po.getD n po0).wr.contains r = false := by simpa using hw
      simp only [hw', Bool.and_false]
      exact ver_congr n fun j hj hc => h j (by omega) hc
theorem ver_at {I : List HP} {po : List PO} {on : Nat → Bool} {a : Act} {r i : Nat} (hi : on i = true) (hw : (po.getD i po0).wr.contains r = true) : ∀ n, i < n → (∀ j, j < n → i < j → (po.getD j po0).wr.contains r = true → on j = false) → ver I po on a n r = ((po.getD i po0).post (vsA (po.getD i po0).ts a)).getD ((po.getD i po0).wr.idxOf r) (pu True)
  | 0, h, _ => by omega
  | n + 1, h, hn => by
    unfold ver
    by_cases e : i = n
    · subst e; simp only [hi, hw, Bool.true_and, if_true]
    · have : (on n && (po.getD n po0).wr.contains r) = false := by
        by_cases hc : (po.getD n po0).wr.contains r = true
        · rw [hn n (by omega) (by omega) hc]; rfl
        · simp only [hc, Bool.and_false]
      rw [this]
      exact ver_at hi hw n (by omega) fun j hj hij hc => hn j (by omega) hij hc
theorem vs_put {ts : List Tmp} {a : Act} {d : Option Tmp} {v : Value} (h : ∀ t, d = some t → t ∉ ts) : vsA ts (a.put d v) = vsA ts a := by
  cases d with
  | none => rfl
  | some t =>
    refine List.map_congr_left fun q hq => ?_
    have hne : (t == q) = false := by
      cases e : (t == q) with
      | false => rfl
      | true => exact absurd (by rw [eq_of_beq e]; exact hq) (h t rfl)
    exact Go.Own.ev_ne hne
theorem all_listed {ops : Array Oper} (hT : ∀ i o, ops[i]? = some o → ∀ d ∈ o.after, Region.binds .any d = true → d.on < i) {listed : Array Bool} (hs : listed.size = ops.size) (hr : Region.ready .any ops listed = []) : ∀ i, i < ops.size → listed.getD i false = true := by
  intro i
  induction i using Nat.strongRecOn with
  | _ i ih =>
    intro hi
    have ho := Array.getElem?_eq_getElem hi
    cases hl : listed.getD i true with
    | true => have : i < listed.size := by omega
              simp [this] at hl ⊢; exact hl
    | false =>
      exfalso
      have : i ∈ Region.ready .any ops listed := mem_ready.2 ⟨hl, _, ho, fun d hd hb => ih d.on (hT i _ ho d hd hb) (by have := hT i _ ho d hd hb; omega)⟩
      rw [hr] at this; cases this
section
variable {P : Program} {ops : Array Oper} {Q : Exit → Act → World → Prop} {A : Act} {wb w : World} {X : Nat → Prop} {I : List HP} {po : List PO}
def StepA (P : Program) (ops : Array Oper) (Q : Exit → Act → World → Prop) (A : Act) (wb : World) (X : Nat → Prop) (I : List HP) (po : List PO) (i : Nat) (o : Oper) : Prop :=
  ∀ (a : Act) (w : World) (rest : HP), FrA ops (onI ops i) A a → (∀ j, L.anc ops i j = true → (po.getD j po0).fact (vsA (po.getD j po0).ts a)) →
    St wb X (((po.getD i po0).rd ++ (po.getD i po0).wr).map (ver I po (L.anc ops i) a ops.size) ++ [rest]) w →
    WX P ops (KQ (fun a' w' => ∃ u, a' = a.put o.dst u ∧ (po.getD i po0).fact (vsA (po.getD i po0).ts a') ∧
      ((po.getD i po0).post (vsA (po.getD i po0).ts a')).length = (po.getD i po0).wr.length ∧
      St wb X ((po.getD i po0).rd.map (ver I po (L.anc ops i) a ops.size) ++ (po.getD i po0).post (vsA (po.getD i po0).ts a') ++ [rest]) w') Q) [o] a w
theorem dst_sz {a : Act} {d : Option Tmp} {u : Value} : (a.put d u).tmps.size = a.tmps.size := by cases d <;> simp [Act.put]
theorem dst_df {a : Act} {d : Option Tmp} {u : Value} : (a.put d u).defers = a.defers := by cases d <;> rfl
theorem FrA.put {a : Act} {i : Nat} {o : Oper} {u : Value} {on on' : Nat → Bool} (h : FrA ops on A a) (ho : ops[i]? = some o) (hi : on' i = true) (hm : ∀ j, j < ops.size → on j = true → on' j = true) : FrA ops on' A (a.put o.dst u) := by
  refine ⟨dst_sz.trans h.sz, dst_df.trans h.df, fun t ht => ?_⟩
  rw [← (h.mono hm).old t ht]
  have hb : dstB o t = false := by
    cases hq : dstB o t with
    | false => rfl
    | true => have := ht i o ho hq; rw [hi] at this; cases this
  unfold dstB at hb
  cases hd : o.dst with
  | none => rfl
  | some d => rw [hd] at hb; exact Go.Own.ev_ne hb
theorem AX_par (hB : parB ops po I.length = true) (hS : St wb X I w) (hstep : ∀ i o, ops[i]? = some o → StepA P ops Q A wb X I po i o)
    (hend : ∀ a w, FrA ops (fun _ => true) A a → (∀ j, j < ops.size → (po.getD j po0).fact (vsA (po.getD j po0).ts a)) → St wb X ((List.range I.length).map (ver I po (fun _ => true) a ops.size)) w → Q .normal a w) :
    AX P ops Q ops.size (Array.replicate ops.size false) A w := by
  simp only [parB, Bool.and_eq_true, List.all_eq_true, List.mem_range, decide_eq_true_eq, Bool.or_eq_true, beq_iff_eq, Bool.not_eq_true'] at hB
  obtain ⟨⟨⟨⟨⟨hA, hl⟩, hT⟩, hR⟩, hC⟩, hN⟩ := hB
  have hA := L.AncOk.of hA
  have hTop : ∀ i o, ops[i]? = some o → ∀ d ∈ o.after, Region.binds .any d = true → d.on < i ∧ L.anc ops i d.on = true := fun i o ho d hd hb => by
    have h1 := hT i (Array.getElem?_eq_some_iff.1 ho).1
    rw [ho] at h1
    simp only at h1
    have h2 := Array.all_eq_true'.1 h1 d hd
    simp only [hb, Bool.not_true, Bool.false_or, Bool.and_eq_true, decide_eq_true_eq] at h2
    exact h2
  have key : ∀ (fuel : Nat) (listed : Array Bool) (a : Act) (w : World), listed.size = ops.size → L.Closed ops listed → FrA ops (fun j => listed.getD j false) A a →
      (∀ j, j < ops.size → listed.getD j false = true → (po.getD j po0).fact (vsA (po.getD j po0).ts a)) →
      StF wb X I.length (ver I po (fun j => listed.getD j false) a ops.size) w → (fuel = 0 → Region.ready .any ops listed = []) → (fuel = ((List.range ops.size).filter fun j => !(listed.getD j true)).length) → wpAny P .any ops Q fuel listed a w := by
    intro fuel
    have fin : ∀ (listed : Array Bool) (a : Act) (w : World), listed.size = ops.size → FrA ops (fun j => listed.getD j false) A a →
      (∀ j, j < ops.size → listed.getD j false = true → (po.getD j po0).fact (vsA (po.getD j po0).ts a)) →
      StF wb X I.length (ver I po (fun j => listed.getD j false) a ops.size) w → Region.ready .any ops listed = [] → Q .normal a w := by
      intro listed a w hs hFr hF hSt h0
      have hall := all_listed (fun i o ho d hd hb => (hTop i o ho d hd hb).1) hs h0
      refine hend a w (hFr.mono fun _ _ _ => rfl) (fun j hj => hF j hj (hall j hj)) ?_
      refine (hSt.congr fun r _ => ?_).st
      exact ver_congr _ fun j hj _ => ⟨hall j hj, fun _ => rfl⟩
    induction fuel with
    | zero => intro listed a w hs hcl hFr hF hSt h0 _; exact ⟨h0 rfl, fin listed a w hs hFr hF hSt (h0 rfl)⟩
    | succ fuel ih =>
      intro listed a w hs hcl hFr hF hSt _ hfu
      refine ⟨fun h0 => fin listed a w hs hFr hF hSt h0, fun i hi => ?_⟩
      obtain ⟨hun, o, ho, hall⟩ := mem_ready.1 hi
      have hin : i < ops.size := (Array.getElem?_eq_some_iff.1 ho).1
      have hil : i < listed.size := by omega
      have gd : ∀ j, j < ops.size → listed.getD j true = listed.getD j false := fun j hj => by
        have : j < listed.size := by omega
        simp [this]
      have hanc : ∀ j, L.anc ops i j = true → listed.getD j false = true := fun j hj =>
        L.anc_listed hA hcl i i j (Nat.le_refl _) (fun o' ho' d hd hb => by rw [ho] at ho'; cases ho'; exact hall d hd hb) hj
      have hlt : ∀ i j, L.anc ops i j = true → j < i := by
        intro i
        induction i using Nat.strongRecOn with
        | _ i ih =>
          intro j hj
          obtain ⟨_, _, d, _, _, h1, h2⟩ := hA i j hj
          rcases h2 with rfl | h2
          · exact h1
          · have := ih d.on h1 j h2; omega
      have hcmp : ∀ j, j < ops.size → ∀ r, r ∈ (po.getD i po0).rd ++ (po.getD i po0).wr → (po.getD j po0).wr.contains r = true → j ≠ i → (listed.getD j false = L.anc ops i j) := by
        intro j hj r hr hc hji
        have h := hC i hin j hj
        rcases h with ((h | h) | h) | h
        · exact absurd h.symm hji
        · rw [h]; exact hanc j h
        · have h1 : listed.getD j false = false := by
            cases hq : listed.getD j false with
            | false => rfl
            | true =>
              have := L.anc_listed hA hcl j j i (Nat.le_refl _) (fun o' ho' d hd hb => hcl j o' ho' hq d hd hb) h
              rw [← gd i hin, hun] at this; cases this
          have h2 : L.anc ops i j = false := by
            cases hq : L.anc ops i j with
            | false => rfl
            | true => have := hanc j hq; rw [h1] at this; cases this
          rw [h1, h2]
        · have := h r hr
          rw [hc] at this; cases this
      have hrs := (hR i hin).1
      have hnd := (hR i hin).2
      have hpick := hSt.pick hrs hnd
      have hve : ∀ r ∈ (po.getD i po0).rd ++ (po.getD i po0).wr, ver I po (fun j => listed.getD j false) a ops.size r = ver I po (L.anc ops i) a ops.size r := fun r hr => ver_congr _ fun j hj hc => by
        by_cases e : j = i
        · subst e
          refine ⟨?_, fun _ => rfl⟩
          have : L.anc ops j j = false := by
            cases hq : L.anc ops j j with
            | false => rfl
            | true => have := hlt j j hq; omega
          rw [this, ← gd j hj, hun]
        · exact ⟨hcmp j hj r hr hc e, fun _ => rfl⟩
      rw [List.map_congr_left hve] at hpick
      have hstp := hstep i o ho a w _ (hFr.mono fun j hj hlj => by
        have h1 : ¬ j = i := fun e => by subst e; rw [← gd j hj, hun] at hlj; cases hlj
        have h2 : L.anc ops j i = false := by
          cases hq : L.anc ops j i with
          | false => rfl
          | true =>
            have := L.anc_listed hA hcl j j i (Nat.le_refl _) (fun o' ho' d hd hb => hcl j o' ho' hlj d hd hb) hq
            rw [← gd i hin, hun] at this; cases this
        unfold onI; rw [h2]; simp [h1]) (fun j hj => by
        have hjs : j < ops.size := by have := hlt i j hj; omega
        exact hF j hjs (hanc j hj)) hpick
      refine wpOp_mono (K := _) ?_ (op_any ho hstp)
      rintro a' w' ⟨u, rfl, hf, hpl, hS'⟩
      have hs' : (listed.setIfInBounds i true).size = ops.size := by simp [hs]
      have gl : ∀ j, j < ops.size → (listed.setIfInBounds i true).getD j false = if j = i then true else listed.getD j false := fun j hj => by
        by_cases e : j = i
        · subst e; simp [hil]
        · rw [getD_set_ne false (fun q => e q.symm), if_neg e]
      have hput : ∀ j, j < ops.size → listed.getD j false = true → vsA (po.getD j po0).ts (a.put o.dst u) = vsA (po.getD j po0).ts a := fun j hj hlj => vs_put fun t ht hm => by
        have h := hN j hj t hm i hin
        have hji : j ≠ i := fun e => by subst e; rw [← gd j hj, hun] at hlj; cases hlj
        rcases h with (h | h) | h
        · exact hji h.symm
        · have := L.anc_listed hA hcl j j i (Nat.le_refl _) (fun o' ho' d hd hb => hcl j o' ho' hlj d hd hb) h
          rw [← gd i hin, hun] at this; cases this
        · simp [ho, dstB, ht] at h
      refine ih _ _ _ hs' (hcl.set hi) (hFr.put ho (by rw [gl i hin, if_pos rfl]) fun j hj hlj => by rw [gl j hj]; split <;> first | rfl | exact hlj) (fun j hj hlj => ?_) ?_ (fun h0 => ?_) ?_
      · by_cases e : j = i
        · subst e; exact hf
        · rw [gl j hj, if_neg e] at hlj
          rw [hput j hj hlj]; exact hF j hj hlj
      · have h5 := StF.unpick (rs := (po.getD i po0).rd ++ (po.getD i po0).wr) hS' hrs hnd (by rw [List.length_append, List.length_append, List.length_map, hpl])
        refine h5.congr fun r hr => ?_
        by_cases hw : (po.getD i po0).wr.contains r = true
        · have hm : r ∈ (po.getD i po0).wr := by simpa using hw
          have hnr : r ∉ (po.getD i po0).rd := fun q => by
            have := (List.nodup_append.1 hnd).2.2 r q r hm
            exact this rfl
          rw [if_pos (List.mem_append_right _ hm)]
          rw [ver_at (i := i) (by rw [gl i hin, if_pos rfl]) hw ops.size hin fun j hj hij hc => by
            rw [gl j hj, if_neg (by omega), hcmp j hj r (List.mem_append_right _ hm) hc (by omega)]
            cases hq : L.anc ops i j with
            | false => rfl
            | true => have := hlt i j hq; omega]
          rw [List.idxOf_append, if_neg hnr, List.getD_eq_getElem?_getD, List.getD_eq_getElem?_getD, List.getElem?_append_right (by simp)]
          simp
        · have hm : r ∉ (po.getD i po0).wr := by simpa using hw
          have e2 : ver I po (fun j => (listed.setIfInBounds i true).getD j false) (a.put o.dst u) ops.size r = ver I po (fun j => listed.getD j false) a ops.size r := ver_congr _ fun j hj hc => by
            have hji : j ≠ i := fun e => by subst e; exact hw hc
            rw [gl j hj, if_neg hji]
            exact ⟨rfl, fun q => hput j hj q⟩
          rw [e2]
          by_cases hrd : r ∈ (po.getD i po0).rd
          · rw [if_pos (List.mem_append_left _ hrd), List.idxOf_append, if_pos hrd, List.getD_eq_getElem?_getD]
            have hlt' := List.idxOf_lt_length_of_mem hrd
            rw [List.getElem?_append_left (by simpa using hlt'), List.getElem?_map, List.getElem?_eq_getElem hlt']
            simp only [Option.map_some, Option.getD_some, List.getElem_idxOf]
            exact (hve r (List.mem_append_left _ hrd)).symm
          · rw [if_neg (fun q => (List.mem_append.1 q).elim hrd hm)]
      · subst h0
        have hnone : ∀ j, j < ops.size → (listed.setIfInBounds i true).getD j true = true := by
          intro j hj
          by_cases e : j = i
          · subst e; simp [hil]
          · rw [getD_set_ne true (fun q => e q.symm)]
            cases hq : listed.getD j true with
            | true => rfl
            | false =>
              exfalso
              have h1 : i ∈ (List.range ops.size).filter fun j => !(listed.getD j true) := by rw [List.mem_filter]; exact ⟨by simpa using hin, by rw [hun]; rfl⟩
              have h2 : j ∈ (List.range ops.size).filter fun j => !(listed.getD j true) := by rw [List.mem_filter]; exact ⟨by simpa using hj, by rw [hq]; rfl⟩
              obtain ⟨x, hx⟩ := List.length_eq_one_iff.1 hfu.symm
              rw [hx] at h1 h2
              simp at h1 h2; omega
        unfold Region.ready
        rw [List.filter_eq_nil_iff]
        intro j hj
        have := hnone j (by simpa using hj)
        simp only [this]
        cases ops[j]? <;> simp
      · have hcount : ∀ (l : List Nat), l.Nodup → i ∈ l → (l.filter fun j => !(listed.getD j true)).length = (l.filter fun j => !((listed.setIfInBounds i true).getD j true)).length + 1 := by
          intro l
          induction l with
          | nil => intro _ h; cases h
          | cons x l ihl =>
            intro nd hm
            obtain ⟨nx, nl⟩ := List.nodup_cons.1 nd
            by_cases e : x = i
            · subst e
              have e1 : (l.filter fun j => !(listed.getD j true)) = l.filter fun j => !((listed.setIfInBounds x true).getD j true) := List.filter_congr fun j hj => by
                rw [getD_set_ne true (fun q => by subst q; exact nx hj)]
              simp only [List.filter_cons, hun, Bool.not_false, if_true, List.length_cons, e1]
              simp [hil]
            · have hm' : i ∈ l := (List.mem_cons.1 hm).resolve_left fun q => e q.symm
              have h8 := ihl nl hm'
              simp only [List.filter_cons, getD_set_ne true (show i ≠ x from fun q => e q.symm)]
              split
              · simp only [List.length_cons]; omega
              · exact h8
        have := hcount (List.range ops.size) List.nodup_range (by simpa using hin)
        omega
  refine ⟨key ops.size _ A w (by simp) (fun i o ho hli => by rw [getD_replicate_false] at hli; cases hli) ⟨rfl, rfl, fun _ _ => rfl⟩ (fun j hj hlj => by rw [getD_replicate_false] at hlj; cases hlj) ?_ (fun h0 => ?_) ?_⟩
  · refine StF.of hS rfl fun r c hc => ?_
    have : ∀ n, ver I po (fun j => (Array.replicate ops.size false).getD j false) A n r = I.getD r (pu True) := by
      intro n
      induction n with
      | zero => rfl
      | succ n ih => unfold ver; rw [getD_replicate_false]; simpa using ih
    rw [this, List.getD_eq_getElem?_getD, hc]; rfl
  · unfold Region.ready
    rw [List.filter_eq_nil_iff]
    intro j hj
    have : j < ops.size := by simpa using hj
    omega
  · rw [List.filter_eq_self.2 fun j hj => ?_]
    · simp
    · have : j < ops.size := by simpa using hj
      simp [this]
/-- one operation, its chunks said outright. -/
theorem stepI {i : Nat} {o : Oper} (tsp : List Tmp) (pre : List Value → List HP) {rd wr : List Nat} {ts : List Tmp} {post : List Value → List HP} {fact : List Value → Prop} (hpo : po.getD i po0 = ⟨rd, wr, ts, post, fact⟩)
    (hR : ∀ a, (rd ++ wr).map (ver I po (L.anc ops i) a ops.size) = pre (vsA tsp a))
    (h : ∀ (a : Act) (w : World) (rest : HP), FrA ops (onI ops i) A a → (∀ j, L.anc ops i j = true → (po.getD j po0).fact (vsA (po.getD j po0).ts a)) → St wb X (pre (vsA tsp a) ++ [rest]) w →
      WX P ops (KQ (fun a' w' => ∃ u vs, a' = a.put o.dst u ∧ vsA ts a' = vs ∧ fact vs ∧ (post vs).length = wr.length ∧ St wb X ((pre (vsA tsp a)).take rd.length ++ post vs ++ [rest]) w') Q) [o] a w) : StepA P ops Q A wb X I po i o := by
  intro a w rest hF hf hS
  rw [hpo] at hS ⊢
  simp only at hS ⊢
  rw [hR a] at hS
  have h2 := h a w rest hF hf hS
  have e : rd.map (ver I po (L.anc ops i) a ops.size) = (pre (vsA tsp a)).take rd.length := by
    rw [← hR a, List.map_append, List.take_left' (by simp)]
  rw [e]
  have : KQ (fun a' w' => ∃ u vs, a' = a.put o.dst u ∧ vsA ts a' = vs ∧ fact vs ∧ (post vs).length = wr.length ∧ St wb X ((pre (vsA tsp a)).take rd.length ++ post vs ++ [rest]) w') Q =
      KQ (fun a' w' => ∃ u, a' = a.put o.dst u ∧ fact (vsA ts a') ∧ (post (vsA ts a')).length = wr.length ∧ St wb X ((pre (vsA tsp a)).take rd.length ++ post (vsA ts a') ++ [rest]) w') Q := by
    funext x a' w'
    cases x <;> simp only [KQ]
    refine propext ⟨fun ⟨u, vs, q1, q2, q3, q4, q5⟩ => ⟨u, q1, by rw [q2]; exact q3, by rw [q2]; exact q4, by rw [q2]; exact q5⟩, fun ⟨u, q1, q3, q4, q5⟩ => ⟨u, _, q1, rfl, q3, q4, q5⟩⟩
  rw [← this]; exact h2
def StepsA (P : Program) (ops : Array Oper) (Q : Exit → Act → World → Prop) (A : Act) (wb : World) (X : Nat → Prop) (I : List HP) (po : List PO) : List Oper → Nat → Prop
  | [], _ => True
  | o :: l, k => StepA P ops Q A wb X I po k o ∧ StepsA P ops Q A wb X I po l (k + 1)
theorem steps_at : ∀ (l : List Oper) (k : Nat), StepsA P ops Q A wb X I po l k → ∀ i o, l[i]? = some o → StepA P ops Q A wb X I po (k + i) o
  | [], _, _, i, o, h => by simp at h
  | x :: l, k, ⟨h1, h2⟩, 0, o, h => by simp at h; subst h; exact h1
  | x :: l, k, ⟨h1, h2⟩, i + 1, o, h => by
    have := steps_at l (k + 1) h2 i o (by simpa using h)
    rwa [show k + 1 + i = k + (i + 1) by omega] at this
theorem AX_parL {l : List Oper} {n : Nat} {l0 : List HP} {k : Nat} (po : List PO) (I : List HP) (hS : St wb X l0 w) (hI : I = l0 ++ List.replicate k (pu True)) (hB : parB l.toArray po I.length = true) (hn : l.toArray.size = n)
    (hstep : StepsA P l.toArray Q A wb X I po l 0)
    (hend : ∀ a w, FrA l.toArray (fun _ => true) A a → (∀ j, j < n → (po.getD j po0).fact (vsA (po.getD j po0).ts a)) → St wb X ((List.range I.length).map (ver I po (fun _ => true) a n)) w → Q .normal a w) :
    AX P l.toArray Q n (Array.replicate n false) A w := by
  subst hn
  refine AX_par hB ?_ (fun i o ho => by simpa using steps_at l 0 hstep i o (by simpa using ho)) hend
  subst hI
  clear hB hstep hend
  obtain ⟨he, fs, h1, h2, h3⟩ := hS
  refine ⟨he, fs, fun i c hc => ?_, fun i b hb => ?_, h3⟩
  · rcases Nat.lt_or_ge i l0.length with h | h
    · rw [List.getElem?_append_left h] at hc; exact h1 i c hc
    · rw [List.getElem?_append_right h] at hc
      have := List.eq_of_mem_replicate (List.mem_of_getElem? hc)
      subst this; trivial
  · have := h2 i b hb
    exact ⟨by simp; omega, this.2⟩
theorem oldS {ops : Array Oper} {on : Nat → Bool} {A a : Act} (h : FrA ops on A a) (t : Tmp) (ht : ((List.range ops.size).all fun i => match ops[i]? with | some o => !(dstB o t) || !(on i) | none => true) = true) : EV a (.tmp t) = EV A (.tmp t) := h.old t fun i o ho hd => by
  have := List.all_eq_true.1 ht i (List.mem_range.2 (Array.getElem?_eq_some_iff.1 ho).1)
  simp only [ho, hd, Bool.not_true, Bool.false_or, Bool.not_eq_true'] at this
  exact this
theorem St.cast {l l' : List HP} (h : St wb X l w) (e : l = l') : St wb X l' w := e ▸ h
theorem pkR {l fr : List HP} (h : St wb X (l ++ fr) w) : St wb X (l ++ [pk (· = fr)]) w := by
  obtain ⟨he, fs, h1, h2, h3⟩ := h
  refine ⟨he, fun i b => if i < l.length then fs i b else i = l.length ∧ ∃ j, fs (l.length + j) b, fun i c hc => ?_, fun i b hb => ?_, fun i j b hi hj => ?_⟩
  · by_cases hi : i < l.length
    · rw [List.getElem?_append_left hi] at hc
      exact HP.eq_p (by funext b; simp [hi]) (h1 i c (by rw [List.getElem?_append_left hi]; exact hc))
    · have e : i = l.length := by have := (List.getElem?_eq_some_iff.1 hc).1; simp at this; omega
      subst e
      rw [List.getElem?_append_right (by omega)] at hc
      simp at hc; subst hc
      have hp : (pk (· = fr)).p w (fun b => ∃ j, fs (l.length + j) b) := ⟨fr, rfl, fun j b => fs (l.length + j) b, fun j c hc => h1 _ c (by rw [List.getElem?_append_right (by omega)]; simpa using hc), fun j b hb => ⟨by have := (h2 _ b hb).1; simp at this; omega, j, hb⟩, fun j k b hj hk => by have := h3 _ _ b hj hk; omega⟩
      exact HP.eq_p (by funext b; simp) hp
  · by_cases hi : i < l.length
    · simp only [hi, if_true] at hb; exact ⟨by simp; omega, (h2 i b hb).2⟩
    · simp only [hi, if_false] at hb; obtain ⟨e, j, hb⟩ := hb; exact ⟨by simp; omega, (h2 _ b hb).2⟩
  · by_cases hi' : i < l.length <;> by_cases hj' : j < l.length
    · simp only [hi', hj', if_true] at hi hj; exact h3 i j b hi hj
    · simp only [hi', hj', if_true, if_false] at hi hj; obtain ⟨_, k, hk⟩ := hj; have := h3 _ _ b hi hk; omega
    · simp only [hi', hj', if_true, if_false] at hi hj; obtain ⟨_, k, hk⟩ := hi; have := h3 _ _ b hj hk; omega
    · simp only [hi', hj', if_false] at hi hj; omega
theorem unpkR {l fr : List HP} (h : St wb X (l ++ [pk (· = fr)]) w) : St wb X (l ++ fr) w := by
  obtain ⟨he, fs, h1, h2, h3⟩ := h
  obtain ⟨l', rfl, gs, g1, g2, g3⟩ := h1 l.length (pk (· = fr)) (by rw [List.getElem?_append_right (by omega)]; simp)
  refine ⟨he, fun i b => if i < l.length then fs i b else gs (i - l.length) b, fun i c hc => ?_, fun i b hb => ?_, fun i j b hi hj => ?_⟩
  · by_cases hi : i < l.length
    · rw [List.getElem?_append_left hi] at hc
      exact HP.eq_p (by funext b; simp [hi]) (h1 i c (by rw [List.getElem?_append_left hi]; exact hc))
    · rw [List.getElem?_append_right (by omega)] at hc
      exact HP.eq_p (by funext b; simp [hi]) (g1 _ c hc)
  · by_cases hi : i < l.length
    · simp only [hi, if_true] at hb; exact ⟨by simp; omega, (h2 i b hb).2⟩
    · simp only [hi, if_false] at hb; have := g2 _ b hb; exact ⟨by simp; omega, (h2 _ b this.2).2⟩
  · by_cases hi' : i < l.length <;> by_cases hj' : j < l.length
    · simp only [hi', hj', if_true] at hi hj; exact h3 i j b hi hj
    · simp only [hi', hj', if_true, if_false] at hi hj; have := h3 _ _ b hi (g2 _ b hj).2; omega
    · simp only [hi', hj', if_true, if_false] at hi hj; have := h3 _ _ b hj (g2 _ b hi).2; omega
    · simp only [hi', hj', if_false] at hi hj; have := g3 _ _ b hi hj; omega
end
end Go.Own

namespace Go.Proofs.Ytpgkfndbfocibaa
open Go.RowKit Go.Own Go.Own.R Go.Own.G Go.Own.Gr


set_option maxHeartbeats 4000000 in
theorem kcl_c {cv : Value} {c : List Int} {w : World} (h_cv : Ro w NoX (il .i64 cv c)) (hl : c.length ≤ 1048576) :
  Calls Try.prog 28 #[cv] w fun e w' => ∃ v, e = .returned (v) ∧ St w NoX [io .i64 (v) c] w' := by
 refine calls_in 8 Try.func28 V V (by simp) (fun A0 Y0 hdf0 hargs => ?_)
 have l0_0 := hargs 0 (cv) V
 clear hargs; replace Y0 : SzN A0 8 := ⟨Y0⟩
 have hS := St.nil w
 have bh_cv := SlN.le (sl_SlN h_cv.at)
 refine wp_seq_k fun K1 H1 => region_in ?_
 refine W_v V V (V_asg V V) ?_
 refine W_end (gen_Q fun A2 E2 => ?_)
 have Y2 := szq E2
 have F2 := (fsE E2 (cq1 (FS.n hdf0) V)).c (lookE E2 0 (es V l0_0))
 clear E2 Y0 hdf0 l0_0
 refine tk H1 (wp_seq_k fun K3 H3 => ?_)
 refine wp_seq_k fun K4 H4 => region_in ?_
 refine W_v V V (V_mov V (fg0 F2)) ?_
 refine W_v V V (V_eqNilB V (et V) V (sl_SlN h_cv.at) Try.underlying25) ?_
 refine W_end (gen_Q fun A5 E5 => ?_)
 have Y5 := szq E5
 have F5 := fsE E5 (ck (cq1 F2 V) V V)
 clear E5 Y2 F2
 refine tk H4 ?_
 refine cond_b (fg0 F5) (fun c6 => ?_) (fun c6 => ?_)
 ·refine wp_seq_k fun K7 H7 => region_in ?_
  refine W_v V V (V_asg V V) ?_
  refine W_end (gen_Q fun A8 E8 => ?_)
  have Y8 := szq E8
  have F8 := fsE E8 (ck F5 V V)
  clear E8 Y5 F5
  refine tk H7 (wp_ret (then_ret ?_))
  refine ret_in (results_1 Try.results28 (rv_tmp (fg0 F8))) F8.d ?_
  obtain ⟨c9, hc9, S9⟩ := hS.pnil (s := 1)
  obtain rfl : c = [] := List.eq_nil_of_length_eq_zero (nilB_len (sl_SlN h_cv.at) c6)
  exact ⟨_, rfl, (S9.fin1 0 V (hc9))⟩
 refine wp_skip ?_
 refine tk H3 (wp_seq_k fun K10 H10 => region_in ?_)
 refine W_litS (vs := []) (xs := []) 1 hS V V V (parts0) V Try.underlying25 (by kernel_rfl) (by decide) (by intro v hv; cases hv) (by rfl) (fun g11 w11 c11 hc11 S11 => ?_)
 replace hc11 : c11 = io .i64 (.slice (some ⟨g11, 0, none⟩) 0 0) [] := hc11
 replace S11 : St w NoX [c11] w11 := S11
 refine W_v V V (V_mov V (es V (fg1 F5))) ?_
 refine W_appS 1 0 S11 V hc11 V V V (es V (et V)) (et V) Try.underlying25 Try.underlying25 (z := .int .i64 0) (bytes := 8) (by kernel_rfl) V (by decide) (sl_SlN (S11.ro h_cv)) ones_i (by first | omega | (simp; done) | (simp; omega)) (by first | omega | (simp; done) | (simp; omega)) (fun v12 w12 c12 hc12 S12 => ?_)
 replace hc12 : c12 = io .i64 v12 c := hc12.trans (app_eq (by first | (simp; done) | (rw [List.take_of_length_le (l := List.drop _ _) (by rw [List.length_drop]; exact Nat.le_refl _)])))
 replace S12 : St w NoX [c12] w12 := S12
 refine W_v V V (V_asg V (et V)) ?_
 refine W_end (gen_Q fun A13 E13 => ?_)
 have Y13 := szq E13
 have F13 := fsE E13 (ck (cq3 F5 V) V V)
 clear E13 Y5 F5
 refine tk H10 (wp_ret ?_)
 refine ret_in (results_1 Try.results28 (rv_tmp (fg0 F13))) F13.d ?_
 exact ⟨_, rfl, (S12.fin1 0 V (hc12))⟩

set_option maxHeartbeats 4000000 in
theorem kcu_c {cv : Value} {c : List Int} {w : World} (h_cv : Ro w NoX (il .u64 cv c)) (hl : c.length ≤ 1048576) :
  Calls Try.prog 29 #[cv] w fun e w' => ∃ v, e = .returned (v) ∧ St w NoX [io .u64 (v) c] w' := by
 refine calls_in 8 Try.func29 V V (by simp) (fun A0 Y0 hdf0 hargs => ?_)
 have l0_0 := hargs 0 (cv) V
 clear hargs; replace Y0 : SzN A0 8 := ⟨Y0⟩
 have hS := St.nil w
 have bh_cv := SlN.le (sl_SlN h_cv.at)
 refine wp_seq_k fun K1 H1 => region_in ?_
 refine W_v V V (V_asg V V) ?_
 refine W_end (gen_Q fun A2 E2 => ?_)
 have Y2 := szq E2
 have F2 := (fsE E2 (cq1 (FS.n hdf0) V)).c (lookE E2 0 (es V l0_0))
 clear E2 Y0 hdf0 l0_0
 refine tk H1 (wp_seq_k fun K3 H3 => ?_)
 refine wp_seq_k fun K4 H4 => region_in ?_
 refine W_v V V (V_mov V (fg0 F2)) ?_
 refine W_v V V (V_eqNilB V (et V) V (sl_SlN h_cv.at) Try.underlying66) ?_
 refine W_end (gen_Q fun A5 E5 => ?_)
 have Y5 := szq E5
 have F5 := fsE E5 (ck (cq1 F2 V) V V)
 clear E5 Y2 F2
 refine tk H4 ?_
 refine cond_b (fg0 F5) (fun c6 => ?_) (fun c6 => ?_)
 ·refine wp_seq_k fun K7 H7 => region_in ?_
  refine W_v V V (V_asg V V) ?_
  refine W_end (gen_Q fun A8 E8 => ?_)
  have Y8 := szq E8
  have F8 := fsE E8 (ck F5 V V)
  clear E8 Y5 F5
  refine tk H7 (wp_ret (then_ret ?_))
  refine ret_in (results_1 Try.results29 (rv_tmp (fg0 F8))) F8.d ?_
  obtain ⟨c9, hc9, S9⟩ := hS.pnil (s := 1)
  obtain rfl : c = [] := List.eq_nil_of_length_eq_zero (nilB_len (sl_SlN h_cv.at) c6)
  exact ⟨_, rfl, (S9.fin1 0 V (hc9))⟩
 refine wp_skip ?_
 refine tk H3 (wp_seq_k fun K10 H10 => region_in ?_)
 refine W_litS (vs := []) (xs := []) 1 hS V V V (parts0) V Try.underlying66 (by kernel_rfl) (by decide) (by intro v hv; cases hv) (by rfl) (fun g11 w11 c11 hc11 S11 => ?_)
 replace hc11 : c11 = io .u64 (.slice (some ⟨g11, 0, none⟩) 0 0) [] := hc11
 replace S11 : St w NoX [c11] w11 := S11
 refine W_v V V (V_mov V (es V (fg1 F5))) ?_
 refine W_appS 1 0 S11 V hc11 V V V (es V (et V)) (et V) Try.underlying66 Try.underlying66 (z := .int .u64 0) (bytes := 8) (by kernel_rfl) V (by decide) (sl_SlN (S11.ro h_cv)) ones_i (by first | omega | (simp; done) | (simp; omega)) (by first | omega | (simp; done) | (simp; omega)) (fun v12 w12 c12 hc12 S12 => ?_)
 replace hc12 : c12 = io .u64 v12 c := hc12.trans (app_eq (by first | (simp; done) | (rw [List.take_of_length_le (l := List.drop _ _) (by rw [List.length_drop]; exact Nat.le_refl _)])))
 replace S12 : St w NoX [c12] w12 := S12
 refine W_v V V (V_asg V (et V)) ?_
 refine W_end (gen_Q fun A13 E13 => ?_)
 have Y13 := szq E13
 have F13 := fsE E13 (ck (cq3 F5 V) V V)
 clear E13 Y5 F5
 refine tk H10 (wp_ret ?_)
 refine ret_in (results_1 Try.results29 (rv_tmp (fg0 F13))) F13.d ?_
 exact ⟨_, rfl, (S12.fin1 0 V (hc12))⟩

end Go.Proofs.Ytpgkfndbfocibaa
namespace Go.Proofs.Ytpgkfndbfocibaa
open Go.RowKit Go.Own Go.Own.R Go.Own.G Go.Own.Gr


set_option maxHeartbeats 4000000 in
theorem krc_it {gov : Nat} {ov : Value} {O : List Ob} {rv : Value} {rs : List Int} {Rd : World → Prop} (hRd : ∀ W, Rd W → (bx gov 36 #[ov, rv]).at W ∧ (rl 2 obC ov O).at W ∧ (nst O).at W ∧ (il .i64 rv rs).at W) (hG : GG (O.map ab) rs) (hsm : SM (O.map ab)) :
  Iter (α := Int) Try.prog 64 #[.pointer (some ⟨gov, 0, none⟩)] (fun x : Int => #[.int .i64 x]) (·= (rcL (O.map ab) rs)) (·<+: (rcL (O.map ab) rs)) (·<+: (rcL (O.map ab) rs)) Rd := by
 have hwl := wt_le (M := ([] : List Int)) hsm hG.o4
 have hr8 := hG.r8
 intro l wb X cs ij J Jx w hij hR hY hS
 obtain ⟨hS, hback⟩ := hS.front hij
 clear hij
 generalize cs.eraseIdx ij = rest at hS hback
 obtain ⟨cj, hcj⟩ : ∃ c, c = J [] := ⟨_, rfl⟩
 rw [← hcj] at hS
 refine calls_inR 43 Try.func64 V V (by simp) (fun A0 Y0 hdf0 hargs => ?_)
 have l0_0 := hargs 0 (.func (.yield l) #[] #[]) V
 have l1_0 := hargs 1 (.pointer (some ⟨gov, 0, none⟩)) V
 clear hargs; replace Y0 : SzN A0 43 := ⟨Y0⟩
 have bh_ov := SlN.le (sl_SlN (hRd _ (hR _ _ _ 0 hS (congrArg some hcj))).2.1)
 have bh_rv := SlN.le (sl_SlN (hRd _ (hR _ _ _ 0 hS (congrArg some hcj))).2.2.2)
 refine R_seq (fun K1 H1 => ?_)
 refine R_region (by kernel_rfl) ?_
 refine W_mkMapS .i64 hS V V V (fun g2 w2 c2 hc2 S2 => ?_)
 replace hc2 : c2 = ms (.map (some g2)) [] := hc2
 replace S2 : St wb X (c2 :: cj :: rest) w2 := S2
 refine W_mapInsB 0 S2 V hc2 V V V V (et V) V V Try.underlying124 Try.underlying3 (by simp) (fun w3 c3 hc3 S3 => ?_)
 replace hc3 : c3 = ms (.map (some g2)) ([] ++ [0]) := hc3
 replace S3 : St wb X (c3 :: cj :: rest) w3 := S3
 refine W_v V V (V_mov V (et V)) (W_v V V (V_asg V (et V)) (W_end (Qo_normal ?_)))
 refine gen_Q (fun A4 E4 => ?_)
 have Y4 := szq E4
 have F4 := ((fsE E4 (ck (cq2 (FS.n hdf0) V) V V)).c (lookE E4 0 (es3 V l0_0))).c (lookE E4 1 (es3 V l1_0))
 clear E4 Y0 hdf0 l0_0 l1_0
 refine tk H1 ?_
 refine R_seq (fun K5 H5 => ?_)
 refine R_region (by kernel_rfl) ?_
 refine W_v V V (V_fa (off' := 1) V (fg0 F4) Try.underlying36 V (by decide +kernel) V) ?_
 refine W_r V V (VR_ldC V (et V) (cell_box (v := rv) (ob_at (hRd _ (hR _ _ _ 1 S3 (congrArg some hcj))).1) V) Try.underlying25 V) ?_
 refine W_call V V V Try.func28 (by kernel_rfl) V (args1 (et V)) (kcl_c (SlN.ro (sl_SlN (hRd _ (hR _ _ _ 1 S3 (congrArg some hcj))).2.2.2)) (by first | omega | with_reducible assumption)) ?_
 rintro _ w6 ⟨v_6, rfl, hP6⟩
 refine ⟨_, rfl, ?_⟩
 obtain ⟨c_6, hc_6, hP6⟩ := gen1 hP6
 have S6 := S3.join hP6
 replace S6 : St wb X (c_6 :: c3 :: cj :: rest) w6 := S6
 refine W_v V V (V_asg V (et V)) (W_end (Qo_normal ?_))
 refine gen_Q (fun A7 E7 => ?_)
 have Y7 := szq E7
 have F7 := fsE E7 (ck (cq3 F4 V) V V)
 have l0_7 := lookE E7 0 (es4 V (fg1 F4))
 have l1_7 := lookE E7 1 (es4 V (fg0 F4))
 have l3_7 := lookE E7 3 (es4 V (fg2 F4))
 clear E7 Y4 F4
 refine tk H5 (R_block ?_)
 -- loop 2
 refine R_loop (fun mz A' w' => SzN A' 43 ∧ A'.defers = [] ∧ (∃ (T : List Int) (M : List Int) (tv : Value), (mz = T.length + wt (O.map ab) M) ∧ (RcAt (O.map ab) rs T M) ∧ (EV A' (.tmp 4) = tv) ∧ (EV A' (.tmp 0) = EV A7 (.tmp 0)) ∧ (EV A' (.tmp 1) = EV A7 (.tmp 1)) ∧ (EV A' (.tmp 3) = EV A7 (.tmp 3)) ∧ (St wb X ((io .i64 tv T) :: (ms (.map (some g2)) ([0] ++ M)) :: (J M) :: rest) w'))) (rs.length + wt (O.map ab) []) ⟨Y7, F7.d, rs, [], v_6, rfl, (RcAt.init (O.map ab) rs), (((fg0 F7)).trans (by first | rfl | (simp; done) | (congr 1; omega))), rfl, rfl, rfl, (by subst hc_6 hc3 hcj; exact S6)⟩ ?_
 clear S6 hc_6 hc3 hcj
 rintro n8 A8 w8 ⟨Y8, hdf8, T, M, tv, hm8, hrc, l4_8, u0_8, u1_8, u3_8, S8⟩
 have l0_8 := u0_8.trans l0_7
 have l1_8 := u1_8.trans l1_7
 have l3_8 := u3_8.trans l3_7
 obtain ⟨c_8, c3_8, cj_8, hc_8, hc3_8, hcj_8, S8⟩ := gen3 S8
 refine R_seq (fun K9 H9 => ?_)
 refine R_seq (fun K10 H10 => ?_)
 refine R_region (by kernel_rfl) ?_
 refine W_v V V (V_mov V l4_8) ?_
 refine W_v V V (V_lenS V (et V) (ow_at (S8.chq 0 V hc_8)) Try.underlying25) ?_
 refine W_v V V (V_gtr V (et V) V) ?_
 refine W_end (Qo_normal ?_)
 refine gen_Q (fun A11 E11 => ?_)
 have Y11 := szq E11
 have F11 := ((((fsE E11 (ck (cq2 (FS.n hdf8) V) V V)).c (lookE E11 0 (es3 V l0_8))).c (lookE E11 1 (es3 V l1_8))).c (lookE E11 3 (es3 V l3_8))).c (lookE E11 4 (es3 V l4_8))
 clear E11 Y8 hdf8 l4_8 l0_8 l1_8 l3_8
 refine tk H10 ?_
 refine R_cond_dec (fg4 F11) (fun c12 => ?_) (fun c12 => ?_)
 ·have hbd := hrc.bd
  refine R_skip (tk H9 (R_block ?_))
  refine R_seq (fun K13 H13 => ?_)
  refine R_region (by kernel_rfl) ?_
  refine W_v V V (V_mov V (fg0 F11)) (W_v V V (V_mov V (es V (fg0 F11))) ?_)
  refine W_v V V (V_lenS V (et V) (ow_at (S8.chq 0 V hc_8)) Try.underlying25) ?_
  refine W_v V V (V_sb V (et V) V (by omega) (by omega)) ?_
  have k14 : (T.length - 1) < T.length := by first | omega | (simp only [List.length_cons, List.length_nil]; omega) | (simp only [List.length_set]; omega) | decide
  obtain ⟨y14, hy14⟩ := get_some (xs := T) (k := (T.length - 1)) k14
  obtain ⟨B14, O14, C14, hv14⟩ := (SlN.blk (ow_at (S8.chq 0 rfl hc_8)) (by first | omega | (simp only [List.length_cons, List.length_nil]; omega) | (simp only [List.length_set]; omega) | decide))
  refine W_v V V (V_ixS (off := O14 + (T.length - 1)) 1 ((T.length - 1)) V (es3 V (et V)) (et V) hv14 (by omega) k14 Try.underlying25 (by kernel_rfl) (congrArg _ (Nat.mul_one _))) ?_
  refine W_r V V (VR_ldC V (et V) ((ow_at (S8.chq 0 V hc_8)).cell hv14 (map_get hy14)) Try.underlying3 V) ?_
  refine W_v V V (V_asg V (et V)) (W_end (Qo_normal ?_))
  refine gen_Q (fun A15 E15 => ?_)
  have Y15 := szq E15
  have F15 := fsE E15 (ck (cq6 F11 V) V V)
  clear E15 Y11 F11
  refine tk H13 ?_
  refine R_seq (fun K16 H16 => ?_)
  refine R_region (by kernel_rfl) ?_
  refine W_v V V (V_mov V (fg1 F15)) (W_v V V (V_mov V (es V (fg1 F15))) ?_)
  refine W_v V V (V_lenS V (et V) (ow_at (S8.chq 0 V hc_8)) Try.underlying25) ?_
  refine W_v V V (V_sb V (et V) V (by omega) (by omega)) ?_
  have k17 : 0 ≤ (T.length - 1) := by omega
  have m17 : (T.length - 1) ≤ T.length := by omega
  obtain ⟨c17, hc17, S17⟩ := S8.sub 0 rfl hc_8 (0) ((T.length - 1)) k17 m17
  replace hc17 : c17 = io .i64 (subS 1 tv 0 (T.length - 1)) (T.take (T.length - 1)) := hc17.trans (part_eq k17 m17 (by first | (simp; done) | exact List.take_of_length_le (by rw [List.length_drop]; omega)))
  replace S17 : St wb X (c17 :: c3_8 :: cj_8 :: rest) w8 := S17
  refine W_v V V (V_subS 1 (0) ((T.length - 1)) V (es3 V (et V)) (.inl ⟨rfl, rfl⟩) (.inr ⟨_, _, rfl, (et V), by omega⟩) Try.underlying25 (by kernel_rfl) (ow_at (S8.chq 0 V hc_8)) k17 m17) ?_
  refine W_v V V (V_asg V (et V)) (W_end (Qo_normal ?_))
  refine gen_Q (fun A18 E18 => ?_)
  have Y18 := szq E18
  have F18 := fsE E18 (ck (cq5 (fx1 F15) V) V V)
  clear E18 Y15 F15
  refine tk H16 ?_
  refine R_seq (fun K19 H19 => ?_)
  refine R_seq (fun K20 H20 => ?_)
  refine R_region (by kernel_rfl) ?_
  refine W_v V V (V_mov V (fg2 F18)) (W_v V V (V_mov V (es V (fg1 F18))) ?_)
  refine W_r V V (VR_lookB V (es V (et V)) (et V) (S17.chq 1 V hc3_8) Try.underlying124 Try.underlying3 (by kernel_rfl)) ?_
  refine W_end (Qo_normal ?_)
  refine gen_Q (fun A21 E21 => ?_)
  have Y21 := szq E21
  have F21 := fsE E21 (ck (cq2 F18 V) V V)
  clear E21 Y18 F18
  refine tk H20 ?_
  refine R_cond_dec (fg0 F21) (fun c22 => ?_) (fun c22 => ?_)
  ·have hin : y14 = 0 ∨ y14 ∈ M := by simpa using c22
   refine R_exit ?_
   refine then_exit ?_
   refine inb_hit ?_
   refine then_n ⟨(T.take (T.length - 1)).length + wt (O.map ab) M, by first | (simp only [hm8, List.length_append, List.length_take]; omega) | (simp only [hm8, List.length_take]; omega), Y21, F21.d, (T.take (T.length - 1)), M, (subS 1 tv 0 (T.length - 1)), rfl, (hrc.skip hy14 hin), (((fg1 F21)).trans (by first | rfl | (simp; done) | (congr 1; omega))), (((fg5 F21)).trans l0_7.symm), (((fg4 F21)).trans l1_7.symm), (((fg3 F21)).trans l3_7.symm), (by subst hc17 hc3_8 hcj_8; exact S17)⟩
  have hn0 : ¬ (y14 = 0 ∨ y14 ∈ M) := by simpa using c22
  have hrg := hrc.rng hG hy14 hn0
  have hwt := wt_mark hrg (fun q => hn0 (.inr q))
  rw [List.length_map] at hrg
  refine R_skip (tk H19 ?_)
  refine R_seq (fun K23 H23 => ?_)
  refine R_region (by kernel_rfl) ?_
  refine W_v V V (V_mov V (fg3 F21)) (W_v V V (V_mov V (es V (fg2 F21))) ?_)
  refine W_mapNewB 1 S17 V hc3_8 V V V V (es V (et V)) (et V) V Try.underlying124 Try.underlying3 (by simpa using hn0) (fun w24 c24 hc24 S24 => ?_)
  replace hc24 : c24 = ms (.map (some g2)) (([0] ++ M) ++ [y14]) := hc24
  replace S24 : St wb X (c17 :: c24 :: cj_8 :: rest) w24 := S24
  refine W_end (Qo_normal ?_)
  refine gen_Q (fun A25 E25 => ?_)
  have Y25 := szq E25
  have F25 := fsE E25 (cq2 F21 V)
  clear E25 Y21 F21
  refine tk H23 ?_
  refine R_seq (fun K26 H26 => ?_)
  refine R_seq (fun K27 H27 => ?_)
  refine R_regionI ?_
  refine I_v V V (by rfl) (V_mov V (fg5 F25)) ?_
  refine I_v V V (by rfl) (V_mov V (es V (fg2 F25))) ?_
  refine I_yield V V (by rfl) (hY M y14 _ _ 2 S24 (congrArg some hcj_8) ((hrc.pre hG hy14 hn0))) (fun res hr => run_yield1 V (es V (et V)) (et V) hr) ?_
  rintro _ w28 (⟨rfl, S28⟩ | ⟨rfl, S28⟩)
  ·refine ⟨_, rfl, ?_⟩
   obtain ⟨cj28, hcj28⟩ : ∃ c_, c_ = J (M ++ [y14]) := ⟨_, rfl⟩
   rw [← hcj28] at S28
   replace S28 : St wb X (c17 :: c24 :: cj28 :: rest) w28 := S28
   refine I_up (by kernel_rfl) ?_
   refine W_v V V (V_notT V (et V)) ?_
   refine W_end (Qo_normal ?_)
   refine gen_Q (fun A29 E29 => ?_)
   have Y29 := szq E29
   have F29 := fsE E29 (ck (cq3 F25 V) V V)
   clear E29 Y25 F25
   refine tk H27 ?_
   refine R_cond_f (fg0 F29) ?_
   refine R_skip (tk H26 ?_)
   refine R_region (by kernel_rfl) ?_
   refine W_v V V (V_mov V (fg2 F29)) ?_
   refine W_v V V (V_fa (off' := 0) V (es V (fg5 F29)) Try.underlying36 V (by decide +kernel) V) ?_
   refine W_r V V (VR_ldC V (et V) (cell_box (v := ov) (ob_at (hRd _ (hR _ _ _ 2 S28 (congrArg some hcj28))).1) V) Try.underlying34 V) ?_
   refine W_v V V (V_mov V (es3 V (fg3 F29))) ?_
   refine W_v V V (V_sb V (et V) V (by omega) (by omega)) ?_
   have k30 : (y14 - 1).toNat < O.length := by first | omega | (simp only [List.length_cons, List.length_nil]; omega) | (simp only [List.length_set]; omega) | decide
   obtain ⟨y30, hy30⟩ := get_some (xs := O) (k := (y14 - 1).toNat) k30
   have hpt := pt_at hy30
   rw [hpt] at hwt
   obtain ⟨B30, O30, C30, hv30⟩ := (SlN.blk (sl_SlN (hRd _ (hR _ _ _ 2 S28 (congrArg some hcj28))).2.1) (by first | omega | (simp only [List.length_cons, List.length_nil]; omega) | (simp only [List.length_set]; omega) | decide))
   refine W_v V V (V_ixS (off := O30 + ((y14 - 1).toNat) * 2) 2 ((y14 - 1).toNat) V (es2 V (et V)) (et V) hv30 (by omega) k30 Try.underlying34 (by kernel_rfl) V) ?_
   refine W_v V V (V_fa (off' := O30 + ((y14 - 1).toNat) * 2 + 0) V (et V) Try.underlying68 V (by decide +kernel) V) ?_
   have bfn31 := SlN.le (sl_SlN (nst_at1 ((hRd _ (hR _ _ _ 2 S28 (congrArg some hcj28))).2.2.1) hy30))
   have bfn32 := SlN.le (sl_SlN (nst_at2 ((hRd _ (hR _ _ _ 2 S28 (congrArg some hcj28))).2.2.1) hy30))
   refine W_r V V (VR_ldC (v := y30.1.1) V (et V) (SlN.row obC_len (sl_SlN (hRd _ (hR _ _ _ 2 S28 (congrArg some hcj28))).2.1) hv30 hy30 V 0 _ V) Try.underlying25 V) ?_
   refine W_appS 1 0 S28 V hc17 V V V (es7 V (et V)) (et V) Try.underlying25 Try.underlying25 (z := .int .i64 0) (bytes := 8) (by kernel_rfl) V (by decide) (sl_SlN (nst_at1 ((hRd _ (hR _ _ _ 2 S28 (congrArg some hcj28))).2.2.1) hy30)) ones_i (by first | omega | (simp; done) | (simp; omega)) (by first | omega | (simp; done) | (simp; omega)) (fun v33 w33 c33 hc33 S33 => ?_)
   replace hc33 : c33 = io .i64 v33 ((T.take (T.length - 1)) ++ y30.1.2) := hc33.trans (app_eq (by first | (simp; done) | (rw [List.take_of_length_le (l := List.drop _ _) (by rw [List.length_drop]; exact Nat.le_refl _)])))
   replace S33 : St wb X (c33 :: c24 :: cj28 :: rest) w33 := S33
   refine W_v V V (V_asg V (et V)) (W_end (Qo_normal ?_))
   refine gen_Q (fun A34 E34 => ?_)
   have Y34 := szq E34
   have F34 := fsE E34 (cq2 (cq8 (fx2 F29) V) V)
   have l0_34 := lookE E34 0 (es8 V (es2 V (fg6 F29)))
   have l1_34 := lookE E34 1 (es8 V (es2 V (fg5 F29)))
   have l3_34 := lookE E34 3 (es8 V (es2 V (fg4 F29)))
   have l4_34 := lookE E34 4 (et V)
   clear E34 Y29 F29
   refine inb_n ?_
   refine then_n ⟨(T.take (T.length - 1) ++ y30.1.2).length + wt (O.map ab) (M ++ [y14]), by first | (simp only [hm8, List.length_append, List.length_take]; omega) | (simp only [hm8, List.length_take]; omega), Y34, F34.d, (T.take (T.length - 1) ++ y30.1.2), (M ++ [y14]), v33, rfl, (by have q := hrc.mark hG hy14 hn0; rw [hpt] at q; exact q), ((l4_34).trans (by first | rfl | (simp; done) | (congr 1; omega))), ((l0_34).trans l0_7.symm), ((l1_34).trans l1_7.symm), ((l3_34).trans l3_7.symm), (by have q0 := hc33; have q1 : c24 = ms (.map (some g2)) ([0] ++ (M ++ [y14])) := hc24.trans (by rw [List.append_assoc]); have q2 := hcj28; subst q0 q1 q2; exact S33)⟩
  refine ⟨_, rfl, ?_⟩
  obtain ⟨cj28, hcj28⟩ : ∃ c_, c_ = Jx (M ++ [y14]) := ⟨_, rfl⟩
  rw [← hcj28] at S28
  replace S28 : St wb X (c17 :: c24 :: cj28 :: rest) w28 := S28
  refine I_up (by kernel_rfl) ?_
  refine W_v V V (V_notF V (et V)) ?_
  refine W_end (Qo_normal ?_)
  refine gen_Q (fun A35 E35 => ?_)
  have Y35 := szq E35
  have F35 := fsE E35 (ck (cq3 F25 V) V V)
  clear E35 Y25 F25
  refine tk H27 ?_
  refine R_cond_t (fg0 F35) ?_
  refine R_ret ?_
  refine then_ret (inb_ret (then_ret (inb_ret ?_)))
  refine ret_inR0 (results_0 Try.results64 ) F35.d ?_
  have S37 := S28.del 0
  replace S37 : St wb X (c24 :: cj28 :: rest) w28 := S37
  have S38 := S37.del 0
  replace S38 : St wb X (cj28 :: rest) w28 := S38
  exact ⟨⟨_, rfl⟩, .inr ⟨_, (hrc.pre hG hy14 hn0), hback _ _ (hcj28 ▸ S38)⟩⟩
 refine R_exit ?_
 refine then_exit (then_exit ?_)
 refine inb_hit ?_
 refine ret_inR0 (results_0 Try.results64 ) F11.d ?_
 have S40 := S8.del 0
 replace S40 : St wb X (c3_8 :: cj_8 :: rest) w8 := S40
 have S41 := S40.del 0
 replace S41 : St wb X (cj_8 :: rest) w8 := S41
 exact ⟨⟨_, rfl⟩, .inl ⟨_, (hrc.done (by omega)).1, hback _ _ (hcj_8 ▸ S41)⟩⟩

set_option maxHeartbeats 4000000 in
theorem krc_c {ov : Value} {O : List Ob} {rv : Value} {rs : List Int} {w : World} (h_ov : Ro w NoX (rl 2 obC ov O)) (n_ov : Ro w NoX (nst O)) (h_rv : Ro w NoX (il .i64 rv rs))  :
  Calls Try.prog 39 #[.agg #[ov, rv]] w fun e w' => ∃ gb, e = .returned (.func (.func 64) #[] #[.pointer (some ⟨gb, 0, none⟩)]) ∧ St w NoX [bx gb 36 #[ov, rv]] w' := by
 refine calls_in 4 Try.func39 V V (by simp) (fun A0 Y0 hdf0 hargs => ?_)
 have l0_0 := hargs 0 (.agg #[ov, rv]) V
 clear hargs; replace Y0 : SzN A0 4 := ⟨Y0⟩
 have hS := St.nil w
 have bh_ov := SlN.le (sl_SlN h_ov.at)
 have bh_rv := SlN.le (sl_SlN h_rv.at)
 refine wp_seq_k fun K1 H1 => region_in ?_
 refine W_boxS (zs := #[ov, rv]) hS V V V l0_0 (by rfl) (fun g2 w2 c2 hc2 S2 => ?_)
 replace S2 : St w NoX [c2] w2 := S2
 refine W_v V V (V_asg V V) ?_
 refine W_end (gen_Q fun A3 E3 => ?_)
 have Y3 := szq E3
 have F3 := fsE E3 (cq1 (ck (FS.n hdf0) V V) V)
 clear E3 Y0 hdf0 l0_0
 refine tk H1 (wp_seq_k fun K4 H4 => region_in ?_)
 refine W_v V V (V_mkf V (args0) (args1 (fg0 F3))) ?_
 refine W_v V V (V_asg V (et V)) ?_
 refine W_end (gen_Q fun A5 E5 => ?_)
 have Y5 := szq E5
 have F5 := fsE E5 (ck (cq1 F3 V) V V)
 clear E5 Y3 F3
 refine tk H4 (wp_ret ?_)
 refine ret_in (results_1 Try.results39 (rv_tmp (fg0 F5))) F5.d ?_
 exact ⟨_, rfl, (S2.fin1 0 V (hc2))⟩

end Go.Proofs.Ytpgkfndbfocibaa
namespace Go.Proofs.Ytpgkfndbfocibaa
open Go.RowKit Go.Own Go.Own.R Go.Own.G Go.Own.Gr


set_option maxHeartbeats 4000000 in
theorem kWd_c {ov : Value} {O : List Ob} {rv : Value} {rs : List Int} {w : World} (h_ov : Ro w NoX (rl 2 obC ov O)) (n_ov : Ro w NoX (nst O)) (h_rv : Ro w NoX (il .i64 rv rs)) (hsm : SM (O.map ab)) :
  Calls Try.prog 24 #[.agg #[ov, rv]] w fun e w' => e = .returned (.tuple #[.int .i64 (wdN (O.map ab) rs), .int .i64 (ckG (O.map ab) rs).2]) ∧ St w NoX [] w' := by
 refine calls_inR 33 Try.func24 V V (by simp) (fun A0 Y0 hdf0 hargs => ?_)
 have l0_0 := hargs 0 (.agg #[ov, rv]) V
 clear hargs; replace Y0 : SzN A0 33 := ⟨Y0⟩
 have hS := St.nil w
 have bh_ov := SlN.le (sl_SlN h_ov.at)
 have bh_rv := SlN.le (sl_SlN h_rv.at)
 refine R_seq (fun K1 H1 => ?_)
 refine R_region (by kernel_rfl) ?_
 refine W_boxS (zs := #[ov, rv]) hS V V V l0_0 (by rfl) (fun g2 w2 c2 hc2 S2 => ?_)
 replace S2 : St w NoX [c2] w2 := S2
 refine W_v V V (V_asg V V) (W_v V V (V_asg V V) (W_end (Qo_normal ?_)))
 refine gen_Q (fun A3 E3 => ?_)
 have Y3 := szq E3
 have F3 := fsE E3 (cq2 (ck (FS.n hdf0) V V) V)
 clear E3 Y0 hdf0 l0_0
 refine tk H1 ?_
 refine R_seq (fun K4 H4 => ?_)
 refine R_seq (fun K5 H5 => ?_)
 refine R_region (by kernel_rfl) ?_
 refine W_r V V (VR_ldA V (fg0 F3) (S2.obj 0 V hc2) Try.underlying36 V (by kernel_rfl)) ?_
 refine W_call V V V Try.func38 (by kernel_rfl) V (args2 (et V) V) (kcd_c (ns := []) (nv := .slice none 0 0) (S2.roC h_ov) (S2.roC n_ov) (S2.roC h_rv) ro_nil ) ?_
 rintro _ w6 ⟨rfl, hP6⟩
 refine ⟨_, rfl, ?_⟩
 have S6 := S2.join hP6
 replace S6 : St w NoX [c2] w6 := S6
 refine W_v V V (V_asg V (et V)) (W_end (Qo_normal ?_))
 refine gen_Q (fun A7 E7 => ?_)
 have Y7 := szq E7
 have F7 := fsE E7 (ck (cq2 F3 V) V V)
 clear E7 Y3 F3
 refine tk H5 ?_
 refine R_seq (fun K8 H8 => ?_)
 refine R_region (by kernel_rfl) ?_
 refine W_v V V (V_mov V (fg0 F7)) ?_
 refine W_v V V (V_neq V (et V) V) ?_
 refine W_end (Qo_normal ?_)
 refine gen_Q (fun A9 E9 => ?_)
 have Y9 := szq E9
 have F9 := fsE E9 (ck (cq1 F7 V) V V)
 clear E9 Y7 F7
 refine tk H8 ?_
 refine R_cond_dec (fg0 F9) (fun c10 => ?_) (fun c10 => ?_)
 ·refine R_seq (fun K11 H11 => ?_)
  refine R_region (by kernel_rfl) ?_
  refine W_v V V (V_mov V (fg1 F9)) (W_v V V (V_asg V V) (W_v V V (V_asg V (es V (et V))) (W_end (Qo_normal ?_))))
  refine gen_Q (fun A12 E12 => ?_)
  have Y12 := szq E12
  have F12 := fsE E12 (ck (ck (cq1 F9 V) V V) V V)
  clear E12 Y9 F9
  have S13 : St w NoX [] w6 := S6.sel [] (by decide) V
  refine tk H11 ?_
  refine R_ret ?_
  refine then_ret ?_
  refine ret_inR0 (results_2 Try.results24 (rv_tmp (fg1 F12)) (rv_tmp (fg0 F12))) F12.d ?_
  have hne : ¬ (ckG (O.map ab) rs).2 = 0 := by rw [← ckd_nil]; have hc := c10; simpa using hc
  rw [wdN_e hne]
  exact ⟨by first | rfl | (rw [ckd_nil]; done) | (rw [ckd_nil]; rfl), S13.fin0⟩
 have hck : (ckG (O.map ab) rs).2 = 0 := by rw [← ckd_nil]; simpa using c10
 have hG := ckG_iff.1 hck
 refine R_skip (tk H4 ?_)
 refine R_seq (fun K14 H14 => ?_)
 refine R_region (by kernel_rfl) ?_
 refine W_allocS (z := .int .i64 0) (zs := #[.int .i64 0]) S6 V V V (by kernel_rfl) (by rfl) (fun g15 w15 c15 hc15 S15 => ?_)
 replace S15 : St w NoX [c15, c2] w15 := S15
 refine xsC (zs' := #[.int .i64 0]) 0 S15 V hc15 V V V (et V) V (by rfl) (fun w16 c16 hc16 S16 => ?_)
 replace S16 : St w NoX [c16, c2] w16 := S16
 refine W_end (Qo_normal ?_)
 refine gen_Q (fun A17 E17 => ?_)
 have Y17 := szq E17
 have F17 := fsE E17 (ck F9 V V)
 clear E17 Y9 F9
 refine tk H14 ?_
 refine R_seq (fun K18 H18 => ?_)
 refine R_seq (fun K19 H19 => ?_)
 refine R_region (by kernel_rfl) ?_
 refine W_r V V (VR_ldA V (fg3 F17) (S16.obj 1 V hc2) Try.underlying36 V (by kernel_rfl)) ?_
 refine W_call V V V Try.func39 (by kernel_rfl) V (args1 (et V)) (krc_c (S16.roC h_ov) (S16.roC n_ov) (S16.roC h_rv) ) ?_
 rintro _ w20 ⟨gb_20, rfl, hP20⟩
 refine ⟨_, rfl, ?_⟩
 obtain ⟨cb_20, hcb_20, hP20⟩ := gen1 hP20
 have S20 := S16.join hP20
 replace S20 : St w NoX [cb_20, c16, c2] w20 := S20
 refine W_end (Qo_normal ?_)
 refine gen_Q (fun A21 E21 => ?_)
 have Y21 := szq E21
 have F21 := fsE E21 (ck (cq1 F17 V) V V)
 clear E21 Y17 F17
 refine tk H19 (R_block ?_)
 refine R_rangeS (α := Int) (fg0 F21) (fun args w => calls_enter Try.func64 V V args w) (krc_it (gov := gb_20) (ov := ov) (O := O) (rv := rv) (rs := rs) (Rd := fun W => (bx gb_20 36 #[ov, rv]).at W ∧ (rl 2 obC ov O).at W ∧ (nst O).at W ∧ (il .i64 rv rs).at W) (fun _ h => h) (hG) (hsm)) (fun _ => rfl) (fun pre => pk (fun l => (WB (O.map ab) pre) ∧ l = [bx gb_20 36 #[ov, rv], bx g15 3 #[.int .i64 (((pre.map (wd1 (O.map ab))).sum))], bx g2 36 #[ov, rv]])) (fun cQ pre => pk (fun l => False)) (St.pack (l := [bx gb_20 36 #[ov, rv], bx g15 3 #[.int .i64 ((([].map (wd1 (O.map ab))).sum))], bx g2 36 #[ov, rv]]) (fr := []) (by have q0 : cb_20 = bx gb_20 36 #[ov, rv] := hcb_20; have q1 : c16 = bx g15 3 #[.int .i64 ((([].map (wd1 (O.map ab))).sum))] := hc16.trans (rfl); have q2 : c2 = bx g2 36 #[ov, rv] := hc2; subst q0 q1 q2; exact S20) ⟨(by unfold WB; simp), rfl⟩)
  (fun pre W l' hS => by obtain ⟨l, ⟨hwb, rfl⟩, hl⟩ := pk_at (hS.ch 0 V); exact ⟨(hl 0 _ V), hS.ro h_ov, hS.ro n_ov, hS.ro h_rv⟩)
  (fun x a' cQ => SzN a' 33 ∧ a'.defers = [] ∧ EV a' (.tmp 1) = EV A21 (.tmp 1) ∧ EV a' (.tmp 5) = EV A21 (.tmp 5) ∧ EV a' (.tmp 6) = .int .i64 (x) ∧ cQ = pk (·= [])) ?_ ?_ ?_ ?_
 ·intro la22 pre x wa22 fr K hSa22 hK
  simp only [id]
  rw [rnd1]
  obtain ⟨A23, E23⟩ : ∃ A, A = (PT { tmps := A21.tmps, defers := [] } 15 (.int .i64 x)) := ⟨_, rfl⟩
  rw [← E23]
  have Y23 := szq E23
  have hdf23 : A23.defers = [] := by rw [E23]; rfl
  have l1_23 := lookE E23 1 (es V (rnd_l (fg4 F21)))
  have l5_23 := lookE E23 5 (es V (rnd_l (fg1 F21)))
  have l15_23 := lookE E23 15 (et V)
  clear E23
  obtain ⟨cI, hcI, hSa22⟩ := gen1 hSa22
  refine R_region (by kernel_rfl) ?_
  refine W_v V V (V_asg V l15_23) (W_end (Qo_normal ?_))
  refine gen_Q (fun A24 E24 => ?_)
  have Y24 := szq E24
  have F24 := ((fsE E24 (ck (FS.n hdf23) V V)).c (lookE E24 1 (es V l1_23))).c (lookE E24 5 (es V l5_23))
  clear E24 Y23 hdf23 l1_23 l5_23 l15_23
  refine then_n ?_
  refine hK _ _ _ ⟨Y24, F24.d, ((fg1 F24).trans (fg4 F21).symm), ((fg0 F24).trans (fg1 F21).symm), (fg2 F24), rfl⟩ ?_
  subst hcI; exact hSa22.asg0
 ·rintro lb25 pre x A25 w25 cQ fr hAx hlr S25 hVd
  obtain ⟨Y25, hdf25, u1_25, u5_25, l6_25, rfl⟩ := hAx
  have l1_25 := u1_25.trans (fg4 F21)
  have l5_25 := u5_25.trans (fg1 F21)
  obtain ⟨_, _, ⟨hwb, rfl⟩, rfl, S25⟩ := S25.body2
  replace S25 : St w NoX ((bx gb_20 36 #[ov, rv]) :: (bx g15 3 #[.int .i64 (((pre.map (wd1 (O.map ab))).sum))]) :: (bx g2 36 #[ov, rv]) :: fr) w25 := S25
  obtain ⟨cb_26, c16_26, c2_26, hcb_26, hc16_26, hc2_26, S25⟩ := gen3 S25
  have hxr := rcL_rng hG hVd
  rw [List.length_map] at hxr
  have hvl := hVd.length_le
  have hrl := rcL_len hG
  rw [List.length_append, List.length_singleton] at hvl
  have ho4 := hG.o4
  have hwb2 := hwb.bd (by omega)
  refine R_block ?_
  refine R_seq (fun K27 H27 => ?_)
  refine R_region (by kernel_rfl) ?_
  refine W_v V V (V_fa (off' := 0) V l1_25 Try.underlying36 V (by decide +kernel) V) ?_
  refine W_r V V (xlC (v := ov) V (et V) (S25.obj 2 V hc2_26) Try.underlying34) ?_
  refine W_v V V (V_mov V (es2 V l6_25)) ?_
  refine W_v V V (V_sb V (et V) V (by omega) (by omega)) ?_
  have k28 : (x - 1).toNat < O.length := by first | omega | (simp only [List.length_cons, List.length_nil]; omega) | (simp only [List.length_set]; omega) | decide
  obtain ⟨y28, hy28⟩ := get_some (xs := O) (k := (x - 1).toNat) k28
  have hsy := hsm.at hy28
  obtain ⟨B28, O28, C28, hv28⟩ := (SlN.blk (sl_SlN h_ov.at) (by first | omega | (simp only [List.length_cons, List.length_nil]; omega) | (simp only [List.length_set]; omega) | decide))
  refine W_v V V (V_ixS (off := O28 + ((x - 1).toNat) * 2) 2 ((x - 1).toNat) V (es2 V (et V)) (et V) hv28 (by omega) k28 Try.underlying34 (by kernel_rfl) V) ?_
  have fn29 : Ro w NoX (il .i64 y28.1.1 y28.1.2) := nst_ro1 n_ov hy28
  have bfn29 := SlN.le (sl_SlN (S25.ro fn29))
  have fn30 : Ro w NoX (il .u64 y28.2.1 y28.2.2) := nst_ro2 n_ov hy28
  have bfn30 := SlN.le (sl_SlN (S25.ro fn30))
  refine W_r V V (VR_ldR (ys := obC y28) V (et V) (SlN.row obC_len (sl_SlN (S25.ro h_ov)) hv28 hy28 V) Try.underlying68 V (by kernel_rfl)) ?_
  refine W_allocS (z := .agg #[.slice none 0 0, .slice none 0 0]) (zs := #[.slice none 0 0, .slice none 0 0]) S25 V V V (by kernel_rfl) (by rfl) (fun g31 w31 c31 hc31 S31 => ?_)
  replace S31 : St w NoX (c31 :: cb_26 :: c16_26 :: c2_26 :: fr) w31 := S31
  refine xsB 0 S31 V hc31 V V V (et V) (es V (et V)) (by simp only [List.all_toArray, List.all_cons, List.all_nil, obC, SlN_one (sl_SlN fn29.at), SlN_one (sl_SlN fn30.at)] <;> rfl) (fun w32 c32 hc32 S32 => ?_)
  replace S32 : St w NoX (c32 :: cb_26 :: c16_26 :: c2_26 :: fr) w32 := S32
  refine W_end (Qo_normal ?_)
  refine gen_Q (fun A33 E33 => ?_)
  have Y33 := szq E33
  have F33 := (fsE E33 (ck (cq6 (FS.n hdf25) V) V V)).c (lookE E33 5 (es7 V l5_25))
  clear E33 Y25 hdf25 l1_25 l5_25 l6_25
  refine tk H27 ?_
  refine R_region (by kernel_rfl) ?_
  refine W_r V V (xlC (v := .int .i64 (((pre.map (wd1 (O.map ab))).sum))) V (fg0 F33) (S32.obj 2 V hc16_26) Try.underlying3) ?_
  refine W_v V V (V_fa (off' := 0) V (es V (fg1 F33)) Try.underlying68 V (by decide +kernel) V) ?_
  refine W_r V V (xlC (v := y28.1.1) V (et V) (S32.obj 0 V hc32) Try.underlying25) ?_
  refine W_v V V (V_lenS V (et V) (sl_SlN fn29.at) Try.underlying25) ?_
  refine W_v V V (V_add V V (et V) (by omega) (by omega)) ?_
  refine W_v V V (V_fa (off' := 1) V (es5 V (fg1 F33)) Try.underlying68 V (by decide +kernel) V) ?_
  refine W_r V V (xlC (v := y28.2.1) V (et V) (S32.obj 0 V hc32) Try.underlying66) ?_
  refine W_v V V (V_lenS V (et V) (sl_SlN fn30.at) Try.underlying66) ?_
  refine W_v V V (V_add V (es3 V (et V)) (et V) (by omega) (by omega)) ?_
  refine W_v V V (V_add V (es8 V (et V)) (et V) (by omega) (by omega)) ?_
  refine xsC (zs' := #[.int .i64 ((((pre.map (wd1 (O.map ab))).sum) + ((1 + (y28.1.2.length : Int)) + (y28.2.2.length : Int))))]) 2 S32 V hc16_26 V V V (es8 V (es2 V (fg0 F33))) (et V) (by rfl) (fun w34 c34 hc34 S34 => ?_)
  replace S34 : St w NoX (c32 :: cb_26 :: c34 :: c2_26 :: fr) w34 := S34
  refine W_end (Qo_normal ?_)
  refine gen_Q (fun A35 E35 => ?_)
  have Y35 := szq E35
  have F35 := fsE E35 (cq2 (cq8 F33 V) V)
  clear E35 Y33 F33
  have S37 := S34.del 0
  replace S37 : St w NoX (cb_26 :: c34 :: c2_26 :: fr) w34 := S37
  refine inb_n ?_
  exact (St.pack (l := [bx gb_20 36 #[ov, rv], bx g15 3 #[.int .i64 ((((pre ++ [x]).map (wd1 (O.map ab))).sum))], bx g2 36 #[ov, rv]]) (fr := fr) (by have q0 : cb_26 = bx gb_20 36 #[ov, rv] := hcb_26; have q1 : c34 = bx g15 3 #[.int .i64 ((((pre ++ [x]).map (wd1 (O.map ab))).sum))] := hc34.trans ((congrArg (fun z => bx _ _ #[.int .i64 z]) (wd_snoc hy28).symm)); have q2 : c2_26 = bx g2 36 #[ov, rv] := hc2_26; subst q0 q1 q2; exact S37) (⟨(WB.snoc hwb hy28 hsm), rfl⟩))
 ·intro D38 xs w38 hxs S38
  have hxs' : xs = (rcL (O.map ab) rs) := hxs; subst hxs'; clear hxs
  obtain ⟨_, ⟨hwb, rfl⟩, S38⟩ := S38.unpack
  replace S38 : St w NoX ((bx gb_20 36 #[ov, rv]) :: (bx g15 3 #[.int .i64 ((((rcL (O.map ab) rs).map (wd1 (O.map ab))).sum))]) :: (bx g2 36 #[ov, rv]) :: (ob D38 (.deferred (some []))) :: []) w38 := S38
  obtain ⟨cb_38, c16_38, c2_38, cD38, hcb_38, hc16_38, hc2_38, hcD38, S38⟩ := gen4 S38
  refine gen_Q (fun A38 E38 => ?_)
  have Y38 := szq E38
  have hdf38 : A38.defers = [{ target := .collected D38, args := #[] }] := by rw [E38, df_mk, F21.d] <;> rfl
  have l5_38 := lookE E38 5 (mk_l (fg1 F21))
  clear E38
  refine inb_n (tk H18 ?_)
  refine R_seq (fun K39 H39 => ?_)
  refine R_region (by kernel_rfl) ?_
  refine W_r V V (xlC (v := .int .i64 ((((rcL (O.map ab) rs).map (wd1 (O.map ab))).sum))) V l5_38 (S38.obj 1 V hc16_38) Try.underlying3) ?_
  refine W_v V V (V_asg V (et V)) (W_v V V (V_asg V V) (W_end (Qo_normal ?_)))
  refine gen_Q (fun A40 E40 => ?_)
  have Y40 := szq E40
  have F40 := fsE E40 (ck (ck (cq1 (FS.n hdf38) V) V V) V V)
  clear E40 Y38 hdf38 l5_38
  have S41 : St w NoX [cD38] w38 := S38.sel [3] (by decide) V
  refine tk H39 ?_
  refine R_ret ?_
  have hD42 := S41.obj 0 V hcD38
  have S42 := S41.put (o' := .deferred none) 0 V hcD38
  obtain ⟨w42, hw42⟩ : ∃ w', w' = w38.putObj D38 (.deferred none) := ⟨_, rfl⟩
  rw [← hw42] at S42
  replace S42 : St w NoX [(ob D38 (.deferred none))] w42 := S42
  refine ret_inR1' (D := D38) (w1 := w42) hw42 (results_2 Try.results24 (rv_tmp (fg1 F40)) (rv_tmp (fg0 F40))) F40.d hD42 ?_
  rw [hck, wdN_k hck, ← rcL_sum hG]
  exact ⟨rfl, S42.fin0⟩
 intro D43 cQ pre w43 hpre S43
 obtain ⟨_, h, _⟩ := S43.unpack; exact h.elim

end Go.Proofs.Ytpgkfndbfocibaa
namespace Go.Proofs.Ytpgkfndbfocibaa
open Go.RowKit Go.Own Go.Own.R Go.Own.G Go.Own.Gr


set_option maxHeartbeats 4000000 in
theorem kNw_c {n : Int} {w : World}   :
  Calls Try.prog 60 #[.int .i64 n] w fun e w' => ∃ hv H qv, e = .returned (.tuple #[.agg #[hv, qv], .int .i64 (nwE n)]) ∧ (H.map ab = []) ∧ St w NoX [ro 2 obC hv H, owl .i64 (H.map (·.1)), owl .u64 (H.map (·.2)), io .i64 (qv) (nwR n)] w' := by
 refine calls_in 14 Try.func60 V V (by simp) (fun A0 Y0 hdf0 hargs => ?_)
 have l0_0 := hargs 0 (.int .i64 n) V
 clear hargs; replace Y0 : SzN A0 14 := ⟨Y0⟩
 have hS := St.nil w
 refine wp_seq_k fun K1 H1 => region_in ?_
 refine W_allocS (z := .agg #[.slice none 0 0, .slice none 0 0]) (zs := #[.slice none 0 0, .slice none 0 0]) hS V V V (by kernel_rfl) (by rfl) (fun g2 w2 c2 hc2 S2 => ?_)
 replace S2 : St w NoX [c2] w2 := S2
 refine W_v V V (V_asg V V) ?_
 refine W_end (gen_Q fun A3 E3 => ?_)
 have Y3 := szq E3
 have F3 := (fsE E3 (cq1 (ck (FS.n hdf0) V V) V)).c (lookE E3 0 (es2 V l0_0))
 clear E3 Y0 hdf0 l0_0
 refine tk H1 (wp_seq_k fun K4 H4 => ?_)
 refine wp_seq_k fun K5 H5 => region_in ?_
 refine W_v V V (V_mov V (fg0 F3)) ?_
 refine W_v V V (V_lss V (et V) V) ?_
 refine W_split V V (V_mov V (et V)) (fun c6 => ?_) (fun c6 => ?_)
 ·refine xof V V V (et V) (xof V V V (es V (et V)) ?_)
  refine W_v V V (V_pickT V (es2 V (et V)) V) ?_
  refine W_end (gen_Q fun A7 E7 => ?_)
  have Y7 := szq E7
  have F7 := fsE E7 (ck (cq5 F3 V) V V)
  clear E7 Y3 F3
  refine tk H5 ?_
  refine cond_t (fg0 F7) ?_
  refine wp_seq_k fun K8 H8 => region_in ?_
  refine W_v V V (xbS (n := 2) (z := .agg #[.slice none 0 0, .slice none 0 0]) V (parts0)) ?_
  refine xsA 0 S2 V hc2 V V V (es V (fg2 F7)) (et V) (fun w9 c9 hc9 S9 => ?_)
  replace S9 : St w NoX [c9] w9 := S9
  refine W_v V V (V_asg V V) ?_
  refine W_end (gen_Q fun A10 E10 => ?_)
  have Y10 := szq E10
  have F10 := fsE E10 (ck (cq1 F7 V) V V)
  clear E10 Y7 F7
  refine tk H8 (wp_ret (then_ret ?_))
  refine ret_in (results_2 Try.results60 (rv_cellA (fg3 F10) (S9.obj 0 V hc9) Try.underlying36 V (by kernel_rfl)) (rv_tmp (fg0 F10))) F10.d ?_
  obtain ⟨c11, hc11, S11⟩ := S9.pnil (s := 2)
  replace hc11 : c11 = ro 2 obC (.slice none 0 0) ([] : List Ob) := hc11
  obtain ⟨c12, cb12, hc12, hcb12, S12⟩ := gen2 (nst_nils S11)
  replace S12 : St w NoX [c12, cb12, c11, c9] w9 := S12
  obtain ⟨c13, hc13, S13⟩ := S12.pnil (s := 1)
  have h := nw_e (n := n) (by omega)
  rw [h.1, h.2]
  exact ⟨_, ([] : List Ob), _, rfl, rfl, (S13.fin4 3 V (hc11) 1 V (hc12) 2 V (hcb12) 0 V (hc13) (by decide))⟩
 refine W_v V (xwt V V (et V)) (V_mov V (es3 V (fg0 F3))) ?_
 refine W_v V (xwt V V (es V (et V))) (V_gtr V (et V) V) ?_
 refine W_v V V (V_pickF V (es2 V (et V)) (et V)) ?_
 refine W_end (gen_Q fun A14 E14 => ?_)
 have Y14 := szq E14
 have F14 := fsE E14 (ck (cq5 F3 V) V V)
 clear E14 Y3 F3
 refine tk H5 ?_
 refine cond_dec (fg0 F14) (fun c15 => ?_) (fun c15 => ?_)
 ·refine wp_seq_k fun K16 H16 => region_in ?_
  refine W_v V V (xbS (n := 2) (z := .agg #[.slice none 0 0, .slice none 0 0]) V (parts0)) ?_
  refine xsA 0 S2 V hc2 V V V (es V (fg2 F14)) (et V) (fun w17 c17 hc17 S17 => ?_)
  replace S17 : St w NoX [c17] w17 := S17
  refine W_v V V (V_asg V V) ?_
  refine W_end (gen_Q fun A18 E18 => ?_)
  have Y18 := szq E18
  have F18 := fsE E18 (ck (cq1 F14 V) V V)
  clear E18 Y14 F14
  refine tk H16 (wp_ret (then_ret ?_))
  refine ret_in (results_2 Try.results60 (rv_cellA (fg3 F18) (S17.obj 0 V hc17) Try.underlying36 V (by kernel_rfl)) (rv_tmp (fg0 F18))) F18.d ?_
  obtain ⟨c19, hc19, S19⟩ := S17.pnil (s := 2)
  replace hc19 : c19 = ro 2 obC (.slice none 0 0) ([] : List Ob) := hc19
  obtain ⟨c20, cb20, hc20, hcb20, S20⟩ := gen2 (nst_nils S19)
  replace S20 : St w NoX [c20, cb20, c19, c17] w17 := S20
  obtain ⟨c21, hc21, S21⟩ := S20.pnil (s := 1)
  have h := nw_e (n := n) (by omega)
  rw [h.1, h.2]
  exact ⟨_, ([] : List Ob), _, rfl, rfl, (S21.fin4 3 V (hc19) 1 V (hc20) 2 V (hcb20) 0 V (hc21) (by decide))⟩
 refine wp_skip ?_
 refine tk H4 (wp_seq_k fun K22 H22 => region_in ?_)
 refine W_v V V (V_mov V (fg1 F14)) ?_
 refine W_mkS (z := .int .i64 0) (bytes := 8) n.toNat S2 V V V (et V) (et V) (by omega) Try.underlying25 (by kernel_rfl) (by omega) V (fun v23 w23 c23 hc23 S23 => ?_)
 replace hc23 : c23 = io .i64 v23 (List.replicate n.toNat (0 : Int)) := hc23.trans (by simp only [io, bo, List.map_replicate, List.length_replicate])
 replace S23 : St w NoX [c23, c2] w23 := S23
 refine W_v V V (xbT (n := 2) (z := .agg #[.slice none 0 0, .slice none 0 0]) V (parts1 (et V)) (by simp only [List.all_cons, List.all_nil, SlN_one (ow_at (S23.chq 0 V hc23)), Bool.and_true] <;> rfl)) ?_
 refine xsB 1 S23 V hc2 V V V (es3 V (fg2 F14)) (et V) (by simp only [List.all_toArray, List.all_cons, List.all_nil, SlN_one (ow_at (S23.chq 0 V hc23))] <;> rfl) (fun w24 c24 hc24 S24 => ?_)
 replace S24 : St w NoX [c23, c24] w24 := S24
 refine W_v V V (V_asg V V) ?_
 refine W_end (gen_Q fun A25 E25 => ?_)
 have Y25 := szq E25
 have F25 := fsE E25 (ck (cq3 F14 V) V V)
 clear E25 Y14 F14
 refine tk H22 (wp_ret ?_)
 refine ret_in (results_2 Try.results60 (rv_cellA (fg3 F25) (S24.obj 1 V hc24) Try.underlying36 V (by kernel_rfl)) (rv_tmp (fg0 F25))) F25.d ?_
 obtain ⟨c26, hc26, S26⟩ := S24.pnil (s := 2)
 replace hc26 : c26 = ro 2 obC (.slice none 0 0) ([] : List Ob) := hc26
 obtain ⟨c27, cb27, hc27, hcb27, S27⟩ := gen2 (nst_nils S26)
 replace S27 : St w NoX [c27, cb27, c26, c23, c24] w24 := S27
 have h := nw_k (n := n) (by omega)
 rw [h.1, h.2]
 exact ⟨_, ([] : List Ob), _, rfl, rfl, (S27.fin4 2 V (hc26) 0 V (hc27) 1 V (hcb27) 3 V (hc23) (by decide))⟩

end Go.Proofs.Ytpgkfndbfocibaa