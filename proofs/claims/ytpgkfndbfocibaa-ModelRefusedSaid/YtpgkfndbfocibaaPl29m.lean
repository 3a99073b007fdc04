import Derived.Test.YtpgkfndbfocibaaPl29h
import Derived.Test.YtpgkfndbfocibaaPl15j
/-! what Judge says -/
namespace Go.Own.Ml
open Go Go.Own Go.Own.R Go.Own.G Go.Own.Gr
section
variable {cf n K : Int} {l : List OpC} {ans : List AnC} {k : Nat} {y : OpC} {z : AnC} {G0 : GV} {pre : List ME} {x : ME}
end
end Go.Own.Ml
namespace Go.Own.Ml
open Go Go.Own Go.Own.R Go.Own.G Go.Own.Gr
section
variable {cf n K : Int} {g : GA} {c : OpC}
end
end Go.Own.Ml
namespace Go.Own
open Go Go.RowKit
end Go.Own

/-! questions and refused operations leave the graph as it is -/
namespace Go.Own.Ml
open Go Go.Own Go.Own.R Go.Own.G Go.Own.Gr
section
variable {mx : Int} {g : GA} {c : OpC}
theorem fin_er {g' : GA} {er : Int} (h : (fin g er g').2.e ≠ 0) : (fin g er g').1 = g ∧ (fin g er g').2.t = false ∧ (fin g er g').2.v = 0 := by
  unfold fin at h ⊢
  exact ⟨if_neg h, rfl, rfl⟩
theorem doG_err (h : (doG mx g c).2.e ≠ 0) : (doG mx g c).1 = g ∧ (doG mx g c).2.t = false ∧ (doG mx g c).2.v = 0 := by
  by_cases h1 : c.kd = 1
  · rw [do_1 h1] at h ⊢; exact fin_er h
  by_cases h2 : c.kd = 2
  · rw [do_2 h2] at h ⊢; exact fin_er h
  by_cases h3 : c.kd = 3
  · rw [do_3 h3] at h ⊢; exact fin_er h
  by_cases h4 : c.kd = 4
  · rw [do_4 h4] at h ⊢
    refine ⟨rfl, rfl, ?_⟩
    show rdV g.1 g.2 c.a c.f = 0
    unfold rdV; exact if_pos h
  by_cases h5 : c.kd = 5
  · rw [do_5 h5] at h ⊢; exact fin_er h
  by_cases h6 : c.kd = 6
  · rw [do_6 h6] at h ⊢; exact fin_er h
  by_cases h7 : c.kd = 7
  · rw [do_7 h7] at h ⊢; exact fin_er h
  by_cases h8 : c.kd = 8
  · rw [do_8 h8] at h ⊢
    refine ⟨rfl, ?_, rfl⟩
    show Gr.alB g.1 g.2 c.a c.b = false
    unfold Gr.alB; exact decide_eq_false fun q => h q.1
  by_cases h9 : c.kd = 9
  · rw [do_9 h9] at h ⊢
    exact ⟨rfl, decide_eq_false fun q => h q.1, rfl⟩
  by_cases h10 : c.kd = 10
  · rw [do_10 h10] at h ⊢
    refine ⟨rfl, rfl, ?_⟩
    have h' : shE g.1 g.2 c.a ≠ 0 := h
    show 256 * shP g.1 g.2 c.a + shR g.1 g.2 c.a = 0
    unfold shP shR; rw [if_pos h', if_pos h']; rfl
  · have : doG mx g c = (g, ⟨0, false, 0⟩) := by
      unfold doG; rw [if_neg h1, if_neg h2, if_neg h3, if_neg h4, if_neg h5, if_neg h6, if_neg h7, if_neg h8, if_neg h9, if_neg h10]
    rw [this] at h; exact absurd rfl h
/-- the answer of a graph that is not changed. -/
theorem as_sm {G Gt : GV} (h : gab Gt = gab G) : smG (G.1.2.map ab) G.2.2 (Gt.1.2.map ab) Gt.2.2 = true := sm_same (congrArg Prod.fst h).symm (congrArg Prod.snd h).symm
end
end Go.Own.Ml

/-! a script without its refused operations -/
namespace Go.Own.Ml
open Go Go.Own Go.Own.R Go.Own.G Go.Own.Gr
/-- what is not refused. -/
def kpK {α : Type} (p : Nat → Bool) : Nat → List α → List α
  | _, [] => []
  | k, x :: r => if p k = true then kpK p (k + 1) r else x :: kpK p (k + 1) r
theorem kpK_len {α : Type} (p : Nat → Bool) : ∀ (k : Nat) (l : List α), (kpK p k l).length ≤ l.length
  | _, [] => Nat.le_refl _
  | k, x :: r => by
    have := kpK_len p (k + 1) r
    unfold kpK; split <;> simp only [List.length_cons] <;> omega
theorem kpK_mem {α : Type} (p : Nat → Bool) : ∀ (k : Nat) (l : List α) (x : α), x ∈ kpK p k l → x ∈ l
  | _, [], _, h => h
  | k, y :: r, x, h => by
    unfold kpK at h; split at h
    · exact List.mem_cons_of_mem _ (kpK_mem p (k + 1) r x h)
    · rcases List.mem_cons.1 h with rfl | h
      · exact List.mem_cons_self
      · exact List.mem_cons_of_mem _ (kpK_mem p (k + 1) r x h)
theorem kpK_map {α β : Type} (f : α → β) (p : Nat → Bool) : ∀ (k : Nat) (l : List α), (kpK p k l).map f = kpK p k (l.map f)
  | _, [] => rfl
  | k, x :: r => by
    rw [List.map_cons]; unfold kpK; split
    · exact kpK_map f p (k + 1) r
    · rw [List.map_cons, kpK_map f p (k + 1) r]
theorem kpK_snoc {α : Type} (p : Nat → Bool) : ∀ (l : List α) (k : Nat) (x : α), kpK p k (l ++ [x]) = kpK p k l ++ (if p (k + l.length) = true then [] else [x])
  | [], k, x => by simp only [List.nil_append, kpK, List.length_nil, Nat.add_zero]
  | y :: r, k, x => by
    rw [List.cons_append, kpK, kpK, List.length_cons, kpK_snoc p r (k + 1) x, show k + 1 + r.length = k + (r.length + 1) by omega]
    split
    · rfl
    · rw [List.cons_append]
section
variable {mx : Int}
theorem mom_kp {rf : Nat → Bool} : ∀ (l : List OpC) (k j : Nat) (g : GA), (∀ (i : Nat) (m : GA × AnC), (mom mx rf k g l)[i]? = some m → rf (k + i) = true → m.2.e = 5) → mom mx (fun _ => false) j g (kpK rf k l) = kpK rf k (mom mx rf k g l)
  | [], _, _, _, _ => rfl
  | c :: r, k, j, g, h => by
    have h0 := h 0 (stp mx (rf k) g c) rfl
    have hn : ∀ (i : Nat) (m : GA × AnC), (mom mx rf (k + 1) (stp mx (rf k) g c).1 r)[i]? = some m → rf (k + 1 + i) = true → m.2.e = 5 := fun i m hm hr => h (i + 1) m (by rw [mom]; simpa using hm) (by rw [show k + (i + 1) = k + 1 + i by omega]; exact hr)
    rw [kpK, mom, kpK]
    by_cases q : rf k = true
    · rw [if_pos q, if_pos q]
      have e5 := h0 q
      have eg : (stp mx (rf k) g c).1 = g := by
        unfold stp at e5 ⊢
        split
        · rfl
        · rename_i hh
          rw [if_neg hh] at e5
          exact (doG_err (by rw [e5]; decide)).1
      rw [eg] at hn ⊢
      exact mom_kp r (k + 1) j g hn
    · rw [if_neg q, if_neg q, mom]
      have es : stp mx false g c = stp mx (rf k) g c := by
        have : rf k = false := by simpa using q
        rw [this]
      rw [es, mom_kp r (k + 1) (j + 1) _ hn]
/-- behind the last: what is kept ends the same. -/
theorem lastK {rf : Nat → Bool} : ∀ (l : List OpC) (k : Nat) (g : GA), (∀ (i : Nat) (m : GA × AnC), (mom mx rf k g l)[i]? = some m → rf (k + i) = true → m.2.e = 5) → (g :: (kpK rf k (mom mx rf k g l)).map (·.1)).getLast? = (g :: (mom mx rf k g l).map (·.1)).getLast?
  | [], _, _, _ => rfl
  | c :: r, k, g, h => by
    have h0 := h 0 (stp mx (rf k) g c) rfl
    have hn : ∀ (i : Nat) (m : GA × AnC), (mom mx rf (k + 1) (stp mx (rf k) g c).1 r)[i]? = some m → rf (k + 1 + i) = true → m.2.e = 5 := fun i m hm hr => h (i + 1) m (by rw [mom]; simpa using hm) (by rw [show k + (i + 1) = k + 1 + i by omega]; exact hr)
    have ih := lastK r (k + 1) (stp mx (rf k) g c).1 hn
    rw [mom, kpK]
    by_cases q : rf k = true
    · have e5 := h0 q
      have eg : (stp mx (rf k) g c).1 = g := by
        unfold stp at e5 ⊢
        split
        · rfl
        · rename_i hh
          rw [if_neg hh] at e5
          exact (doG_err (by rw [e5]; decide)).1
      rw [if_pos q, List.map_cons]
      rw [eg] at ih ⊢
      rw [ih, List.getLast?_cons_cons]
    · rw [if_neg q, List.map_cons, List.map_cons, List.getLast?_cons_cons, List.getLast?_cons_cons]
      exact ih
end
section
variable {cf n K : Int} {l : List OpC} {full : List Int}
theorem rfP_nil : rfP [] = fun _ => false := by funext k; unfold rfP; simp
theorem fbd_no : ∀ (M : List (GA × AnC)) (k : Nat), fbd (fun _ => false) k M = (0, 0)
  | [], _ => rfl
  | m :: r, k => by rw [fbd, if_neg (by simp)]; exact fbd_no r (k + 1)
theorem fbd_all : ∀ {rf : Nat → Bool} (M : List (GA × AnC)) (k : Nat), (fbd rf k M).2 = 0 → ∀ (i : Nat) (m : GA × AnC), M[i]? = some m → rf (k + i) = true → m.2.e = 5
  | _, [], _, _, i, m, hm, _ => by simp at hm
  | rf, x :: r, k, h, i, m, hm, hr => by
    unfold fbd at h
    by_cases q : rf k = true ∧ x.2.e ≠ 5
    · rw [if_pos q] at h; cases h
    · rw [if_neg q] at h
      cases i with
      | zero =>
        simp at hm; subst hm
        have hr : rf k = true := hr
        exact Classical.byContradiction fun e => q ⟨hr, e⟩
      | succ i => exact fbd_all r (k + 1) h i m (by simpa using hm) (by rw [show k + 1 + i = k + (i + 1) by omega]; exact hr)
theorem pl_inv (h : plF cf n K l full = (0, 0)) : scE cf l = (0, 0) ∧ fcF (-1) full l.length = true ∧ fbd (rfP full) 0 (moP n K l full) = (0, 0) := by
  by_cases q : (scE cf l).2 = 0
  · have h2 := (sc_inv q).2.2.2
    cases hc : fcF (-1) full l.length with
    | true => exact ⟨h2, rfl, by rw [← pl_fb h2 hc]; exact h⟩
    | false => rw [pl_fc h2 hc] at h; cases h
  · rw [pl_sc q] at h; rw [h] at q; exact absurd rfl q
theorem sc_kp (h : scE cf l = (0, 0)) {m : List OpC} (hl : m.length ≤ l.length) (hm : ∀ c ∈ m, c ∈ l) : scE cf m = (0, 0) := by
  obtain ⟨h1, h2, h3, _⟩ := sc_inv (cf := cf) (l := l) (by rw [h])
  have key : ∀ (m : List OpC) (k : Nat), (∀ c ∈ m, opE c = 0) → scF k m = (0, 0) := by
    intro m
    induction m with
    | nil => intro k _; rfl
    | cons x r ih => intro k hx; rw [scF, if_neg (by rw [hx x List.mem_cons_self]; decide)]; exact ih (k + 1) fun c hc => hx c (List.mem_cons_of_mem _ hc)
  unfold scE; rw [if_neg (by omega), if_neg (by omega)]; exact key m 0 fun c hc => h3 c (hm c hc)
theorem getL {α : Type} (L : List α) (d : α) (h : L ≠ []) : some (L.getD (L.length - 1) d) = L.getLast? := by
  rw [List.getLast?_eq_getElem?, List.getD_eq_getElem?_getD]
  have : L.length - 1 < L.length := by have := List.length_pos_iff.2 h; omega
  rw [List.getElem?_eq_getElem this]; rfl
/-- THE LAW. -/
theorem kp_pl (h : plF cf n K l full = (0, 0)) : plF cf n K (kpK (rfP full) 0 l) [] = (0, 0) ∧ plA cf n K (kpK (rfP full) 0 l) [] = kpK (rfP full) 0 (plA cf n K l full) ∧ plL cf n K (kpK (rfP full) 0 l) [] = plL cf n K l full := by
  obtain ⟨h1, h2, h3⟩ := pl_inv h
  have hk := sc_kp h1 (kpK_len (rfP full) 0 l) (kpK_mem (rfP full) 0 l)
  have hM : moP n K (kpK (rfP full) 0 l) [] = kpK (rfP full) 0 (moP n K l full) := by
    unfold moP; rw [rfP_nil]
    exact mom_kp l 0 0 (g00 K) fun i m hm hr => fbd_all _ 0 (by rw [show mom n (rfP full) 0 (g00 K) l = moP n K l full from rfl, h3]) i m hm hr
  have h0 : plF cf n K (kpK (rfP full) 0 l) [] = (0, 0) := by rw [pl_fb hk rfl, rfP_nil]; exact fbd_no _ 0
  have e1 := pl_k (cf := cf) (n := n) (K := K) (l := l) (full := full) (by rw [h])
  have e2 := pl_k (cf := cf) (n := n) (K := K) (l := kpK (rfP full) 0 l) (full := []) (by rw [h0])
  refine ⟨h0, ?_, ?_⟩
  · rw [e1.2, e2.2, hM, kpK_map]
  · unfold plL
    rw [e1.1, e2.1, hM]
    have := lastK (mx := n) (rf := rfP full) l 0 (g00 K) fun i m hm hr => fbd_all _ 0 (by rw [show mom n (rfP full) 0 (g00 K) l = moP n K l full from rfl, h3]) i m hm hr
    rw [← getL _ dG (by simp), ← getL _ dG (by simp)] at this
    exact Option.some.inj this
end
end Go.Own.Ml
namespace Go.Own.Ml
open Go Go.Own Go.Own.R Go.Own.G Go.Own.Gr
/-! the refused ones in order -/
structure KP (full : List Int) (i j : Nat) : Prop where
  jl : j ≤ full.length
  lo : ∀ (q : Nat) (z : Int), q < j → full[q]? = some z → z < (i : Int)
  hi : ∀ (q : Nat) (z : Int), j ≤ q → full[q]? = some z → (i : Int) ≤ z
section
variable {full : List Int} {i j : Nat} {c : Nat}
theorem KP.init (h : fcF (-1) full c = true) : KP full 0 0 := ⟨by omega, fun q z hq => by omega, fun q z _ hz => by have := ((fc_asc full (-1) c h).1 q z hz).1; omega⟩
theorem KP.in (h : j < full.length ∧ full.getD j 0 = (i : Int)) : rfP full i = true := by
  unfold rfP
  refine decide_eq_true ?_
  rw [← h.2, List.getD_eq_getElem?_getD, List.getElem?_eq_getElem h.1]
  exact List.getElem_mem h.1
theorem KP.out (k : KP full i j) (ha : Asc full) (h : ¬ ((j : Int) < (full.length : Int) ∧ full.getD j 0 = (i : Int))) : ¬ rfP full i = true := fun q => by
  unfold rfP at q
  obtain ⟨m, hm, he⟩ := List.mem_iff_getElem.1 (of_decide_eq_true q)
  have hg : full[m]? = some (i : Int) := by rw [List.getElem?_eq_getElem hm, he]
  rcases Nat.lt_trichotomy m j with r | r | r
  · have := k.lo m _ r hg; omega
  · subst r
    refine h ⟨by omega, ?_⟩
    rw [List.getD_eq_getElem?_getD, hg]; rfl
  · have hj : j < full.length := by omega
    have h1 := k.hi j _ (Nat.le_refl _) (List.getElem?_eq_getElem hj)
    have h2 := ha j m r _ _ (List.getElem?_eq_getElem hj) hg
    omega
theorem KP.stT (k : KP full i j) (ha : Asc full) (h : (j : Int) < (full.length : Int) ∧ full.getD j 0 = (i : Int)) : KP full (i + 1) (j + 1) := by
  have hj : j < full.length := by omega
  have hg : full[j]? = some (i : Int) := by
    have := h.2
    rw [List.getD_eq_getElem?_getD, List.getElem?_eq_getElem hj] at this
    rw [List.getElem?_eq_getElem hj, ← this]; rfl
  refine ⟨by omega, fun q z hq hz => ?_, fun q z hq hz => ?_⟩
  · by_cases r : q = j
    · subst r; rw [hg] at hz; cases hz; omega
    · have := k.lo q z (by omega) hz; omega
  · have := ha j q (by omega) _ _ hg hz; omega
theorem KP.stF (k : KP full i j) (ha : Asc full) (h : ¬ ((j : Int) < (full.length : Int) ∧ full.getD j 0 = (i : Int))) : KP full (i + 1) j := by
  have ho := k.out ha h
  refine ⟨k.jl, fun q z hq hz => ?_, fun q z hq hz => ?_⟩
  · have := k.lo q z hq hz; omega
  · have h1 := k.hi q z hq hz
    rcases Int.lt_or_eq_of_le h1 with r | r
    · omega
    · subst r; exact absurd (show rfP full i = true from decide_eq_true (List.mem_of_getElem? hz)) ho
theorem kp_T {α : Type} {p : Nat → Bool} {l : List α} (hi : i < l.length) (h : p i = true) : kpK p 0 (l.take (i + 1)) = kpK p 0 (l.take i) := by
  rw [List.take_add_one, List.getElem?_eq_getElem hi]
  show kpK p 0 (l.take i ++ [l[i]]) = _
  rw [kpK_snoc, List.length_take, show min i l.length = i by omega, Nat.zero_add, if_pos h, List.append_nil]
theorem kp_F {α : Type} {p : Nat → Bool} {l : List α} {y : α} (hy : l[i]? = some y) (h : ¬ p i = true) : kpK p 0 (l.take (i + 1)) = kpK p 0 (l.take i) ++ [y] := by
  have hi := (List.getElem?_eq_some_iff.1 hy).1
  rw [List.take_add_one, hy]
  show kpK p 0 (l.take i ++ [y]) = _
  rw [kpK_snoc, List.length_take, show min i l.length = i by omega, Nat.zero_add, if_neg h]
theorem kp_tl {α : Type} {p : Nat → Bool} {l : List α} : (kpK p 0 (l.take i)).length ≤ i := Nat.le_trans (kpK_len _ _ _) (by rw [List.length_take]; omega)
theorem gD0 {l : List Int} {y : Int} (h : l[j]? = some y) : l.getD j 0 = y := by rw [List.getD_eq_getElem?_getD, h]; rfl
end
end Go.Own.Ml
