import Derived.Test.YtpgkfndbfocibaaPl15k
import Derived.Test.YtpgkfndbfocibaaPl29h
import Derived.Test.YtpgkfndbfocibaaPl29j
import Derived.Test.YtpgkfndbfocibaaPl15j
import Derived.Test.YtpgkfndbfocibaaSepY
/-! what comes from registers in so many steps -/
namespace Go.Own.Gr
open Go Go.Own Go.Own.R Go.Own.G
end Go.Own.Gr

/-! Left never falls, and what lives is never more than what is left -/
namespace Go.Own.Ml
open Go Go.Own Go.Own.R Go.Own.G Go.Own.Gr
section
variable {mx : Int} {rf : Nat → Bool}
end
section
variable {cf n K : Int} {l : List OpC} {full : List Int} {i j : Nat}
end
end Go.Own.Ml
namespace Go.Own.Ml
open Go Go.Own Go.Own.R Go.Own.G Go.Own.Gr
end Go.Own.Ml

/-! questions and refused operations leave the graph as it is -/
namespace Go.Own.Ml
open Go Go.Own Go.Own.R Go.Own.G Go.Own.Gr
section
variable {mx : Int} {g : GA} {c : OpC}
theorem fin_er {g' : GA} {er : Int} (h : (fin g er g').2.e ≠ 0) : (fin g er g').1 = g ∧ (fin g er g').2.t = false ∧ (fin g er g').2.v = 0 := by
  unfold fin at h ⊢
  exact ⟨if_neg h, rfl, rfl⟩
theorem doG_err (h : (doG mx g c).2.e ≠ 0) : (doG mx g c).1 = g ∧ (doG mx g c).2.t = false ∧ (doG mx g c).2.v = 0 := by
  by_cases h1 : c.kd = 1
  · rw [do_1 h1] at h ⊢; exact fin_er h
  by_cases h2 : c.kd = 2
  · rw [do_2 h2] at h ⊢; exact fin_er h
  by_cases h3 : c.kd = 3
  · rw [do_3 h3] at h ⊢; exact fin_er h
  by_cases h4 : c.kd = 4
  · rw [do_4 h4] at h ⊢
    refine ⟨rfl, rfl, ?_⟩
    show rdV g.1 g.2 c.a c.f = 0
    unfold rdV; exact if_pos h
  by_cases h5 : c.kd = 5
  · rw [do_5 h5] at h ⊢; exact fin_er h
  by_cases h6 : c.kd = 6
  · rw [do_6 h6] at h ⊢; exact fin_er h
  by_cases h7 : c.kd = 7
  · rw [do_7 h7] at h ⊢; exact fin_er h
  by_cases h8 : c.kd = 8
  · rw [do_8 h8] at h ⊢
    refine ⟨rfl, ?_, rfl⟩
    show Gr.alB g.1 g.2 c.a c.b = false
    unfold Gr.alB; exact decide_eq_false fun q => h q.1
  by_cases h9 : c.kd = 9
  · rw [do_9 h9] at h ⊢
    exact ⟨rfl, decide_eq_false fun q => h q.1, rfl⟩
  by_cases h10 : c.kd = 10
  · rw [do_10 h10] at h ⊢
    refine ⟨rfl, rfl, ?_⟩
    have h' : shE g.1 g.2 c.a ≠ 0 := h
    show 256 * shP g.1 g.2 c.a + shR g.1 g.2 c.a = 0
    unfold shP shR; rw [if_pos h', if_pos h']; rfl
  · have : doG mx g c = (g, ⟨0, false, 0⟩) := by
      unfold doG; rw [if_neg h1, if_neg h2, if_neg h3, if_neg h4, if_neg h5, if_neg h6, if_neg h7, if_neg h8, if_neg h9, if_neg h10]
    rw [this] at h; exact absurd rfl h
/-- the answer of a graph that is not changed. -/
theorem as_sm {G Gt : GV} (h : gab Gt = gab G) : smG (G.1.2.map ab) G.2.2 (Gt.1.2.map ab) Gt.2.2 = true := sm_same (congrArg Prod.fst h).symm (congrArg Prod.snd h).symm
end
end Go.Own.Ml

/-! a script without its refused operations -/
namespace Go.Own.Ml
open Go Go.Own Go.Own.R Go.Own.G Go.Own.Gr
section
variable {mx : Int}
end
section
variable {cf n K : Int} {l : List OpC} {full : List Int}
theorem fbd_all : ∀ {rf : Nat → Bool} (M : List (GA × AnC)) (k : Nat), (fbd rf k M).2 = 0 → ∀ (i : Nat) (m : GA × AnC), M[i]? = some m → rf (k + i) = true → m.2.e = 5
  | _, [], _, _, i, m, hm, _ => by simp at hm
  | rf, x :: r, k, h, i, m, hm, hr => by
    unfold fbd at h
    by_cases q : rf k = true ∧ x.2.e ≠ 5
    · rw [if_pos q] at h; cases h
    · rw [if_neg q] at h
      cases i with
      | zero =>
        simp at hm; subst hm
        have hr : rf k = true := hr
        exact Classical.byContradiction fun e => q ⟨hr, e⟩
      | succ i => exact fbd_all r (k + 1) h i m (by simpa using hm) (by rw [show k + 1 + i = k + (i + 1) by omega]; exact hr)
theorem pl_inv (h : plF cf n K l full = (0, 0)) : scE cf l = (0, 0) ∧ fcF (-1) full l.length = true ∧ fbd (rfP full) 0 (moP n K l full) = (0, 0) := by
  by_cases q : (scE cf l).2 = 0
  · have h2 := (sc_inv q).2.2.2
    cases hc : fcF (-1) full l.length with
    | true => exact ⟨h2, rfl, by rw [← pl_fb h2 hc]; exact h⟩
    | false => rw [pl_fc h2 hc] at h; cases h
  · rw [pl_sc q] at h; rw [h] at q; exact absurd rfl q
end
end Go.Own.Ml
namespace Go.Own.Ml
open Go Go.Own Go.Own.R Go.Own.G Go.Own.Gr
/-! the refused ones in order -/
structure KP (full : List Int) (i j : Nat) : Prop where
  jl : j ≤ full.length
  lo : ∀ (q : Nat) (z : Int), q < j → full[q]? = some z → z < (i : Int)
  hi : ∀ (q : Nat) (z : Int), j ≤ q → full[q]? = some z → (i : Int) ≤ z
section
variable {full : List Int} {i j : Nat} {c : Nat}
theorem KP.init (h : fcF (-1) full c = true) : KP full 0 0 := ⟨by omega, fun q z hq => by omega, fun q z _ hz => by have := ((fc_asc full (-1) c h).1 q z hz).1; omega⟩
theorem KP.in (h : j < full.length ∧ full.getD j 0 = (i : Int)) : rfP full i = true := by
  unfold rfP
  refine decide_eq_true ?_
  rw [← h.2, List.getD_eq_getElem?_getD, List.getElem?_eq_getElem h.1]
  exact List.getElem_mem h.1
theorem KP.out (k : KP full i j) (ha : Asc full) (h : ¬ ((j : Int) < (full.length : Int) ∧ full.getD j 0 = (i : Int))) : ¬ rfP full i = true := fun q => by
  unfold rfP at q
  obtain ⟨m, hm, he⟩ := List.mem_iff_getElem.1 (of_decide_eq_true q)
  have hg : full[m]? = some (i : Int) := by rw [List.getElem?_eq_getElem hm, he]
  rcases Nat.lt_trichotomy m j with r | r | r
  · have := k.lo m _ r hg; omega
  · subst r
    refine h ⟨by omega, ?_⟩
    rw [List.getD_eq_getElem?_getD, hg]; rfl
  · have hj : j < full.length := by omega
    have h1 := k.hi j _ (Nat.le_refl _) (List.getElem?_eq_getElem hj)
    have h2 := ha j m r _ _ (List.getElem?_eq_getElem hj) hg
    omega
theorem KP.stT (k : KP full i j) (ha : Asc full) (h : (j : Int) < (full.length : Int) ∧ full.getD j 0 = (i : Int)) : KP full (i + 1) (j + 1) := by
  have hj : j < full.length := by omega
  have hg : full[j]? = some (i : Int) := by
    have := h.2
    rw [List.getD_eq_getElem?_getD, List.getElem?_eq_getElem hj] at this
    rw [List.getElem?_eq_getElem hj, ← this]; rfl
  refine ⟨by omega, fun q z hq hz => ?_, fun q z hq hz => ?_⟩
  · by_cases r : q = j
    · subst r; rw [hg] at hz; cases hz; omega
    · have := k.lo q z (by omega) hz; omega
  · have := ha j q (by omega) _ _ hg hz; omega
theorem KP.stF (k : KP full i j) (ha : Asc full) (h : ¬ ((j : Int) < (full.length : Int) ∧ full.getD j 0 = (i : Int))) : KP full (i + 1) j := by
  have ho := k.out ha h
  refine ⟨k.jl, fun q z hq hz => ?_, fun q z hq hz => ?_⟩
  · have := k.lo q z hq hz; omega
  · have h1 := k.hi q z hq hz
    rcases Int.lt_or_eq_of_le h1 with r | r
    · omega
    · subst r; exact absurd (show rfP full i = true from decide_eq_true (List.mem_of_getElem? hz)) ho
theorem gD0 {l : List Int} {y : Int} (h : l[j]? = some y) : l.getD j 0 = y := by rw [List.getD_eq_getElem?_getD, h]; rfl
end
end Go.Own.Ml

/-! the graphs of a script are good; what an answer can be -/
namespace Go.Own.Ml
open Go Go.Own Go.Own.R Go.Own.G Go.Own.Gr
/-- a good graph of a script, i operations on. -/
structure VG (K : Int) (i : Nat) (g : GA) : Prop where
  gg : GG g.1 g.2
  rl : (g.2.length : Int) = K
  ol : g.1.length ≤ i
  sm : SM g.1
section
variable {K mx : Int} {g : GA} {c : OpC} {i : Nat}
theorem VG.ck (h : VG K i g) (ns : List Int) : ckd g.1 g.2 ns = 0 ∨ ckd g.1 g.2 ns = 10 := by
  unfold ckd; rw [if_neg (by rw [ckG_iff.2 h.gg]; decide)]
  split
  · exact .inl rfl
  · exact .inr rfl
theorem VG.pt (h : VG K i g) (ns : List Int) (a f : Int) : ptE g.1 g.2 ns a f = 0 ∨ ptE g.1 g.2 ns a f = 10 := by
  unfold ptE
  rcases h.ck ns with q | q <;> rw [q]
  · rw [if_neg (by decide)]; split
    · exact .inr rfl
    · exact .inl rfl
  · exact .inr (if_pos (by decide))
theorem VG.rw' (h : VG K i g) (ns : List Int) (a f : Int) : rwE g.1 g.2 ns a f = 0 ∨ rwE g.1 g.2 ns a f = 10 := by
  unfold rwE
  rcases h.ck ns with q | q <;> rw [q]
  · rw [if_neg (by decide)]; split
    · exact .inr rfl
    · exact .inl rfl
  · exact .inr (if_pos (by decide))
theorem VG.sh (h : VG K i g) (a : Int) : shE g.1 g.2 a = 0 ∨ shE g.1 g.2 a = 10 := by
  unfold shE
  rcases h.ck [a] with q | q <;> rw [q]
  · rw [if_neg (by decide)]; split
    · exact .inr rfl
    · exact .inl rfl
  · exact .inr (if_pos (by decide))
theorem VG.al (h : VG K i g) (hi : i < 400) (a p q : Int) : alA mx g a p q = 0 ∨ alA mx g a p q = 10 ∨ alA mx g a p q = 11 := by
  have hl := h.ol
  unfold alA
  rcases h.ck [a, a] with r | r <;> rw [r]
  · rw [if_neg (by decide)]
    split
    · exact .inr (.inl rfl)
    · split
      · exact .inr (.inr rfl)
      · unfold alE
        rcases h.ck [a] with r | r <;> rw [r]
        · rw [if_neg (by decide)]
          split
          · exact .inr (.inl rfl)
          · split
            · exact .inr (.inr rfl)
            · rw [if_neg (by omega)]; exact .inl rfl
        · exact .inr (.inl (if_pos (by decide)))
  · exact .inr (.inl (if_pos (by decide)))
/-- the errors that an operation can have. -/
theorem VG.err (h : VG K i g) (hi : i < 400) : (doG mx g c).2.e = 0 ∨ (doG mx g c).2.e = 10 ∨ (doG mx g c).2.e = 11 := by
  have w : ∀ {x : Int}, x = 0 ∨ x = 10 → x = 0 ∨ x = 10 ∨ x = 11 := fun h => by omega
  unfold doG
  split
  · exact h.al hi _ _ _
  · split
    · exact w (h.pt _ _ _)
    · split
      · exact w (h.pt _ _ _)
      · split
        · exact w (h.rw' _ _ _)
        · split
          · exact w (h.rw' _ _ _)
          · split
            · exact w (h.ck _)
            · split
              · exact w (h.ck _)
              · split
                · exact w (h.ck _)
                · split
                  · exact w (h.ck _)
                  · split
                    · exact w (h.sh _)
                    · exact .inl rfl
theorem fin_VG {g' : GA} {er : Int} (h : VG K i g) (h' : er = 0 → VG K (i + 1) g') : VG K (i + 1) (fin g er g').1 := by
  unfold fin; split
  · exact h' (by assumption)
  · exact ⟨h.gg, h.rl, Nat.le_succ_of_le h.ol, h.sm⟩
theorem VG.do (h : VG K i g) : VG K (i + 1) (doG mx g c).1 := by
  have hw := doG_Gw (mx := mx) (g := g) (c := c)
  have hs := doG_SM (mx := mx) (c := c) h.sm
  have up : VG K (i + 1) g := ⟨h.gg, h.rl, Nat.le_succ_of_le h.ol, h.sm⟩
  have hl : ∀ (g' : GA), Gw g g' → g'.1.length ≤ i + 1 := fun g' q => by have := q.2; have := h.ol; omega
  have fw : ∀ {er : Int} {g' : GA}, er = 0 → (fin g er g').1 = g' := fun e => by unfold fin; exact if_pos e
  unfold doG at hw hs ⊢
  split
  · rename_i hk
    rw [if_pos hk] at hw hs
    refine fin_VG h fun er => ?_
    rw [fw er] at hw hs
    have he : alE g.1 g.2 c.a c.p c.q = 0 := by
      unfold alA at er
      split at er
      · exact absurd er (by assumption)
      · split at er
        · cases er
        · split at er
          · cases er
          · exact er
    exact ⟨(nx_alloc he).gg, by simp only; rw [(alE_k he).2.2.2.2.2.1, List.length_set]; exact h.rl, hl _ hw, hs⟩
  · rename_i hk
    rw [if_neg hk] at hw hs
    split
    · rename_i hk
      rw [if_pos hk] at hw hs
      refine fin_VG h fun er => ?_
      rw [fw er] at hw hs
      exact ⟨(nx_load er).gg, by unfold ldR; simp only; rw [if_neg (by omega), List.length_set]; exact h.rl, hl _ hw, hs⟩
    · rename_i hk
      rw [if_neg hk] at hw hs
      split
      · rename_i hk
        rw [if_pos hk] at hw hs
        refine fin_VG h fun er => ?_
        rw [fw er] at hw hs
        exact ⟨(nx_store er).gg, by unfold soR; simp only; rw [if_neg (by omega)]; exact h.rl, hl _ hw, hs⟩
      · rename_i hk
        rw [if_neg hk] at hw hs
        split
        · exact up
        · rename_i hk
          rw [if_neg hk] at hw hs
          split
          · rename_i hk
            rw [if_pos hk] at hw hs
            refine fin_VG h fun er => ?_
            rw [fw er] at hw hs
            exact ⟨(nx_write er).gg, by unfold wrR; simp only; rw [if_neg (by omega)]; exact h.rl, hl _ hw, hs⟩
          · rename_i hk
            rw [if_neg hk] at hw hs
            split
            · rename_i hk
              rw [if_pos hk] at hw hs
              refine fin_VG h fun er => ?_
              rw [fw er] at hw hs
              exact ⟨(nx_move er).gg, by unfold mvR; simp only; rw [if_neg (by omega), List.length_set]; exact h.rl, hl _ hw, hs⟩
            · rename_i hk
              rw [if_neg hk] at hw hs
              split
              · rename_i hk
                rw [if_pos hk] at hw hs
                refine fin_VG h fun er => ?_
                rw [fw er] at hw hs
                exact ⟨(nx_clear er).gg, by unfold clR; simp only; rw [if_neg (by omega), List.length_set]; exact h.rl, hl _ hw, hs⟩
              · split
                · exact up
                · split
                  · exact up
                  · split <;> exact up
theorem VG.stp (h : VG K i g) {rf : Bool} : VG K (i + 1) (stp mx rf g c).1 := by
  unfold Ml.stp; split
  · exact ⟨h.gg, h.rl, Nat.le_succ_of_le h.ol, h.sm⟩
  · exact h.do
theorem VG.zero (h : 1 ≤ K ∧ K ≤ 8) : VG K 0 (g00 K) := by
  have e : nwR K = List.replicate K.toNat 0 := (nw_k (by omega)).2
  unfold g00
  rw [e]
  refine ⟨⟨by simp; omega, by simp; omega, by simp, fun o ho => (by cases ho), fun p hp => ?_⟩, by simp; omega, by simp, SM_nil⟩
  have := List.eq_of_mem_replicate hp
  subst this; simp
end
section
variable {mx K : Int} {rf : Nat → Bool}
theorem mom_VG : ∀ (l : List OpC) (k : Nat) (g : GA) (j : Nat), VG K k g → ∀ a, (gsG mx rf k g l)[j]? = some a → VG K (k + j) a
  | l, k, g, 0, h, a, ha => by unfold gsG at ha; simp at ha; subst ha; exact h
  | [], k, g, j + 1, h, a, ha => by simp [gsG, mom] at ha
  | c :: r, k, g, j + 1, h, a, ha => by
    rw [gsG_cons, List.getElem?_cons_succ] at ha
    have := mom_VG r (k + 1) _ j h.stp a ha
    rwa [show k + 1 + j = k + (j + 1) by omega] at this
/-- the moment at place j: from the graph ahead of it. -/
theorem mom_at : ∀ (l : List OpC) (k : Nat) (g : GA) (j : Nat) (c : OpC), l[j]? = some c → ∃ a, (gsG mx rf k g l)[j]? = some a ∧ (mom mx rf k g l)[j]? = some (stp mx (rf (k + j)) a c)
  | [], _, _, _, _, h => by simp at h
  | c :: r, k, g, 0, d, h => by simp at h; subst h; exact ⟨g, rfl, rfl⟩
  | c :: r, k, g, j + 1, d, h => by
    obtain ⟨a, h1, h2⟩ := mom_at r (k + 1) (stp mx (rf k) g c).1 j d (by simpa using h)
    refine ⟨a, by rw [gsG_cons, List.getElem?_cons_succ]; exact h1, ?_⟩
    rw [mom, List.getElem?_cons_succ, h2, show k + 1 + j = k + (j + 1) by omega]
end
end Go.Own.Ml

/-! the answers of a script are ones that its operations may have -/
namespace Go.Own.Ml
open Go Go.Own Go.Own.R Go.Own.G Go.Own.Gr
section
variable {K mx : Int} {g : GA} {c : OpC} {i : Nat}
theorem VG.sz (h : VG K i g) {o : Ab} (ho : o ∈ g.1) : o.1.length + o.2.length ≤ 31 := by
  have h1 := (h.gg.obj o ho).1
  have h2 := h.sm o ho
  unfold sz2 at h1
  have : IntKind.i64.wrap ((o.1.length : Int) + (o.2.length : Int)) = (o.1.length : Int) + (o.2.length : Int) := wrap_i64 (by omega) (by omega)
  rw [this] at h1; omega
theorem VG.shape (h : VG K i g) (a : Int) : 0 ≤ shP g.1 g.2 a ∧ 0 ≤ shR g.1 g.2 a ∧ shP g.1 g.2 a + shR g.1 g.2 a ≤ 31 := by
  unfold shP shR
  by_cases q : shE g.1 g.2 a ≠ 0
  · rw [if_pos q, if_pos q]; decide
  · rw [if_neg q, if_neg q]
    have : (Gr.ob g.1 g.2 a).1.length + (Gr.ob g.1 g.2 a).2.length ≤ 31 := by
      unfold Gr.ob
      rcases Nat.lt_or_ge (rg g.2 a - 1).toNat g.1.length with r | r
      · rw [List.getD_eq_getElem?_getD, List.getElem?_eq_getElem r]; exact h.sz (List.getElem_mem r)
      · rw [List.getD_eq_getElem?_getD, List.getElem?_eq_none r]; decide
    omega
/-- what doG answers fits its kind. -/
theorem VG.fit (h : VG K i g) : ¬ anX c.kd (doG mx g c).2.e (doG mx g c).2.t (doG mx g c).2.v := by
  have fi : ∀ {er : Int} {g' : GA}, ¬ anX c.kd (fin g er g').2.e (fin g er g').2.t (fin g er g').2.v := by
    intro er g'
    unfold fin anX
    simp
  by_cases he : (doG mx g c).2.e ≠ 0
  · obtain ⟨_, h2, h3⟩ := doG_err he
    rw [h2, h3]; unfold anX; simp
  have he : (doG mx g c).2.e = 0 := by omega
  by_cases h1 : c.kd = 1
  · rw [do_1 h1]; exact fi
  by_cases h2 : c.kd = 2
  · rw [do_2 h2]; exact fi
  by_cases h3 : c.kd = 3
  · rw [do_3 h3]; exact fi
  by_cases h4 : c.kd = 4
  · rw [he]
    have ht : (doG mx g c).2.t = false := by rw [do_4 h4]
    rw [ht]; unfold anX; simp [h4]
  by_cases h5 : c.kd = 5
  · rw [do_5 h5]; exact fi
  by_cases h6 : c.kd = 6
  · rw [do_6 h6]; exact fi
  by_cases h7 : c.kd = 7
  · rw [do_7 h7]; exact fi
  by_cases h8 : c.kd = 8
  · rw [he]
    have hv : (doG mx g c).2.v = 0 := by rw [do_8 h8]
    rw [hv]; unfold anX; simp [h8]
  by_cases h9 : c.kd = 9
  · rw [he]
    have hv : (doG mx g c).2.v = 0 := by rw [do_9 h9]
    rw [hv]; unfold anX; simp [h9]
  by_cases h10 : c.kd = 10
  · rw [he]
    have ht : (doG mx g c).2.t = false := by rw [do_10 h10]
    have hv : (doG mx g c).2.v = 256 * shP g.1 g.2 c.a + shR g.1 g.2 c.a := by rw [do_10 h10]
    have hs := h.shape c.a
    rw [ht, hv]
    unfold anX
    rintro (⟨q, _⟩ | ⟨_, q⟩)
    · cases q
    · exact q ⟨rfl, .inr ⟨h10, by omega, by omega⟩⟩
  · have : doG mx g c = (g, ⟨0, false, 0⟩) := by
      unfold doG; rw [if_neg h1, if_neg h2, if_neg h3, if_neg h4, if_neg h5, if_neg h6, if_neg h7, if_neg h8, if_neg h9, if_neg h10]
    rw [this]; unfold anX; simp
theorem VG.an (h : VG K i g) (hi : i < 400) (ho : opE c = 0) {rf : Bool} : anE c (Ml.stp mx rf g c).2 = 0 := by
  refine an_ok (by omega) ?_ ?_
  · unfold Ml.stp; split
    · simp
    · have := h.err (mx := mx) (c := c) hi; omega
  · unfold Ml.stp; split
    · unfold anX; simp
    · exact h.fit
/-- refused: what the moment answers, and what the step itself would. -/
theorem VG.ref (h : VG K i g) (hi : i < 400) (h5 : (Ml.stp mx true g c).2.e = 5) : (Ml.stp mx true g c) = (g, ⟨5, false, 0⟩) ∧ (doG mx g c).2 = ⟨0, false, 0⟩ := by
  unfold Ml.stp at h5 ⊢
  split
  · rename_i q
    refine ⟨rfl, ?_⟩
    have e := q.2.2
    rw [do_1 q.2.1] at e ⊢
    unfold fin at e ⊢
    simp only at e ⊢; rw [e]
  · rename_i q
    rw [if_neg q] at h5
    have := h.err (mx := mx) (c := c) hi; omega
theorem VG.not5 (h : VG K i g) (hi : i < 400) : (Ml.stp mx false g c).2.e ≠ 5 := by
  rw [stp_0 (by simp)]
  have := h.err (mx := mx) (c := c) hi; omega
end
end Go.Own.Ml

/-! Judge and the moments' own answers -/
namespace Go.Own.Ml
open Go Go.Own Go.Own.R Go.Own.G Go.Own.Gr
section
variable {cf n K : Int} {l : List OpC} {full : List Int}
/-- a script that plays: what is known of each place. -/
theorem pl_at (h : plF cf n K l full = (0, 0)) (hcf : cf = 0 → 1 ≤ K ∧ K ≤ 8) {j : Nat} {c : OpC} (hc : l[j]? = some c) :
    ∃ a, (plG cf n K l full)[j]? = some a ∧ VG K j a ∧ opE c = 0 ∧ j < 400 ∧ (plA cf n K l full)[j]? = some (stp n (rfP full j) a c).2 ∧ (plG cf n K l full)[j + 1]? = some (stp n (rfP full j) a c).1 ∧ (rfP full j = true → (stp n (rfP full j) a c).2.e = 5) := by
  obtain ⟨h1, h2, h3⟩ := pl_inv h
  obtain ⟨q1, q2, q3, _⟩ := sc_inv (cf := cf) (l := l) (by rw [h1])
  obtain ⟨a, ha, hm⟩ := mom_at (mx := n) (rf := rfP full) l 0 (g00 K) j c hc
  have hj := (List.getElem?_eq_some_iff.1 hc).1
  rw [Nat.zero_add] at hm
  have e1 := plG_gs h
  have e2 := (pl_k (cf := cf) (n := n) (K := K) (l := l) (full := full) (by rw [h])).2
  have hv := mom_VG (mx := n) (rf := rfP full) l 0 (g00 K) j (VG.zero (hcf q1)) a ha
  rw [Nat.zero_add] at hv
  refine ⟨a, by rw [e1]; exact ha, hv, q3 c (List.mem_of_getElem? hc), by omega, ?_, ?_, fun hr => ?_⟩
  · rw [e2]; unfold moP; rw [List.getElem?_map, hm]; rfl
  · rw [e1]; unfold gsG; rw [List.getElem?_cons_succ, List.getElem?_map, hm]; rfl
  · exact fbd_all (rf := rfP full) (moP n K l full) 0 (by rw [h3]) j _ hm (by rw [Nat.zero_add]; exact hr)
/-- refused or not: the answer tells. -/
theorem pl_rf (h : plF cf n K l full = (0, 0)) (hcf : cf = 0 → 1 ≤ K ∧ K ≤ 8) {j : Nat} (hj : j < l.length) : rfJ (plA cf n K l full) j = rfP full j := by
  obtain ⟨a, _, hv, _, h4, hA, _, h5⟩ := pl_at h hcf (List.getElem?_eq_getElem hj)
  unfold rfJ
  rw [List.getD_eq_getElem?_getD, hA]
  cases hr : rfP full j with
  | true => rw [hr] at h5; exact decide_eq_true (h5 rfl)
  | false => rw [Option.getD_some]; exact decide_eq_false (hv.not5 h4)
theorem mom_congr {mx : Int} {rf rf' : Nat → Bool} : ∀ (l : List OpC) (k : Nat) (g : GA), (∀ j, j < l.length → rf (k + j) = rf' (k + j)) → mom mx rf k g l = mom mx rf' k g l
  | [], _, _, _ => rfl
  | c :: r, k, g, h => by
    have h0 := h 0 (by simp)
    have e : rf k = rf' k := h0
    have ih := mom_congr (mx := mx) (rf := rf) (rf' := rf') r (k + 1) (stp mx (rf' k) g c).1 fun j hj => by
      have q := h (j + 1) (by simp; omega)
      have e2 : k + 1 + j = k + (j + 1) := by omega
      rw [e2]; exact q
    unfold mom
    rw [e, ih]
theorem moJ_P (h : plF cf n K l full = (0, 0)) (hcf : cf = 0 → 1 ≤ K ∧ K ≤ 8) : moJ n K l (plA cf n K l full) = moP n K l full :=
  mom_congr l 0 _ fun j hj => by rw [Nat.zero_add]; exact pl_rf h hcf hj
theorem ckA_0 : ∀ (l : List OpC) (s : List AnC) (k : Nat), (∀ (j : Nat) (c : OpC) (a : AnC), l[j]? = some c → s[j]? = some a → anE c a = 0) → ckA k l s = (0, 0)
  | [], _, _, _ => rfl
  | _ :: _, [], _, _ => rfl
  | c :: r, a :: s, k, h => by
    rw [ckA, if_neg (by rw [h 0 c a rfl rfl]; decide)]
    exact ckA_0 r s (k + 1) fun j c' a' h1 h2 => h (j + 1) c' a' (by simpa using h1) (by simpa using h2)
theorem fbJ_0 {ans : List AnC} : ∀ (M : List (GA × AnC)) (k : Nat), (∀ (j : Nat) (m : GA × AnC), M[j]? = some m → ans.getD (k + j) (AnC.mk 0 false 0) = m.2) → fbJ ans k M = (0, 0)
  | [], _, _ => rfl
  | m :: r, k, h => by
    rw [fbJ, if_neg (fun q => q (h 0 m rfl))]
    exact fbJ_0 r (k + 1) fun j x hx => by have := h (j + 1) x (by simpa using hx); rwa [show k + 1 + j = k + (j + 1) by omega]
theorem pl_anE (h : plF cf n K l full = (0, 0)) (hcf : cf = 0 → 1 ≤ K ∧ K ≤ 8) {j : Nat} {c : OpC} {a : AnC} (hc : l[j]? = some c) (ha : (plA cf n K l full)[j]? = some a) : anE c a = 0 := by
  obtain ⟨g, _, hv, ho, h4, hA, _, _⟩ := pl_at h hcf hc
  rw [hA] at ha; cases ha
  exact hv.an h4 ho
/-- THE LAW: the moments' own answers stand, and those refused are the ones that were. -/
theorem jd_own (h : plF cf n K l full = (0, 0)) (hcf : cf = 0 → 1 ≤ K ∧ K ≤ 8) : jdF cf n K l (plA cf n K l full) = (0, 0) := by
  obtain ⟨h1, h2, h3⟩ := pl_inv h
  rw [jd_fb h1 (plA_len h) (ckA_0 _ _ 0 fun j c a hc ha => pl_anE h hcf hc ha), moJ_P h hcf]
  refine fbJ_0 _ 0 fun j m hm => ?_
  rw [(pl_k (cf := cf) (n := n) (K := K) (l := l) (full := full) (by rw [h])).2, List.getD_eq_getElem?_getD, Nat.zero_add, List.getElem?_map, hm]; rfl
end
end Go.Own.Ml

/-! Judge: the refused ones; an answer that is wrong -/
namespace Go.Own.Ml
open Go Go.Own Go.Own.R Go.Own.G Go.Own.Gr
theorem reK_mem : ∀ (M : List (GA × AnC)) (k : Nat) (z : Int), z ∈ reK k M ↔ ∃ (j : Nat) (m : GA × AnC), M[j]? = some m ∧ m.2.e = 5 ∧ z = ((k + j : Nat) : Int)
  | [], _, z => by simp [reK]
  | m :: r, k, z => by
    have ih := reK_mem r (k + 1) z
    unfold reK
    constructor
    · intro h
      by_cases q : m.2.e = 5
      · rw [if_pos q] at h
        rcases List.mem_cons.1 h with e | h
        · exact ⟨0, m, rfl, q, e⟩
        · obtain ⟨j, x, h1, h2, h3⟩ := ih.1 h
          exact ⟨j + 1, x, by simpa using h1, h2, by rw [h3]; congr 1; omega⟩
      · rw [if_neg q] at h
        obtain ⟨j, x, h1, h2, h3⟩ := ih.1 h
        exact ⟨j + 1, x, by simpa using h1, h2, by rw [h3]; congr 1; omega⟩
    · rintro ⟨j, x, h1, h2, h3⟩
      cases j with
      | zero =>
        simp at h1; subst h1
        rw [if_pos h2, h3]; exact List.mem_cons_self
      | succ j =>
        have hm : z ∈ reK (k + 1) r := ih.2 ⟨j, x, by simpa using h1, h2, by rw [h3]; congr 1; omega⟩
        split
        · exact List.mem_cons_of_mem _ hm
        · exact hm
theorem reK_asc : ∀ (M : List (GA × AnC)) (k : Nat), (reK k M).Pairwise (· < ·)
  | [], _ => List.Pairwise.nil
  | m :: r, k => by
    unfold reK; split
    · refine List.Pairwise.cons (fun z hz => ?_) (reK_asc r (k + 1))
      obtain ⟨j, _, _, _, h3⟩ := (reK_mem r (k + 1) z).1 hz
      omega
    · exact reK_asc r (k + 1)
theorem asc_pw : ∀ {l : List Int}, Asc l → l.Pairwise (· < ·)
  | [], _ => List.Pairwise.nil
  | x :: r, h => List.Pairwise.cons (fun z hz => by
      obtain ⟨j, hj⟩ := List.mem_iff_getElem?.1 hz
      exact h 0 (j + 1) (by omega) x z rfl (by simpa using hj)) (asc_pw fun i j hij a b ha hb => h (i + 1) (j + 1) (by omega) a b (by simpa using ha) (by simpa using hb))
section
variable {cf n K : Int} {l : List OpC} {full : List Int}
theorem jd_full (h : plF cf n K l full = (0, 0)) (hcf : cf = 0 → 1 ≤ K ∧ K ≤ 8) : jdL cf n K l (plA cf n K l full) = full := by
  unfold jdL
  rw [jd_own h hcf, if_neg (by decide), moJ_P h hcf]
  obtain ⟨hf1, hf2⟩ := pl_full h
  obtain ⟨hr, ha⟩ := fc_asc full (-1) l.length hf2
  refine asc_unique (reK_asc _ _) (asc_pw ha) fun z => ?_
  rw [reK_mem]
  have eA := (pl_k (cf := cf) (n := n) (K := K) (l := l) (full := full) (by rw [h])).2
  have key : ∀ (j : Nat) (m : GA × AnC), (moP n K l full)[j]? = some m → (m.2.e = 5 ↔ ((j : Nat) : Int) ∈ full) := fun j m hm => by
    have hj : j < l.length := by
      have := (List.getElem?_eq_some_iff.1 hm).1
      unfold moP at this; rwa [mom_len] at this
    have q := pl_rf h hcf hj
    unfold rfJ rfP at q
    rw [eA, List.getD_eq_getElem?_getD, List.getElem?_map, hm] at q
    exact decide_eq_decide.1 q
  constructor
  · rintro ⟨j, m, h1, h2, h3⟩
    rw [h3, Nat.zero_add]; exact (key j m h1).1 h2
  · intro hz
    obtain ⟨i, hi⟩ := List.mem_iff_getElem?.1 hz
    have hb := hr i z hi
    have hj : z.toNat < (moP n K l full).length := by unfold moP; rw [mom_len]; omega
    refine ⟨z.toNat, _, List.getElem?_eq_getElem hj, (key _ _ (List.getElem?_eq_getElem hj)).2 (by rw [show ((z.toNat : Nat) : Int) = z by omega]; exact hz), by omega⟩
theorem mom_pre {mx : Int} {rf rf' : Nat → Bool} {d : Nat} : ∀ (l : List OpC) (k : Nat) (g : GA), (∀ j, j < d → rf (k + j) = rf' (k + j)) → (∀ j, j < d → (mom mx rf k g l)[j]? = (mom mx rf' k g l)[j]?) ∧ ∀ j, j ≤ d → (gsG mx rf k g l)[j]? = (gsG mx rf' k g l)[j]? := by
  induction d with
  | zero => intro l k g _; exact ⟨fun j hj => by omega, fun j hj => by rw [show j = 0 by omega]; rfl⟩
  | succ d ih =>
    intro l k g h
    cases l with
    | nil => exact ⟨fun _ _ => rfl, fun _ _ => rfl⟩
    | cons c r =>
      have e : rf k = rf' k := h 0 (by omega)
      obtain ⟨i1, i2⟩ := ih r (k + 1) (stp mx (rf' k) g c).1 fun j hj => by
        have q := h (j + 1) (by omega)
        have e2 : k + 1 + j = k + (j + 1) := by omega
        rw [e2]; exact q
      refine ⟨fun j hj => ?_, fun j hj => ?_⟩
      · unfold mom; rw [e]
        cases j with
        | zero => rfl
        | succ j => rw [List.getElem?_cons_succ, List.getElem?_cons_succ]; exact i1 j (by omega)
      · rw [gsG_cons, gsG_cons, e]
        cases j with
        | zero => rfl
        | succ j => rw [List.getElem?_cons_succ, List.getElem?_cons_succ]; exact i2 j (by omega)
theorem fbJ_at {ans : List AnC} {m : GA × AnC} : ∀ (M : List (GA × AnC)) (k d : Nat), (∀ (j : Nat) (x : GA × AnC), j < d → M[j]? = some x → ans.getD (k + j) (AnC.mk 0 false 0) = x.2) → M[d]? = some m → ans.getD (k + d) (AnC.mk 0 false 0) ≠ m.2 → fbJ ans k M = (((k + d : Nat) : Int), 4)
  | [], _, _, _, hm, _ => by simp at hm
  | x :: r, k, 0, h, hm, hn => by
    simp at hm; subst hm
    rw [fbJ]; exact if_pos hn
  | x :: r, k, d + 1, h, hm, hn => by
    rw [fbJ, if_neg (fun q => q (h 0 x (by omega) rfl))]
    have e3 : ∀ j : Nat, k + 1 + j = k + (j + 1) := fun j => by omega
    rw [fbJ_at r (k + 1) d (fun j y hj hy => by rw [e3]; exact h (j + 1) y (by omega) (by simpa using hy)) (by simpa using hm) (by rw [e3]; exact hn), e3]
theorem jd_wrong (h : plF cf n K l full = (0, 0)) (hcf : cf = 0 → 1 ≤ K ∧ K ≤ 8) {d : Nat} (hd : d < l.length) : jdF cf n K l ((plA cf n K l full).set d ⟨998, false, 0⟩) = ((d : Int), 4) := by
  obtain ⟨h1, h2, h3⟩ := pl_inv h
  have eA := (pl_k (cf := cf) (n := n) (K := K) (l := l) (full := full) (by rw [h])).2
  have hl := plA_len h
  have hset : ∀ j, j ≠ d → ((plA cf n K l full).set d ⟨998, false, 0⟩).getD j (AnC.mk 0 false 0) = (plA cf n K l full).getD j (AnC.mk 0 false 0) := fun j hj => by
    rw [List.getD_eq_getElem?_getD, List.getD_eq_getElem?_getD, List.getElem?_set_ne (fun q => hj q.symm)]
  have hsd : ((plA cf n K l full).set d ⟨998, false, 0⟩).getD d (AnC.mk 0 false 0) = ⟨998, false, 0⟩ := by
    rw [List.getD_eq_getElem?_getD, List.getElem?_set_self (by omega)]; rfl
  have hck : ckA 0 l ((plA cf n K l full).set d ⟨998, false, 0⟩) = (0, 0) := ckA_0 _ _ 0 fun j c a hc ha => by
    by_cases e : j = d
    · subst e
      rw [List.getElem?_set_self (by omega)] at ha; cases ha
      obtain ⟨_, _, _, ho, _⟩ := pl_at h hcf hc
      exact an_ok (by omega) (by simp) (by unfold anX; simp)
    · rw [List.getElem?_set_ne (fun q => e q.symm)] at ha
      exact pl_anE h hcf hc ha
  rw [jd_fb h1 (by rw [List.length_set]; exact hl) hck]
  have hrf : ∀ j, j < d → rfJ ((plA cf n K l full).set d ⟨998, false, 0⟩) (0 + j) = rfP full (0 + j) := fun j hj => by
    rw [Nat.zero_add]
    have := pl_rf h hcf (show j < l.length by omega)
    unfold rfJ at this ⊢
    rw [hset j (by omega)]; exact this
  obtain ⟨p1, p2⟩ := mom_pre (mx := n) (d := d) l 0 (g00 K) hrf
  obtain ⟨a, ha, hm⟩ := mom_at (mx := n) (rf := rfJ ((plA cf n K l full).set d ⟨998, false, 0⟩)) l 0 (g00 K) d _ (List.getElem?_eq_getElem hd)
  have hv : VG K d a := by
    have := mom_VG (mx := n) (rf := rfJ ((plA cf n K l full).set d ⟨998, false, 0⟩)) l 0 (g00 K) d (VG.zero (hcf (sc_inv (cf := cf) (l := l) (by rw [h1])).1)) a ha
    rwa [Nat.zero_add] at this
  have hld := pl_len h
  have := fbJ_at (ans := (plA cf n K l full).set d ⟨998, false, 0⟩) (moJ n K l ((plA cf n K l full).set d ⟨998, false, 0⟩)) 0 d (fun j x hj hx => by
    rw [Nat.zero_add, hset j (by omega), eA, List.getD_eq_getElem?_getD, List.getElem?_map]
    have q : (moP n K l full)[j]? = some x := (p1 j hj).symm.trans hx
    rw [q]; rfl) hm (by
    rw [Nat.zero_add, hsd]
    intro q
    have e := congrArg AnC.e q
    have hr : rfJ ((plA cf n K l full).set d ⟨998, false, 0⟩) d = false := by unfold rfJ; rw [hsd]; rfl
    rw [hr, stp_0 (by simp)] at e
    have := hv.err (mx := n) (c := l[d]) (by omega)
    have e' : (998 : Int) = (doG n a l[d]).2.e := e
    omega)
  rw [this, Nat.zero_add]
end
end Go.Own.Ml
namespace Go.Own.Ml
open Go Go.Own Go.Own.R Go.Own.G Go.Own.Gr
section
variable {cf n K : Int} {l : List OpC} {full : List Int}
/-- step by step: what Step says at place i, and what the moment says. -/
theorem sw_at (h : plF cf n K l full = (0, 0)) (hcf : cf = 0 → 1 ≤ K ∧ K ≤ 8) {i : Nat} {c : OpC} {g : GA} (hc : l[i]? = some c) (hg : (plG cf n K l full)[i]? = some g) :
    SM g.1 ∧ stE cf K g c = 0 ∧ (rfP full i = true → (plA cf n K l full)[i]? = some ⟨5, false, 0⟩ ∧ stA cf n K g c = ⟨0, false, 0⟩ ∧ (plG cf n K l full)[i + 1]? = some g) ∧
      (¬ rfP full i = true → (plA cf n K l full)[i]? = some (stA cf n K g c) ∧ (plG cf n K l full)[i + 1]? = some (stG cf n K g c)) := by
  obtain ⟨a, ha, hv, ho, h4, hA, hG, h5⟩ := pl_at h hcf hc
  rw [hg] at ha; cases ha
  obtain ⟨h1, _, _⟩ := pl_inv h
  have q1 := (sc_inv (cf := cf) (l := l) (by rw [h1])).1
  have e0 : stE cf K g c = 0 := by
    unfold stE; rw [if_neg (by omega), if_neg (by rw [ckG_iff.2 hv.gg]; decide), if_neg (by rw [hv.rl]; simp)]; exact ho
  obtain ⟨s1, s2⟩ := st_k (n := n) e0
  refine ⟨hv.sm, e0, fun hr => ?_, fun hr => ?_⟩
  · rw [hr] at hA hG h5
    obtain ⟨r1, r2⟩ := hv.ref h4 (h5 rfl)
    rw [r1] at hA hG
    exact ⟨hA, by rw [s2]; exact r2, hG⟩
  · have hr : rfP full i = false := by simpa using hr
    rw [hr, stp_0 (by simp)] at hA hG
    exact ⟨by rw [hA, s2], by rw [hG, s1]⟩
end
end Go.Own.Ml
namespace Go.Own.Ml
theorem pl_cf {cf n K : Int} {l : List OpC} {full : List Int} (h : plF cf n K l full = (0, 0)) : cf = 0 := (sc_inv (cf := cf) (l := l) (by rw [(pl_inv h).1])).1
end Go.Own.Ml
namespace Go.Own.Ml
open Go Go.Own Go.Own.R Go.Own.G Go.Own.Gr
section
variable {cf n K : Int} {l : List OpC} {full : List Int}
/-- the first graph. -/
theorem sw_0 {G : GV} (h : plF cf n K l full = (0, 0)) (hg : gab G = ([], nwR K)) : (plG cf n K l full)[0]? = some (gab G) := by
  rw [plG_gs h, hg]; rfl
end
end Go.Own.Ml

/-! the words of a script's graphs and answers -/
namespace Go.Own.Ml
open Go Go.Own Go.Own.R Go.Own.G Go.Own.Gr
def U64 (z : Int) : Prop := 0 ≤ z ∧ z ≤ 18446744073709551615
def WU (L : List Ab) : Prop := ∀ o ∈ L, ∀ z ∈ o.2, U64 z
theorem WU_nil : WU [] := fun _ h => (by cases h)
theorem WU_set {L : List Ab} {o : Ab} {i : Nat} (h : WU L) (ho : ∀ z ∈ o.2, U64 z) : WU (L.set i o) := fun x hx => by
  rcases List.mem_or_eq_of_mem_set hx with q | q
  · exact h x q
  · subst q; exact ho
theorem WU_ob {L : List Ab} {rs : List Int} {a : Int} (h : WU L) : ∀ z ∈ (Gr.ob L rs a).2, U64 z := by
  unfold Gr.ob
  rcases Nat.lt_or_ge (rg rs a - 1).toNat L.length with q | q
  · rw [List.getD_eq_getElem?_getD, List.getElem?_eq_getElem q]; exact h _ (List.getElem_mem q)
  · rw [List.getD_eq_getElem?_getD, List.getElem?_eq_none q]; intro z hz; cases hz
theorem fin_WU {g g' : GA} {er : Int} (h : WU g.1) (h' : er = 0 → WU g'.1) : WU (fin g er g').1.1 := by
  unfold fin; split
  · exact h' (by assumption)
  · exact h
theorem doG_WU {mx : Int} {g : GA} {c : OpC} (h : WU g.1) (hu : U64 c.u) : WU (doG mx g c).1.1 := by
  have al : WU (fin g (alA mx g c.a c.p c.q) (alO g.1 g.2 c.a c.p c.q, alR g.1 g.2 c.a c.p c.q)).1.1 := fin_WU h fun e => by
    show WU (alO g.1 g.2 c.a c.p c.q)
    unfold alO; split
    · exact WU_nil
    · intro o ho z hz
      rcases List.mem_append.1 ho with q | q
      · exact h o q z hz
      · rw [List.mem_singleton] at q; subst q
        have := List.eq_of_mem_replicate hz
        subst this; exact ⟨by decide, by decide⟩
  have so : WU (soO g.1 g.2 c.a c.f c.b) := by
    unfold soO; split
    · exact WU_nil
    · exact WU_set h (WU_ob h)
  have wr : WU (wrO g.1 g.2 c.a c.f c.u) := by
    unfold wrO; split
    · exact WU_nil
    · refine WU_set h fun z hz => ?_
      rcases List.mem_or_eq_of_mem_set hz with q | q
      · exact WU_ob h z q
      · subst q; exact hu
  have ld : WU (ldO g.1 g.2 c.a c.b c.f) := by
    unfold ldO; split
    · exact WU_nil
    · exact h
  have kp : ∀ ns, WU (kpO g.1 g.2 ns) := fun ns => by
    unfold kpO; split
    · exact WU_nil
    · exact h
  unfold doG
  split
  · exact al
  · split
    · exact fin_WU h fun _ => ld
    · split
      · exact fin_WU h fun _ => so
      · split
        · exact h
        · split
          · exact fin_WU h fun _ => wr
          · split
            · exact fin_WU h fun _ => kp _
            · split
              · exact fin_WU h fun _ => kp _
              · split
                · exact h
                · split
                  · exact h
                  · split <;> exact h
theorem stp_WU {mx : Int} {rf : Bool} {g : GA} {c : OpC} (h : WU g.1) (hu : U64 c.u) : WU (stp mx rf g c).1.1 := by
  unfold stp; split
  · exact h
  · exact doG_WU h hu
theorem z64 : U64 0 := ⟨by decide, by decide⟩
/-- an answer's word. -/
theorem do_U {K mx : Int} {g : GA} {c : OpC} {i : Nat} (hv : VG K i g) (h : WU g.1) : U64 (doG mx g c).2.v := by
  unfold doG
  split
  · exact z64
  · split
    · exact z64
    · split
      · exact z64
      · split
        · show U64 (rdV g.1 g.2 c.a c.f)
          unfold rdV; split
          · exact z64
          · rw [List.getD_eq_getElem?_getD]
            cases hq : (Gr.ob g.1 g.2 c.a).2[c.f.toNat]? with
            | none => exact z64
            | some z => exact WU_ob h z (List.mem_of_getElem? hq)
        · split
          · exact z64
          · split
            · exact z64
            · split
              · exact z64
              · split
                · exact z64
                · split
                  · exact z64
                  · split
                    · have := hv.shape c.a
                      show U64 (256 * shP g.1 g.2 c.a + shR g.1 g.2 c.a)
                      unfold U64; omega
                    · exact z64
theorem mom_U {mx K : Int} {rf : Nat → Bool} : ∀ (l : List OpC) (k : Nat) (g : GA), VG K k g → WU g.1 → (∀ c ∈ l, U64 c.u) → ∀ m ∈ mom mx rf k g l, U64 m.2.v
  | [], _, _, _, _, _, m, hm => by cases hm
  | c :: r, k, g, hv, h, hu, m, hm => by
    unfold mom at hm
    rcases List.mem_cons.1 hm with rfl | hm
    · unfold stp; split
      · exact z64
      · exact do_U hv h
    · exact mom_U r (k + 1) _ hv.stp (stp_WU h (hu c List.mem_cons_self)) (fun x hx => hu x (List.mem_cons_of_mem _ hx)) m hm
theorem plA_U {cf n K : Int} {l : List OpC} {full : List Int} (h : plF cf n K l full = (0, 0)) (hcf : cf = 0 → 1 ≤ K ∧ K ≤ 8) (hu : ∀ c ∈ l, U64 c.u) : ∀ x ∈ plA cf n K l full, 0 ≤ x.v ∧ x.v ≤ 18446744073709551615 := fun x hx => by
  rw [(pl_k (by rw [h])).2] at hx
  obtain ⟨m, hm, rfl⟩ := List.mem_map.1 hx
  exact mom_U l 0 _ (VG.zero (hcf (pl_cf h))) WU_nil hu m hm
end Go.Own.Ml
namespace Go.Own.Ml
open Go Go.Own Go.Own.R Go.Own.G Go.Own.Gr
section
variable {cf n K : Int} {l : List OpC} {full : List Int} {i d : Nat} {L : List AnC} {a : AnC}
/-- behind the last step. -/
theorem sw_end {G Gc : GV} (h : plF cf n K l full = (0, 0)) (hi : i = l.length) (hc : (plG cf n K l full)[i]? = some (gab Gc)) (hg : gab G = plL cf n K l full) : gab Gc = gab G := by
  rw [hg]
  unfold plL
  rw [plG_len h, Nat.add_sub_cancel, ← hi, List.getD_eq_getElem?_getD, hc]; rfl
theorem set_U (h : ∀ x ∈ L, 0 ≤ x.v ∧ x.v ≤ 18446744073709551615) (ha : 0 ≤ a.v ∧ a.v ≤ 18446744073709551615) : ∀ x ∈ L.set d a, 0 ≤ x.v ∧ x.v ≤ 18446744073709551615 := fun x hx => by
  rcases List.mem_or_eq_of_mem_set hx with q | q
  · exact h x q
  · subst q; exact ha
end
end Go.Own.Ml

/-! a remainder, and a row that is stored -/
namespace Go.Own.Ml
open Go Go.Own Go.Own.R Go.Own.G Go.Own.Gr
theorem wrap_mod {a b : Int} (hb : 0 < b) (hb2 : b ≤ 9223372036854775807) : IntKind.i64.wrap (a % b) = a % b := by
  have h1 := Int.emod_nonneg a (show b ≠ 0 by omega)
  have h2 := Int.emod_lt_of_pos a hb
  exact wrap_i64 (by omega) (by omega)
theorem ro_set {α : Type} {fn : α → List Value} {s : Nat} {v : Value} {xs : List α} {j : Nat} {y : α} (hs : ∀ a, (fn a).length = s) (hj : j < xs.length) :
    ow s xs.length v ((xs.flatMap fn).take (j * s) ++ fn y ++ (xs.flatMap fn).drop (j * s + s)) = ro s fn v (xs.set j y) := by
  unfold ro
  rw [List.length_set, List.set_eq_take_append_cons_drop, if_pos hj, List.flatMap_append, List.flatMap_cons, ← flat_take hs, ← flat_drop hs, Nat.succ_mul, List.append_assoc]
end Go.Own.Ml
