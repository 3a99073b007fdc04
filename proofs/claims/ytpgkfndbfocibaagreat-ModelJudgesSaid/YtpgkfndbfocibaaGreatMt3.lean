import Derived.Test.YtpgkfndbfocibaaGreatPl15k
import Derived.Test.YtpgkfndbfocibaaGreatPl29h
import Derived.Test.YtpgkfndbfocibaaGreatPl29j
import Derived.Test.YtpgkfndbfocibaaGreatPl15j
import Derived.Test.YtpgkfndbfocibaaGreatProg
import Derived.Test.YtpgkfndbfocibaaGreatSqL
import Derived.Test.YtpgkfndbfocibaaGreatMs8
import Derived.Test.YtpgkfndbfocibaaGreatSep29g
import Derived.Test.YtpgkfndbfocibaaGreatMs15
namespace Go.Own.Gr
open Go Go.Own Go.Own.R Go.Own.G
end Go.Own.Gr

namespace Go.Own.Ml
open Go Go.Own Go.Own.R Go.Own.G Go.Own.Gr
section
variable {mx : Int} {rf : Nat → Bool}
end
section
variable {cf n K : Int} {l : List OpC} {full : List Int} {i j : Nat}
end
end Go.Own.Ml
namespace Go.Own.Ml
open Go Go.Own Go.Own.R Go.Own.G Go.Own.Gr
end Go.Own.Ml

namespace Go.Own.Ml
open Go Go.Own Go.Own.R Go.Own.G Go.Own.Gr
section
variable {mx : Int} {g : GA} {c : OpC}
theorem fin_er {g' : GA} {er : Int} (h : (fin g er g').2.e ≠ 0) : (fin g er g').1 = g ∧ (fin g er g').2.t = false ∧ (fin g er g').2.v = 0 := by
 unfold fin at h ⊢
 exact ⟨if_neg h, rfl, rfl⟩
theorem doG_err (h : (doG mx g c).2.e ≠ 0) : (doG mx g c).1 = g ∧ (doG mx g c).2.t = false ∧ (doG mx g c).2.v = 0 := by
 by_cases h1 : c.kd = 1
 ·rw [do_1 h1] at h ⊢; exact fin_er h
 by_cases h2 : c.kd = 2
 ·rw [do_2 h2] at h ⊢; exact fin_er h
 by_cases h3 : c.kd = 3
 ·rw [do_3 h3] at h ⊢; exact fin_er h
 by_cases h4 : c.kd = 4
 ·rw [do_4 h4] at h ⊢
  refine ⟨rfl, rfl, ?_⟩
  show rdV g.1 g.2 c.a c.f = 0
  unfold rdV; exact if_pos h
 by_cases h5 : c.kd = 5
 ·rw [do_5 h5] at h ⊢; exact fin_er h
 by_cases h6 : c.kd = 6
 ·rw [do_6 h6] at h ⊢; exact fin_er h
 by_cases h7 : c.kd = 7
 ·rw [do_7 h7] at h ⊢; exact fin_er h
 by_cases h8 : c.kd = 8
 ·rw [do_8 h8] at h ⊢
  refine ⟨rfl, ?_, rfl⟩
  show Gr.alB g.1 g.2 c.a c.b = false
  unfold Gr.alB; exact decide_eq_false fun q => h q.1
 by_cases h9 : c.kd = 9
 ·rw [do_9 h9] at h ⊢
  exact ⟨rfl, decide_eq_false fun q => h q.1, rfl⟩
 by_cases h10 : c.kd = 10
 ·rw [do_10 h10] at h ⊢
  refine ⟨rfl, rfl, ?_⟩
  have h' : shE g.1 g.2 c.a ≠ 0 := h
  show 256 * shP g.1 g.2 c.a + shR g.1 g.2 c.a = 0
  unfold shP shR; rw [if_pos h', if_pos h']; rfl
 ·have : doG mx g c = (g, ⟨0, false, 0⟩) := by
   unfold doG; rw [if_neg h1, if_neg h2, if_neg h3, if_neg h4, if_neg h5, if_neg h6, if_neg h7, if_neg h8, if_neg h9, if_neg h10]
  rw [this] at h; exact absurd rfl h
end
end Go.Own.Ml

namespace Go.Own.Ml
open Go Go.Own Go.Own.R Go.Own.G Go.Own.Gr
section
variable {mx : Int}
end
section
variable {cf n K : Int} {l : List OpC} {full : List Int}
end
end Go.Own.Ml
namespace Go.Own.Ml
open Go Go.Own Go.Own.R Go.Own.G Go.Own.Gr
section
variable {full : List Int} {i j : Nat} {c : Nat}
end
end Go.Own.Ml

namespace Go.Own.Ml
open Go Go.Own Go.Own.R Go.Own.G Go.Own.Gr
structure VG (K : Int) (i : Nat) (g : GA) : Prop where
 gg : GG g.1 g.2
 rl : (g.2.length : Int) = K
 ol : g.1.length ≤ i
 sm : SM g.1
section
variable {K mx : Int} {g : GA} {c : OpC} {i : Nat}
theorem VG.ck (h : VG K i g) (ns : List Int) : ckd g.1 g.2 ns = 0 ∨ ckd g.1 g.2 ns = 10 := by
 unfold ckd; rw [if_neg (by rw [ckG_iff.2 h.gg]; decide)]
 split
 ·exact .inl rfl
 ·exact .inr rfl
theorem VG.pt (h : VG K i g) (ns : List Int) (a f : Int) : ptE g.1 g.2 ns a f = 0 ∨ ptE g.1 g.2 ns a f = 10 := by
 unfold ptE
 rcases h.ck ns with q | q <;> rw [q]
 ·rw [if_neg (by decide)]; split
  ·exact .inr rfl
  ·exact .inl rfl
 ·exact .inr (if_pos (by decide))
theorem VG.rw' (h : VG K i g) (ns : List Int) (a f : Int) : rwE g.1 g.2 ns a f = 0 ∨ rwE g.1 g.2 ns a f = 10 := by
 unfold rwE
 rcases h.ck ns with q | q <;> rw [q]
 ·rw [if_neg (by decide)]; split
  ·exact .inr rfl
  ·exact .inl rfl
 ·exact .inr (if_pos (by decide))
theorem VG.sh (h : VG K i g) (a : Int) : shE g.1 g.2 a = 0 ∨ shE g.1 g.2 a = 10 := by
 unfold shE
 rcases h.ck [a] with q | q <;> rw [q]
 ·rw [if_neg (by decide)]; split
  ·exact .inr rfl
  ·exact .inl rfl
 ·exact .inr (if_pos (by decide))
theorem VG.al (h : VG K i g) (hi : i < 400) (a p q : Int) : alA mx g a p q = 0 ∨ alA mx g a p q = 10 ∨ alA mx g a p q = 11 := by
 have hl := h.ol
 unfold alA
 rcases h.ck [a, a] with r | r <;> rw [r]
 ·rw [if_neg (by decide)]
  split
  ·exact .inr (.inl rfl)
  ·split
   ·exact .inr (.inr rfl)
   ·unfold alE
    rcases h.ck [a] with r | r <;> rw [r]
    ·rw [if_neg (by decide)]
     split
     ·exact .inr (.inl rfl)
     ·split
      ·exact .inr (.inr rfl)
      ·rw [if_neg (by omega)]; exact .inl rfl
    ·exact .inr (.inl (if_pos (by decide)))
 ·exact .inr (.inl (if_pos (by decide)))
theorem VG.err (h : VG K i g) (hi : i < 400) : (doG mx g c).2.e = 0 ∨ (doG mx g c).2.e = 10 ∨ (doG mx g c).2.e = 11 := by
 have w : ∀ {x : Int}, x = 0 ∨ x = 10 → x = 0 ∨ x = 10 ∨ x = 11 := fun h => by omega
 unfold doG
 split
 ·exact h.al hi _ _ _
 ·split
  ·exact w (h.pt _ _ _)
  ·split
   ·exact w (h.pt _ _ _)
   ·split
    ·exact w (h.rw' _ _ _)
    ·split
     ·exact w (h.rw' _ _ _)
     ·split
      ·exact w (h.ck _)
      ·split
       ·exact w (h.ck _)
       ·split
        ·exact w (h.ck _)
        ·split
         ·exact w (h.ck _)
         ·split
          ·exact w (h.sh _)
          ·exact .inl rfl
theorem fin_VG {g' : GA} {er : Int} (h : VG K i g) (h' : er = 0 → VG K (i + 1) g') : VG K (i + 1) (fin g er g').1 := by
 unfold fin; split
 ·exact h' (by assumption)
 ·exact ⟨h.gg, h.rl, Nat.le_succ_of_le h.ol, h.sm⟩
theorem VG.do (h : VG K i g) : VG K (i + 1) (doG mx g c).1 := by
 have hw := doG_Gw (mx := mx) (g := g) (c := c)
 have hs := doG_SM (mx := mx) (c := c) h.sm
 have up : VG K (i + 1) g := ⟨h.gg, h.rl, Nat.le_succ_of_le h.ol, h.sm⟩
 have hl : ∀ (g' : GA), Gw g g' → g'.1.length ≤ i + 1 := fun g' q => by have := q.2; have := h.ol; omega
 have fw : ∀ {er : Int} {g' : GA}, er = 0 → (fin g er g').1 = g' := fun e => by unfold fin; exact if_pos e
 unfold doG at hw hs ⊢
 split
 ·rename_i hk
  rw [if_pos hk] at hw hs
  refine fin_VG h fun er => ?_
  rw [fw er] at hw hs
  have he : alE g.1 g.2 c.a c.p c.q = 0 := by
   unfold alA at er
   split at er
   ·exact absurd er (by assumption)
   ·split at er
    ·cases er
    ·split at er
     ·cases er
     ·exact er
  exact ⟨(nx_alloc he).gg, by simp only; rw [(alE_k he).2.2.2.2.2.1, List.length_set]; exact h.rl, hl _ hw, hs⟩
 ·rename_i hk
  rw [if_neg hk] at hw hs
  split
  ·rename_i hk
   rw [if_pos hk] at hw hs
   refine fin_VG h fun er => ?_
   rw [fw er] at hw hs
   exact ⟨(nx_load er).gg, by unfold ldR; simp only; rw [if_neg (by omega), List.length_set]; exact h.rl, hl _ hw, hs⟩
  ·rename_i hk
   rw [if_neg hk] at hw hs
   split
   ·rename_i hk
    rw [if_pos hk] at hw hs
    refine fin_VG h fun er => ?_
    rw [fw er] at hw hs
    exact ⟨(nx_store er).gg, by unfold soR; simp only; rw [if_neg (by omega)]; exact h.rl, hl _ hw, hs⟩
   ·rename_i hk
    rw [if_neg hk] at hw hs
    split
    ·exact up
    ·rename_i hk
     rw [if_neg hk] at hw hs
     split
     ·rename_i hk
      rw [if_pos hk] at hw hs
      refine fin_VG h fun er => ?_
      rw [fw er] at hw hs
      exact ⟨(nx_write er).gg, by unfold wrR; simp only; rw [if_neg (by omega)]; exact h.rl, hl _ hw, hs⟩
     ·rename_i hk
      rw [if_neg hk] at hw hs
      split
      ·rename_i hk
       rw [if_pos hk] at hw hs
       refine fin_VG h fun er => ?_
       rw [fw er] at hw hs
       exact ⟨(nx_move er).gg, by unfold mvR; simp only; rw [if_neg (by omega), List.length_set]; exact h.rl, hl _ hw, hs⟩
      ·rename_i hk
       rw [if_neg hk] at hw hs
       split
       ·rename_i hk
        rw [if_pos hk] at hw hs
        refine fin_VG h fun er => ?_
        rw [fw er] at hw hs
        exact ⟨(nx_clear er).gg, by unfold clR; simp only; rw [if_neg (by omega), List.length_set]; exact h.rl, hl _ hw, hs⟩
       ·split
        ·exact up
        ·split
         ·exact up
         ·split <;> exact up
theorem VG.stp (h : VG K i g) {rf : Bool} : VG K (i + 1) (stp mx rf g c).1 := by
 unfold Ml.stp; split
 ·exact ⟨h.gg, h.rl, Nat.le_succ_of_le h.ol, h.sm⟩
 ·exact h.do
theorem VG.zero (h : 1 ≤ K ∧ K ≤ 8) : VG K 0 (g00 K) := by
 have e : nwR K = List.replicate K.toNat 0 := (nw_k (by omega)).2
 unfold g00
 rw [e]
 refine ⟨⟨by simp; omega, by simp; omega, by simp, fun o ho => (by cases ho), fun p hp => ?_⟩, by simp; omega, by simp, SM_nil⟩
 have := List.eq_of_mem_replicate hp
 subst this; simp
end
section
variable {mx K : Int} {rf : Nat → Bool}
theorem mom_VG : ∀ (l : List OpC) (k : Nat) (g : GA) (j : Nat), VG K k g → ∀ a, (gsG mx rf k g l)[j]? = some a → VG K (k + j) a
 | l, k, g, 0, h, a, ha => by unfold gsG at ha; simp at ha; subst ha; exact h
 | [], k, g, j + 1, h, a, ha => by simp [gsG, mom] at ha
 | c :: r, k, g, j + 1, h, a, ha => by
  rw [gsG_cons, List.getElem?_cons_succ] at ha
  have := mom_VG r (k + 1) _ j h.stp a ha
  rwa [show k + 1 + j = k + (j + 1) by omega] at this
theorem mom_at : ∀ (l : List OpC) (k : Nat) (g : GA) (j : Nat) (c : OpC), l[j]? = some c → ∃ a, (gsG mx rf k g l)[j]? = some a ∧ (mom mx rf k g l)[j]? = some (stp mx (rf (k + j)) a c)
 | [], _, _, _, _, h => by simp at h
 | c :: r, k, g, 0, d, h => by simp at h; subst h; exact ⟨g, rfl, rfl⟩
 | c :: r, k, g, j + 1, d, h => by
  obtain ⟨a, h1, h2⟩ := mom_at r (k + 1) (stp mx (rf k) g c).1 j d (by simpa using h)
  refine ⟨a, by rw [gsG_cons, List.getElem?_cons_succ]; exact h1, ?_⟩
  rw [mom, List.getElem?_cons_succ, h2, show k + 1 + j = k + (j + 1) by omega]
end
end Go.Own.Ml

namespace Go.Own.Ml
open Go Go.Own Go.Own.R Go.Own.G Go.Own.Gr
section
variable {K mx : Int} {g : GA} {c : OpC} {i : Nat}
theorem VG.sz (h : VG K i g) {o : Ab} (ho : o ∈ g.1) : o.1.length + o.2.length ≤ 31 := by
 have h1 := (h.gg.obj o ho).1
 have h2 := h.sm o ho
 unfold sz2 at h1
 have : IntKind.i64.wrap ((o.1.length : Int) + (o.2.length : Int)) = (o.1.length : Int) + (o.2.length : Int) := wrap_i64 (by omega) (by omega)
 rw [this] at h1; omega
theorem VG.shape (h : VG K i g) (a : Int) : 0 ≤ shP g.1 g.2 a ∧ 0 ≤ shR g.1 g.2 a ∧ shP g.1 g.2 a + shR g.1 g.2 a ≤ 31 := by
 unfold shP shR
 by_cases q : shE g.1 g.2 a ≠ 0
 ·rw [if_pos q, if_pos q]; decide
 ·rw [if_neg q, if_neg q]
  have : (Gr.ob g.1 g.2 a).1.length + (Gr.ob g.1 g.2 a).2.length ≤ 31 := by
   unfold Gr.ob
   rcases Nat.lt_or_ge (rg g.2 a - 1).toNat g.1.length with r | r
   ·rw [List.getD_eq_getElem?_getD, List.getElem?_eq_getElem r]; exact h.sz (List.getElem_mem r)
   ·rw [List.getD_eq_getElem?_getD, List.getElem?_eq_none r]; decide
  omega
theorem VG.fit (h : VG K i g) : ¬ anX c.kd (doG mx g c).2.e (doG mx g c).2.t (doG mx g c).2.v := by
 have fi : ∀ {er : Int} {g' : GA}, ¬ anX c.kd (fin g er g').2.e (fin g er g').2.t (fin g er g').2.v := by
  intro er g'
  unfold fin anX
  simp
 by_cases he : (doG mx g c).2.e ≠ 0
 ·obtain ⟨_, h2, h3⟩ := doG_err he
  rw [h2, h3]; unfold anX; simp
 have he : (doG mx g c).2.e = 0 := by omega
 by_cases h1 : c.kd = 1
 ·rw [do_1 h1]; exact fi
 by_cases h2 : c.kd = 2
 ·rw [do_2 h2]; exact fi
 by_cases h3 : c.kd = 3
 ·rw [do_3 h3]; exact fi
 by_cases h4 : c.kd = 4
 ·rw [he]
  have ht : (doG mx g c).2.t = false := by rw [do_4 h4]
  rw [ht]; unfold anX; simp [h4]
 by_cases h5 : c.kd = 5
 ·rw [do_5 h5]; exact fi
 by_cases h6 : c.kd = 6
 ·rw [do_6 h6]; exact fi
 by_cases h7 : c.kd = 7
 ·rw [do_7 h7]; exact fi
 by_cases h8 : c.kd = 8
 ·rw [he]
  have hv : (doG mx g c).2.v = 0 := by rw [do_8 h8]
  rw [hv]; unfold anX; simp [h8]
 by_cases h9 : c.kd = 9
 ·rw [he]
  have hv : (doG mx g c).2.v = 0 := by rw [do_9 h9]
  rw [hv]; unfold anX; simp [h9]
 by_cases h10 : c.kd = 10
 ·rw [he]
  have ht : (doG mx g c).2.t = false := by rw [do_10 h10]
  have hv : (doG mx g c).2.v = 256 * shP g.1 g.2 c.a + shR g.1 g.2 c.a := by rw [do_10 h10]
  have hs := h.shape c.a
  rw [ht, hv]
  unfold anX
  rintro (⟨q, _⟩ | ⟨_, q⟩)
  ·cases q
  ·exact q ⟨rfl, .inr ⟨h10, by omega, by omega⟩⟩
 ·have : doG mx g c = (g, ⟨0, false, 0⟩) := by
   unfold doG; rw [if_neg h1, if_neg h2, if_neg h3, if_neg h4, if_neg h5, if_neg h6, if_neg h7, if_neg h8, if_neg h9, if_neg h10]
  rw [this]; unfold anX; simp
theorem VG.an (h : VG K i g) (hi : i < 400) (ho : opE c = 0) {rf : Bool} : anE c (Ml.stp mx rf g c).2 = 0 := by
 refine an_ok (by omega) ?_ ?_
 ·unfold Ml.stp; split
  ·simp
  ·have := h.err (mx := mx) (c := c) hi; omega
 ·unfold Ml.stp; split
  ·unfold anX; simp
  ·exact h.fit
end
end Go.Own.Ml

namespace Go.Own.Ml
open Go Go.Own Go.Own.R Go.Own.G Go.Own.Gr
section
variable {cf n K : Int} {l : List OpC} {full : List Int}
end
end Go.Own.Ml

namespace Go.Own.Ml
open Go Go.Own Go.Own.R Go.Own.G Go.Own.Gr
section
variable {cf n K : Int} {l : List OpC} {full : List Int}
end
end Go.Own.Ml
namespace Go.Own.Ml
open Go Go.Own Go.Own.R Go.Own.G Go.Own.Gr
section
variable {cf n K : Int} {l : List OpC} {full : List Int}
end
end Go.Own.Ml
namespace Go.Own.Ml
end Go.Own.Ml
namespace Go.Own.Ml
open Go Go.Own Go.Own.R Go.Own.G Go.Own.Gr
section
variable {cf n K : Int} {l : List OpC} {full : List Int}
end
end Go.Own.Ml

namespace Go.Own.Ml
open Go Go.Own Go.Own.R Go.Own.G Go.Own.Gr
def hsB (l : List UInt8) (c : Int) : Bool := l.any fun b => decide ((b.toNat : Int) = c)
def gtC (a b f p q c : Int) : Int := if c = 97 then a else if c = 98 then b else if c = 102 then f else if c = 112 then p else q
def allC : List UInt8 := [97, 98, 102, 112, 114]
section
variable {l : List UInt8} {c : Int} {k : Nat} {y : UInt8}
theorem hs_yes (hy : l[k]? = some y) (h : (y.toNat : Int) = c) : hsB l c = true := by
 unfold hsB; exact List.any_eq_true.2 ⟨y, List.mem_of_getElem? hy, decide_eq_true h⟩
theorem hs_no (hz : ∀ i, i < k → ∀ b, l[i]? = some b → ¬ (b.toNat : Int) = c) (hk : l.length ≤ k) : hsB l c = false := by
 unfold hsB
 refine List.any_eq_false.2 fun b hb => ?_
 obtain ⟨i, hi⟩ := List.mem_iff_getElem?.1 hb
 simpa using hz i (by have := (List.getElem?_eq_some_iff.1 hi).1; omega) b hi
theorem hs_step (hz : ∀ i, i < k → ∀ b, l[i]? = some b → ¬ (b.toNat : Int) = c) (hy : l[k]? = some y) (h : ¬ (y.toNat : Int) = c) : ∀ i, i < k + 1 → ∀ b, l[i]? = some b → ¬ (b.toNat : Int) = c := fun i hi x hx => by
 by_cases q : i = k
 ·subst q; rw [hy] at hx; cases hx; exact h
 ·exact hz i (by omega) x hx
end
section
variable {kd a b f p q u c : Int}
theorem wA_kd (h : wrdA kd = []) : kd < 1 ∨ 11 < kd := by
 by_cases r : kd < 1
 ·exact .inl r
 ·by_cases r2 : 11 < kd
  ·exact .inr r2
  ·exfalso
   rcases (by omega : kd = 1 ∨ kd = 2 ∨ kd = 3 ∨ kd = 4 ∨ kd = 5 ∨ kd = 6 ∨ kd = 7 ∨ kd = 8 ∨ kd = 9 ∨ kd = 10 ∨ kd = 11) with rfl | rfl | rfl | rfl | rfl | rfl | rfl | rfl | rfl | rfl | rfl <;> cases h
theorem wA_ne (h : ¬ wrdA kd = []) : 1 ≤ kd ∧ kd ≤ 11 := by
 by_cases r : kd < 1
 ·exact absurd (by unfold wrdA; iterate 11 rw [if_neg (by omega)]) h
 ·by_cases r2 : 11 < kd
  ·exact absurd (by unfold wrdA; iterate 11 rw [if_neg (by omega)]) h
  ·exact ⟨by omega, by omega⟩
theorem opE_ex (h : 1 ≤ kd ∧ kd ≤ 11) : opE ⟨kd, a, b, f, p, q, u⟩ = if (hsB (wrdB kd) 97 = false ∧ a ≠ 0) ∨ (hsB (wrdB kd) 98 = false ∧ b ≠ 0) ∨ (hsB (wrdB kd) 102 = false ∧ f ≠ 0) ∨ (hsB (wrdB kd) 112 = false ∧ p ≠ 0) ∨ (hsB (wrdB kd) 114 = false ∧ q ≠ 0) ∨ (hsB (wrdB kd) 118 = false ∧ u ≠ 0) then 2
  else if badN a ∨ badN b ∨ badN f ∨ badN p ∨ badN q then 7 else 0 := by
 have z : ¬ badN 0 := by unfold badN; omega
 rcases (by omega : kd = 1 ∨ kd = 2 ∨ kd = 3 ∨ kd = 4 ∨ kd = 5 ∨ kd = 6 ∨ kd = 7 ∨ kd = 8 ∨ kd = 9 ∨ kd = 10 ∨ kd = 11) with rfl | rfl | rfl | rfl | rfl | rfl | rfl | rfl | rfl | rfl | rfl
 all_goals
  unfold opE
  rw [if_neg (by simp)]
  simp only [fdG, TBF, wrdB, hsB]
  simp only [show (1 : Int).toNat = 1 from rfl, show (2 : Int).toNat = 2 from rfl, show (3 : Int).toNat = 3 from rfl, show (4 : Int).toNat = 4 from rfl, show (5 : Int).toNat = 5 from rfl, show (6 : Int).toNat = 6 from rfl, show (7 : Int).toNat = 7 from rfl, show (8 : Int).toNat = 8 from rfl, show (9 : Int).toNat = 9 from rfl, show (10 : Int).toNat = 10 from rfl, show (11 : Int).toNat = 11 from rfl]
  simp [tkG, tkS]
  by_cases ha : a = 0 <;> by_cases hb : b = 0 <;> by_cases hf : f = 0 <;> by_cases hp : p = 0 <;> by_cases hq : q = 0 <;> by_cases hu : u = 0 <;> simp [*]
 all_goals (by_cases qa : badN a <;> by_cases qb : badN b <;> by_cases qf : badN f <;> by_cases qp : badN p <;> by_cases qq : badN q <;> simp [*])
theorem oc_u (h : 1 ≤ kd ∧ kd ≤ 11) (h1 : hsB (wrdB kd) 118 = false) (h2 : u ≠ 0) : opE ⟨kd, a, b, f, p, q, u⟩ = 2 := by rw [opE_ex h, if_pos (.inr (.inr (.inr (.inr (.inr ⟨h1, h2⟩)))))]
def cA (i : Nat) : Int := ((allC.getD i 0).toNat : Int)
theorem cA_at {k : Nat} {y : UInt8} (hy : allC[k]? = some y) : cA k = (y.toNat : Int) := by unfold cA; rw [List.getD_eq_getElem?_getD, hy]; rfl
theorem oc_f {k : Nat} (h : 1 ≤ kd ∧ kd ≤ 11) (hk : (k : Int) < 5) (h1 : hsB (wrdB kd) (cA k) = false) (h2 : gtC a b f p q (cA k) ≠ 0) : opE ⟨kd, a, b, f, p, q, u⟩ = 2 := by
 rw [opE_ex h, if_pos]
 rcases (by omega : k = 0 ∨ k = 1 ∨ k = 2 ∨ k = 3 ∨ k = 4) with rfl | rfl | rfl | rfl | rfl
 ·exact .inl ⟨h1, h2⟩
 ·exact .inr (.inl ⟨h1, h2⟩)
 ·exact .inr (.inr (.inl ⟨h1, h2⟩))
 ·exact .inr (.inr (.inr (.inl ⟨h1, h2⟩)))
 ·exact .inr (.inr (.inr (.inr (.inl ⟨h1, h2⟩))))
theorem oc_1 (h : wrdA kd = [] ∨ (hsB (wrdB kd) 118 = false ∧ u ≠ 0)) : opE ⟨kd, a, b, f, p, q, u⟩ = 2 := by
 by_cases r : wrdA kd = []
 ·exact op_kd (wA_kd r)
 ·obtain ⟨h1, h2⟩ := h.resolve_left r
  exact oc_u (wA_ne r) h1 h2
def OZ (kd a b f p q : Int) (k : Nat) : Prop := ∀ i, i < k → hsB (wrdB kd) (cA i) = false → gtC a b f p q (cA i) = 0
def OR (a b f p q : Int) (k : Nat) : Prop := ∀ i, i < k → ¬ badN (gtC a b f p q (cA i))
theorem OZ.step {k : Nat} (h : OZ kd a b f p q k) (h2 : ¬ (hsB (wrdB kd) (cA k) = false ∧ gtC a b f p q (cA k) ≠ 0)) : OZ kd a b f p q (k + 1) := fun i hi => by
 by_cases r : i = k
 ·subst r; exact fun q1 => Decidable.not_not.1 fun q2 => h2 ⟨q1, q2⟩
 ·exact h i (by omega)
theorem OR.step {k : Nat} (h : OR a b f p q k) (h2 : ¬ badN (gtC a b f p q (cA k))) : OR a b f p q (k + 1) := fun i hi => by
 by_cases r : i = k
 ·subst r; exact h2
 ·exact h i (by omega)
theorem OZ.nx {k : Nat} (h : OZ kd a b f p q k) (hk : 5 ≤ k) (hu : ¬ (hsB (wrdB kd) 118 = false ∧ u ≠ 0)) : ¬ ((hsB (wrdB kd) 97 = false ∧ a ≠ 0) ∨ (hsB (wrdB kd) 98 = false ∧ b ≠ 0) ∨ (hsB (wrdB kd) 102 = false ∧ f ≠ 0) ∨ (hsB (wrdB kd) 112 = false ∧ p ≠ 0) ∨ (hsB (wrdB kd) 114 = false ∧ q ≠ 0) ∨ (hsB (wrdB kd) 118 = false ∧ u ≠ 0)) := by
 rintro (r | r | r | r | r | r)
 ·exact r.2 (h 0 (by omega) r.1)
 ·exact r.2 (h 1 (by omega) r.1)
 ·exact r.2 (h 2 (by omega) r.1)
 ·exact r.2 (h 3 (by omega) r.1)
 ·exact r.2 (h 4 (by omega) r.1)
 ·exact hu r
theorem oc_r {k j : Nat} (h : 1 ≤ kd ∧ kd ≤ 11) (hz : OZ kd a b f p q k) (hk : 5 ≤ k) (hu : ¬ (hsB (wrdB kd) 118 = false ∧ u ≠ 0)) (hj : (j : Int) < 5) (h2 : badN (gtC a b f p q (cA j))) : opE ⟨kd, a, b, f, p, q, u⟩ = 7 := by
 rw [opE_ex h, if_neg (hz.nx hk hu), if_pos]
 rcases (by omega : j = 0 ∨ j = 1 ∨ j = 2 ∨ j = 3 ∨ j = 4) with rfl | rfl | rfl | rfl | rfl
 ·exact .inl h2
 ·exact .inr (.inl h2)
 ·exact .inr (.inr (.inl h2))
 ·exact .inr (.inr (.inr (.inl h2)))
 ·exact .inr (.inr (.inr (.inr h2)))
theorem oc_0 {k j : Nat} (h : 1 ≤ kd ∧ kd ≤ 11) (hz : OZ kd a b f p q k) (hk : 5 ≤ k) (hu : ¬ (hsB (wrdB kd) 118 = false ∧ u ≠ 0)) (hr : OR a b f p q j) (hj : 5 ≤ j) : opE ⟨kd, a, b, f, p, q, u⟩ = 0 := by
 rw [opE_ex h, if_neg (hz.nx hk hu), if_neg]
 rintro (r | r | r | r | r)
 ·exact hr 0 (by omega) r
 ·exact hr 1 (by omega) r
 ·exact hr 2 (by omega) r
 ·exact hr 3 (by omega) r
 ·exact hr 4 (by omega) r
end
end Go.Own.Ml

namespace Go.Proofs.YtpgkfndbfocibaaGreat
open Go.RowKit Go.Own Go.Own.R Go.Own.G Go.Own.Gr Go.Own.Ml


set_option maxHeartbeats 4000000 in
theorem qhas_c {l : List UInt8} {c : Int} {w : World}  (hll : l.length ≤ 1048576) :
  Calls Tryz.prog 78 #[(stv l), .int .u8 c] w fun e w' => e = .returned (.bool (hsB l c)) ∧ St w NoX [] w' := by
 refine ci2 17 Tryz.func78 V (fun A0 _ F0 => ?_)
 have hS := St.nil w
 refine tb fun _ H1 => (vc (W_end (en (Qa F0) fun A2 _ F2 => tc H1 fun _ H3 => tb fun _ H4 => (vc (W_end (en (Ka F2) fun A5 Y5 F5 => tk H4 (wp_block ?_)))))))
 -- loop 2
 refine loopX (fun mz A' w' => SzN A' 17 ∧ A'.defers = [] ∧ (∃ (k : Nat), (mz = l.length - k) ∧ (k ≤ l.length) ∧ (∀ i, i < k → ∀ b, l[i]? = some b → ¬ (b.toNat : Int) = c) ∧ (EV A' (.tmp 5) = .int .i64 (k : Int)) ∧ (EV A' (.tmp 0) = EV A5 (.tmp 0)) ∧ (EV A' (.tmp 1) = EV A5 (.tmp 1)) ∧ (St w NoX [] w'))) (l.length - 0) ⟨Y5, F5.d, 0, rfl, Za, (fun i hi => by omega), ((fg0 F5).trans (by first | rfl | (simp; done) | (congr 1; omega))), rfl, rfl, hS⟩ ?_
 clear hS
 rintro n6 A6 w6 ⟨Y6, hdf6, k, hm6, hk, hz, l5_6, u0_6, u1_6, S6⟩
 have l0_6 := u0_6.trans (fg1 F5)
 have l1_6 := u1_6.trans (fg2 F5)
 refine td fun _ H7 => tb fun _ H8 => (vm l5_6 (vm (Sa l0_6) (wv (V_lenT V t0 Tryz.underlying9) (vl (Sb t0) t0 (W_end (en (((((ck (cq3 (FS.n hdf6) V) V V)).c (es4 V l0_6)).c (es4 V l1_6)).c (Sd l5_6)) fun A9 _ F9 => tk H8 (cd (fg3 F9) (fun c10 => ?_) fun c10 => ?_)))))))
 ·refine wp_skip (tc H7 fun _ H11 => wp_block (tb fun _ H12 => (vm (fg2 F9) (vm (Sa (fg0 F9)) ?_))))
  have k13 : k < l.length := by first | omega | (simp only [List.length_cons, List.length_nil]; omega) | decide
  obtain ⟨y13, hy13⟩ := get_some (xs := l) (k := k) k13
  have hu13 := y13.toNat_lt
  refine wv (V_idxT V (Sa t0) t0 Za hy13 Tryz.underlying9) (vm (Sc (fg1 F9)) (ve (Sa t0) t0 (W_end (en (Ka (Qd F9)) fun A14 _ F14 => tk H12 (cd (fg0 F14) (fun c15 => ?_) fun c15 => ?_)))))
  ·refine tb fun _ H16 => (vc (W_end (en (Ka F14) fun A17 _ F17 => tk H16 (wp_ret (inb_ret (then_ret (then_ret (inb_ret (then_ret (rt1 F17 (rv_tmp (fg0 F17)) ?_))))))))))
   rw [show hsB l c = true from hs_yes hy13 c15]
   exact ⟨rfl, S6.fin0⟩
  refine wp_skip (inb_n (tk H11 (region_in (vm (fg1 F14) (ad t0 V (vt (W_end (en (Ka (Qb (fx1 F14))) fun A18 Y18 F18 => then_n ⟨l.length - (k + 1), by simp only [hm6]; omega, Y18, F18.d, (k + 1), rfl, Za, (hs_step hz hy13 c15), ((fg0 F18).trans (by first | rfl | (simp; done) | (congr 1; omega))), ((fg3 F18).trans (fg1 F5).symm), ((fg2 F18).trans (fg2 F5).symm), S6⟩))))))))
 refine wp_exit (then_exit (then_exit (inb_hit (ta H3 fun _ H19 => (vc (W_end (en (Ka F9) fun A20 _ F20 => tk H19 (wp_ret (rt1 F20 (rv_tmp (fg0 F20)) ?_)))))))))
 rw [show hsB l c = false from hs_no hz Za]
 exact ⟨rfl, S6.fin0⟩

set_option maxHeartbeats 4000000 in
theorem qget_c {kd a b f p q uu c : Int} {w : World}   :
  Calls Tryz.prog 79 #[.agg #[.int .i64 kd, .int .i64 a, .int .i64 b, .int .i64 f, .int .i64 p, .int .i64 q, .int .u64 uu], .int .u8 c] w fun e w' => e = .returned (.int .i64 (gtC a b f p q c)) ∧ St w NoX [] w' := by
 refine ci2 24 Tryz.func79 V (fun A0 _ F0 => ?_)
 have hS := St.nil w
 refine tb fun _ H1 => (wB (#[.int .i64 (kd), .int .i64 (a), .int .i64 (b), .int .i64 (f), .int .i64 (p), .int .i64 (q), .int .u64 (uu)]) hS (fg0 F0) (fun g2 w2 c2 hc2 S2 => vc (W_end (en (Qa (Ka F0)) fun A3 _ F3 => tc H1 fun _ H4 => tb fun _ H5 => (vm (fg2 F3) (W_end (en (Ka F3) fun A6 _ F6 => tk H5 (wp_block (tb fun _ H7 => (ve (fg0 F6) V (vt (W_end (en (Ka (Qa F6)) fun A8 _ F8 => tk H7 (cd (fg0 F8) (fun c9 => ?_) fun c9 => ?_))))))))))))))
 ·refine tb fun _ H10 => (fa 1 (fg2 F8) (rL (.int .i64 (a)) t0 (S2.ob 0 hc2) (vt (W_end (en (Ka (Qb F8)) fun A11 _ F11 => tk H10 (wp_ret (inb_ret (then_ret (rt1 F11 (rv_tmp (fg0 F11)) ?_)))))))))
  rw [show (gtC a b f p q c) = a from by unfold gtC; rw [if_pos Za]]
  exact ⟨rfl, S2.fin0⟩
 refine tb fun _ H13 => (ve (fg1 F8) V (vt (W_end (en (Ka (Qa F8)) fun A14 _ F14 => tk H13 (cd (fg0 F14) (fun c15 => ?_) fun c15 => ?_)))))
 ·refine tb fun _ H16 => (fa 2 (fg3 F14) (rL (.int .i64 (b)) t0 (S2.ob 0 hc2) (vt (W_end (en (Ka (Qb F14)) fun A17 _ F17 => tk H16 (wp_ret (inb_ret (then_ret (rt1 F17 (rv_tmp (fg0 F17)) ?_)))))))))
  rw [show (gtC a b f p q c) = b from by unfold gtC; rw [if_neg Za, if_pos Za]]
  exact ⟨rfl, S2.fin0⟩
 refine tb fun _ H19 => (ve (fg2 F14) V (vt (W_end (en (Ka (Qa F14)) fun A20 _ F20 => tk H19 (cd (fg0 F20) (fun c21 => ?_) fun c21 => ?_)))))
 ·refine tb fun _ H22 => (fa 3 (fg4 F20) (rL (.int .i64 (f)) t0 (S2.ob 0 hc2) (vt (W_end (en (Ka (Qb F20)) fun A23 _ F23 => tk H22 (wp_ret (inb_ret (then_ret (rt1 F23 (rv_tmp (fg0 F23)) ?_)))))))))
  rw [show (gtC a b f p q c) = f from by unfold gtC; rw [if_neg Za, if_neg Za, if_pos Za]]
  exact ⟨rfl, S2.fin0⟩
 refine tb fun _ H25 => (ve (fg3 F20) V (vt (W_end (en (Ka (Qa F20)) fun A26 _ F26 => tk H25 (cd (fg0 F26) (fun c27 => ?_) fun c27 => ?_)))))
 ·refine tb fun _ H28 => (fa 4 (fg5 F26) (rL (.int .i64 (p)) t0 (S2.ob 0 hc2) (vt (W_end (en (Ka (Qb F26)) fun A29 _ F29 => tk H28 (wp_ret (inb_ret (then_ret (rt1 F29 (rv_tmp (fg0 F29)) ?_)))))))))
  rw [show (gtC a b f p q c) = p from by unfold gtC; rw [if_neg Za, if_neg Za, if_neg Za, if_pos Za]]
  exact ⟨rfl, S2.fin0⟩
 refine wp_skip (inb_n (ta H4 fun _ H31 => (fa 5 (fg5 F26) (rL (.int .i64 (q)) t0 (S2.ob 0 hc2) (vt (W_end (en (Ka (Qb F26)) fun A32 _ F32 => tk H31 (wp_ret (rt1 F32 (rv_tmp (fg0 F32)) ?_)))))))))
 rw [show (gtC a b f p q c) = q from by unfold gtC; rw [if_neg Za, if_neg Za, if_neg Za, if_neg Za]]
 exact ⟨rfl, S2.fin0⟩

set_option maxHeartbeats 4000000 in
theorem qopc_c {kd a b f p q uu : Int} {w : World}   :
  Calls Tryz.prog 41 #[.agg #[.int .i64 kd, .int .i64 a, .int .i64 b, .int .i64 f, .int .i64 p, .int .i64 q, .int .u64 uu]] w fun e w' => e = .returned (.int .i64 (opE (⟨kd, a, b, f, p, q, uu⟩ : OpC))) ∧ St w NoX [] w' := by
 have hal : ([97, 98, 102, 112, 114] : List UInt8).length = 5 := rfl
 refine ci1 64 Tryz.func41 V (fun A0 _ F0 => ?_)
 have hS := St.nil w
 refine tb fun _ H1 => (wB (#[.int .i64 (kd), .int .i64 (a), .int .i64 (b), .int .i64 (f), .int .i64 (p), .int .i64 (q), .int .u64 (uu)]) hS (fg0 F0) (fun g2 w2 c2 hc2 S2 => vc (W_end (en (Qa (Ka F0)) fun A3 _ F3 => ta H1 fun _ H4 => (fa 0 (fg0 F3) (rL (.int .i64 (kd)) t0 (S2.ob 0 hc2) (wc (args1 t0) (qwrd_c (k := kd)) (C0 S2 fun w5 S5 => vm t0 (vx (stv (wrdA kd)) t0 (vx (stv (wrdB kd)) (Sa t0) (va (Sa t0) (va (Sa t0) (W_end (en (Kb (Qf F3)) fun A6 _ F6 => tc H4 fun _ H7 => td fun _ H8 => wp_mid (G := fun A' w' => SzN A' 64 ∧ A'.defers = [] ∧ (EV A' (.tmp 1) = EV A6 (.tmp 1)) ∧ (EV A' (.tmp 4) = EV A6 (.tmp 4)) ∧ (EV A' (.tmp 26) = .bool (decide ((wrdA kd = []) ∨ (hsB (wrdB kd) 118 = false ∧ uu ≠ 0)))) ∧ St w NoX [c2] w') ?_ ?_))))))))))))))
 ·have j1_9 := (fg2 F6)
  have j4_9 := (fg0 F6)
  refine region_in (vm (fg1 F6) (wv (V_eqlT V t0 V) (W_split V V (V_mov V t0) (fun c10 => ?_) (fun c10 => ?_))))
  ·refine xo V t0 (xo V (Sa t0) (xo V (Sb t0) (xo V (Sc t0) (W_off V (wanted_u V V t0 (ez V)) (W_off V (wanted_u V V (Sa t0) (ez V)) (W_off V (wanted_u V V (Sb t0) (ez V)) (xo V (Sg t0) (vT (Sh t0) V (W_end (en (Ka (Qc (Qh F6))) fun A11 Y11 F11 => ?_))))))))))
   exact Mid_n ⟨Y11, F11.d, ((fg3 F11).trans j1_9.symm), ((fg1 F11).trans j4_9.symm), ((fg0 F11).trans (congrArg Value.bool ((decide_eq_true (Or.inl c10)).symm))), S5⟩
  refine wg V t0 (uvm (Sc (fg0 F6))) (W_call V (xwt V V (Sa t0)) V Tryz.func78 om V (args2 t0 V) (qhas_c (c := 118) (by first | with_reducible assumption | (have := wrdB_le kd; omega))) (C0 S5 fun w12 S12 => wg V (Sb t0) (V_not V t0) (W_splitB V (xwt V V (Sc t0)) (V_mov V t0) (fun c13 => ?_) (fun c13 => ?_))))
  ·refine wg V t0 (ufa 6 (Sg (fg2 F6))) (wq V (Sa t0) (urL (.int .u64 (uu)) t0 (S12.ob 0 hc2)) (wg V (Sb t0) (uvn t0 V) (wg V (Sg t0) (uvT (Sc t0) t0) (vF (Sh t0) t0 (W_end (en (Ka (Qc (Qh F6))) fun A14 Y14 F14 => ?_))))))
   exact Mid_n ⟨Y14, F14.d, ((fg3 F14).trans j1_9.symm), ((fg1 F14).trans j4_9.symm), ((fg0 F14).trans (congrArg Value.bool (decide_eq_decide.2 ⟨fun q => Or.inr ⟨by simpa using c13, q⟩, fun q => (q.resolve_left c10).2⟩))), S12⟩
  refine xo V t0 (xo V (Sa t0) (xo V (Sb t0) (wg V (Sg t0) (uvF (Sc t0) V) (vF (Sh t0) t0 (W_end (en (Ka (Qc (Qh F6))) fun A15 Y15 F15 => ?_))))))
  exact Mid_n ⟨Y15, F15.d, ((fg3 F15).trans j1_9.symm), ((fg1 F15).trans j4_9.symm), ((fg0 F15).trans (congrArg Value.bool ((decide_eq_false (fun q => by have q1 := (q.resolve_left c10).1; rw [q1] at c13; simp at c13)).symm))), S12⟩
 rintro A9 w9 ⟨Y9, hdf9, u1_9, u4_9, l26_9, S9⟩
 have l1_9 := u1_9.trans (fg2 F6)
 have l4_9 := u4_9.trans (fg0 F6)
 refine tk H8 (cd l26_9 (fun c16 => ?_) fun c16 => ?_)
 ·refine tb fun _ H17 => (vc (W_end (en (Ka (FS.n hdf9)) fun A18 _ F18 => tk H17 (wp_ret (then_ret (rt1 F18 (rv_tmp (fg0 F18)) ?_))))))
  have h : (opE (⟨kd, a, b, f, p, q, uu⟩ : OpC)) = 2 := oc_1 c16
  rw [h]
  exact ⟨rfl, S9.fin0⟩
 have hkd := wA_ne (kd := kd) (fun q => c16 (Or.inl q))
 have huu : ¬ (hsB (wrdB kd) 118 = false ∧ uu ≠ 0) := fun q => c16 (Or.inr q)
 refine wp_skip (ta H7 fun _ H20 => (vc (W_end (en ((((ck (FS.n hdf9) V V)).c (es V l1_9)).c (Sa l4_9)) fun A21 _ F21 => tc H20 fun _ H22 => tb fun _ H23 => (vc (W_end (en (Ka F21) fun A24 Y24 F24 => tk H23 (wp_block ?_))))))))
 -- loop 6
 refine loopX (fun mz A' w' => SzN A' 64 ∧ A'.defers = [] ∧ (∃ (k : Nat), (mz = 5 - k) ∧ (k ≤ 5) ∧ (OZ kd a b f p q k) ∧ (EV A' (.tmp 6) = .int .i64 (k : Int)) ∧ (EV A' (.tmp 1) = EV A24 (.tmp 1)) ∧ (EV A' (.tmp 4) = EV A24 (.tmp 4)) ∧ (EV A' (.tmp 5) = EV A24 (.tmp 5)) ∧ (St w NoX [bx g2 50 #[.int .i64 (kd), .int .i64 (a), .int .i64 (b), .int .i64 (f), .int .i64 (p), .int .i64 (q), .int .u64 (uu)]] w'))) (5 - 0) ⟨Y24, F24.d, 0, rfl, Za, (fun i hi => by omega), ((fg0 F24).trans (by first | rfl | (simp; done) | (congr 1; omega))), rfl, rfl, rfl, (by subst hc2; exact S9)⟩ ?_
 clear S9 hc2
 rintro n25 A25 w25 ⟨Y25, hdf25, k, hm25, hk, hz, l6_25, u1_25, u4_25, u5_25, S25⟩
 have l1_25 := u1_25.trans (fg2 F24)
 have l4_25 := u4_25.trans (fg1 F24)
 have l5_25 := u5_25.trans (fg3 F24)
 obtain ⟨c2_25, hc2_25, S25⟩ := gen1 S25
 refine td fun _ H26 => tb fun _ H27 => (vm l6_25 (vm (Sa l5_25) (wv (V_lenT V t0 Tryz.underlying9) (vl (Sb t0) t0 (W_end (en ((((((ck (cq3 (FS.n hdf25) V) V V)).c (es4 V l1_25)).c (es4 V l4_25)).c (es4 V l5_25)).c (Sd l6_25)) fun A28 _ F28 => tk H27 (cd (fg4 F28) (fun c29 => ?_) fun c29 => ?_)))))))
 ·refine wp_skip (tc H26 fun _ H30 => wp_block (td fun _ H31 => wp_mid (G := fun A' w' => SzN A' 64 ∧ A'.defers = [] ∧ (EV A' (.tmp 1) = EV A28 (.tmp 1)) ∧ (EV A' (.tmp 4) = EV A28 (.tmp 4)) ∧ (EV A' (.tmp 5) = EV A28 (.tmp 5)) ∧ (EV A' (.tmp 6) = EV A28 (.tmp 6)) ∧ (EV A' (.tmp 46) = .bool (decide ((hsB (wrdB kd) (cA k) = false) ∧ ((gtC a b f p q (cA k)) ≠ 0)))) ∧ St w NoX [c2_25] w') ?_ ?_))
  ·have j1_32 := (fg3 F28)
   have j4_32 := (fg2 F28)
   have j5_32 := (fg1 F28)
   have j6_32 := (fg0 F28)
   have k33 : k < ([97, 98, 102, 112, 114] : List UInt8).length := by first | omega | (simp only [List.length_cons, List.length_nil]; omega) | decide
   obtain ⟨y33, hy33⟩ := get_some (xs := ([97, 98, 102, 112, 114] : List UInt8)) (k := k) k33
   have hu33 := y33.toNat_lt
   refine region_monoS 14 14 [none, none, none, none, some (SPv [] (fun _ => fun u l' => u = .bool (hsB (wrdB kd) (y33.toNat : Int)) ∧ l' = []) 4), none, none, none, none, none, none, some (SPv [] (fun _ => fun u l' => u = .int .i64 (gtC a b f p q (y33.toNat : Int)) ∧ l' = []) 11)] om om (dm (fg2 F28) (dm (Sa (fg1 F28)) (dm (Sb (fg0 F28)) (dv (V_idxT V (Sa t0) t0 Za hy33 Tryz.underlying9) (D_call (ts := []) (vs := []) (C0 := fun _ => fun u l' => u = .bool (hsB (wrdB kd) (y33.toNat : Int)) ∧ l' = []) (C := fun u l' => u = .bool (hsB (wrdB kd) (y33.toNat : Int)) ∧ l' = []) V V V Tryz.func78 om V (args2 (Sc t0) t0) V V V V (fun sx hx hF => ?_) (fun u34 l34 hu34 => ?_))))))
   ·refine (qhas_c (c := (y33.toNat : Int))  (by first | with_reducible assumption | (have := wrdB_le kd; omega))).mono ?_
    rintro _ _ ⟨rfl, hz⟩
    exact ⟨_, rfl, _, ⟨rfl, rfl⟩, hz⟩
   obtain ⟨rfl, hl34⟩ := hu34
   refine dv (V_not V t0) (D_splitB V V (V_mov V t0) V V (fun c35 => ?_) (fun c35 => ?_))
   ·refine D_r V (xwt V V t0) om (fun sx hx hF => (VR_ldA V (Sg (fg3 F28)) ((S25.grow hx).ob 0 hc2_25) Tryz.underlying50 V om)) V V (D_v V (xwt V V (Sa t0)) (V_mov V (Sh (fg1 F28))) V V (D_v V (xwt V V (Sb t0)) (V_mov V (Sh (Sa (fg0 F28)))) V V (D_v V (xwt V V (Sc t0)) (V_idxT V (Sa t0) t0 Za hy33 Tryz.underlying9) V V (D_call (ts := []) (vs := []) (C0 := fun _ => fun u l' => u = .int .i64 (gtC a b f p q (y33.toNat : Int)) ∧ l' = []) (C := fun u l' => u = .int .i64 (gtC a b f p q (y33.toNat : Int)) ∧ l' = []) V (xwt V V (Sd t0)) V Tryz.func79 om V (args2 (Sc t0) t0) V V V V (fun sx hx hF => ?_) (fun u37 l37 hu37 => ?_)))))
    ·refine (qget_c (kd := kd) (a := a) (b := b) (f := f) (p := p) (q := q) (uu := uu) (c := (y33.toNat : Int))  ).mono ?_
     rintro _ _ ⟨rfl, hz⟩
     exact ⟨_, rfl, _, ⟨rfl, rfl⟩, hz⟩
    obtain ⟨rfl, hl37⟩ := hu37
    refine D_v V (xwt V V (Se t0)) (V_neq V t0 V) V V (dv (uvT (Sf t0) t0) (ZS_none S25 (Nat.le_refl _) (Nat.le_refl _) (fun s38 hJ38 hL38 hF38 => ?_)))
    obtain ⟨ll34, ws34, we34, ⟨hq34, hl34r⟩, hm34, k34, e34⟩ := L.all_get (L.all_rest hF38); cases hq34; subst hl34r
    replace hJ38 := hJ38.add hL38 (i := 4) V hm34 k34 e34
    obtain ⟨ll37, ws37, we37, ⟨hq37, hl37r⟩, hm37, k37, e37⟩ := L.all_get hF38; cases hq37; subst hl37r
    replace hJ38 := hJ38.add hL38 (i := 11) V hm37 k37 e37
    have S38 := hJ38.st; clear hF38 hJ38 hL38
    generalize s38.1 = w38 at *
    replace S38 : St w NoX [c2_25] w38 := S38
    refine en (Kg (Qg F28)) fun A39 Y39 F39 => ?_
    exact Mid_n ⟨Y39, F39.d, ((fg10 F39).trans j1_32.symm), ((fg9 F39).trans j4_32.symm), ((fg8 F39).trans j5_32.symm), ((fg7 F39).trans j6_32.symm), ((fg0 F39).trans (congrArg Value.bool (by rw [cA_at hy33]; exact decide_eq_decide.2 ⟨fun q => ⟨by simpa using c35, q⟩, fun q => q.2⟩))), S38⟩
   refine D_off V (wanted_f V V t0 (ez V) V) V (D_off V (wanted_f V V (Sa t0) (ez V) V) V (D_off V (wanted_f V V (Sb t0) (ez V) V) V (D_off V (wanted_f V V (Sc t0) (ez V) V) V (D_off V (wanted_f V V (Sd t0) (ez V) V) V (D_off V (wanted_f V V (Se t0) (ez V) V) V (dv (uvF (Sf t0) V) (ZS_none S25 (Nat.le_refl _) (Nat.le_refl _) (fun s40 hJ40 hL40 hF40 => ?_))))))))
   obtain ⟨ll34, ws34, we34, ⟨hq34, hl34r⟩, hm34, k34, e34⟩ := L.all_get hF40; cases hq34; subst hl34r
   replace hJ40 := hJ40.add hL40 (i := 4) V hm34 k34 e34
   have S40 := hJ40.st; clear hF40 hJ40 hL40
   generalize s40.1 = w40 at *
   replace S40 : St w NoX [c2_25] w40 := S40
   refine en (Kg (Qg F28)) fun A41 Y41 F41 => ?_
   exact Mid_n ⟨Y41, F41.d, ((fg10 F41).trans j1_32.symm), ((fg9 F41).trans j4_32.symm), ((fg8 F41).trans j5_32.symm), ((fg7 F41).trans j6_32.symm), ((fg0 F41).trans (congrArg Value.bool ((decide_eq_false (fun q => by have q1 := q.1; rw [cA_at hy33] at q1; rw [q1] at c35; simp at c35)).symm))), S40⟩
  rintro A32 w32 ⟨Y32, hdf32, u1_32, u4_32, u5_32, u6_32, l46_32, S32⟩
  have l1_32 := u1_32.trans (fg3 F28)
  have l4_32 := u4_32.trans (fg2 F28)
  have l5_32 := u5_32.trans (fg1 F28)
  have l6_32 := u6_32.trans (fg0 F28)
  refine tk H31 (cd l46_32 (fun c42 => ?_) fun c42 => ?_)
  ·refine tb fun _ H43 => (vc (W_end (en (Ka (FS.n hdf32)) fun A44 _ F44 => tk H43 (wp_ret (inb_ret (then_ret (then_ret (inb_ret (then_ret (rt1 F44 (rv_tmp (fg0 F44)) ?_))))))))))
   have h : (opE (⟨kd, a, b, f, p, q, uu⟩ : OpC)) = 2 := oc_f hkd Za c42.1 c42.2
   rw [h]
   exact ⟨rfl, S32.fin0⟩
  refine wp_skip (inb_n (tk H30 (region_in (vm l6_32 (ad t0 V (vt (W_end (en (((((ck (cq2 (FS.n hdf32) V) V V)).c (es3 V l1_32)).c (es3 V l4_32)).c (Sc l5_32)) fun A46 Y46 F46 => then_n ⟨5 - (k + 1), by simp only [hm25]; omega, Y46, F46.d, (k + 1), rfl, Za, (hz.step c42), ((fg3 F46).trans (by first | rfl | (simp; done) | (congr 1; omega))), ((fg2 F46).trans (fg2 F24).symm), ((fg1 F46).trans (fg1 F24).symm), ((fg0 F46).trans (fg3 F24).symm), (by subst hc2_25; exact S32)⟩))))))))
 refine wp_exit (then_exit (then_exit (inb_hit (tc H22 fun _ H47 => tb fun _ H48 => (vc (W_end (en (Ka F28) fun A49 Y49 F49 => tk H48 (wp_block ?_))))))))
 -- loop 11
 refine loopX (fun mz A' w' => SzN A' 64 ∧ A'.defers = [] ∧ (∃ (j : Nat), (mz = 5 - j) ∧ (j ≤ 5) ∧ (OR a b f p q j) ∧ (EV A' (.tmp 7) = .int .i64 (j : Int)) ∧ (EV A' (.tmp 1) = EV A49 (.tmp 1)) ∧ (EV A' (.tmp 5) = EV A49 (.tmp 5)) ∧ (St w NoX [bx g2 50 #[.int .i64 (kd), .int .i64 (a), .int .i64 (b), .int .i64 (f), .int .i64 (p), .int .i64 (q), .int .u64 (uu)]] w'))) (5 - 0) ⟨Y49, F49.d, 0, rfl, Za, (fun i hi => by omega), ((fg0 F49).trans (by first | rfl | (simp; done) | (congr 1; omega))), rfl, rfl, (by subst hc2_25; exact S25)⟩ ?_
 clear S25 hc2_25
 rintro n50 A50 w50 ⟨Y50, hdf50, j, hm50, hj, hr, l7_50, u1_50, u5_50, S50⟩
 have l1_50 := u1_50.trans (fg4 F49)
 have l5_50 := u5_50.trans (fg2 F49)
 obtain ⟨c2_50, hc2_50, S50⟩ := gen1 S50
 refine td fun _ H51 => tb fun _ H52 => (vm l7_50 (vm (Sa l5_50) (wv (V_lenT V t0 Tryz.underlying9) (vl (Sb t0) t0 (W_end (en (((((ck (cq3 (FS.n hdf50) V) V V)).c (es4 V l1_50)).c (es4 V l5_50)).c (Sd l7_50)) fun A53 _ F53 => tk H52 (cd (fg3 F53) (fun c54 => ?_) fun c54 => ?_)))))))
 ·refine wp_skip (tc H51 fun _ H55 => wp_block (td fun _ H56 => ?_))
  have k57 : j < ([97, 98, 102, 112, 114] : List UInt8).length := by first | omega | (simp only [List.length_cons, List.length_nil]; omega) | decide
  obtain ⟨y57, hy57⟩ := get_some (xs := ([97, 98, 102, 112, 114] : List UInt8)) (k := j) k57
  have hu57 := y57.toNat_lt
  refine region_monoS 6 6 [none, none, none, none, some (SPv [] (fun _ => fun u l' => u = .int .i64 (gtC a b f p q (y57.toNat : Int)) ∧ l' = []) 4)] om om (dr (fun _ hx _ => (ura (fg2 F53) ((S50.grow hx).ob 0 hc2_50))) (dm (Sa (fg1 F53)) (dm (Sb (fg0 F53)) (dv (V_idxT V (Sa t0) t0 Za hy57 Tryz.underlying9) (D_call (ts := []) (vs := []) (C0 := fun _ => fun u l' => u = .int .i64 (gtC a b f p q (y57.toNat : Int)) ∧ l' = []) (C := fun u l' => u = .int .i64 (gtC a b f p q (y57.toNat : Int)) ∧ l' = []) V V V Tryz.func79 om V (args2 (Sc t0) t0) V V V V (fun sx hx hF => ?_) (fun u58 l58 hu58 => ?_))))))
  ·refine (qget_c (kd := kd) (a := a) (b := b) (f := f) (p := p) (q := q) (uu := uu) (c := (y57.toNat : Int))  ).mono ?_
   rintro _ _ ⟨rfl, hz⟩
   exact ⟨_, rfl, _, ⟨rfl, rfl⟩, hz⟩
  obtain ⟨rfl, hl58⟩ := hu58
  refine dv (V_asg V t0) (ZS_none S50 (Nat.le_refl _) (Nat.le_refl _) (fun s59 hJ59 hL59 hF59 => ?_))
  obtain ⟨ll58, ws58, we58, ⟨hq58, hl58r⟩, hm58, k58, e58⟩ := L.all_get hF59; cases hq58; subst hl58r
  replace hJ59 := hJ59.add hL59 (i := 4) V hm58 k58 e58
  have S59 := hJ59.st; clear hF59 hJ59 hL59
  generalize s59.1 = w59 at *
  replace S59 : St w NoX [c2_50] w59 := S59
  refine en (Ka (Qe F53)) fun A60 _ F60 => tc H56 fun _ H61 => wp_mid (G := fun A' w' => SzN A' 64 ∧ A'.defers = [] ∧ (EV A' (.tmp 1) = EV A60 (.tmp 1)) ∧ (EV A' (.tmp 5) = EV A60 (.tmp 5)) ∧ (EV A' (.tmp 7) = EV A60 (.tmp 7)) ∧ (EV A' (.tmp 63) = .bool (decide (((gtC a b f p q (cA j)) < -1000000000) ∨ (1000000000 < (gtC a b f p q (cA j)))))) ∧ St w NoX [c2_50] w') ?_ ?_
  ·have j1_62 := (fg3 F60)
   have j5_62 := (fg2 F60)
   have j7_62 := (fg1 F60)
   refine region_in (vm (fg0 F60) (vl t0 V (W_split V V (V_mov V t0) (fun c63 => ?_) (fun c63 => ?_))))
   ·refine xo V t0 (xo V (Sa t0) (vT (Sb t0) V (W_end (en (Kc (Qc F60)) fun A64 Y64 F64 => ?_))))
    exact Mid_n ⟨Y64, F64.d, ((fg6 F64).trans j1_62.symm), ((fg5 F64).trans j5_62.symm), ((fg4 F64).trans j7_62.symm), ((fg0 F64).trans (congrArg Value.bool ((by rw [cA_at hy57]; first | exact (decide_eq_true Za).symm | exact (decide_eq_false Za).symm | exact decide_eq_decide.2 Za)))), S59⟩
   refine wg V t0 (uvm (Sc (fg0 F60))) (wg V (Sa t0) (uvg t0 V) (vF (Sb t0) t0 (W_end (en (Kc (Qc F60)) fun A65 Y65 F65 => ?_))))
   exact Mid_n ⟨Y65, F65.d, ((fg6 F65).trans j1_62.symm), ((fg5 F65).trans j5_62.symm), ((fg4 F65).trans j7_62.symm), ((fg0 F65).trans (congrArg Value.bool ((by rw [cA_at hy57]; first | exact (decide_eq_true Za).symm | exact (decide_eq_false Za).symm | exact decide_eq_decide.2 Za)))), S59⟩
  rintro A62 w62 ⟨Y62, hdf62, u1_62, u5_62, u7_62, l63_62, S62⟩
  have l1_62 := u1_62.trans (fg3 F60)
  have l5_62 := u5_62.trans (fg2 F60)
  have l7_62 := u7_62.trans (fg1 F60)
  refine tk H61 (cd l63_62 (fun c66 => ?_) fun c66 => ?_)
  ·refine tb fun _ H67 => (vc (W_end (en (Ka (FS.n hdf62)) fun A68 _ F68 => tk H67 (wp_ret (inb_ret (then_ret (then_ret (inb_ret (then_ret (rt1 F68 (rv_tmp (fg0 F68)) ?_))))))))))
   have h : (opE (⟨kd, a, b, f, p, q, uu⟩ : OpC)) = 7 := oc_r hkd hz Za huu Za c66
   rw [h]
   exact ⟨rfl, S62.fin0⟩
  refine wp_skip (inb_n (tk H55 (region_in (vm l7_62 (ad t0 V (vt (W_end (en ((((ck (cq2 (FS.n hdf62) V) V V)).c (es3 V l1_62)).c (Sc l5_62)) fun A70 Y70 F70 => then_n ⟨5 - (j + 1), by simp only [hm50]; omega, Y70, F70.d, (j + 1), rfl, Za, (hr.step c66), ((fg2 F70).trans (by first | rfl | (simp; done) | (congr 1; omega))), ((fg1 F70).trans (fg4 F49).symm), ((fg0 F70).trans (fg2 F49).symm), (by subst hc2_50; exact S62)⟩))))))))
 refine wp_exit (then_exit (then_exit (inb_hit (ta H47 fun _ H71 => (vc (W_end (en (Ka F53) fun A72 _ F72 => tk H71 (wp_ret (rt1 F72 (rv_tmp (fg0 F72)) ?_)))))))))
 have h : (opE (⟨kd, a, b, f, p, q, uu⟩ : OpC)) = 0 := oc_0 hkd hz Za huu hr Za
 rw [h]
 exact ⟨rfl, S50.fin0⟩

set_option maxHeartbeats 4000000 in
theorem qan_c {kd a b f p q uu er : Int} {ti : Bool} {v : Int} {w : World}  (hvr : 0 ≤ v ∧ v ≤ 18446744073709551615) :
  Calls Tryz.prog 48 #[.agg #[.int .i64 kd, .int .i64 a, .int .i64 b, .int .i64 f, .int .i64 p, .int .i64 q, .int .u64 uu], .agg #[.int .i64 er, .bool ti, .int .u64 v]] w fun e w' => e = .returned (.int .i64 (anE (⟨kd, a, b, f, p, q, uu⟩ : OpC) (⟨er, ti, v⟩ : AnC))) ∧ St w NoX [] w' := by
 refine ci2 77 Tryz.func48 V (fun A0 _ F0 => ?_)
 have hS := St.nil w
 refine tb fun _ H1 => (wB (#[.int .i64 (kd), .int .i64 (a), .int .i64 (b), .int .i64 (f), .int .i64 (p), .int .i64 (q), .int .u64 (uu)]) hS (fg0 F0) (fun g2 w2 c2 hc2 S2 => wB (#[.int .i64 (er), .bool (ti), .int .u64 (v)]) S2 (Sa (fg1 F0)) (fun g3 w3 c3 hc3 S3 => vc (W_end (en (Qa (Kb F0)) fun A4 _ F4 => ta H1 fun _ H5 => (ra (fg1 F4) (S3.ob 1 hc2) (wc (args1 t0) (qopc_c (kd := kd) (a := a) (b := b) (f := f) (p := p) (q := q) (uu := uu)) (C0 S3 fun w6 S6 => vt (W_end (en (Ka (Qb F4)) fun A7 _ F7 => tc H5 fun _ H8 => tb fun _ H9 => (vm (fg0 F7) (vn t0 V (W_end (en (Ka (Qa F7)) fun A10 _ F10 => tk H9 (cd (fg0 F10) (fun c11 => ?_) fun c11 => ?_)))))))))))))))
 ·refine tb fun _ H12 => (vm (fg1 F10) (vt (W_end (en (Ka (Qa F10)) fun A13 _ F13 => tk H12 (wp_ret (then_ret (rt1 F13 (rv_tmp (fg0 F13)) ?_)))))))
  have h : (anE (⟨kd, a, b, f, p, q, uu⟩ : OpC) (⟨er, ti, v⟩ : AnC)) = (opE (⟨kd, a, b, f, p, q, uu⟩ : OpC)) := an_op c11
  rw [h]
  exact ⟨rfl, S6.fin0⟩
 refine wp_skip (tc H8 fun _ H15 => td fun _ H16 => wp_mid (G := fun A' w' => SzN A' 77 ∧ A'.defers = [] ∧ (EV A' (.tmp 2) = EV A10 (.tmp 2)) ∧ (EV A' (.tmp 3) = EV A10 (.tmp 3)) ∧ (EV A' (.tmp 20) = .bool (decide ((er < 0) ∨ (999 < er)))) ∧ St w NoX [c3, c2] w') ?_ ?_)
 ·have j2_17 := (fg3 F10)
  have j3_17 := (fg2 F10)
  refine region_in (fa 0 (fg2 F10) (rL (.int .i64 (er)) t0 (S6.ob 0 hc3) (vl t0 V (W_split V V (V_mov V t0) (fun c18 => ?_) (fun c18 => ?_)))))
  ·refine xo V t0 (xo V (Sa t0) (xo V (Sb t0) (vT (Sc t0) V (W_end (en (Ka (Qg F10)) fun A19 Y19 F19 => ?_)))))
   exact Mid_n ⟨Y19, F19.d, ((fg4 F19).trans j2_17.symm), ((fg3 F19).trans j3_17.symm), ((fg0 F19).trans (congrArg Value.bool ((decide_eq_true (.inl c18)).symm))), S6⟩
  refine wg V t0 (ufa 0 (Sd (fg2 F10))) (wq V (Sa t0) (urL (.int .i64 (er)) t0 (S6.ob 0 hc3)) (wg V (Sb t0) (uvg t0 V) (vF (Sc t0) t0 (W_end (en (Ka (Qg F10)) fun A20 Y20 F20 => ?_)))))
  exact Mid_n ⟨Y20, F20.d, ((fg4 F20).trans j2_17.symm), ((fg3 F20).trans j3_17.symm), ((fg0 F20).trans (congrArg Value.bool (decide_eq_decide.2 ⟨fun q => (.inr q), fun q => (q.resolve_left c18)⟩))), S6⟩
 rintro A17 w17 ⟨Y17, hdf17, u2_17, u3_17, l20_17, S17⟩
 have l2_17 := u2_17.trans (fg3 F10)
 have l3_17 := u3_17.trans (fg2 F10)
 refine tk H16 (cd l20_17 (fun c21 => ?_) fun c21 => ?_)
 ·refine tb fun _ H22 => (vc (W_end (en (Ka (FS.n hdf17)) fun A23 _ F23 => tk H22 (wp_ret (then_ret (rt1 F23 (rv_tmp (fg0 F23)) ?_))))))
  have h : (anE (⟨kd, a, b, f, p, q, uu⟩ : OpC) (⟨er, ti, v⟩ : AnC)) = 7 := an_rng c11 Zf
  rw [h]
  exact ⟨rfl, S17.fin0⟩
 refine wp_skip (tc H15 fun _ H25 => wp_mid (G := fun A' w' => SzN A' 77 ∧ A'.defers = [] ∧ (EV A' (.tmp 2) = EV A17 (.tmp 2)) ∧ (EV A' (.tmp 3) = EV A17 (.tmp 3)) ∧ (EV A' (.tmp 6) = .bool (decide ((er = 0 ∧ (kd = 8 ∨ kd = 9))))) ∧ St w NoX [c3, c2] w') ?_ ?_)
 ·have j2_26 := l2_17
  have j3_26 := l3_17
  refine region_in (fa 0 l3_17 (rL (.int .i64 (er)) t0 (S17.ob 0 hc3) (ve t0 V (W_split V V (V_mov V t0) (fun c27 => ?_) (fun c27 => ?_)))))
  ·refine wg V t0 (ufa 0 (Sd l2_17)) (wq V (Sa t0) (urL (.int .i64 (kd)) t0 (S17.ob 1 hc2)) (wg V (Sb t0) (uve t0 V) (W_split V (xwt V V (Sc t0)) (V_mov V t0) (fun c28 => ?_) (fun c28 => ?_))))
   ·refine xo V t0 (xo V (Sa t0) (xo V (Sb t0) (wg V (Sg t0) (uvT (Sc t0) V) (vT (Sh t0) t0 (vt (W_end (en ((((ck (cq5 (cq8 (FS.n hdf17) V) V) V V)).c ((es8 V (es6 V l2_17)))).c ((Sh (Sf l3_17)))) fun A29 Y29 F29 => ?_)))))))
    exact Mid_n ⟨Y29, F29.d, ((fg1 F29).trans j2_26.symm), ((fg0 F29).trans j3_26.symm), ((fg2 F29).trans (congrArg Value.bool ((by first | exact (decide_eq_true Za).symm | exact (decide_eq_false Za).symm | exact decide_eq_decide.2 Za)))), S17⟩
   refine wg V t0 (ufa 0 (Sh l2_17)) (wq V (Sa t0) (urL (.int .i64 (kd)) t0 (S17.ob 1 hc2)) (wg V (Sb t0) (uve t0 V) (wg V (Sg t0) (uvF (Sc t0) t0) (vT (Sh t0) t0 (vt (W_end (en ((((ck (cq5 (cq8 (FS.n hdf17) V) V) V V)).c ((es8 V (es6 V l2_17)))).c ((Sh (Sf l3_17)))) fun A30 Y30 F30 => ?_)))))))
   exact Mid_n ⟨Y30, F30.d, ((fg1 F30).trans j2_26.symm), ((fg0 F30).trans j3_26.symm), ((fg2 F30).trans (congrArg Value.bool ((by first | exact (decide_eq_true Za).symm | exact (decide_eq_false Za).symm | exact decide_eq_decide.2 Za)))), S17⟩
  refine xo V t0 (xo V (Sa t0) (xo V (Sb t0) (xo V (Sc t0) (W_off V (wanted_u V V t0 (ez V)) (W_off V (wanted_u V V (Sa t0) (ez V)) (W_off V (wanted_u V V (Sb t0) (ez V)) (xo V (Sg t0) (vF (Sh t0) V (vt (W_end (en ((((ck (cq5 (cq8 (FS.n hdf17) V) V) V V)).c ((es8 V (es6 V l2_17)))).c ((Sh (Sf l3_17)))) fun A31 Y31 F31 => ?_)))))))))))
  exact Mid_n ⟨Y31, F31.d, ((fg1 F31).trans j2_26.symm), ((fg0 F31).trans j3_26.symm), ((fg2 F31).trans (congrArg Value.bool ((by first | exact (decide_eq_true Za).symm | exact (decide_eq_false Za).symm | exact decide_eq_decide.2 Za)))), S17⟩
 rintro A26 w26 ⟨Y26, hdf26, u2_26, u3_26, l6_26, S26⟩
 have l2_26 := u2_26.trans l2_17
 have l3_26 := u3_26.trans l3_17
 refine tc H25 fun _ H32 => wp_mid (G := fun A' w' => SzN A' 77 ∧ A'.defers = [] ∧ (EV A' (.tmp 2) = EV A26 (.tmp 2)) ∧ (EV A' (.tmp 3) = EV A26 (.tmp 3)) ∧ (EV A' (.tmp 6) = EV A26 (.tmp 6)) ∧ (EV A' (.tmp 7) = .bool (decide ((er = 0 ∧ (kd = 4 ∨ kd = 10))))) ∧ St w NoX [c3, c2] w') ?_ ?_
 ·have j2_33 := l2_26
  have j3_33 := l3_26
  have j6_33 := l6_26
  refine region_in (fa 0 l3_26 (rL (.int .i64 (er)) t0 (S26.ob 0 hc3) (ve t0 V (W_split V V (V_mov V t0) (fun c34 => ?_) (fun c34 => ?_)))))
  ·refine wg V t0 (ufa 0 (Sd l2_26)) (wq V (Sa t0) (urL (.int .i64 (kd)) t0 (S26.ob 1 hc2)) (wg V (Sb t0) (uve t0 V) (W_split V (xwt V V (Sc t0)) (V_mov V t0) (fun c35 => ?_) (fun c35 => ?_))))
   ·refine xo V t0 (xo V (Sa t0) (xo V (Sb t0) (wg V (Sg t0) (uvT (Sc t0) V) (vT (Sh t0) t0 (vt (W_end (en (((((ck (cq5 (cq8 (FS.n hdf26) V) V) V V)).c ((es8 V (es6 V l2_26)))).c ((es8 V (es6 V l3_26)))).c ((Sh (Sf l6_26)))) fun A36 Y36 F36 => ?_)))))))
    exact Mid_n ⟨Y36, F36.d, ((fg2 F36).trans j2_33.symm), ((fg1 F36).trans j3_33.symm), ((fg0 F36).trans j6_33.symm), ((fg3 F36).trans (congrArg Value.bool ((by first | exact (decide_eq_true Za).symm | exact (decide_eq_false Za).symm | exact decide_eq_decide.2 Za)))), S26⟩
   refine wg V t0 (ufa 0 (Sh l2_26)) (wq V (Sa t0) (urL (.int .i64 (kd)) t0 (S26.ob 1 hc2)) (wg V (Sb t0) (uve t0 V) (wg V (Sg t0) (uvF (Sc t0) t0) (vT (Sh t0) t0 (vt (W_end (en (((((ck (cq5 (cq8 (FS.n hdf26) V) V) V V)).c ((es8 V (es6 V l2_26)))).c ((es8 V (es6 V l3_26)))).c ((Sh (Sf l6_26)))) fun A37 Y37 F37 => ?_)))))))
   exact Mid_n ⟨Y37, F37.d, ((fg2 F37).trans j2_33.symm), ((fg1 F37).trans j3_33.symm), ((fg0 F37).trans j6_33.symm), ((fg3 F37).trans (congrArg Value.bool ((by first | exact (decide_eq_true Za).symm | exact (decide_eq_false Za).symm | exact decide_eq_decide.2 Za)))), S26⟩
  refine xo V t0 (xo V (Sa t0) (xo V (Sb t0) (xo V (Sc t0) (W_off V (wanted_u V V t0 (ez V)) (W_off V (wanted_u V V (Sa t0) (ez V)) (W_off V (wanted_u V V (Sb t0) (ez V)) (xo V (Sg t0) (vF (Sh t0) V (vt (W_end (en (((((ck (cq5 (cq8 (FS.n hdf26) V) V) V V)).c ((es8 V (es6 V l2_26)))).c ((es8 V (es6 V l3_26)))).c ((Sh (Sf l6_26)))) fun A38 Y38 F38 => ?_)))))))))))
  exact Mid_n ⟨Y38, F38.d, ((fg2 F38).trans j2_33.symm), ((fg1 F38).trans j3_33.symm), ((fg0 F38).trans j6_33.symm), ((fg3 F38).trans (congrArg Value.bool ((by first | exact (decide_eq_true Za).symm | exact (decide_eq_false Za).symm | exact decide_eq_decide.2 Za)))), S26⟩
 rintro A33 w33 ⟨Y33, hdf33, u2_33, u3_33, u6_33, l7_33, S33⟩
 have l2_33 := u2_33.trans l2_26
 have l3_33 := u3_33.trans l3_26
 have l6_33 := u6_33.trans l6_26
 refine tc H32 fun _ H39 => td fun _ H40 => wp_mid (G := fun A' w' => SzN A' 77 ∧ A'.defers = [] ∧ (EV A' (.tmp 2) = EV A33 (.tmp 2)) ∧ (EV A' (.tmp 3) = EV A33 (.tmp 3)) ∧ (EV A' (.tmp 61) = .bool (decide ((ti = true ∧ ¬ (er = 0 ∧ (kd = 8 ∨ kd = 9))) ∨ (v ≠ 0 ∧ ¬ (er = 0 ∧ (kd = 4 ∨ kd = 10)))))) ∧ St w NoX [c3, c2] w') ?_ ?_
 ·have j2_41 := l2_33
  have j3_41 := l3_33
  refine region_in (fa 1 l3_33 (rL (.bool (ti)) t0 (S33.ob 0 hc3) (W_splitB V V (V_mov V t0) (fun c42 => ?_) (fun c42 => ?_))))
  ·refine wg V t0 (uvm (Sc l6_33)) (wg V (Sa t0) (V_notd V t0) (vT (Sb t0) t0 (W_split V V (V_mov V t0) (fun c43 => ?_) (fun c43 => ?_))))
   ·refine xo V t0 (xo V (Sa t0) (xo V (Sb t0) (xo V (Sc t0) (W_off V (wanted_u V V t0 (ez V)) (W_off V (wanted_u V V (Sa t0) (ez V)) (xo V (Sf t0) (vT (Sg t0) V (W_end (en ((((ck (cq6 (cq8 (FS.n hdf33) V) V) V V)).c ((es8 V (es7 V l2_33)))).c ((Sh (Sg l3_33)))) fun A44 Y44 F44 => ?_)))))))))
    exact Mid_n ⟨Y44, F44.d, ((fg1 F44).trans j2_41.symm), ((fg0 F44).trans j3_41.symm), ((fg2 F44).trans (congrArg Value.bool ((by simp only [c42, true_and, Bool.false_eq_true, false_and, false_or, true_or]; first | rfl | exact (decide_eq_true Za).symm | exact (decide_eq_false Za).symm | exact decide_eq_decide.2 Za)))), S33⟩
   refine wg V t0 (ufa 2 (Sg l3_33)) (wq V (Sa t0) (urL (.int .u64 (v)) t0 (S33.ob 0 hc3)) (wg V (Sb t0) (uvn t0 V) (W_split V (xwt V V (Sc t0)) (V_mov V t0) (fun c45 => ?_) (fun c45 => ?_))))
   ·refine wg V t0 (uvm (Sh (Sc l7_33))) (wg V (Sa t0) (V_notd V t0) (wg V (Sf t0) (uvT (Sb t0) t0) (vF (Sg t0) t0 (W_end (en ((((ck (cq6 (cq8 (FS.n hdf33) V) V) V V)).c ((es8 V (es7 V l2_33)))).c ((Sh (Sg l3_33)))) fun A46 Y46 F46 => ?_)))))
    exact Mid_n ⟨Y46, F46.d, ((fg1 F46).trans j2_41.symm), ((fg0 F46).trans j3_41.symm), ((fg2 F46).trans (congrArg Value.bool ((by simp only [c42, true_and, Bool.false_eq_true, false_and, false_or, true_or]; first | rfl | exact (decide_eq_true Za).symm | exact (decide_eq_false Za).symm | exact decide_eq_decide.2 Za)))), S33⟩
   refine xo V t0 (xo V (Sa t0) (wg V (Sf t0) (uvF (Sb t0) V) (vF (Sg t0) t0 (W_end (en ((((ck (cq6 (cq8 (FS.n hdf33) V) V) V V)).c ((es8 V (es7 V l2_33)))).c ((Sh (Sg l3_33)))) fun A47 Y47 F47 => ?_)))))
   exact Mid_n ⟨Y47, F47.d, ((fg1 F47).trans j2_41.symm), ((fg0 F47).trans j3_41.symm), ((fg2 F47).trans (congrArg Value.bool ((by simp only [c42, true_and, Bool.false_eq_true, false_and, false_or, true_or]; first | rfl | exact (decide_eq_true Za).symm | exact (decide_eq_false Za).symm | exact decide_eq_decide.2 Za)))), S33⟩
  refine xo V t0 (xo V (Sa t0) (vF (Sb t0) V (vm t0 (wg V t0 (ufa 2 (Sg l3_33)) (wq V (Sa t0) (urL (.int .u64 (v)) t0 (S33.ob 0 hc3)) (wg V (Sb t0) (uvn t0 V) (W_split V (xwt V V (Sc t0)) (V_mov V t0) (fun c48 => ?_) (fun c48 => ?_))))))))
  ·refine wg V t0 (uvm (Sh (Sc l7_33))) (wg V (Sa t0) (V_notd V t0) (wg V (Sf t0) (uvT (Sb t0) t0) (vF (Sg t0) t0 (W_end (en ((((ck (cq6 (cq8 (FS.n hdf33) V) V) V V)).c ((es8 V (es7 V l2_33)))).c ((Sh (Sg l3_33)))) fun A49 Y49 F49 => ?_)))))
   exact Mid_n ⟨Y49, F49.d, ((fg1 F49).trans j2_41.symm), ((fg0 F49).trans j3_41.symm), ((fg2 F49).trans (congrArg Value.bool ((by simp only [c42, true_and, Bool.false_eq_true, false_and, false_or, true_or]; first | rfl | exact (decide_eq_true Za).symm | exact (decide_eq_false Za).symm | exact decide_eq_decide.2 Za)))), S33⟩
  refine xo V t0 (xo V (Sa t0) (wg V (Sf t0) (uvF (Sb t0) V) (vF (Sg t0) t0 (W_end (en ((((ck (cq6 (cq8 (FS.n hdf33) V) V) V V)).c ((es8 V (es7 V l2_33)))).c ((Sh (Sg l3_33)))) fun A50 Y50 F50 => ?_)))))
  exact Mid_n ⟨Y50, F50.d, ((fg1 F50).trans j2_41.symm), ((fg0 F50).trans j3_41.symm), ((fg2 F50).trans (congrArg Value.bool ((by simp only [c42, true_and, Bool.false_eq_true, false_and, false_or, true_or]; first | rfl | exact (decide_eq_true Za).symm | exact (decide_eq_false Za).symm | exact decide_eq_decide.2 Za)))), S33⟩
 rintro A41 w41 ⟨Y41, hdf41, u2_41, u3_41, l61_41, S41⟩
 have l2_41 := u2_41.trans l2_33
 have l3_41 := u3_41.trans l3_33
 refine tk H40 (cd l61_41 (fun c51 => ?_) fun c51 => ?_)
 ·refine tb fun _ H52 => (vc (W_end (en (Ka (FS.n hdf41)) fun A53 _ F53 => tk H52 (wp_ret (then_ret (rt1 F53 (rv_tmp (fg0 F53)) ?_))))))
  have h : (anE (⟨kd, a, b, f, p, q, uu⟩ : OpC) (⟨er, ti, v⟩ : AnC)) = 2 := an_bad c11 Zf (c51.imp (fun q => q) (fun q => ⟨q.1, fun r => q.2 (by simp only at r ⊢; omega)⟩))
  rw [h]
  exact ⟨rfl, S41.fin0⟩
 refine wp_skip (tc H39 fun _ H55 => td fun _ H56 => wp_mid (G := fun A' w' => SzN A' 77 ∧ A'.defers = [] ∧ (EV A' (.tmp 76) = .bool (decide ((kd = 10 ∧ (31 < v / 256 ∨ 31 < v % 256))))) ∧ St w NoX [] w') ?_ ?_)
 ·refine region_in (fa 0 l2_41 (rL (.int .i64 (kd)) t0 (S41.ob 1 hc2) (ve t0 V (W_split V V (V_mov V t0) (fun c58 => ?_) (fun c58 => ?_)))))
  ·refine wg V t0 (ufa 2 (Sd l3_41)) (wq V (Sa t0) (urL (.int .u64 (v)) t0 (S41.ob 0 hc3)) (wg V (Sb t0) (V_quo V t0 V Za Za (wrap_u64 Za Za)) (wg V (Sc t0) (uvg t0 V) (W_split V (xwt V V (Sd t0)) (V_mov V t0) (fun c59 => ?_) (fun c59 => ?_)))))
   ·refine xo V t0 (xo V (Sa t0) (xo V (Sb t0) (xo V (Sc t0) (wg V (Sh (Sa t0)) (uvT (Sd t0) V) (vT (Sh (Sb t0)) t0 (W_end (en (Ka (Qf (Qh (FS.n hdf41)))) fun A60 Y60 F60 => ?_)))))))
    have S61 := S41.se [] []
    exact Mid_n ⟨Y60, F60.d, ((fg0 F60).trans (congrArg Value.bool ((by first | exact (decide_eq_true Za).symm | exact (decide_eq_false Za).symm | exact decide_eq_decide.2 Za)))), S61⟩
   refine wg V t0 (ufa 2 (Sh (Sa l3_41))) (wq V (Sa t0) (urL (.int .u64 (v)) t0 (S41.ob 0 hc3)) (wg V (Sb t0) (V_rem V t0 V Za Za (wrap_u64 Za Za)) (wg V (Sc t0) (uvg t0 V) (wg V (Sh (Sa t0)) (uvF (Sd t0) t0) (vT (Sh (Sb t0)) t0 (W_end (en (Ka (Qf (Qh (FS.n hdf41)))) fun A62 Y62 F62 => ?_)))))))
   have S63 := S41.se [] []
   exact Mid_n ⟨Y62, F62.d, ((fg0 F62).trans (congrArg Value.bool ((by first | exact (decide_eq_true Za).symm | exact (decide_eq_false Za).symm | exact decide_eq_decide.2 Za)))), S63⟩
  refine xo V t0 (xo V (Sa t0) (xo V (Sb t0) (xo V (Sc t0) (xo V (Sd t0) (W_off V (wanted_u V V t0 (ez V)) (W_off V (wanted_u V V (Sa t0) (ez V)) (W_off V (wanted_u V V (Sb t0) (ez V)) (W_off V (wanted_u V V (Sc t0) (ez V)) (xo V (Sh (Sa t0)) (vF (Sh (Sb t0)) V (W_end (en (Ka (Qf (Qh (FS.n hdf41)))) fun A64 Y64 F64 => ?_))))))))))))
  have S65 := S41.se [] []
  exact Mid_n ⟨Y64, F64.d, ((fg0 F64).trans (congrArg Value.bool ((by first | exact (decide_eq_true Za).symm | exact (decide_eq_false Za).symm | exact decide_eq_decide.2 Za)))), S65⟩
 rintro A57 w57 ⟨Y57, hdf57, l76_57, S57⟩
 refine tk H56 (cd l76_57 (fun c66 => ?_) fun c66 => ?_)
 ·refine tb fun _ H67 => (vc (W_end (en (Ka (FS.n hdf57)) fun A68 _ F68 => tk H67 (wp_ret (then_ret (rt1 F68 (rv_tmp (fg0 F68)) ?_))))))
  have h : (anE (⟨kd, a, b, f, p, q, uu⟩ : OpC) (⟨er, ti, v⟩ : AnC)) = 2 := an_bad c11 Zf (.inr ⟨by simp only; omega, by simp only; omega⟩)
  rw [h]
  exact ⟨rfl, S57.fin0⟩
 refine wp_skip (ta H55 fun _ H69 => (vc (W_end (en (Ka (FS.n hdf57)) fun A70 _ F70 => tk H69 (wp_ret (rt1 F70 (rv_tmp (fg0 F70)) ?_))))))
 have h : (anE (⟨kd, a, b, f, p, q, uu⟩ : OpC) (⟨er, ti, v⟩ : AnC)) = 0 := an_ok c11 Zf (fun q => q.elim (fun r => c51 (Or.inl r)) (fun r => by have q1 : ¬ (v ≠ 0 ∧ ¬ (er = 0 ∧ (kd = 4 ∨ kd = 10))) := fun z => c51 (Or.inr z); simp only at r; omega))
 rw [h]
 exact ⟨rfl, S57.fin0⟩

end Go.Proofs.YtpgkfndbfocibaaGreat
namespace Go.Own.Ml
open Go Go.Own Go.Own.R Go.Own.G Go.Own.Gr
theorem fin_0 {g g' : GA} {e : Int} (h : e = 0) : fin g e g' = (g', ⟨0, false, 0⟩) := by unfold fin; rw [if_pos h, h]
theorem fin_n {g g' : GA} {e : Int} (h : e ≠ 0) : fin g e g' = (g, ⟨e, false, 0⟩) := by unfold fin; rw [if_neg h]
def asG (g : GA) (c : OpC) : AnC := (doG 0 g c).2
theorem do_as {mx : Int} {g : GA} {c : OpC} (h : c.kd ≠ 1 ∧ c.kd ≠ 2 ∧ c.kd ≠ 3 ∧ c.kd ≠ 5 ∧ c.kd ≠ 6 ∧ c.kd ≠ 7) : doG mx g c = (g, asG g c) := by
 obtain ⟨h1, h2, h3, h5, h6, h7⟩ := h
 unfold asG doG
 simp only [if_neg h1, if_neg h2, if_neg h3, if_neg h5, if_neg h6, if_neg h7]
 split
 ·rfl
 ·split
  ·rfl
  ·split
   ·rfl
   ·split <;> rfl
end Go.Own.Ml

namespace Go.Proofs.YtpgkfndbfocibaaGreat
open Go.RowKit Go.Own Go.Own.R Go.Own.G Go.Own.Gr Go.Own.Ml


end Go.Proofs.YtpgkfndbfocibaaGreat
namespace Go.Proofs.YtpgkfndbfocibaaGreat
open Go.RowKit Go.Own Go.Own.R Go.Own.G Go.Own.Gr Go.Own.Ml


set_option maxHeartbeats 4000000 in
theorem qas_c {G : GV} {kd a b f p q uu : Int} {w : World} (hg_G : Ro w NoX (gls [G])) (hsm : SM (G.1.2.map ab)) (hk : kd ≠ 1 ∧ kd ≠ 2 ∧ kd ≠ 3 ∧ kd ≠ 5 ∧ kd ≠ 6 ∧ kd ≠ 7) :
  Calls Tryz.prog 88 #[.agg #[G.1.1, G.2.1], .agg #[.int .i64 kd, .int .i64 a, .int .i64 b, .int .i64 f, .int .i64 p, .int .i64 q, .int .u64 uu]] w fun e w' => e = .returned (.agg #[.int .i64 (asG (gab G) (⟨kd, a, b, f, p, q, uu⟩ : OpC)).e, .bool (asG (gab G) (⟨kd, a, b, f, p, q, uu⟩ : OpC)).t, .int .u64 (asG (gab G) (⟨kd, a, b, f, p, q, uu⟩ : OpC)).v]) ∧ St w NoX [] w' := by
 have Go := gl_o m1 hg_G
 have Gn := gl_n m1 hg_G
 have Gr := gl_r m1 hg_G
 refine ci2 86 Tryz.func88 V (fun A0 _ F0 => ?_)
 have hS := St.nil w
 have bGo := SlN.le (sl_SlN Go.at)
 have bGr := SlN.le (sl_SlN Gr.at)
 refine tb fun _ H1 => (wB (#[G.1.1, G.2.1]) hS (fg0 F0) (fun g2 w2 c2 hc2 S2 => wB (#[.int .i64 (kd), .int .i64 (a), .int .i64 (b), .int .i64 (f), .int .i64 (p), .int .i64 (q), .int .u64 (uu)]) S2 (Sa (fg1 F0)) (fun g3 w3 c3 hc3 S3 => wA (#[.int .i64 0, .bool false, .int .u64 0]) S3 (fun g4 w4 c4 hc4 S4 => W_end (en (Kc F0) fun A5 _ F5 => tc H1 fun _ H6 => tb fun _ H7 => (fa 0 (fg1 F5) (rL (.int .i64 (kd)) t0 (S4.ob 1 hc3) (W_end (en (Ka (Qa F5)) fun A8 _ F8 => tk H7 (wp_block (tb fun _ H9 => ve (fg0 F8) V (vt (W_end (en (Ka (Qa F8)) fun A10 _ F10 => tk H9 (cd (fg0 F10) (fun c11 => ?_) fun c11 => ?_)))))))))))))))
 ·refine tb fun _ H12 => (ra (fg4 F10) (S4.ob 2 hc2) (fa 1 (Sa (fg3 F10)) (rL (.int .i64 (a)) t0 (S4.ob 1 hc3) (fa 3 (Sc (fg3 F10)) (rL (.int .i64 (f)) t0 (S4.ob 1 hc3) (wc (args3 (Sd t0) (Sb t0) t0) (qRd_c (a := a) (f := f) (S4.roC Go) (S4.roC Gn) (S4.roC Gr)) (C0 S4 fun w13 S13 => vm t0 (vx (.int .u64 ((rdV (G.1.2.map ab) G.2.2 a f))) t0 (vx (.int .i64 ((rwE (G.1.2.map ab) G.2.2 [a] a f))) (Sa t0) (va (Sa t0) (va (Sa t0) (W_end (en (Kb (Qa (Qh F10))) fun A14 _ F14 => ?_)))))))))))))
  have S15 := S13.se [0] [c4]
  refine ta H12 fun _ H16 => (vm (fg0 F14) (vm (Sa (fg1 F14)) (wv (xbS (n := 3) (z := .agg #[.int .i64 0, .bool false, .int .u64 0]) V (parts2 (Sa t0) t0)) (xsA0 S15 hc4 V V V (Sc (fg4 F14)) t0 (fun w17 c17 hc17 S17 => W_end (en (Qc F14) fun A18 _ F18 => tk H16 (wp_ret (inb_ret (then_ret (rt1 F18 (rvA (fg4 F18) (S17.ob 0 hc17)) ?_))))))))))
  have hD := do_4 (mx := 0) (g := gab G) (c := (⟨kd, a, b, f, p, q, uu⟩ : OpC)) Zf
  unfold asG
  rw [hD]
  exact ⟨rfl, S17.fin0⟩
 refine tb fun _ H19 => (ve (fg1 F10) V (vt (W_end (en (Ka (Qa F10)) fun A20 _ F20 => tk H19 (cd (fg0 F20) (fun c21 => ?_) fun c21 => ?_)))))
 ·refine tb fun _ H22 => (ra (fg5 F20) (S4.ob 2 hc2) (fa 1 (Sa (fg4 F20)) (rL (.int .i64 (a)) t0 (S4.ob 1 hc3) (fa 2 (Sc (fg4 F20)) (rL (.int .i64 (b)) t0 (S4.ob 1 hc3) (wc (args3 (Sd t0) (Sb t0) t0) (qAl_c (a := a) (b := b) (S4.roC Go) (S4.roC Gn) (S4.roC Gr)) (C0 S4 fun w23 S23 => vm t0 (vx (.bool ((alB (G.1.2.map ab) G.2.2 a b))) t0 (vx (.int .i64 ((ckd (G.1.2.map ab) G.2.2 [a, b]))) (Sa t0) (va (Sa t0) (va (Sa t0) (W_end (en (Kb (Qa (Qh F20))) fun A24 _ F24 => ?_)))))))))))))
  have S25 := S23.se [0] [c4]
  refine ta H22 fun _ H26 => (vm (fg0 F24) (vm (Sa (fg1 F24)) (wv (xbS (n := 3) (z := .agg #[.int .i64 0, .bool false, .int .u64 0]) V (parts2 (Sa t0) t0)) (xsA0 S25 hc4 V V V (Sc (fg5 F24)) t0 (fun w27 c27 hc27 S27 => W_end (en (Qc F24) fun A28 _ F28 => tk H26 (wp_ret (inb_ret (then_ret (rt1 F28 (rvA (fg5 F28) (S27.ob 0 hc27)) ?_))))))))))
  have hD := do_8 (mx := 0) (g := gab G) (c := (⟨kd, a, b, f, p, q, uu⟩ : OpC)) Zf
  unfold asG
  rw [hD]
  exact ⟨rfl, S27.fin0⟩
 refine tb fun _ H29 => (ve (fg2 F20) V (vt (W_end (en (Ka (Qa F20)) fun A30 _ F30 => tk H29 (cd (fg0 F30) (fun c31 => ?_) fun c31 => ?_)))))
 ·refine tb fun _ H32 => (ra (fg6 F30) (S4.ob 2 hc2) (fa 1 (Sa (fg5 F30)) (rL (.int .i64 (a)) t0 (S4.ob 1 hc3) (fa 1 (Sc (fg5 F30)) (rL (.int .i64 (a)) t0 (S4.ob 1 hc3) (wc (args3 (Sd t0) (Sb t0) t0) (qAl_c (a := a) (b := a) (S4.roC Go) (S4.roC Gn) (S4.roC Gr)) (C0 S4 fun w33 S33 => vm t0 (vx (.bool ((alB (G.1.2.map ab) G.2.2 a a))) t0 (vx (.int .i64 ((ckd (G.1.2.map ab) G.2.2 [a, a]))) (Sa t0) (va (Sa t0) (va (Sa t0) (W_end (en (Ka (Qb (Qh F30))) fun A34 _ F34 => ta H32 fun _ H35 => (vm (fg0 F34) (vm (Sa (fg0 F34)) (ve t0 V (W_split V V (V_mov V t0) (fun c36 => ?_) (fun c36 => ?_))))))))))))))))))
  ·have hcd : ckd (G.1.2.map ab) G.2.2 [a, a] = 0 := by omega
   have ha := (ckd_0.1 hcd).2 a Zj
   refine wg V t0 (ufa 1 (Sd (fg7 F34))) (wq V (Sa t0) (urL G.2.1 t0 (S33.ob 2 hc2)) (wg V (Sb t0) (ufa 1 (Sf (fg6 F34))) (wq V (Sc t0) (urL (.int .i64 (a)) t0 (S33.ob 1 hc3)) ?_)))
   have k37 : a.toNat < G.2.2.length := by first | omega | (simp only [List.length_cons, List.length_nil]; omega) | (simp only [List.length_set]; omega) | decide
   obtain ⟨y37, hy37⟩ := get_some (xs := G.2.2) (k := a.toNat) k37
   obtain ⟨B37, O37, C37, hv37⟩ := (SlN.blk (sl_SlN Gr.at) kr)
   refine wg V (Sd t0) (V_ixS (off := O37 + a.toNat) 1 a.toNat V (Sb t0) t0 hv37 Za k37 Tryz.underlying25 om (congrArg _ (Nat.mul_one _))) (wq V (Se t0) (urc t0 ((sl_SlN (S33.ro Gr)).cell hv37 (map_get hy37))) (wg V (Sf t0) (uve t0 V) (vT (Sg t0) t0 (wv (xbS (n := 3) (z := .agg #[.int .i64 0, .bool false, .int .u64 0]) V (parts2 (Sh (Sc t0)) t0)) (xsA0 S33 hc4 V V V (Sh (Se (fg5 F34))) t0 (fun w38 c38 hc38 S38 => W_end (en (Qe (Qh F34)) fun A39 _ F39 => tk H35 (wp_ret (inb_ret (then_ret (rt1 F39 (rvA (fg5 F39) (S38.ob 0 hc38)) ?_)))))))))))
   have hD := do_9 (mx := 0) (g := gab G) (c := (⟨kd, a, b, f, p, q, uu⟩ : OpC)) Zf
   unfold asG
   have ht : decide (ckd (gab G).1 (gab G).2 [a, a] = 0 ∧ rg (gab G).2 a = 0) = decide (y37 = 0) := by rw [show rg (gab G).2 a = y37 from rg_at hy37]; exact decide_eq_decide.2 ⟨fun q => q.2, fun q => ⟨hcd, q⟩⟩
   rw [hD]
   simp only [ht]
   exact ⟨rfl, S38.fin0⟩
  refine xo V t0 (xo V (Sa t0) (xo V (Sb t0) (xo V (Sc t0) (xo V (Sd t0) (xo V (Se t0) (xo V (Sf t0) (vF (Sg t0) V (wv (xbS (n := 3) (z := .agg #[.int .i64 0, .bool false, .int .u64 0]) V (parts2 (Sh (Sc t0)) t0)) (xsA0 S33 hc4 V V V (Sh (Se (fg5 F34))) t0 (fun w41 c41 hc41 S41 => W_end (en (Qe (Qh F34)) fun A42 _ F42 => tk H35 (wp_ret (inb_ret (then_ret (rt1 F42 (rvA (fg5 F42) (S41.ob 0 hc41)) ?_)))))))))))))))
  have hD := do_9 (mx := 0) (g := gab G) (c := (⟨kd, a, b, f, p, q, uu⟩ : OpC)) Zf
  unfold asG
  have ht : decide (ckd (gab G).1 (gab G).2 [a, a] = 0 ∧ rg (gab G).2 a = 0) = false := decide_eq_false fun q => c36 q.1
  rw [hD]
  simp only [ht]
  exact ⟨rfl, S41.fin0⟩
 refine tb fun _ H44 => (ve (fg3 F30) V (vt (W_end (en (Ka (Qa F30)) fun A45 _ F45 => tk H44 (cd (fg0 F45) (fun c46 => ?_) fun c46 => ?_)))))
 ·have hsh := sh_rng (rs := G.2.2) (a := a) hsm
  refine tb fun _ H47 => (ra (fg7 F45) (S4.ob 2 hc2) (fa 1 (Sa (fg6 F45)) (rL (.int .i64 (a)) t0 (S4.ob 1 hc3) (wc (args2 (Sb t0) t0) (qSh_c (a := a) (S4.roC Go) (S4.roC Gn) (S4.roC Gr)) (C0 S4 fun w48 S48 => vm t0 (vx (.int .i64 ((shP (G.1.2.map ab) G.2.2 a))) t0 (vx (.int .i64 ((shR (G.1.2.map ab) G.2.2 a))) (Sa t0) (vx (.int .i64 ((shE (G.1.2.map ab) G.2.2 a))) (Sb t0) (va (Sb t0) (va (Sb t0) (va (Sb t0) (W_end (en (Kc (Qh F45)) fun A49 _ F49 => ?_)))))))))))))
  have S50 := S48.se [0] [c4]
  refine ta H47 fun _ H51 => (vm (fg0 F49) (vm (Sa (fg2 F49)) (wv (V_mul V V t0 Za Za) (vm (Sc (fg1 F49)) (ad (Sa t0) t0 (wv (V_cvt V t0 Tryz.underlying3 Tryz.underlying48 (wrap_u64 Za Za)) (wv (xbS (n := 3) (z := .agg #[.int .i64 0, .bool false, .int .u64 0]) V (parts2 (Se t0) t0)) (xsA0 S50 hc4 V V V (Sg (fg8 F49)) t0 (fun w52 c52 hc52 S52 => W_end (en (Qg F49) fun A53 _ F53 => tk H51 (wp_ret (inb_ret (then_ret (rt1 F53 (rvA (fg8 F53) (S52.ob 0 hc52)) ?_))))))))))))))
  have hD := do_10 (mx := 0) (g := gab G) (c := (⟨kd, a, b, f, p, q, uu⟩ : OpC)) Zf
  unfold asG
  rw [hD]
  exact ⟨rfl, S52.fin0⟩
 refine wp_skip (inb_n (ta H6 fun _ H54 => (wv (xbS (n := 3) (z := .agg #[.int .i64 0, .bool false, .int .u64 0]) V parts0) (xsA0 S4 hc4 V V V (Sa (fg5 F45)) t0 (fun w55 c55 hc55 S55 => W_end (en (Qa F45) fun A56 _ F56 => tk H54 (wp_ret (rt1 F56 (rvA (fg5 F56) (S55.ob 0 hc55)) ?_))))))))
 have hD := do_0 (mx := 0) (g := gab G) (c := (⟨kd, a, b, f, p, q, uu⟩ : OpC)) Zf
 unfold asG
 rw [hD]
 exact ⟨rfl, S55.fin0⟩

set_option maxHeartbeats 4000000 in
theorem qdn_c {C N Z K Q : Int} {G : GV} {kd a b f p q uu : Int} {w : World} (hg_G : Ro w NoX (gls [G])) (hsm : SM (G.1.2.map ab)) (hop : (opE (⟨kd, a, b, f, p, q, uu⟩ : OpC)) = 0) (hrl : G.2.2.length ≤ 1048576) (hol : G.1.2.length ≤ 1048576) :
  Calls Tryz.prog 42 #[.agg #[.int .i64 C, .int .i64 N, .int .i64 Z, .int .i64 K, .int .i64 Q], .agg #[G.1.1, G.2.1], .agg #[.int .i64 kd, .int .i64 a, .int .i64 b, .int .i64 f, .int .i64 p, .int .i64 q, .int .u64 uu]] w fun e w' => ∃ ho1 Ho1 qo1 so1, e = .returned (.tuple #[.agg #[ho1, qo1], .agg #[.int .i64 (doG (lgN C N Z K Q) (gab G) (⟨kd, a, b, f, p, q, uu⟩ : OpC)).2.e, .bool (doG (lgN C N Z K Q) (gab G) (⟨kd, a, b, f, p, q, uu⟩ : OpC)).2.t, .int .u64 (doG (lgN C N Z K Q) (gab G) (⟨kd, a, b, f, p, q, uu⟩ : OpC)).2.v]]) ∧ (gab ((ho1, Ho1), (qo1, so1)) = (doG (lgN C N Z K Q) (gab G) (⟨kd, a, b, f, p, q, uu⟩ : OpC)).1) ∧ St w NoX [gls [((ho1, Ho1), (qo1, so1))]] w' := by
 have Go := gl_o m1 hg_G
 have Gn := gl_n m1 hg_G
 have Gr := gl_r m1 hg_G
 refine ci3 140 Tryz.func42 V (fun A0 _ F0 => ?_)
 have hS := St.nil w
 have bGo := SlN.le (sl_SlN Go.at)
 have bGr := SlN.le (sl_SlN Gr.at)
 refine tb fun _ H1 => (wB (#[.int .i64 (C), .int .i64 (N), .int .i64 (Z), .int .i64 (K), .int .i64 (Q)]) hS (fg0 F0) (fun g2 w2 c2 hc2 S2 => wB (#[G.1.1, G.2.1]) S2 (Sa (fg1 F0)) (fun g3 w3 c3 hc3 S3 => wB (#[.int .i64 (kd), .int .i64 (a), .int .i64 (b), .int .i64 (f), .int .i64 (p), .int .i64 (q), .int .u64 (uu)]) S3 (Sb (fg2 F0)) (fun g4 w4 c4 hc4 S4 => wA (#[.slice none 0 0, .slice none 0 0]) S4 (fun g5 w5 c5 hc5 S5 => wA (#[.int .i64 0, .bool false, .int .u64 0]) S5 (fun g6 w6 c6 hc6 S6 => W_end (en (Ke F0) fun A7 _ F7 => ta H1 fun _ H8 => (wv (xbS (n := 2) (z := .agg #[.slice none 0 0, .slice none 0 0]) V parts0) (wA (#[.slice none 0 0, .slice none 0 0]) S6 (fun g9 w9 c9 hc9 S9 => xsA0 S9 hc9 V V V t0 (Sa t0) (fun w10 c10 hc10 S10 => W_end (en (Ka (Qa F7)) fun A11 _ F11 => ta H8 fun _ H12 => (vc (W_end (en (Qa F11) fun A13 _ F13 => tc H12 fun _ H14 => tb fun _ H15 => (fa 0 (fg3 F13) (rL (.int .i64 (kd)) t0 (S10.ob 3 hc4) (W_end (en (Ka (Qa F13)) fun A16 _ F16 => tk H15 (wp_block (tb fun _ H17 => (ve (fg0 F16) V (vt (W_end (en (Ka (Qa F16)) fun A18 _ F18 => tk H17 (cd (fg0 F18) (fun c19 => ?_) fun c19 => ?_))))))))))))))))))))))))))
 ·have hpq := op_al hop c19
  have hlg := lg_rng (C := C) (N := N) (Z := Z) (K := K) (Q := Q)
  refine tb fun _ H20 => (ra (fg6 F18) (S10.ob 4 hc3) (fa 1 (Sa (fg5 F18)) (rL (.int .i64 (a)) t0 (S10.ob 3 hc4) (fa 1 (Sc (fg5 F18)) (rL (.int .i64 (a)) t0 (S10.ob 3 hc4) (wc (args3 (Sd t0) (Sb t0) t0) (qAl_c (a := a) (b := a) (S10.roC Go) (S10.roC Gn) (S10.roC Gr)) (C0 S10 fun w21 S21 => vm t0 (vx (.bool ((alB (G.1.2.map ab) G.2.2 a a))) t0 (vx (.int .i64 ((ckd (G.1.2.map ab) G.2.2 [a, a]))) (Sa t0) (vt (W_end (en (Ka (Qa (Qh F18))) fun A22 _ F22 => tc H20 fun _ H23 => td fun _ H24 => wp_mid (G := fun A' w' => SzN A' 140 ∧ A'.defers = [] ∧ (EV A' (.tmp 3) = EV A22 (.tmp 3)) ∧ (EV A' (.tmp 4) = EV A22 (.tmp 4)) ∧ (EV A' (.tmp 5) = EV A22 (.tmp 5)) ∧ (EV A' (.tmp 6) = EV A22 (.tmp 6)) ∧ (EV A' (.tmp 7) = EV A22 (.tmp 7)) ∧ (EV A' (.tmp 8) = EV A22 (.tmp 8)) ∧ (EV A' (.tmp 9) = EV A22 (.tmp 9)) ∧ (EV A' (.tmp 42) = .bool (decide ((ckd (G.1.2.map ab) G.2.2 [a, a] = 0 ∧ (p < 0 ∨ q < 0))))) ∧ St w NoX [c10, c6, c5, c4, c3, c2] w') ?_ ?_))))))))))))
  ·have j3_25 := (fg8 F22)
   have j4_25 := (fg7 F22)
   have j5_25 := (fg6 F22)
   have j6_25 := (fg5 F22)
   have j7_25 := (fg4 F22)
   have j8_25 := (fg3 F22)
   have j9_25 := (fg0 F22)
   refine region_in (vm (fg0 F22) (ve t0 V (W_split V V (V_mov V t0) (fun c26 => ?_) (fun c26 => ?_))))
   ·refine wg V t0 (ufa 4 (Sc (fg6 F22))) (wq V (Sa t0) (urL (.int .i64 (p)) t0 (S21.ob 3 hc4)) (wg V (Sb t0) (uvl t0 V) (W_split V (xwt V V (Sc t0)) (V_mov V t0) (fun c27 => ?_) (fun c27 => ?_))))
    ·refine xo V t0 (xo V (Sa t0) (xo V (Sb t0) (wg V (Sg t0) (uvT (Sc t0) V) (vT (Sh t0) t0 (W_end (en (Ka (Qc (Qh F22))) fun A28 Y28 F28 => ?_))))))
     exact Mid_n ⟨Y28, F28.d, ((fg9 F28).trans j3_25.symm), ((fg8 F28).trans j4_25.symm), ((fg7 F28).trans j5_25.symm), ((fg6 F28).trans j6_25.symm), ((fg5 F28).trans j7_25.symm), ((fg4 F28).trans j8_25.symm), ((fg1 F28).trans j9_25.symm), ((fg0 F28).trans (congrArg Value.bool ((by first | exact (decide_eq_true Za).symm | exact (decide_eq_false Za).symm | exact decide_eq_decide.2 Za)))), S21⟩
    refine wg V t0 (ufa 5 (Sg (fg6 F22))) (wq V (Sa t0) (urL (.int .i64 (q)) t0 (S21.ob 3 hc4)) (wg V (Sb t0) (uvl t0 V) (wg V (Sg t0) (uvF (Sc t0) t0) (vT (Sh t0) t0 (W_end (en (Ka (Qc (Qh F22))) fun A29 Y29 F29 => ?_))))))
    exact Mid_n ⟨Y29, F29.d, ((fg9 F29).trans j3_25.symm), ((fg8 F29).trans j4_25.symm), ((fg7 F29).trans j5_25.symm), ((fg6 F29).trans j6_25.symm), ((fg5 F29).trans j7_25.symm), ((fg4 F29).trans j8_25.symm), ((fg1 F29).trans j9_25.symm), ((fg0 F29).trans (congrArg Value.bool ((by first | exact (decide_eq_true Za).symm | exact (decide_eq_false Za).symm | exact decide_eq_decide.2 Za)))), S21⟩
   refine xo V t0 (xo V (Sa t0) (xo V (Sb t0) (xo V (Sc t0) (W_off V (wanted_u V V t0 (ez V)) (W_off V (wanted_u V V (Sa t0) (ez V)) (W_off V (wanted_u V V (Sb t0) (ez V)) (xo V (Sg t0) (vF (Sh t0) V (W_end (en (Ka (Qc (Qh F22))) fun A30 Y30 F30 => ?_))))))))))
   exact Mid_n ⟨Y30, F30.d, ((fg9 F30).trans j3_25.symm), ((fg8 F30).trans j4_25.symm), ((fg7 F30).trans j5_25.symm), ((fg6 F30).trans j6_25.symm), ((fg5 F30).trans j7_25.symm), ((fg4 F30).trans j8_25.symm), ((fg1 F30).trans j9_25.symm), ((fg0 F30).trans (congrArg Value.bool ((by first | exact (decide_eq_true Za).symm | exact (decide_eq_false Za).symm | exact decide_eq_decide.2 Za)))), S21⟩
  rintro A25 w25 ⟨Y25, hdf25, u3_25, u4_25, u5_25, u6_25, u7_25, u8_25, u9_25, l42_25, S25⟩
  have l3_25 := u3_25.trans (fg8 F22)
  have l4_25 := u4_25.trans (fg7 F22)
  have l5_25 := u5_25.trans (fg6 F22)
  have l6_25 := u6_25.trans (fg5 F22)
  have l7_25 := u7_25.trans (fg4 F22)
  have l8_25 := u8_25.trans (fg3 F22)
  have l9_25 := u9_25.trans (fg0 F22)
  refine tk H24 (cd l42_25 (fun c31 => ?_) fun c31 => ?_)
  ·refine region_in (vc (W_end (en ((((((((ck (FS.n hdf25) V V)).c (es V l3_25)).c (es V l4_25)).c (es V l5_25)).c (es V l6_25)).c (es V l7_25)).c (Sa l8_25)) fun A32 _ F32 => ta H23 fun _ H33 => (ra (fg5 F32) (S25.ob 5 hc2) (wc (args1 t0) (qlg_c (C := C) (N := N) (Z := Z) (K := K) (Q := Q)) (C0 S25 fun w34 S34 => vm t0 (vx (.int .i64 (lgN C N Z K Q)) t0 (vx (.int .i64 (cfE C N Z K Q)) (Sa t0) (va (Sa t0) (va (Sa t0) (W_end (en (Qa (Ka (Qe F32))) fun A35 _ F35 => ?_))))))))))))
   have S36 := S34.se [0, 1, 2, 3, 4] [c10, c6, c5, c4, c3]
   refine tc H33 fun _ H37 => tb fun _ H38 => (vm (fg7 F35) (ve t0 V (W_sure (c' := false) V V (V_mov V t0) Zg (xo V t0 (xo V (Sa t0) (xo V (Sb t0) (xo V (Sc t0) (xo V (Sd t0) (xo V (Se t0) (xo V (Sf t0) (xo V (Sg t0) (vF (Sh t0) V (W_end (en (Ka (Qc (Qh F35))) fun A39 _ F39 => tk H38 (cond_f (fg0 F39) (wp_skip (ta H37 fun _ H40 => (vm (fg8 F39) (ve t0 V (W_end (en (Ka (Qa F39)) fun A41 _ F41 => tk H40 (cond_not (fg0 F41) Zg (wp_skip (inb_n (tc H14 fun _ H42 => tb fun _ H43 => (vm (fg9 F41) (vn t0 V (W_end (en (Ka (Qa F41)) fun A44 _ F44 => ?_)))))))))))))))))))))))))))))
   have S45 := S36.se [0, 1, 2, 4] [c10, c6, c5, c3]
   refine tk H43 (cond_sure (fg0 F44) Zg (tb fun _ H46 => (ra (fg8 F44) (S45.ob 3 hc3) (wc (args1 t0) ((glC (F := fun a_ b_ => .agg #[a_, b_]) (qCn_c (S45.roC Go) (S45.roC Gn) (S45.roC Gr) Zc (by first | omega | (have q := hG.r8; omega)) (by first | omega | (have q := hG.o4; rw [List.length_map] at q; omega))))) (fun _ w47 ⟨hv_47, H_47, qv_47, q_47, e, hg_47, hP47⟩ => ⟨_, e, ?_⟩)))))
   obtain ⟨cK_47, hcK_47, hP47⟩ := gen1 hP47
   have S47 := S45.j1 hP47
   refine vm (Sb (fg10 F44)) (wv (xbS (n := 3) (z := .agg #[.int .i64 0, .bool false, .int .u64 0]) V (parts1 t0)) (xsB3 S47 hc5 V V V (Sd (fg6 F44)) (Sb t0) (by simp only [List.all_toArray, List.all_cons, List.all_nil, obC, grC, SlN_one (sl_SlN (gl_oa m1 (S47.cq 0 hcK_47))), SlN_one (sl_SlN (gl_ra m1 (S47.cq 0 hcK_47)))] <;> rfl) (fun w48 c48 hc48 S48 => xsA2 S48 hc6 V V V (Sd (fg5 F44)) t0 (fun w49 c49 hc49 S49 => W_end (en (Qd F44) fun A50 _ F50 => tk H46 (wp_ret (then_ret (rt2 F50 (rvA (fg6 F50) (S49.ob 3 hc48)) (rvA (fg5 F50) (S49.ob 2 hc49)) ?_))))))))
   have hA : (alA (lgN C N Z K Q) (gab G) a p q) = 10 := alA_b (by simp only [ne_eq, Decidable.not_not]; exact c31.1) c31.2
   have hD := (do_1 (mx := lgN C N Z K Q) (g := gab G) (c := (⟨kd, a, b, f, p, q, uu⟩ : OpC)) Zf).trans ((congrArg (fun z => fin (gab G) z _) hA).trans (fin_n Za))
   rw [hD]
   exact ⟨hv_47, H_47, qv_47, q_47, rfl, hg_47, (S49.f1 0 hcK_47)⟩
  refine wp_skip (ta H23 fun _ H52 => (ra l3_25 (S25.ob 5 hc2) (wc (args1 t0) (qlg_c (C := C) (N := N) (Z := Z) (K := K) (Q := Q)) (C0 S25 fun w53 S53 => vm t0 (vx (.int .i64 (lgN C N Z K Q)) t0 (vx (.int .i64 (cfE C N Z K Q)) (Sa t0) (va (Sa t0) (va (Sa t0) (W_end (en ((((((((cq1 (ck (cq5 (FS.n hdf25) V) V V) V)).c (es7 V l4_25)).c (es7 V l5_25)).c (es7 V l6_25)).c (es7 V l7_25)).c (es7 V l8_25)).c (Sg l9_25)) fun A54 _ F54 => ?_))))))))))
  have S55 := S53.se [0, 1, 2, 3, 4] [c10, c6, c5, c4, c3]
  refine tc H52 fun _ H56 => tb fun _ H57 => (vm (fg0 F54) (ve t0 V (W_split V V (V_mov V t0) (fun c58 => ?_) (fun c58 => ?_))))
  ·refine wg V t0 (ufa 4 (Sc (fg4 F54))) (wq V (Sa t0) (urL (.int .i64 (p)) t0 (S55.ob 3 hc4)) (wg V (Sb t0) (uad V t0) (wg V (Sc t0) (ufa 5 (Sf (fg4 F54))) (wq V (Sd t0) (urL (.int .i64 (q)) t0 (S55.ob 3 hc4)) (wg V (Se t0) (uad (Sb t0) t0) (wg V (Sf t0) (uvm (Sh (Sa (fg6 F54)))) (wg V (Sg t0) (uvg (Sa t0) t0) (vT (Sh t0) t0 (W_end (en (Ka (Qc (Qh F54))) fun A59 _ F59 => tk H57 (cd (fg0 F59) (fun c60 => ?_) fun c60 => ?_)))))))))))
   ·refine region_in (vc (W_end (en (Ka (fx1 F59)) fun A61 _ F61 => ta H56 fun _ H62 => (vm (fg0 F61) (ve t0 V (W_end (en (Ka (Qa F61)) fun A63 _ F63 => tk H62 (cond_not (fg0 F63) Zg (wp_skip (inb_n (tc H14 fun _ H64 => tb fun _ H65 => vm (fg1 F63) (vn t0 V (W_end (en (Ka (Qa F63)) fun A66 _ F66 => ?_))))))))))))))
    have S67 := S55.se [0, 1, 2, 4] [c10, c6, c5, c3]
    refine tk H65 (cond_sure (fg0 F66) Zg (tb fun _ H68 => (ra (fg8 F66) (S67.ob 3 hc3) (wc (args1 t0) ((glC (F := fun a_ b_ => .agg #[a_, b_]) (qCn_c (S67.roC Go) (S67.roC Gn) (S67.roC Gr) Zc (by first | omega | (have q := hG.r8; omega)) (by first | omega | (have q := hG.o4; rw [List.length_map] at q; omega))))) (fun _ w69 ⟨hv_69, H_69, qv_69, q_69, e, hg_69, hP69⟩ => ⟨_, e, ?_⟩)))))
    obtain ⟨cK_69, hcK_69, hP69⟩ := gen1 hP69
    have S69 := S67.j1 hP69
    refine vm (Sb (fg2 F66)) (wv (xbS (n := 3) (z := .agg #[.int .i64 0, .bool false, .int .u64 0]) V (parts1 t0)) (xsB3 S69 hc5 V V V (Sd (fg6 F66)) (Sb t0) (by simp only [List.all_toArray, List.all_cons, List.all_nil, obC, grC, SlN_one (sl_SlN (gl_oa m1 (S69.cq 0 hcK_69))), SlN_one (sl_SlN (gl_ra m1 (S69.cq 0 hcK_69)))] <;> rfl) (fun w70 c70 hc70 S70 => xsA2 S70 hc6 V V V (Sd (fg5 F66)) t0 (fun w71 c71 hc71 S71 => W_end (en (Qd F66) fun A72 _ F72 => tk H68 (wp_ret (then_ret (rt2 F72 (rvA (fg6 F72) (S71.ob 3 hc70)) (rvA (fg5 F72) (S71.ob 2 hc71)) ?_))))))))
    have hA : (alA (lgN C N Z K Q) (gab G) a p q) = 11 := alA_t (by simp only [ne_eq, Decidable.not_not]; show ckd (G.1.2.map ab) G.2.2 [a, a] = 0; omega) Za Za
    have hD := (do_1 (mx := lgN C N Z K Q) (g := gab G) (c := (⟨kd, a, b, f, p, q, uu⟩ : OpC)) Zf).trans ((congrArg (fun z => fin (gab G) z _) hA).trans (fin_n Za))
    rw [hD]
    exact ⟨hv_69, H_69, qv_69, q_69, rfl, hg_69, (S71.f1 0 hcK_69)⟩
   refine wp_skip (ta H56 fun _ H74 => (vm (fg1 F59) (ve t0 V (W_end (en (Ka (Qa F59)) fun A75 _ F75 => tk H74 (cond_sure (fg0 F75) (by first | (simp [c58]; done) | exact decide_eq_true Za | exact decide_eq_false Za) (region_in (ra (fg7 F75) (S55.ob 4 hc3) (fa 1 (Sa (fg6 F75)) (rL (.int .i64 (a)) t0 (S55.ob 3 hc4) (fa 4 (Sc (fg6 F75)) (rL (.int .i64 (p)) t0 (S55.ob 3 hc4) (fa 5 (Se (fg6 F75)) (rL (.int .i64 (q)) t0 (S55.ob 3 hc4) (wc (args4 (Sf t0) (Sd t0) (Sb t0) t0) ((glC (F := fun a_ b_ => .tuple #[.agg #[a_, b_], .int .i64 (alE (G.1.2.map ab) G.2.2 a p q)]) (qAlloc_c (a := a) (p := p) (r := q) (S55.roC Go) (S55.roC Gn) (S55.roC Gr) Zc))) (fun _ w76 ⟨hv_76, H_76, qv_76, q_76, e, hg_76, hP76⟩ => ⟨_, e, ?_⟩))))))))))))))))
   obtain ⟨cK_76, hcK_76, hP76⟩ := gen1 hP76
   have S76 := S55.j1 hP76
   refine vm t0 (vx (.agg #[hv_76, qv_76]) t0 (vx (.int .i64 ((alE (G.1.2.map ab) G.2.2 a p q))) (Sa t0) (xsB1 S76 hc10 V V V (Sh (Sc (fg3 F75))) (Sa t0) (by simp only [List.all_toArray, List.all_cons, List.all_nil, obC, grC, SlN_one (sl_SlN (gl_oa m1 (S76.cq 0 hcK_76))), SlN_one (sl_SlN (gl_ra m1 (S76.cq 0 hcK_76)))] <;> rfl) (fun w77 c77 hc77 S77 => vt (W_end (en (Ka (Qc (Qh (fx2 F75)))) fun A78 _ F78 => ?_))))))
   have S79 := S77.se [0, 1, 2, 3, 5] [cK_76, c77, c6, c5, c3]
   refine inb_n (tc H14 fun _ H80 => tb fun _ H81 => (vm (fg0 F78) (vn t0 V (W_end (en (Ka (Qa F78)) fun A82 _ F82 => tk H81 (cd (fg0 F82) (fun c83 => ?_) fun c83 => ?_))))))
   ·refine tb fun _ H84 => (ra (fg8 F82) (S79.ob 4 hc3) (wc (args1 t0) ((glC (F := fun a_ b_ => .agg #[a_, b_]) (qCn_c (S79.roC Go) (S79.roC Gn) (S79.roC Gr) Zc (by first | omega | (have q := hG.r8; omega)) (by first | omega | (have q := hG.o4; rw [List.length_map] at q; omega))))) (fun _ w85 ⟨hv_85, H_85, qv_85, q_85, e, hg_85, hP85⟩ => ⟨_, e, ?_⟩)))
    obtain ⟨cK_85, hcK_85, hP85⟩ := gen1 hP85
    have S85 := S79.j1 hP85
    refine vm (Sb (fg1 F82)) (wv (xbS (n := 3) (z := .agg #[.int .i64 0, .bool false, .int .u64 0]) V (parts1 t0)) (xsB4 S85 hc5 V V V (Sd (fg6 F82)) (Sb t0) (by simp only [List.all_toArray, List.all_cons, List.all_nil, obC, grC, SlN_one (sl_SlN (gl_oa m1 (S85.cq 0 hcK_85))), SlN_one (sl_SlN (gl_ra m1 (S85.cq 0 hcK_85)))] <;> rfl) (fun w86 c86 hc86 S86 => xsA3 S86 hc6 V V V (Sd (fg5 F82)) t0 (fun w87 c87 hc87 S87 => W_end (en (Qd F82) fun A88 _ F88 => tk H84 (wp_ret (then_ret (rt2 F88 (rvA (fg6 F88) (S87.ob 4 hc86)) (rvA (fg5 F88) (S87.ob 3 hc87)) ?_))))))))
    have hA : (alA (lgN C N Z K Q) (gab G) a p q) = (alE (G.1.2.map ab) G.2.2 a p q) := alA_k (by simp only [ne_eq, Decidable.not_not]; show ckd (G.1.2.map ab) G.2.2 [a, a] = 0; omega) Za Za
    have hD := (do_1 (mx := lgN C N Z K Q) (g := gab G) (c := (⟨kd, a, b, f, p, q, uu⟩ : OpC)) Zf).trans ((congrArg (fun z => fin (gab G) z _) hA).trans (fin_n Za))
    rw [hD]
    exact ⟨hv_85, H_85, qv_85, q_85, rfl, hg_85, (S87.f1 0 hcK_85)⟩
   refine wp_skip (ta H80 fun _ H90 => (ra (fg4 F82) (S79.ob 1 hc77) (wv (xbS (n := 3) (z := .agg #[.int .i64 0, .bool false, .int .u64 0]) V parts0) (xsB3 S79 hc5 V V V (Sb (fg6 F82)) (Sa t0) (by simp only [List.all_toArray, List.all_cons, List.all_nil, obC, grC, SlN_one (sl_SlN (gl_oa m1 (S79.cq 0 hcK_76))), SlN_one (sl_SlN (gl_ra m1 (S79.cq 0 hcK_76)))] <;> rfl) (fun w91 c91 hc91 S91 => xsA2 S91 hc6 V V V (Sb (fg5 F82)) t0 (fun w92 c92 hc92 S92 => W_end (en (Qb F82) fun A93 _ F93 => tk H90 (wp_ret (rt2 F93 (rvA (fg6 F93) (S92.ob 3 hc91)) (rvA (fg5 F93) (S92.ob 2 hc92)) ?_)))))))))
   have hA : (alA (lgN C N Z K Q) (gab G) a p q) = (alE (G.1.2.map ab) G.2.2 a p q) := alA_k (by simp only [ne_eq, Decidable.not_not]; show ckd (G.1.2.map ab) G.2.2 [a, a] = 0; omega) Za Za
   have hD := (do_1 (mx := lgN C N Z K Q) (g := gab G) (c := (⟨kd, a, b, f, p, q, uu⟩ : OpC)) Zf).trans ((congrArg (fun z => fin (gab G) z _) hA).trans (fin_0 Za))
   rw [hD]
   exact ⟨hv_76, H_76, qv_76, q_76, rfl, hg_76, (S92.f1 0 hcK_76)⟩
  refine xo V t0 (xo V (Sa t0) (xo V (Sb t0) (xo V (Sc t0) (xo V (Sd t0) (xo V (Se t0) (xo V (Sf t0) (xo V (Sg t0) (vF (Sh t0) V (W_end (en (Ka (Qc (Qh F54))) fun A95 _ F95 => tk H57 (cond_f (fg0 F95) (wp_skip (ta H56 fun _ H96 => (vm (fg1 F95) (ve t0 V (W_end (en (Ka (Qa F95)) fun A97 _ F97 => tk H96 (cond_not (fg0 F97) (by first | (simp [c58]; done) | exact decide_eq_true Za | exact decide_eq_false Za) (wp_skip (inb_n (tc H14 fun _ H98 => tb fun _ H99 => (vm (fg2 F97) (vn t0 V (W_end (en (Ka (Qa F97)) fun A100 _ F100 => ?_)))))))))))))))))))))))))
  have S101 := S55.se [0, 1, 2, 4] [c10, c6, c5, c3]
  refine tk H99 (cond_sure (fg0 F100) (by first | (simp [c58]; done) | exact decide_eq_true Za | exact decide_eq_false Za) (tb fun _ H102 => (ra (fg8 F100) (S101.ob 3 hc3) (wc (args1 t0) ((glC (F := fun a_ b_ => .agg #[a_, b_]) (qCn_c (S101.roC Go) (S101.roC Gn) (S101.roC Gr) Zc (by first | omega | (have q := hG.r8; omega)) (by first | omega | (have q := hG.o4; rw [List.length_map] at q; omega))))) (fun _ w103 ⟨hv_103, H_103, qv_103, q_103, e, hg_103, hP103⟩ => ⟨_, e, ?_⟩)))))
  obtain ⟨cK_103, hcK_103, hP103⟩ := gen1 hP103
  have S103 := S101.j1 hP103
  refine vm (Sb (fg3 F100)) (wv (xbS (n := 3) (z := .agg #[.int .i64 0, .bool false, .int .u64 0]) V (parts1 t0)) (xsB3 S103 hc5 V V V (Sd (fg6 F100)) (Sb t0) (by simp only [List.all_toArray, List.all_cons, List.all_nil, obC, grC, SlN_one (sl_SlN (gl_oa m1 (S103.cq 0 hcK_103))), SlN_one (sl_SlN (gl_ra m1 (S103.cq 0 hcK_103)))] <;> rfl) (fun w104 c104 hc104 S104 => xsA2 S104 hc6 V V V (Sd (fg5 F100)) t0 (fun w105 c105 hc105 S105 => W_end (en (Qd F100) fun A106 _ F106 => tk H102 (wp_ret (then_ret (rt2 F106 (rvA (fg6 F106) (S105.ob 3 hc104)) (rvA (fg5 F106) (S105.ob 2 hc105)) ?_))))))))
  have hA : (alA (lgN C N Z K Q) (gab G) a p q) = (ckd (G.1.2.map ab) G.2.2 [a, a]) := alA_e (by show ckd (G.1.2.map ab) G.2.2 [a, a] ≠ 0; omega)
  have hD := (do_1 (mx := lgN C N Z K Q) (g := gab G) (c := (⟨kd, a, b, f, p, q, uu⟩ : OpC)) Zf).trans ((congrArg (fun z => fin (gab G) z _) hA).trans (fin_n Za))
  rw [hD]
  exact ⟨hv_103, H_103, qv_103, q_103, rfl, hg_103, (S105.f1 0 hcK_103)⟩
 refine tb fun _ H108 => (ve (fg1 F18) V (vt (W_end (en (Ka (Qa F18)) fun A109 _ F109 => ?_))))
 have S110 := S10.se [0, 1, 2, 3, 4] [c10, c6, c5, c4, c3]
 refine tk H108 (cd (fg0 F109) (fun c111 => ?_) fun c111 => ?_)
 ·refine region_in (ra (fg7 F109) (S110.ob 4 hc3) (fa 1 (Sa (fg6 F109)) (rL (.int .i64 (a)) t0 (S110.ob 3 hc4) (fa 2 (Sc (fg6 F109)) (rL (.int .i64 (b)) t0 (S110.ob 3 hc4) (fa 3 (Se (fg6 F109)) (rL (.int .i64 (f)) t0 (S110.ob 3 hc4) (wc (args4 (Sf t0) (Sd t0) (Sb t0) t0) ((glC (F := fun a_ b_ => .tuple #[.agg #[a_, b_], .int .i64 (ptE (G.1.2.map ab) G.2.2 [a, b] b f)]) (qLoad_c (a := a) (b := b) (f := f) (S110.roC Go) (S110.roC Gn) (S110.roC Gr) Zc))) (fun _ w112 ⟨hv_112, H_112, qv_112, q_112, e, hg_112, hP112⟩ => ⟨_, e, ?_⟩)))))))))
  obtain ⟨cK_112, hcK_112, hP112⟩ := gen1 hP112
  have S112 := S110.j1 hP112
  refine vm t0 (vx (.agg #[hv_112, qv_112]) t0 (vx (.int .i64 ((ptE (G.1.2.map ab) G.2.2 [a, b] b f))) (Sa t0) (xsB1 S112 hc10 V V V (Sh (Sc (fg3 F109))) (Sa t0) (by simp only [List.all_toArray, List.all_cons, List.all_nil, obC, grC, SlN_one (sl_SlN (gl_oa m1 (S112.cq 0 hcK_112))), SlN_one (sl_SlN (gl_ra m1 (S112.cq 0 hcK_112)))] <;> rfl) (fun w113 c113 hc113 S113 => vt (W_end (en (Ka (Qc (Qh F109))) fun A114 _ F114 => ?_))))))
  have S115 := S113.se [0, 1, 2, 3, 5] [cK_112, c113, c6, c5, c3]
  refine inb_n (tc H14 fun _ H116 => tb fun _ H117 => (vm (fg0 F114) (vn t0 V (W_end (en (Ka (Qa F114)) fun A118 _ F118 => tk H117 (cd (fg0 F118) (fun c119 => ?_) fun c119 => ?_))))))
  ·refine tb fun _ H120 => (ra (fg9 F118) (S115.ob 4 hc3) (wc (args1 t0) ((glC (F := fun a_ b_ => .agg #[a_, b_]) (qCn_c (S115.roC Go) (S115.roC Gn) (S115.roC Gr) Zc (by first | omega | (have q := hG.r8; omega)) (by first | omega | (have q := hG.o4; rw [List.length_map] at q; omega))))) (fun _ w121 ⟨hv_121, H_121, qv_121, q_121, e, hg_121, hP121⟩ => ⟨_, e, ?_⟩)))
   obtain ⟨cK_121, hcK_121, hP121⟩ := gen1 hP121
   have S121 := S115.j1 hP121
   refine vm (Sb (fg1 F118)) (wv (xbS (n := 3) (z := .agg #[.int .i64 0, .bool false, .int .u64 0]) V (parts1 t0)) (xsB4 S121 hc5 V V V (Sd (fg7 F118)) (Sb t0) (by simp only [List.all_toArray, List.all_cons, List.all_nil, obC, grC, SlN_one (sl_SlN (gl_oa m1 (S121.cq 0 hcK_121))), SlN_one (sl_SlN (gl_ra m1 (S121.cq 0 hcK_121)))] <;> rfl) (fun w122 c122 hc122 S122 => xsA3 S122 hc6 V V V (Sd (fg6 F118)) t0 (fun w123 c123 hc123 S123 => W_end (en (Qd F118) fun A124 _ F124 => tk H120 (wp_ret (then_ret (rt2 F124 (rvA (fg7 F124) (S123.ob 4 hc122)) (rvA (fg6 F124) (S123.ob 3 hc123)) ?_))))))))
   have hD := (do_2 (mx := lgN C N Z K Q) (g := gab G) (c := (⟨kd, a, b, f, p, q, uu⟩ : OpC)) Zf).trans (fin_n (show (ptE (G.1.2.map ab) G.2.2 [a, b] b f) ≠ 0 by omega))
   rw [hD]
   exact ⟨hv_121, H_121, qv_121, q_121, rfl, hg_121, (S123.f1 0 hcK_121)⟩
  refine wp_skip (ta H116 fun _ H126 => (ra (fg5 F118) (S115.ob 1 hc113) (wv (xbS (n := 3) (z := .agg #[.int .i64 0, .bool false, .int .u64 0]) V parts0) (xsB3 S115 hc5 V V V (Sb (fg7 F118)) (Sa t0) (by simp only [List.all_toArray, List.all_cons, List.all_nil, obC, grC, SlN_one (sl_SlN (gl_oa m1 (S115.cq 0 hcK_112))), SlN_one (sl_SlN (gl_ra m1 (S115.cq 0 hcK_112)))] <;> rfl) (fun w127 c127 hc127 S127 => xsA2 S127 hc6 V V V (Sb (fg6 F118)) t0 (fun w128 c128 hc128 S128 => W_end (en (Qb F118) fun A129 _ F129 => tk H126 (wp_ret (rt2 F129 (rvA (fg7 F129) (S128.ob 3 hc127)) (rvA (fg6 F129) (S128.ob 2 hc128)) ?_)))))))))
  have hD := (do_2 (mx := lgN C N Z K Q) (g := gab G) (c := (⟨kd, a, b, f, p, q, uu⟩ : OpC)) Zf).trans (fin_0 (show (ptE (G.1.2.map ab) G.2.2 [a, b] b f) = 0 by omega))
  rw [hD]
  exact ⟨hv_112, H_112, qv_112, q_112, rfl, hg_112, (S128.f1 0 hcK_112)⟩
 refine tb fun _ H131 => (ve (fg2 F109) V (vt (W_end (en (Ka (Qa F109)) fun A132 _ F132 => tk H131 (cd (fg0 F132) (fun c133 => ?_) fun c133 => ?_)))))
 ·refine region_in (ra (fg8 F132) (S110.ob 4 hc3) (fa 1 (Sa (fg7 F132)) (rL (.int .i64 (a)) t0 (S110.ob 3 hc4) (fa 3 (Sc (fg7 F132)) (rL (.int .i64 (f)) t0 (S110.ob 3 hc4) (fa 2 (Se (fg7 F132)) (rL (.int .i64 (b)) t0 (S110.ob 3 hc4) (wc (args4 (Sf t0) (Sd t0) (Sb t0) t0) ((glC (F := fun a_ b_ => .tuple #[.agg #[a_, b_], .int .i64 (ptE (G.1.2.map ab) G.2.2 [a, b] a f)]) (qStore_c (a := a) (f := f) (b := b) (S110.roC Go) (S110.roC Gn) (S110.roC Gr) Zc))) (fun _ w134 ⟨hv_134, H_134, qv_134, q_134, e, hg_134, hP134⟩ => ⟨_, e, ?_⟩)))))))))
  obtain ⟨cK_134, hcK_134, hP134⟩ := gen1 hP134
  have S134 := S110.j1 hP134
  refine vm t0 (vx (.agg #[hv_134, qv_134]) t0 (vx (.int .i64 ((ptE (G.1.2.map ab) G.2.2 [a, b] a f))) (Sa t0) (xsB1 S134 hc10 V V V (Sh (Sc (fg4 F132))) (Sa t0) (by simp only [List.all_toArray, List.all_cons, List.all_nil, obC, grC, SlN_one (sl_SlN (gl_oa m1 (S134.cq 0 hcK_134))), SlN_one (sl_SlN (gl_ra m1 (S134.cq 0 hcK_134)))] <;> rfl) (fun w135 c135 hc135 S135 => vt (W_end (en (Ka (Qc (Qh F132))) fun A136 _ F136 => ?_))))))
  have S137 := S135.se [0, 1, 2, 3, 5] [cK_134, c135, c6, c5, c3]
  refine inb_n (tc H14 fun _ H138 => tb fun _ H139 => (vm (fg0 F136) (vn t0 V (W_end (en (Ka (Qa F136)) fun A140 _ F140 => tk H139 (cd (fg0 F140) (fun c141 => ?_) fun c141 => ?_))))))
  ·refine tb fun _ H142 => (ra (fg10 F140) (S137.ob 4 hc3) (wc (args1 t0) ((glC (F := fun a_ b_ => .agg #[a_, b_]) (qCn_c (S137.roC Go) (S137.roC Gn) (S137.roC Gr) Zc (by first | omega | (have q := hG.r8; omega)) (by first | omega | (have q := hG.o4; rw [List.length_map] at q; omega))))) (fun _ w143 ⟨hv_143, H_143, qv_143, q_143, e, hg_143, hP143⟩ => ⟨_, e, ?_⟩)))
   obtain ⟨cK_143, hcK_143, hP143⟩ := gen1 hP143
   have S143 := S137.j1 hP143
   refine vm (Sb (fg1 F140)) (wv (xbS (n := 3) (z := .agg #[.int .i64 0, .bool false, .int .u64 0]) V (parts1 t0)) (xsB4 S143 hc5 V V V (Sd (fg8 F140)) (Sb t0) (by simp only [List.all_toArray, List.all_cons, List.all_nil, obC, grC, SlN_one (sl_SlN (gl_oa m1 (S143.cq 0 hcK_143))), SlN_one (sl_SlN (gl_ra m1 (S143.cq 0 hcK_143)))] <;> rfl) (fun w144 c144 hc144 S144 => xsA3 S144 hc6 V V V (Sd (fg7 F140)) t0 (fun w145 c145 hc145 S145 => W_end (en (Qd F140) fun A146 _ F146 => tk H142 (wp_ret (then_ret (rt2 F146 (rvA (fg8 F146) (S145.ob 4 hc144)) (rvA (fg7 F146) (S145.ob 3 hc145)) ?_))))))))
   have hD := (do_3 (mx := lgN C N Z K Q) (g := gab G) (c := (⟨kd, a, b, f, p, q, uu⟩ : OpC)) Zf).trans (fin_n (show (ptE (G.1.2.map ab) G.2.2 [a, b] a f) ≠ 0 by omega))
   rw [hD]
   exact ⟨hv_143, H_143, qv_143, q_143, rfl, hg_143, (S145.f1 0 hcK_143)⟩
  refine wp_skip (ta H138 fun _ H148 => (ra (fg6 F140) (S137.ob 1 hc135) (wv (xbS (n := 3) (z := .agg #[.int .i64 0, .bool false, .int .u64 0]) V parts0) (xsB3 S137 hc5 V V V (Sb (fg8 F140)) (Sa t0) (by simp only [List.all_toArray, List.all_cons, List.all_nil, obC, grC, SlN_one (sl_SlN (gl_oa m1 (S137.cq 0 hcK_134))), SlN_one (sl_SlN (gl_ra m1 (S137.cq 0 hcK_134)))] <;> rfl) (fun w149 c149 hc149 S149 => xsA2 S149 hc6 V V V (Sb (fg7 F140)) t0 (fun w150 c150 hc150 S150 => W_end (en (Qb F140) fun A151 _ F151 => tk H148 (wp_ret (rt2 F151 (rvA (fg8 F151) (S150.ob 3 hc149)) (rvA (fg7 F151) (S150.ob 2 hc150)) ?_)))))))))
  have hD := (do_3 (mx := lgN C N Z K Q) (g := gab G) (c := (⟨kd, a, b, f, p, q, uu⟩ : OpC)) Zf).trans (fin_0 (show (ptE (G.1.2.map ab) G.2.2 [a, b] a f) = 0 by omega))
  rw [hD]
  exact ⟨hv_134, H_134, qv_134, q_134, rfl, hg_134, (S150.f1 0 hcK_134)⟩
 refine tb fun _ H153 => (ve (fg3 F132) V (vt (W_end (en (Ka (Qa F132)) fun A154 _ F154 => tk H153 (cd (fg0 F154) (fun c155 => ?_) fun c155 => ?_)))))
 ·refine region_in (ra (fg9 F154) (S110.ob 4 hc3) (fa 1 (Sa (fg8 F154)) (rL (.int .i64 (a)) t0 (S110.ob 3 hc4) (fa 3 (Sc (fg8 F154)) (rL (.int .i64 (f)) t0 (S110.ob 3 hc4) (fa 6 (Se (fg8 F154)) (rL (.int .u64 (uu)) t0 (S110.ob 3 hc4) (wc (args4 (Sf t0) (Sd t0) (Sb t0) t0) ((glC (F := fun a_ b_ => .tuple #[.agg #[a_, b_], .int .i64 (rwE (G.1.2.map ab) G.2.2 [a] a f)]) (qWrite_c (a := a) (f := f) (x := uu) (S110.roC Go) (S110.roC Gn) (S110.roC Gr) Zc))) (fun _ w156 ⟨hv_156, H_156, qv_156, q_156, e, hg_156, hP156⟩ => ⟨_, e, ?_⟩)))))))))
  obtain ⟨cK_156, hcK_156, hP156⟩ := gen1 hP156
  have S156 := S110.j1 hP156
  refine vm t0 (vx (.agg #[hv_156, qv_156]) t0 (vx (.int .i64 ((rwE (G.1.2.map ab) G.2.2 [a] a f))) (Sa t0) (xsB1 S156 hc10 V V V (Sh (Sc (fg5 F154))) (Sa t0) (by simp only [List.all_toArray, List.all_cons, List.all_nil, obC, grC, SlN_one (sl_SlN (gl_oa m1 (S156.cq 0 hcK_156))), SlN_one (sl_SlN (gl_ra m1 (S156.cq 0 hcK_156)))] <;> rfl) (fun w157 c157 hc157 S157 => vt (W_end (en (Ka (Qc (Qh F154))) fun A158 _ F158 => ?_))))))
  have S159 := S157.se [0, 1, 2, 3, 5] [cK_156, c157, c6, c5, c3]
  refine inb_n (tc H14 fun _ H160 => tb fun _ H161 => (vm (fg0 F158) (vn t0 V (W_end (en (Ka (Qa F158)) fun A162 _ F162 => tk H161 (cd (fg0 F162) (fun c163 => ?_) fun c163 => ?_))))))
  ·refine tb fun _ H164 => (ra (fg11 F162) (S159.ob 4 hc3) (wc (args1 t0) ((glC (F := fun a_ b_ => .agg #[a_, b_]) (qCn_c (S159.roC Go) (S159.roC Gn) (S159.roC Gr) Zc (by first | omega | (have q := hG.r8; omega)) (by first | omega | (have q := hG.o4; rw [List.length_map] at q; omega))))) (fun _ w165 ⟨hv_165, H_165, qv_165, q_165, e, hg_165, hP165⟩ => ⟨_, e, ?_⟩)))
   obtain ⟨cK_165, hcK_165, hP165⟩ := gen1 hP165
   have S165 := S159.j1 hP165
   refine vm (Sb (fg1 F162)) (wv (xbS (n := 3) (z := .agg #[.int .i64 0, .bool false, .int .u64 0]) V (parts1 t0)) (xsB4 S165 hc5 V V V (Sd (fg9 F162)) (Sb t0) (by simp only [List.all_toArray, List.all_cons, List.all_nil, obC, grC, SlN_one (sl_SlN (gl_oa m1 (S165.cq 0 hcK_165))), SlN_one (sl_SlN (gl_ra m1 (S165.cq 0 hcK_165)))] <;> rfl) (fun w166 c166 hc166 S166 => xsA3 S166 hc6 V V V (Sd (fg8 F162)) t0 (fun w167 c167 hc167 S167 => W_end (en (Qd F162) fun A168 _ F168 => tk H164 (wp_ret (then_ret (rt2 F168 (rvA (fg9 F168) (S167.ob 4 hc166)) (rvA (fg8 F168) (S167.ob 3 hc167)) ?_))))))))
   have hD := (do_5 (mx := lgN C N Z K Q) (g := gab G) (c := (⟨kd, a, b, f, p, q, uu⟩ : OpC)) Zf).trans (fin_n (show (rwE (G.1.2.map ab) G.2.2 [a] a f) ≠ 0 by omega))
   rw [hD]
   exact ⟨hv_165, H_165, qv_165, q_165, rfl, hg_165, (S167.f1 0 hcK_165)⟩
  refine wp_skip (ta H160 fun _ H170 => (ra (fg7 F162) (S159.ob 1 hc157) (wv (xbS (n := 3) (z := .agg #[.int .i64 0, .bool false, .int .u64 0]) V parts0) (xsB3 S159 hc5 V V V (Sb (fg9 F162)) (Sa t0) (by simp only [List.all_toArray, List.all_cons, List.all_nil, obC, grC, SlN_one (sl_SlN (gl_oa m1 (S159.cq 0 hcK_156))), SlN_one (sl_SlN (gl_ra m1 (S159.cq 0 hcK_156)))] <;> rfl) (fun w171 c171 hc171 S171 => xsA2 S171 hc6 V V V (Sb (fg8 F162)) t0 (fun w172 c172 hc172 S172 => W_end (en (Qb F162) fun A173 _ F173 => tk H170 (wp_ret (rt2 F173 (rvA (fg9 F173) (S172.ob 3 hc171)) (rvA (fg8 F173) (S172.ob 2 hc172)) ?_)))))))))
  have hD := (do_5 (mx := lgN C N Z K Q) (g := gab G) (c := (⟨kd, a, b, f, p, q, uu⟩ : OpC)) Zf).trans (fin_0 (show (rwE (G.1.2.map ab) G.2.2 [a] a f) = 0 by omega))
  rw [hD]
  exact ⟨hv_156, H_156, qv_156, q_156, rfl, hg_156, (S172.f1 0 hcK_156)⟩
 refine tb fun _ H175 => (ve (fg4 F154) V (vt (W_end (en (Ka (Qa F154)) fun A176 _ F176 => tk H175 (cd (fg0 F176) (fun c177 => ?_) fun c177 => ?_)))))
 ·refine region_in (ra (fg10 F176) (S110.ob 4 hc3) (fa 1 (Sa (fg9 F176)) (rL (.int .i64 (a)) t0 (S110.ob 3 hc4) (fa 2 (Sc (fg9 F176)) (rL (.int .i64 (b)) t0 (S110.ob 3 hc4) (wc (args3 (Sd t0) (Sb t0) t0) ((glC (F := fun a_ b_ => .tuple #[.agg #[a_, b_], .int .i64 (ckd (G.1.2.map ab) G.2.2 [a, b])]) (qMove_c (a := a) (b := b) (S110.roC Go) (S110.roC Gn) (S110.roC Gr) Zc))) (fun _ w178 ⟨hv_178, H_178, qv_178, q_178, e, hg_178, hP178⟩ => ⟨_, e, ?_⟩)))))))
  obtain ⟨cK_178, hcK_178, hP178⟩ := gen1 hP178
  have S178 := S110.j1 hP178
  refine vm t0 (vx (.agg #[hv_178, qv_178]) t0 (vx (.int .i64 ((ckd (G.1.2.map ab) G.2.2 [a, b]))) (Sa t0) (xsB1 S178 hc10 V V V (Sh (Sa (fg6 F176))) (Sa t0) (by simp only [List.all_toArray, List.all_cons, List.all_nil, obC, grC, SlN_one (sl_SlN (gl_oa m1 (S178.cq 0 hcK_178))), SlN_one (sl_SlN (gl_ra m1 (S178.cq 0 hcK_178)))] <;> rfl) (fun w179 c179 hc179 S179 => vt (W_end (en (Ka (Qa (Qh F176))) fun A180 _ F180 => ?_))))))
  have S181 := S179.se [0, 1, 2, 3, 5] [cK_178, c179, c6, c5, c3]
  refine inb_n (tc H14 fun _ H182 => tb fun _ H183 => (vm (fg0 F180) (vn t0 V (W_end (en (Ka (Qa F180)) fun A184 _ F184 => tk H183 (cd (fg0 F184) (fun c185 => ?_) fun c185 => ?_))))))
  ·refine tb fun _ H186 => (ra (fg12 F184) (S181.ob 4 hc3) (wc (args1 t0) ((glC (F := fun a_ b_ => .agg #[a_, b_]) (qCn_c (S181.roC Go) (S181.roC Gn) (S181.roC Gr) Zc (by first | omega | (have q := hG.r8; omega)) (by first | omega | (have q := hG.o4; rw [List.length_map] at q; omega))))) (fun _ w187 ⟨hv_187, H_187, qv_187, q_187, e, hg_187, hP187⟩ => ⟨_, e, ?_⟩)))
   obtain ⟨cK_187, hcK_187, hP187⟩ := gen1 hP187
   have S187 := S181.j1 hP187
   refine vm (Sb (fg1 F184)) (wv (xbS (n := 3) (z := .agg #[.int .i64 0, .bool false, .int .u64 0]) V (parts1 t0)) (xsB4 S187 hc5 V V V (Sd (fg10 F184)) (Sb t0) (by simp only [List.all_toArray, List.all_cons, List.all_nil, obC, grC, SlN_one (sl_SlN (gl_oa m1 (S187.cq 0 hcK_187))), SlN_one (sl_SlN (gl_ra m1 (S187.cq 0 hcK_187)))] <;> rfl) (fun w188 c188 hc188 S188 => xsA3 S188 hc6 V V V (Sd (fg9 F184)) t0 (fun w189 c189 hc189 S189 => W_end (en (Qd F184) fun A190 _ F190 => tk H186 (wp_ret (then_ret (rt2 F190 (rvA (fg10 F190) (S189.ob 4 hc188)) (rvA (fg9 F190) (S189.ob 3 hc189)) ?_))))))))
   have hD := (do_6 (mx := lgN C N Z K Q) (g := gab G) (c := (⟨kd, a, b, f, p, q, uu⟩ : OpC)) Zf).trans (fin_n (show (ckd (G.1.2.map ab) G.2.2 [a, b]) ≠ 0 by omega))
   rw [hD]
   exact ⟨hv_187, H_187, qv_187, q_187, rfl, hg_187, (S189.f1 0 hcK_187)⟩
  refine wp_skip (ta H182 fun _ H192 => (ra (fg8 F184) (S181.ob 1 hc179) (wv (xbS (n := 3) (z := .agg #[.int .i64 0, .bool false, .int .u64 0]) V parts0) (xsB3 S181 hc5 V V V (Sb (fg10 F184)) (Sa t0) (by simp only [List.all_toArray, List.all_cons, List.all_nil, obC, grC, SlN_one (sl_SlN (gl_oa m1 (S181.cq 0 hcK_178))), SlN_one (sl_SlN (gl_ra m1 (S181.cq 0 hcK_178)))] <;> rfl) (fun w193 c193 hc193 S193 => xsA2 S193 hc6 V V V (Sb (fg9 F184)) t0 (fun w194 c194 hc194 S194 => W_end (en (Qb F184) fun A195 _ F195 => tk H192 (wp_ret (rt2 F195 (rvA (fg10 F195) (S194.ob 3 hc193)) (rvA (fg9 F195) (S194.ob 2 hc194)) ?_)))))))))
  have hD := (do_6 (mx := lgN C N Z K Q) (g := gab G) (c := (⟨kd, a, b, f, p, q, uu⟩ : OpC)) Zf).trans (fin_0 (show (ckd (G.1.2.map ab) G.2.2 [a, b]) = 0 by omega))
  rw [hD]
  exact ⟨hv_178, H_178, qv_178, q_178, rfl, hg_178, (S194.f1 0 hcK_178)⟩
 refine tb fun _ H197 => (ve (fg5 F176) V (vt (W_end (en (Ka (Qa F176)) fun A198 _ F198 => tk H197 (cd (fg0 F198) (fun c199 => ?_) fun c199 => ?_)))))
 ·refine region_in (ra (fg11 F198) (S110.ob 4 hc3) (fa 1 (Sa (fg10 F198)) (rL (.int .i64 (a)) t0 (S110.ob 3 hc4) (wc (args2 (Sb t0) t0) ((glC (F := fun a_ b_ => .tuple #[.agg #[a_, b_], .int .i64 (ckd (G.1.2.map ab) G.2.2 [a])]) (qClear_c (a := a) (S110.roC Go) (S110.roC Gn) (S110.roC Gr) Zc))) (fun _ w200 ⟨hv_200, H_200, qv_200, q_200, e, hg_200, hP200⟩ => ⟨_, e, ?_⟩)))))
  obtain ⟨cK_200, hcK_200, hP200⟩ := gen1 hP200
  have S200 := S110.j1 hP200
  refine vm t0 (vx (.agg #[hv_200, qv_200]) t0 (vx (.int .i64 ((ckd (G.1.2.map ab) G.2.2 [a]))) (Sa t0) (xsB1 S200 hc10 V V V (Sg (fg7 F198)) (Sa t0) (by simp only [List.all_toArray, List.all_cons, List.all_nil, obC, grC, SlN_one (sl_SlN (gl_oa m1 (S200.cq 0 hcK_200))), SlN_one (sl_SlN (gl_ra m1 (S200.cq 0 hcK_200)))] <;> rfl) (fun w201 c201 hc201 S201 => vt (W_end (en (Ka (Qg F198)) fun A202 _ F202 => ?_))))))
  have S203 := S201.se [0, 1, 2, 3, 5] [cK_200, c201, c6, c5, c3]
  refine inb_n (tc H14 fun _ H204 => tb fun _ H205 => (vm (fg0 F202) (vn t0 V (W_end (en (Ka (Qa F202)) fun A206 _ F206 => tk H205 (cd (fg0 F206) (fun c207 => ?_) fun c207 => ?_))))))
  ·refine tb fun _ H208 => (ra (fg13 F206) (S203.ob 4 hc3) (wc (args1 t0) ((glC (F := fun a_ b_ => .agg #[a_, b_]) (qCn_c (S203.roC Go) (S203.roC Gn) (S203.roC Gr) Zc (by first | omega | (have q := hG.r8; omega)) (by first | omega | (have q := hG.o4; rw [List.length_map] at q; omega))))) (fun _ w209 ⟨hv_209, H_209, qv_209, q_209, e, hg_209, hP209⟩ => ⟨_, e, ?_⟩)))
   obtain ⟨cK_209, hcK_209, hP209⟩ := gen1 hP209
   have S209 := S203.j1 hP209
   refine vm (Sb (fg1 F206)) (wv (xbS (n := 3) (z := .agg #[.int .i64 0, .bool false, .int .u64 0]) V (parts1 t0)) (xsB4 S209 hc5 V V V (Sd (fg11 F206)) (Sb t0) (by simp only [List.all_toArray, List.all_cons, List.all_nil, obC, grC, SlN_one (sl_SlN (gl_oa m1 (S209.cq 0 hcK_209))), SlN_one (sl_SlN (gl_ra m1 (S209.cq 0 hcK_209)))] <;> rfl) (fun w210 c210 hc210 S210 => xsA3 S210 hc6 V V V (Sd (fg10 F206)) t0 (fun w211 c211 hc211 S211 => W_end (en (Qd F206) fun A212 _ F212 => tk H208 (wp_ret (then_ret (rt2 F212 (rvA (fg11 F212) (S211.ob 4 hc210)) (rvA (fg10 F212) (S211.ob 3 hc211)) ?_))))))))
   have hD := (do_7 (mx := lgN C N Z K Q) (g := gab G) (c := (⟨kd, a, b, f, p, q, uu⟩ : OpC)) Zf).trans (fin_n (show (ckd (G.1.2.map ab) G.2.2 [a]) ≠ 0 by omega))
   rw [hD]
   exact ⟨hv_209, H_209, qv_209, q_209, rfl, hg_209, (S211.f1 0 hcK_209)⟩
  refine wp_skip (ta H204 fun _ H214 => (ra (fg9 F206) (S203.ob 1 hc201) (wv (xbS (n := 3) (z := .agg #[.int .i64 0, .bool false, .int .u64 0]) V parts0) (xsB3 S203 hc5 V V V (Sb (fg11 F206)) (Sa t0) (by simp only [List.all_toArray, List.all_cons, List.all_nil, obC, grC, SlN_one (sl_SlN (gl_oa m1 (S203.cq 0 hcK_200))), SlN_one (sl_SlN (gl_ra m1 (S203.cq 0 hcK_200)))] <;> rfl) (fun w215 c215 hc215 S215 => xsA2 S215 hc6 V V V (Sb (fg10 F206)) t0 (fun w216 c216 hc216 S216 => W_end (en (Qb F206) fun A217 _ F217 => tk H214 (wp_ret (rt2 F217 (rvA (fg11 F217) (S216.ob 3 hc215)) (rvA (fg10 F217) (S216.ob 2 hc216)) ?_)))))))))
  have hD := (do_7 (mx := lgN C N Z K Q) (g := gab G) (c := (⟨kd, a, b, f, p, q, uu⟩ : OpC)) Zf).trans (fin_0 (show (ckd (G.1.2.map ab) G.2.2 [a]) = 0 by omega))
  rw [hD]
  exact ⟨hv_200, H_200, qv_200, q_200, rfl, hg_200, (S216.f1 0 hcK_200)⟩
 refine td fun _ H219 => region_monoS 5 6 [none, some (SPv [] (fun _ => fun u l' => ∃ hv_s H_s qv_s q_s, u = .agg #[hv_s, qv_s] ∧ (gab ((hv_s, H_s), (qv_s, q_s)) = ((G.1.2.map ab), G.2.2)) ∧ ∃ cK_s, cK_s = gls [((hv_s, H_s), (qv_s, q_s))] ∧ l' = [cK_s]) 1), none, none, some (SPv [] (fun _ => fun u l' => u = .agg #[.int .i64 (asG (gab G) (⟨kd, a, b, f, p, q, uu⟩ : OpC)).e, .bool (asG (gab G) (⟨kd, a, b, f, p, q, uu⟩ : OpC)).t, .int .u64 (asG (gab G) (⟨kd, a, b, f, p, q, uu⟩ : OpC)).v] ∧ l' = []) 4)] om om (dr (fun _ hx _ => (ura (fg11 F198) ((S110.grow hx).ob 4 hc3))) (D_call (ts := []) (vs := []) (C0 := fun _ => fun u l' => ∃ hv_s H_s qv_s q_s, u = .agg #[hv_s, qv_s] ∧ (gab ((hv_s, H_s), (qv_s, q_s)) = ((G.1.2.map ab), G.2.2)) ∧ ∃ cK_s, cK_s = gls [((hv_s, H_s), (qv_s, q_s))] ∧ l' = [cK_s]) (C := fun u l' => ∃ hv_s H_s qv_s q_s, u = .agg #[hv_s, qv_s] ∧ (gab ((hv_s, H_s), (qv_s, q_s)) = ((G.1.2.map ab), G.2.2)) ∧ ∃ cK_s, cK_s = gls [((hv_s, H_s), (qv_s, q_s))] ∧ l' = [cK_s]) V V V Tryz.func21 om V (args1 t0) V V V V (fun sx hx hF => ?_) (fun u220 l220 hu220 => ?_)))
 ·refine ((glC (F := fun a_ b_ => .agg #[a_, b_]) (qCn_c ((S110.grow hx).roC Go) ((S110.grow hx).roC Gn) ((S110.grow hx).roC Gr) Zc (by first | omega | (have q := hG.r8; omega)) (by first | omega | (have q := hG.o4; rw [List.length_map] at q; omega))))).mono ?_
  rintro _ _ ⟨hv_220, H_220, qv_220, q_220, rfl, hg_220, hz⟩
  exact ⟨_, rfl, _, ⟨_, _, _, _, rfl, hg_220, _, rfl, rfl⟩, hz⟩
 obtain ⟨hv_220, H_220, qv_220, q_220, rfl, hg_220, cK_220, hcK_220, hl220⟩ := hu220
 refine dr (fun _ hx _ => (ura (Sb (fg11 F198)) ((S110.grow hx).ob 4 hc3))) (dr (fun _ hx _ => (ura (Sc (fg10 F198)) ((S110.grow hx).ob 3 hc4))) (D_call (ts := []) (vs := []) (C0 := fun _ => fun u l' => u = .agg #[.int .i64 (asG (gab G) (⟨kd, a, b, f, p, q, uu⟩ : OpC)).e, .bool (asG (gab G) (⟨kd, a, b, f, p, q, uu⟩ : OpC)).t, .int .u64 (asG (gab G) (⟨kd, a, b, f, p, q, uu⟩ : OpC)).v] ∧ l' = []) (C := fun u l' => u = .agg #[.int .i64 (asG (gab G) (⟨kd, a, b, f, p, q, uu⟩ : OpC)).e, .bool (asG (gab G) (⟨kd, a, b, f, p, q, uu⟩ : OpC)).t, .int .u64 (asG (gab G) (⟨kd, a, b, f, p, q, uu⟩ : OpC)).v] ∧ l' = []) V V V Tryz.func88 om V (args2 (Sa t0) t0) V V V V (fun sx hx hF => ?_) (fun u221 l221 hu221 => ?_)))
 ·refine (qas_c (G := G) (kd := kd) (a := a) (b := b) (f := f) (p := p) (q := q) (uu := uu) (gl_mk ((S110.grow hx).roC Go) ((S110.grow hx).roC Gn) ((S110.grow hx).roC Gr)) (by first | with_reducible assumption | exact hsm) Ze).mono ?_
  rintro _ _ ⟨rfl, hz⟩
  exact ⟨_, rfl, _, ⟨rfl, rfl⟩, hz⟩
 obtain ⟨rfl, hl221⟩ := hu221
 refine D_eff V (ZS_eff S110 V V (fun s222 hJ222 hL222 hF222 => ?_))
 obtain ⟨ll220, ws220, we220, ⟨hv_220q, H_220q, qv_220q, q_220q, hq220, hg_220r, cK_220r, hcK_220r, hl220r⟩, hm220, k220, e220⟩ := L.all_get (L.all_rest hF222); cases hq220; subst hl220r
 replace hJ222 := hJ222.add hL222 (i := 1) V hm220 k220 e220
 obtain ⟨ll221, ws221, we221, ⟨hq221, hl221r⟩, hm221, k221, e221⟩ := L.all_get hF222; cases hq221; subst hl221r
 replace hJ222 := hJ222.add hL222 (i := 4) V hm221 k221 e221
 have S222 := hJ222.st; clear hF222 hJ222 hL222
 generalize s222.1 = w222 at *
 replace S222 : St w NoX [cK_220r, c10, c6, c5, c4, c3] w222 := S222
 refine xsB3 S222 hc5 V V V (Se (fg9 F198)) (Sc t0) (by simp only [List.all_toArray, List.all_cons, List.all_nil, obC, grC, SlN_one (sl_SlN (gl_oa m1 (S222.cq 0 hcK_220r))), SlN_one (sl_SlN (gl_ra m1 (S222.cq 0 hcK_220r)))] <;> rfl) (fun w223 c223 hc223 S223 => xsA2 S223 hc6 V V V (Se (fg8 F198)) t0 (fun w224 c224 hc224 S224 => W_end (Qo_normal (en (Qe F198) fun A225 _ F225 => tk H219 (wp_ret (inb_ret (then_ret (rt2 F225 (rvA (fg9 F225) (S224.ob 3 hc223)) (rvA (fg8 F225) (S224.ob 2 hc224)) ?_))))))))
 rw [do_as (mx := lgN C N Z K Q) (g := gab G) (c := (⟨kd, a, b, f, p, q, uu⟩ : OpC)) Zf]
 exact ⟨hv_220, H_220q, qv_220, q_220q, rfl, hg_220r, (S224.f1 0 hcK_220r)⟩

set_option maxHeartbeats 4000000 in
theorem qsc_c {C N Z K Q : Int} {lv : Value} {l : List OpC} {w : World} (h_lv : Ro w NoX (rl 7 opC lv l))  :
  Calls Tryz.prog 47 #[.agg #[.int .i64 C, .int .i64 N, .int .i64 Z, .int .i64 K, .int .i64 Q], lv] w fun e w' => e = .returned (.tuple #[.int .i64 (scE (cfE C N Z K Q) l).1, .int .i64 (scE (cfE C N Z K Q) l).2]) ∧ St w NoX [] w' := by
 refine ci2 32 Tryz.func47 V (fun A0 _ F0 => ?_)
 have hS := St.nil w
 have bh_lv := SlN.le (sl_SlN h_lv.at)
 refine tb fun _ H1 => (wB (#[.int .i64 (C), .int .i64 (N), .int .i64 (Z), .int .i64 (K), .int .i64 (Q)]) hS (fg0 F0) (fun g2 w2 c2 hc2 S2 => vc (vc (W_end (en (Qb (Ka F0)) fun A3 _ F3 => ta H1 fun _ H4 => (ra (fg0 F3) (S2.ob 0 hc2) (wc (args1 t0) (qcfg_c (C := C) (N := N) (Z := Z) (K := K) (Q := Q)) (C0 S2 fun w5 S5 => vt (W_end (en (Ka (Qb F3)) fun A6 _ F6 => ?_))))))))))
 have S7 := S5.se [] []
 refine tc H4 fun _ H8 => tb fun _ H9 => (vm (fg0 F6) (vn t0 V (W_end (en (Ka (Qa F6)) fun A10 _ F10 => tk H9 (cd (fg0 F10) (fun c11 => ?_) fun c11 => ?_)))))
 ·refine tb fun _ H12 => (vm (fg1 F10) (vc (va (Sa t0) (W_end (en (Kb (Qa F10)) fun A13 _ F13 => tk H12 (wp_ret (then_ret (rt2 F13 (rv_tmp (fg1 F13)) (rv_tmp (fg0 F13)) ?_))))))))
  have h : (scE (cfE C N Z K Q) l) = ((-1), (cfE C N Z K Q)) := sc_cf c11
  rw [h]
  exact ⟨rfl, S7.fin0⟩
 refine wp_skip (tc H8 fun _ H14 => tb fun _ H15 => (vm (fg4 F10) (le_ t0 (sl_SlN h_lv.at) (vg t0 V (W_end (en (Ka (Qb F10)) fun A16 _ F16 => tk H15 (cd (fg0 F16) (fun c17 => ?_) fun c17 => ?_)))))))
 ·refine tb fun _ H18 => (vc (vc (W_end (en (Kb F16) fun A19 _ F19 => tk H18 (wp_ret (then_ret (rt2 F19 (rv_tmp (fg1 F19)) (rv_tmp (fg0 F19)) ?_)))))))
  have h : (scE (cfE C N Z K Q) l) = ((-1), 3) := sc_long c11 c17
  rw [h]
  exact ⟨rfl, S7.fin0⟩
 refine wp_skip (tc H14 fun _ H20 => tb fun _ H21 => (vc (W_end (en (Ka F16) fun A22 Y22 F22 => tk H21 (wp_block ?_)))))
 -- loop 7
 refine loopX (fun mz A' w' => SzN A' 32 ∧ A'.defers = [] ∧ (∃ (k : Nat), (mz = l.length - k) ∧ (k ≤ l.length) ∧ (scF 0 l = scF k (l.drop k)) ∧ (EV A' (.tmp 7) = .int .i64 (k : Int)) ∧ (EV A' (.tmp 1) = EV A22 (.tmp 1)) ∧ (St w NoX [] w'))) (l.length - 0) ⟨Y22, F22.d, 0, rfl, Za, rfl, ((fg0 F22).trans (by first | rfl | (simp; done) | (congr 1; omega))), rfl, S7⟩ ?_
 clear S7
 rintro n23 A23 w23 ⟨Y23, hdf23, k, hm23, hk, hz, l7_23, u1_23, S23⟩
 have l1_23 := u1_23.trans (fg6 F22)
 refine td fun _ H24 => tb fun _ H25 => (vm l7_23 (vm (Sa l1_23) (le_ t0 (sl_SlN h_lv.at) (vl (Sb t0) t0 (W_end (en ((((ck (cq3 (FS.n hdf23) V) V V)).c (es4 V l1_23)).c (Sd l7_23)) fun A26 _ F26 => tk H25 (cd (fg2 F26) (fun c27 => ?_) fun c27 => ?_)))))))
 ·refine wp_skip (tc H24 fun _ H28 => wp_block (tb fun _ H29 => (vm (fg1 F26) (vm (Sa (fg0 F26)) ?_))))
  have k30 : k < l.length := by first | omega | (simp only [List.length_cons, List.length_nil]; omega) | (simp only [List.length_set]; omega) | decide
  obtain ⟨y30, hy30⟩ := get_some (xs := l) (k := k) k30
  obtain ⟨B30, O30, C30, hv30⟩ := (SlN.blk (sl_SlN h_lv.at) kr)
  refine wv (V_ixS (off := O30 + k * 7) 7 k V (Sa t0) t0 hv30 Za k30 Tryz.underlying24 om V) (wr (VR_ldR (ys := opC y30) V t0 (SlN.row opC_len (sl_SlN (S23.ro h_lv)) hv30 hy30 V) Tryz.underlying50 V om) (wc (args1 t0) (qopc_c (kd := y30.kd) (a := y30.a) (b := y30.b) (f := y30.f) (p := y30.p) (q := y30.q) (uu := y30.u)) (C0 S23 fun w31 S31 => vt (W_end (en (Ka (Qe F26)) fun A32 _ F32 => ta H29 fun _ H33 => (vm (fg0 F32) (vn t0 V (W_end (en (Ka (Qa F32)) fun A34 _ F34 => tk H33 (cd (fg0 F34) (fun c35 => ?_) fun c35 => ?_))))))))))
  ·refine tb fun _ H36 => (vm (fg2 F34) (vm (Sa (fg1 F34)) (va (Sa t0) (va (Sa t0) (W_end (en (Kb (Qb F34)) fun A37 _ F37 => tk H36 (wp_ret (inb_ret (then_ret (then_ret (inb_ret (then_ret (rt2 F37 (rv_tmp (fg1 F37)) (rv_tmp (fg0 F37)) ?_)))))))))))))
   have h : (scE (cfE C N Z K Q) l) = ((k : Int), (opE (⟨y30.kd, y30.a, y30.b, y30.f, y30.p, y30.q, y30.u⟩ : OpC))) := sc_op c11 c17 hz hy30 c35
   rw [h]
   exact ⟨rfl, S31.fin0⟩
  refine wp_skip (inb_n (tk H28 (region_in (vm (fg2 F34) (ad t0 V (vt (W_end (en (Ka (Qb (fx2 F34))) fun A38 Y38 F38 => then_n ⟨l.length - (k + 1), by simp only [hm23]; omega, Y38, F38.d, (k + 1), rfl, Za, (sc_step hz hy30 c35), ((fg0 F38).trans (by first | rfl | (simp; done) | (congr 1; omega))), ((fg3 F38).trans (fg6 F22).symm), S31⟩))))))))
 refine wp_exit (then_exit (then_exit (inb_hit (ta H20 fun _ H39 => (vc (vc (W_end (en (Kb F26) fun A40 _ F40 => tk H39 (wp_ret (rt2 F40 (rv_tmp (fg1 F40)) (rv_tmp (fg0 F40)) ?_))))))))))
 have h : (scE (cfE C N Z K Q) l) = (0, 0) := sc_ok c11 c17 hz Za
 rw [h]
 exact ⟨rfl, S23.fin0⟩

end Go.Proofs.YtpgkfndbfocibaaGreat
namespace Go.Own.Ml
open Go Go.Own Go.Own.R Go.Own.G Go.Own.Gr
section
variable {n K : Int} {os : List OpC} {ans : List AnC} {i : Nat} {y : OpC} {z : AnC} {g : GA}
theorem ckA_all : ∀ (l : List OpC) (s : List AnC) (k : Nat), (ckA k l s).2 = 0 → ∀ (j : Nat) (c : OpC) (a : AnC), l[j]? = some c → s[j]? = some a → anE c a = 0
 | [], _, _, _, j, c, a, h1, _ => by simp at h1
 | _ :: _, [], _, _, j, c, a, _, h2 => by simp at h2
 | c :: r, a :: s, k, h, j, c', a', h1, h2 => by
  unfold ckA at h
  by_cases q : anE c a ≠ 0
  ·rw [if_pos q] at h; exact absurd h q
  ·rw [if_neg q] at h
   cases j with
   | zero => simp at h1 h2; subst h1 h2; omega
   | succ j => exact ckA_all r s (k + 1) h j c' a' (by simpa using h1) (by simpa using h2)
theorem an_5 (h : anE y z = 0) (h5 : z.e = 5) : z = ⟨5, false, 0⟩ := by
 have ho : ¬ opE y ≠ 0 := fun q => by rw [an_op q] at h; exact q h
 have hx : ¬ anX y.kd z.e z.t z.v := fun q => by rw [an_bad ho (by rw [h5]; omega) q] at h; cases h
 rw [h5] at hx
 unfold anX at hx
 have ht : z.t = false := by
  cases q : z.t with
  | false => rfl
  | true => exact absurd (.inl ⟨q, by omega⟩) hx
 have hv : z.v = 0 := Decidable.not_not.1 fun q => hx (.inr ⟨q, by omega⟩)
 exact AnC.ext'.2 ⟨h5, ht, hv⟩
def gsJ (n K : Int) (os : List OpC) (ans : List AnC) : List GA := gsG n (rfJ ans) 0 (g00 K) os
theorem jr_0 {G : GV} (hg : gab G = ([], nwR K)) : (gsJ n K os ans)[0]? = some (gab G) := by rw [hg]; rfl
theorem jr_at (hK : 1 ≤ K ∧ K ≤ 8) (hol : os.length ≤ 200) (hl : ans.length = os.length) (hck : ckA 0 os ans = (0, 0)) (hy : os[i]? = some y) (hg : (gsJ n K os ans)[i]? = some g) :
  VG K i g ∧ (y.kd = 1 ∧ (doG n g y).2.e = 0 ∧ (ans.getD i (AnC.mk 0 false 0)).e = 5 → (moJ n K os ans)[i]? = some (g, ⟨5, false, 0⟩) ∧ ans.getD i (AnC.mk 0 false 0) = ⟨5, false, 0⟩ ∧ (gsJ n K os ans)[i + 1]? = some g) ∧
   (¬ (y.kd = 1 ∧ (doG n g y).2.e = 0 ∧ (ans.getD i (AnC.mk 0 false 0)).e = 5) → (moJ n K os ans)[i]? = some (doG n g y) ∧ (doG n g y).2.e ≠ 5 ∧ (gsJ n K os ans)[i + 1]? = some (doG n g y).1) := by
 obtain ⟨a, ha, hm⟩ := mom_at (mx := n) (rf := rfJ ans) os 0 (g00 K) i y hy
 have e : (gsJ n K os ans)[i]? = some a := ha
 rw [hg] at e; cases e
 rw [Nat.zero_add] at hm
 have hv := mom_VG (mx := n) (rf := rfJ ans) os 0 (g00 K) i (VG.zero hK) g ha
 rw [Nat.zero_add] at hv
 have hi := (List.getElem?_eq_some_iff.1 hy).1
 have hz : ans[i]? = some (ans.getD i (AnC.mk 0 false 0)) := by rw [List.getD_eq_getElem?_getD, List.getElem?_eq_getElem (by omega)]; rfl
 generalize ans.getD i (AnC.mk 0 false 0) = z at hz ⊢
 have hgd : ans.getD i (AnC.mk 0 false 0) = z := by rw [List.getD_eq_getElem?_getD, hz]; rfl
 have hnx : (gsJ n K os ans)[i + 1]? = some (stp n (rfJ ans i) g y).1 := by
  unfold gsJ gsG; rw [List.getElem?_cons_succ, List.getElem?_map, hm]; rfl
 have hae := ckA_all os ans 0 (by rw [hck]) i y z hy hz
 refine ⟨hv, fun q => ?_, fun q => ?_⟩
 ·have hr : rfJ ans i = true := by unfold rfJ; rw [hgd]; exact decide_eq_true q.2.2
  have hs : stp n (rfJ ans i) g y = (g, ⟨5, false, 0⟩) := stp_1 ⟨hr, q.1, q.2.1⟩
  rw [hs] at hm hnx
  exact ⟨hm, an_5 hae q.2.2, hnx⟩
 ·have hs : stp n (rfJ ans i) g y = doG n g y := stp_0 fun r => q ⟨r.2.1, r.2.2, by have h5 := r.1; unfold rfJ at h5; rw [hgd] at h5; exact of_decide_eq_true h5⟩
  rw [hs] at hm hnx
  exact ⟨hm, by have := hv.err (mx := n) (c := y) (by omega); omega, hnx⟩
theorem reK_snoc (m : GA × AnC) : ∀ (M : List (GA × AnC)) (k : Nat), reK k (M ++ [m]) = reK k M ++ (if m.2.e = 5 then [((k + M.length : Nat) : Int)] else [])
 | [], k => by simp only [List.nil_append, reK, List.length_nil, Nat.add_zero]
 | x :: r, k => by
  rw [List.cons_append, reK, reK, reK_snoc m r (k + 1), List.length_cons, show k + 1 + r.length = k + (r.length + 1) by omega]
  split
  ·rw [List.cons_append]
  ·rfl
theorem reK_len : ∀ (M : List (GA × AnC)) (k : Nat), (reK k M).length ≤ M.length
 | [], _ => Nat.le_refl _
 | x :: r, k => by
  have := reK_len r (k + 1)
  unfold reK; split <;> simp only [List.length_cons] <;> omega
theorem reT_len {M : List (GA × AnC)} : (reK 0 (M.take i)).length ≤ i := Nat.le_trans (reK_len _ _) (by rw [List.length_take]; omega)
theorem reT_5 {M : List (GA × AnC)} (h : M[i]? = some (g, ⟨5, false, 0⟩)) : reK 0 (M.take (i + 1)) = reK 0 (M.take i) ++ [(i : Int)] := by
 have hi := (List.getElem?_eq_some_iff.1 h).1
 rw [List.take_add_one, h]
 show reK 0 (M.take i ++ [_]) = _
 rw [reK_snoc, List.length_take, show min i M.length = i by omega, Nat.zero_add]; rfl
theorem reT_0 {M : List (GA × AnC)} {m : GA × AnC} (h : M[i]? = some m) (h5 : m.2.e ≠ 5) : reK 0 (M.take (i + 1)) = reK 0 (M.take i) := by
 rw [List.take_add_one, h]
 show reK 0 (M.take i ++ [_]) = _
 rw [reK_snoc, if_neg h5, List.append_nil]
theorem fbJ_step {M : List (GA × AnC)} {m : GA × AnC} (h : fbJ ans 0 M = fbJ ans i (M.drop i)) (hm : M[i]? = some m) (he : ans.getD i (AnC.mk 0 false 0) = m.2) : fbJ ans 0 M = fbJ ans (i + 1) (M.drop (i + 1)) := by
 rw [h, dropA hm, fbJ, if_neg (fun q => q he)]
theorem fbJ_bad {M : List (GA × AnC)} {m : GA × AnC} (h : fbJ ans 0 M = fbJ ans i (M.drop i)) (hm : M[i]? = some m) (he : ¬ ans.getD i (AnC.mk 0 false 0) = m.2) : fbJ ans 0 M = ((i : Int), 4) := by
 rw [h, dropA hm, fbJ, if_pos he]
theorem jr_end {cf : Int} (hs : scE cf os = (0, 0)) (hl : ans.length = os.length) (hck : ckA 0 os ans = (0, 0)) (hz : fbJ ans 0 (moJ n K os ans) = fbJ ans i ((moJ n K os ans).drop i)) (hi : os.length ≤ i) :
  jdF cf n K os ans = (0, 0) ∧ jdL cf n K os ans = reK 0 ((moJ n K os ans).take i) := by
 have hM : (moJ n K os ans).length = os.length := by unfold moJ; exact mom_len os 0 _
 have h0 : jdF cf n K os ans = (0, 0) := by
  rw [jd_fb hs hl hck, hz, List.drop_eq_nil_of_le (by omega)]; rfl
 refine ⟨h0, ?_⟩
 unfold jdL; rw [h0, if_neg (by decide), List.take_of_length_le (by omega)]
theorem jdL_e {cf : Int} (h : (jdF cf n K os ans).2 ≠ 0) : jdL cf n K os ans = [] := by unfold jdL; rw [if_pos h]
theorem gD_at (hz : ans[i]? = some z) : ans.getD i (AnC.mk 0 false 0) = z := by rw [List.getD_eq_getElem?_getD, hz]; rfl
end
end Go.Own.Ml

namespace Go.Proofs.YtpgkfndbfocibaaGreat
open Go.RowKit Go.Own Go.Own.R Go.Own.G Go.Own.Gr Go.Own.Ml


set_option maxHeartbeats 4000000 in
theorem qjd_c {C N Z K Q : Int} {lv : Value} {os : List OpC} {av : Value} {ans : List AnC} {w : World} (h_lv : Ro w NoX (rl 7 opC lv os)) (h_av : Ro w NoX (rl 3 anC av ans)) (hvr : ∀ x ∈ ans, 0 ≤ x.v ∧ x.v ≤ 18446744073709551615) :
  Calls Tryz.prog 25 #[.agg #[.int .i64 C, .int .i64 N, .int .i64 Z, .int .i64 K, .int .i64 Q], lv, av] w fun e w' => ∃ rw, e = .returned (.tuple #[rw, .int .i64 (jdF (cfE C N Z K Q) (lgN C N Z K Q) K os ans).1, .int .i64 (jdF (cfE C N Z K Q) (lgN C N Z K Q) K os ans).2]) ∧ St w NoX [io .i64 rw (jdL (cfE C N Z K Q) (lgN C N Z K Q) K os ans)] w' := by
 refine ci3 107 Tryz.func25 V (fun A0 _ F0 => ?_)
 have hS := St.nil w
 have bh_lv := SlN.le (sl_SlN h_lv.at)
 have bh_av := SlN.le (sl_SlN h_av.at)
 refine tb fun _ H1 => (wB (#[.int .i64 (C), .int .i64 (N), .int .i64 (Z), .int .i64 (K), .int .i64 (Q)]) hS (fg0 F0) (fun g2 w2 c2 hc2 S2 => vc (vc (vc (W_end (en (Qc (Ka F0)) fun A3 _ F3 => ta H1 fun _ H4 => (ra (fg0 F3) (S2.ob 0 hc2) (vm (Sa (fg2 F3)) (wc (args2 (Sa t0) t0) (qsc_c (C := C) (N := N) (Z := Z) (K := K) (Q := Q) (S2.roC h_lv)) (C0 S2 fun w5 S5 => vm t0 (vx (.int .i64 ((scE (cfE C N Z K Q) os).1)) t0 (vx (.int .i64 ((scE (cfE C N Z K Q) os).2)) (Sa t0) (va (Sa t0) (va (Sa t0) (W_end (en (Kb (Qf F3)) fun A6 _ F6 => tc H4 fun _ H7 => tb fun _ H8 => (vm (fg0 F6) (vn t0 V (W_end (en (Ka (Qa F6)) fun A9 _ F9 => tk H8 (cd (fg0 F9) (fun c10 => ?_) fun c10 => ?_)))))))))))))))))))))
 ·refine tb fun _ H11 => (vm (fg2 F9) (vm (Sa (fg1 F9)) (vc (va (Sb t0) (va (Sb t0) (W_end (en (Kc (Qb F9)) fun A12 _ F12 => ?_)))))))
  have S13 := S5.se [] []
  refine tk H11 (wp_ret (then_ret (rt3 F12 (rv_tmp (fg2 F12)) (rv_tmp (fg1 F12)) (rv_tmp (fg0 F12)) ?_)))
  obtain ⟨c14, hc14, S14⟩ := S13.pnil (s := 1)
  have h : (jdF (cfE C N Z K Q) (lgN C N Z K Q) K os ans) = ((scE (cfE C N Z K Q) os).1, (scE (cfE C N Z K Q) os).2) := jd_sc c10
  have hl0 : (jdL (cfE C N Z K Q) (lgN C N Z K Q) K os ans) = [] := jdL_e (by rw [h]; exact c10)
  rw [h, hl0]
  exact ⟨_, rfl, (S14.f1 0 hc14)⟩
 obtain ⟨hcf, hl2, hops, hsz⟩ := sc_inv (cf := (cfE C N Z K Q)) (l := os) Za
 have hK := (cf_rng hcf).2.2.2.1
 refine wp_skip (tc H7 fun _ H15 => tb fun _ H16 => (vm (fg6 F9) (le_ t0 (sl_SlN h_av.at) (vm (Sb (fg5 F9)) (le_ t0 (sl_SlN h_lv.at) (vn (Sb t0) t0 (W_end (en (Ka (Qd F9)) fun A17 _ F17 => tk H16 (cd (fg0 F17) (fun c18 => ?_) fun c18 => ?_)))))))))
 ·refine tb fun _ H19 => (vc (vc (vc (W_end (en (Kc F17) fun A20 _ F20 => ?_)))))
  have S21 := S5.se [] []
  refine tk H19 (wp_ret (then_ret (rt3 F20 (rv_tmp (fg2 F20)) (rv_tmp (fg1 F20)) (rv_tmp (fg0 F20)) ?_)))
  obtain ⟨c22, hc22, S22⟩ := S21.pnil (s := 1)
  have h : (jdF (cfE C N Z K Q) (lgN C N Z K Q) K os ans) = ((-1), 6) := jd_len hsz Za
  have hl0 : (jdL (cfE C N Z K Q) (lgN C N Z K Q) K os ans) = [] := jdL_e (by rw [h]; exact by decide)
  rw [h, hl0]
  exact ⟨_, rfl, (S22.f1 0 hc22)⟩
 refine wp_skip (tc H15 fun _ H23 => tb fun _ H24 => (vc (W_end (en (Ka F17) fun A25 Y25 F25 => tk H24 (wp_block ?_)))))
 -- loop 7
 refine loopX (fun mz A' w' => SzN A' 107 ∧ A'.defers = [] ∧ (∃ (k : Nat), (mz = os.length - k) ∧ (k ≤ os.length) ∧ (ckA 0 os ans = ckA k (os.drop k) (ans.drop k)) ∧ (EV A' (.tmp 11) = .int .i64 (k : Int)) ∧ (EV A' (.tmp 1) = EV A25 (.tmp 1)) ∧ (EV A' (.tmp 2) = EV A25 (.tmp 2)) ∧ (EV A' (.tmp 3) = EV A25 (.tmp 3)) ∧ (St w NoX [bx g2 23 #[.int .i64 (C), .int .i64 (N), .int .i64 (Z), .int .i64 (K), .int .i64 (Q)]] w'))) (os.length - 0) ⟨Y25, F25.d, 0, rfl, Za, rfl, ((fg0 F25).trans (by first | rfl | (simp; done) | (congr 1; omega))), rfl, rfl, rfl, (by subst hc2; exact S5)⟩ ?_
 clear S5 hc2
 rintro n26 A26 w26 ⟨Y26, hdf26, k, hm26, hk, hja, l11_26, u1_26, u2_26, u3_26, S26⟩
 have l1_26 := u1_26.trans (fg7 F25)
 have l2_26 := u2_26.trans (fg8 F25)
 have l3_26 := u3_26.trans (fg5 F25)
 obtain ⟨c2_26, hc2_26, S26⟩ := gen1 S26
 refine td fun _ H27 => tb fun _ H28 => (vm l11_26 (vm (Sa l1_26) (le_ t0 (sl_SlN h_lv.at) (vl (Sb t0) t0 (W_end (en ((((((ck (cq3 (FS.n hdf26) V) V V)).c (es4 V l1_26)).c (es4 V l2_26)).c (es4 V l3_26)).c (Sd l11_26)) fun A29 _ F29 => tk H28 (cd (fg4 F29) (fun c30 => ?_) fun c30 => ?_)))))))
 ·refine wp_skip (tc H27 fun _ H31 => wp_block (td fun _ H32 => ?_))
  have k33 : k < os.length := by first | omega | (simp only [List.length_cons, List.length_nil]; omega) | (simp only [List.length_set]; omega) | decide
  obtain ⟨y33, hy33⟩ := get_some (xs := os) (k := k) k33
  have k34 : k < ans.length := by first | omega | (simp only [List.length_cons, List.length_nil]; omega) | (simp only [List.length_set]; omega) | decide
  obtain ⟨y34, hy34⟩ := get_some (xs := ans) (k := k) k34
  have hvr34 := hvr y34 (List.mem_of_getElem? hy34)
  have gz34 := gD_at hy34
  refine region_monoS 10 10 [none, none, none, none, none, none, none, none, some (SPv [] (fun _ => fun u l' => u = .int .i64 (anE (⟨y33.kd, y33.a, y33.b, y33.f, y33.p, y33.q, y33.u⟩ : OpC) (⟨y34.e, y34.t, y34.v⟩ : AnC)) ∧ l' = []) 8)] om om (dm (fg3 F29) (dm (Sa (fg0 F29)) ?_))
  obtain ⟨B33, O33, C33, hv33⟩ := (SlN.blk (sl_SlN h_lv.at) kr)
  refine dv (V_ixS (off := O33 + k * 7) 7 k V (Sa t0) t0 hv33 Za k33 Tryz.underlying24 om V) (dr (fun sx hx hF => (VR_ldR (ys := opC y33) V t0 (SlN.row opC_len (sl_SlN ((S26.grow hx).ro h_lv)) hv33 hy33 V) Tryz.underlying50 V om)) (dm (Sd (fg2 F29)) (dm (Se (fg0 F29)) ?_)))
  obtain ⟨B34, O34, C34, hv34⟩ := (SlN.blk (sl_SlN h_av.at) kr)
  refine dv (V_ixS (off := O34 + k * 3) 3 k V (Sa t0) t0 hv34 Za k34 Tryz.underlying31 om V) (dr (fun sx hx hF => (VR_ldR (ys := anC y34) V t0 (SlN.row anC_len (sl_SlN ((S26.grow hx).ro h_av)) hv34 hy34 V) Tryz.underlying54 V om)) (D_call (ts := []) (vs := []) (C0 := fun _ => fun u l' => u = .int .i64 (anE (⟨y33.kd, y33.a, y33.b, y33.f, y33.p, y33.q, y33.u⟩ : OpC) (⟨y34.e, y34.t, y34.v⟩ : AnC)) ∧ l' = []) (C := fun u l' => u = .int .i64 (anE (⟨y33.kd, y33.a, y33.b, y33.f, y33.p, y33.q, y33.u⟩ : OpC) (⟨y34.e, y34.t, y34.v⟩ : AnC)) ∧ l' = []) V V V Tryz.func48 om V (args2 (Sd t0) t0) V V V V (fun sx hx hF => ?_) (fun u35 l35 hu35 => ?_)))
  ·refine (qan_c (kd := y33.kd) (a := y33.a) (b := y33.b) (f := y33.f) (p := y33.p) (q := y33.q) (uu := y33.u) (er := y34.e) (ti := y34.t) (v := y34.v)  Ze).mono ?_
   rintro _ _ ⟨rfl, hz⟩
   exact ⟨_, rfl, _, ⟨rfl, rfl⟩, hz⟩
  obtain ⟨rfl, hl35⟩ := hu35
  refine dv (V_asg V t0) (ZS_none S26 (Nat.le_refl _) (Nat.le_refl _) (fun s36 hJ36 hL36 hF36 => ?_))
  obtain ⟨ll35, ws35, we35, ⟨hq35, hl35r⟩, hm35, k35, e35⟩ := L.all_get hF36; cases hq35; subst hl35r
  replace hJ36 := hJ36.add hL36 (i := 8) V hm35 k35 e35
  have S36 := hJ36.st; clear hF36 hJ36 hL36
  generalize s36.1 = w36 at *
  replace S36 : St w NoX [c2_26] w36 := S36
  refine en (Ka (Qa (Qh F29))) fun A37 _ F37 => ta H32 fun _ H38 => (vm (fg0 F37) (vn t0 V (W_end (en (Ka (Qa F37)) fun A39 _ F39 => tk H38 (cd (fg0 F39) (fun c40 => ?_) fun c40 => ?_)))))
  ·refine tb fun _ H41 => (vm (fg2 F39) (vm (Sa (fg1 F39)) (vc (va (Sb t0) (va (Sb t0) (W_end (en (Kc (Qb F39)) fun A42 _ F42 => ?_)))))))
   have S43 := S36.se [] []
   refine tk H41 (wp_ret (inb_ret (then_ret (then_ret (inb_ret (then_ret (rt3 F42 (rv_tmp (fg2 F42)) (rv_tmp (fg1 F42)) (rv_tmp (fg0 F42)) ?_)))))))
   obtain ⟨c44, hc44, S44⟩ := S43.pnil (s := 1)
   have h : (jdF (cfE C N Z K Q) (lgN C N Z K Q) K os ans) = ((k : Int), (anE (⟨y33.kd, y33.a, y33.b, y33.f, y33.p, y33.q, y33.u⟩ : OpC) (⟨y34.e, y34.t, y34.v⟩ : AnC))) := jd_ck hsz Za (ja_bad hja hy33 hy34 c40) c40
   have hl0 : (jdL (cfE C N Z K Q) (lgN C N Z K Q) K os ans) = [] := jdL_e (by rw [h]; exact c40)
   rw [h, hl0]
   exact ⟨_, rfl, (S44.f1 0 hc44)⟩
  refine wp_skip (inb_n (tk H31 (region_in (vm (fg2 F39) (ad t0 V (vt (W_end (en (Ka (Qb (fx2 F39))) fun A45 Y45 F45 => then_n ⟨os.length - (k + 1), by simp only [hm26]; omega, Y45, F45.d, (k + 1), rfl, Za, (ja_step hja hy33 hy34 c40), ((fg0 F45).trans (by first | rfl | (simp; done) | (congr 1; omega))), ((fg5 F45).trans (fg7 F25).symm), ((fg4 F45).trans (fg8 F25).symm), ((fg3 F45).trans (fg5 F25).symm), (by subst hc2_26; exact S36)⟩))))))))
 refine wp_exit (then_exit (then_exit (inb_hit (ta H23 fun _ H46 => (fa 3 (fg1 F29) (rL (.int .i64 (K)) t0 (S26.ob 0 hc2_26) (wc (args1 t0) ((glC (F := fun a_ b_ => .tuple #[.agg #[a_, b_], .int .i64 (nwE K)]) (qNw_c (n := K)))) (fun _ w47 ⟨hv_47, H_47, qv_47, q_47, e, hg_47, hP47⟩ => ⟨_, e, ?_⟩))))))))
 obtain ⟨cK_47, hcK_47, hP47⟩ := gen1 hP47
 have S47 := S26.join hP47
 replace S47 : St w NoX [cK_47, c2_26] w47 := S47
 refine vm t0 (vx (.agg #[hv_47, qv_47]) t0 (vx (.int .i64 (nwE K)) (Sa t0) (wA (#[.slice none 0 0, .slice none 0 0]) S47 (fun g48 w48 c48 hc48 S48 => xsB0 S48 hc48 V V V t0 (Sb t0) (by simp only [List.all_toArray, List.all_cons, List.all_nil, obC, grC, SlN_one (sl_SlN (gl_oa m1 (S48.cq 1 hcK_47))), SlN_one (sl_SlN (gl_ra m1 (S48.cq 1 hcK_47)))] <;> rfl) (fun w49 c49 hc49 S49 => va (Sa t0) (W_end (en (Qa (Ka (Qf F29))) fun A50 _ F50 => ta H46 fun _ H51 => (vc (W_end (en (Ka F50) fun A52 _ F52 => tc H51 fun _ H53 => tb fun _ H54 => vc (W_end (en (Ka F52) fun A55 Y55 F55 => tk H54 (wp_block ?_)))))))))))))
 have hjA := ja_end hja Za
 obtain ⟨c56, hc56, S56⟩ := S49.pnil (s := 1)
 -- loop 15
 refine loopX (fun mz A' w' => SzN A' 107 ∧ A'.defers = [] ∧ (∃ (i : Nat) (Gc : GV) (bv : Value), (mz = os.length - i) ∧ (i ≤ os.length) ∧ ((gsJ (lgN C N Z K Q) K os ans)[i]? = some (gab Gc)) ∧ (fbJ ans 0 (moJ (lgN C N Z K Q) K os ans) = fbJ ans i ((moJ (lgN C N Z K Q) K os ans).drop i)) ∧ (EV A' (.tmp 16) = .int .i64 (i : Int)) ∧ (EV A' (.tmp 15) = bv) ∧ (EV A' (.tmp 1) = EV A55 (.tmp 1)) ∧ (EV A' (.tmp 2) = EV A55 (.tmp 2)) ∧ (EV A' (.tmp 3) = EV A55 (.tmp 3)) ∧ (EV A' (.tmp 13) = EV A55 (.tmp 13)) ∧ (St w NoX [io .i64 bv (reK 0 ((moJ (lgN C N Z K Q) K os ans).take i)), bx g48 30 #[Gc.1.1, Gc.2.1], gls [Gc], bx g2 23 #[.int .i64 (C), .int .i64 (N), .int .i64 (Z), .int .i64 (K), .int .i64 (Q)]] w'))) (os.length - 0) ⟨Y55, F55.d, 0, ((hv_47, H_47), (qv_47, q_47)), (.slice none 0 0), rfl, Za, (jr_0 hg_47), rfl, ((fg0 F55).trans (by first | rfl | (simp; done) | (congr 1; omega))), ((fg1 F55).trans (by first | rfl | (simp; done) | (congr 1; omega))), rfl, rfl, rfl, rfl, (by have q0 : c56 = io .i64 (.slice none 0 0) (reK 0 ((moJ (lgN C N Z K Q) K os ans).take 0)) := hc56.trans (rfl); have q1 := hc49; have q2 := hcK_47; have q3 := hc2_26; subst q0 q1 q2 q3; exact S56)⟩ ?_
 clear S56 hc56 hc49 hcK_47 hc2_26
 rintro n57 A57 w57 ⟨Y57, hdf57, i, Gc, bv, hm57, hi, hgc, hz, l16_57, l15_57, u1_57, u2_57, u3_57, u13_57, S57⟩
 have l1_57 := u1_57.trans (fg6 F55)
 have l2_57 := u2_57.trans (fg5 F55)
 have l3_57 := u3_57.trans (fg4 F55)
 have l13_57 := u13_57.trans (fg2 F55)
 obtain ⟨c56_57, c49_57, cK_57, c2_57, hc56_57, hc49_57, hcK_57, hc2_57, S57⟩ := gen4 S57
 refine td fun _ H58 => tb fun _ H59 => (vm l16_57 (vm (Sa l1_57) (le_ t0 (sl_SlN h_lv.at) (vl (Sb t0) t0 (W_end (en ((((((((ck (cq3 (FS.n hdf57) V) V V)).c (es4 V l1_57)).c (es4 V l2_57)).c (es4 V l3_57)).c (es4 V l13_57)).c (es4 V l15_57)).c (Sd l16_57)) fun A60 _ F60 => tk H59 (cd (fg6 F60) (fun c61 => ?_) fun c61 => ?_)))))))
 ·refine wp_skip (tc H58 fun _ H62 => wp_block (td fun _ H63 => ?_))
  have k64 : i < os.length := by first | omega | (simp only [List.length_cons, List.length_nil]; omega) | (simp only [List.length_set]; omega) | decide
  obtain ⟨y64, hy64⟩ := get_some (xs := os) (k := i) k64
  have hjr := jr_at (n := (lgN C N Z K Q)) hK hl2 Za hjA hy64 hgc
  have hop : opE (⟨y64.kd, y64.a, y64.b, y64.f, y64.p, y64.q, y64.u⟩ : OpC) = 0 := hops y64 (List.mem_of_getElem? hy64)
  have hsm := hjr.1.sm
  have hr8 : Gc.2.2.length ≤ 1048576 := by have q := hjr.1.gg.r8; simp only [gab] at q; omega
  have ho4 : Gc.1.2.length ≤ 1048576 := by have q := hjr.1.gg.o4; simp only [gab, List.length_map] at q; omega
  refine region_monoS 12 13 [none, none, none, none, none, none, some (SPv [] (fun _ => fun u l' => ∃ ho1_s Ho1_s qo1_s so1_s, u = .tuple #[.agg #[ho1_s, qo1_s], .agg #[.int .i64 (doG (lgN C N Z K Q) (gab Gc) (⟨y64.kd, y64.a, y64.b, y64.f, y64.p, y64.q, y64.u⟩ : OpC)).2.e, .bool (doG (lgN C N Z K Q) (gab Gc) (⟨y64.kd, y64.a, y64.b, y64.f, y64.p, y64.q, y64.u⟩ : OpC)).2.t, .int .u64 (doG (lgN C N Z K Q) (gab Gc) (⟨y64.kd, y64.a, y64.b, y64.f, y64.p, y64.q, y64.u⟩ : OpC)).2.v]] ∧ (gab ((ho1_s, Ho1_s), (qo1_s, so1_s)) = (doG (lgN C N Z K Q) (gab Gc) (⟨y64.kd, y64.a, y64.b, y64.f, y64.p, y64.q, y64.u⟩ : OpC)).1) ∧ ∃ cK_s, cK_s = gls [((ho1_s, Ho1_s), (qo1_s, so1_s))] ∧ l' = [cK_s]) 6), none, none, none, some (SPv [] (fun _ => fun u l' => ∃ g_, u = .pointer (some ⟨g_, 0, none⟩) ∧ ∃ c_, c_ = bx g_ 30 #[.slice none 0 0, .slice none 0 0] ∧ l' = [c_]) 10), some (SPv [] (fun _ => fun u l' => ∃ g_, u = .pointer (some ⟨g_, 0, none⟩) ∧ ∃ c_, c_ = bx g_ 54 #[.int .i64 0, .bool false, .int .u64 0] ∧ l' = [c_]) 11)] om om (dr (fun _ hx _ => (ura (fg3 F60) ((S57.grow hx).ob 3 hc2_57))) (dr (fun _ hx _ => (ura (Sa (fg2 F60)) ((S57.grow hx).ob 1 hc49_57))) (dm (Sb (fg5 F60)) (dm (Sc (fg0 F60)) ?_))))
  obtain ⟨B64, O64, C64, hv64⟩ := (SlN.blk (sl_SlN h_lv.at) kr)
  refine dv (V_ixS (off := O64 + i * 7) 7 i V (Sa t0) t0 hv64 Za k64 Tryz.underlying24 om V) (dr (fun sx hx hF => (VR_ldR (ys := opC y64) V t0 (SlN.row opC_len (sl_SlN ((S57.grow hx).ro h_lv)) hv64 hy64 V) Tryz.underlying50 V om)) (D_call (ts := []) (vs := []) (C0 := fun _ => fun u l' => ∃ ho1_s Ho1_s qo1_s so1_s, u = .tuple #[.agg #[ho1_s, qo1_s], .agg #[.int .i64 (doG (lgN C N Z K Q) (gab Gc) (⟨y64.kd, y64.a, y64.b, y64.f, y64.p, y64.q, y64.u⟩ : OpC)).2.e, .bool (doG (lgN C N Z K Q) (gab Gc) (⟨y64.kd, y64.a, y64.b, y64.f, y64.p, y64.q, y64.u⟩ : OpC)).2.t, .int .u64 (doG (lgN C N Z K Q) (gab Gc) (⟨y64.kd, y64.a, y64.b, y64.f, y64.p, y64.q, y64.u⟩ : OpC)).2.v]] ∧ (gab ((ho1_s, Ho1_s), (qo1_s, so1_s)) = (doG (lgN C N Z K Q) (gab Gc) (⟨y64.kd, y64.a, y64.b, y64.f, y64.p, y64.q, y64.u⟩ : OpC)).1) ∧ ∃ cK_s, cK_s = gls [((ho1_s, Ho1_s), (qo1_s, so1_s))] ∧ l' = [cK_s]) (C := fun u l' => ∃ ho1_s Ho1_s qo1_s so1_s, u = .tuple #[.agg #[ho1_s, qo1_s], .agg #[.int .i64 (doG (lgN C N Z K Q) (gab Gc) (⟨y64.kd, y64.a, y64.b, y64.f, y64.p, y64.q, y64.u⟩ : OpC)).2.e, .bool (doG (lgN C N Z K Q) (gab Gc) (⟨y64.kd, y64.a, y64.b, y64.f, y64.p, y64.q, y64.u⟩ : OpC)).2.t, .int .u64 (doG (lgN C N Z K Q) (gab Gc) (⟨y64.kd, y64.a, y64.b, y64.f, y64.p, y64.q, y64.u⟩ : OpC)).2.v]] ∧ (gab ((ho1_s, Ho1_s), (qo1_s, so1_s)) = (doG (lgN C N Z K Q) (gab Gc) (⟨y64.kd, y64.a, y64.b, y64.f, y64.p, y64.q, y64.u⟩ : OpC)).1) ∧ ∃ cK_s, cK_s = gls [((ho1_s, Ho1_s), (qo1_s, so1_s))] ∧ l' = [cK_s]) V V V Tryz.func42 om V (args3 (Se t0) (Sd t0) t0) V V V V (fun sx hx hF => ?_) (fun u65 l65 hu65 => ?_)))
  ·refine (qdn_c (C := C) (N := N) (Z := Z) (K := K) (Q := Q) (G := Gc) (kd := y64.kd) (a := y64.a) (b := y64.b) (f := y64.f) (p := y64.p) (q := y64.q) (uu := y64.u) (gl_mk (gl_oaR m1 ((S57.grow hx).cC 2 hcK_57)) (gl_naR m1 ((S57.grow hx).cC 2 hcK_57)) (gl_raR m1 ((S57.grow hx).cC 2 hcK_57))) (by first | with_reducible assumption | exact hsm) Zc Ze Ze).mono ?_
   rintro _ _ ⟨ho1_65, Ho1_65, qo1_65, so1_65, rfl, hg_65, hz⟩
   exact ⟨_, rfl, _, ⟨_, _, _, _, rfl, hg_65, _, rfl, rfl⟩, hz⟩
  obtain ⟨ho1_65, Ho1_65, qo1_65, so1_65, rfl, hg_65, cK_65, hcK_65, hl65⟩ := hu65
  refine dm t0 (dx (.agg #[ho1_65, qo1_65]) t0 (dx (.agg #[.int .i64 ((doG (lgN C N Z K Q) (gab Gc) (⟨y64.kd, y64.a, y64.b, y64.f, y64.p, y64.q, y64.u⟩ : OpC)).2.e), .bool ((doG (lgN C N Z K Q) (gab Gc) (⟨y64.kd, y64.a, y64.b, y64.f, y64.p, y64.q, y64.u⟩ : OpC)).2.t), .int .u64 ((doG (lgN C N Z K Q) (gab Gc) (⟨y64.kd, y64.a, y64.b, y64.f, y64.p, y64.q, y64.u⟩ : OpC)).2.v)]) (Sa t0) (D_lay (ts := []) (vs := []) (C0 := fun _ => fun u l' => ∃ g_, u = .pointer (some ⟨g_, 0, none⟩) ∧ ∃ c_, c_ = bx g_ 30 #[.slice none 0 0, .slice none 0 0] ∧ l' = [c_]) (C := fun u l' => ∃ g_, u = .pointer (some ⟨g_, 0, none⟩) ∧ ∃ c_, c_ = bx g_ 30 #[.slice none 0 0, .slice none 0 0] ∧ l' = [c_]) V V V V V V (fun sx hx hF => lay_alloc (z := .agg #[.slice none 0 0, .slice none 0 0]) V om Zd) (fun u66 l66 hu66 => ?_))))
  obtain ⟨g66, rfl, c66, hc66, hl66⟩ := hu66
  refine D_lay (ts := []) (vs := []) (C0 := fun _ => fun u l' => ∃ g_, u = .pointer (some ⟨g_, 0, none⟩) ∧ ∃ c_, c_ = bx g_ 54 #[.int .i64 0, .bool false, .int .u64 0] ∧ l' = [c_]) (C := fun u l' => ∃ g_, u = .pointer (some ⟨g_, 0, none⟩) ∧ ∃ c_, c_ = bx g_ 54 #[.int .i64 0, .bool false, .int .u64 0] ∧ l' = [c_]) V V V V V V (fun sx hx hF => lay_alloc (z := .agg #[.int .i64 0, .bool false, .int .u64 0]) V om Zd) (fun u67 l67 hu67 => ?_)
  obtain ⟨g67, rfl, c67, hc67, hl67⟩ := hu67
  refine D_eff V (ZS_eff S57 V V (fun s68 hJ68 hL68 hF68 => ?_))
  obtain ⟨ll65, ws65, we65, ⟨ho1_65q, Ho1_65q, qo1_65q, so1_65q, hq65, hg_65r, cK_65r, hcK_65r, hl65r⟩, hm65, k65, e65⟩ := L.all_get (L.all_rest (L.all_rest hF68)); cases hq65; subst hl65r
  replace hJ68 := hJ68.add hL68 (i := 6) V hm65 k65 e65
  obtain ⟨ll66, ws66, we66, ⟨g66q, hq66, c66r, hc66r, hl66r⟩, hm66, k66, e66⟩ := L.all_get (L.all_rest hF68); cases hq66; subst hl66r
  replace hJ68 := hJ68.add hL68 (i := 10) V hm66 k66 e66
  obtain ⟨ll67, ws67, we67, ⟨g67q, hq67, c67r, hc67r, hl67r⟩, hm67, k67, e67⟩ := L.all_get hF68; cases hq67; subst hl67r
  replace hJ68 := hJ68.add hL68 (i := 11) V hm67 k67 e67
  have S68 := hJ68.st; clear hF68 hJ68 hL68
  generalize s68.1 = w68 at *
  replace S68 : St w NoX [c67r, c66r, cK_65r, c56_57, c49_57, cK_57, c2_57] w68 := S68
  refine xsB1 S68 hc66r V V V (Sa t0) (Sc t0) (by simp only [List.all_toArray, List.all_cons, List.all_nil, obC, grC, SlN_one (sl_SlN (gl_oa m1 (S68.cq 2 hcK_65r))), SlN_one (sl_SlN (gl_ra m1 (S68.cq 2 hcK_65r)))] <;> rfl) (fun w69 c69 hc69 S69 => xsA0 S69 hc67r V V V t0 (Sb t0) (fun w70 c70 hc70 S70 => W_end (Qo_normal (en (Kb (Qb (Qh F60))) fun A71 _ F71 => tc H63 fun _ H72 => td fun _ H73 => wp_mid (G := fun A' w' => SzN A' 107 ∧ A'.defers = [] ∧ (EV A' (.tmp 1) = EV A71 (.tmp 1)) ∧ (EV A' (.tmp 2) = EV A71 (.tmp 2)) ∧ (EV A' (.tmp 3) = EV A71 (.tmp 3)) ∧ (EV A' (.tmp 13) = EV A71 (.tmp 13)) ∧ (EV A' (.tmp 15) = EV A71 (.tmp 15)) ∧ (EV A' (.tmp 16) = EV A71 (.tmp 16)) ∧ (EV A' (.tmp 17) = EV A71 (.tmp 17)) ∧ (EV A' (.tmp 18) = EV A71 (.tmp 18)) ∧ (EV A' (.tmp 93) = .bool (decide ((y64.kd = 1) ∧ ((doG (lgN C N Z K Q) (gab Gc) (⟨y64.kd, y64.a, y64.b, y64.f, y64.p, y64.q, y64.u⟩ : OpC)).2.e = 0) ∧ ((ans.getD i (AnC.mk 0 false 0)).e = 5)))) ∧ St w NoX [c70, c69, cK_65r, c56_57, c49_57, cK_57, c2_57] w') ?_ ?_))))
  ·have j1_74 := (fg7 F71)
   have j2_74 := (fg6 F71)
   have j3_74 := (fg5 F71)
   have j13_74 := (fg4 F71)
   have j15_74 := (fg3 F71)
   have j16_74 := (fg2 F71)
   have j17_74 := (fg1 F71)
   have j18_74 := (fg0 F71)
   refine region_in (vm (fg7 F71) (vm (Sa (fg2 F71)) (wv (V_ixS (off := O64 + i * 7) 7 i V (Sa t0) t0 hv64 Za k64 Tryz.underlying24 om V) (wv (V_fa (off' := O64 + i * 7 + 0) V t0 Tryz.underlying50 V Zi V) (rd (.int .i64 (y64.kd)) t0 (SlN.row opC_len (sl_SlN (S70.ro h_lv)) hv64 hy64 V 0 _ V) (ve t0 V (W_split V V (V_mov V t0) (fun c76 => ?_) (fun c76 => ?_))))))))
   ·refine wg V t0 (ufa 0 (Sg (fg0 F71))) (wq V (Sa t0) (urL (.int .i64 ((doG (lgN C N Z K Q) (gab Gc) (⟨y64.kd, y64.a, y64.b, y64.f, y64.p, y64.q, y64.u⟩ : OpC)).2.e)) t0 (S70.ob 0 hc70)) (wg V (Sb t0) (uve t0 V) (vT (Sc t0) t0 (W_split V V (V_mov V t0) (fun c77 => ?_) (fun c77 => ?_)))))
    ·refine wg V t0 (uvm (Sh (Sd (fg6 F71)))) (wg V (Sa t0) (uvm (Sh (Se (fg2 F71)))) ?_)
     have k78 : i < ans.length := by first | omega | (simp only [List.length_cons, List.length_nil]; omega) | (simp only [List.length_set]; omega) | decide
     obtain ⟨y78, hy78⟩ := get_some (xs := ans) (k := i) k78
     have hvr78 := hvr y78 (List.mem_of_getElem? hy78)
     have gz78 := gD_at hy78
     obtain ⟨B78, O78, C78, hv78⟩ := (SlN.blk (sl_SlN h_av.at) kr)
     refine wg V (Sb t0) (V_ixS (off := O78 + i * 3) 3 i V (Sa t0) t0 hv78 Za k78 Tryz.underlying31 om V) (wg V (Sc t0) (V_fa (off' := O78 + i * 3 + 0) V t0 Tryz.underlying54 V Zi V) (wq V (Sd t0) (urd (.int .i64 (y78.e)) t0 (SlN.row anC_len (sl_SlN (S70.ro h_av)) hv78 hy78 V 0 _ V)) (wg V (Se t0) (uve t0 V) (vT (Sf t0) t0 (W_end (en (Kg (Qb (Kc (Qg F71)))) fun A79 Y79 F79 => ?_))))))
     exact Mid_n ⟨Y79, F79.d, ((fg17 F79).trans j1_74.symm), ((fg16 F79).trans j2_74.symm), ((fg15 F79).trans j3_74.symm), ((fg14 F79).trans j13_74.symm), ((fg13 F79).trans j15_74.symm), ((fg12 F79).trans j16_74.symm), ((fg11 F79).trans j17_74.symm), ((fg10 F79).trans j18_74.symm), ((fg0 F79).trans (congrArg Value.bool (by rw [gz78]; exact decide_eq_decide.2 ⟨fun q => ⟨c76, c77, q⟩, fun q => q.2.2⟩))), S70⟩
    refine xo V t0 (xo V (Sa t0) (xo V (Sb t0) (xo V (Sc t0) (xo V (Sd t0) (xo V (Se t0) (vF (Sf t0) V (W_end (en (Kg (Qb (Kc (Qg F71)))) fun A80 Y80 F80 => ?_))))))))
    exact Mid_n ⟨Y80, F80.d, ((fg17 F80).trans j1_74.symm), ((fg16 F80).trans j2_74.symm), ((fg15 F80).trans j3_74.symm), ((fg14 F80).trans j13_74.symm), ((fg13 F80).trans j15_74.symm), ((fg12 F80).trans j16_74.symm), ((fg11 F80).trans j17_74.symm), ((fg10 F80).trans j18_74.symm), ((fg0 F80).trans (congrArg Value.bool ((decide_eq_false (fun q => c77 q.2.1)).symm))), S70⟩
   refine xo V t0 (xo V (Sa t0) (xo V (Sb t0) (vF (Sc t0) V (vm t0 (xo V t0 (xo V (Sa t0) (xo V (Sb t0) (xo V (Sc t0) (xo V (Sd t0) (xo V (Se t0) (vF (Sf t0) V (W_end (en (Kg (Qb (Kc (Qg F71)))) fun A81 Y81 F81 => ?_)))))))))))))
   exact Mid_n ⟨Y81, F81.d, ((fg17 F81).trans j1_74.symm), ((fg16 F81).trans j2_74.symm), ((fg15 F81).trans j3_74.symm), ((fg14 F81).trans j13_74.symm), ((fg13 F81).trans j15_74.symm), ((fg12 F81).trans j16_74.symm), ((fg11 F81).trans j17_74.symm), ((fg10 F81).trans j18_74.symm), ((fg0 F81).trans (congrArg Value.bool ((decide_eq_false (fun q => c76 q.1)).symm))), S70⟩
  rintro A74 w74 ⟨Y74, hdf74, u1_74, u2_74, u3_74, u13_74, u15_74, u16_74, u17_74, u18_74, l93_74, S74⟩
  have l1_74 := u1_74.trans (fg7 F71)
  have l2_74 := u2_74.trans (fg6 F71)
  have l3_74 := u3_74.trans (fg5 F71)
  have l13_74 := u13_74.trans (fg4 F71)
  have l15_74 := u15_74.trans (fg3 F71)
  have l16_74 := u16_74.trans (fg2 F71)
  have l17_74 := u17_74.trans (fg1 F71)
  have l18_74 := u18_74.trans (fg0 F71)
  refine tk H73 (cd l93_74 (fun c82 => ?_) fun c82 => ?_)
  ·refine tb fun _ H83 => (vm l15_74 (vm (Sa l16_74) ?_))
   have hll84 : [(i : Int)].length = 1 := rfl
   refine xsL (vs := [.int .i64 (i : Int)]) (xs := ([(i : Int)].map (Value.int .i64))) 1 S74 V V V (parts1 t0) Tryz.underlying25 (fun g84 w84 c84 hc84 S84 => ?_)
   replace hc84 : c84 = io .i64 (.slice (some ⟨g84, 0, none⟩) 1 1) [(i : Int)] := hc84
   replace S84 : St w NoX [c84, c70, c69, cK_65r, c56_57, c49_57, cK_57, c2_57] w84 := S84
   refine W_appS 1 4 S84 V hc56_57 V V V (Sb t0) t0 Tryz.underlying25 Tryz.underlying25 (z := .int .i64 0) (bytes := 8) om V Zg (ow_at (S84.cq 0 hc84)) ones_i (by have := reT_len (M := (moJ (lgN C N Z K Q) K os ans)) (i := i); simp; omega) (by have := reT_len (M := (moJ (lgN C N Z K Q) K os ans)) (i := i); simp; omega) (fun v85 w85 c85 hc85 S85 => ?_)
   replace hc85 : c85 = io .i64 v85 ((reK 0 ((moJ (lgN C N Z K Q) K os ans).take i)) ++ [(i : Int)]) := hc85.trans (app_eq (by first | (simp; done) | (rw [List.take_of_length_le (l := List.drop _ _) (by rw [List.length_drop]; exact Nat.le_refl _)])))
   replace S85 : St w NoX [c84, c70, c69, cK_65r, c85, c49_57, cK_57, c2_57] w85 := S85
   refine vt (W_end (en (((((((ck (cq4 (FS.n hdf74) V) V V)).c (es5 V l1_74)).c (es5 V l2_74)).c (es5 V l3_74)).c (es5 V l13_74)).c (Se l16_74)) fun A86 _ F86 => ?_))
   have S87 := S85.se [3, 4, 5, 6, 7] [cK_65r, c85, c49_57, cK_57, c2_57]
   refine tk H83 (wp_exit (then_exit (inb_hit (tk H62 (region_in (vm (fg0 F86) (ad t0 V (vt (W_end (en (Ka (Qb (fx0 F86))) fun A88 Y88 F88 => ?_))))))))))
   have S89 := S87.se [1, 2, 3, 4] [c85, c49_57, cK_57, c2_57]
   refine then_n ⟨os.length - (i + 1), by simp only [hm57]; omega, Y88, F88.d, (i + 1), Gc, v85, rfl, Za, (hjr.2.1 c82).2.2, (fbJ_step hz (hjr.2.1 c82).1 (hjr.2.1 c82).2.1), ((fg0 F88).trans (by first | rfl | (simp; done) | (congr 1; omega))), ((fg5 F88).trans (by first | rfl | (simp; done) | (congr 1; omega))), ((fg4 F88).trans (fg6 F55).symm), ((fg3 F88).trans (fg5 F55).symm), ((fg2 F88).trans (fg4 F55).symm), ((fg1 F88).trans (fg2 F55).symm), (by have q0 : c85 = io .i64 v85 (reK 0 ((moJ (lgN C N Z K Q) K os ans).take (i + 1))) := hc85.trans ((congrArg (io .i64 _) (reT_5 (hjr.2.1 c82).1).symm)); have q1 := hc49_57; have q2 := hcK_57; have q3 := hc2_57; subst q0 q1 q2 q3; exact S89)⟩
  refine wp_skip (tc H72 fun _ H90 => td fun _ H91 => region_monoS 6 6 [] om om (dm l2_74 (dm (Sa l16_74) ?_)))
  have k92 : i < ans.length := by first | omega | (simp only [List.length_cons, List.length_nil]; omega) | (simp only [List.length_set]; omega) | decide
  obtain ⟨y92, hy92⟩ := get_some (xs := ans) (k := i) k92
  have hvr92 := hvr y92 (List.mem_of_getElem? hy92)
  have gz92 := gD_at hy92
  obtain ⟨B92, O92, C92, hv92⟩ := (SlN.blk (sl_SlN h_av.at) kr)
  refine dv (V_ixS (off := O92 + i * 3) 3 i V (Sa t0) t0 hv92 Za k92 Tryz.underlying31 om V) (dr (fun sx hx hF => (VR_ldR (ys := anC y92) V t0 (SlN.row anC_len (sl_SlN ((S74.grow hx).ro h_av)) hv92 hy92 V) Tryz.underlying54 V om)) (dr (fun _ hx _ => (ura (Sd l18_74) ((S74.grow hx).ob 0 hc70))) (dv (V_neStA V (Sa t0) t0 om) (ZS_none S74 (Nat.le_refl _) (Nat.le_refl _) (fun s93 hJ93 hL93 hF93 => ?_)))))
  have S93 := hJ93.st; clear hF93 hJ93 hL93
  generalize s93.1 = w93 at *
  replace S93 : St w NoX [c70, c69, cK_65r, c56_57, c49_57, cK_57, c2_57] w93 := S93
  refine en (((((((((ck (cq5 (FS.n hdf74) V) V V)).c (es6 V l1_74)).c (es6 V l2_74)).c (es6 V l3_74)).c (es6 V l13_74)).c (es6 V l15_74)).c (es6 V l16_74)).c (Sf l17_74)) fun A94 _ F94 => ?_
  have S95 := S93.se [1, 2, 3, 4, 5, 6] [c69, cK_65r, c56_57, c49_57, cK_57, c2_57]
  refine tk H91 (cd (fg7 F94) (fun c96 => ?_) fun c96 => ?_)
  ·refine tb fun _ H97 => (vm (fg1 F94) (vc (va (Sa t0) (vc (W_end (en (Kc (Qa F94)) fun A98 _ F98 => ?_))))))
   have S99 := S95.se [1, 4] [cK_65r, cK_57]
   refine tk H97 (wp_ret (then_ret (inb_ret (then_ret (then_ret (inb_ret (then_ret (rt3 F98 (rv_tmp (fg2 F98)) (rv_tmp (fg1 F98)) (rv_tmp (fg0 F98)) ?_))))))))
   obtain ⟨c100, hc100, S100⟩ := S99.pnil (s := 1)
   have h : (jdF (cfE C N Z K Q) (lgN C N Z K Q) K os ans) = ((i : Int), 4) := (jd_fb hsz Za hjA).trans (fbJ_bad hz (hjr.2.2 c82).1 (fun q => c96 (anIff.1 (gz92.symm.trans q))))
   have hl0 : (jdL (cfE C N Z K Q) (lgN C N Z K Q) K os ans) = [] := jdL_e (by rw [h]; exact (show (4 : Int) ≠ 0 by decide))
   rw [h, hl0]
   exact ⟨_, rfl, (S100.f1 0 hc100)⟩
  refine wp_skip (tk H90 (region_in (ra (fg0 F94) (S95.ob 0 hc69) (xsB3 S95 hc49_57 V V V (Sa (fg3 F94)) t0 (by simp only [List.all_toArray, List.all_cons, List.all_nil, obC, grC, SlN_one (sl_SlN (gl_oa m1 (S95.cq 1 hcK_65r))), SlN_one (sl_SlN (gl_ra m1 (S95.cq 1 hcK_65r)))] <;> rfl) (fun w101 c101 hc101 S101 => W_end ?_)))))
  have S102 := S101.se [0, 1, 2, 3, 5] [c69, cK_65r, c56_57, c101, c2_57]
  refine en (Qa F94) fun A103 _ F103 => ?_
  have S104 := S102.se [1, 2, 3, 4] [cK_65r, c56_57, c101, c2_57]
  refine inb_n (tk H62 (region_in (vm (fg1 F103) (ad t0 V (vt (W_end (en (Ka (Qb (fx1 F103))) fun A105 Y105 F105 => ?_)))))))
  have S106 := S104.se [1, 2, 0, 3] [c56_57, c101, cK_65r, c2_57]
  refine then_n ⟨os.length - (i + 1), by simp only [hm57]; omega, Y105, F105.d, (i + 1), ((ho1_65, Ho1_65q), (qo1_65, so1_65q)), bv, rfl, Za, ((hjr.2.2 c82).2.2.trans (congrArg some hg_65r.symm)), (fbJ_step hz (hjr.2.2 c82).1 (gz92.trans (anIff.2 (Decidable.not_not.1 c96)))), ((fg0 F105).trans (by first | rfl | (simp; done) | (congr 1; omega))), ((fg2 F105).trans (by first | rfl | (simp; done) | (congr 1; omega))), ((fg6 F105).trans (fg6 F55).symm), ((fg5 F105).trans (fg5 F55).symm), ((fg4 F105).trans (fg4 F55).symm), ((fg3 F105).trans (fg2 F55).symm), (by have q0 : c56_57 = io .i64 bv (reK 0 ((moJ (lgN C N Z K Q) K os ans).take (i + 1))) := hc56_57.trans ((congrArg (io .i64 _) (reT_0 (hjr.2.2 c82).1 (hjr.2.2 c82).2.1).symm)); have q1 := hc101; have q2 := hcK_65r; have q3 := hc2_57; subst q0 q1 q2 q3; exact S106)⟩
 refine wp_exit (then_exit (then_exit (inb_hit (ta H53 fun _ H107 => (vm (fg1 F60) (vt (vc (vc (W_end (en (Kc (Qa F60)) fun A108 _ F108 => tk H107 (wp_ret (rt3 F108 (rv_tmp (fg2 F108)) (rv_tmp (fg1 F108)) (rv_tmp (fg0 F108)) ?_))))))))))))
 have hd := jr_end hsz Za hjA hz Za
 rw [hd.1]
 exact ⟨_, rfl, (S57.f1 0 (hc56_57.trans (congrArg (io .i64 _) hd.2.symm)))⟩

end Go.Proofs.YtpgkfndbfocibaaGreat