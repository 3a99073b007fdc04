import Derived.Test.YtpgkfndbfocibaaGreatPl15k
import Derived.Test.YtpgkfndbfocibaaGreatPl29h
import Derived.Test.YtpgkfndbfocibaaGreatPl29l
import Derived.Test.YtpgkfndbfocibaaGreatPl29j
import Derived.Test.YtpgkfndbfocibaaGreatProg
import Derived.Test.YtpgkfndbfocibaaGreatSqL
import Derived.Test.YtpgkfndbfocibaaGreatMs8
import Derived.Test.YtpgkfndbfocibaaGreatSep29g
import Derived.Test.YtpgkfndbfocibaaGreatMs14
import Derived.Test.YtpgkfndbfocibaaGreatMs13
import Derived.Test.YtpgkfndbfocibaaGreatGh10
namespace Go.Own.Gr
open Go Go.Own Go.Own.R Go.Own.G
end Go.Own.Gr

namespace Go.Own.Ml
open Go Go.Own Go.Own.R Go.Own.G Go.Own.Gr
section
variable {mx : Int} {rf : Nat → Bool}
end
section
variable {cf n K : Int} {l : List OpC} {full : List Int} {i j : Nat}
end
end Go.Own.Ml
namespace Go.Own.Ml
open Go Go.Own Go.Own.R Go.Own.G Go.Own.Gr
end Go.Own.Ml

namespace Go.Own.Ml
open Go Go.Own Go.Own.R Go.Own.G Go.Own.Gr
section
variable {mx : Int}
end
section
variable {cf n K : Int} {l : List OpC} {full : List Int}
end
end Go.Own.Ml
namespace Go.Own.Ml
open Go Go.Own Go.Own.R Go.Own.G Go.Own.Gr
structure KP (full : List Int) (i j : Nat) : Prop where
 jl : j ≤ full.length
 lo : ∀ (q : Nat) (z : Int), q < j → full[q]? = some z → z < (i : Int)
 hi : ∀ (q : Nat) (z : Int), j ≤ q → full[q]? = some z → (i : Int) ≤ z
section
variable {full : List Int} {i j : Nat} {c : Nat}
theorem KP.init (h : fcF (-1) full c = true) : KP full 0 0 := ⟨by omega, fun q z hq => by omega, fun q z _ hz => by have := ((fc_asc full (-1) c h).1 q z hz).1; omega⟩
theorem KP.in (h : j < full.length ∧ full.getD j 0 = (i : Int)) : rfP full i = true := by
 unfold rfP
 refine decide_eq_true ?_
 rw [← h.2, List.getD_eq_getElem?_getD, List.getElem?_eq_getElem h.1]
 exact List.getElem_mem h.1
theorem KP.out (k : KP full i j) (ha : Asc full) (h : ¬ ((j : Int) < (full.length : Int) ∧ full.getD j 0 = (i : Int))) : ¬ rfP full i = true := fun q => by
 unfold rfP at q
 obtain ⟨m, hm, he⟩ := List.mem_iff_getElem.1 (of_decide_eq_true q)
 have hg : full[m]? = some (i : Int) := by rw [List.getElem?_eq_getElem hm, he]
 rcases Nat.lt_trichotomy m j with r | r | r
 ·have := k.lo m _ r hg; omega
 ·subst r
  refine h ⟨by omega, ?_⟩
  rw [List.getD_eq_getElem?_getD, hg]; rfl
 ·have hj : j < full.length := by omega
  have h1 := k.hi j _ (Nat.le_refl _) (List.getElem?_eq_getElem hj)
  have h2 := ha j m r _ _ (List.getElem?_eq_getElem hj) hg
  omega
theorem KP.stT (k : KP full i j) (ha : Asc full) (h : (j : Int) < (full.length : Int) ∧ full.getD j 0 = (i : Int)) : KP full (i + 1) (j + 1) := by
 have hj : j < full.length := by omega
 have hg : full[j]? = some (i : Int) := by
  have := h.2
  rw [List.getD_eq_getElem?_getD, List.getElem?_eq_getElem hj] at this
  rw [List.getElem?_eq_getElem hj, ← this]; rfl
 refine ⟨by omega, fun q z hq hz => ?_, fun q z hq hz => ?_⟩
 ·by_cases r : q = j
  ·subst r; rw [hg] at hz; cases hz; omega
  ·have := k.lo q z (by omega) hz; omega
 ·have := ha j q (by omega) _ _ hg hz; omega
theorem KP.stF (k : KP full i j) (ha : Asc full) (h : ¬ ((j : Int) < (full.length : Int) ∧ full.getD j 0 = (i : Int))) : KP full (i + 1) j := by
 have ho := k.out ha h
 refine ⟨k.jl, fun q z hq hz => ?_, fun q z hq hz => ?_⟩
 ·have := k.lo q z hq hz; omega
 ·have h1 := k.hi q z hq hz
  rcases Int.lt_or_eq_of_le h1 with r | r
  ·omega
  ·subst r; exact absurd (show rfP full i = true from decide_eq_true (List.mem_of_getElem? hz)) ho
theorem gD0 {l : List Int} {y : Int} (h : l[j]? = some y) : l.getD j 0 = y := by rw [List.getD_eq_getElem?_getD, h]; rfl
end
end Go.Own.Ml

namespace Go.Own.Ml
open Go Go.Own Go.Own.R Go.Own.G Go.Own.Gr
structure VG (K : Int) (i : Nat) (g : GA) : Prop where
 gg : GG g.1 g.2
 rl : (g.2.length : Int) = K
 ol : g.1.length ≤ i
 sm : SM g.1
section
variable {K mx : Int} {g : GA} {c : OpC} {i : Nat}
theorem VG.ck (h : VG K i g) (ns : List Int) : ckd g.1 g.2 ns = 0 ∨ ckd g.1 g.2 ns = 10 := by
 unfold ckd; rw [if_neg (by rw [ckG_iff.2 h.gg]; decide)]
 split
 ·exact .inl rfl
 ·exact .inr rfl
theorem VG.pt (h : VG K i g) (ns : List Int) (a f : Int) : ptE g.1 g.2 ns a f = 0 ∨ ptE g.1 g.2 ns a f = 10 := by
 unfold ptE
 rcases h.ck ns with q | q <;> rw [q]
 ·rw [if_neg (by decide)]; split
  ·exact .inr rfl
  ·exact .inl rfl
 ·exact .inr (if_pos (by decide))
theorem VG.rw' (h : VG K i g) (ns : List Int) (a f : Int) : rwE g.1 g.2 ns a f = 0 ∨ rwE g.1 g.2 ns a f = 10 := by
 unfold rwE
 rcases h.ck ns with q | q <;> rw [q]
 ·rw [if_neg (by decide)]; split
  ·exact .inr rfl
  ·exact .inl rfl
 ·exact .inr (if_pos (by decide))
theorem VG.sh (h : VG K i g) (a : Int) : shE g.1 g.2 a = 0 ∨ shE g.1 g.2 a = 10 := by
 unfold shE
 rcases h.ck [a] with q | q <;> rw [q]
 ·rw [if_neg (by decide)]; split
  ·exact .inr rfl
  ·exact .inl rfl
 ·exact .inr (if_pos (by decide))
theorem VG.al (h : VG K i g) (hi : i < 400) (a p q : Int) : alA mx g a p q = 0 ∨ alA mx g a p q = 10 ∨ alA mx g a p q = 11 := by
 have hl := h.ol
 unfold alA
 rcases h.ck [a, a] with r | r <;> rw [r]
 ·rw [if_neg (by decide)]
  split
  ·exact .inr (.inl rfl)
  ·split
   ·exact .inr (.inr rfl)
   ·unfold alE
    rcases h.ck [a] with r | r <;> rw [r]
    ·rw [if_neg (by decide)]
     split
     ·exact .inr (.inl rfl)
     ·split
      ·exact .inr (.inr rfl)
      ·rw [if_neg (by omega)]; exact .inl rfl
    ·exact .inr (.inl (if_pos (by decide)))
 ·exact .inr (.inl (if_pos (by decide)))
theorem VG.err (h : VG K i g) (hi : i < 400) : (doG mx g c).2.e = 0 ∨ (doG mx g c).2.e = 10 ∨ (doG mx g c).2.e = 11 := by
 have w : ∀ {x : Int}, x = 0 ∨ x = 10 → x = 0 ∨ x = 10 ∨ x = 11 := fun h => by omega
 unfold doG
 split
 ·exact h.al hi _ _ _
 ·split
  ·exact w (h.pt _ _ _)
  ·split
   ·exact w (h.pt _ _ _)
   ·split
    ·exact w (h.rw' _ _ _)
    ·split
     ·exact w (h.rw' _ _ _)
     ·split
      ·exact w (h.ck _)
      ·split
       ·exact w (h.ck _)
       ·split
        ·exact w (h.ck _)
        ·split
         ·exact w (h.ck _)
         ·split
          ·exact w (h.sh _)
          ·exact .inl rfl
theorem fin_VG {g' : GA} {er : Int} (h : VG K i g) (h' : er = 0 → VG K (i + 1) g') : VG K (i + 1) (fin g er g').1 := by
 unfold fin; split
 ·exact h' (by assumption)
 ·exact ⟨h.gg, h.rl, Nat.le_succ_of_le h.ol, h.sm⟩
theorem VG.do (h : VG K i g) : VG K (i + 1) (doG mx g c).1 := by
 have hw := doG_Gw (mx := mx) (g := g) (c := c)
 have hs := doG_SM (mx := mx) (c := c) h.sm
 have up : VG K (i + 1) g := ⟨h.gg, h.rl, Nat.le_succ_of_le h.ol, h.sm⟩
 have hl : ∀ (g' : GA), Gw g g' → g'.1.length ≤ i + 1 := fun g' q => by have := q.2; have := h.ol; omega
 have fw : ∀ {er : Int} {g' : GA}, er = 0 → (fin g er g').1 = g' := fun e => by unfold fin; exact if_pos e
 unfold doG at hw hs ⊢
 split
 ·rename_i hk
  rw [if_pos hk] at hw hs
  refine fin_VG h fun er => ?_
  rw [fw er] at hw hs
  have he : alE g.1 g.2 c.a c.p c.q = 0 := by
   unfold alA at er
   split at er
   ·exact absurd er (by assumption)
   ·split at er
    ·cases er
    ·split at er
     ·cases er
     ·exact er
  exact ⟨(nx_alloc he).gg, by simp only; rw [(alE_k he).2.2.2.2.2.1, List.length_set]; exact h.rl, hl _ hw, hs⟩
 ·rename_i hk
  rw [if_neg hk] at hw hs
  split
  ·rename_i hk
   rw [if_pos hk] at hw hs
   refine fin_VG h fun er => ?_
   rw [fw er] at hw hs
   exact ⟨(nx_load er).gg, by unfold ldR; simp only; rw [if_neg (by omega), List.length_set]; exact h.rl, hl _ hw, hs⟩
  ·rename_i hk
   rw [if_neg hk] at hw hs
   split
   ·rename_i hk
    rw [if_pos hk] at hw hs
    refine fin_VG h fun er => ?_
    rw [fw er] at hw hs
    exact ⟨(nx_store er).gg, by unfold soR; simp only; rw [if_neg (by omega)]; exact h.rl, hl _ hw, hs⟩
   ·rename_i hk
    rw [if_neg hk] at hw hs
    split
    ·exact up
    ·rename_i hk
     rw [if_neg hk] at hw hs
     split
     ·rename_i hk
      rw [if_pos hk] at hw hs
      refine fin_VG h fun er => ?_
      rw [fw er] at hw hs
      exact ⟨(nx_write er).gg, by unfold wrR; simp only; rw [if_neg (by omega)]; exact h.rl, hl _ hw, hs⟩
     ·rename_i hk
      rw [if_neg hk] at hw hs
      split
      ·rename_i hk
       rw [if_pos hk] at hw hs
       refine fin_VG h fun er => ?_
       rw [fw er] at hw hs
       exact ⟨(nx_move er).gg, by unfold mvR; simp only; rw [if_neg (by omega), List.length_set]; exact h.rl, hl _ hw, hs⟩
      ·rename_i hk
       rw [if_neg hk] at hw hs
       split
       ·rename_i hk
        rw [if_pos hk] at hw hs
        refine fin_VG h fun er => ?_
        rw [fw er] at hw hs
        exact ⟨(nx_clear er).gg, by unfold clR; simp only; rw [if_neg (by omega), List.length_set]; exact h.rl, hl _ hw, hs⟩
       ·split
        ·exact up
        ·split
         ·exact up
         ·split <;> exact up
theorem VG.stp (h : VG K i g) {rf : Bool} : VG K (i + 1) (stp mx rf g c).1 := by
 unfold Ml.stp; split
 ·exact ⟨h.gg, h.rl, Nat.le_succ_of_le h.ol, h.sm⟩
 ·exact h.do
theorem VG.zero (h : 1 ≤ K ∧ K ≤ 8) : VG K 0 (g00 K) := by
 have e : nwR K = List.replicate K.toNat 0 := (nw_k (by omega)).2
 unfold g00
 rw [e]
 refine ⟨⟨by simp; omega, by simp; omega, by simp, fun o ho => (by cases ho), fun p hp => ?_⟩, by simp; omega, by simp, SM_nil⟩
 have := List.eq_of_mem_replicate hp
 subst this; simp
end
section
variable {mx K : Int} {rf : Nat → Bool}
theorem mom_VG : ∀ (l : List OpC) (k : Nat) (g : GA) (j : Nat), VG K k g → ∀ a, (gsG mx rf k g l)[j]? = some a → VG K (k + j) a
 | l, k, g, 0, h, a, ha => by unfold gsG at ha; simp at ha; subst ha; exact h
 | [], k, g, j + 1, h, a, ha => by simp [gsG, mom] at ha
 | c :: r, k, g, j + 1, h, a, ha => by
  rw [gsG_cons, List.getElem?_cons_succ] at ha
  have := mom_VG r (k + 1) _ j h.stp a ha
  rwa [show k + 1 + j = k + (j + 1) by omega] at this
theorem mom_at : ∀ (l : List OpC) (k : Nat) (g : GA) (j : Nat) (c : OpC), l[j]? = some c → ∃ a, (gsG mx rf k g l)[j]? = some a ∧ (mom mx rf k g l)[j]? = some (stp mx (rf (k + j)) a c)
 | [], _, _, _, _, h => by simp at h
 | c :: r, k, g, 0, d, h => by simp at h; subst h; exact ⟨g, rfl, rfl⟩
 | c :: r, k, g, j + 1, d, h => by
  obtain ⟨a, h1, h2⟩ := mom_at r (k + 1) (stp mx (rf k) g c).1 j d (by simpa using h)
  refine ⟨a, by rw [gsG_cons, List.getElem?_cons_succ]; exact h1, ?_⟩
  rw [mom, List.getElem?_cons_succ, h2, show k + 1 + j = k + (j + 1) by omega]
end
end Go.Own.Ml

namespace Go.Own.Ml
open Go Go.Own Go.Own.R Go.Own.G Go.Own.Gr
section
variable {K mx : Int} {g : GA} {c : OpC} {i : Nat}
theorem VG.sz (h : VG K i g) {o : Ab} (ho : o ∈ g.1) : o.1.length + o.2.length ≤ 31 := by
 have h1 := (h.gg.obj o ho).1
 have h2 := h.sm o ho
 unfold sz2 at h1
 have : IntKind.i64.wrap ((o.1.length : Int) + (o.2.length : Int)) = (o.1.length : Int) + (o.2.length : Int) := wrap_i64 (by omega) (by omega)
 rw [this] at h1; omega
theorem VG.shape (h : VG K i g) (a : Int) : 0 ≤ shP g.1 g.2 a ∧ 0 ≤ shR g.1 g.2 a ∧ shP g.1 g.2 a + shR g.1 g.2 a ≤ 31 := by
 unfold shP shR
 by_cases q : shE g.1 g.2 a ≠ 0
 ·rw [if_pos q, if_pos q]; decide
 ·rw [if_neg q, if_neg q]
  have : (Gr.ob g.1 g.2 a).1.length + (Gr.ob g.1 g.2 a).2.length ≤ 31 := by
   unfold Gr.ob
   rcases Nat.lt_or_ge (rg g.2 a - 1).toNat g.1.length with r | r
   ·rw [List.getD_eq_getElem?_getD, List.getElem?_eq_getElem r]; exact h.sz (List.getElem_mem r)
   ·rw [List.getD_eq_getElem?_getD, List.getElem?_eq_none r]; decide
  omega
theorem VG.fit (h : VG K i g) : ¬ anX c.kd (doG mx g c).2.e (doG mx g c).2.t (doG mx g c).2.v := by
 have fi : ∀ {er : Int} {g' : GA}, ¬ anX c.kd (fin g er g').2.e (fin g er g').2.t (fin g er g').2.v := by
  intro er g'
  unfold fin anX
  simp
 by_cases he : (doG mx g c).2.e ≠ 0
 ·obtain ⟨_, h2, h3⟩ := doG_err he
  rw [h2, h3]; unfold anX; simp
 have he : (doG mx g c).2.e = 0 := by omega
 by_cases h1 : c.kd = 1
 ·rw [do_1 h1]; exact fi
 by_cases h2 : c.kd = 2
 ·rw [do_2 h2]; exact fi
 by_cases h3 : c.kd = 3
 ·rw [do_3 h3]; exact fi
 by_cases h4 : c.kd = 4
 ·rw [he]
  have ht : (doG mx g c).2.t = false := by rw [do_4 h4]
  rw [ht]; unfold anX; simp [h4]
 by_cases h5 : c.kd = 5
 ·rw [do_5 h5]; exact fi
 by_cases h6 : c.kd = 6
 ·rw [do_6 h6]; exact fi
 by_cases h7 : c.kd = 7
 ·rw [do_7 h7]; exact fi
 by_cases h8 : c.kd = 8
 ·rw [he]
  have hv : (doG mx g c).2.v = 0 := by rw [do_8 h8]
  rw [hv]; unfold anX; simp [h8]
 by_cases h9 : c.kd = 9
 ·rw [he]
  have hv : (doG mx g c).2.v = 0 := by rw [do_9 h9]
  rw [hv]; unfold anX; simp [h9]
 by_cases h10 : c.kd = 10
 ·rw [he]
  have ht : (doG mx g c).2.t = false := by rw [do_10 h10]
  have hv : (doG mx g c).2.v = 256 * shP g.1 g.2 c.a + shR g.1 g.2 c.a := by rw [do_10 h10]
  have hs := h.shape c.a
  rw [ht, hv]
  unfold anX
  rintro (⟨q, _⟩ | ⟨_, q⟩)
  ·cases q
  ·exact q ⟨rfl, .inr ⟨h10, by omega, by omega⟩⟩
 ·have : doG mx g c = (g, ⟨0, false, 0⟩) := by
   unfold doG; rw [if_neg h1, if_neg h2, if_neg h3, if_neg h4, if_neg h5, if_neg h6, if_neg h7, if_neg h8, if_neg h9, if_neg h10]
  rw [this]; unfold anX; simp
theorem VG.an (h : VG K i g) (hi : i < 400) (ho : opE c = 0) {rf : Bool} : anE c (Ml.stp mx rf g c).2 = 0 := by
 refine an_ok (by omega) ?_ ?_
 ·unfold Ml.stp; split
  ·simp
  ·have := h.err (mx := mx) (c := c) hi; omega
 ·unfold Ml.stp; split
  ·unfold anX; simp
  ·exact h.fit
end
end Go.Own.Ml

namespace Go.Own.Ml
open Go Go.Own Go.Own.R Go.Own.G Go.Own.Gr
section
variable {cf n K : Int} {l : List OpC} {full : List Int}
end
end Go.Own.Ml

namespace Go.Own.Ml
open Go Go.Own Go.Own.R Go.Own.G Go.Own.Gr
section
variable {cf n K : Int} {l : List OpC} {full : List Int}
end
end Go.Own.Ml
namespace Go.Own.Ml
open Go Go.Own Go.Own.R Go.Own.G Go.Own.Gr
section
variable {cf n K : Int} {l : List OpC} {full : List Int}
end
end Go.Own.Ml
namespace Go.Own.Ml
end Go.Own.Ml
namespace Go.Own.Ml
open Go Go.Own Go.Own.R Go.Own.G Go.Own.Gr
section
variable {cf n K : Int} {l : List OpC} {full : List Int}
end
end Go.Own.Ml

namespace Go.Own.Ml
open Go Go.Own Go.Own.R Go.Own.G Go.Own.Gr
def hsB (l : List UInt8) (c : Int) : Bool := l.any fun b => decide ((b.toNat : Int) = c)
def gtC (a b f p q c : Int) : Int := if c = 97 then a else if c = 98 then b else if c = 102 then f else if c = 112 then p else q
def allC : List UInt8 := [97, 98, 102, 112, 114]
section
variable {l : List UInt8} {c : Int} {k : Nat} {y : UInt8}
theorem hs_yes (hy : l[k]? = some y) (h : (y.toNat : Int) = c) : hsB l c = true := by
 unfold hsB; exact List.any_eq_true.2 ⟨y, List.mem_of_getElem? hy, decide_eq_true h⟩
theorem hs_no (hz : ∀ i, i < k → ∀ b, l[i]? = some b → ¬ (b.toNat : Int) = c) (hk : l.length ≤ k) : hsB l c = false := by
 unfold hsB
 refine List.any_eq_false.2 fun b hb => ?_
 obtain ⟨i, hi⟩ := List.mem_iff_getElem?.1 hb
 simpa using hz i (by have := (List.getElem?_eq_some_iff.1 hi).1; omega) b hi
theorem hs_step (hz : ∀ i, i < k → ∀ b, l[i]? = some b → ¬ (b.toNat : Int) = c) (hy : l[k]? = some y) (h : ¬ (y.toNat : Int) = c) : ∀ i, i < k + 1 → ∀ b, l[i]? = some b → ¬ (b.toNat : Int) = c := fun i hi x hx => by
 by_cases q : i = k
 ·subst q; rw [hy] at hx; cases hx; exact h
 ·exact hz i (by omega) x hx
end
section
variable {kd a b f p q u c : Int}
theorem wA_kd (h : wrdA kd = []) : kd < 1 ∨ 11 < kd := by
 by_cases r : kd < 1
 ·exact .inl r
 ·by_cases r2 : 11 < kd
  ·exact .inr r2
  ·exfalso
   rcases (by omega : kd = 1 ∨ kd = 2 ∨ kd = 3 ∨ kd = 4 ∨ kd = 5 ∨ kd = 6 ∨ kd = 7 ∨ kd = 8 ∨ kd = 9 ∨ kd = 10 ∨ kd = 11) with rfl | rfl | rfl | rfl | rfl | rfl | rfl | rfl | rfl | rfl | rfl <;> cases h
theorem wA_ne (h : ¬ wrdA kd = []) : 1 ≤ kd ∧ kd ≤ 11 := by
 by_cases r : kd < 1
 ·exact absurd (by unfold wrdA; iterate 11 rw [if_neg (by omega)]) h
 ·by_cases r2 : 11 < kd
  ·exact absurd (by unfold wrdA; iterate 11 rw [if_neg (by omega)]) h
  ·exact ⟨by omega, by omega⟩
theorem opE_ex (h : 1 ≤ kd ∧ kd ≤ 11) : opE ⟨kd, a, b, f, p, q, u⟩ = if (hsB (wrdB kd) 97 = false ∧ a ≠ 0) ∨ (hsB (wrdB kd) 98 = false ∧ b ≠ 0) ∨ (hsB (wrdB kd) 102 = false ∧ f ≠ 0) ∨ (hsB (wrdB kd) 112 = false ∧ p ≠ 0) ∨ (hsB (wrdB kd) 114 = false ∧ q ≠ 0) ∨ (hsB (wrdB kd) 118 = false ∧ u ≠ 0) then 2
  else if badN a ∨ badN b ∨ badN f ∨ badN p ∨ badN q then 7 else 0 := by
 have z : ¬ badN 0 := by unfold badN; omega
 rcases (by omega : kd = 1 ∨ kd = 2 ∨ kd = 3 ∨ kd = 4 ∨ kd = 5 ∨ kd = 6 ∨ kd = 7 ∨ kd = 8 ∨ kd = 9 ∨ kd = 10 ∨ kd = 11) with rfl | rfl | rfl | rfl | rfl | rfl | rfl | rfl | rfl | rfl | rfl
 all_goals
  unfold opE
  rw [if_neg (by simp)]
  simp only [fdG, TBF, wrdB, hsB]
  simp only [show (1 : Int).toNat = 1 from rfl, show (2 : Int).toNat = 2 from rfl, show (3 : Int).toNat = 3 from rfl, show (4 : Int).toNat = 4 from rfl, show (5 : Int).toNat = 5 from rfl, show (6 : Int).toNat = 6 from rfl, show (7 : Int).toNat = 7 from rfl, show (8 : Int).toNat = 8 from rfl, show (9 : Int).toNat = 9 from rfl, show (10 : Int).toNat = 10 from rfl, show (11 : Int).toNat = 11 from rfl]
  simp [tkG, tkS]
  by_cases ha : a = 0 <;> by_cases hb : b = 0 <;> by_cases hf : f = 0 <;> by_cases hp : p = 0 <;> by_cases hq : q = 0 <;> by_cases hu : u = 0 <;> simp [*]
 all_goals (by_cases qa : badN a <;> by_cases qb : badN b <;> by_cases qf : badN f <;> by_cases qp : badN p <;> by_cases qq : badN q <;> simp [*])
theorem oc_u (h : 1 ≤ kd ∧ kd ≤ 11) (h1 : hsB (wrdB kd) 118 = false) (h2 : u ≠ 0) : opE ⟨kd, a, b, f, p, q, u⟩ = 2 := by rw [opE_ex h, if_pos (.inr (.inr (.inr (.inr (.inr ⟨h1, h2⟩)))))]
def cA (i : Nat) : Int := ((allC.getD i 0).toNat : Int)
theorem cA_at {k : Nat} {y : UInt8} (hy : allC[k]? = some y) : cA k = (y.toNat : Int) := by unfold cA; rw [List.getD_eq_getElem?_getD, hy]; rfl
theorem oc_f {k : Nat} (h : 1 ≤ kd ∧ kd ≤ 11) (hk : (k : Int) < 5) (h1 : hsB (wrdB kd) (cA k) = false) (h2 : gtC a b f p q (cA k) ≠ 0) : opE ⟨kd, a, b, f, p, q, u⟩ = 2 := by
 rw [opE_ex h, if_pos]
 rcases (by omega : k = 0 ∨ k = 1 ∨ k = 2 ∨ k = 3 ∨ k = 4) with rfl | rfl | rfl | rfl | rfl
 ·exact .inl ⟨h1, h2⟩
 ·exact .inr (.inl ⟨h1, h2⟩)
 ·exact .inr (.inr (.inl ⟨h1, h2⟩))
 ·exact .inr (.inr (.inr (.inl ⟨h1, h2⟩)))
 ·exact .inr (.inr (.inr (.inr (.inl ⟨h1, h2⟩))))
theorem oc_1 (h : wrdA kd = [] ∨ (hsB (wrdB kd) 118 = false ∧ u ≠ 0)) : opE ⟨kd, a, b, f, p, q, u⟩ = 2 := by
 by_cases r : wrdA kd = []
 ·exact op_kd (wA_kd r)
 ·obtain ⟨h1, h2⟩ := h.resolve_left r
  exact oc_u (wA_ne r) h1 h2
def OZ (kd a b f p q : Int) (k : Nat) : Prop := ∀ i, i < k → hsB (wrdB kd) (cA i) = false → gtC a b f p q (cA i) = 0
def OR (a b f p q : Int) (k : Nat) : Prop := ∀ i, i < k → ¬ badN (gtC a b f p q (cA i))
theorem OZ.step {k : Nat} (h : OZ kd a b f p q k) (h2 : ¬ (hsB (wrdB kd) (cA k) = false ∧ gtC a b f p q (cA k) ≠ 0)) : OZ kd a b f p q (k + 1) := fun i hi => by
 by_cases r : i = k
 ·subst r; exact fun q1 => Decidable.not_not.1 fun q2 => h2 ⟨q1, q2⟩
 ·exact h i (by omega)
theorem OR.step {k : Nat} (h : OR a b f p q k) (h2 : ¬ badN (gtC a b f p q (cA k))) : OR a b f p q (k + 1) := fun i hi => by
 by_cases r : i = k
 ·subst r; exact h2
 ·exact h i (by omega)
theorem OZ.nx {k : Nat} (h : OZ kd a b f p q k) (hk : 5 ≤ k) (hu : ¬ (hsB (wrdB kd) 118 = false ∧ u ≠ 0)) : ¬ ((hsB (wrdB kd) 97 = false ∧ a ≠ 0) ∨ (hsB (wrdB kd) 98 = false ∧ b ≠ 0) ∨ (hsB (wrdB kd) 102 = false ∧ f ≠ 0) ∨ (hsB (wrdB kd) 112 = false ∧ p ≠ 0) ∨ (hsB (wrdB kd) 114 = false ∧ q ≠ 0) ∨ (hsB (wrdB kd) 118 = false ∧ u ≠ 0)) := by
 rintro (r | r | r | r | r | r)
 ·exact r.2 (h 0 (by omega) r.1)
 ·exact r.2 (h 1 (by omega) r.1)
 ·exact r.2 (h 2 (by omega) r.1)
 ·exact r.2 (h 3 (by omega) r.1)
 ·exact r.2 (h 4 (by omega) r.1)
 ·exact hu r
theorem oc_r {k j : Nat} (h : 1 ≤ kd ∧ kd ≤ 11) (hz : OZ kd a b f p q k) (hk : 5 ≤ k) (hu : ¬ (hsB (wrdB kd) 118 = false ∧ u ≠ 0)) (hj : (j : Int) < 5) (h2 : badN (gtC a b f p q (cA j))) : opE ⟨kd, a, b, f, p, q, u⟩ = 7 := by
 rw [opE_ex h, if_neg (hz.nx hk hu), if_pos]
 rcases (by omega : j = 0 ∨ j = 1 ∨ j = 2 ∨ j = 3 ∨ j = 4) with rfl | rfl | rfl | rfl | rfl
 ·exact .inl h2
 ·exact .inr (.inl h2)
 ·exact .inr (.inr (.inl h2))
 ·exact .inr (.inr (.inr (.inl h2)))
 ·exact .inr (.inr (.inr (.inr h2)))
theorem oc_0 {k j : Nat} (h : 1 ≤ kd ∧ kd ≤ 11) (hz : OZ kd a b f p q k) (hk : 5 ≤ k) (hu : ¬ (hsB (wrdB kd) 118 = false ∧ u ≠ 0)) (hr : OR a b f p q j) (hj : 5 ≤ j) : opE ⟨kd, a, b, f, p, q, u⟩ = 0 := by
 rw [opE_ex h, if_neg (hz.nx hk hu), if_neg]
 rintro (r | r | r | r | r)
 ·exact hr 0 (by omega) r
 ·exact hr 1 (by omega) r
 ·exact hr 2 (by omega) r
 ·exact hr 3 (by omega) r
 ·exact hr 4 (by omega) r
end
end Go.Own.Ml

namespace Go.Own.Ml
open Go Go.Own Go.Own.R Go.Own.G Go.Own.Gr
theorem fin_0 {g g' : GA} {e : Int} (h : e = 0) : fin g e g' = (g', ⟨0, false, 0⟩) := by unfold fin; rw [if_pos h, h]
theorem fin_n {g g' : GA} {e : Int} (h : e ≠ 0) : fin g e g' = (g, ⟨e, false, 0⟩) := by unfold fin; rw [if_neg h]
def asG (g : GA) (c : OpC) : AnC := (doG 0 g c).2
theorem do_as {mx : Int} {g : GA} {c : OpC} (h : c.kd ≠ 1 ∧ c.kd ≠ 2 ∧ c.kd ≠ 3 ∧ c.kd ≠ 5 ∧ c.kd ≠ 6 ∧ c.kd ≠ 7) : doG mx g c = (g, asG g c) := by
 obtain ⟨h1, h2, h3, h5, h6, h7⟩ := h
 unfold asG doG
 simp only [if_neg h1, if_neg h2, if_neg h3, if_neg h5, if_neg h6, if_neg h7]
 split
 ·rfl
 ·split
  ·rfl
  ·split
   ·rfl
   ·split <;> rfl
end Go.Own.Ml

namespace Go.Proofs.YtpgkfndbfocibaaGreat
open Go.RowKit Go.Own Go.Own.R Go.Own.G Go.Own.Gr Go.Own.Ml


set_option maxHeartbeats 4000000 in
theorem qhas_c {l : List UInt8} {c : Int} {w : World}  (hll : l.length ≤ 1048576) :
  Calls Tryz.prog 78 #[(stv l), .int .u8 c] w fun e w' => e = .returned (.bool (hsB l c)) ∧ St w NoX [] w' := by
 refine ci2 17 Tryz.func78 V (fun A0 _ F0 => ?_)
 have hS := St.nil w
 refine tb fun _ H1 => (vc (W_end (en (Qa F0) fun A2 _ F2 => tc H1 fun _ H3 => tb fun _ H4 => (vc (W_end (en (Ka F2) fun A5 Y5 F5 => tk H4 (wp_block ?_)))))))
 -- loop 2
 refine loopX (fun mz A' w' => SzN A' 17 ∧ A'.defers = [] ∧ (∃ (k : Nat), (mz = l.length - k) ∧ (k ≤ l.length) ∧ (∀ i, i < k → ∀ b, l[i]? = some b → ¬ (b.toNat : Int) = c) ∧ (EV A' (.tmp 5) = .int .i64 (k : Int)) ∧ (EV A' (.tmp 0) = EV A5 (.tmp 0)) ∧ (EV A' (.tmp 1) = EV A5 (.tmp 1)) ∧ (St w NoX [] w'))) (l.length - 0) ⟨Y5, F5.d, 0, rfl, Zb, (fun i hi => by omega), ((fg0 F5).trans Za), rfl, rfl, hS⟩ ?_
 clear hS
 rintro n6 A6 w6 ⟨Y6, hdf6, k, hm6, hk, hz, l5_6, u0_6, u1_6, S6⟩
 have l0_6 := u0_6.trans (fg1 F5)
 have l1_6 := u1_6.trans (fg2 F5)
 refine td fun _ H7 => tb fun _ H8 => (vm l5_6 (vm (Sa l0_6) (wv (V_lenT V t0 Tryz.underlying9) (vl (Sb t0) t0 (W_end (en (((((ck (cq3 (FS.n hdf6) V) V V)).c (es4 V l0_6)).c (es4 V l1_6)).c (Sd l5_6)) fun A9 _ F9 => tk H8 (cd (fg3 F9) (fun c10 => ?_) fun c10 => ?_)))))))
 ·refine wp_skip (tc H7 fun _ H11 => wp_block (tb fun _ H12 => (vm (fg2 F9) (vm (Sa (fg0 F9)) ?_))))
  have k13 : k < l.length := Zh
  obtain ⟨y13, hy13⟩ := get_some (xs := l) (k := k) k13
  have hu13 := y13.toNat_lt
  refine wv (V_idxT V (Sa t0) t0 Zb hy13 Tryz.underlying9) (vm (Sc (fg1 F9)) (ve (Sa t0) t0 (W_end (en (Ka (Qd F9)) fun A14 _ F14 => tk H12 (cd (fg0 F14) (fun c15 => ?_) fun c15 => ?_)))))
  ·refine tb fun _ H16 => (vc (W_end (en (Ka F14) fun A17 _ F17 => tk H16 (wp_ret (inb_ret (then_ret (then_ret (inb_ret (then_ret (rt1 F17 (rv_tmp (fg0 F17)) ?_))))))))))
   rw [show hsB l c = true from hs_yes hy13 c15]
   exact ⟨rfl, S6.fin0⟩
  refine wp_skip (inb_n (tk H11 (region_in (vm (fg1 F14) (ad t0 V (vt (W_end (en (Ka (Qb (fx1 F14))) fun A18 Y18 F18 => then_n ⟨l.length - (k + 1), by simp only [hm6]; omega, Y18, F18.d, (k + 1), rfl, Zb, (hs_step hz hy13 c15), ((fg0 F18).trans Za), ((fg3 F18).trans (fg1 F5).symm), ((fg2 F18).trans (fg2 F5).symm), S6⟩))))))))
 refine wp_exit (then_exit (then_exit (inb_hit (ta H3 fun _ H19 => (vc (W_end (en (Ka F9) fun A20 _ F20 => tk H19 (wp_ret (rt1 F20 (rv_tmp (fg0 F20)) ?_)))))))))
 rw [show hsB l c = false from hs_no hz Zb]
 exact ⟨rfl, S6.fin0⟩

set_option maxHeartbeats 4000000 in
theorem qget_c {kd a b f p q uu c : Int} {w : World}   :
  Calls Tryz.prog 79 #[.agg #[.int .i64 kd, .int .i64 a, .int .i64 b, .int .i64 f, .int .i64 p, .int .i64 q, .int .u64 uu], .int .u8 c] w fun e w' => e = .returned (.int .i64 (gtC a b f p q c)) ∧ St w NoX [] w' := by
 refine ci2 24 Tryz.func79 V (fun A0 _ F0 => ?_)
 have hS := St.nil w
 refine tb fun _ H1 => (wB (#[.int .i64 (kd), .int .i64 (a), .int .i64 (b), .int .i64 (f), .int .i64 (p), .int .i64 (q), .int .u64 (uu)]) hS (fg0 F0) (fun g2 w2 c2 hc2 S2 => vc (W_end (en (Qa (Ka F0)) fun A3 _ F3 => tc H1 fun _ H4 => tb fun _ H5 => (vm (fg2 F3) (W_end (en (Ka F3) fun A6 _ F6 => tk H5 (wp_block (tb fun _ H7 => (ve (fg0 F6) V (vt (W_end (en (Ka (Qa F6)) fun A8 _ F8 => tk H7 (cd (fg0 F8) (fun c9 => ?_) fun c9 => ?_))))))))))))))
 ·refine tb fun _ H10 => (fa 1 (fg2 F8) (rL (.int .i64 (a)) t0 (S2.ob 0 hc2) (vt (W_end (en (Ka (Qb F8)) fun A11 _ F11 => tk H10 (wp_ret (inb_ret (then_ret (rt1 F11 (rv_tmp (fg0 F11)) ?_)))))))))
  rw [show (gtC a b f p q c) = a from by unfold gtC; rw [if_pos Zb]]
  exact ⟨rfl, S2.fin0⟩
 refine tb fun _ H13 => (ve (fg1 F8) V (vt (W_end (en (Ka (Qa F8)) fun A14 _ F14 => tk H13 (cd (fg0 F14) (fun c15 => ?_) fun c15 => ?_)))))
 ·refine tb fun _ H16 => (fa 2 (fg3 F14) (rL (.int .i64 (b)) t0 (S2.ob 0 hc2) (vt (W_end (en (Ka (Qb F14)) fun A17 _ F17 => tk H16 (wp_ret (inb_ret (then_ret (rt1 F17 (rv_tmp (fg0 F17)) ?_)))))))))
  rw [show (gtC a b f p q c) = b from by unfold gtC; rw [if_neg Zb, if_pos Zb]]
  exact ⟨rfl, S2.fin0⟩
 refine tb fun _ H19 => (ve (fg2 F14) V (vt (W_end (en (Ka (Qa F14)) fun A20 _ F20 => tk H19 (cd (fg0 F20) (fun c21 => ?_) fun c21 => ?_)))))
 ·refine tb fun _ H22 => (fa 3 (fg4 F20) (rL (.int .i64 (f)) t0 (S2.ob 0 hc2) (vt (W_end (en (Ka (Qb F20)) fun A23 _ F23 => tk H22 (wp_ret (inb_ret (then_ret (rt1 F23 (rv_tmp (fg0 F23)) ?_)))))))))
  rw [show (gtC a b f p q c) = f from by unfold gtC; rw [if_neg Zb, if_neg Zb, if_pos Zb]]
  exact ⟨rfl, S2.fin0⟩
 refine tb fun _ H25 => (ve (fg3 F20) V (vt (W_end (en (Ka (Qa F20)) fun A26 _ F26 => tk H25 (cd (fg0 F26) (fun c27 => ?_) fun c27 => ?_)))))
 ·refine tb fun _ H28 => (fa 4 (fg5 F26) (rL (.int .i64 (p)) t0 (S2.ob 0 hc2) (vt (W_end (en (Ka (Qb F26)) fun A29 _ F29 => tk H28 (wp_ret (inb_ret (then_ret (rt1 F29 (rv_tmp (fg0 F29)) ?_)))))))))
  rw [show (gtC a b f p q c) = p from by unfold gtC; rw [if_neg Zb, if_neg Zb, if_neg Zb, if_pos Zb]]
  exact ⟨rfl, S2.fin0⟩
 refine wp_skip (inb_n (ta H4 fun _ H31 => (fa 5 (fg5 F26) (rL (.int .i64 (q)) t0 (S2.ob 0 hc2) (vt (W_end (en (Ka (Qb F26)) fun A32 _ F32 => tk H31 (wp_ret (rt1 F32 (rv_tmp (fg0 F32)) ?_)))))))))
 rw [show (gtC a b f p q c) = q from by unfold gtC; rw [if_neg Zb, if_neg Zb, if_neg Zb, if_neg Zb]]
 exact ⟨rfl, S2.fin0⟩

set_option maxHeartbeats 4000000 in
theorem qopc_c {kd a b f p q uu : Int} {w : World}   :
  Calls Tryz.prog 41 #[.agg #[.int .i64 kd, .int .i64 a, .int .i64 b, .int .i64 f, .int .i64 p, .int .i64 q, .int .u64 uu]] w fun e w' => e = .returned (.int .i64 (opE (⟨kd, a, b, f, p, q, uu⟩ : OpC))) ∧ St w NoX [] w' := by
 have hal : ([97, 98, 102, 112, 114] : List UInt8).length = 5 := rfl
 refine ci1 64 Tryz.func41 V (fun A0 _ F0 => ?_)
 have hS := St.nil w
 refine tb fun _ H1 => (wB (#[.int .i64 (kd), .int .i64 (a), .int .i64 (b), .int .i64 (f), .int .i64 (p), .int .i64 (q), .int .u64 (uu)]) hS (fg0 F0) (fun g2 w2 c2 hc2 S2 => vc (W_end (en (Qa (Ka F0)) fun A3 _ F3 => ta H1 fun _ H4 => (fa 0 (fg0 F3) (rL (.int .i64 (kd)) t0 (S2.ob 0 hc2) (wc (args1 t0) (qwrd_c (k := kd)) (C0 S2 fun w5 S5 => vm t0 (vx (stv (wrdA kd)) t0 (vx (stv (wrdB kd)) (Sa t0) (va (Sa t0) (va (Sa t0) (W_end (en (Kb (Qf F3)) fun A6 _ F6 => tc H4 fun _ H7 => td fun _ H8 => wp_mid (G := fun A' w' => SzN A' 64 ∧ A'.defers = [] ∧ (EV A' (.tmp 1) = EV A6 (.tmp 1)) ∧ (EV A' (.tmp 4) = EV A6 (.tmp 4)) ∧ (EV A' (.tmp 26) = .bool (decide ((wrdA kd = []) ∨ (hsB (wrdB kd) 118 = false ∧ uu ≠ 0)))) ∧ St w NoX [c2] w') ?_ ?_))))))))))))))
 ·have j1_9 := (fg2 F6)
  have j4_9 := (fg0 F6)
  refine region_in (vm (fg1 F6) (wv (V_eqlT V t0 V) (W_split V V (V_mov V t0) (fun c10 => ?_) (fun c10 => ?_))))
  ·refine xo V t0 (xo V (Sa t0) (xo V (Sb t0) (xo V (Sc t0) (W_off V (wanted_u V V t0 (ez V)) (W_off V (wanted_u V V (Sa t0) (ez V)) (W_off V (wanted_u V V (Sb t0) (ez V)) (xo V (Sg t0) (vT (Sh t0) V (W_end (en (Ka (Qc (Qh F6))) fun A11 Y11 F11 => ?_))))))))))
   exact Mid_n ⟨Y11, F11.d, ((fg3 F11).trans j1_9.symm), ((fg1 F11).trans j4_9.symm), ((fg0 F11).trans (congrArg Value.bool ((decide_eq_true (Or.inl c10)).symm))), S5⟩
  refine wg V t0 (uvm (Sc (fg0 F6))) (W_call V (xwt V V (Sa t0)) V Tryz.func78 kr V (args2 t0 V) (qhas_c (c := 118) (by first | with_reducible assumption | (have := wrdB_le kd; omega))) (C0 S5 fun w12 S12 => wg V (Sb t0) (V_not V t0) (W_splitB V (xwt V V (Sc t0)) (V_mov V t0) (fun c13 => ?_) (fun c13 => ?_))))
  ·refine wg V t0 (ufa 6 (Sg (fg2 F6))) (wq V (Sa t0) (urL (.int .u64 (uu)) t0 (S12.ob 0 hc2)) (wg V (Sb t0) (uvn t0 V) (wg V (Sg t0) (uvT (Sc t0) t0) (vF (Sh t0) t0 (W_end (en (Ka (Qc (Qh F6))) fun A14 Y14 F14 => ?_))))))
   exact Mid_n ⟨Y14, F14.d, ((fg3 F14).trans j1_9.symm), ((fg1 F14).trans j4_9.symm), ((fg0 F14).trans (congrArg Value.bool (decide_eq_decide.2 ⟨fun q => Or.inr ⟨by simpa using c13, q⟩, fun q => (q.resolve_left c10).2⟩))), S12⟩
  refine xo V t0 (xo V (Sa t0) (xo V (Sb t0) (wg V (Sg t0) (uvF (Sc t0) V) (vF (Sh t0) t0 (W_end (en (Ka (Qc (Qh F6))) fun A15 Y15 F15 => ?_))))))
  exact Mid_n ⟨Y15, F15.d, ((fg3 F15).trans j1_9.symm), ((fg1 F15).trans j4_9.symm), ((fg0 F15).trans (congrArg Value.bool ((decide_eq_false (fun q => by have q1 := (q.resolve_left c10).1; rw [q1] at c13; simp at c13)).symm))), S12⟩
 rintro A9 w9 ⟨Y9, hdf9, u1_9, u4_9, l26_9, S9⟩
 have l1_9 := u1_9.trans (fg2 F6)
 have l4_9 := u4_9.trans (fg0 F6)
 refine tk H8 (cd l26_9 (fun c16 => ?_) fun c16 => ?_)
 ·refine tb fun _ H17 => (vc (W_end (en (Ka (FS.n hdf9)) fun A18 _ F18 => tk H17 (wp_ret (then_ret (rt1 F18 (rv_tmp (fg0 F18)) ?_))))))
  have h : (opE (⟨kd, a, b, f, p, q, uu⟩ : OpC)) = 2 := oc_1 c16
  rw [h]
  exact ⟨rfl, S9.fin0⟩
 have hkd := wA_ne (kd := kd) (fun q => c16 (Or.inl q))
 have huu : ¬ (hsB (wrdB kd) 118 = false ∧ uu ≠ 0) := fun q => c16 (Or.inr q)
 refine wp_skip (ta H7 fun _ H20 => (vc (W_end (en ((((ck (FS.n hdf9) V V)).c (es V l1_9)).c (Sa l4_9)) fun A21 _ F21 => tc H20 fun _ H22 => tb fun _ H23 => (vc (W_end (en (Ka F21) fun A24 Y24 F24 => tk H23 (wp_block ?_))))))))
 -- loop 6
 refine loopX (fun mz A' w' => SzN A' 64 ∧ A'.defers = [] ∧ (∃ (k : Nat), (mz = 5 - k) ∧ (k ≤ 5) ∧ (OZ kd a b f p q k) ∧ (EV A' (.tmp 6) = .int .i64 (k : Int)) ∧ (EV A' (.tmp 1) = EV A24 (.tmp 1)) ∧ (EV A' (.tmp 4) = EV A24 (.tmp 4)) ∧ (EV A' (.tmp 5) = EV A24 (.tmp 5)) ∧ (St w NoX [bx g2 50 #[.int .i64 (kd), .int .i64 (a), .int .i64 (b), .int .i64 (f), .int .i64 (p), .int .i64 (q), .int .u64 (uu)]] w'))) (5 - 0) ⟨Y24, F24.d, 0, rfl, Zb, (fun i hi => by omega), ((fg0 F24).trans Za), rfl, rfl, rfl, (by subst hc2; exact S9)⟩ ?_
 clear S9 hc2
 rintro n25 A25 w25 ⟨Y25, hdf25, k, hm25, hk, hz, l6_25, u1_25, u4_25, u5_25, S25⟩
 have l1_25 := u1_25.trans (fg2 F24)
 have l4_25 := u4_25.trans (fg1 F24)
 have l5_25 := u5_25.trans (fg3 F24)
 obtain ⟨c2_25, hc2_25, S25⟩ := gen1 S25
 refine td fun _ H26 => tb fun _ H27 => (vm l6_25 (vm (Sa l5_25) (wv (V_lenT V t0 Tryz.underlying9) (vl (Sb t0) t0 (W_end (en ((((((ck (cq3 (FS.n hdf25) V) V V)).c (es4 V l1_25)).c (es4 V l4_25)).c (es4 V l5_25)).c (Sd l6_25)) fun A28 _ F28 => tk H27 (cd (fg4 F28) (fun c29 => ?_) fun c29 => ?_)))))))
 ·refine wp_skip (tc H26 fun _ H30 => wp_block (td fun _ H31 => wp_mid (G := fun A' w' => SzN A' 64 ∧ A'.defers = [] ∧ (EV A' (.tmp 1) = EV A28 (.tmp 1)) ∧ (EV A' (.tmp 4) = EV A28 (.tmp 4)) ∧ (EV A' (.tmp 5) = EV A28 (.tmp 5)) ∧ (EV A' (.tmp 6) = EV A28 (.tmp 6)) ∧ (EV A' (.tmp 46) = .bool (decide ((hsB (wrdB kd) (cA k) = false) ∧ ((gtC a b f p q (cA k)) ≠ 0)))) ∧ St w NoX [c2_25] w') ?_ ?_))
  ·have j1_32 := (fg3 F28)
   have j4_32 := (fg2 F28)
   have j5_32 := (fg1 F28)
   have j6_32 := (fg0 F28)
   have k33 : k < ([97, 98, 102, 112, 114] : List UInt8).length := Zh
   obtain ⟨y33, hy33⟩ := get_some (xs := ([97, 98, 102, 112, 114] : List UInt8)) (k := k) k33
   have hu33 := y33.toNat_lt
   refine region_monoS 14 14 [none, none, none, none, some (SPv [] (fun _ => fun u l' => u = .bool (hsB (wrdB kd) (y33.toNat : Int)) ∧ l' = []) 4), none, none, none, none, none, none, some (SPv [] (fun _ => fun u l' => u = .int .i64 (gtC a b f p q (y33.toNat : Int)) ∧ l' = []) 11)] kr kr (dm (fg2 F28) (dm (Sa (fg1 F28)) (dm (Sb (fg0 F28)) (dv (V_idxT V (Sa t0) t0 Zb hy33 Tryz.underlying9) (D_call (ts := []) (vs := []) (C0 := fun _ => fun u l' => u = .bool (hsB (wrdB kd) (y33.toNat : Int)) ∧ l' = []) (C := fun u l' => u = .bool (hsB (wrdB kd) (y33.toNat : Int)) ∧ l' = []) V V V Tryz.func78 kr V (args2 (Sc t0) t0) V V V V (fun sx hx hF => ?_) (fun u34 l34 hu34 => ?_))))))
   ·refine (qhas_c (c := (y33.toNat : Int))  (by first | with_reducible assumption | (have := wrdB_le kd; omega))).mono ?_
    rintro _ _ ⟨rfl, hz⟩
    exact ⟨_, rfl, _, ⟨rfl, rfl⟩, hz⟩
   obtain ⟨rfl, hl34⟩ := hu34
   refine dv (V_not V t0) (D_splitB V V (V_mov V t0) V V (fun c35 => ?_) (fun c35 => ?_))
   ·refine D_r V (xwt V V t0) kr (fun sx hx hF => (VR_ldA V (Sg (fg3 F28)) ((S25.grow hx).ob 0 hc2_25) Tryz.underlying50 V kr)) V V (D_v V (xwt V V (Sa t0)) (V_mov V (Sh (fg1 F28))) V V (D_v V (xwt V V (Sb t0)) (V_mov V (Sh (Sa (fg0 F28)))) V V (D_v V (xwt V V (Sc t0)) (V_idxT V (Sa t0) t0 Zb hy33 Tryz.underlying9) V V (D_call (ts := []) (vs := []) (C0 := fun _ => fun u l' => u = .int .i64 (gtC a b f p q (y33.toNat : Int)) ∧ l' = []) (C := fun u l' => u = .int .i64 (gtC a b f p q (y33.toNat : Int)) ∧ l' = []) V (xwt V V (Sd t0)) V Tryz.func79 kr V (args2 (Sc t0) t0) V V V V (fun sx hx hF => ?_) (fun u37 l37 hu37 => ?_)))))
    ·refine (qget_c (kd := kd) (a := a) (b := b) (f := f) (p := p) (q := q) (uu := uu) (c := (y33.toNat : Int))  ).mono ?_
     rintro _ _ ⟨rfl, hz⟩
     exact ⟨_, rfl, _, ⟨rfl, rfl⟩, hz⟩
    obtain ⟨rfl, hl37⟩ := hu37
    refine D_v V (xwt V V (Se t0)) (V_neq V t0 V) V V (dv (uvT (Sf t0) t0) (ZS_none S25 (Nat.le_refl _) (Nat.le_refl _) (fun s38 hJ38 hL38 hF38 => ?_)))
    obtain ⟨ll34, ws34, we34, ⟨hq34, hl34r⟩, hm34, k34, e34⟩ := L.all_get (L.all_rest hF38); cases hq34; subst hl34r
    replace hJ38 := hJ38.add hL38 (i := 4) V hm34 k34 e34
    obtain ⟨ll37, ws37, we37, ⟨hq37, hl37r⟩, hm37, k37, e37⟩ := L.all_get hF38; cases hq37; subst hl37r
    replace hJ38 := hJ38.add hL38 (i := 11) V hm37 k37 e37
    have S38 := hJ38.st; clear hF38 hJ38 hL38
    generalize s38.1 = w38 at *
    replace S38 : St w NoX [c2_25] w38 := S38
    refine en (Kg (Qg F28)) fun A39 Y39 F39 => ?_
    exact Mid_n ⟨Y39, F39.d, ((fg10 F39).trans j1_32.symm), ((fg9 F39).trans j4_32.symm), ((fg8 F39).trans j5_32.symm), ((fg7 F39).trans j6_32.symm), ((fg0 F39).trans (congrArg Value.bool (by rw [cA_at hy33]; exact decide_eq_decide.2 ⟨fun q => ⟨by simpa using c35, q⟩, fun q => q.2⟩))), S38⟩
   refine D_off V (wanted_f V V t0 (ez V) V) V (D_off V (wanted_f V V (Sa t0) (ez V) V) V (D_off V (wanted_f V V (Sb t0) (ez V) V) V (D_off V (wanted_f V V (Sc t0) (ez V) V) V (D_off V (wanted_f V V (Sd t0) (ez V) V) V (D_off V (wanted_f V V (Se t0) (ez V) V) V (dv (uvF (Sf t0) V) (ZS_none S25 (Nat.le_refl _) (Nat.le_refl _) (fun s40 hJ40 hL40 hF40 => ?_))))))))
   obtain ⟨ll34, ws34, we34, ⟨hq34, hl34r⟩, hm34, k34, e34⟩ := L.all_get hF40; cases hq34; subst hl34r
   replace hJ40 := hJ40.add hL40 (i := 4) V hm34 k34 e34
   have S40 := hJ40.st; clear hF40 hJ40 hL40
   generalize s40.1 = w40 at *
   replace S40 : St w NoX [c2_25] w40 := S40
   refine en (Kg (Qg F28)) fun A41 Y41 F41 => ?_
   exact Mid_n ⟨Y41, F41.d, ((fg10 F41).trans j1_32.symm), ((fg9 F41).trans j4_32.symm), ((fg8 F41).trans j5_32.symm), ((fg7 F41).trans j6_32.symm), ((fg0 F41).trans (congrArg Value.bool ((decide_eq_false (fun q => by have q1 := q.1; rw [cA_at hy33] at q1; rw [q1] at c35; simp at c35)).symm))), S40⟩
  rintro A32 w32 ⟨Y32, hdf32, u1_32, u4_32, u5_32, u6_32, l46_32, S32⟩
  have l1_32 := u1_32.trans (fg3 F28)
  have l4_32 := u4_32.trans (fg2 F28)
  have l5_32 := u5_32.trans (fg1 F28)
  have l6_32 := u6_32.trans (fg0 F28)
  refine tk H31 (cd l46_32 (fun c42 => ?_) fun c42 => ?_)
  ·refine tb fun _ H43 => (vc (W_end (en (Ka (FS.n hdf32)) fun A44 _ F44 => tk H43 (wp_ret (inb_ret (then_ret (then_ret (inb_ret (then_ret (rt1 F44 (rv_tmp (fg0 F44)) ?_))))))))))
   have h : (opE (⟨kd, a, b, f, p, q, uu⟩ : OpC)) = 2 := oc_f hkd Zb c42.1 c42.2
   rw [h]
   exact ⟨rfl, S32.fin0⟩
  refine wp_skip (inb_n (tk H30 (region_in (vm l6_32 (ad t0 V (vt (W_end (en (((((ck (cq2 (FS.n hdf32) V) V V)).c (es3 V l1_32)).c (es3 V l4_32)).c (Sc l5_32)) fun A46 Y46 F46 => then_n ⟨5 - (k + 1), by simp only [hm25]; omega, Y46, F46.d, (k + 1), rfl, Zb, (hz.step c42), ((fg3 F46).trans Za), ((fg2 F46).trans (fg2 F24).symm), ((fg1 F46).trans (fg1 F24).symm), ((fg0 F46).trans (fg3 F24).symm), (by subst hc2_25; exact S32)⟩))))))))
 refine wp_exit (then_exit (then_exit (inb_hit (tc H22 fun _ H47 => tb fun _ H48 => (vc (W_end (en (Ka F28) fun A49 Y49 F49 => tk H48 (wp_block ?_))))))))
 -- loop 11
 refine loopX (fun mz A' w' => SzN A' 64 ∧ A'.defers = [] ∧ (∃ (j : Nat), (mz = 5 - j) ∧ (j ≤ 5) ∧ (OR a b f p q j) ∧ (EV A' (.tmp 7) = .int .i64 (j : Int)) ∧ (EV A' (.tmp 1) = EV A49 (.tmp 1)) ∧ (EV A' (.tmp 5) = EV A49 (.tmp 5)) ∧ (St w NoX [bx g2 50 #[.int .i64 (kd), .int .i64 (a), .int .i64 (b), .int .i64 (f), .int .i64 (p), .int .i64 (q), .int .u64 (uu)]] w'))) (5 - 0) ⟨Y49, F49.d, 0, rfl, Zb, (fun i hi => by omega), ((fg0 F49).trans Za), rfl, rfl, (by subst hc2_25; exact S25)⟩ ?_
 clear S25 hc2_25
 rintro n50 A50 w50 ⟨Y50, hdf50, j, hm50, hj, hr, l7_50, u1_50, u5_50, S50⟩
 have l1_50 := u1_50.trans (fg4 F49)
 have l5_50 := u5_50.trans (fg2 F49)
 obtain ⟨c2_50, hc2_50, S50⟩ := gen1 S50
 refine td fun _ H51 => tb fun _ H52 => (vm l7_50 (vm (Sa l5_50) (wv (V_lenT V t0 Tryz.underlying9) (vl (Sb t0) t0 (W_end (en (((((ck (cq3 (FS.n hdf50) V) V V)).c (es4 V l1_50)).c (es4 V l5_50)).c (Sd l7_50)) fun A53 _ F53 => tk H52 (cd (fg3 F53) (fun c54 => ?_) fun c54 => ?_)))))))
 ·refine wp_skip (tc H51 fun _ H55 => wp_block (td fun _ H56 => ?_))
  have k57 : j < ([97, 98, 102, 112, 114] : List UInt8).length := Zh
  obtain ⟨y57, hy57⟩ := get_some (xs := ([97, 98, 102, 112, 114] : List UInt8)) (k := j) k57
  have hu57 := y57.toNat_lt
  refine region_monoS 6 6 [none, none, none, none, some (SPv [] (fun _ => fun u l' => u = .int .i64 (gtC a b f p q (y57.toNat : Int)) ∧ l' = []) 4)] kr kr (dr (fun _ hx _ => (ura (fg2 F53) ((S50.grow hx).ob 0 hc2_50))) (dm (Sa (fg1 F53)) (dm (Sb (fg0 F53)) (dv (V_idxT V (Sa t0) t0 Zb hy57 Tryz.underlying9) (D_call (ts := []) (vs := []) (C0 := fun _ => fun u l' => u = .int .i64 (gtC a b f p q (y57.toNat : Int)) ∧ l' = []) (C := fun u l' => u = .int .i64 (gtC a b f p q (y57.toNat : Int)) ∧ l' = []) V V V Tryz.func79 kr V (args2 (Sc t0) t0) V V V V (fun sx hx hF => ?_) (fun u58 l58 hu58 => ?_))))))
  ·refine (qget_c (kd := kd) (a := a) (b := b) (f := f) (p := p) (q := q) (uu := uu) (c := (y57.toNat : Int))  ).mono ?_
   rintro _ _ ⟨rfl, hz⟩
   exact ⟨_, rfl, _, ⟨rfl, rfl⟩, hz⟩
  obtain ⟨rfl, hl58⟩ := hu58
  refine dv (V_asg V t0) (ZS_none S50 (Nat.le_refl _) (Nat.le_refl _) (fun s59 hJ59 hL59 hF59 => ?_))
  obtain ⟨ll58, ws58, we58, ⟨hq58, hl58r⟩, hm58, k58, e58⟩ := L.all_get hF59; cases hq58; subst hl58r
  replace hJ59 := hJ59.add hL59 (i := 4) V hm58 k58 e58
  have S59 := hJ59.st; clear hF59 hJ59 hL59
  generalize s59.1 = w59 at *
  replace S59 : St w NoX [c2_50] w59 := S59
  refine en (Ka (Qe F53)) fun A60 _ F60 => tc H56 fun _ H61 => wp_mid (G := fun A' w' => SzN A' 64 ∧ A'.defers = [] ∧ (EV A' (.tmp 1) = EV A60 (.tmp 1)) ∧ (EV A' (.tmp 5) = EV A60 (.tmp 5)) ∧ (EV A' (.tmp 7) = EV A60 (.tmp 7)) ∧ (EV A' (.tmp 63) = .bool (decide (((gtC a b f p q (cA j)) < -1000000000) ∨ (1000000000 < (gtC a b f p q (cA j)))))) ∧ St w NoX [c2_50] w') ?_ ?_
  ·have j1_62 := (fg3 F60)
   have j5_62 := (fg2 F60)
   have j7_62 := (fg1 F60)
   refine region_in (vm (fg0 F60) (vl t0 V (W_split V V (V_mov V t0) (fun c63 => ?_) (fun c63 => ?_))))
   ·refine xo V t0 (xo V (Sa t0) (vT (Sb t0) V (W_end (en (Kc (Qc F60)) fun A64 Y64 F64 => ?_))))
    exact Mid_n ⟨Y64, F64.d, ((fg6 F64).trans j1_62.symm), ((fg5 F64).trans j5_62.symm), ((fg4 F64).trans j7_62.symm), ((fg0 F64).trans (congrArg Value.bool ((by rw [cA_at hy57]; first | exact (decide_eq_true Zb).symm | exact (decide_eq_false Zb).symm | exact decide_eq_decide.2 Zb)))), S59⟩
   refine wg V t0 (uvm (Sc (fg0 F60))) (wg V (Sa t0) (uvg t0 V) (vF (Sb t0) t0 (W_end (en (Kc (Qc F60)) fun A65 Y65 F65 => ?_))))
   exact Mid_n ⟨Y65, F65.d, ((fg6 F65).trans j1_62.symm), ((fg5 F65).trans j5_62.symm), ((fg4 F65).trans j7_62.symm), ((fg0 F65).trans (congrArg Value.bool ((by rw [cA_at hy57]; first | exact (decide_eq_true Zb).symm | exact (decide_eq_false Zb).symm | exact decide_eq_decide.2 Zb)))), S59⟩
  rintro A62 w62 ⟨Y62, hdf62, u1_62, u5_62, u7_62, l63_62, S62⟩
  have l1_62 := u1_62.trans (fg3 F60)
  have l5_62 := u5_62.trans (fg2 F60)
  have l7_62 := u7_62.trans (fg1 F60)
  refine tk H61 (cd l63_62 (fun c66 => ?_) fun c66 => ?_)
  ·refine tb fun _ H67 => (vc (W_end (en (Ka (FS.n hdf62)) fun A68 _ F68 => tk H67 (wp_ret (inb_ret (then_ret (then_ret (inb_ret (then_ret (rt1 F68 (rv_tmp (fg0 F68)) ?_))))))))))
   have h : (opE (⟨kd, a, b, f, p, q, uu⟩ : OpC)) = 7 := oc_r hkd hz Zb huu Zb c66
   rw [h]
   exact ⟨rfl, S62.fin0⟩
  refine wp_skip (inb_n (tk H55 (region_in (vm l7_62 (ad t0 V (vt (W_end (en ((((ck (cq2 (FS.n hdf62) V) V V)).c (es3 V l1_62)).c (Sc l5_62)) fun A70 Y70 F70 => then_n ⟨5 - (j + 1), by simp only [hm50]; omega, Y70, F70.d, (j + 1), rfl, Zb, (hr.step c66), ((fg2 F70).trans Za), ((fg1 F70).trans (fg4 F49).symm), ((fg0 F70).trans (fg2 F49).symm), (by subst hc2_50; exact S62)⟩))))))))
 refine wp_exit (then_exit (then_exit (inb_hit (ta H47 fun _ H71 => (vc (W_end (en (Ka F53) fun A72 _ F72 => tk H71 (wp_ret (rt1 F72 (rv_tmp (fg0 F72)) ?_)))))))))
 have h : (opE (⟨kd, a, b, f, p, q, uu⟩ : OpC)) = 0 := oc_0 hkd hz Zb huu hr Zb
 rw [h]
 exact ⟨rfl, S50.fin0⟩

end Go.Proofs.YtpgkfndbfocibaaGreat
namespace Go.Proofs.YtpgkfndbfocibaaGreat
open Go.RowKit Go.Own Go.Own.R Go.Own.G Go.Own.Gr Go.Own.Ml


end Go.Proofs.YtpgkfndbfocibaaGreat
namespace Go.Proofs.YtpgkfndbfocibaaGreat
open Go.RowKit Go.Own Go.Own.R Go.Own.G Go.Own.Gr Go.Own.Ml


end Go.Proofs.YtpgkfndbfocibaaGreat
namespace Go.Proofs.YtpgkfndbfocibaaGreat
open Go.RowKit Go.Own Go.Own.R Go.Own.G Go.Own.Gr Go.Own.Ml


set_option maxHeartbeats 4000000 in
theorem qas_c {G : GV} {kd a b f p q uu : Int} {w : World} (hg_G : Ro w NoX (gls [G])) (hsm : SM (G.1.2.map ab)) (hk : kd ≠ 1 ∧ kd ≠ 2 ∧ kd ≠ 3 ∧ kd ≠ 5 ∧ kd ≠ 6 ∧ kd ≠ 7) :
  Calls Tryz.prog 88 #[.agg #[G.1.1, G.2.1], .agg #[.int .i64 kd, .int .i64 a, .int .i64 b, .int .i64 f, .int .i64 p, .int .i64 q, .int .u64 uu]] w fun e w' => e = .returned (.agg #[.int .i64 (asG (gab G) (⟨kd, a, b, f, p, q, uu⟩ : OpC)).e, .bool (asG (gab G) (⟨kd, a, b, f, p, q, uu⟩ : OpC)).t, .int .u64 (asG (gab G) (⟨kd, a, b, f, p, q, uu⟩ : OpC)).v]) ∧ St w NoX [] w' := by
 have Go := gl_o m1 hg_G
 have Gn := gl_n m1 hg_G
 have Gr := gl_r m1 hg_G
 refine ci2 86 Tryz.func88 V (fun A0 _ F0 => ?_)
 have hS := St.nil w
 have bGo := SlN.le (sl_SlN Go.at)
 have bGr := SlN.le (sl_SlN Gr.at)
 refine tb fun _ H1 => (wB (#[G.1.1, G.2.1]) hS (fg0 F0) (fun g2 w2 c2 hc2 S2 => wB (#[.int .i64 (kd), .int .i64 (a), .int .i64 (b), .int .i64 (f), .int .i64 (p), .int .i64 (q), .int .u64 (uu)]) S2 (Sa (fg1 F0)) (fun g3 w3 c3 hc3 S3 => wA (#[.int .i64 0, .bool false, .int .u64 0]) S3 (fun g4 w4 c4 hc4 S4 => W_end (en (Kc F0) fun A5 _ F5 => tc H1 fun _ H6 => tb fun _ H7 => (fa 0 (fg1 F5) (rL (.int .i64 (kd)) t0 (S4.ob 1 hc3) (W_end (en (Ka (Qa F5)) fun A8 _ F8 => tk H7 (wp_block (tb fun _ H9 => ve (fg0 F8) V (vt (W_end (en (Ka (Qa F8)) fun A10 _ F10 => tk H9 (cd (fg0 F10) (fun c11 => ?_) fun c11 => ?_)))))))))))))))
 ·refine tb fun _ H12 => (ra (fg4 F10) (S4.ob 2 hc2) (fa 1 (Sa (fg3 F10)) (rL (.int .i64 (a)) t0 (S4.ob 1 hc3) (fa 3 (Sc (fg3 F10)) (rL (.int .i64 (f)) t0 (S4.ob 1 hc3) (wc (args3 (Sd t0) (Sb t0) t0) (qRd_c (a := a) (f := f) (S4.roC Go) (S4.roC Gn) (S4.roC Gr)) (C0 S4 fun w13 S13 => vm t0 (vx (.int .u64 ((rdV (G.1.2.map ab) G.2.2 a f))) t0 (vx (.int .i64 ((rwE (G.1.2.map ab) G.2.2 [a] a f))) (Sa t0) (va (Sa t0) (va (Sa t0) (W_end (en (Kb (Qa (Qh F10))) fun A14 _ F14 => ?_)))))))))))))
  have S15 := S13.se [0] [c4]
  refine ta H12 fun _ H16 => (vm (fg0 F14) (vm (Sa (fg1 F14)) (wv (xbS (n := 3) (z := .agg #[.int .i64 0, .bool false, .int .u64 0]) V (parts2 (Sa t0) t0)) (xsA0 S15 hc4 V V V (Sc (fg4 F14)) t0 (fun w17 c17 hc17 S17 => W_end (en (Qc F14) fun A18 _ F18 => tk H16 (wp_ret (inb_ret (then_ret (rt1 F18 (rvA (fg4 F18) (S17.ob 0 hc17)) ?_))))))))))
  have hD := do_4 (mx := 0) (g := gab G) (c := (⟨kd, a, b, f, p, q, uu⟩ : OpC)) Zk
  unfold asG
  rw [hD]
  exact ⟨rfl, S17.fin0⟩
 refine tb fun _ H19 => (ve (fg1 F10) V (vt (W_end (en (Ka (Qa F10)) fun A20 _ F20 => tk H19 (cd (fg0 F20) (fun c21 => ?_) fun c21 => ?_)))))
 ·refine tb fun _ H22 => (ra (fg5 F20) (S4.ob 2 hc2) (fa 1 (Sa (fg4 F20)) (rL (.int .i64 (a)) t0 (S4.ob 1 hc3) (fa 2 (Sc (fg4 F20)) (rL (.int .i64 (b)) t0 (S4.ob 1 hc3) (wc (args3 (Sd t0) (Sb t0) t0) (qAl_c (a := a) (b := b) (S4.roC Go) (S4.roC Gn) (S4.roC Gr)) (C0 S4 fun w23 S23 => vm t0 (vx (.bool ((alB (G.1.2.map ab) G.2.2 a b))) t0 (vx (.int .i64 ((ckd (G.1.2.map ab) G.2.2 [a, b]))) (Sa t0) (va (Sa t0) (va (Sa t0) (W_end (en (Kb (Qa (Qh F20))) fun A24 _ F24 => ?_)))))))))))))
  have S25 := S23.se [0] [c4]
  refine ta H22 fun _ H26 => (vm (fg0 F24) (vm (Sa (fg1 F24)) (wv (xbS (n := 3) (z := .agg #[.int .i64 0, .bool false, .int .u64 0]) V (parts2 (Sa t0) t0)) (xsA0 S25 hc4 V V V (Sc (fg5 F24)) t0 (fun w27 c27 hc27 S27 => W_end (en (Qc F24) fun A28 _ F28 => tk H26 (wp_ret (inb_ret (then_ret (rt1 F28 (rvA (fg5 F28) (S27.ob 0 hc27)) ?_))))))))))
  have hD := do_8 (mx := 0) (g := gab G) (c := (⟨kd, a, b, f, p, q, uu⟩ : OpC)) Zk
  unfold asG
  rw [hD]
  exact ⟨rfl, S27.fin0⟩
 refine tb fun _ H29 => (ve (fg2 F20) V (vt (W_end (en (Ka (Qa F20)) fun A30 _ F30 => tk H29 (cd (fg0 F30) (fun c31 => ?_) fun c31 => ?_)))))
 ·refine tb fun _ H32 => (ra (fg6 F30) (S4.ob 2 hc2) (fa 1 (Sa (fg5 F30)) (rL (.int .i64 (a)) t0 (S4.ob 1 hc3) (fa 1 (Sc (fg5 F30)) (rL (.int .i64 (a)) t0 (S4.ob 1 hc3) (wc (args3 (Sd t0) (Sb t0) t0) (qAl_c (a := a) (b := a) (S4.roC Go) (S4.roC Gn) (S4.roC Gr)) (C0 S4 fun w33 S33 => vm t0 (vx (.bool ((alB (G.1.2.map ab) G.2.2 a a))) t0 (vx (.int .i64 ((ckd (G.1.2.map ab) G.2.2 [a, a]))) (Sa t0) (va (Sa t0) (va (Sa t0) (W_end (en (Ka (Qb (Qh F30))) fun A34 _ F34 => ta H32 fun _ H35 => (vm (fg0 F34) (vm (Sa (fg0 F34)) (ve t0 V (W_split V V (V_mov V t0) (fun c36 => ?_) (fun c36 => ?_))))))))))))))))))
  ·have hcd : ckd (G.1.2.map ab) G.2.2 [a, a] = 0 := by omega
   have ha := (ckd_0.1 hcd).2 a Zo
   refine wg V t0 (ufa 1 (Sd (fg7 F34))) (wq V (Sa t0) (urL G.2.1 t0 (S33.ob 2 hc2)) (wg V (Sb t0) (ufa 1 (Sf (fg6 F34))) (wq V (Sc t0) (urL (.int .i64 (a)) t0 (S33.ob 1 hc3)) ?_)))
   have k37 : a.toNat < G.2.2.length := om
   obtain ⟨y37, hy37⟩ := get_some (xs := G.2.2) (k := a.toNat) k37
   obtain ⟨B37, O37, C37, hv37⟩ := (SlN.blk (sl_SlN Gr.at) om)
   refine wg V (Sd t0) (V_ixS (off := O37 + a.toNat) 1 a.toNat V (Sb t0) t0 hv37 Zb k37 Tryz.underlying25 kr (congrArg _ (Nat.mul_one _))) (wq V (Se t0) (urc t0 ((sl_SlN (S33.ro Gr)).cell hv37 (map_get hy37))) (wg V (Sf t0) (uve t0 V) (vT (Sg t0) t0 (wv (xbS (n := 3) (z := .agg #[.int .i64 0, .bool false, .int .u64 0]) V (parts2 (Sh (Sc t0)) t0)) (xsA0 S33 hc4 V V V (Sh (Se (fg5 F34))) t0 (fun w38 c38 hc38 S38 => W_end (en (Qe (Qh F34)) fun A39 _ F39 => tk H35 (wp_ret (inb_ret (then_ret (rt1 F39 (rvA (fg5 F39) (S38.ob 0 hc38)) ?_)))))))))))
   have hD := do_9 (mx := 0) (g := gab G) (c := (⟨kd, a, b, f, p, q, uu⟩ : OpC)) Zk
   unfold asG
   have ht : decide (ckd (gab G).1 (gab G).2 [a, a] = 0 ∧ rg (gab G).2 a = 0) = decide (y37 = 0) := by rw [show rg (gab G).2 a = y37 from rg_at hy37]; exact decide_eq_decide.2 ⟨fun q => q.2, fun q => ⟨hcd, q⟩⟩
   rw [hD]
   simp only [ht]
   exact ⟨rfl, S38.fin0⟩
  refine xo V t0 (xo V (Sa t0) (xo V (Sb t0) (xo V (Sc t0) (xo V (Sd t0) (xo V (Se t0) (xo V (Sf t0) (vF (Sg t0) V (wv (xbS (n := 3) (z := .agg #[.int .i64 0, .bool false, .int .u64 0]) V (parts2 (Sh (Sc t0)) t0)) (xsA0 S33 hc4 V V V (Sh (Se (fg5 F34))) t0 (fun w41 c41 hc41 S41 => W_end (en (Qe (Qh F34)) fun A42 _ F42 => tk H35 (wp_ret (inb_ret (then_ret (rt1 F42 (rvA (fg5 F42) (S41.ob 0 hc41)) ?_)))))))))))))))
  have hD := do_9 (mx := 0) (g := gab G) (c := (⟨kd, a, b, f, p, q, uu⟩ : OpC)) Zk
  unfold asG
  have ht : decide (ckd (gab G).1 (gab G).2 [a, a] = 0 ∧ rg (gab G).2 a = 0) = false := decide_eq_false fun q => c36 q.1
  rw [hD]
  simp only [ht]
  exact ⟨rfl, S41.fin0⟩
 refine tb fun _ H44 => (ve (fg3 F30) V (vt (W_end (en (Ka (Qa F30)) fun A45 _ F45 => tk H44 (cd (fg0 F45) (fun c46 => ?_) fun c46 => ?_)))))
 ·have hsh := sh_rng (rs := G.2.2) (a := a) hsm
  refine tb fun _ H47 => (ra (fg7 F45) (S4.ob 2 hc2) (fa 1 (Sa (fg6 F45)) (rL (.int .i64 (a)) t0 (S4.ob 1 hc3) (wc (args2 (Sb t0) t0) (qSh_c (a := a) (S4.roC Go) (S4.roC Gn) (S4.roC Gr)) (C0 S4 fun w48 S48 => vm t0 (vx (.int .i64 ((shP (G.1.2.map ab) G.2.2 a))) t0 (vx (.int .i64 ((shR (G.1.2.map ab) G.2.2 a))) (Sa t0) (vx (.int .i64 ((shE (G.1.2.map ab) G.2.2 a))) (Sb t0) (va (Sb t0) (va (Sb t0) (va (Sb t0) (W_end (en (Kc (Qh F45)) fun A49 _ F49 => ?_)))))))))))))
  have S50 := S48.se [0] [c4]
  refine ta H47 fun _ H51 => (vm (fg0 F49) (vm (Sa (fg2 F49)) (wv (V_mul V V t0 Zb Zb) (vm (Sc (fg1 F49)) (ad (Sa t0) t0 (wv (V_cvt V t0 Tryz.underlying3 Tryz.underlying48 (wrap_u64 Zb Zb)) (wv (xbS (n := 3) (z := .agg #[.int .i64 0, .bool false, .int .u64 0]) V (parts2 (Se t0) t0)) (xsA0 S50 hc4 V V V (Sg (fg8 F49)) t0 (fun w52 c52 hc52 S52 => W_end (en (Qg F49) fun A53 _ F53 => tk H51 (wp_ret (inb_ret (then_ret (rt1 F53 (rvA (fg8 F53) (S52.ob 0 hc52)) ?_))))))))))))))
  have hD := do_10 (mx := 0) (g := gab G) (c := (⟨kd, a, b, f, p, q, uu⟩ : OpC)) Zk
  unfold asG
  rw [hD]
  exact ⟨rfl, S52.fin0⟩
 refine wp_skip (inb_n (ta H6 fun _ H54 => (wv (xbS (n := 3) (z := .agg #[.int .i64 0, .bool false, .int .u64 0]) V parts0) (xsA0 S4 hc4 V V V (Sa (fg5 F45)) t0 (fun w55 c55 hc55 S55 => W_end (en (Qa F45) fun A56 _ F56 => tk H54 (wp_ret (rt1 F56 (rvA (fg5 F56) (S55.ob 0 hc55)) ?_))))))))
 have hD := do_0 (mx := 0) (g := gab G) (c := (⟨kd, a, b, f, p, q, uu⟩ : OpC)) Zk
 unfold asG
 rw [hD]
 exact ⟨rfl, S55.fin0⟩

set_option maxHeartbeats 4000000 in
theorem qdn_c {C N Z K Q : Int} {G : GV} {kd a b f p q uu : Int} {w : World} (hg_G : Ro w NoX (gls [G])) (hsm : SM (G.1.2.map ab)) (hop : (opE (⟨kd, a, b, f, p, q, uu⟩ : OpC)) = 0) (hrl : G.2.2.length ≤ 1048576) (hol : G.1.2.length ≤ 1048576) :
  Calls Tryz.prog 42 #[.agg #[.int .i64 C, .int .i64 N, .int .i64 Z, .int .i64 K, .int .i64 Q], .agg #[G.1.1, G.2.1], .agg #[.int .i64 kd, .int .i64 a, .int .i64 b, .int .i64 f, .int .i64 p, .int .i64 q, .int .u64 uu]] w fun e w' => ∃ ho1 Ho1 qo1 so1, e = .returned (.tuple #[.agg #[ho1, qo1], .agg #[.int .i64 (doG (lgN C N Z K Q) (gab G) (⟨kd, a, b, f, p, q, uu⟩ : OpC)).2.e, .bool (doG (lgN C N Z K Q) (gab G) (⟨kd, a, b, f, p, q, uu⟩ : OpC)).2.t, .int .u64 (doG (lgN C N Z K Q) (gab G) (⟨kd, a, b, f, p, q, uu⟩ : OpC)).2.v]]) ∧ (gab ((ho1, Ho1), (qo1, so1)) = (doG (lgN C N Z K Q) (gab G) (⟨kd, a, b, f, p, q, uu⟩ : OpC)).1) ∧ St w NoX [gls [((ho1, Ho1), (qo1, so1))]] w' := by
 have Go := gl_o m1 hg_G
 have Gn := gl_n m1 hg_G
 have Gr := gl_r m1 hg_G
 refine ci3 140 Tryz.func42 V (fun A0 _ F0 => ?_)
 have hS := St.nil w
 have bGo := SlN.le (sl_SlN Go.at)
 have bGr := SlN.le (sl_SlN Gr.at)
 refine tb fun _ H1 => (wB (#[.int .i64 (C), .int .i64 (N), .int .i64 (Z), .int .i64 (K), .int .i64 (Q)]) hS (fg0 F0) (fun g2 w2 c2 hc2 S2 => wB (#[G.1.1, G.2.1]) S2 (Sa (fg1 F0)) (fun g3 w3 c3 hc3 S3 => wB (#[.int .i64 (kd), .int .i64 (a), .int .i64 (b), .int .i64 (f), .int .i64 (p), .int .i64 (q), .int .u64 (uu)]) S3 (Sb (fg2 F0)) (fun g4 w4 c4 hc4 S4 => wA (#[.slice none 0 0, .slice none 0 0]) S4 (fun g5 w5 c5 hc5 S5 => wA (#[.int .i64 0, .bool false, .int .u64 0]) S5 (fun g6 w6 c6 hc6 S6 => W_end (en (Ke F0) fun A7 _ F7 => ta H1 fun _ H8 => (wv (xbS (n := 2) (z := .agg #[.slice none 0 0, .slice none 0 0]) V parts0) (wA (#[.slice none 0 0, .slice none 0 0]) S6 (fun g9 w9 c9 hc9 S9 => xsA0 S9 hc9 V V V t0 (Sa t0) (fun w10 c10 hc10 S10 => W_end (en (Ka (Qa F7)) fun A11 _ F11 => ta H8 fun _ H12 => (vc (W_end (en (Qa F11) fun A13 _ F13 => tc H12 fun _ H14 => tb fun _ H15 => (fa 0 (fg3 F13) (rL (.int .i64 (kd)) t0 (S10.ob 3 hc4) (W_end (en (Ka (Qa F13)) fun A16 _ F16 => tk H15 (wp_block (tb fun _ H17 => (ve (fg0 F16) V (vt (W_end (en (Ka (Qa F16)) fun A18 _ F18 => tk H17 (cd (fg0 F18) (fun c19 => ?_) fun c19 => ?_))))))))))))))))))))))))))
 ·have hpq := op_al hop c19
  have hlg := lg_rng (C := C) (N := N) (Z := Z) (K := K) (Q := Q)
  refine tb fun _ H20 => (ra (fg6 F18) (S10.ob 4 hc3) (fa 1 (Sa (fg5 F18)) (rL (.int .i64 (a)) t0 (S10.ob 3 hc4) (fa 1 (Sc (fg5 F18)) (rL (.int .i64 (a)) t0 (S10.ob 3 hc4) (wc (args3 (Sd t0) (Sb t0) t0) (qAl_c (a := a) (b := a) (S10.roC Go) (S10.roC Gn) (S10.roC Gr)) (C0 S10 fun w21 S21 => vm t0 (vx (.bool ((alB (G.1.2.map ab) G.2.2 a a))) t0 (vx (.int .i64 ((ckd (G.1.2.map ab) G.2.2 [a, a]))) (Sa t0) (vt (W_end (en (Ka (Qa (Qh F18))) fun A22 _ F22 => tc H20 fun _ H23 => td fun _ H24 => wp_mid (G := fun A' w' => SzN A' 140 ∧ A'.defers = [] ∧ (EV A' (.tmp 3) = EV A22 (.tmp 3)) ∧ (EV A' (.tmp 4) = EV A22 (.tmp 4)) ∧ (EV A' (.tmp 5) = EV A22 (.tmp 5)) ∧ (EV A' (.tmp 6) = EV A22 (.tmp 6)) ∧ (EV A' (.tmp 7) = EV A22 (.tmp 7)) ∧ (EV A' (.tmp 8) = EV A22 (.tmp 8)) ∧ (EV A' (.tmp 9) = EV A22 (.tmp 9)) ∧ (EV A' (.tmp 42) = .bool (decide ((ckd (G.1.2.map ab) G.2.2 [a, a] = 0 ∧ (p < 0 ∨ q < 0))))) ∧ St w NoX [c10, c6, c5, c4, c3, c2] w') ?_ ?_))))))))))))
  ·have j3_25 := (fg8 F22)
   have j4_25 := (fg7 F22)
   have j5_25 := (fg6 F22)
   have j6_25 := (fg5 F22)
   have j7_25 := (fg4 F22)
   have j8_25 := (fg3 F22)
   have j9_25 := (fg0 F22)
   refine region_in (vm (fg0 F22) (ve t0 V (W_split V V (V_mov V t0) (fun c26 => ?_) (fun c26 => ?_))))
   ·refine wg V t0 (ufa 4 (Sc (fg6 F22))) (wq V (Sa t0) (urL (.int .i64 (p)) t0 (S21.ob 3 hc4)) (wg V (Sb t0) (uvl t0 V) (W_split V (xwt V V (Sc t0)) (V_mov V t0) (fun c27 => ?_) (fun c27 => ?_))))
    ·refine xo V t0 (xo V (Sa t0) (xo V (Sb t0) (wg V (Sg t0) (uvT (Sc t0) V) (vT (Sh t0) t0 (W_end (en (Ka (Qc (Qh F22))) fun A28 Y28 F28 => ?_))))))
     exact Mid_n ⟨Y28, F28.d, ((fg9 F28).trans j3_25.symm), ((fg8 F28).trans j4_25.symm), ((fg7 F28).trans j5_25.symm), ((fg6 F28).trans j6_25.symm), ((fg5 F28).trans j7_25.symm), ((fg4 F28).trans j8_25.symm), ((fg1 F28).trans j9_25.symm), ((fg0 F28).trans (congrArg Value.bool ((by first | exact (decide_eq_true Zb).symm | exact (decide_eq_false Zb).symm | exact decide_eq_decide.2 Zb)))), S21⟩
    refine wg V t0 (ufa 5 (Sg (fg6 F22))) (wq V (Sa t0) (urL (.int .i64 (q)) t0 (S21.ob 3 hc4)) (wg V (Sb t0) (uvl t0 V) (wg V (Sg t0) (uvF (Sc t0) t0) (vT (Sh t0) t0 (W_end (en (Ka (Qc (Qh F22))) fun A29 Y29 F29 => ?_))))))
    exact Mid_n ⟨Y29, F29.d, ((fg9 F29).trans j3_25.symm), ((fg8 F29).trans j4_25.symm), ((fg7 F29).trans j5_25.symm), ((fg6 F29).trans j6_25.symm), ((fg5 F29).trans j7_25.symm), ((fg4 F29).trans j8_25.symm), ((fg1 F29).trans j9_25.symm), ((fg0 F29).trans (congrArg Value.bool ((by first | exact (decide_eq_true Zb).symm | exact (decide_eq_false Zb).symm | exact decide_eq_decide.2 Zb)))), S21⟩
   refine xo V t0 (xo V (Sa t0) (xo V (Sb t0) (xo V (Sc t0) (W_off V (wanted_u V V t0 (ez V)) (W_off V (wanted_u V V (Sa t0) (ez V)) (W_off V (wanted_u V V (Sb t0) (ez V)) (xo V (Sg t0) (vF (Sh t0) V (W_end (en (Ka (Qc (Qh F22))) fun A30 Y30 F30 => ?_))))))))))
   exact Mid_n ⟨Y30, F30.d, ((fg9 F30).trans j3_25.symm), ((fg8 F30).trans j4_25.symm), ((fg7 F30).trans j5_25.symm), ((fg6 F30).trans j6_25.symm), ((fg5 F30).trans j7_25.symm), ((fg4 F30).trans j8_25.symm), ((fg1 F30).trans j9_25.symm), ((fg0 F30).trans (congrArg Value.bool ((by first | exact (decide_eq_true Zb).symm | exact (decide_eq_false Zb).symm | exact decide_eq_decide.2 Zb)))), S21⟩
  rintro A25 w25 ⟨Y25, hdf25, u3_25, u4_25, u5_25, u6_25, u7_25, u8_25, u9_25, l42_25, S25⟩
  have l3_25 := u3_25.trans (fg8 F22)
  have l4_25 := u4_25.trans (fg7 F22)
  have l5_25 := u5_25.trans (fg6 F22)
  have l6_25 := u6_25.trans (fg5 F22)
  have l7_25 := u7_25.trans (fg4 F22)
  have l8_25 := u8_25.trans (fg3 F22)
  have l9_25 := u9_25.trans (fg0 F22)
  refine tk H24 (cd l42_25 (fun c31 => ?_) fun c31 => ?_)
  ·refine region_in (vc (W_end (en ((((((((ck (FS.n hdf25) V V)).c (es V l3_25)).c (es V l4_25)).c (es V l5_25)).c (es V l6_25)).c (es V l7_25)).c (Sa l8_25)) fun A32 _ F32 => ta H23 fun _ H33 => (ra (fg5 F32) (S25.ob 5 hc2) (wc (args1 t0) (qlg_c (C := C) (N := N) (Z := Z) (K := K) (Q := Q)) (C0 S25 fun w34 S34 => vm t0 (vx (.int .i64 (lgN C N Z K Q)) t0 (vx (.int .i64 (cfE C N Z K Q)) (Sa t0) (va (Sa t0) (va (Sa t0) (W_end (en (Qa (Ka (Qe F32))) fun A35 _ F35 => ?_))))))))))))
   have S36 := S34.se [0, 1, 2, 3, 4] [c10, c6, c5, c4, c3]
   refine tc H33 fun _ H37 => tb fun _ H38 => (vm (fg7 F35) (ve t0 V (W_sure (c' := false) V V (V_mov V t0) Zg (xo V t0 (xo V (Sa t0) (xo V (Sb t0) (xo V (Sc t0) (xo V (Sd t0) (xo V (Se t0) (xo V (Sf t0) (xo V (Sg t0) (vF (Sh t0) V (W_end (en (Ka (Qc (Qh F35))) fun A39 _ F39 => tk H38 (cond_f (fg0 F39) (wp_skip (ta H37 fun _ H40 => (vm (fg8 F39) (ve t0 V (W_end (en (Ka (Qa F39)) fun A41 _ F41 => tk H40 (cond_not (fg0 F41) Zg (wp_skip (inb_n (tc H14 fun _ H42 => tb fun _ H43 => (vm (fg9 F41) (vn t0 V (W_end (en (Ka (Qa F41)) fun A44 _ F44 => ?_)))))))))))))))))))))))))))))
   have S45 := S36.se [0, 1, 2, 4] [c10, c6, c5, c3]
   refine tk H43 (cond_sure (fg0 F44) Zg (tb fun _ H46 => (ra (fg8 F44) (S45.ob 3 hc3) (wc (args1 t0) ((glC (F := fun a_ b_ => .agg #[a_, b_]) (qCn_c (S45.roC Go) (S45.roC Gn) (S45.roC Gr) Ze (by first | omega | (have q := hG.r8; omega)) (by first | omega | (have q := hG.o4; rw [List.length_map] at q; omega))))) (fun _ w47 ⟨hv_47, H_47, qv_47, q_47, e, hg_47, hP47⟩ => ⟨_, e, ?_⟩)))))
   obtain ⟨cK_47, hcK_47, hP47⟩ := gen1 hP47
   have S47 := S45.j1 hP47
   refine vm (Sb (fg10 F44)) (wv (xbS (n := 3) (z := .agg #[.int .i64 0, .bool false, .int .u64 0]) V (parts1 t0)) (xsB3 S47 hc5 V V V (Sd (fg6 F44)) (Sb t0) (by simp only [List.all_toArray, List.all_cons, List.all_nil, obC, grC, SlN_one (sl_SlN (gl_oa m1 (S47.cq 0 hcK_47))), SlN_one (sl_SlN (gl_ra m1 (S47.cq 0 hcK_47)))] <;> rfl) (fun w48 c48 hc48 S48 => xsA2 S48 hc6 V V V (Sd (fg5 F44)) t0 (fun w49 c49 hc49 S49 => W_end (en (Qd F44) fun A50 _ F50 => tk H46 (wp_ret (then_ret (rt2 F50 (rvA (fg6 F50) (S49.ob 3 hc48)) (rvA (fg5 F50) (S49.ob 2 hc49)) ?_))))))))
   have hA : (alA (lgN C N Z K Q) (gab G) a p q) = 10 := alA_b (by simp only [ne_eq, Decidable.not_not]; exact c31.1) c31.2
   have hD := (do_1 (mx := lgN C N Z K Q) (g := gab G) (c := (⟨kd, a, b, f, p, q, uu⟩ : OpC)) Zk).trans ((congrArg (fun z => fin (gab G) z _) hA).trans (fin_n Zb))
   rw [hD]
   exact ⟨hv_47, H_47, qv_47, q_47, rfl, hg_47, (S49.f1 0 hcK_47)⟩
  refine wp_skip (ta H23 fun _ H52 => (ra l3_25 (S25.ob 5 hc2) (wc (args1 t0) (qlg_c (C := C) (N := N) (Z := Z) (K := K) (Q := Q)) (C0 S25 fun w53 S53 => vm t0 (vx (.int .i64 (lgN C N Z K Q)) t0 (vx (.int .i64 (cfE C N Z K Q)) (Sa t0) (va (Sa t0) (va (Sa t0) (W_end (en ((((((((cq1 (ck (cq5 (FS.n hdf25) V) V V) V)).c (es7 V l4_25)).c (es7 V l5_25)).c (es7 V l6_25)).c (es7 V l7_25)).c (es7 V l8_25)).c (Sg l9_25)) fun A54 _ F54 => ?_))))))))))
  have S55 := S53.se [0, 1, 2, 3, 4] [c10, c6, c5, c4, c3]
  refine tc H52 fun _ H56 => tb fun _ H57 => (vm (fg0 F54) (ve t0 V (W_split V V (V_mov V t0) (fun c58 => ?_) (fun c58 => ?_))))
  ·refine wg V t0 (ufa 4 (Sc (fg4 F54))) (wq V (Sa t0) (urL (.int .i64 (p)) t0 (S55.ob 3 hc4)) (wg V (Sb t0) (uad V t0) (wg V (Sc t0) (ufa 5 (Sf (fg4 F54))) (wq V (Sd t0) (urL (.int .i64 (q)) t0 (S55.ob 3 hc4)) (wg V (Se t0) (uad (Sb t0) t0) (wg V (Sf t0) (uvm (Sh (Sa (fg6 F54)))) (wg V (Sg t0) (uvg (Sa t0) t0) (vT (Sh t0) t0 (W_end (en (Ka (Qc (Qh F54))) fun A59 _ F59 => tk H57 (cd (fg0 F59) (fun c60 => ?_) fun c60 => ?_)))))))))))
   ·refine region_in (vc (W_end (en (Ka (fx1 F59)) fun A61 _ F61 => ta H56 fun _ H62 => (vm (fg0 F61) (ve t0 V (W_end (en (Ka (Qa F61)) fun A63 _ F63 => tk H62 (cond_not (fg0 F63) Zg (wp_skip (inb_n (tc H14 fun _ H64 => tb fun _ H65 => vm (fg1 F63) (vn t0 V (W_end (en (Ka (Qa F63)) fun A66 _ F66 => ?_))))))))))))))
    have S67 := S55.se [0, 1, 2, 4] [c10, c6, c5, c3]
    refine tk H65 (cond_sure (fg0 F66) Zg (tb fun _ H68 => (ra (fg8 F66) (S67.ob 3 hc3) (wc (args1 t0) ((glC (F := fun a_ b_ => .agg #[a_, b_]) (qCn_c (S67.roC Go) (S67.roC Gn) (S67.roC Gr) Ze (by first | omega | (have q := hG.r8; omega)) (by first | omega | (have q := hG.o4; rw [List.length_map] at q; omega))))) (fun _ w69 ⟨hv_69, H_69, qv_69, q_69, e, hg_69, hP69⟩ => ⟨_, e, ?_⟩)))))
    obtain ⟨cK_69, hcK_69, hP69⟩ := gen1 hP69
    have S69 := S67.j1 hP69
    refine vm (Sb (fg2 F66)) (wv (xbS (n := 3) (z := .agg #[.int .i64 0, .bool false, .int .u64 0]) V (parts1 t0)) (xsB3 S69 hc5 V V V (Sd (fg6 F66)) (Sb t0) (by simp only [List.all_toArray, List.all_cons, List.all_nil, obC, grC, SlN_one (sl_SlN (gl_oa m1 (S69.cq 0 hcK_69))), SlN_one (sl_SlN (gl_ra m1 (S69.cq 0 hcK_69)))] <;> rfl) (fun w70 c70 hc70 S70 => xsA2 S70 hc6 V V V (Sd (fg5 F66)) t0 (fun w71 c71 hc71 S71 => W_end (en (Qd F66) fun A72 _ F72 => tk H68 (wp_ret (then_ret (rt2 F72 (rvA (fg6 F72) (S71.ob 3 hc70)) (rvA (fg5 F72) (S71.ob 2 hc71)) ?_))))))))
    have hA : (alA (lgN C N Z K Q) (gab G) a p q) = 11 := alA_t (by simp only [ne_eq, Decidable.not_not]; show ckd (G.1.2.map ab) G.2.2 [a, a] = 0; omega) Zb Zb
    have hD := (do_1 (mx := lgN C N Z K Q) (g := gab G) (c := (⟨kd, a, b, f, p, q, uu⟩ : OpC)) Zk).trans ((congrArg (fun z => fin (gab G) z _) hA).trans (fin_n Zb))
    rw [hD]
    exact ⟨hv_69, H_69, qv_69, q_69, rfl, hg_69, (S71.f1 0 hcK_69)⟩
   refine wp_skip (ta H56 fun _ H74 => (vm (fg1 F59) (ve t0 V (W_end (en (Ka (Qa F59)) fun A75 _ F75 => tk H74 (cond_sure (fg0 F75) (by first | (simp [c58]; done) | exact decide_eq_true Zb | exact decide_eq_false Zb) (region_in (ra (fg7 F75) (S55.ob 4 hc3) (fa 1 (Sa (fg6 F75)) (rL (.int .i64 (a)) t0 (S55.ob 3 hc4) (fa 4 (Sc (fg6 F75)) (rL (.int .i64 (p)) t0 (S55.ob 3 hc4) (fa 5 (Se (fg6 F75)) (rL (.int .i64 (q)) t0 (S55.ob 3 hc4) (wc (args4 (Sf t0) (Sd t0) (Sb t0) t0) ((glC (F := fun a_ b_ => .tuple #[.agg #[a_, b_], .int .i64 (alE (G.1.2.map ab) G.2.2 a p q)]) (qAlloc_c (a := a) (p := p) (r := q) (S55.roC Go) (S55.roC Gn) (S55.roC Gr) Ze))) (fun _ w76 ⟨hv_76, H_76, qv_76, q_76, e, hg_76, hP76⟩ => ⟨_, e, ?_⟩))))))))))))))))
   obtain ⟨cK_76, hcK_76, hP76⟩ := gen1 hP76
   have S76 := S55.j1 hP76
   refine vm t0 (vx (.agg #[hv_76, qv_76]) t0 (vx (.int .i64 ((alE (G.1.2.map ab) G.2.2 a p q))) (Sa t0) (xsB1 S76 hc10 V V V (Sh (Sc (fg3 F75))) (Sa t0) (by simp only [List.all_toArray, List.all_cons, List.all_nil, obC, grC, SlN_one (sl_SlN (gl_oa m1 (S76.cq 0 hcK_76))), SlN_one (sl_SlN (gl_ra m1 (S76.cq 0 hcK_76)))] <;> rfl) (fun w77 c77 hc77 S77 => vt (W_end (en (Ka (Qc (Qh (fx2 F75)))) fun A78 _ F78 => ?_))))))
   have S79 := S77.se [0, 1, 2, 3, 5] [cK_76, c77, c6, c5, c3]
   refine inb_n (tc H14 fun _ H80 => tb fun _ H81 => (vm (fg0 F78) (vn t0 V (W_end (en (Ka (Qa F78)) fun A82 _ F82 => tk H81 (cd (fg0 F82) (fun c83 => ?_) fun c83 => ?_))))))
   ·refine tb fun _ H84 => (ra (fg8 F82) (S79.ob 4 hc3) (wc (args1 t0) ((glC (F := fun a_ b_ => .agg #[a_, b_]) (qCn_c (S79.roC Go) (S79.roC Gn) (S79.roC Gr) Ze (by first | omega | (have q := hG.r8; omega)) (by first | omega | (have q := hG.o4; rw [List.length_map] at q; omega))))) (fun _ w85 ⟨hv_85, H_85, qv_85, q_85, e, hg_85, hP85⟩ => ⟨_, e, ?_⟩)))
    obtain ⟨cK_85, hcK_85, hP85⟩ := gen1 hP85
    have S85 := S79.j1 hP85
    refine vm (Sb (fg1 F82)) (wv (xbS (n := 3) (z := .agg #[.int .i64 0, .bool false, .int .u64 0]) V (parts1 t0)) (xsB4 S85 hc5 V V V (Sd (fg6 F82)) (Sb t0) (by simp only [List.all_toArray, List.all_cons, List.all_nil, obC, grC, SlN_one (sl_SlN (gl_oa m1 (S85.cq 0 hcK_85))), SlN_one (sl_SlN (gl_ra m1 (S85.cq 0 hcK_85)))] <;> rfl) (fun w86 c86 hc86 S86 => xsA3 S86 hc6 V V V (Sd (fg5 F82)) t0 (fun w87 c87 hc87 S87 => W_end (en (Qd F82) fun A88 _ F88 => tk H84 (wp_ret (then_ret (rt2 F88 (rvA (fg6 F88) (S87.ob 4 hc86)) (rvA (fg5 F88) (S87.ob 3 hc87)) ?_))))))))
    have hA : (alA (lgN C N Z K Q) (gab G) a p q) = (alE (G.1.2.map ab) G.2.2 a p q) := alA_k (by simp only [ne_eq, Decidable.not_not]; show ckd (G.1.2.map ab) G.2.2 [a, a] = 0; omega) Zb Zb
    have hD := (do_1 (mx := lgN C N Z K Q) (g := gab G) (c := (⟨kd, a, b, f, p, q, uu⟩ : OpC)) Zk).trans ((congrArg (fun z => fin (gab G) z _) hA).trans (fin_n Zb))
    rw [hD]
    exact ⟨hv_85, H_85, qv_85, q_85, rfl, hg_85, (S87.f1 0 hcK_85)⟩
   refine wp_skip (ta H80 fun _ H90 => (ra (fg4 F82) (S79.ob 1 hc77) (wv (xbS (n := 3) (z := .agg #[.int .i64 0, .bool false, .int .u64 0]) V parts0) (xsB3 S79 hc5 V V V (Sb (fg6 F82)) (Sa t0) (by simp only [List.all_toArray, List.all_cons, List.all_nil, obC, grC, SlN_one (sl_SlN (gl_oa m1 (S79.cq 0 hcK_76))), SlN_one (sl_SlN (gl_ra m1 (S79.cq 0 hcK_76)))] <;> rfl) (fun w91 c91 hc91 S91 => xsA2 S91 hc6 V V V (Sb (fg5 F82)) t0 (fun w92 c92 hc92 S92 => W_end (en (Qb F82) fun A93 _ F93 => tk H90 (wp_ret (rt2 F93 (rvA (fg6 F93) (S92.ob 3 hc91)) (rvA (fg5 F93) (S92.ob 2 hc92)) ?_)))))))))
   have hA : (alA (lgN C N Z K Q) (gab G) a p q) = (alE (G.1.2.map ab) G.2.2 a p q) := alA_k (by simp only [ne_eq, Decidable.not_not]; show ckd (G.1.2.map ab) G.2.2 [a, a] = 0; omega) Zb Zb
   have hD := (do_1 (mx := lgN C N Z K Q) (g := gab G) (c := (⟨kd, a, b, f, p, q, uu⟩ : OpC)) Zk).trans ((congrArg (fun z => fin (gab G) z _) hA).trans (fin_0 Zb))
   rw [hD]
   exact ⟨hv_76, H_76, qv_76, q_76, rfl, hg_76, (S92.f1 0 hcK_76)⟩
  refine xo V t0 (xo V (Sa t0) (xo V (Sb t0) (xo V (Sc t0) (xo V (Sd t0) (xo V (Se t0) (xo V (Sf t0) (xo V (Sg t0) (vF (Sh t0) V (W_end (en (Ka (Qc (Qh F54))) fun A95 _ F95 => tk H57 (cond_f (fg0 F95) (wp_skip (ta H56 fun _ H96 => (vm (fg1 F95) (ve t0 V (W_end (en (Ka (Qa F95)) fun A97 _ F97 => tk H96 (cond_not (fg0 F97) (by first | (simp [c58]; done) | exact decide_eq_true Zb | exact decide_eq_false Zb) (wp_skip (inb_n (tc H14 fun _ H98 => tb fun _ H99 => (vm (fg2 F97) (vn t0 V (W_end (en (Ka (Qa F97)) fun A100 _ F100 => ?_)))))))))))))))))))))))))
  have S101 := S55.se [0, 1, 2, 4] [c10, c6, c5, c3]
  refine tk H99 (cond_sure (fg0 F100) (by first | (simp [c58]; done) | exact decide_eq_true Zb | exact decide_eq_false Zb) (tb fun _ H102 => (ra (fg8 F100) (S101.ob 3 hc3) (wc (args1 t0) ((glC (F := fun a_ b_ => .agg #[a_, b_]) (qCn_c (S101.roC Go) (S101.roC Gn) (S101.roC Gr) Ze (by first | omega | (have q := hG.r8; omega)) (by first | omega | (have q := hG.o4; rw [List.length_map] at q; omega))))) (fun _ w103 ⟨hv_103, H_103, qv_103, q_103, e, hg_103, hP103⟩ => ⟨_, e, ?_⟩)))))
  obtain ⟨cK_103, hcK_103, hP103⟩ := gen1 hP103
  have S103 := S101.j1 hP103
  refine vm (Sb (fg3 F100)) (wv (xbS (n := 3) (z := .agg #[.int .i64 0, .bool false, .int .u64 0]) V (parts1 t0)) (xsB3 S103 hc5 V V V (Sd (fg6 F100)) (Sb t0) (by simp only [List.all_toArray, List.all_cons, List.all_nil, obC, grC, SlN_one (sl_SlN (gl_oa m1 (S103.cq 0 hcK_103))), SlN_one (sl_SlN (gl_ra m1 (S103.cq 0 hcK_103)))] <;> rfl) (fun w104 c104 hc104 S104 => xsA2 S104 hc6 V V V (Sd (fg5 F100)) t0 (fun w105 c105 hc105 S105 => W_end (en (Qd F100) fun A106 _ F106 => tk H102 (wp_ret (then_ret (rt2 F106 (rvA (fg6 F106) (S105.ob 3 hc104)) (rvA (fg5 F106) (S105.ob 2 hc105)) ?_))))))))
  have hA : (alA (lgN C N Z K Q) (gab G) a p q) = (ckd (G.1.2.map ab) G.2.2 [a, a]) := alA_e (by show ckd (G.1.2.map ab) G.2.2 [a, a] ≠ 0; omega)
  have hD := (do_1 (mx := lgN C N Z K Q) (g := gab G) (c := (⟨kd, a, b, f, p, q, uu⟩ : OpC)) Zk).trans ((congrArg (fun z => fin (gab G) z _) hA).trans (fin_n Zb))
  rw [hD]
  exact ⟨hv_103, H_103, qv_103, q_103, rfl, hg_103, (S105.f1 0 hcK_103)⟩
 refine tb fun _ H108 => (ve (fg1 F18) V (vt (W_end (en (Ka (Qa F18)) fun A109 _ F109 => ?_))))
 have S110 := S10.se [0, 1, 2, 3, 4] [c10, c6, c5, c4, c3]
 refine tk H108 (cd (fg0 F109) (fun c111 => ?_) fun c111 => ?_)
 ·refine region_in (ra (fg7 F109) (S110.ob 4 hc3) (fa 1 (Sa (fg6 F109)) (rL (.int .i64 (a)) t0 (S110.ob 3 hc4) (fa 2 (Sc (fg6 F109)) (rL (.int .i64 (b)) t0 (S110.ob 3 hc4) (fa 3 (Se (fg6 F109)) (rL (.int .i64 (f)) t0 (S110.ob 3 hc4) (wc (args4 (Sf t0) (Sd t0) (Sb t0) t0) ((glC (F := fun a_ b_ => .tuple #[.agg #[a_, b_], .int .i64 (ptE (G.1.2.map ab) G.2.2 [a, b] b f)]) (qLoad_c (a := a) (b := b) (f := f) (S110.roC Go) (S110.roC Gn) (S110.roC Gr) Ze))) (fun _ w112 ⟨hv_112, H_112, qv_112, q_112, e, hg_112, hP112⟩ => ⟨_, e, ?_⟩)))))))))
  obtain ⟨cK_112, hcK_112, hP112⟩ := gen1 hP112
  have S112 := S110.j1 hP112
  refine vm t0 (vx (.agg #[hv_112, qv_112]) t0 (vx (.int .i64 ((ptE (G.1.2.map ab) G.2.2 [a, b] b f))) (Sa t0) (xsB1 S112 hc10 V V V (Sh (Sc (fg3 F109))) (Sa t0) (by simp only [List.all_toArray, List.all_cons, List.all_nil, obC, grC, SlN_one (sl_SlN (gl_oa m1 (S112.cq 0 hcK_112))), SlN_one (sl_SlN (gl_ra m1 (S112.cq 0 hcK_112)))] <;> rfl) (fun w113 c113 hc113 S113 => vt (W_end (en (Ka (Qc (Qh F109))) fun A114 _ F114 => ?_))))))
  have S115 := S113.se [0, 1, 2, 3, 5] [cK_112, c113, c6, c5, c3]
  refine inb_n (tc H14 fun _ H116 => tb fun _ H117 => (vm (fg0 F114) (vn t0 V (W_end (en (Ka (Qa F114)) fun A118 _ F118 => tk H117 (cd (fg0 F118) (fun c119 => ?_) fun c119 => ?_))))))
  ·refine tb fun _ H120 => (ra (fg9 F118) (S115.ob 4 hc3) (wc (args1 t0) ((glC (F := fun a_ b_ => .agg #[a_, b_]) (qCn_c (S115.roC Go) (S115.roC Gn) (S115.roC Gr) Ze (by first | omega | (have q := hG.r8; omega)) (by first | omega | (have q := hG.o4; rw [List.length_map] at q; omega))))) (fun _ w121 ⟨hv_121, H_121, qv_121, q_121, e, hg_121, hP121⟩ => ⟨_, e, ?_⟩)))
   obtain ⟨cK_121, hcK_121, hP121⟩ := gen1 hP121
   have S121 := S115.j1 hP121
   refine vm (Sb (fg1 F118)) (wv (xbS (n := 3) (z := .agg #[.int .i64 0, .bool false, .int .u64 0]) V (parts1 t0)) (xsB4 S121 hc5 V V V (Sd (fg7 F118)) (Sb t0) (by simp only [List.all_toArray, List.all_cons, List.all_nil, obC, grC, SlN_one (sl_SlN (gl_oa m1 (S121.cq 0 hcK_121))), SlN_one (sl_SlN (gl_ra m1 (S121.cq 0 hcK_121)))] <;> rfl) (fun w122 c122 hc122 S122 => xsA3 S122 hc6 V V V (Sd (fg6 F118)) t0 (fun w123 c123 hc123 S123 => W_end (en (Qd F118) fun A124 _ F124 => tk H120 (wp_ret (then_ret (rt2 F124 (rvA (fg7 F124) (S123.ob 4 hc122)) (rvA (fg6 F124) (S123.ob 3 hc123)) ?_))))))))
   have hD := (do_2 (mx := lgN C N Z K Q) (g := gab G) (c := (⟨kd, a, b, f, p, q, uu⟩ : OpC)) Zk).trans (fin_n (show (ptE (G.1.2.map ab) G.2.2 [a, b] b f) ≠ 0 by omega))
   rw [hD]
   exact ⟨hv_121, H_121, qv_121, q_121, rfl, hg_121, (S123.f1 0 hcK_121)⟩
  refine wp_skip (ta H116 fun _ H126 => (ra (fg5 F118) (S115.ob 1 hc113) (wv (xbS (n := 3) (z := .agg #[.int .i64 0, .bool false, .int .u64 0]) V parts0) (xsB3 S115 hc5 V V V (Sb (fg7 F118)) (Sa t0) (by simp only [List.all_toArray, List.all_cons, List.all_nil, obC, grC, SlN_one (sl_SlN (gl_oa m1 (S115.cq 0 hcK_112))), SlN_one (sl_SlN (gl_ra m1 (S115.cq 0 hcK_112)))] <;> rfl) (fun w127 c127 hc127 S127 => xsA2 S127 hc6 V V V (Sb (fg6 F118)) t0 (fun w128 c128 hc128 S128 => W_end (en (Qb F118) fun A129 _ F129 => tk H126 (wp_ret (rt2 F129 (rvA (fg7 F129) (S128.ob 3 hc127)) (rvA (fg6 F129) (S128.ob 2 hc128)) ?_)))))))))
  have hD := (do_2 (mx := lgN C N Z K Q) (g := gab G) (c := (⟨kd, a, b, f, p, q, uu⟩ : OpC)) Zk).trans (fin_0 (show (ptE (G.1.2.map ab) G.2.2 [a, b] b f) = 0 by omega))
  rw [hD]
  exact ⟨hv_112, H_112, qv_112, q_112, rfl, hg_112, (S128.f1 0 hcK_112)⟩
 refine tb fun _ H131 => (ve (fg2 F109) V (vt (W_end (en (Ka (Qa F109)) fun A132 _ F132 => tk H131 (cd (fg0 F132) (fun c133 => ?_) fun c133 => ?_)))))
 ·refine region_in (ra (fg8 F132) (S110.ob 4 hc3) (fa 1 (Sa (fg7 F132)) (rL (.int .i64 (a)) t0 (S110.ob 3 hc4) (fa 3 (Sc (fg7 F132)) (rL (.int .i64 (f)) t0 (S110.ob 3 hc4) (fa 2 (Se (fg7 F132)) (rL (.int .i64 (b)) t0 (S110.ob 3 hc4) (wc (args4 (Sf t0) (Sd t0) (Sb t0) t0) ((glC (F := fun a_ b_ => .tuple #[.agg #[a_, b_], .int .i64 (ptE (G.1.2.map ab) G.2.2 [a, b] a f)]) (qStore_c (a := a) (f := f) (b := b) (S110.roC Go) (S110.roC Gn) (S110.roC Gr) Ze))) (fun _ w134 ⟨hv_134, H_134, qv_134, q_134, e, hg_134, hP134⟩ => ⟨_, e, ?_⟩)))))))))
  obtain ⟨cK_134, hcK_134, hP134⟩ := gen1 hP134
  have S134 := S110.j1 hP134
  refine vm t0 (vx (.agg #[hv_134, qv_134]) t0 (vx (.int .i64 ((ptE (G.1.2.map ab) G.2.2 [a, b] a f))) (Sa t0) (xsB1 S134 hc10 V V V (Sh (Sc (fg4 F132))) (Sa t0) (by simp only [List.all_toArray, List.all_cons, List.all_nil, obC, grC, SlN_one (sl_SlN (gl_oa m1 (S134.cq 0 hcK_134))), SlN_one (sl_SlN (gl_ra m1 (S134.cq 0 hcK_134)))] <;> rfl) (fun w135 c135 hc135 S135 => vt (W_end (en (Ka (Qc (Qh F132))) fun A136 _ F136 => ?_))))))
  have S137 := S135.se [0, 1, 2, 3, 5] [cK_134, c135, c6, c5, c3]
  refine inb_n (tc H14 fun _ H138 => tb fun _ H139 => (vm (fg0 F136) (vn t0 V (W_end (en (Ka (Qa F136)) fun A140 _ F140 => tk H139 (cd (fg0 F140) (fun c141 => ?_) fun c141 => ?_))))))
  ·refine tb fun _ H142 => (ra (fg10 F140) (S137.ob 4 hc3) (wc (args1 t0) ((glC (F := fun a_ b_ => .agg #[a_, b_]) (qCn_c (S137.roC Go) (S137.roC Gn) (S137.roC Gr) Ze (by first | omega | (have q := hG.r8; omega)) (by first | omega | (have q := hG.o4; rw [List.length_map] at q; omega))))) (fun _ w143 ⟨hv_143, H_143, qv_143, q_143, e, hg_143, hP143⟩ => ⟨_, e, ?_⟩)))
   obtain ⟨cK_143, hcK_143, hP143⟩ := gen1 hP143
   have S143 := S137.j1 hP143
   refine vm (Sb (fg1 F140)) (wv (xbS (n := 3) (z := .agg #[.int .i64 0, .bool false, .int .u64 0]) V (parts1 t0)) (xsB4 S143 hc5 V V V (Sd (fg8 F140)) (Sb t0) (by simp only [List.all_toArray, List.all_cons, List.all_nil, obC, grC, SlN_one (sl_SlN (gl_oa m1 (S143.cq 0 hcK_143))), SlN_one (sl_SlN (gl_ra m1 (S143.cq 0 hcK_143)))] <;> rfl) (fun w144 c144 hc144 S144 => xsA3 S144 hc6 V V V (Sd (fg7 F140)) t0 (fun w145 c145 hc145 S145 => W_end (en (Qd F140) fun A146 _ F146 => tk H142 (wp_ret (then_ret (rt2 F146 (rvA (fg8 F146) (S145.ob 4 hc144)) (rvA (fg7 F146) (S145.ob 3 hc145)) ?_))))))))
   have hD := (do_3 (mx := lgN C N Z K Q) (g := gab G) (c := (⟨kd, a, b, f, p, q, uu⟩ : OpC)) Zk).trans (fin_n (show (ptE (G.1.2.map ab) G.2.2 [a, b] a f) ≠ 0 by omega))
   rw [hD]
   exact ⟨hv_143, H_143, qv_143, q_143, rfl, hg_143, (S145.f1 0 hcK_143)⟩
  refine wp_skip (ta H138 fun _ H148 => (ra (fg6 F140) (S137.ob 1 hc135) (wv (xbS (n := 3) (z := .agg #[.int .i64 0, .bool false, .int .u64 0]) V parts0) (xsB3 S137 hc5 V V V (Sb (fg8 F140)) (Sa t0) (by simp only [List.all_toArray, List.all_cons, List.all_nil, obC, grC, SlN_one (sl_SlN (gl_oa m1 (S137.cq 0 hcK_134))), SlN_one (sl_SlN (gl_ra m1 (S137.cq 0 hcK_134)))] <;> rfl) (fun w149 c149 hc149 S149 => xsA2 S149 hc6 V V V (Sb (fg7 F140)) t0 (fun w150 c150 hc150 S150 => W_end (en (Qb F140) fun A151 _ F151 => tk H148 (wp_ret (rt2 F151 (rvA (fg8 F151) (S150.ob 3 hc149)) (rvA (fg7 F151) (S150.ob 2 hc150)) ?_)))))))))
  have hD := (do_3 (mx := lgN C N Z K Q) (g := gab G) (c := (⟨kd, a, b, f, p, q, uu⟩ : OpC)) Zk).trans (fin_0 (show (ptE (G.1.2.map ab) G.2.2 [a, b] a f) = 0 by omega))
  rw [hD]
  exact ⟨hv_134, H_134, qv_134, q_134, rfl, hg_134, (S150.f1 0 hcK_134)⟩
 refine tb fun _ H153 => (ve (fg3 F132) V (vt (W_end (en (Ka (Qa F132)) fun A154 _ F154 => tk H153 (cd (fg0 F154) (fun c155 => ?_) fun c155 => ?_)))))
 ·refine region_in (ra (fg9 F154) (S110.ob 4 hc3) (fa 1 (Sa (fg8 F154)) (rL (.int .i64 (a)) t0 (S110.ob 3 hc4) (fa 3 (Sc (fg8 F154)) (rL (.int .i64 (f)) t0 (S110.ob 3 hc4) (fa 6 (Se (fg8 F154)) (rL (.int .u64 (uu)) t0 (S110.ob 3 hc4) (wc (args4 (Sf t0) (Sd t0) (Sb t0) t0) ((glC (F := fun a_ b_ => .tuple #[.agg #[a_, b_], .int .i64 (rwE (G.1.2.map ab) G.2.2 [a] a f)]) (qWrite_c (a := a) (f := f) (x := uu) (S110.roC Go) (S110.roC Gn) (S110.roC Gr) Ze))) (fun _ w156 ⟨hv_156, H_156, qv_156, q_156, e, hg_156, hP156⟩ => ⟨_, e, ?_⟩)))))))))
  obtain ⟨cK_156, hcK_156, hP156⟩ := gen1 hP156
  have S156 := S110.j1 hP156
  refine vm t0 (vx (.agg #[hv_156, qv_156]) t0 (vx (.int .i64 ((rwE (G.1.2.map ab) G.2.2 [a] a f))) (Sa t0) (xsB1 S156 hc10 V V V (Sh (Sc (fg5 F154))) (Sa t0) (by simp only [List.all_toArray, List.all_cons, List.all_nil, obC, grC, SlN_one (sl_SlN (gl_oa m1 (S156.cq 0 hcK_156))), SlN_one (sl_SlN (gl_ra m1 (S156.cq 0 hcK_156)))] <;> rfl) (fun w157 c157 hc157 S157 => vt (W_end (en (Ka (Qc (Qh F154))) fun A158 _ F158 => ?_))))))
  have S159 := S157.se [0, 1, 2, 3, 5] [cK_156, c157, c6, c5, c3]
  refine inb_n (tc H14 fun _ H160 => tb fun _ H161 => (vm (fg0 F158) (vn t0 V (W_end (en (Ka (Qa F158)) fun A162 _ F162 => tk H161 (cd (fg0 F162) (fun c163 => ?_) fun c163 => ?_))))))
  ·refine tb fun _ H164 => (ra (fg11 F162) (S159.ob 4 hc3) (wc (args1 t0) ((glC (F := fun a_ b_ => .agg #[a_, b_]) (qCn_c (S159.roC Go) (S159.roC Gn) (S159.roC Gr) Ze (by first | omega | (have q := hG.r8; omega)) (by first | omega | (have q := hG.o4; rw [List.length_map] at q; omega))))) (fun _ w165 ⟨hv_165, H_165, qv_165, q_165, e, hg_165, hP165⟩ => ⟨_, e, ?_⟩)))
   obtain ⟨cK_165, hcK_165, hP165⟩ := gen1 hP165
   have S165 := S159.j1 hP165
   refine vm (Sb (fg1 F162)) (wv (xbS (n := 3) (z := .agg #[.int .i64 0, .bool false, .int .u64 0]) V (parts1 t0)) (xsB4 S165 hc5 V V V (Sd (fg9 F162)) (Sb t0) (by simp only [List.all_toArray, List.all_cons, List.all_nil, obC, grC, SlN_one (sl_SlN (gl_oa m1 (S165.cq 0 hcK_165))), SlN_one (sl_SlN (gl_ra m1 (S165.cq 0 hcK_165)))] <;> rfl) (fun w166 c166 hc166 S166 => xsA3 S166 hc6 V V V (Sd (fg8 F162)) t0 (fun w167 c167 hc167 S167 => W_end (en (Qd F162) fun A168 _ F168 => tk H164 (wp_ret (then_ret (rt2 F168 (rvA (fg9 F168) (S167.ob 4 hc166)) (rvA (fg8 F168) (S167.ob 3 hc167)) ?_))))))))
   have hD := (do_5 (mx := lgN C N Z K Q) (g := gab G) (c := (⟨kd, a, b, f, p, q, uu⟩ : OpC)) Zk).trans (fin_n (show (rwE (G.1.2.map ab) G.2.2 [a] a f) ≠ 0 by omega))
   rw [hD]
   exact ⟨hv_165, H_165, qv_165, q_165, rfl, hg_165, (S167.f1 0 hcK_165)⟩
  refine wp_skip (ta H160 fun _ H170 => (ra (fg7 F162) (S159.ob 1 hc157) (wv (xbS (n := 3) (z := .agg #[.int .i64 0, .bool false, .int .u64 0]) V parts0) (xsB3 S159 hc5 V V V (Sb (fg9 F162)) (Sa t0) (by simp only [List.all_toArray, List.all_cons, List.all_nil, obC, grC, SlN_one (sl_SlN (gl_oa m1 (S159.cq 0 hcK_156))), SlN_one (sl_SlN (gl_ra m1 (S159.cq 0 hcK_156)))] <;> rfl) (fun w171 c171 hc171 S171 => xsA2 S171 hc6 V V V (Sb (fg8 F162)) t0 (fun w172 c172 hc172 S172 => W_end (en (Qb F162) fun A173 _ F173 => tk H170 (wp_ret (rt2 F173 (rvA (fg9 F173) (S172.ob 3 hc171)) (rvA (fg8 F173) (S172.ob 2 hc172)) ?_)))))))))
  have hD := (do_5 (mx := lgN C N Z K Q) (g := gab G) (c := (⟨kd, a, b, f, p, q, uu⟩ : OpC)) Zk).trans (fin_0 (show (rwE (G.1.2.map ab) G.2.2 [a] a f) = 0 by omega))
  rw [hD]
  exact ⟨hv_156, H_156, qv_156, q_156, rfl, hg_156, (S172.f1 0 hcK_156)⟩
 refine tb fun _ H175 => (ve (fg4 F154) V (vt (W_end (en (Ka (Qa F154)) fun A176 _ F176 => tk H175 (cd (fg0 F176) (fun c177 => ?_) fun c177 => ?_)))))
 ·refine region_in (ra (fg10 F176) (S110.ob 4 hc3) (fa 1 (Sa (fg9 F176)) (rL (.int .i64 (a)) t0 (S110.ob 3 hc4) (fa 2 (Sc (fg9 F176)) (rL (.int .i64 (b)) t0 (S110.ob 3 hc4) (wc (args3 (Sd t0) (Sb t0) t0) ((glC (F := fun a_ b_ => .tuple #[.agg #[a_, b_], .int .i64 (ckd (G.1.2.map ab) G.2.2 [a, b])]) (qMove_c (a := a) (b := b) (S110.roC Go) (S110.roC Gn) (S110.roC Gr) Ze))) (fun _ w178 ⟨hv_178, H_178, qv_178, q_178, e, hg_178, hP178⟩ => ⟨_, e, ?_⟩)))))))
  obtain ⟨cK_178, hcK_178, hP178⟩ := gen1 hP178
  have S178 := S110.j1 hP178
  refine vm t0 (vx (.agg #[hv_178, qv_178]) t0 (vx (.int .i64 ((ckd (G.1.2.map ab) G.2.2 [a, b]))) (Sa t0) (xsB1 S178 hc10 V V V (Sh (Sa (fg6 F176))) (Sa t0) (by simp only [List.all_toArray, List.all_cons, List.all_nil, obC, grC, SlN_one (sl_SlN (gl_oa m1 (S178.cq 0 hcK_178))), SlN_one (sl_SlN (gl_ra m1 (S178.cq 0 hcK_178)))] <;> rfl) (fun w179 c179 hc179 S179 => vt (W_end (en (Ka (Qa (Qh F176))) fun A180 _ F180 => ?_))))))
  have S181 := S179.se [0, 1, 2, 3, 5] [cK_178, c179, c6, c5, c3]
  refine inb_n (tc H14 fun _ H182 => tb fun _ H183 => (vm (fg0 F180) (vn t0 V (W_end (en (Ka (Qa F180)) fun A184 _ F184 => tk H183 (cd (fg0 F184) (fun c185 => ?_) fun c185 => ?_))))))
  ·refine tb fun _ H186 => (ra (fg12 F184) (S181.ob 4 hc3) (wc (args1 t0) ((glC (F := fun a_ b_ => .agg #[a_, b_]) (qCn_c (S181.roC Go) (S181.roC Gn) (S181.roC Gr) Ze (by first | omega | (have q := hG.r8; omega)) (by first | omega | (have q := hG.o4; rw [List.length_map] at q; omega))))) (fun _ w187 ⟨hv_187, H_187, qv_187, q_187, e, hg_187, hP187⟩ => ⟨_, e, ?_⟩)))
   obtain ⟨cK_187, hcK_187, hP187⟩ := gen1 hP187
   have S187 := S181.j1 hP187
   refine vm (Sb (fg1 F184)) (wv (xbS (n := 3) (z := .agg #[.int .i64 0, .bool false, .int .u64 0]) V (parts1 t0)) (xsB4 S187 hc5 V V V (Sd (fg10 F184)) (Sb t0) (by simp only [List.all_toArray, List.all_cons, List.all_nil, obC, grC, SlN_one (sl_SlN (gl_oa m1 (S187.cq 0 hcK_187))), SlN_one (sl_SlN (gl_ra m1 (S187.cq 0 hcK_187)))] <;> rfl) (fun w188 c188 hc188 S188 => xsA3 S188 hc6 V V V (Sd (fg9 F184)) t0 (fun w189 c189 hc189 S189 => W_end (en (Qd F184) fun A190 _ F190 => tk H186 (wp_ret (then_ret (rt2 F190 (rvA (fg10 F190) (S189.ob 4 hc188)) (rvA (fg9 F190) (S189.ob 3 hc189)) ?_))))))))
   have hD := (do_6 (mx := lgN C N Z K Q) (g := gab G) (c := (⟨kd, a, b, f, p, q, uu⟩ : OpC)) Zk).trans (fin_n (show (ckd (G.1.2.map ab) G.2.2 [a, b]) ≠ 0 by omega))
   rw [hD]
   exact ⟨hv_187, H_187, qv_187, q_187, rfl, hg_187, (S189.f1 0 hcK_187)⟩
  refine wp_skip (ta H182 fun _ H192 => (ra (fg8 F184) (S181.ob 1 hc179) (wv (xbS (n := 3) (z := .agg #[.int .i64 0, .bool false, .int .u64 0]) V parts0) (xsB3 S181 hc5 V V V (Sb (fg10 F184)) (Sa t0) (by simp only [List.all_toArray, List.all_cons, List.all_nil, obC, grC, SlN_one (sl_SlN (gl_oa m1 (S181.cq 0 hcK_178))), SlN_one (sl_SlN (gl_ra m1 (S181.cq 0 hcK_178)))] <;> rfl) (fun w193 c193 hc193 S193 => xsA2 S193 hc6 V V V (Sb (fg9 F184)) t0 (fun w194 c194 hc194 S194 => W_end (en (Qb F184) fun A195 _ F195 => tk H192 (wp_ret (rt2 F195 (rvA (fg10 F195) (S194.ob 3 hc193)) (rvA (fg9 F195) (S194.ob 2 hc194)) ?_)))))))))
  have hD := (do_6 (mx := lgN C N Z K Q) (g := gab G) (c := (⟨kd, a, b, f, p, q, uu⟩ : OpC)) Zk).trans (fin_0 (show (ckd (G.1.2.map ab) G.2.2 [a, b]) = 0 by omega))
  rw [hD]
  exact ⟨hv_178, H_178, qv_178, q_178, rfl, hg_178, (S194.f1 0 hcK_178)⟩
 refine tb fun _ H197 => (ve (fg5 F176) V (vt (W_end (en (Ka (Qa F176)) fun A198 _ F198 => tk H197 (cd (fg0 F198) (fun c199 => ?_) fun c199 => ?_)))))
 ·refine region_in (ra (fg11 F198) (S110.ob 4 hc3) (fa 1 (Sa (fg10 F198)) (rL (.int .i64 (a)) t0 (S110.ob 3 hc4) (wc (args2 (Sb t0) t0) ((glC (F := fun a_ b_ => .tuple #[.agg #[a_, b_], .int .i64 (ckd (G.1.2.map ab) G.2.2 [a])]) (qClear_c (a := a) (S110.roC Go) (S110.roC Gn) (S110.roC Gr) Ze))) (fun _ w200 ⟨hv_200, H_200, qv_200, q_200, e, hg_200, hP200⟩ => ⟨_, e, ?_⟩)))))
  obtain ⟨cK_200, hcK_200, hP200⟩ := gen1 hP200
  have S200 := S110.j1 hP200
  refine vm t0 (vx (.agg #[hv_200, qv_200]) t0 (vx (.int .i64 ((ckd (G.1.2.map ab) G.2.2 [a]))) (Sa t0) (xsB1 S200 hc10 V V V (Sg (fg7 F198)) (Sa t0) (by simp only [List.all_toArray, List.all_cons, List.all_nil, obC, grC, SlN_one (sl_SlN (gl_oa m1 (S200.cq 0 hcK_200))), SlN_one (sl_SlN (gl_ra m1 (S200.cq 0 hcK_200)))] <;> rfl) (fun w201 c201 hc201 S201 => vt (W_end (en (Ka (Qg F198)) fun A202 _ F202 => ?_))))))
  have S203 := S201.se [0, 1, 2, 3, 5] [cK_200, c201, c6, c5, c3]
  refine inb_n (tc H14 fun _ H204 => tb fun _ H205 => (vm (fg0 F202) (vn t0 V (W_end (en (Ka (Qa F202)) fun A206 _ F206 => tk H205 (cd (fg0 F206) (fun c207 => ?_) fun c207 => ?_))))))
  ·refine tb fun _ H208 => (ra (fg13 F206) (S203.ob 4 hc3) (wc (args1 t0) ((glC (F := fun a_ b_ => .agg #[a_, b_]) (qCn_c (S203.roC Go) (S203.roC Gn) (S203.roC Gr) Ze (by first | omega | (have q := hG.r8; omega)) (by first | omega | (have q := hG.o4; rw [List.length_map] at q; omega))))) (fun _ w209 ⟨hv_209, H_209, qv_209, q_209, e, hg_209, hP209⟩ => ⟨_, e, ?_⟩)))
   obtain ⟨cK_209, hcK_209, hP209⟩ := gen1 hP209
   have S209 := S203.j1 hP209
   refine vm (Sb (fg1 F206)) (wv (xbS (n := 3) (z := .agg #[.int .i64 0, .bool false, .int .u64 0]) V (parts1 t0)) (xsB4 S209 hc5 V V V (Sd (fg11 F206)) (Sb t0) (by simp only [List.all_toArray, List.all_cons, List.all_nil, obC, grC, SlN_one (sl_SlN (gl_oa m1 (S209.cq 0 hcK_209))), SlN_one (sl_SlN (gl_ra m1 (S209.cq 0 hcK_209)))] <;> rfl) (fun w210 c210 hc210 S210 => xsA3 S210 hc6 V V V (Sd (fg10 F206)) t0 (fun w211 c211 hc211 S211 => W_end (en (Qd F206) fun A212 _ F212 => tk H208 (wp_ret (then_ret (rt2 F212 (rvA (fg11 F212) (S211.ob 4 hc210)) (rvA (fg10 F212) (S211.ob 3 hc211)) ?_))))))))
   have hD := (do_7 (mx := lgN C N Z K Q) (g := gab G) (c := (⟨kd, a, b, f, p, q, uu⟩ : OpC)) Zk).trans (fin_n (show (ckd (G.1.2.map ab) G.2.2 [a]) ≠ 0 by omega))
   rw [hD]
   exact ⟨hv_209, H_209, qv_209, q_209, rfl, hg_209, (S211.f1 0 hcK_209)⟩
  refine wp_skip (ta H204 fun _ H214 => (ra (fg9 F206) (S203.ob 1 hc201) (wv (xbS (n := 3) (z := .agg #[.int .i64 0, .bool false, .int .u64 0]) V parts0) (xsB3 S203 hc5 V V V (Sb (fg11 F206)) (Sa t0) (by simp only [List.all_toArray, List.all_cons, List.all_nil, obC, grC, SlN_one (sl_SlN (gl_oa m1 (S203.cq 0 hcK_200))), SlN_one (sl_SlN (gl_ra m1 (S203.cq 0 hcK_200)))] <;> rfl) (fun w215 c215 hc215 S215 => xsA2 S215 hc6 V V V (Sb (fg10 F206)) t0 (fun w216 c216 hc216 S216 => W_end (en (Qb F206) fun A217 _ F217 => tk H214 (wp_ret (rt2 F217 (rvA (fg11 F217) (S216.ob 3 hc215)) (rvA (fg10 F217) (S216.ob 2 hc216)) ?_)))))))))
  have hD := (do_7 (mx := lgN C N Z K Q) (g := gab G) (c := (⟨kd, a, b, f, p, q, uu⟩ : OpC)) Zk).trans (fin_0 (show (ckd (G.1.2.map ab) G.2.2 [a]) = 0 by omega))
  rw [hD]
  exact ⟨hv_200, H_200, qv_200, q_200, rfl, hg_200, (S216.f1 0 hcK_200)⟩
 refine td fun _ H219 => region_monoS 5 6 [none, some (SPv [] (fun _ => fun u l' => ∃ hv_s H_s qv_s q_s, u = .agg #[hv_s, qv_s] ∧ (gab ((hv_s, H_s), (qv_s, q_s)) = ((G.1.2.map ab), G.2.2)) ∧ ∃ cK_s, cK_s = gls [((hv_s, H_s), (qv_s, q_s))] ∧ l' = [cK_s]) 1), none, none, some (SPv [] (fun _ => fun u l' => u = .agg #[.int .i64 (asG (gab G) (⟨kd, a, b, f, p, q, uu⟩ : OpC)).e, .bool (asG (gab G) (⟨kd, a, b, f, p, q, uu⟩ : OpC)).t, .int .u64 (asG (gab G) (⟨kd, a, b, f, p, q, uu⟩ : OpC)).v] ∧ l' = []) 4)] kr kr (dr (fun _ hx _ => (ura (fg11 F198) ((S110.grow hx).ob 4 hc3))) (D_call (ts := []) (vs := []) (C0 := fun _ => fun u l' => ∃ hv_s H_s qv_s q_s, u = .agg #[hv_s, qv_s] ∧ (gab ((hv_s, H_s), (qv_s, q_s)) = ((G.1.2.map ab), G.2.2)) ∧ ∃ cK_s, cK_s = gls [((hv_s, H_s), (qv_s, q_s))] ∧ l' = [cK_s]) (C := fun u l' => ∃ hv_s H_s qv_s q_s, u = .agg #[hv_s, qv_s] ∧ (gab ((hv_s, H_s), (qv_s, q_s)) = ((G.1.2.map ab), G.2.2)) ∧ ∃ cK_s, cK_s = gls [((hv_s, H_s), (qv_s, q_s))] ∧ l' = [cK_s]) V V V Tryz.func21 kr V (args1 t0) V V V V (fun sx hx hF => ?_) (fun u220 l220 hu220 => ?_)))
 ·refine ((glC (F := fun a_ b_ => .agg #[a_, b_]) (qCn_c ((S110.grow hx).roC Go) ((S110.grow hx).roC Gn) ((S110.grow hx).roC Gr) Ze (by first | omega | (have q := hG.r8; omega)) (by first | omega | (have q := hG.o4; rw [List.length_map] at q; omega))))).mono ?_
  rintro _ _ ⟨hv_220, H_220, qv_220, q_220, rfl, hg_220, hz⟩
  exact ⟨_, rfl, _, ⟨_, _, _, _, rfl, hg_220, _, rfl, rfl⟩, hz⟩
 obtain ⟨hv_220, H_220, qv_220, q_220, rfl, hg_220, cK_220, hcK_220, hl220⟩ := hu220
 refine dr (fun _ hx _ => (ura (Sb (fg11 F198)) ((S110.grow hx).ob 4 hc3))) (dr (fun _ hx _ => (ura (Sc (fg10 F198)) ((S110.grow hx).ob 3 hc4))) (D_call (ts := []) (vs := []) (C0 := fun _ => fun u l' => u = .agg #[.int .i64 (asG (gab G) (⟨kd, a, b, f, p, q, uu⟩ : OpC)).e, .bool (asG (gab G) (⟨kd, a, b, f, p, q, uu⟩ : OpC)).t, .int .u64 (asG (gab G) (⟨kd, a, b, f, p, q, uu⟩ : OpC)).v] ∧ l' = []) (C := fun u l' => u = .agg #[.int .i64 (asG (gab G) (⟨kd, a, b, f, p, q, uu⟩ : OpC)).e, .bool (asG (gab G) (⟨kd, a, b, f, p, q, uu⟩ : OpC)).t, .int .u64 (asG (gab G) (⟨kd, a, b, f, p, q, uu⟩ : OpC)).v] ∧ l' = []) V V V Tryz.func88 kr V (args2 (Sa t0) t0) V V V V (fun sx hx hF => ?_) (fun u221 l221 hu221 => ?_)))
 ·refine (qas_c (G := G) (kd := kd) (a := a) (b := b) (f := f) (p := p) (q := q) (uu := uu) (gl_mk ((S110.grow hx).roC Go) ((S110.grow hx).roC Gn) ((S110.grow hx).roC Gr)) (by first | with_reducible assumption | exact hsm) Zf).mono ?_
  rintro _ _ ⟨rfl, hz⟩
  exact ⟨_, rfl, _, ⟨rfl, rfl⟩, hz⟩
 obtain ⟨rfl, hl221⟩ := hu221
 refine D_eff V (ZS_eff S110 V V (fun s222 hJ222 hL222 hF222 => ?_))
 obtain ⟨ll220, ws220, we220, ⟨hv_220q, H_220q, qv_220q, q_220q, hq220, hg_220r, cK_220r, hcK_220r, hl220r⟩, hm220, k220, e220⟩ := L.all_get (L.all_rest hF222); cases hq220; subst hl220r
 replace hJ222 := hJ222.add hL222 (i := 1) V hm220 k220 e220
 obtain ⟨ll221, ws221, we221, ⟨hq221, hl221r⟩, hm221, k221, e221⟩ := L.all_get hF222; cases hq221; subst hl221r
 replace hJ222 := hJ222.add hL222 (i := 4) V hm221 k221 e221
 have S222 := hJ222.st; clear hF222 hJ222 hL222
 generalize s222.1 = w222 at *
 replace S222 : St w NoX [cK_220r, c10, c6, c5, c4, c3] w222 := S222
 refine xsB3 S222 hc5 V V V (Se (fg9 F198)) (Sc t0) (by simp only [List.all_toArray, List.all_cons, List.all_nil, obC, grC, SlN_one (sl_SlN (gl_oa m1 (S222.cq 0 hcK_220r))), SlN_one (sl_SlN (gl_ra m1 (S222.cq 0 hcK_220r)))] <;> rfl) (fun w223 c223 hc223 S223 => xsA2 S223 hc6 V V V (Se (fg8 F198)) t0 (fun w224 c224 hc224 S224 => W_end (Qo_normal (en (Qe F198) fun A225 _ F225 => tk H219 (wp_ret (inb_ret (then_ret (rt2 F225 (rvA (fg9 F225) (S224.ob 3 hc223)) (rvA (fg8 F225) (S224.ob 2 hc224)) ?_))))))))
 rw [do_as (mx := lgN C N Z K Q) (g := gab G) (c := (⟨kd, a, b, f, p, q, uu⟩ : OpC)) Zk]
 exact ⟨hv_220, H_220q, qv_220, q_220q, rfl, hg_220r, (S224.f1 0 hcK_220r)⟩

set_option maxHeartbeats 4000000 in
theorem qsc_c {C N Z K Q : Int} {lv : Value} {l : List OpC} {w : World} (h_lv : Ro w NoX (rl 7 opC lv l))  :
  Calls Tryz.prog 47 #[.agg #[.int .i64 C, .int .i64 N, .int .i64 Z, .int .i64 K, .int .i64 Q], lv] w fun e w' => e = .returned (.tuple #[.int .i64 (scE (cfE C N Z K Q) l).1, .int .i64 (scE (cfE C N Z K Q) l).2]) ∧ St w NoX [] w' := by
 refine ci2 32 Tryz.func47 V (fun A0 _ F0 => ?_)
 have hS := St.nil w
 have bh_lv := SlN.le (sl_SlN h_lv.at)
 refine tb fun _ H1 => (wB (#[.int .i64 (C), .int .i64 (N), .int .i64 (Z), .int .i64 (K), .int .i64 (Q)]) hS (fg0 F0) (fun g2 w2 c2 hc2 S2 => vc (vc (W_end (en (Qb (Ka F0)) fun A3 _ F3 => ta H1 fun _ H4 => (ra (fg0 F3) (S2.ob 0 hc2) (wc (args1 t0) (qcfg_c (C := C) (N := N) (Z := Z) (K := K) (Q := Q)) (C0 S2 fun w5 S5 => vt (W_end (en (Ka (Qb F3)) fun A6 _ F6 => ?_))))))))))
 have S7 := S5.se [] []
 refine tc H4 fun _ H8 => tb fun _ H9 => (vm (fg0 F6) (vn t0 V (W_end (en (Ka (Qa F6)) fun A10 _ F10 => tk H9 (cd (fg0 F10) (fun c11 => ?_) fun c11 => ?_)))))
 ·refine tb fun _ H12 => (vm (fg1 F10) (vc (va (Sa t0) (W_end (en (Kb (Qa F10)) fun A13 _ F13 => tk H12 (wp_ret (then_ret (rt2 F13 (rv_tmp (fg1 F13)) (rv_tmp (fg0 F13)) ?_))))))))
  have h : (scE (cfE C N Z K Q) l) = ((-1), (cfE C N Z K Q)) := sc_cf c11
  rw [h]
  exact ⟨rfl, S7.fin0⟩
 refine wp_skip (tc H8 fun _ H14 => tb fun _ H15 => (vm (fg4 F10) (le_ t0 (sl_SlN h_lv.at) (vg t0 V (W_end (en (Ka (Qb F10)) fun A16 _ F16 => tk H15 (cd (fg0 F16) (fun c17 => ?_) fun c17 => ?_)))))))
 ·refine tb fun _ H18 => (vc (vc (W_end (en (Kb F16) fun A19 _ F19 => tk H18 (wp_ret (then_ret (rt2 F19 (rv_tmp (fg1 F19)) (rv_tmp (fg0 F19)) ?_)))))))
  have h : (scE (cfE C N Z K Q) l) = ((-1), 3) := sc_long c11 c17
  rw [h]
  exact ⟨rfl, S7.fin0⟩
 refine wp_skip (tc H14 fun _ H20 => tb fun _ H21 => (vc (W_end (en (Ka F16) fun A22 Y22 F22 => tk H21 (wp_block ?_)))))
 -- loop 7
 refine loopX (fun mz A' w' => SzN A' 32 ∧ A'.defers = [] ∧ (∃ (k : Nat), (mz = l.length - k) ∧ (k ≤ l.length) ∧ (scF 0 l = scF k (l.drop k)) ∧ (EV A' (.tmp 7) = .int .i64 (k : Int)) ∧ (EV A' (.tmp 1) = EV A22 (.tmp 1)) ∧ (St w NoX [] w'))) (l.length - 0) ⟨Y22, F22.d, 0, rfl, Zb, rfl, ((fg0 F22).trans Za), rfl, S7⟩ ?_
 clear S7
 rintro n23 A23 w23 ⟨Y23, hdf23, k, hm23, hk, hz, l7_23, u1_23, S23⟩
 have l1_23 := u1_23.trans (fg6 F22)
 refine td fun _ H24 => tb fun _ H25 => (vm l7_23 (vm (Sa l1_23) (le_ t0 (sl_SlN h_lv.at) (vl (Sb t0) t0 (W_end (en ((((ck (cq3 (FS.n hdf23) V) V V)).c (es4 V l1_23)).c (Sd l7_23)) fun A26 _ F26 => tk H25 (cd (fg2 F26) (fun c27 => ?_) fun c27 => ?_)))))))
 ·refine wp_skip (tc H24 fun _ H28 => wp_block (tb fun _ H29 => (vm (fg1 F26) (vm (Sa (fg0 F26)) ?_))))
  have k30 : k < l.length := om
  obtain ⟨y30, hy30⟩ := get_some (xs := l) (k := k) k30
  obtain ⟨B30, O30, C30, hv30⟩ := (SlN.blk (sl_SlN h_lv.at) om)
  refine wv (V_ixS (off := O30 + k * 7) 7 k V (Sa t0) t0 hv30 Zb k30 Tryz.underlying24 kr V) (wr (VR_ldR (ys := opC y30) V t0 (SlN.row opC_len (sl_SlN (S23.ro h_lv)) hv30 hy30 V) Tryz.underlying50 V kr) (wc (args1 t0) (qopc_c (kd := y30.kd) (a := y30.a) (b := y30.b) (f := y30.f) (p := y30.p) (q := y30.q) (uu := y30.u)) (C0 S23 fun w31 S31 => vt (W_end (en (Ka (Qe F26)) fun A32 _ F32 => ta H29 fun _ H33 => (vm (fg0 F32) (vn t0 V (W_end (en (Ka (Qa F32)) fun A34 _ F34 => tk H33 (cd (fg0 F34) (fun c35 => ?_) fun c35 => ?_))))))))))
  ·refine tb fun _ H36 => (vm (fg2 F34) (vm (Sa (fg1 F34)) (va (Sa t0) (va (Sa t0) (W_end (en (Kb (Qb F34)) fun A37 _ F37 => tk H36 (wp_ret (inb_ret (then_ret (then_ret (inb_ret (then_ret (rt2 F37 (rv_tmp (fg1 F37)) (rv_tmp (fg0 F37)) ?_)))))))))))))
   have h : (scE (cfE C N Z K Q) l) = ((k : Int), (opE (⟨y30.kd, y30.a, y30.b, y30.f, y30.p, y30.q, y30.u⟩ : OpC))) := sc_op c11 c17 hz hy30 c35
   rw [h]
   exact ⟨rfl, S31.fin0⟩
  refine wp_skip (inb_n (tk H28 (region_in (vm (fg2 F34) (ad t0 V (vt (W_end (en (Ka (Qb (fx2 F34))) fun A38 Y38 F38 => then_n ⟨l.length - (k + 1), by simp only [hm23]; omega, Y38, F38.d, (k + 1), rfl, Zb, (sc_step hz hy30 c35), ((fg0 F38).trans Za), ((fg3 F38).trans (fg6 F22).symm), S31⟩))))))))
 refine wp_exit (then_exit (then_exit (inb_hit (ta H20 fun _ H39 => (vc (vc (W_end (en (Kb F26) fun A40 _ F40 => tk H39 (wp_ret (rt2 F40 (rv_tmp (fg1 F40)) (rv_tmp (fg0 F40)) ?_))))))))))
 have h : (scE (cfE C N Z K Q) l) = (0, 0) := sc_ok c11 c17 hz Zb
 rw [h]
 exact ⟨rfl, S23.fin0⟩

end Go.Proofs.YtpgkfndbfocibaaGreat
namespace Go.Own.Ml
open Go Go.Own Go.Own.R Go.Own.G Go.Own.Gr
section
variable {n K : Int} {os : List OpC} {ans : List AnC} {i : Nat} {y : OpC} {z : AnC} {g : GA}
end
end Go.Own.Ml

namespace Go.Own.Ml
open Go Go.Own Go.Own.R Go.Own.G Go.Own.Gr
section
variable {n K : Int} {os : List OpC} {full : List Int} {i : Nat} {y : OpC} {g : GA}
def gsP (n K : Int) (os : List OpC) (full : List Int) : List GA := gsG n (rfP full) 0 (g00 K) os
theorem mr_0 {G : GV} (hg : gab G = ([], nwR K)) : (gsP n K os full)[0]? = some (gab G) := by rw [hg]; rfl
theorem mr_gs0 {G : GV} (hg : gab G = ([], nwR K)) : [G].map gab = (gsP n K os full).take (0 + 1) := by
 show [gab G] = _
 rw [hg]; rfl
theorem mr_gs {Gs : List GV} {Gn : GV} {M : List GA} (h : Gs.map gab = M.take (i + 1)) (hn : M[i + 1]? = some (gab Gn)) : (Gs ++ [Gn]).map gab = M.take (i + 1 + 1) := by
 rw [List.map_append, h, List.take_add_one (i := i + 1), hn]; rfl
theorem mr_at (hK : 1 ≤ K ∧ K ≤ 8) (hol : os.length ≤ 200) (hy : os[i]? = some y) (hg : (gsP n K os full)[i]? = some g) :
  VG K i g ∧ (rfP full i = true → ¬ (y.kd ≠ 1 ∨ (doG n g y).2.e ≠ 0) → (moP n K os full)[i]? = some (g, ⟨5, false, 0⟩) ∧ (gsP n K os full)[i + 1]? = some g) ∧
   (rfP full i = true → (y.kd ≠ 1 ∨ (doG n g y).2.e ≠ 0) → (moP n K os full)[i]? = some (doG n g y) ∧ (doG n g y).2.e ≠ 5) ∧
   (¬ rfP full i = true → (moP n K os full)[i]? = some (doG n g y) ∧ (gsP n K os full)[i + 1]? = some (doG n g y).1) := by
 obtain ⟨a, ha, hm⟩ := mom_at (mx := n) (rf := rfP full) os 0 (g00 K) i y hy
 have e : (gsP n K os full)[i]? = some a := ha
 rw [hg] at e; cases e
 rw [Nat.zero_add] at hm
 have hv := mom_VG (mx := n) (rf := rfP full) os 0 (g00 K) i (VG.zero hK) g ha
 rw [Nat.zero_add] at hv
 have hi := (List.getElem?_eq_some_iff.1 hy).1
 have hnx : (gsP n K os full)[i + 1]? = some (stp n (rfP full i) g y).1 := by
  unfold gsP gsG; rw [List.getElem?_cons_succ, List.getElem?_map, hm]; rfl
 refine ⟨hv, fun hr q => ?_, fun hr q => ?_, fun hr => ?_⟩
 ·have hs : stp n (rfP full i) g y = (g, ⟨5, false, 0⟩) := stp_1 ⟨hr, by omega, by omega⟩
  rw [hs] at hm hnx
  exact ⟨hm, hnx⟩
 ·have hs : stp n (rfP full i) g y = doG n g y := stp_0 fun r => by have := r.2.1; have := r.2.2; omega
  rw [hs] at hm
  exact ⟨hm, by have := hv.err (mx := n) (c := y) (by omega); omega⟩
 ·have hs : stp n (rfP full i) g y = doG n g y := stp_0 fun r => hr r.1
  rw [hs] at hm hnx
  exact ⟨hm, hnx⟩
theorem mr_an {M : List (GA × AnC)} {m : GA × AnC} (hm : M[i]? = some m) : (M.take (i + 1)).map (·.2) = (M.take i).map (·.2) ++ [m.2] := tk_snoc hm
theorem mr_end {cf : Int} {Gs : List GV} (hs : scE cf os = (0, 0)) (hf : fcF (-1) full os.length = true) (hz : fbd (rfP full) 0 (moP n K os full) = fbd (rfP full) i ((moP n K os full).drop i)) (hi : os.length ≤ i) (hg : Gs.map gab = (gsP n K os full).take (i + 1)) :
  plF cf n K os full = (0, 0) ∧ Gs.map gab = plG cf n K os full ∧ plA cf n K os full = ((moP n K os full).take i).map (·.2) := by
 have hM : (moP n K os full).length = os.length := by unfold moP; exact mom_len os 0 _
 have h0 : plF cf n K os full = (0, 0) := by rw [pl_fb hs hf]; exact fbd_end hz (by omega)
 have hk := pl_k (cf := cf) (n := n) (K := K) (l := os) (full := full) (by rw [h0])
 refine ⟨h0, ?_, ?_⟩
 ·rw [hg, plG_gs h0, List.take_of_length_le]; rfl
  unfold gsP gsG; rw [List.length_cons, List.length_map, mom_len]; omega
 ·rw [hk.2, List.take_of_length_le (by omega)]
theorem gDs {l : List Int} {k : Nat} (h : (k : Int) < (l.length : Int)) : l[k]? = some (l.getD k 0) := by
 rw [List.getD_eq_getElem?_getD, List.getElem?_eq_getElem (by omega)]; rfl
def atE (cf n K : Int) (l : List OpC) (full : List Int) (a : Int) : Int := if (plF cf n K l full).2 ≠ 0 then (plF cf n K l full).2 else if a < 0 ∨ (l.length : Int) < a then 7 else 0
def atG (cf n K : Int) (l : List OpC) (full : List Int) (a : Int) : GA := if atE cf n K l full a ≠ 0 then dG else (plG cf n K l full).getD a.toNat dG
section
variable {cf a : Int} {l : List OpC}
theorem at_e (h : (plF cf n K l full).2 ≠ 0) : atE cf n K l full a = (plF cf n K l full).2 ∧ atG cf n K l full a = dG := by
 have e : atE cf n K l full a = (plF cf n K l full).2 := if_pos h
 refine ⟨e, ?_⟩
 unfold atG; rw [e, if_pos h]
theorem at_7 (h : plF cf n K l full = (0, 0)) (h2 : a < 0 ∨ (l.length : Int) < a) : atE cf n K l full a = 7 ∧ atG cf n K l full a = dG := by
 have e : atE cf n K l full a = 7 := by unfold atE; rw [h, if_neg (by decide), if_pos h2]
 refine ⟨e, ?_⟩
 unfold atG; rw [e, if_pos (by decide)]
theorem at_k {Gs : List GV} {G : GV} (h : plF cf n K l full = (0, 0)) (h2 : ¬ (a < 0 ∨ (l.length : Int) < a)) (hg : Gs.map gab = plG cf n K l full) (hy : Gs[a.toNat]? = some G) : atE cf n K l full a = 0 ∧ gab G = atG cf n K l full a := by
 have e : atE cf n K l full a = 0 := by unfold atE; rw [h, if_neg (by decide), if_neg h2]
 refine ⟨e, ?_⟩
 unfold atG; rw [e, if_neg (by decide), mG hg hy]
end
theorem smD_s {L : List Ob} {m k : Nat} {y : Ob} (hm : m ≤ k) (hy : L[k]? = some y) : smB (L.drop m) (k + 1 - m) = smB (L.drop m) (k - m) + (1 + (y.1.2.length : Int) + (y.2.2.length : Int)) := by
 rw [show k + 1 - m = k - m + 1 by omega]
 refine smB_s ?_
 rw [List.getElem?_drop, show m + (k - m) = k by omega]; exact hy
end
end Go.Own.Ml

namespace Go.Proofs.YtpgkfndbfocibaaGreat
open Go.RowKit Go.Own Go.Own.R Go.Own.G Go.Own.Gr Go.Own.Ml


set_option maxHeartbeats 4000000 in
theorem qmo_c {C N Z K Q : Int} {lv : Value} {os : List OpC} {fv : Value} {full : List Int} {w : World} (h_lv : Ro w NoX (rl 7 opC lv os)) (h_fv : Ro w NoX (il .i64 fv full)) (hsz : scE (cfE C N Z K Q) os = (0, 0)) (hfull : fcF (-1) full os.length = true) :
  Calls Tryz.prog 53 #[.agg #[.int .i64 C, .int .i64 N, .int .i64 Z, .int .i64 K, .int .i64 Q], lv, fv] w fun e w' => (e = .returned (.tuple #[.slice none 0 0, .slice none 0 0, .int .i64 (plF (cfE C N Z K Q) (lgN C N Z K Q) K os full).1, .int .i64 (plF (cfE C N Z K Q) (lgN C N Z K Q) K os full).2]) ∧ ((plF (cfE C N Z K Q) (lgN C N Z K Q) K os full).2 ≠ 0) ∧ St w NoX [] w') ∨ (∃ gv Gs av, e = .returned (.tuple #[gv, av, .int .i64 0, .int .i64 0]) ∧ ((plF (cfE C N Z K Q) (lgN C N Z K Q) K os full) = (0, 0)) ∧ (Gs.map gab = (plG (cfE C N Z K Q) (lgN C N Z K Q) K os full)) ∧ St w NoX [ro 2 grC gv Gs, gls Gs, ro 3 anC av (plA (cfE C N Z K Q) (lgN C N Z K Q) K os full)] w') := by
 obtain ⟨hcf, hl2, hops, _⟩ := sc_inv (cf := (cfE C N Z K Q)) (l := os) (by rw [hsz])
 have hK := (cf_rng hcf).2.2.2.1
 have hasc := (fc_asc full (-1) os.length hfull).2
 have hfl := fc_len hfull
 refine ci3 82 Tryz.func53 V (fun A0 _ F0 => ?_)
 have hS := St.nil w
 have bh_lv := SlN.le (sl_SlN h_lv.at)
 have bh_fv := SlN.le (sl_SlN h_fv.at)
 refine tb fun _ H1 => (wB (#[.int .i64 (C), .int .i64 (N), .int .i64 (Z), .int .i64 (K), .int .i64 (Q)]) hS (fg0 F0) (fun g2 w2 c2 hc2 S2 => vc (vc (vc (vc (W_end (en (Qd (Ka F0)) fun A3 _ F3 => ta H1 fun _ H4 => (fa 3 (fg0 F3) (rL (.int .i64 (K)) t0 (S2.ob 0 hc2) (wc (args1 t0) ((glC (F := fun a_ b_ => .tuple #[.agg #[a_, b_], .int .i64 (nwE K)]) (qNw_c (n := K)))) (fun _ w5 ⟨hv_5, H_5, qv_5, q_5, e, hg_5, hP5⟩ => ⟨_, e, ?_⟩)))))))))))
 obtain ⟨cK_5, hcK_5, hP5⟩ := gen1 hP5
 have S5 := S2.j1 hP5
 refine vm t0 (vx (.agg #[hv_5, qv_5]) t0 (vx (.int .i64 (nwE K)) (Sa t0) (wA (#[.slice none 0 0, .slice none 0 0]) S5 (fun g6 w6 c6 hc6 S6 => xsB0 S6 hc6 V V V t0 (Sb t0) (by simp only [List.all_toArray, List.all_cons, List.all_nil, obC, grC, SlN_one (sl_SlN (gl_oa m1 (S6.cq 1 hcK_5))), SlN_one (sl_SlN (gl_ra m1 (S6.cq 1 hcK_5)))] <;> rfl) (fun w7 c7 hc7 S7 => va (Sa t0) (W_end (en (Qa (Ka (Qf F3))) fun A8 _ F8 => ta H4 fun _ H9 => (ra (fg0 F8) (S7.ob 0 hc7) ?_))))))))
 have hll10 : [((hv_5, H_5), (qv_5, q_5))].length = 1 := rfl
 refine xsL (vs := [.agg #[hv_5, qv_5]]) (xs := ([((hv_5, H_5), (qv_5, q_5))].flatMap grC)) 2 S7 V V V (parts1 t0) Tryz.underlying64 (fun g10 w10 c10 hc10 S10 => ?_)
 replace hc10 : c10 = ro 2 grC (.slice (some ⟨g10, 0, none⟩) 1 1) [((hv_5, H_5), (qv_5, q_5))] := hc10
 replace S10 : St w NoX [c10, c7, cK_5, c2] w10 := S10
 refine vt (W_end (en (Ka (Qb F8)) fun A11 _ F11 => ta H9 fun _ H12 => (vc (W_end (en (Ka F11) fun A13 _ F13 => ta H12 fun _ H14 => (vc (W_end (en (Ka F13) fun A15 _ F15 => tc H14 fun _ H16 => tb fun _ H17 => (vc (W_end (en (Ka F15) fun A18 Y18 F18 => tk H17 (wp_block ?_))))))))))))
 obtain ⟨c19, hc19, S19⟩ := S10.pnil (s := 3)
 -- loop 6
 refine loopX (fun mz A' w' => SzN A' 82 ∧ A'.defers = [] ∧ (∃ (i : Nat) (j : Nat) (Gc : GV) (Gs : List GV) (gv : Value) (av : Value), (mz = os.length - i) ∧ (i ≤ os.length) ∧ (KP full i j) ∧ (Gs.map gab = (gsP (lgN C N Z K Q) K os full).take (i + 1)) ∧ (Gc ∈ Gs) ∧ ((gsP (lgN C N Z K Q) K os full)[i]? = some (gab Gc)) ∧ (fbd (rfP full) 0 (moP (lgN C N Z K Q) K os full) = fbd (rfP full) i ((moP (lgN C N Z K Q) K os full).drop i)) ∧ (EV A' (.tmp 15) = .int .i64 (i : Int)) ∧ (EV A' (.tmp 14) = .int .i64 (j : Int)) ∧ (EV A' (.tmp 12) = gv) ∧ (EV A' (.tmp 13) = av) ∧ (EV A' (.tmp 1) = EV A18 (.tmp 1)) ∧ (EV A' (.tmp 2) = EV A18 (.tmp 2)) ∧ (EV A' (.tmp 3) = EV A18 (.tmp 3)) ∧ (EV A' (.tmp 10) = EV A18 (.tmp 10)) ∧ (St w NoX [ro 3 anC av (((moP (lgN C N Z K Q) K os full).take i).map (·.2)), ro 2 grC gv Gs, bx g6 30 #[Gc.1.1, Gc.2.1], gls Gs, bx g2 23 #[.int .i64 (C), .int .i64 (N), .int .i64 (Z), .int .i64 (K), .int .i64 (Q)]] w'))) (os.length - 0) ⟨Y18, F18.d, 0, 0, ((hv_5, H_5), (qv_5, q_5)), [((hv_5, H_5), (qv_5, q_5))], (.slice (some ⟨g10, 0, none⟩) 1 1), (.slice none 0 0), rfl, Zb, (KP.init hfull), (mr_gs0 hg_5), m1, (mr_0 hg_5), rfl, ((fg0 F18).trans Za), ((fg1 F18).trans Za), ((fg3 F18).trans Za), ((fg2 F18).trans Za), rfl, rfl, rfl, rfl, (by have q0 : c19 = ro 3 anC (.slice none 0 0) (((moP (lgN C N Z K Q) K os full).take 0).map (·.2)) := hc19.trans (rfl); have q1 := hc10; have q2 := hc7; have q3 := hcK_5; have q4 := hc2; subst q0 q1 q2 q3 q4; exact S19)⟩ ?_
 clear S19 hc19 hc10 hc7 hcK_5 hc2
 rintro n20 A20 w20 ⟨Y20, hdf20, i, j, Gc, Gs, gv, av, hm20, hi, hkp, hgs, hgm, hgc, hz, l15_20, l14_20, l12_20, l13_20, u1_20, u2_20, u3_20, u10_20, S20⟩
 have l1_20 := u1_20.trans (fg7 F18)
 have l2_20 := u2_20.trans (fg8 F18)
 have l3_20 := u3_20.trans (fg5 F18)
 have l10_20 := u10_20.trans (fg4 F18)
 obtain ⟨c19_20, c10_20, c7_20, cK_20, c2_20, hc19_20, hc10_20, hc7_20, hcK_20, hc2_20, S20⟩ := gen5 S20
 refine td fun _ H21 => tb fun _ H22 => (vm l15_20 (vm (Sa l1_20) (le_ t0 (sl_SlN h_lv.at) (vl (Sb t0) t0 (W_end (en ((((((((((ck (cq3 (FS.n hdf20) V) V V)).c (es4 V l1_20)).c (es4 V l2_20)).c (es4 V l3_20)).c (es4 V l10_20)).c (es4 V l12_20)).c (es4 V l13_20)).c (es4 V l14_20)).c (Sd l15_20)) fun A23 _ F23 => tk H22 (cd (fg8 F23) (fun c24 => ?_) fun c24 => ?_)))))))
 ·refine wp_skip (tc H21 fun _ H25 => wp_block (td fun _ H26 => ?_))
  have k27 : i < os.length := om
  obtain ⟨y27, hy27⟩ := get_some (xs := os) (k := i) k27
  have hmr := mr_at (n := (lgN C N Z K Q)) (full := full) hK hl2 hy27 hgc
  have hop : opE (⟨y27.kd, y27.a, y27.b, y27.f, y27.p, y27.q, y27.u⟩ : OpC) = 0 := hops y27 (List.mem_of_getElem? hy27)
  have hsm : SM (Gc.1.2.map ab) := hmr.1.sm
  have hr8 : Gc.2.2.length ≤ 1048576 := by have q := hmr.1.gg.r8; simp only [gab] at q; omega
  have ho4 : Gc.1.2.length ≤ 1048576 := by have q := hmr.1.gg.o4; simp only [gab, List.length_map] at q; omega
  have hgl : Gs.length ≤ i + 1 := by have q := congrArg List.length hgs; rw [List.length_map, List.length_take] at q; omega
  refine region_monoS 12 13 [none, none, none, none, none, none, some (SPv [] (fun _ => fun u l' => ∃ ho1_s Ho1_s qo1_s so1_s, u = .tuple #[.agg #[ho1_s, qo1_s], .agg #[.int .i64 (doG (lgN C N Z K Q) (gab Gc) (⟨y27.kd, y27.a, y27.b, y27.f, y27.p, y27.q, y27.u⟩ : OpC)).2.e, .bool (doG (lgN C N Z K Q) (gab Gc) (⟨y27.kd, y27.a, y27.b, y27.f, y27.p, y27.q, y27.u⟩ : OpC)).2.t, .int .u64 (doG (lgN C N Z K Q) (gab Gc) (⟨y27.kd, y27.a, y27.b, y27.f, y27.p, y27.q, y27.u⟩ : OpC)).2.v]] ∧ (gab ((ho1_s, Ho1_s), (qo1_s, so1_s)) = (doG (lgN C N Z K Q) (gab Gc) (⟨y27.kd, y27.a, y27.b, y27.f, y27.p, y27.q, y27.u⟩ : OpC)).1) ∧ ∃ cK_s, cK_s = gls [((ho1_s, Ho1_s), (qo1_s, so1_s))] ∧ l' = [cK_s]) 6), none, none, none, some (SPv [] (fun _ => fun u l' => ∃ g_, u = .pointer (some ⟨g_, 0, none⟩) ∧ ∃ c_, c_ = bx g_ 30 #[.slice none 0 0, .slice none 0 0] ∧ l' = [c_]) 10), some (SPv [] (fun _ => fun u l' => ∃ g_, u = .pointer (some ⟨g_, 0, none⟩) ∧ ∃ c_, c_ = bx g_ 54 #[.int .i64 0, .bool false, .int .u64 0] ∧ l' = [c_]) 11)] kr kr (dr (fun _ hx _ => (ura (fg5 F23) ((S20.grow hx).ob 4 hc2_20))) (dr (fun _ hx _ => (ura (Sa (fg4 F23)) ((S20.grow hx).ob 2 hc7_20))) (dm (Sb (fg7 F23)) (dm (Sc (fg0 F23)) ?_))))
  obtain ⟨B27, O27, C27, hv27⟩ := (SlN.blk (sl_SlN h_lv.at) om)
  refine dv (V_ixS (off := O27 + i * 7) 7 i V (Sa t0) t0 hv27 Zb k27 Tryz.underlying24 kr V) (dr (fun sx hx hF => (VR_ldR (ys := opC y27) V t0 (SlN.row opC_len (sl_SlN ((S20.grow hx).ro h_lv)) hv27 hy27 V) Tryz.underlying50 V kr)) (D_call (ts := []) (vs := []) (C0 := fun _ => fun u l' => ∃ ho1_s Ho1_s qo1_s so1_s, u = .tuple #[.agg #[ho1_s, qo1_s], .agg #[.int .i64 (doG (lgN C N Z K Q) (gab Gc) (⟨y27.kd, y27.a, y27.b, y27.f, y27.p, y27.q, y27.u⟩ : OpC)).2.e, .bool (doG (lgN C N Z K Q) (gab Gc) (⟨y27.kd, y27.a, y27.b, y27.f, y27.p, y27.q, y27.u⟩ : OpC)).2.t, .int .u64 (doG (lgN C N Z K Q) (gab Gc) (⟨y27.kd, y27.a, y27.b, y27.f, y27.p, y27.q, y27.u⟩ : OpC)).2.v]] ∧ (gab ((ho1_s, Ho1_s), (qo1_s, so1_s)) = (doG (lgN C N Z K Q) (gab Gc) (⟨y27.kd, y27.a, y27.b, y27.f, y27.p, y27.q, y27.u⟩ : OpC)).1) ∧ ∃ cK_s, cK_s = gls [((ho1_s, Ho1_s), (qo1_s, so1_s))] ∧ l' = [cK_s]) (C := fun u l' => ∃ ho1_s Ho1_s qo1_s so1_s, u = .tuple #[.agg #[ho1_s, qo1_s], .agg #[.int .i64 (doG (lgN C N Z K Q) (gab Gc) (⟨y27.kd, y27.a, y27.b, y27.f, y27.p, y27.q, y27.u⟩ : OpC)).2.e, .bool (doG (lgN C N Z K Q) (gab Gc) (⟨y27.kd, y27.a, y27.b, y27.f, y27.p, y27.q, y27.u⟩ : OpC)).2.t, .int .u64 (doG (lgN C N Z K Q) (gab Gc) (⟨y27.kd, y27.a, y27.b, y27.f, y27.p, y27.q, y27.u⟩ : OpC)).2.v]] ∧ (gab ((ho1_s, Ho1_s), (qo1_s, so1_s)) = (doG (lgN C N Z K Q) (gab Gc) (⟨y27.kd, y27.a, y27.b, y27.f, y27.p, y27.q, y27.u⟩ : OpC)).1) ∧ ∃ cK_s, cK_s = gls [((ho1_s, Ho1_s), (qo1_s, so1_s))] ∧ l' = [cK_s]) V V V Tryz.func42 kr V (args3 (Se t0) (Sd t0) t0) V V V V (fun sx hx hF => ?_) (fun u28 l28 hu28 => ?_)))
  ·refine (qdn_c (C := C) (N := N) (Z := Z) (K := K) (Q := Q) (G := Gc) (kd := y27.kd) (a := y27.a) (b := y27.b) (f := y27.f) (p := y27.p) (q := y27.q) (uu := y27.u) (gl_mk (gl_oaR hgm ((S20.grow hx).cC 3 hcK_20)) (gl_naR hgm ((S20.grow hx).cC 3 hcK_20)) (gl_raR hgm ((S20.grow hx).cC 3 hcK_20))) (by first | with_reducible assumption | exact hsm) Ze Zf Zf).mono ?_
   rintro _ _ ⟨ho1_28, Ho1_28, qo1_28, so1_28, rfl, hg_28, hz⟩
   exact ⟨_, rfl, _, ⟨_, _, _, _, rfl, hg_28, _, rfl, rfl⟩, hz⟩
  obtain ⟨ho1_28, Ho1_28, qo1_28, so1_28, rfl, hg_28, cK_28, hcK_28, hl28⟩ := hu28
  refine dm t0 (dx (.agg #[ho1_28, qo1_28]) t0 (dx (.agg #[.int .i64 ((doG (lgN C N Z K Q) (gab Gc) (⟨y27.kd, y27.a, y27.b, y27.f, y27.p, y27.q, y27.u⟩ : OpC)).2.e), .bool ((doG (lgN C N Z K Q) (gab Gc) (⟨y27.kd, y27.a, y27.b, y27.f, y27.p, y27.q, y27.u⟩ : OpC)).2.t), .int .u64 ((doG (lgN C N Z K Q) (gab Gc) (⟨y27.kd, y27.a, y27.b, y27.f, y27.p, y27.q, y27.u⟩ : OpC)).2.v)]) (Sa t0) (D_lay (ts := []) (vs := []) (C0 := fun _ => fun u l' => ∃ g_, u = .pointer (some ⟨g_, 0, none⟩) ∧ ∃ c_, c_ = bx g_ 30 #[.slice none 0 0, .slice none 0 0] ∧ l' = [c_]) (C := fun u l' => ∃ g_, u = .pointer (some ⟨g_, 0, none⟩) ∧ ∃ c_, c_ = bx g_ 30 #[.slice none 0 0, .slice none 0 0] ∧ l' = [c_]) V V V V V V (fun sx hx hF => lay_alloc (z := .agg #[.slice none 0 0, .slice none 0 0]) V kr Zi) (fun u29 l29 hu29 => ?_))))
  obtain ⟨g29, rfl, c29, hc29, hl29⟩ := hu29
  refine D_lay (ts := []) (vs := []) (C0 := fun _ => fun u l' => ∃ g_, u = .pointer (some ⟨g_, 0, none⟩) ∧ ∃ c_, c_ = bx g_ 54 #[.int .i64 0, .bool false, .int .u64 0] ∧ l' = [c_]) (C := fun u l' => ∃ g_, u = .pointer (some ⟨g_, 0, none⟩) ∧ ∃ c_, c_ = bx g_ 54 #[.int .i64 0, .bool false, .int .u64 0] ∧ l' = [c_]) V V V V V V (fun sx hx hF => lay_alloc (z := .agg #[.int .i64 0, .bool false, .int .u64 0]) V kr Zi) (fun u30 l30 hu30 => ?_)
  obtain ⟨g30, rfl, c30, hc30, hl30⟩ := hu30
  refine D_eff V (ZS_eff S20 V V (fun s31 hJ31 hL31 hF31 => ?_))
  obtain ⟨ll28, ws28, we28, ⟨ho1_28q, Ho1_28q, qo1_28q, so1_28q, hq28, hg_28r, cK_28r, hcK_28r, hl28r⟩, hm28, k28, e28⟩ := L.all_get (L.all_rest (L.all_rest hF31)); cases hq28; subst hl28r
  replace hJ31 := hJ31.add hL31 (i := 6) V hm28 k28 e28
  obtain ⟨ll29, ws29, we29, ⟨g29q, hq29, c29r, hc29r, hl29r⟩, hm29, k29, e29⟩ := L.all_get (L.all_rest hF31); cases hq29; subst hl29r
  replace hJ31 := hJ31.add hL31 (i := 10) V hm29 k29 e29
  obtain ⟨ll30, ws30, we30, ⟨g30q, hq30, c30r, hc30r, hl30r⟩, hm30, k30, e30⟩ := L.all_get hF31; cases hq30; subst hl30r
  replace hJ31 := hJ31.add hL31 (i := 11) V hm30 k30 e30
  have S31 := hJ31.st; clear hF31 hJ31 hL31
  generalize s31.1 = w31 at *
  replace S31 : St w NoX [c30r, c29r, cK_28r, c19_20, c10_20, c7_20, cK_20, c2_20] w31 := S31
  refine xsB1 S31 hc29r V V V (Sa t0) (Sc t0) (by simp only [List.all_toArray, List.all_cons, List.all_nil, obC, grC, SlN_one (sl_SlN (gl_oa m1 (S31.cq 2 hcK_28r))), SlN_one (sl_SlN (gl_ra m1 (S31.cq 2 hcK_28r)))] <;> rfl) (fun w32 c32 hc32 S32 => xsA0 S32 hc30r V V V t0 (Sb t0) (fun w33 c33 hc33 S33 => W_end (Qo_normal (en (Kb (Qb (Qh F23))) fun A34 _ F34 => tc H26 fun _ H35 => td fun _ H36 => wp_mid (G := fun A' w' => SzN A' 82 ∧ A'.defers = [] ∧ (EV A' (.tmp 1) = EV A34 (.tmp 1)) ∧ (EV A' (.tmp 2) = EV A34 (.tmp 2)) ∧ (EV A' (.tmp 3) = EV A34 (.tmp 3)) ∧ (EV A' (.tmp 10) = EV A34 (.tmp 10)) ∧ (EV A' (.tmp 12) = EV A34 (.tmp 12)) ∧ (EV A' (.tmp 13) = EV A34 (.tmp 13)) ∧ (EV A' (.tmp 14) = EV A34 (.tmp 14)) ∧ (EV A' (.tmp 15) = EV A34 (.tmp 15)) ∧ (EV A' (.tmp 16) = EV A34 (.tmp 16)) ∧ (EV A' (.tmp 17) = EV A34 (.tmp 17)) ∧ (EV A' (.tmp 53) = .bool (decide (((j : Int) < (full.length : Int)) ∧ (full.getD j 0 = (i : Int))))) ∧ St w NoX [c33, c32, cK_28r, c19_20, c10_20, c7_20, cK_20, c2_20] w') ?_ ?_))))
  ·have j1_37 := (fg9 F34)
   have j2_37 := (fg8 F34)
   have j3_37 := (fg7 F34)
   have j10_37 := (fg6 F34)
   have j12_37 := (fg5 F34)
   have j13_37 := (fg4 F34)
   have j14_37 := (fg3 F34)
   have j15_37 := (fg2 F34)
   have j16_37 := (fg1 F34)
   have j17_37 := (fg0 F34)
   refine region_in (vm (fg3 F34) (vm (Sa (fg8 F34)) (le_ t0 (sl_SlN h_fv.at) (vl (Sb t0) t0 (W_split V V (V_mov V t0) (fun c38 => ?_) (fun c38 => ?_))))))
   ·refine wg V t0 (uvm (Se (fg8 F34))) (wg V (Sa t0) (uvm (Sf (fg3 F34))) ?_)
    have k39 : j < full.length := om
    obtain ⟨y39, hy39⟩ := get_some (xs := full) (k := j) k39
    have gy39 := gD0 hy39
    obtain ⟨B39, O39, C39, hv39⟩ := (SlN.blk (sl_SlN h_fv.at) om)
    refine wg V (Sb t0) (V_ixS (off := O39 + j) 1 j V (Sa t0) t0 hv39 Zb k39 Tryz.underlying25 kr (congrArg _ (Nat.mul_one _))) (wq V (Sc t0) (urc t0 ((sl_SlN (S33.ro h_fv)).cell hv39 (map_get hy39))) (wg V (Sd t0) (uvm (Sh (Sa (fg2 F34)))) (wg V (Se t0) (uve (Sa t0) t0) (vT (Sf t0) t0 (W_end (en (Kg (Qe F34)) fun A40 Y40 F40 => ?_))))))
    exact Mid_n ⟨Y40, F40.d, ((fg16 F40).trans j1_37.symm), ((fg15 F40).trans j2_37.symm), ((fg14 F40).trans j3_37.symm), ((fg13 F40).trans j10_37.symm), ((fg12 F40).trans j12_37.symm), ((fg11 F40).trans j13_37.symm), ((fg10 F40).trans j14_37.symm), ((fg9 F40).trans j15_37.symm), ((fg8 F40).trans j16_37.symm), ((fg7 F40).trans j17_37.symm), ((fg0 F40).trans (congrArg Value.bool (decide_eq_decide.2 ⟨fun q => ⟨c38, gy39.trans q⟩, fun q => gy39.symm.trans q.2⟩))), S33⟩
   refine xo V t0 (xo V (Sa t0) (xo V (Sb t0) (xo V (Sc t0) (xo V (Sd t0) (xo V (Se t0) (vF (Sf t0) V (W_end (en (Kg (Qe F34)) fun A41 Y41 F41 => ?_))))))))
   exact Mid_n ⟨Y41, F41.d, ((fg16 F41).trans j1_37.symm), ((fg15 F41).trans j2_37.symm), ((fg14 F41).trans j3_37.symm), ((fg13 F41).trans j10_37.symm), ((fg12 F41).trans j12_37.symm), ((fg11 F41).trans j13_37.symm), ((fg10 F41).trans j14_37.symm), ((fg9 F41).trans j15_37.symm), ((fg8 F41).trans j16_37.symm), ((fg7 F41).trans j17_37.symm), ((fg0 F41).trans (congrArg Value.bool ((decide_eq_false (fun q => c38 q.1)).symm))), S33⟩
  rintro A37 w37 ⟨Y37, hdf37, u1_37, u2_37, u3_37, u10_37, u12_37, u13_37, u14_37, u15_37, u16_37, u17_37, l53_37, S37⟩
  have l1_37 := u1_37.trans (fg9 F34)
  have l2_37 := u2_37.trans (fg8 F34)
  have l3_37 := u3_37.trans (fg7 F34)
  have l10_37 := u10_37.trans (fg6 F34)
  have l12_37 := u12_37.trans (fg5 F34)
  have l13_37 := u13_37.trans (fg4 F34)
  have l14_37 := u14_37.trans (fg3 F34)
  have l15_37 := u15_37.trans (fg2 F34)
  have l16_37 := u16_37.trans (fg1 F34)
  have l17_37 := u17_37.trans (fg0 F34)
  refine tk H36 (cd l53_37 (fun c42 => ?_) fun c42 => ?_)
  ·have hrf := KP.in (full := full) (i := i) (j := j) ⟨by omega, c42.2⟩
   refine td fun _ H43 => td fun _ H44 => wp_mid (G := fun A' w' => SzN A' 82 ∧ A'.defers = [] ∧ (EV A' (.tmp 1) = EV A37 (.tmp 1)) ∧ (EV A' (.tmp 2) = EV A37 (.tmp 2)) ∧ (EV A' (.tmp 3) = EV A37 (.tmp 3)) ∧ (EV A' (.tmp 10) = EV A37 (.tmp 10)) ∧ (EV A' (.tmp 12) = EV A37 (.tmp 12)) ∧ (EV A' (.tmp 13) = EV A37 (.tmp 13)) ∧ (EV A' (.tmp 14) = EV A37 (.tmp 14)) ∧ (EV A' (.tmp 15) = EV A37 (.tmp 15)) ∧ (EV A' (.tmp 16) = EV A37 (.tmp 16)) ∧ (EV A' (.tmp 17) = EV A37 (.tmp 17)) ∧ (EV A' (.tmp 64) = .bool (decide ((y27.kd ≠ 1) ∨ ((doG (lgN C N Z K Q) (gab Gc) (⟨y27.kd, y27.a, y27.b, y27.f, y27.p, y27.q, y27.u⟩ : OpC)).2.e ≠ 0)))) ∧ St w NoX [c33, c32, cK_28r, c19_20, c10_20, c7_20, cK_20, c2_20] w') ?_ ?_
   ·have j1_45 := l1_37
    have j2_45 := l2_37
    have j3_45 := l3_37
    have j10_45 := l10_37
    have j12_45 := l12_37
    have j13_45 := l13_37
    have j14_45 := l14_37
    have j15_45 := l15_37
    have j16_45 := l16_37
    have j17_45 := l17_37
    refine region_in (vm l1_37 (vm (Sa l15_37) (wv (V_ixS (off := O27 + i * 7) 7 i V (Sa t0) t0 hv27 Zb k27 Tryz.underlying24 kr V) (wv (V_fa (off' := O27 + i * 7 + 0) V t0 Tryz.underlying50 V Zj V) (rd (.int .i64 (y27.kd)) t0 (SlN.row opC_len (sl_SlN (S37.ro h_lv)) hv27 hy27 V 0 _ V) (vn t0 V (W_split V V (V_mov V t0) (fun c47 => ?_) (fun c47 => ?_))))))))
    ·refine xo V t0 (xo V (Sa t0) (xo V (Sb t0) (vT (Sc t0) V (W_end (en ((((((((((((ck (ck (ck (ck (cq7 (FS.n hdf37) V) V V) V V) V V) V V)).c ((es8 V (es3 V l1_37)))).c ((es8 V (es3 V l2_37)))).c ((es8 V (es3 V l3_37)))).c ((es8 V (es3 V l10_37)))).c ((es8 V (es3 V l12_37)))).c ((es8 V (es3 V l13_37)))).c ((es8 V (es3 V l14_37)))).c ((es8 V (es3 V l15_37)))).c ((es8 V (es3 V l16_37)))).c ((Sh (Sc l17_37)))) fun A48 Y48 F48 => ?_)))))
     exact Mid_n ⟨Y48, F48.d, ((fg9 F48).trans j1_45.symm), ((fg8 F48).trans j2_45.symm), ((fg7 F48).trans j3_45.symm), ((fg6 F48).trans j10_45.symm), ((fg5 F48).trans j12_45.symm), ((fg4 F48).trans j13_45.symm), ((fg3 F48).trans j14_45.symm), ((fg2 F48).trans j15_45.symm), ((fg1 F48).trans j16_45.symm), ((fg0 F48).trans j17_45.symm), ((fg10 F48).trans (congrArg Value.bool ((decide_eq_true (.inl c47)).symm))), S37⟩
    refine wg V t0 (ufa 0 (Sg l17_37)) (wq V (Sa t0) (urL (.int .i64 ((doG (lgN C N Z K Q) (gab Gc) (⟨y27.kd, y27.a, y27.b, y27.f, y27.p, y27.q, y27.u⟩ : OpC)).2.e)) t0 (S37.ob 0 hc33)) (wg V (Sb t0) (uvn t0 V) (vF (Sc t0) t0 (W_end (en ((((((((((((ck (ck (ck (ck (cq7 (FS.n hdf37) V) V V) V V) V V) V V)).c ((es8 V (es3 V l1_37)))).c ((es8 V (es3 V l2_37)))).c ((es8 V (es3 V l3_37)))).c ((es8 V (es3 V l10_37)))).c ((es8 V (es3 V l12_37)))).c ((es8 V (es3 V l13_37)))).c ((es8 V (es3 V l14_37)))).c ((es8 V (es3 V l15_37)))).c ((es8 V (es3 V l16_37)))).c ((Sh (Sc l17_37)))) fun A49 Y49 F49 => ?_)))))
    exact Mid_n ⟨Y49, F49.d, ((fg9 F49).trans j1_45.symm), ((fg8 F49).trans j2_45.symm), ((fg7 F49).trans j3_45.symm), ((fg6 F49).trans j10_45.symm), ((fg5 F49).trans j12_45.symm), ((fg4 F49).trans j13_45.symm), ((fg3 F49).trans j14_45.symm), ((fg2 F49).trans j15_45.symm), ((fg1 F49).trans j16_45.symm), ((fg0 F49).trans j17_45.symm), ((fg10 F49).trans (congrArg Value.bool (decide_eq_decide.2 ⟨fun q => (.inr q), fun q => (q.resolve_left c47)⟩))), S37⟩
   rintro A45 w45 ⟨Y45, hdf45, u1_45, u2_45, u3_45, u10_45, u12_45, u13_45, u14_45, u15_45, u16_45, u17_45, l64_45, S45⟩
   have l1_45 := u1_45.trans l1_37
   have l2_45 := u2_45.trans l2_37
   have l3_45 := u3_45.trans l3_37
   have l10_45 := u10_45.trans l10_37
   have l12_45 := u12_45.trans l12_37
   have l13_45 := u13_45.trans l13_37
   have l14_45 := u14_45.trans l14_37
   have l15_45 := u15_45.trans l15_37
   have l16_45 := u16_45.trans l16_37
   have l17_45 := u17_45.trans l17_37
   refine tk H44 (cd l64_45 (fun c50 => ?_) fun c50 => ?_)
   ·refine tb fun _ H51 => (vm l15_45 (vc (vc (va (Sb t0) (vc (W_end (en (Kd (Qa (FS.n hdf45))) fun A52 _ F52 => tk H51 (wp_ret (then_ret (then_ret (inb_ret (then_ret (then_ret (inb_ret (then_ret (rt4 F52 (rv_tmp (fg3 F52)) (rv_tmp (fg2 F52)) (rv_tmp (fg1 F52)) (rv_tmp (fg0 F52)) ?_))))))))))))))))
    have h : (plF (cfE C N Z K Q) (lgN C N Z K Q) K os full) = ((i : Int), 2) := (pl_fb hsz hfull).trans (fbd_bad hz (hmr.2.2.1 hrf c50).1 ⟨hrf, (hmr.2.2.1 hrf c50).2⟩)
    rw [h]
    exact .inl ⟨rfl, (show (2 : Int) ≠ 0 by decide), S45.fin0⟩
   refine wp_skip (ta H43 fun _ H54 => (vm l14_45 (ad t0 V (vt (W_end (en (((((((((((ck (cq2 (FS.n hdf45) V) V V)).c (es3 V l1_45)).c (es3 V l2_45)).c (es3 V l3_45)).c (es3 V l10_45)).c (es3 V l12_45)).c (es3 V l13_45)).c (es3 V l15_45)).c (es3 V l16_45)).c (Sc l17_45)) fun A55 _ F55 => tk H54 (region_in (ra (fg5 F55) (S45.ob 5 hc7_20) (wc (args1 t0) ((glC (F := fun a_ b_ => .agg #[a_, b_]) (qCn_c (gl_oaR hgm (S45.cC 6 hcK_20)) (gl_naR hgm (S45.cC 6 hcK_20)) (gl_raR hgm (S45.cC 6 hcK_20)) Ze (by first | omega | (have q := hG.r8; omega)) (by first | omega | (have q := hG.o4; rw [List.length_map] at q; omega))))) (fun _ w56 ⟨hv_56, H_56, qv_56, q_56, e, hg_56, hP56⟩ => ⟨_, e, ?_⟩))))))))))
   obtain ⟨cK_56, hcK_56, hP56⟩ := gen1 hP56
   have S56 := S45.j1 hP56
   refine wv (xbS (n := 3) (z := .agg #[.int .i64 0, .bool false, .int .u64 0]) V (parts1 V)) (xsB2 S56 hc32 V V V (Sc (fg1 F55)) (Sa t0) (by simp only [List.all_toArray, List.all_cons, List.all_nil, obC, grC, SlN_one (sl_SlN (gl_oa m1 (S56.cq 0 hcK_56))), SlN_one (sl_SlN (gl_ra m1 (S56.cq 0 hcK_56)))] <;> rfl) (fun w57 c57 hc57 S57 => xsA1 S57 hc33 V V V (Sc (fg0 F55)) t0 (fun w58 c58 hc58 S58 => W_end (en (Qc F55) fun A59 _ F59 => ta H35 fun _ H60 => (ra (fg1 F59) (S58.ob 2 hc57) (xsB6 S58 hc7_20 V V V (Sa (fg5 F59)) t0 (by simp only [List.all_toArray, List.all_cons, List.all_nil, obC, grC, SlN_one (sl_SlN (gl_oa m1 (S58.cq 0 hcK_56))), SlN_one (sl_SlN (gl_ra m1 (S58.cq 0 hcK_56)))] <;> rfl) (fun w61 c61 hc61 S61 => W_end ?_)))))))
   have S62 := S61.se [0, 1, 2, 4, 5, 6, 7, 8] [cK_56, c58, c57, c19_20, c10_20, c61, cK_20, c2_20]
   have S63 := S62.se [6, 0, 1, 2, 3, 4, 5, 7] [cK_20, cK_56, c58, c57, c19_20, c10_20, c61, c2_20]
   rw [hcK_20, hcK_56] at S63
   obtain ⟨c64, hc64, S64⟩ := gen1 (gl_app (L := Gs) (M := [((hv_56, H_56), (qv_56, q_56))]) S63)
   replace S64 : St w NoX [c64, c58, c57, c19_20, c10_20, c61, c2_20] w61 := S64
   refine en (Qa F59) fun A65 Y65 F65 => ?_
   have S66 := S64.se [0, 1, 3, 4, 5, 6] [c64, c58, c19_20, c10_20, c61, c2_20]
   refine tk H60 ?_
   have hll67 : [((hv_56, H_56), (qv_56, q_56))].length = 1 := rfl
   have hll69 : [(AnC.mk 5 false 0)].length = 1 := rfl
   refine region_anyQ kr 10 V (fun w187 hx187 => ?_)
   have S187 := S66.grow hx187
   refine AX_parL (l0 := [c64, c58, c19_20, c10_20, c61, c2_20]) (k := 2) [⟨[], [], [72], fun vs => [], fun vs => (vs.getD 0 undef) = gv⟩, ⟨[4], [], [73], fun vs => [], fun vs => (vs.getD 0 undef) = .agg #[hv_56, qv_56]⟩, ⟨[], [6], [74], fun vs => [ro 2 grC (vs.getD 0 undef) [((hv_56, H_56), (qv_56, q_56))]], fun vs => True⟩, ⟨[6, 0], [3], [75], fun vs => [ro 2 grC (vs.getD 0 undef) (Gs ++ [((hv_56, H_56), (qv_56, q_56))])], fun vs => True⟩, ⟨[], [], [76], fun vs => [], fun vs => (vs.getD 0 undef) = av⟩, ⟨[1], [], [77], fun vs => [], fun vs => (vs.getD 0 undef) = .agg #[.int .i64 5, .bool false, .int .u64 0]⟩, ⟨[], [7], [78], fun vs => [ro 3 anC (vs.getD 0 undef) [(AnC.mk 5 false 0)]], fun vs => True⟩, ⟨[7], [2], [79], fun vs => [ro 3 anC (vs.getD 0 undef) ((((moP (lgN C N Z K Q) K os full).take i).map (·.2)) ++ [(AnC.mk 5 false 0)])], fun vs => True⟩, ⟨[], [], [12, 75], fun vs => [], fun vs => (vs.getD 0 undef) = (vs.getD 1 undef)⟩, ⟨[], [], [13, 79], fun vs => [], fun vs => (vs.getD 0 undef) = (vs.getD 1 undef)⟩] [c64, c58, c19_20, c10_20, c61, c2_20, pu True, pu True] S187 V kr V ⟨?_, ?_, ?_, ?_, ?_, ?_, ?_, ?_, ?_, ?_, trivial⟩ ?_
   ·refine stepI [] (fun vs => []) V (fun a => by kernel_rfl) ?_
    intro A188 w188 rst hFr hF S188
    replace S188 : St w NoX [rst] w188 := S188
    have Y188 : SzN A188 82 := ⟨hFr.sz.trans Y65.out⟩
    have hdf188 : A188.defers = [] := hFr.df.trans F65.d
    have l12_188 := (oldS hFr 12 kr).trans (fg4 F65)
    refine vm l12_188 (W_end (kq _ ?_))
    exact ⟨_, [gv], rfl, ts1 (et V), rfl, rfl, S188⟩
   ·refine stepI [] (fun vs => [c61]) V (fun a => by kernel_rfl) ?_
    intro A189 w189 rst hFr hF S189
    replace S189 : St w NoX [c61, rst] w189 := S189
    have Y189 : SzN A189 82 := ⟨hFr.sz.trans Y65.out⟩
    have hdf189 : A189.defers = [] := hFr.df.trans F65.d
    have l10_189 := (oldS hFr 10 kr).trans (fg5 F65)
    obtain ⟨c61_189, hc61_189, S189⟩ := gen1 S189
    replace hc61_189 := hc61_189.trans hc61
    refine ra l10_189 (S189.ob 0 hc61_189) (W_end (kq _ ?_))
    exact ⟨_, [.agg #[hv_56, qv_56]], rfl, ts1 (et V), rfl, rfl, by subst hc61_189 hc61; exact S189⟩
   ·refine stepI [] (fun vs => [pu True]) V (fun a => by kernel_rfl) ?_
    intro A190 w190 rst hFr hF S190
    replace S190 : St w NoX [pu True, rst] w190 := S190
    have f73_190 : EV A190 (.tmp 73) = .agg #[hv_56, qv_56] := hF 1 kr
    generalize q73_190 : EV A190 (.tmp 73) = us73 at S190 f73_190
    have l73_190 := q73_190.trans f73_190
    have Y190 : SzN A190 82 := ⟨hFr.sz.trans Y65.out⟩
    have hdf190 : A190.defers = [] := hFr.df.trans F65.d
    obtain ⟨cz_190, hcz_190, S190⟩ := gen1 S190
    have hll191 : [((hv_56, H_56), (qv_56, q_56))].length = 1 := rfl
    refine xsL (vs := [.agg #[hv_56, qv_56]]) (xs := ([((hv_56, H_56), (qv_56, q_56))].flatMap grC)) 2 S190 V V V (parts1 l73_190) Tryz.underlying64 (fun g191 w191 c191 hc191 S191 => ?_)
    replace hc191 : c191 = ro 2 grC (.slice (some ⟨g191, 0, none⟩) 1 1) [((hv_56, H_56), (qv_56, q_56))] := hc191
    replace S191 : St w NoX (c191 :: cz_190 :: [rst]) w191 := S191
    refine W_end (kq _ ?_)
    have S193 := S191.del 1
    replace S193 : St w NoX (c191 :: [rst]) w191 := S193
    subst q73_190
    exact ⟨_, [(.slice (some ⟨g191, 0, none⟩) 1 1)], rfl, ts1 (et V), trivial, rfl, by subst hc191; exact S193⟩
   ·refine stepI [74] (fun vs => [ro 2 grC (vs.getD 0 undef) [((hv_56, H_56), (qv_56, q_56))], c64, c10_20]) V (fun a => by kernel_rfl) ?_
    intro A194 w194 rst hFr hF S194
    replace S194 : St w NoX [ro 2 grC (EV A194 (.tmp 74)) [((hv_56, H_56), (qv_56, q_56))], c64, c10_20, rst] w194 := S194
    have f72_194 : EV A194 (.tmp 72) = gv := hF 0 kr
    generalize q72_194 : EV A194 (.tmp 72) = us72 at S194 f72_194
    generalize q74_194 : EV A194 (.tmp 74) = us74 at S194 f72_194
    have l72_194 := q72_194.trans f72_194
    have l74_194 := q74_194
    have Y194 : SzN A194 82 := ⟨hFr.sz.trans Y65.out⟩
    have hdf194 : A194.defers = [] := hFr.df.trans F65.d
    obtain ⟨c127_194, c64_194, c10_194, hc127_194, hc64_194, hc10_194, S194⟩ := gen3 S194
    replace hc64_194 := hc64_194.trans hc64
    replace hc10_194 := hc10_194.trans hc10_20
    refine W_appS 2 2 S194 V hc10_194 V V V l72_194 l74_194 Tryz.underlying64 Tryz.underlying64 (z := .agg #[.slice none 0 0, .slice none 0 0]) (bytes := 48) kr V Zg (ow_at (S194.cq 0 hc127_194)) (by intro u hu; simp only [List.flatMap_cons, List.flatMap_nil, grC, List.append_nil, List.cons_append, List.nil_append, List.mem_cons, List.not_mem_nil, or_false] at hu; rcases hu with hu | hu <;> rw [hu] <;> first | exact SlN_one (sl_SlN (gl_oa (List.mem_append_right _ m1) (S194.cq 1 hc64_194))) | exact SlN_one (sl_SlN (gl_ra (List.mem_append_right _ m1) (S194.cq 1 hc64_194)))) Zd Zd (fun v195 w195 c195 hc195 S195 => ?_)
    replace hc195 : c195 = ro 2 grC v195 (Gs ++ [((hv_56, H_56), (qv_56, q_56))]) := hc195.trans (app_eqR Zc)
    replace S195 : St w NoX (c127_194 :: c64_194 :: c195 :: [rst]) w195 := S195
    refine W_end (kq _ ?_)
    subst q72_194 q74_194
    exact ⟨_, [v195], rfl, ts1 (et V), trivial, rfl, by subst hc127_194 hc64_194 hc195 hc64 hc10_20; exact S195⟩
   ·refine stepI [] (fun vs => []) V (fun a => by kernel_rfl) ?_
    intro A196 w196 rst hFr hF S196
    replace S196 : St w NoX [rst] w196 := S196
    have Y196 : SzN A196 82 := ⟨hFr.sz.trans Y65.out⟩
    have hdf196 : A196.defers = [] := hFr.df.trans F65.d
    have l13_196 := (oldS hFr 13 kr).trans (fg3 F65)
    refine vm l13_196 (W_end (kq _ ?_))
    exact ⟨_, [av], rfl, ts1 (et V), rfl, rfl, S196⟩
   ·refine stepI [] (fun vs => [c58]) V (fun a => by kernel_rfl) ?_
    intro A197 w197 rst hFr hF S197
    replace S197 : St w NoX [c58, rst] w197 := S197
    have Y197 : SzN A197 82 := ⟨hFr.sz.trans Y65.out⟩
    have hdf197 : A197.defers = [] := hFr.df.trans F65.d
    have l17_197 := (oldS hFr 17 kr).trans (fg0 F65)
    obtain ⟨c58_197, hc58_197, S197⟩ := gen1 S197
    replace hc58_197 := hc58_197.trans hc58
    refine ra l17_197 (S197.ob 0 hc58_197) (W_end (kq _ ?_))
    exact ⟨_, [.agg #[.int .i64 5, .bool false, .int .u64 0]], rfl, ts1 (et V), rfl, rfl, by subst hc58_197 hc58; exact S197⟩
   ·refine stepI [] (fun vs => [pu True]) V (fun a => by kernel_rfl) ?_
    intro A198 w198 rst hFr hF S198
    replace S198 : St w NoX [pu True, rst] w198 := S198
    have f77_198 : EV A198 (.tmp 77) = .agg #[.int .i64 5, .bool false, .int .u64 0] := hF 5 kr
    generalize q77_198 : EV A198 (.tmp 77) = us77 at S198 f77_198
    have l77_198 := q77_198.trans f77_198
    have Y198 : SzN A198 82 := ⟨hFr.sz.trans Y65.out⟩
    have hdf198 : A198.defers = [] := hFr.df.trans F65.d
    obtain ⟨cz_198, hcz_198, S198⟩ := gen1 S198
    have hll199 : [(AnC.mk 5 false 0)].length = 1 := rfl
    refine xsL (vs := [.agg #[.int .i64 5, .bool false, .int .u64 0]]) (xs := ([(AnC.mk 5 false 0)].flatMap anC)) 3 S198 V V V (parts1 l77_198) Tryz.underlying31 (fun g199 w199 c199 hc199 S199 => ?_)
    replace hc199 : c199 = ro 3 anC (.slice (some ⟨g199, 0, none⟩) 1 1) [(AnC.mk 5 false 0)] := hc199
    replace S199 : St w NoX (c199 :: cz_198 :: [rst]) w199 := S199
    refine W_end (kq _ ?_)
    have S201 := S199.del 1
    replace S201 : St w NoX (c199 :: [rst]) w199 := S201
    subst q77_198
    exact ⟨_, [(.slice (some ⟨g199, 0, none⟩) 1 1)], rfl, ts1 (et V), trivial, rfl, by subst hc199; exact S201⟩
   ·refine stepI [78] (fun vs => [ro 3 anC (vs.getD 0 undef) [(AnC.mk 5 false 0)], c19_20]) V (fun a => by kernel_rfl) ?_
    intro A202 w202 rst hFr hF S202
    replace S202 : St w NoX [ro 3 anC (EV A202 (.tmp 78)) [(AnC.mk 5 false 0)], c19_20, rst] w202 := S202
    have f76_202 : EV A202 (.tmp 76) = av := hF 4 kr
    generalize q76_202 : EV A202 (.tmp 76) = us76 at S202 f76_202
    generalize q78_202 : EV A202 (.tmp 78) = us78 at S202 f76_202
    have l76_202 := q76_202.trans f76_202
    have l78_202 := q78_202
    have Y202 : SzN A202 82 := ⟨hFr.sz.trans Y65.out⟩
    have hdf202 : A202.defers = [] := hFr.df.trans F65.d
    obtain ⟨c129_202, c19_202, hc129_202, hc19_202, S202⟩ := gen2 S202
    replace hc19_202 := hc19_202.trans hc19_20
    refine W_appS 3 1 S202 V hc19_202 V V V l76_202 l78_202 Tryz.underlying31 Tryz.underlying31 (z := .agg #[.int .i64 0, .bool false, .int .u64 0]) (bytes := 24) kr V Zg (ow_at (S202.cq 0 hc129_202)) (ones_r anC_one) Zd Zd (fun v203 w203 c203 hc203 S203 => ?_)
    replace hc203 : c203 = ro 3 anC v203 ((((moP (lgN C N Z K Q) K os full).take i).map (·.2)) ++ [(AnC.mk 5 false 0)]) := hc203.trans (app_eqR Zc)
    replace S203 : St w NoX (c129_202 :: c203 :: [rst]) w203 := S203
    refine W_end (kq _ ?_)
    subst q76_202 q78_202
    exact ⟨_, [v203], rfl, ts1 (et V), trivial, rfl, by subst hc129_202 hc203 hc19_20; exact S203⟩
   ·refine stepI [] (fun vs => []) V (fun a => by kernel_rfl) ?_
    intro A204 w204 rst hFr hF S204
    replace S204 : St w NoX [rst] w204 := S204
    generalize q75_204 : EV A204 (.tmp 75) = us75 at S204
    have l75_204 := q75_204
    have Y204 : SzN A204 82 := ⟨hFr.sz.trans Y65.out⟩
    have hdf204 : A204.defers = [] := hFr.df.trans F65.d
    refine va l75_204 (W_end (kq _ ?_))
    subst q75_204
    exact ⟨_, [(EV A204 (.tmp 75)), EV A204 (.tmp 75)], rfl, ts2 (et V) (es V V), rfl, rfl, S204⟩
   ·refine stepI [] (fun vs => []) V (fun a => by kernel_rfl) ?_
    intro A205 w205 rst hFr hF S205
    replace S205 : St w NoX [rst] w205 := S205
    generalize q79_205 : EV A205 (.tmp 79) = us79 at S205
    have l79_205 := q79_205
    have Y205 : SzN A205 82 := ⟨hFr.sz.trans Y65.out⟩
    have hdf205 : A205.defers = [] := hFr.df.trans F65.d
    refine va l79_205 (W_end (kq _ ?_))
    subst q79_205
    exact ⟨_, [(EV A205 (.tmp 79)), EV A205 (.tmp 79)], rfl, ts2 (et V) (es V V), rfl, rfl, S205⟩
   intro A206 w206 hFr hF S206
   replace S206 : St w NoX [c64, c58, ro 3 anC (EV A206 (.tmp 79)) ((((moP (lgN C N Z K Q) K os full).take i).map (·.2)) ++ [(AnC.mk 5 false 0)]), ro 2 grC (EV A206 (.tmp 75)) (Gs ++ [((hv_56, H_56), (qv_56, q_56))]), c61, c2_20, ro 2 grC (EV A206 (.tmp 74)) [((hv_56, H_56), (qv_56, q_56))], ro 3 anC (EV A206 (.tmp 78)) [(AnC.mk 5 false 0)]] w206 := S206.cast kr
   have f12_206 : EV A206 (.tmp 12) = (EV A206 (.tmp 75)) := hF 8 Zg
   have f13_206 : EV A206 (.tmp 13) = (EV A206 (.tmp 79)) := hF 9 Zg
   generalize q12_206 : EV A206 (.tmp 12) = us12 at S206 f12_206 f13_206
   generalize q75_206 : EV A206 (.tmp 75) = us75 at S206 f12_206 f13_206
   generalize q13_206 : EV A206 (.tmp 13) = us13 at S206 f12_206 f13_206
   generalize q79_206 : EV A206 (.tmp 79) = us79 at S206 f12_206 f13_206
   generalize q74_206 : EV A206 (.tmp 74) = us74 at S206 f12_206 f13_206
   generalize q78_206 : EV A206 (.tmp 78) = us78 at S206 f12_206 f13_206
   have l12_206 := q12_206.trans f12_206
   have l75_206 := q75_206
   have l13_206 := q13_206.trans f13_206
   have l79_206 := q79_206
   have l74_206 := q74_206
   have l78_206 := q78_206
   have Y206 : SzN A206 82 := ⟨hFr.sz.trans Y65.out⟩
   have hdf206 : A206.defers = [] := hFr.df.trans F65.d
   obtain ⟨c64_206, c58_206, c130_206, c128_206, c61_206, c2_206, c127_206, c129_206, hc64_206, hc58_206, hc130_206, hc128_206, hc61_206, hc2_206, hc127_206, hc129_206, S206⟩ := gen8 S206
   replace hc64_206 := hc64_206.trans hc64
   replace hc58_206 := hc58_206.trans hc58
   replace hc61_206 := hc61_206.trans hc61
   replace hc2_206 := hc2_206.trans hc2_20
   have l1_206 := (oldS hFr 1 kr).trans (fg8 F65)
   have l2_206 := (oldS hFr 2 kr).trans (fg7 F65)
   have l3_206 := (oldS hFr 3 kr).trans (fg6 F65)
   have l10_206 := (oldS hFr 10 kr).trans (fg5 F65)
   have l14_206 := (oldS hFr 14 kr).trans (fg9 F65)
   have l15_206 := (oldS hFr 15 kr).trans (fg2 F65)
   clear Y65 F65 S66
   refine Qo_normal ?_
   have S207 := S206.se [0, 2, 3, 4, 5] [c64_206, c130_206, c128_206, c61_206, c2_206]
   refine inb_n (tk H25 (region_in (vm l15_206 (ad t0 V (vt (W_end (en (((((((((ck (cq2 (FS.n hdf206) V) V V)).c (es3 V l1_206)).c (es3 V l2_206)).c (es3 V l3_206)).c (es3 V l10_206)).c (es3 V l12_206)).c (es3 V l13_206)).c (Sc l14_206)) fun A208 Y208 F208 => ?_)))))))
   have S209 := S207.se [1, 2, 3, 0, 4] [c130_206, c128_206, c61_206, c64_206, c2_206]
   refine then_n ⟨os.length - (i + 1), by simp only [hm20]; omega, Y208, F208.d, (i + 1), (j + 1), ((hv_56, H_56), (qv_56, q_56)), (Gs ++ [((hv_56, H_56), (qv_56, q_56))]), us75, us79, rfl, Zb, (hkp.stT hasc c42), (mr_gs hgs ((hmr.2.1 hrf c50).2.trans (congrArg some hg_56.symm))), (List.mem_append_right _ m1), ((hmr.2.1 hrf c50).2.trans (congrArg some hg_56.symm)), (fbd_step hz (hmr.2.1 hrf c50).1 (fun q => q.2 V)), ((fg7 F208).trans Za), ((fg0 F208).trans Za), ((fg2 F208).trans Za), ((fg1 F208).trans Za), ((fg6 F208).trans (fg7 F18).symm), ((fg5 F208).trans (fg8 F18).symm), ((fg4 F208).trans (fg5 F18).symm), ((fg3 F208).trans (fg4 F18).symm), (by have q0 : c130_206 = ro 3 anC us79 (((moP (lgN C N Z K Q) K os full).take (i + 1)).map (·.2)) := hc130_206.trans ((congrArg (ro 3 anC _) (mr_an (hmr.2.1 hrf c50).1).symm)); have q1 := hc128_206; have q2 := hc61_206; have q3 := hc64_206; have q4 := hc2_206; subst q0 q1 q2 q3 q4; exact S209)⟩
  have hrf := hkp.out hasc c42
  refine wp_skip (ta H35 fun _ H210 => (ra l16_37 (S37.ob 1 hc32) (xsB5 S37 hc7_20 V V V (Sa l10_37) t0 (by simp only [List.all_toArray, List.all_cons, List.all_nil, obC, grC, SlN_one (sl_SlN (gl_oa m1 (S37.cq 2 hcK_28r))), SlN_one (sl_SlN (gl_ra m1 (S37.cq 2 hcK_28r)))] <;> rfl) (fun w211 c211 hc211 S211 => W_end ?_))))
  have S212 := S211.se [6, 2, 0, 1, 3, 4, 5, 7] [cK_20, cK_28r, c33, c32, c19_20, c10_20, c211, c2_20]
  rw [hcK_20, hcK_28r] at S212
  obtain ⟨c213, hc213, S213⟩ := gen1 (gl_app (L := Gs) (M := [((ho1_28, Ho1_28q), (qo1_28, so1_28q))]) S212)
  replace S213 : St w NoX [c213, c33, c32, c19_20, c10_20, c211, c2_20] w211 := S213
  refine en (((((((((((cq1 (FS.n hdf37) V)).c (es V l1_37)).c (es V l2_37)).c (es V l3_37)).c (es V l10_37)).c (es V l12_37)).c (es V l13_37)).c (es V l14_37)).c (es V l15_37)).c (Sa l17_37)) fun A214 Y214 F214 => ?_
  have S215 := S213.se [0, 1, 3, 4, 5, 6] [c213, c33, c19_20, c10_20, c211, c2_20]
  refine tk H210 ?_
  have hll216 : [((ho1_28, Ho1_28q), (qo1_28, so1_28q))].length = 1 := rfl
  have hll218 : [(AnC.mk ((doG (lgN C N Z K Q) (gab Gc) (⟨y27.kd, y27.a, y27.b, y27.f, y27.p, y27.q, y27.u⟩ : OpC)).2.e) ((doG (lgN C N Z K Q) (gab Gc) (⟨y27.kd, y27.a, y27.b, y27.f, y27.p, y27.q, y27.u⟩ : OpC)).2.t) ((doG (lgN C N Z K Q) (gab Gc) (⟨y27.kd, y27.a, y27.b, y27.f, y27.p, y27.q, y27.u⟩ : OpC)).2.v))].length = 1 := rfl
  refine region_anyQ kr 10 V (fun w336 hx336 => ?_)
  have S336 := S215.grow hx336
  refine AX_parL (l0 := [c213, c33, c19_20, c10_20, c211, c2_20]) (k := 2) [⟨[], [], [72], fun vs => [], fun vs => (vs.getD 0 undef) = gv⟩, ⟨[4], [], [73], fun vs => [], fun vs => (vs.getD 0 undef) = .agg #[ho1_28, qo1_28]⟩, ⟨[], [6], [74], fun vs => [ro 2 grC (vs.getD 0 undef) [((ho1_28, Ho1_28q), (qo1_28, so1_28q))]], fun vs => True⟩, ⟨[6, 0], [3], [75], fun vs => [ro 2 grC (vs.getD 0 undef) (Gs ++ [((ho1_28, Ho1_28q), (qo1_28, so1_28q))])], fun vs => True⟩, ⟨[], [], [76], fun vs => [], fun vs => (vs.getD 0 undef) = av⟩, ⟨[1], [], [77], fun vs => [], fun vs => (vs.getD 0 undef) = .agg #[.int .i64 ((doG (lgN C N Z K Q) (gab Gc) (⟨y27.kd, y27.a, y27.b, y27.f, y27.p, y27.q, y27.u⟩ : OpC)).2.e), .bool ((doG (lgN C N Z K Q) (gab Gc) (⟨y27.kd, y27.a, y27.b, y27.f, y27.p, y27.q, y27.u⟩ : OpC)).2.t), .int .u64 ((doG (lgN C N Z K Q) (gab Gc) (⟨y27.kd, y27.a, y27.b, y27.f, y27.p, y27.q, y27.u⟩ : OpC)).2.v)]⟩, ⟨[], [7], [78], fun vs => [ro 3 anC (vs.getD 0 undef) [(AnC.mk ((doG (lgN C N Z K Q) (gab Gc) (⟨y27.kd, y27.a, y27.b, y27.f, y27.p, y27.q, y27.u⟩ : OpC)).2.e) ((doG (lgN C N Z K Q) (gab Gc) (⟨y27.kd, y27.a, y27.b, y27.f, y27.p, y27.q, y27.u⟩ : OpC)).2.t) ((doG (lgN C N Z K Q) (gab Gc) (⟨y27.kd, y27.a, y27.b, y27.f, y27.p, y27.q, y27.u⟩ : OpC)).2.v))]], fun vs => True⟩, ⟨[7], [2], [79], fun vs => [ro 3 anC (vs.getD 0 undef) ((((moP (lgN C N Z K Q) K os full).take i).map (·.2)) ++ [(AnC.mk ((doG (lgN C N Z K Q) (gab Gc) (⟨y27.kd, y27.a, y27.b, y27.f, y27.p, y27.q, y27.u⟩ : OpC)).2.e) ((doG (lgN C N Z K Q) (gab Gc) (⟨y27.kd, y27.a, y27.b, y27.f, y27.p, y27.q, y27.u⟩ : OpC)).2.t) ((doG (lgN C N Z K Q) (gab Gc) (⟨y27.kd, y27.a, y27.b, y27.f, y27.p, y27.q, y27.u⟩ : OpC)).2.v))])], fun vs => True⟩, ⟨[], [], [12, 75], fun vs => [], fun vs => (vs.getD 0 undef) = (vs.getD 1 undef)⟩, ⟨[], [], [13, 79], fun vs => [], fun vs => (vs.getD 0 undef) = (vs.getD 1 undef)⟩] [c213, c33, c19_20, c10_20, c211, c2_20, pu True, pu True] S336 V kr V ⟨?_, ?_, ?_, ?_, ?_, ?_, ?_, ?_, ?_, ?_, trivial⟩ ?_
  ·refine stepI [] (fun vs => []) V (fun a => by kernel_rfl) ?_
   intro A337 w337 rst hFr hF S337
   replace S337 : St w NoX [rst] w337 := S337
   have Y337 : SzN A337 82 := ⟨hFr.sz.trans Y214.out⟩
   have hdf337 : A337.defers = [] := hFr.df.trans F214.d
   have l12_337 := (oldS hFr 12 kr).trans (fg4 F214)
   refine vm l12_337 (W_end (kq _ ?_))
   exact ⟨_, [gv], rfl, ts1 (et V), rfl, rfl, S337⟩
  ·refine stepI [] (fun vs => [c211]) V (fun a => by kernel_rfl) ?_
   intro A338 w338 rst hFr hF S338
   replace S338 : St w NoX [c211, rst] w338 := S338
   have Y338 : SzN A338 82 := ⟨hFr.sz.trans Y214.out⟩
   have hdf338 : A338.defers = [] := hFr.df.trans F214.d
   have l10_338 := (oldS hFr 10 kr).trans (fg5 F214)
   obtain ⟨c211_338, hc211_338, S338⟩ := gen1 S338
   replace hc211_338 := hc211_338.trans hc211
   refine ra l10_338 (S338.ob 0 hc211_338) (W_end (kq _ ?_))
   exact ⟨_, [.agg #[ho1_28, qo1_28]], rfl, ts1 (et V), rfl, rfl, by subst hc211_338 hc211; exact S338⟩
  ·refine stepI [] (fun vs => [pu True]) V (fun a => by kernel_rfl) ?_
   intro A339 w339 rst hFr hF S339
   replace S339 : St w NoX [pu True, rst] w339 := S339
   have f73_339 : EV A339 (.tmp 73) = .agg #[ho1_28, qo1_28] := hF 1 kr
   generalize q73_339 : EV A339 (.tmp 73) = us73 at S339 f73_339
   have l73_339 := q73_339.trans f73_339
   have Y339 : SzN A339 82 := ⟨hFr.sz.trans Y214.out⟩
   have hdf339 : A339.defers = [] := hFr.df.trans F214.d
   obtain ⟨cz_339, hcz_339, S339⟩ := gen1 S339
   have hll340 : [((ho1_28, Ho1_28q), (qo1_28, so1_28q))].length = 1 := rfl
   refine xsL (vs := [.agg #[ho1_28, qo1_28]]) (xs := ([((ho1_28, Ho1_28q), (qo1_28, so1_28q))].flatMap grC)) 2 S339 V V V (parts1 l73_339) Tryz.underlying64 (fun g340 w340 c340 hc340 S340 => ?_)
   replace hc340 : c340 = ro 2 grC (.slice (some ⟨g340, 0, none⟩) 1 1) [((ho1_28, Ho1_28q), (qo1_28, so1_28q))] := hc340
   replace S340 : St w NoX (c340 :: cz_339 :: [rst]) w340 := S340
   refine W_end (kq _ ?_)
   have S342 := S340.del 1
   replace S342 : St w NoX (c340 :: [rst]) w340 := S342
   subst q73_339
   exact ⟨_, [(.slice (some ⟨g340, 0, none⟩) 1 1)], rfl, ts1 (et V), trivial, rfl, by subst hc340; exact S342⟩
  ·refine stepI [74] (fun vs => [ro 2 grC (vs.getD 0 undef) [((ho1_28, Ho1_28q), (qo1_28, so1_28q))], c213, c10_20]) V (fun a => by kernel_rfl) ?_
   intro A343 w343 rst hFr hF S343
   replace S343 : St w NoX [ro 2 grC (EV A343 (.tmp 74)) [((ho1_28, Ho1_28q), (qo1_28, so1_28q))], c213, c10_20, rst] w343 := S343
   have f72_343 : EV A343 (.tmp 72) = gv := hF 0 kr
   generalize q72_343 : EV A343 (.tmp 72) = us72 at S343 f72_343
   generalize q74_343 : EV A343 (.tmp 74) = us74 at S343 f72_343
   have l72_343 := q72_343.trans f72_343
   have l74_343 := q74_343
   have Y343 : SzN A343 82 := ⟨hFr.sz.trans Y214.out⟩
   have hdf343 : A343.defers = [] := hFr.df.trans F214.d
   obtain ⟨c276_343, c213_343, c10_343, hc276_343, hc213_343, hc10_343, S343⟩ := gen3 S343
   replace hc213_343 := hc213_343.trans hc213
   replace hc10_343 := hc10_343.trans hc10_20
   refine W_appS 2 2 S343 V hc10_343 V V V l72_343 l74_343 Tryz.underlying64 Tryz.underlying64 (z := .agg #[.slice none 0 0, .slice none 0 0]) (bytes := 48) kr V Zg (ow_at (S343.cq 0 hc276_343)) (by intro u hu; simp only [List.flatMap_cons, List.flatMap_nil, grC, List.append_nil, List.cons_append, List.nil_append, List.mem_cons, List.not_mem_nil, or_false] at hu; rcases hu with hu | hu <;> rw [hu] <;> first | exact SlN_one (sl_SlN (gl_oa (List.mem_append_right _ m1) (S343.cq 1 hc213_343))) | exact SlN_one (sl_SlN (gl_ra (List.mem_append_right _ m1) (S343.cq 1 hc213_343)))) Zd Zd (fun v344 w344 c344 hc344 S344 => ?_)
   replace hc344 : c344 = ro 2 grC v344 (Gs ++ [((ho1_28, Ho1_28q), (qo1_28, so1_28q))]) := hc344.trans (app_eqR Zc)
   replace S344 : St w NoX (c276_343 :: c213_343 :: c344 :: [rst]) w344 := S344
   refine W_end (kq _ ?_)
   subst q72_343 q74_343
   exact ⟨_, [v344], rfl, ts1 (et V), trivial, rfl, by subst hc276_343 hc213_343 hc344 hc213 hc10_20; exact S344⟩
  ·refine stepI [] (fun vs => []) V (fun a => by kernel_rfl) ?_
   intro A345 w345 rst hFr hF S345
   replace S345 : St w NoX [rst] w345 := S345
   have Y345 : SzN A345 82 := ⟨hFr.sz.trans Y214.out⟩
   have hdf345 : A345.defers = [] := hFr.df.trans F214.d
   have l13_345 := (oldS hFr 13 kr).trans (fg3 F214)
   refine vm l13_345 (W_end (kq _ ?_))
   exact ⟨_, [av], rfl, ts1 (et V), rfl, rfl, S345⟩
  ·refine stepI [] (fun vs => [c33]) V (fun a => by kernel_rfl) ?_
   intro A346 w346 rst hFr hF S346
   replace S346 : St w NoX [c33, rst] w346 := S346
   have Y346 : SzN A346 82 := ⟨hFr.sz.trans Y214.out⟩
   have hdf346 : A346.defers = [] := hFr.df.trans F214.d
   have l17_346 := (oldS hFr 17 kr).trans (fg0 F214)
   obtain ⟨c33_346, hc33_346, S346⟩ := gen1 S346
   replace hc33_346 := hc33_346.trans hc33
   refine ra l17_346 (S346.ob 0 hc33_346) (W_end (kq _ ?_))
   exact ⟨_, [.agg #[.int .i64 ((doG (lgN C N Z K Q) (gab Gc) (⟨y27.kd, y27.a, y27.b, y27.f, y27.p, y27.q, y27.u⟩ : OpC)).2.e), .bool ((doG (lgN C N Z K Q) (gab Gc) (⟨y27.kd, y27.a, y27.b, y27.f, y27.p, y27.q, y27.u⟩ : OpC)).2.t), .int .u64 ((doG (lgN C N Z K Q) (gab Gc) (⟨y27.kd, y27.a, y27.b, y27.f, y27.p, y27.q, y27.u⟩ : OpC)).2.v)]], rfl, ts1 (et V), rfl, rfl, by subst hc33_346 hc33; exact S346⟩
  ·refine stepI [] (fun vs => [pu True]) V (fun a => by kernel_rfl) ?_
   intro A347 w347 rst hFr hF S347
   replace S347 : St w NoX [pu True, rst] w347 := S347
   have f77_347 : EV A347 (.tmp 77) = .agg #[.int .i64 ((doG (lgN C N Z K Q) (gab Gc) (⟨y27.kd, y27.a, y27.b, y27.f, y27.p, y27.q, y27.u⟩ : OpC)).2.e), .bool ((doG (lgN C N Z K Q) (gab Gc) (⟨y27.kd, y27.a, y27.b, y27.f, y27.p, y27.q, y27.u⟩ : OpC)).2.t), .int .u64 ((doG (lgN C N Z K Q) (gab Gc) (⟨y27.kd, y27.a, y27.b, y27.f, y27.p, y27.q, y27.u⟩ : OpC)).2.v)] := hF 5 kr
   generalize q77_347 : EV A347 (.tmp 77) = us77 at S347 f77_347
   have l77_347 := q77_347.trans f77_347
   have Y347 : SzN A347 82 := ⟨hFr.sz.trans Y214.out⟩
   have hdf347 : A347.defers = [] := hFr.df.trans F214.d
   obtain ⟨cz_347, hcz_347, S347⟩ := gen1 S347
   have hll348 : [(AnC.mk ((doG (lgN C N Z K Q) (gab Gc) (⟨y27.kd, y27.a, y27.b, y27.f, y27.p, y27.q, y27.u⟩ : OpC)).2.e) ((doG (lgN C N Z K Q) (gab Gc) (⟨y27.kd, y27.a, y27.b, y27.f, y27.p, y27.q, y27.u⟩ : OpC)).2.t) ((doG (lgN C N Z K Q) (gab Gc) (⟨y27.kd, y27.a, y27.b, y27.f, y27.p, y27.q, y27.u⟩ : OpC)).2.v))].length = 1 := rfl
   refine xsL (vs := [.agg #[.int .i64 ((doG (lgN C N Z K Q) (gab Gc) (⟨y27.kd, y27.a, y27.b, y27.f, y27.p, y27.q, y27.u⟩ : OpC)).2.e), .bool ((doG (lgN C N Z K Q) (gab Gc) (⟨y27.kd, y27.a, y27.b, y27.f, y27.p, y27.q, y27.u⟩ : OpC)).2.t), .int .u64 ((doG (lgN C N Z K Q) (gab Gc) (⟨y27.kd, y27.a, y27.b, y27.f, y27.p, y27.q, y27.u⟩ : OpC)).2.v)]]) (xs := ([(AnC.mk ((doG (lgN C N Z K Q) (gab Gc) (⟨y27.kd, y27.a, y27.b, y27.f, y27.p, y27.q, y27.u⟩ : OpC)).2.e) ((doG (lgN C N Z K Q) (gab Gc) (⟨y27.kd, y27.a, y27.b, y27.f, y27.p, y27.q, y27.u⟩ : OpC)).2.t) ((doG (lgN C N Z K Q) (gab Gc) (⟨y27.kd, y27.a, y27.b, y27.f, y27.p, y27.q, y27.u⟩ : OpC)).2.v))].flatMap anC)) 3 S347 V V V (parts1 l77_347) Tryz.underlying31 (fun g348 w348 c348 hc348 S348 => ?_)
   replace hc348 : c348 = ro 3 anC (.slice (some ⟨g348, 0, none⟩) 1 1) [(AnC.mk ((doG (lgN C N Z K Q) (gab Gc) (⟨y27.kd, y27.a, y27.b, y27.f, y27.p, y27.q, y27.u⟩ : OpC)).2.e) ((doG (lgN C N Z K Q) (gab Gc) (⟨y27.kd, y27.a, y27.b, y27.f, y27.p, y27.q, y27.u⟩ : OpC)).2.t) ((doG (lgN C N Z K Q) (gab Gc) (⟨y27.kd, y27.a, y27.b, y27.f, y27.p, y27.q, y27.u⟩ : OpC)).2.v))] := hc348
   replace S348 : St w NoX (c348 :: cz_347 :: [rst]) w348 := S348
   refine W_end (kq _ ?_)
   have S350 := S348.del 1
   replace S350 : St w NoX (c348 :: [rst]) w348 := S350
   subst q77_347
   exact ⟨_, [(.slice (some ⟨g348, 0, none⟩) 1 1)], rfl, ts1 (et V), trivial, rfl, by subst hc348; exact S350⟩
  ·refine stepI [78] (fun vs => [ro 3 anC (vs.getD 0 undef) [(AnC.mk ((doG (lgN C N Z K Q) (gab Gc) (⟨y27.kd, y27.a, y27.b, y27.f, y27.p, y27.q, y27.u⟩ : OpC)).2.e) ((doG (lgN C N Z K Q) (gab Gc) (⟨y27.kd, y27.a, y27.b, y27.f, y27.p, y27.q, y27.u⟩ : OpC)).2.t) ((doG (lgN C N Z K Q) (gab Gc) (⟨y27.kd, y27.a, y27.b, y27.f, y27.p, y27.q, y27.u⟩ : OpC)).2.v))], c19_20]) V (fun a => by kernel_rfl) ?_
   intro A351 w351 rst hFr hF S351
   replace S351 : St w NoX [ro 3 anC (EV A351 (.tmp 78)) [(AnC.mk ((doG (lgN C N Z K Q) (gab Gc) (⟨y27.kd, y27.a, y27.b, y27.f, y27.p, y27.q, y27.u⟩ : OpC)).2.e) ((doG (lgN C N Z K Q) (gab Gc) (⟨y27.kd, y27.a, y27.b, y27.f, y27.p, y27.q, y27.u⟩ : OpC)).2.t) ((doG (lgN C N Z K Q) (gab Gc) (⟨y27.kd, y27.a, y27.b, y27.f, y27.p, y27.q, y27.u⟩ : OpC)).2.v))], c19_20, rst] w351 := S351
   have f76_351 : EV A351 (.tmp 76) = av := hF 4 kr
   generalize q76_351 : EV A351 (.tmp 76) = us76 at S351 f76_351
   generalize q78_351 : EV A351 (.tmp 78) = us78 at S351 f76_351
   have l76_351 := q76_351.trans f76_351
   have l78_351 := q78_351
   have Y351 : SzN A351 82 := ⟨hFr.sz.trans Y214.out⟩
   have hdf351 : A351.defers = [] := hFr.df.trans F214.d
   obtain ⟨c278_351, c19_351, hc278_351, hc19_351, S351⟩ := gen2 S351
   replace hc19_351 := hc19_351.trans hc19_20
   refine W_appS 3 1 S351 V hc19_351 V V V l76_351 l78_351 Tryz.underlying31 Tryz.underlying31 (z := .agg #[.int .i64 0, .bool false, .int .u64 0]) (bytes := 24) kr V Zg (ow_at (S351.cq 0 hc278_351)) (ones_r anC_one) Zd Zd (fun v352 w352 c352 hc352 S352 => ?_)
   replace hc352 : c352 = ro 3 anC v352 ((((moP (lgN C N Z K Q) K os full).take i).map (·.2)) ++ [(AnC.mk ((doG (lgN C N Z K Q) (gab Gc) (⟨y27.kd, y27.a, y27.b, y27.f, y27.p, y27.q, y27.u⟩ : OpC)).2.e) ((doG (lgN C N Z K Q) (gab Gc) (⟨y27.kd, y27.a, y27.b, y27.f, y27.p, y27.q, y27.u⟩ : OpC)).2.t) ((doG (lgN C N Z K Q) (gab Gc) (⟨y27.kd, y27.a, y27.b, y27.f, y27.p, y27.q, y27.u⟩ : OpC)).2.v))]) := hc352.trans (app_eqR Zc)
   replace S352 : St w NoX (c278_351 :: c352 :: [rst]) w352 := S352
   refine W_end (kq _ ?_)
   subst q76_351 q78_351
   exact ⟨_, [v352], rfl, ts1 (et V), trivial, rfl, by subst hc278_351 hc352 hc19_20; exact S352⟩
  ·refine stepI [] (fun vs => []) V (fun a => by kernel_rfl) ?_
   intro A353 w353 rst hFr hF S353
   replace S353 : St w NoX [rst] w353 := S353
   generalize q75_353 : EV A353 (.tmp 75) = us75 at S353
   have l75_353 := q75_353
   have Y353 : SzN A353 82 := ⟨hFr.sz.trans Y214.out⟩
   have hdf353 : A353.defers = [] := hFr.df.trans F214.d
   refine va l75_353 (W_end (kq _ ?_))
   subst q75_353
   exact ⟨_, [(EV A353 (.tmp 75)), EV A353 (.tmp 75)], rfl, ts2 (et V) (es V V), rfl, rfl, S353⟩
  ·refine stepI [] (fun vs => []) V (fun a => by kernel_rfl) ?_
   intro A354 w354 rst hFr hF S354
   replace S354 : St w NoX [rst] w354 := S354
   generalize q79_354 : EV A354 (.tmp 79) = us79 at S354
   have l79_354 := q79_354
   have Y354 : SzN A354 82 := ⟨hFr.sz.trans Y214.out⟩
   have hdf354 : A354.defers = [] := hFr.df.trans F214.d
   refine va l79_354 (W_end (kq _ ?_))
   subst q79_354
   exact ⟨_, [(EV A354 (.tmp 79)), EV A354 (.tmp 79)], rfl, ts2 (et V) (es V V), rfl, rfl, S354⟩
  intro A355 w355 hFr hF S355
  replace S355 : St w NoX [c213, c33, ro 3 anC (EV A355 (.tmp 79)) ((((moP (lgN C N Z K Q) K os full).take i).map (·.2)) ++ [(AnC.mk ((doG (lgN C N Z K Q) (gab Gc) (⟨y27.kd, y27.a, y27.b, y27.f, y27.p, y27.q, y27.u⟩ : OpC)).2.e) ((doG (lgN C N Z K Q) (gab Gc) (⟨y27.kd, y27.a, y27.b, y27.f, y27.p, y27.q, y27.u⟩ : OpC)).2.t) ((doG (lgN C N Z K Q) (gab Gc) (⟨y27.kd, y27.a, y27.b, y27.f, y27.p, y27.q, y27.u⟩ : OpC)).2.v))]), ro 2 grC (EV A355 (.tmp 75)) (Gs ++ [((ho1_28, Ho1_28q), (qo1_28, so1_28q))]), c211, c2_20, ro 2 grC (EV A355 (.tmp 74)) [((ho1_28, Ho1_28q), (qo1_28, so1_28q))], ro 3 anC (EV A355 (.tmp 78)) [(AnC.mk ((doG (lgN C N Z K Q) (gab Gc) (⟨y27.kd, y27.a, y27.b, y27.f, y27.p, y27.q, y27.u⟩ : OpC)).2.e) ((doG (lgN C N Z K Q) (gab Gc) (⟨y27.kd, y27.a, y27.b, y27.f, y27.p, y27.q, y27.u⟩ : OpC)).2.t) ((doG (lgN C N Z K Q) (gab Gc) (⟨y27.kd, y27.a, y27.b, y27.f, y27.p, y27.q, y27.u⟩ : OpC)).2.v))]] w355 := S355.cast kr
  have f12_355 : EV A355 (.tmp 12) = (EV A355 (.tmp 75)) := hF 8 Zg
  have f13_355 : EV A355 (.tmp 13) = (EV A355 (.tmp 79)) := hF 9 Zg
  generalize q12_355 : EV A355 (.tmp 12) = us12 at S355 f12_355 f13_355
  generalize q75_355 : EV A355 (.tmp 75) = us75 at S355 f12_355 f13_355
  generalize q13_355 : EV A355 (.tmp 13) = us13 at S355 f12_355 f13_355
  generalize q79_355 : EV A355 (.tmp 79) = us79 at S355 f12_355 f13_355
  generalize q74_355 : EV A355 (.tmp 74) = us74 at S355 f12_355 f13_355
  generalize q78_355 : EV A355 (.tmp 78) = us78 at S355 f12_355 f13_355
  have l12_355 := q12_355.trans f12_355
  have l75_355 := q75_355
  have l13_355 := q13_355.trans f13_355
  have l79_355 := q79_355
  have l74_355 := q74_355
  have l78_355 := q78_355
  have Y355 : SzN A355 82 := ⟨hFr.sz.trans Y214.out⟩
  have hdf355 : A355.defers = [] := hFr.df.trans F214.d
  obtain ⟨c213_355, c33_355, c279_355, c277_355, c211_355, c2_355, c276_355, c278_355, hc213_355, hc33_355, hc279_355, hc277_355, hc211_355, hc2_355, hc276_355, hc278_355, S355⟩ := gen8 S355
  replace hc213_355 := hc213_355.trans hc213
  replace hc33_355 := hc33_355.trans hc33
  replace hc211_355 := hc211_355.trans hc211
  replace hc2_355 := hc2_355.trans hc2_20
  have l1_355 := (oldS hFr 1 kr).trans (fg8 F214)
  have l2_355 := (oldS hFr 2 kr).trans (fg7 F214)
  have l3_355 := (oldS hFr 3 kr).trans (fg6 F214)
  have l10_355 := (oldS hFr 10 kr).trans (fg5 F214)
  have l14_355 := (oldS hFr 14 kr).trans (fg2 F214)
  have l15_355 := (oldS hFr 15 kr).trans (fg1 F214)
  clear Y214 F214 S215
  refine Qo_normal ?_
  have S356 := S355.se [0, 2, 3, 4, 5] [c213_355, c279_355, c277_355, c211_355, c2_355]
  refine inb_n (tk H25 (region_in (vm l15_355 (ad t0 V (vt (W_end (en (((((((((ck (cq2 (FS.n hdf355) V) V V)).c (es3 V l1_355)).c (es3 V l2_355)).c (es3 V l3_355)).c (es3 V l10_355)).c (es3 V l12_355)).c (es3 V l13_355)).c (Sc l14_355)) fun A357 Y357 F357 => ?_)))))))
  have S358 := S356.se [1, 2, 3, 0, 4] [c279_355, c277_355, c211_355, c213_355, c2_355]
  refine then_n ⟨os.length - (i + 1), by simp only [hm20]; omega, Y357, F357.d, (i + 1), j, ((ho1_28, Ho1_28q), (qo1_28, so1_28q)), (Gs ++ [((ho1_28, Ho1_28q), (qo1_28, so1_28q))]), us75, us79, rfl, Zb, (hkp.stF hasc c42), (mr_gs hgs ((hmr.2.2.2 hrf).2.trans (congrArg some hg_28r.symm))), (List.mem_append_right _ m1), ((hmr.2.2.2 hrf).2.trans (congrArg some hg_28r.symm)), (fbd_step hz (hmr.2.2.2 hrf).1 (fun q => hrf q.1)), ((fg7 F357).trans Za), ((fg0 F357).trans Za), ((fg2 F357).trans Za), ((fg1 F357).trans Za), ((fg6 F357).trans (fg7 F18).symm), ((fg5 F357).trans (fg8 F18).symm), ((fg4 F357).trans (fg5 F18).symm), ((fg3 F357).trans (fg4 F18).symm), (by have q0 : c279_355 = ro 3 anC us79 (((moP (lgN C N Z K Q) K os full).take (i + 1)).map (·.2)) := hc279_355.trans ((congrArg (ro 3 anC _) (mr_an (hmr.2.2.2 hrf).1).symm)); have q1 := hc277_355; have q2 := hc211_355; have q3 := hc213_355; have q4 := hc2_355; subst q0 q1 q2 q3 q4; exact S358)⟩
 refine wp_exit (then_exit (then_exit (inb_hit (ta H16 fun _ H359 => (vm (fg3 F23) (vm (Sa (fg2 F23)) (va (Sa t0) (va (Sa t0) (vc (vc (W_end (en (Kd (Qb F23)) fun A360 _ F360 => tk H359 (wp_ret (rt4 F360 (rv_tmp (fg3 F360)) (rv_tmp (fg2 F360)) (rv_tmp (fg1 F360)) (rv_tmp (fg0 F360)) ?_))))))))))))))
 have hd := mr_end hsz hfull hz Zb hgs
 exact .inr ⟨_, Gs, _, rfl, hd.1, hd.2.1, (S20.f3 1 hc10_20 3 hcK_20 0 (hc19_20.trans (congrArg (ro 3 anC _) hd.2.2.symm)))⟩

set_option maxHeartbeats 4000000 in
theorem qpd_c {C N Z K Q : Int} {lv : Value} {os : List OpC} {fv : Value} {full : List Int} {w : World} (h_lv : Ro w NoX (rl 7 opC lv os)) (h_fv : Ro w NoX (il .i64 fv full))  :
  Calls Tryz.prog 30 #[.agg #[.int .i64 C, .int .i64 N, .int .i64 Z, .int .i64 K, .int .i64 Q], lv, fv] w fun e w' => (e = .returned (.tuple #[.slice none 0 0, .slice none 0 0, .int .i64 (plF (cfE C N Z K Q) (lgN C N Z K Q) K os full).1, .int .i64 (plF (cfE C N Z K Q) (lgN C N Z K Q) K os full).2]) ∧ ((plF (cfE C N Z K Q) (lgN C N Z K Q) K os full).2 ≠ 0) ∧ St w NoX [] w') ∨ (∃ gv Gs av, e = .returned (.tuple #[gv, av, .int .i64 0, .int .i64 0]) ∧ ((plF (cfE C N Z K Q) (lgN C N Z K Q) K os full) = (0, 0)) ∧ (Gs.map gab = (plG (cfE C N Z K Q) (lgN C N Z K Q) K os full)) ∧ St w NoX [ro 2 grC gv Gs, gls Gs, ro 3 anC av (plA (cfE C N Z K Q) (lgN C N Z K Q) K os full)] w') := by
 refine ci3 67 Tryz.func30 V (fun A0 _ F0 => ?_)
 have hS := St.nil w
 have bh_lv := SlN.le (sl_SlN h_lv.at)
 have bh_fv := SlN.le (sl_SlN h_fv.at)
 refine tb fun _ H1 => (wB (#[.int .i64 (C), .int .i64 (N), .int .i64 (Z), .int .i64 (K), .int .i64 (Q)]) hS (fg0 F0) (fun g2 w2 c2 hc2 S2 => vc (vc (vc (vc (W_end (en (Qd (Ka F0)) fun A3 _ F3 => ta H1 fun _ H4 => (ra (fg0 F3) (S2.ob 0 hc2) (vm (Sa (fg2 F3)) (wc (args2 (Sa t0) t0) (qsc_c (C := C) (N := N) (Z := Z) (K := K) (Q := Q) (S2.roC h_lv)) (C0 S2 fun w5 S5 => vm t0 (vx (.int .i64 ((scE (cfE C N Z K Q) os).1)) t0 (vx (.int .i64 ((scE (cfE C N Z K Q) os).2)) (Sa t0) (va (Sa t0) (va (Sa t0) (W_end (en (Kb (Qf F3)) fun A6 _ F6 => tc H4 fun _ H7 => tb fun _ H8 => (vm (fg0 F6) (vn t0 V (W_end (en (Ka (Qa F6)) fun A9 _ F9 => tk H8 (cd (fg0 F9) (fun c10 => ?_) fun c10 => ?_))))))))))))))))))))))
 ·refine tb fun _ H11 => (vm (fg2 F9) (vm (Sa (fg1 F9)) (vc (vc (va (Sc t0) (va (Sc t0) (W_end (en (Kd (Qb F9)) fun A12 _ F12 => tk H11 (wp_ret (then_ret (rt4 F12 (rv_tmp (fg3 F12)) (rv_tmp (fg2 F12)) (rv_tmp (fg1 F12)) (rv_tmp (fg0 F12)) ?_)))))))))))
  have h : (plF (cfE C N Z K Q) (lgN C N Z K Q) K os full) = ((scE (cfE C N Z K Q) os).1, (scE (cfE C N Z K Q) os).2) := pl_sc c10
  rw [h]
  exact .inl ⟨rfl, c10, S5.fin0⟩
 obtain ⟨hcf, hl2, hops, hsz⟩ := sc_inv (cf := (cfE C N Z K Q)) (l := os) Zb
 refine wp_skip (tc H7 fun _ H14 => tb fun _ H15 => (vc (W_end (en (Ka F9) fun A16 Y16 F16 => tk H15 (wp_block ?_)))))
 -- loop 5
 refine loopX (fun mz A' w' => SzN A' 67 ∧ A'.defers = [] ∧ (∃ (k : Nat) (last : Int), (mz = full.length - k) ∧ (k ≤ full.length) ∧ (fcF (-1) full os.length = fcF last (full.drop k) os.length) ∧ (k = 0 → last = -1) ∧ (0 < k → 0 ≤ last ∧ full.getD (k - 1) 0 = last) ∧ (EV A' (.tmp 12) = .int .i64 (k : Int)) ∧ (EV A' (.tmp 1) = EV A16 (.tmp 1)) ∧ (EV A' (.tmp 2) = EV A16 (.tmp 2)) ∧ (EV A' (.tmp 3) = EV A16 (.tmp 3)) ∧ (St w NoX [bx g2 23 #[.int .i64 (C), .int .i64 (N), .int .i64 (Z), .int .i64 (K), .int .i64 (Q)]] w'))) (full.length - 0) ⟨Y16, F16.d, 0, (-1), rfl, Zb, rfl, (fun _ => rfl), (fun h => by omega), ((fg0 F16).trans Za), rfl, rfl, rfl, (by subst hc2; exact S5)⟩ ?_
 clear S5 hc2
 rintro n17 A17 w17 ⟨Y17, hdf17, k, last, hm17, hk, hfc, hl0, hl1, l12_17, u1_17, u2_17, u3_17, S17⟩
 have l1_17 := u1_17.trans (fg6 F16)
 have l2_17 := u2_17.trans (fg7 F16)
 have l3_17 := u3_17.trans (fg4 F16)
 obtain ⟨c2_17, hc2_17, S17⟩ := gen1 S17
 refine td fun _ H18 => tb fun _ H19 => (vm l12_17 (vm (Sa l2_17) (le_ t0 (sl_SlN h_fv.at) (vl (Sb t0) t0 (W_end (en ((((((ck (cq3 (FS.n hdf17) V) V V)).c (es4 V l1_17)).c (es4 V l2_17)).c (es4 V l3_17)).c (Sd l12_17)) fun A20 _ F20 => tk H19 (cd (fg4 F20) (fun c21 => ?_) fun c21 => ?_)))))))
 ·refine wp_skip (tc H18 fun _ H22 => wp_block (td fun _ H23 => wp_mid (G := fun A' w' => SzN A' 67 ∧ A'.defers = [] ∧ (EV A' (.tmp 1) = EV A20 (.tmp 1)) ∧ (EV A' (.tmp 2) = EV A20 (.tmp 2)) ∧ (EV A' (.tmp 3) = EV A20 (.tmp 3)) ∧ (EV A' (.tmp 12) = EV A20 (.tmp 12)) ∧ (EV A' (.tmp 58) = .bool (decide ((full.getD k 0 ≤ last ∨ (os.length : Int) ≤ full.getD k 0)))) ∧ St w NoX [c2_17] w') ?_ ?_))
  ·have j1_24 := (fg3 F20)
   have j2_24 := (fg2 F20)
   have j3_24 := (fg1 F20)
   have j12_24 := (fg0 F20)
   refine region_monoS 30 30 [] kr kr (dm (fg2 F20) (dm (Sa (fg0 F20)) ?_))
   have k25 : k < full.length := om
   obtain ⟨y25, hy25⟩ := get_some (xs := full) (k := k) k25
   have gy25 := gD0 hy25
   obtain ⟨B25, O25, C25, hv25⟩ := (SlN.blk (sl_SlN h_fv.at) om)
   refine dv (V_ixS (off := O25 + k) 1 k V (Sa t0) t0 hv25 Zb k25 Tryz.underlying25 kr (congrArg _ (Nat.mul_one _))) (dr (fun _ hx _ => (urc t0 ((sl_SlN ((S17.grow hx).ro h_fv)).cell hv25 (map_get hy25)))) (dv (uvl t0 V) (D_split V V (V_mov V t0) V V (fun c26 => ?_) (fun c26 => ?_))))
   ·refine D_off V (wanted_f V V t0 (ez V) V) V (D_off V (wanted_f V V (Sa t0) (ez V) V) V (D_off V (wanted_f V V (Sb t0) (ez V) V) V (D_off V (wanted_f V V (Sc t0) (ez V) V) V (D_off V (wanted_f V V (Sd t0) (ez V) V) V (D_off V (wanted_f V V (Se t0) (ez V) V) V (D_off V (wanted_f V V (Sf t0) (ez V) V) V (dv (uvT (Sg t0) V) (dm t0 (D_off V (wanted_f V V t0 (ez V) V) V (D_off V (wanted_f V V (Sa t0) (ez V) V) V (D_off V (wanted_f V V (Sb t0) (ez V) V) V (D_off V (wanted_u V V t0 (ez V)) V (D_off V (wanted_u V V (Sa t0) (ez V)) V (D_off V (wanted_u V V (Sb t0) (ez V)) V (D_off V (wanted_u V V (Sc t0) (ez V)) V (D_off V (wanted_u V V (Sd t0) (ez V)) V (D_off V (wanted_u V V (Se t0) (ez V)) V (D_off V (wanted_u V V (Sf t0) (ez V)) V (D_off V (wanted_u V V (Sg t0) (ez V)) V (D_off V (wanted_u V V (Sh t0) (ez V)) V (D_off V (wanted_u V V (Sh (Sa t0)) (ez V)) V (D_off V (wanted_f V V (Sh (Se t0)) (ez V) V) V (dv (uvT (Sh (Sf t0)) V) (ZS_none S17 (Nat.le_refl _) (Nat.le_refl _) (fun s27 hJ27 hL27 hF27 => ?_)))))))))))))))))))))))))
    have S27 := hJ27.st; clear hF27 hJ27 hL27
    generalize s27.1 = w27 at *
    replace S27 : St w NoX [c2_17] w27 := S27
    refine en (Kh (Kg (Qb (Kg (Qf F20))))) fun A28 Y28 F28 => ?_
    exact Mid_n ⟨Y28, F28.d, ((fg25 F28).trans j1_24.symm), ((fg24 F28).trans j2_24.symm), ((fg23 F28).trans j3_24.symm), ((fg22 F28).trans j12_24.symm), ((fg0 F28).trans (congrArg Value.bool ((by first | exact (decide_eq_true Zb).symm | exact (decide_eq_false Zb).symm | exact decide_eq_decide.2 Zb)))), S27⟩
   refine D_v V (xwt V V t0) (V_mov V (Sf (fg2 F20))) V V (D_v V (xwt V V (Sa t0)) (V_mov V (Sg (fg0 F20))) V V (D_v V (xwt V V (Sb t0)) (V_ixS (off := O25 + k) 1 k V (Sa t0) t0 hv25 Zb k25 Tryz.underlying25 kr (congrArg _ (Nat.mul_one _))) V V (D_r V (xwt V V (Sc t0)) kr (fun sx hx hF => (VR_ldC V t0 ((sl_SlN ((S17.grow hx).ro h_fv)).cell hv25 (map_get hy25)) Tryz.underlying3 V)) V V (D_v V (xwt V V (Sd t0)) (V_mov V (Sh (Sb (fg3 F20)))) V V (D_v V (xwt V V (Se t0)) (V_lenS V t0 (sl_SlN h_lv.at) Tryz.underlying24) V V (D_v V (xwt V V (Sf t0)) (V_geq V (Sb t0) t0) V V (dv (uvF (Sg t0) t0) (D_split V V (V_mov V t0) V V (fun c30 => ?_) (fun c30 => ?_)))))))))
   ·refine D_off V (wanted_f V V t0 (ez V) V) V (D_off V (wanted_f V V (Sa t0) (ez V) V) V (D_off V (wanted_f V V (Sb t0) (ez V) V) V (D_off V (wanted_u V V t0 (ez V)) V (D_off V (wanted_u V V (Sa t0) (ez V)) V (D_off V (wanted_u V V (Sb t0) (ez V)) V (D_off V (wanted_u V V (Sc t0) (ez V)) V (D_off V (wanted_u V V (Sd t0) (ez V)) V (D_off V (wanted_u V V (Se t0) (ez V)) V (D_off V (wanted_u V V (Sf t0) (ez V)) V (D_off V (wanted_u V V (Sg t0) (ez V)) V (D_off V (wanted_u V V (Sh t0) (ez V)) V (D_off V (wanted_u V V (Sh (Sa t0)) (ez V)) V (D_off V (wanted_f V V (Sh (Se t0)) (ez V) V) V (dv (uvT (Sh (Sf t0)) V) (ZS_none S17 (Nat.le_refl _) (Nat.le_refl _) (fun s31 hJ31 hL31 hF31 => ?_))))))))))))))))
    have S31 := hJ31.st; clear hF31 hJ31 hL31
    generalize s31.1 = w31 at *
    replace S31 : St w NoX [c2_17] w31 := S31
    refine en (Kh (Kg (Qb (Kg (Qf F20))))) fun A32 Y32 F32 => ?_
    exact Mid_n ⟨Y32, F32.d, ((fg25 F32).trans j1_24.symm), ((fg24 F32).trans j2_24.symm), ((fg23 F32).trans j3_24.symm), ((fg22 F32).trans j12_24.symm), ((fg0 F32).trans (congrArg Value.bool ((by first | exact (decide_eq_true Zb).symm | exact (decide_eq_false Zb).symm | exact decide_eq_decide.2 Zb)))), S31⟩
   refine D_v V (xwt V V t0) (V_mov V (Sh (Sg (fg0 F20)))) V V (D_v V (xwt V V (Sa t0)) (V_gtr V t0 V) V V (D_split V (xwt V V (Sb t0)) (V_mov V t0) V V (fun c33 => ?_) (fun c33 => ?_)))
   ·refine D_v V (xwt V V t0) (V_mov V (Sh (Sh (Sb (fg2 F20))))) V V (D_v V (xwt V V (Sa t0)) (V_mov V (Sh (Sh (Sc (fg0 F20))))) V V (D_v V (xwt V V (Sb t0)) (V_ixS (off := O25 + k) 1 k V (Sa t0) t0 hv25 Zb k25 Tryz.underlying25 kr (congrArg _ (Nat.mul_one _))) V V (D_r V (xwt V V (Sc t0)) kr (fun sx hx hF => (VR_ldC V t0 ((sl_SlN ((S17.grow hx).ro h_fv)).cell hv25 (map_get hy25)) Tryz.underlying3 V)) V V (D_v V (xwt V V (Sd t0)) (V_mov V (Sh (Sh (Sf (fg2 F20))))) V V (D_v V (xwt V V (Se t0)) (V_mov V (Sh (Sh (Sg (fg0 F20))))) V V (D_v V (xwt V V (Sf t0)) (V_sb V t0 V Zb Zb) V V ?_))))))
    have k35 : (k - 1) < full.length := om
    obtain ⟨y35, hy35⟩ := get_some (xs := full) (k := (k - 1)) k35
    have gy35 := gD0 hy35
    refine D_v V (xwt V V (Sg t0)) (V_ixS (off := O25 + (k - 1)) 1 (k - 1) V (Sb t0) t0 hv25 Zb k35 Tryz.underlying25 kr (congrArg _ (Nat.mul_one _))) V V (D_r V (xwt V V (Sh t0)) kr (fun sx hx hF => (VR_ldC V t0 ((sl_SlN ((S17.grow hx).ro h_fv)).cell hv25 (map_get hy35)) Tryz.underlying3 V)) V V (D_v V (xwt V V (Sh (Sa t0))) (V_leq V (Se t0) t0) V V (D_v V (xwt V V (Sh (Se t0))) (V_pickT V (Sh (Sb t0)) t0) V V (dv (uvF (Sh (Sf t0)) t0) (ZS_none S17 (Nat.le_refl _) (Nat.le_refl _) (fun s36 hJ36 hL36 hF36 => ?_))))))
    have S36 := hJ36.st; clear hF36 hJ36 hL36
    generalize s36.1 = w36 at *
    replace S36 : St w NoX [c2_17] w36 := S36
    refine en (Kh (Kg (Qb (Kg (Qf F20))))) fun A37 Y37 F37 => ?_
    exact Mid_n ⟨Y37, F37.d, ((fg25 F37).trans j1_24.symm), ((fg24 F37).trans j2_24.symm), ((fg23 F37).trans j3_24.symm), ((fg22 F37).trans j12_24.symm), ((fg0 F37).trans (congrArg Value.bool ((by first | exact (decide_eq_true Zb).symm | exact (decide_eq_false Zb).symm | exact decide_eq_decide.2 Zb)))), S36⟩
   refine D_off V (wanted_f V V t0 (ez V) V) V (D_off V (wanted_f V V (Sa t0) (ez V) V) V (D_off V (wanted_f V V (Sb t0) (ez V) V) V (D_off V (wanted_f V V (Sc t0) (ez V) V) V (D_off V (wanted_f V V (Sd t0) (ez V) V) V (D_off V (wanted_f V V (Se t0) (ez V) V) V (D_off V (wanted_f V V (Sf t0) (ez V) V) V (D_off V (wanted_f V V (Sg t0) (ez V) V) V (D_off V (wanted_f V V (Sh t0) (ez V) V) V (D_off V (wanted_f V V (Sh (Sa t0)) (ez V) V) V (D_v V (xwt V V (Sh (Se t0))) (V_pickF V (Sh (Sb t0)) V) V V (dv (uvF (Sh (Sf t0)) t0) (ZS_none S17 (Nat.le_refl _) (Nat.le_refl _) (fun s38 hJ38 hL38 hF38 => ?_)))))))))))))
   have S38 := hJ38.st; clear hF38 hJ38 hL38
   generalize s38.1 = w38 at *
   replace S38 : St w NoX [c2_17] w38 := S38
   refine en (Kh (Kg (Qb (Kg (Qf F20))))) fun A39 Y39 F39 => ?_
   exact Mid_n ⟨Y39, F39.d, ((fg25 F39).trans j1_24.symm), ((fg24 F39).trans j2_24.symm), ((fg23 F39).trans j3_24.symm), ((fg22 F39).trans j12_24.symm), ((fg0 F39).trans (congrArg Value.bool ((by first | exact (decide_eq_true Zb).symm | exact (decide_eq_false Zb).symm | exact decide_eq_decide.2 Zb)))), S38⟩
  rintro A24 w24 ⟨Y24, hdf24, u1_24, u2_24, u3_24, u12_24, l58_24, S24⟩
  have l1_24 := u1_24.trans (fg3 F20)
  have l2_24 := u2_24.trans (fg2 F20)
  have l3_24 := u3_24.trans (fg1 F20)
  have l12_24 := u12_24.trans (fg0 F20)
  refine tk H23 (cd l58_24 (fun c40 => ?_) fun c40 => ?_)
  ·refine tb fun _ H41 => (vc (vc (vc (vc (W_end (en (Kd (FS.n hdf24)) fun A42 _ F42 => tk H41 (wp_ret (inb_ret (then_ret (then_ret (inb_ret (then_ret (rt4 F42 (rv_tmp (fg3 F42)) (rv_tmp (fg2 F42)) (rv_tmp (fg1 F42)) (rv_tmp (fg0 F42)) ?_)))))))))))))
   have h : (plF (cfE C N Z K Q) (lgN C N Z K Q) K os full) = ((-1), 6) := pl_fc hsz (fc_bad hfc (gDs Zb) c40)
   rw [h]
   exact .inl ⟨rfl, by decide, S24.fin0⟩
  refine wp_skip (inb_n (tk H22 (region_in (vm l12_24 (ad t0 V (vt (W_end (en (((((ck (cq2 (FS.n hdf24) V) V V)).c (es3 V l1_24)).c (es3 V l2_24)).c (Sc l3_24)) fun A44 Y44 F44 => then_n ⟨full.length - (k + 1), by simp only [hm17]; omega, Y44, F44.d, (k + 1), (full.getD k 0), rfl, Zb, (fc_step hfc (gDs Zb) c40), (fun h => by omega), (fun _ => ⟨by omega, rfl⟩), ((fg3 F44).trans Za), ((fg2 F44).trans (fg6 F16).symm), ((fg1 F44).trans (fg7 F16).symm), ((fg0 F44).trans (fg4 F16).symm), (by subst hc2_17; exact S24)⟩))))))))
 have hfull := fc_end hfc Zb
 refine wp_exit (then_exit (then_exit (inb_hit (ta H14 fun _ H45 => (ra (fg1 F20) (S17.ob 0 hc2_17) (vm (Sa (fg3 F20)) (vm (Sb (fg2 F20)) (wc (args3 (Sb t0) (Sa t0) t0) (qmo_c (C := C) (N := N) (Z := Z) (K := K) (Q := Q) (S17.roC h_lv) (S17.roC h_fv) Ze Ze) ?_))))))))
 rintro _ w46 (⟨rfl, hz_46, hP46⟩ | ⟨gv_46, Gs_46, av_46, rfl, hz_46, hg_46, hP46⟩)
 ·refine ⟨_, rfl, ?_⟩
  have S46 := S17.join hP46
  replace S46 : St w NoX [c2_17] w46 := S46
  refine vx (.slice none 0 0) t0 (vx (.slice none 0 0) (Sa t0) (vx (.int .i64 ((plF (cfE C N Z K Q) (lgN C N Z K Q) K os full).1)) (Sb t0) (vx (.int .i64 ((plF (cfE C N Z K Q) (lgN C N Z K Q) K os full).2)) (Sc t0) (va (Sc t0) (va (Sc t0) (va (Sc t0) (va (Sc t0) (W_end (en (Kd (Qh F20)) fun A47 _ F47 => tk H45 (wp_ret (rt4 F47 (rv_tmp (fg3 F47)) (rv_tmp (fg2 F47)) (rv_tmp (fg1 F47)) (rv_tmp (fg0 F47)) ?_)))))))))))
  exact .inl ⟨rfl, hz_46, S46.fin0⟩
 refine ⟨_, rfl, ?_⟩
 obtain ⟨cG_46, cK_46, cA_46, hcG_46, hcK_46, hcA_46, hP46⟩ := gen3 hP46
 have S46 := S17.join hP46
 replace S46 : St w NoX [cG_46, cK_46, cA_46, c2_17] w46 := S46
 refine vx gv_46 t0 (vx av_46 (Sa t0) (vx (.int .i64 0) (Sb t0) (vx (.int .i64 0) (Sc t0) (va (Sc t0) (va (Sc t0) (va (Sc t0) (va (Sc t0) (W_end (en (Kd (Qh F20)) fun A49 _ F49 => tk H45 (wp_ret (rt4 F49 (rv_tmp (fg3 F49)) (rv_tmp (fg2 F49)) (rv_tmp (fg1 F49)) (rv_tmp (fg0 F49)) ?_)))))))))))
 exact .inr ⟨_, Gs_46, _, rfl, hz_46, hg_46, (S46.f3 0 hcG_46 1 hcK_46 2 hcA_46)⟩

set_option maxHeartbeats 4000000 in
theorem kAt_c {C N Z K Q : Int} {lv : Value} {os : List OpC} {fv : Value} {full : List Int} {a : Int} {w : World} (h_lv : Ro w NoX (rl 7 opC lv os)) (h_fv : Ro w NoX (il .i64 fv full))  :
  Calls Tryz.prog 16 #[.agg #[.int .i64 C, .int .i64 N, .int .i64 Z, .int .i64 K, .int .i64 Q], lv, fv, .int .i64 a] w fun e w' => ∃ G, e = .returned (.tuple #[.agg #[G.1.1, G.2.1], .int .i64 (atE (cfE C N Z K Q) (lgN C N Z K Q) K os full a)]) ∧ (gab G = (atG (cfE C N Z K Q) (lgN C N Z K Q) K os full a)) ∧ St w NoX [gls [G]] w' := by
 refine ci4 42 Tryz.func16 V (fun A0 _ F0 => ?_)
 have hS := St.nil w
 have bh_lv := SlN.le (sl_SlN h_lv.at)
 have bh_fv := SlN.le (sl_SlN h_fv.at)
 refine tb fun _ H1 => (wB (#[.int .i64 (C), .int .i64 (N), .int .i64 (Z), .int .i64 (K), .int .i64 (Q)]) hS (fg0 F0) (fun g2 w2 c2 hc2 S2 => wA (#[.slice none 0 0, .slice none 0 0]) S2 (fun g3 w3 c3 hc3 S3 => vc (W_end (en (Qa (Kb F0)) fun A4 _ F4 => ta H1 fun _ H5 => (ra (fg1 F4) (S3.ob 1 hc2) (vm (Sa (fg3 F4)) (vm (Sb (fg4 F4)) (wc (args3 (Sb t0) (Sa t0) t0) (kpl_c (C := C) (N := N) (Z := Z) (K := K) (Q := Q) (S3.roC h_lv) (S3.roC h_fv)) ?_)))))))))
 rintro _ w6 (⟨rfl, hz_6, hP6⟩ | ⟨gv_6, Gs_6, av_6, rfl, hz_6, hg_6, hP6⟩)
 ·refine ⟨_, rfl, ?_⟩
  have S6 := S3.j0 hP6
  refine vm t0 (vx (.slice none 0 0) t0 (vx (.slice none 0 0) (Sa t0) (vx (.int .i64 ((plF (cfE C N Z K Q) (lgN C N Z K Q) K os full).1)) (Sb t0) (vx (.int .i64 ((plF (cfE C N Z K Q) (lgN C N Z K Q) K os full).2)) (Sc t0) (va (Sc t0) (va (Sc t0) (va (Sc t0) (va (Sc t0) (W_end (en (Ka (Qb (Ka (Qa (Qh F4))))) fun A7 _ F7 => ?_))))))))))
  have S8 := S6.se [0] [c3]
  refine tc H5 fun _ H9 => wp_block (tb fun _ H10 => (vm (fg0 F7) (vn t0 V (vt (W_end (en (Ka (Qb F7)) fun A11 _ F11 => tk H10 (cond_sure (fg0 F11) (by rw [decide_eq_true_eq]; exact hz_6) (tb fun _ H12 => (wv (xbS (n := 2) (z := .agg #[.slice none 0 0, .slice none 0 0]) V parts0) (vm (Sa (fg1 F11)) (xsA0 S8 hc3 V V V (Sb (fg3 F11)) (Sa t0) (fun w13 c13 hc13 S13 => vt (W_end (en (Ka (Qb F11)) fun A14 _ F14 => tk H12 (wp_ret (inb_ret (then_ret (rt2 F14 (rvA (fg4 F14) (S13.ob 0 hc13)) (rv_tmp (fg0 F14)) ?_))))))))))))))))))
  obtain ⟨c15, hc15, S15⟩ := gen1 (gl_nl S13)
  have h := at_e (a := a) hz_6
  rw [h.1]
  exact ⟨((.slice none 0 0, []), (.slice none 0 0, [])), rfl, h.2.symm, (S15.f1 0 hc15)⟩
 refine ⟨_, rfl, ?_⟩
 obtain ⟨cG_6, cK_6, cA_6, hcG_6, hcK_6, hcA_6, hP6⟩ := gen3 hP6
 have S6 := S3.j3 hP6
 have hGl : Gs_6.length = os.length + 1 := by rw [mL hg_6, plG_len hz_6]
 have hol := pl_len hz_6
 refine vm t0 (vx gv_6 t0 (vx av_6 (Sa t0) (vx (.int .i64 0) (Sb t0) (vx (.int .i64 0) (Sc t0) (va (Sc t0) (va (Sc t0) (va (Sc t0) (va (Sc t0) (W_end (en (Ka (Qb (Ka (Qa (Qh F4))))) fun A16 _ F16 => ?_))))))))))
 have S17 := S6.se [0, 1, 3] [cG_6, cK_6, c3]
 refine tc H5 fun _ H18 => wp_block (tb fun _ H19 => (vm (fg0 F16) (vn t0 V (vt (W_end (en (Ka (Qb F16)) fun A20 _ F20 => tk H19 (cond_not (fg0 F20) Zg (tb fun _ H21 => (vm (fg8 F20) (vl t0 V (W_split V V (V_mov V t0) (fun c22 => ?_) (fun c22 => ?_))))))))))))
 ·refine xo V t0 (xo V (Sa t0) (xo V (Sb t0) (xo V (Sc t0) (vT (Sd t0) V (vt (W_end (en (Ka (Qh F20)) fun A23 _ F23 => tk H21 (cond_t (fg0 F23) (tb fun _ H24 => (wv (xbS (n := 2) (z := .agg #[.slice none 0 0, .slice none 0 0]) V parts0) (xsA2 S17 hc3 V V V (Sa (fg4 F23)) t0 (fun w25 c25 hc25 S25 => vc (W_end (en (Ka (Qa F23)) fun A26 _ F26 => ?_))))))))))))))
  have S27 := S25.se [1, 2] [cK_6, c25]
  refine tk H24 (wp_ret (inb_ret (then_ret (rt2 F26 (rvA (fg5 F26) (S27.ob 1 hc25)) (rv_tmp (fg0 F26)) ?_))))
  obtain ⟨c28, hc28, S28⟩ := gen1 (gl_nl S27)
  have h := at_7 (a := a) hz_6 Zb
  rw [h.1]
  exact ⟨((.slice none 0 0, []), (.slice none 0 0, [])), rfl, h.2.symm, (S28.f1 0 hc28)⟩
 refine wg V t0 (uvm (Sc (fg8 F20))) (wg V (Sa t0) (uvm (Sd (fg6 F20))) (wg V (Sb t0) (ule_ t0 (sl_SlN h_lv.at)) (wg V (Sc t0) (uvg (Sb t0) t0) (vF (Sd t0) t0 (vt (W_end (en (Ka (Qh F20)) fun A29 _ F29 => tk H21 (cd (fg0 F29) (fun c30 => ?_) fun c30 => ?_))))))))
 ·refine tb fun _ H31 => (wv (xbS (n := 2) (z := .agg #[.slice none 0 0, .slice none 0 0]) V parts0) (xsA2 S17 hc3 V V V (Sa (fg4 F29)) t0 (fun w32 c32 hc32 S32 => vc (W_end (en (Ka (Qa F29)) fun A33 _ F33 => ?_)))))
  have S34 := S32.se [1, 2] [cK_6, c32]
  refine tk H31 (wp_ret (inb_ret (then_ret (rt2 F33 (rvA (fg5 F33) (S34.ob 1 hc32)) (rv_tmp (fg0 F33)) ?_))))
  obtain ⟨c35, hc35, S35⟩ := gen1 (gl_nl S34)
  have h := at_7 (a := a) hz_6 Zb
  rw [h.1]
  exact ⟨((.slice none 0 0, []), (.slice none 0 0, [])), rfl, h.2.symm, (S35.f1 0 hc35)⟩
 refine wp_skip (inb_n (ta H18 fun _ H36 => (vm (fg3 F29) (vm (Sa (fg9 F29)) ?_))))
 have k37 : a.toNat < Gs_6.length := om
 obtain ⟨y37, hy37⟩ := get_some (xs := Gs_6) (k := a.toNat) k37
 have hsm37 := plG_at hg_6 hy37
 obtain ⟨B37, O37, C37, hv37⟩ := (SlN.blk (ow_at (S17.chq 0 rfl hcG_6)) om)
 refine wv (V_ixS (off := O37 + a.toNat * 2) 2 a.toNat V (Sa t0) t0 hv37 Zb k37 Tryz.underlying64 kr V) (wr (VR_ldR (ys := grC y37) V t0 (SlN.row grC_len (ow_at (S17.cq 0 hcG_6)) hv37 hy37 V) Tryz.underlying30 V kr) (xsB2 S17 hc3 V V V (Sd (fg4 F29)) t0 (by simp only [List.all_toArray, List.all_cons, List.all_nil, grC, SlN_one (sl_SlN (gl_oa (List.mem_of_getElem? hy37) (S17.cq 1 hcK_6))), SlN_one (sl_SlN (gl_ra (List.mem_of_getElem? hy37) (S17.cq 1 hcK_6)))] <;> rfl) (fun w38 c38 hc38 S38 => vc (W_end (en (Ka (Qd F29)) fun A39 _ F39 => ?_)))))
 have S40 := S38.se [1, 2] [cK_6, c38]
 refine tk H36 (wp_ret (rt2 F39 (rvA (fg5 F39) (S40.ob 1 hc38)) (rv_tmp (fg0 F39)) ?_))
 rw [hcK_6] at S40
 obtain ⟨c41, hc41, S41⟩ := gen1 (gl_subS (M := [y37]) S40 (fun G hG => by rw [List.mem_singleton] at hG; subst hG; exact List.mem_of_getElem? hy37))
 replace S41 : St w NoX [c41, c38] w38 := S41
 have h := at_k (a := a) hz_6 Zb hg_6 hy37
 rw [h.1]
 exact ⟨y37, rfl, h.2, (S41.f1 0 hc41)⟩

set_option maxHeartbeats 4000000 in
theorem qAt_c {C N Z K Q : Int} {lv : Value} {os : List OpC} {fv : Value} {full : List Int} {a : Int} {w : World} (h_lv : Ro w NoX (rl 7 opC lv os)) (h_fv : Ro w NoX (il .i64 fv full))  :
  Calls Tryz.prog 17 #[.agg #[.int .i64 C, .int .i64 N, .int .i64 Z, .int .i64 K, .int .i64 Q], lv, fv, .int .i64 a] w fun e w' => ∃ G, e = .returned (.tuple #[.agg #[G.1.1, G.2.1], .int .i64 (atE (cfE C N Z K Q) (lgN C N Z K Q) K os full a)]) ∧ (gab G = (atG (cfE C N Z K Q) (lgN C N Z K Q) K os full a)) ∧ St w NoX [gls [G]] w' := by
 refine ci4 43 Tryz.func17 V (fun A0 _ F0 => ?_)
 have hS := St.nil w
 have bh_lv := SlN.le (sl_SlN h_lv.at)
 have bh_fv := SlN.le (sl_SlN h_fv.at)
 refine tb fun _ H1 => (wB (#[.int .i64 (C), .int .i64 (N), .int .i64 (Z), .int .i64 (K), .int .i64 (Q)]) hS (fg0 F0) (fun g2 w2 c2 hc2 S2 => wA (#[.slice none 0 0, .slice none 0 0]) S2 (fun g3 w3 c3 hc3 S3 => vc (W_end (en (Qa (Kb F0)) fun A4 _ F4 => ta H1 fun _ H5 => (ra (fg1 F4) (S3.ob 1 hc2) (vm (Sa (fg3 F4)) (vm (Sb (fg4 F4)) (wc (args3 (Sb t0) (Sa t0) t0) (qpd_c (C := C) (N := N) (Z := Z) (K := K) (Q := Q) (S3.roC h_lv) (S3.roC h_fv)) ?_)))))))))
 rintro _ w6 (⟨rfl, hz_6, hP6⟩ | ⟨gv_6, Gs_6, av_6, rfl, hz_6, hg_6, hP6⟩)
 ·refine ⟨_, rfl, ?_⟩
  have S6 := S3.j0 hP6
  refine vm t0 (vx (.slice none 0 0) t0 (vx (.slice none 0 0) (Sa t0) (vx (.int .i64 ((plF (cfE C N Z K Q) (lgN C N Z K Q) K os full).1)) (Sb t0) (vx (.int .i64 ((plF (cfE C N Z K Q) (lgN C N Z K Q) K os full).2)) (Sc t0) (va (Sc t0) (va (Sc t0) (va (Sc t0) (va (Sc t0) (W_end (en (Ka (Qb (Ka (Qa (Qh F4))))) fun A7 _ F7 => ?_))))))))))
  have S8 := S6.se [0] [c3]
  refine tc H5 fun _ H9 => tb fun _ H10 => (vm (fg0 F7) (ve t0 V (W_sure (c' := false) V V (V_mov V t0) (by rw [decide_eq_false_iff_not]; exact hz_6) (xo V t0 (xo V (Sa t0) (xo V (Sb t0) (W_off V (wanted_u V V t0 (ez V)) (W_off V (wanted_u V V (Sa t0) (ez V)) (W_off V (wanted_u V V (Sb t0) (ez V)) (W_off V (wanted_u V V (Sc t0) (ez V)) (xo V (Sg t0) (vF (Sh t0) V (W_end (en (Ka (Qc (Qh F7))) fun A11 _ F11 => tk H10 (cond_f (fg0 F11) (wp_skip (tc H9 fun _ H12 => tb fun _ H13 => (vm (fg1 F11) (vn t0 V (W_end (en (Ka (Qa F11)) fun A14 _ F14 => tk H13 (cond_sure (fg0 F14) (by rw [decide_eq_true_eq]; exact hz_6) (tb fun _ H15 => (wv (xbS (n := 2) (z := .agg #[.slice none 0 0, .slice none 0 0]) V parts0) (vm (Sa (fg2 F14)) (xsA0 S8 hc3 V V V (Sb (fg4 F14)) (Sa t0) (fun w16 c16 hc16 S16 => vt (W_end (en (Ka (Qb F14)) fun A17 _ F17 => tk H15 (wp_ret (then_ret (rt2 F17 (rvA (fg5 F17) (S16.ob 0 hc16)) (rv_tmp (fg0 F17)) ?_))))))))))))))))))))))))))))))))
  obtain ⟨c18, hc18, S18⟩ := gen1 (gl_nl S16)
  have h := at_e (a := a) hz_6
  rw [h.1]
  exact ⟨((.slice none 0 0, []), (.slice none 0 0, [])), rfl, h.2.symm, (S18.f1 0 hc18)⟩
 refine ⟨_, rfl, ?_⟩
 obtain ⟨cG_6, cK_6, cA_6, hcG_6, hcK_6, hcA_6, hP6⟩ := gen3 hP6
 have S6 := S3.j3 hP6
 have hGl : Gs_6.length = os.length + 1 := by rw [mL hg_6, plG_len hz_6]
 have hol := pl_len hz_6
 refine vm t0 (vx gv_6 t0 (vx av_6 (Sa t0) (vx (.int .i64 0) (Sb t0) (vx (.int .i64 0) (Sc t0) (va (Sc t0) (va (Sc t0) (va (Sc t0) (va (Sc t0) (W_end (en (Ka (Qb (Ka (Qa (Qh F4))))) fun A19 _ F19 => ?_))))))))))
 have S20 := S6.se [0, 1, 3] [cG_6, cK_6, c3]
 refine tc H5 fun _ H21 => td fun _ H22 => wp_mid (G := fun A' w' => SzN A' 43 ∧ A'.defers = [] ∧ (EV A' (.tmp 3) = EV A19 (.tmp 3)) ∧ (EV A' (.tmp 8) = EV A19 (.tmp 8)) ∧ (EV A' (.tmp 10) = EV A19 (.tmp 10)) ∧ (EV A' (.tmp 13) = EV A19 (.tmp 13)) ∧ (EV A' (.tmp 34) = .bool (decide ((a < 0) ∨ ((os.length : Int) < a)))) ∧ St w NoX [cG_6, cK_6, c3] w') ?_ ?_
 ·have j3_23 := (fg7 F19)
  have j8_23 := (fg2 F19)
  have j10_23 := (fg1 F19)
  have j13_23 := (fg0 F19)
  refine region_in (vm (fg0 F19) (ve t0 V (W_sure (c' := true) V V (V_mov V t0) Zo (wg V t0 (uvm (Sc (fg7 F19))) (wg V (Sa t0) (uvl t0 V) (W_split V (xwt V V (Sb t0)) (V_mov V t0) (fun c24 => ?_) (fun c24 => ?_)))))))
  ·refine xo V t0 (xo V (Sa t0) (xo V (Sb t0) (xo V (Sc t0) (wg V (Sg t0) (uvT (Sd t0) V) (vT (Sh t0) t0 (W_end (en (Ka (Qc (Qh F19))) fun A25 Y25 F25 => ?_)))))))
   exact Mid_n ⟨Y25, F25.d, ((fg8 F25).trans j3_23.symm), ((fg3 F25).trans j8_23.symm), ((fg2 F25).trans j10_23.symm), ((fg1 F25).trans j13_23.symm), ((fg0 F25).trans (congrArg Value.bool ((decide_eq_true (.inl c24)).symm))), S20⟩
  refine wg V t0 (uvm (Sf (fg7 F19))) (wg V (Sa t0) (uvm (Sg (fg5 F19))) (wg V (Sb t0) (ule_ t0 (sl_SlN h_lv.at)) (wg V (Sc t0) (uvg (Sb t0) t0) (wg V (Sg t0) (uvF (Sd t0) t0) (vT (Sh t0) t0 (W_end (en (Ka (Qc (Qh F19))) fun A26 Y26 F26 => ?_)))))))
  exact Mid_n ⟨Y26, F26.d, ((fg8 F26).trans j3_23.symm), ((fg3 F26).trans j8_23.symm), ((fg2 F26).trans j10_23.symm), ((fg1 F26).trans j13_23.symm), ((fg0 F26).trans (congrArg Value.bool (decide_eq_decide.2 ⟨fun q => (.inr q), fun q => (q.resolve_left c24)⟩))), S20⟩
 rintro A23 w23 ⟨Y23, hdf23, u3_23, u8_23, u10_23, u13_23, l34_23, S23⟩
 have l3_23 := u3_23.trans (fg7 F19)
 have l8_23 := u8_23.trans (fg2 F19)
 have l10_23 := u10_23.trans (fg1 F19)
 have l13_23 := u13_23.trans (fg0 F19)
 refine tk H22 (cd l34_23 (fun c27 => ?_) fun c27 => ?_)
 ·refine region_in (vc (W_end (en (((((ck (FS.n hdf23) V V)).c (es V l3_23)).c (es V l8_23)).c (Sa l10_23)) fun A28 _ F28 => tc H21 fun _ H29 => tb fun _ H30 => (vm (fg3 F28) (vn t0 V (W_end (en (Ka (Qa F28)) fun A31 _ F31 => tk H30 (cond_sure (fg0 F31) Zg (tb fun _ H32 => (wv (xbS (n := 2) (z := .agg #[.slice none 0 0, .slice none 0 0]) V parts0) (vm (Sa (fg4 F31)) (xsA2 S23 hc3 V V V (Sb (fg2 F31)) (Sa t0) (fun w33 c33 hc33 S33 => vt (W_end (en (Ka (Qb F31)) fun A34 _ F34 => ?_)))))))))))))))
  have S35 := S33.se [1, 2] [cK_6, c33]
  refine tk H32 (wp_ret (then_ret (rt2 F34 (rvA (fg3 F34) (S35.ob 1 hc33)) (rv_tmp (fg0 F34)) ?_)))
  obtain ⟨c36, hc36, S36⟩ := gen1 (gl_nl S35)
  have h := at_7 (a := a) hz_6 Zb
  rw [h.1]
  exact ⟨((.slice none 0 0, []), (.slice none 0 0, [])), rfl, h.2.symm, (S36.f1 0 hc36)⟩
 refine wp_skip (tc H21 fun _ H37 => tb fun _ H38 => (vm l13_23 (vn t0 V (W_end (en ((((((ck (cq1 (FS.n hdf23) V) V V)).c (es2 V l3_23)).c (es2 V l8_23)).c (es2 V l10_23)).c (Sb l13_23)) fun A39 _ F39 => tk H38 (cond_not (fg4 F39) Zg (wp_skip (ta H37 fun _ H40 => (vm (fg1 F39) (vm (Sa (fg3 F39)) ?_))))))))))
 have k41 : a.toNat < Gs_6.length := om
 obtain ⟨y41, hy41⟩ := get_some (xs := Gs_6) (k := a.toNat) k41
 have hsm41 := plG_at hg_6 hy41
 obtain ⟨B41, O41, C41, hv41⟩ := (SlN.blk (ow_at (S23.chq 0 rfl hcG_6)) om)
 refine wv (V_ixS (off := O41 + a.toNat * 2) 2 a.toNat V (Sa t0) t0 hv41 Zb k41 Tryz.underlying64 kr V) (wr (VR_ldR (ys := grC y41) V t0 (SlN.row grC_len (ow_at (S23.cq 0 hcG_6)) hv41 hy41 V) Tryz.underlying30 V kr) (xsB2 S23 hc3 V V V (Sd (fg2 F39)) t0 (by simp only [List.all_toArray, List.all_cons, List.all_nil, grC, SlN_one (sl_SlN (gl_oa (List.mem_of_getElem? hy41) (S23.cq 1 hcK_6))), SlN_one (sl_SlN (gl_ra (List.mem_of_getElem? hy41) (S23.cq 1 hcK_6)))] <;> rfl) (fun w42 c42 hc42 S42 => vc (W_end (en (Ka (Qd F39)) fun A43 _ F43 => ?_)))))
 have S44 := S42.se [1, 2] [cK_6, c42]
 refine tk H40 (wp_ret (rt2 F43 (rvA (fg3 F43) (S44.ob 1 hc42)) (rv_tmp (fg0 F43)) ?_))
 rw [hcK_6] at S44
 obtain ⟨c45, hc45, S45⟩ := gen1 (gl_subS (M := [y41]) S44 (fun G hG => by rw [List.mem_singleton] at hG; subst hG; exact List.mem_of_getElem? hy41))
 replace S45 : St w NoX [c45, c42] w42 := S45
 have h := at_k (a := a) hz_6 Zb hg_6 hy41
 rw [h.1]
 exact ⟨y41, rfl, h.2, (S45.f1 0 hc45)⟩

set_option maxHeartbeats 4000000 in
theorem qLf_c {C N Z K Q : Int} {lv : Value} {os : List OpC} {fv : Value} {full : List Int} {a b : Int} {w : World} (h_lv : Ro w NoX (rl 7 opC lv os)) (h_fv : Ro w NoX (il .i64 fv full))  :
  Calls Tryz.prog 19 #[.agg #[.int .i64 C, .int .i64 N, .int .i64 Z, .int .i64 K, .int .i64 Q], lv, fv, .int .i64 a, .int .i64 b] w fun e w' => e = .returned (.tuple #[.int .i64 (lfF (cfE C N Z K Q) (lgN C N Z K Q) K os full a b).1, .int .i64 (lfF (cfE C N Z K Q) (lgN C N Z K Q) K os full a b).2]) ∧ St w NoX [] w' := by
 refine ci5 97 Tryz.func19 V (fun A0 _ F0 => ?_)
 have hS := St.nil w
 have bh_lv := SlN.le (sl_SlN h_lv.at)
 have bh_fv := SlN.le (sl_SlN h_fv.at)
 refine tb fun _ H1 => (wB (#[.int .i64 (C), .int .i64 (N), .int .i64 (Z), .int .i64 (K), .int .i64 (Q)]) hS (fg0 F0) (fun g2 w2 c2 hc2 S2 => vc (vc (W_end (en (Qb (Ka F0)) fun A3 _ F3 => ta H1 fun _ H4 => (ra (fg0 F3) (S2.ob 0 hc2) (vm (Sa (fg2 F3)) (vm (Sb (fg3 F3)) (wc (args3 (Sb t0) (Sa t0) t0) (qpd_c (C := C) (N := N) (Z := Z) (K := K) (Q := Q) (S2.roC h_lv) (S2.roC h_fv)) ?_)))))))))
 rintro _ w5 (⟨rfl, hz_5, hP5⟩ | ⟨gv_5, Gs_5, av_5, rfl, hz_5, hg_5, hP5⟩)
 ·refine ⟨_, rfl, ?_⟩
  have S5 := S2.j0 hP5
  refine vm t0 (vx (.slice none 0 0) t0 (vx (.slice none 0 0) (Sa t0) (vx (.int .i64 ((plF (cfE C N Z K Q) (lgN C N Z K Q) K os full).1)) (Sb t0) (vx (.int .i64 ((plF (cfE C N Z K Q) (lgN C N Z K Q) K os full).2)) (Sc t0) (va (Sc t0) (va (Sc t0) (va (Sc t0) (va (Sc t0) (W_end (en (Ka (Qb (Ka (Qa (Qh F3))))) fun A6 _ F6 => tc H4 fun _ H8 => tb fun _ H9 => (vm (fg0 F6) (ve t0 V (W_sure (c' := false) V V (V_mov V t0) (by rw [decide_eq_false_iff_not]; exact hz_5) (xo V t0 (xo V (Sa t0) (xo V (Sb t0) (W_off V (wanted_u V V t0 (ez V)) (W_off V (wanted_u V V (Sa t0) (ez V)) (W_off V (wanted_u V V (Sb t0) (ez V)) (xo V (Sf t0) (xo V (Sg t0) (W_off V (wanted_u V V t0 (ez V)) (W_off V (wanted_u V V (Sa t0) (ez V)) (W_off V (wanted_u V V (Sb t0) (ez V)) (W_off V (wanted_u V V (Sc t0) (ez V)) (xo V (Sh (Sd t0)) (vF (Sh (Se t0)) V (W_end (en (Ka (Qh (Qh F6))) fun A10 _ F10 => tk H9 (cond_f (fg0 F10) (wp_skip (tc H8 fun _ H11 => tb fun _ H12 => (vm (fg1 F10) (vn t0 V (W_end (en (Ka (Qa F10)) fun A13 _ F13 => tk H12 (cond_sure (fg0 F13) (by rw [decide_eq_true_eq]; exact hz_5) (tb fun _ H14 => (vm (fg2 F13) (vc (va (Sa t0) (W_end (en (Kb (Qa F13)) fun A15 _ F15 => tk H14 (wp_ret (then_ret (rt2 F15 (rv_tmp (fg1 F15)) (rv_tmp (fg0 F15)) ?_))))))))))))))))))))))))))))))))))))))))))))))
  have h : (lfF (cfE C N Z K Q) (lgN C N Z K Q) K os full a b) = (0, (plF (cfE C N Z K Q) (lgN C N Z K Q) K os full).2) := lf_e hz_5
  rw [h]
  exact ⟨rfl, S5.fin0⟩
 refine ⟨_, rfl, ?_⟩
 obtain ⟨cG_5, cK_5, cA_5, hcG_5, hcK_5, hcA_5, hP5⟩ := gen3 hP5
 have S5 := S2.j3 hP5
 have hGl : Gs_5.length = os.length + 1 := by rw [mL hg_5, plG_len hz_5]
 have hol := pl_len hz_5
 have S16 := S5.se [2, 3, 0, 1] [cA_5, c2, cG_5, cK_5]
 obtain ⟨Yb17, S17, hY17, hF17, hB17⟩ := St.call (pre := [cA_5, c2]) (fr := [cG_5, cK_5]) S16
 have back17 : ∀ w2 post, St w5 Yb17 post w2 → St w NoX post w2 := fun _ _ h => (hB17 _ _ h).left
 have h_lv_17 := hY17 _ h_lv
 have h_fv_17 := hY17 _ h_fv
 have fz17_0 : Ro w5 Yb17 (rl 2 grC gv_5 Gs_5) := (hcG_5 ▸ hF17 0 _ V : Ro w5 Yb17 (ro 2 grC gv_5 Gs_5)).own
 have fz17_1 : Ro w5 Yb17 (gls Gs_5) := (hcK_5 ▸ hF17 1 _ V : Ro w5 Yb17 (gls Gs_5))
 refine vm t0 (vx gv_5 t0 (vx av_5 (Sa t0) (vx (.int .i64 0) (Sb t0) (vx (.int .i64 0) (Sc t0) (va (Sc t0) (va (Sc t0) (va (Sc t0) (va (Sc t0) (W_end (en (Ka (Qb (Ka (Qa (Qh F3))))) fun A18 _ F18 => ?_))))))))))
 have S19 := S17.se [] []
 refine tc H4 fun _ H20 => td fun _ H21 => wp_mid (G := fun A' w' => SzN A' 97 ∧ A'.defers = [] ∧ (EV A' (.tmp 3) = EV A18 (.tmp 3)) ∧ (EV A' (.tmp 4) = EV A18 (.tmp 4)) ∧ (EV A' (.tmp 12) = EV A18 (.tmp 12)) ∧ (EV A' (.tmp 15) = EV A18 (.tmp 15)) ∧ (EV A' (.tmp 44) = .bool (decide ((a < 0) ∨ (b < a) ∨ ((os.length : Int) < b)))) ∧ St w5 Yb17 [] w') ?_ ?_
 ·have j3_22 := (fg6 F18)
  have j4_22 := (fg7 F18)
  have j12_22 := (fg1 F18)
  have j15_22 := (fg0 F18)
  refine region_in (vm (fg0 F18) (ve t0 V (W_sure (c' := true) V V (V_mov V t0) Zo (wg V t0 (uvm (Sc (fg6 F18))) (wg V (Sa t0) (uvl t0 V) (W_split V (xwt V V (Sb t0)) (V_mov V t0) (fun c23 => ?_) (fun c23 => ?_)))))))
  ·refine xo V t0 (xo V (Sa t0) (xo V (Sb t0) (wg V (Sf t0) (uvT (Sc t0) V) (wg V (Sg t0) (uvm t0) (xo V t0 (xo V (Sa t0) (xo V (Sb t0) (xo V (Sc t0) (wg V (Sh (Sd t0)) (uvT (Sd t0) V) (vT (Sh (Se t0)) t0 (W_end (en (Ka (Qh (Qh F18))) fun A24 Y24 F24 => ?_))))))))))))
   exact Mid_n ⟨Y24, F24.d, ((fg7 F24).trans j3_22.symm), ((fg8 F24).trans j4_22.symm), ((fg2 F24).trans j12_22.symm), ((fg1 F24).trans j15_22.symm), ((fg0 F24).trans (congrArg Value.bool ((decide_eq_true (.inl c23)).symm))), S19⟩
  refine wg V t0 (uvm (Sf (fg7 F18))) (wg V (Sa t0) (uvm (Sg (fg6 F18))) (wg V (Sb t0) (uvl (Sa t0) t0) (wg V (Sf t0) (uvF (Sc t0) t0) (W_split V (xwt V V (Sg t0)) (V_mov V t0) (fun c25 => ?_) (fun c25 => ?_)))))
  ·refine xo V t0 (xo V (Sa t0) (xo V (Sb t0) (xo V (Sc t0) (wg V (Sh (Sd t0)) (uvT (Sd t0) V) (vT (Sh (Se t0)) t0 (W_end (en (Ka (Qh (Qh F18))) fun A26 Y26 F26 => ?_)))))))
   exact Mid_n ⟨Y26, F26.d, ((fg7 F26).trans j3_22.symm), ((fg8 F26).trans j4_22.symm), ((fg2 F26).trans j12_22.symm), ((fg1 F26).trans j15_22.symm), ((fg0 F26).trans (congrArg Value.bool ((decide_eq_true (.inr (.inl c25))).symm))), S19⟩
  refine wg V t0 (uvm (Sh (Sc (fg7 F18)))) (wg V (Sa t0) (uvm (Sh (Sd (fg4 F18)))) (wg V (Sb t0) (ule_ t0 (sl_SlN h_lv_17.at)) (wg V (Sc t0) (uvg (Sb t0) t0) (wg V (Sh (Sd t0)) (uvF (Sd t0) t0) (vT (Sh (Se t0)) t0 (W_end (en (Ka (Qh (Qh F18))) fun A27 Y27 F27 => ?_)))))))
  exact Mid_n ⟨Y27, F27.d, ((fg7 F27).trans j3_22.symm), ((fg8 F27).trans j4_22.symm), ((fg2 F27).trans j12_22.symm), ((fg1 F27).trans j15_22.symm), ((fg0 F27).trans (congrArg Value.bool (decide_eq_decide.2 ⟨fun q => (.inr (.inr q)), fun q => ((q.resolve_left c23).resolve_left c25)⟩))), S19⟩
 rintro A22 w22 ⟨Y22, hdf22, u3_22, u4_22, u12_22, u15_22, l44_22, S22⟩
 have l3_22 := u3_22.trans (fg6 F18)
 have l4_22 := u4_22.trans (fg7 F18)
 have l12_22 := u12_22.trans (fg1 F18)
 have l15_22 := u15_22.trans (fg0 F18)
 refine tk H21 (cd l44_22 (fun c28 => ?_) fun c28 => ?_)
 ·refine region_in (vc (W_end (en (((((ck (FS.n hdf22) V V)).c (es V l3_22)).c (es V l4_22)).c (Sa l12_22)) fun A29 _ F29 => tc H20 fun _ H30 => tb fun _ H31 => (vm (fg3 F29) (vn t0 V (W_end (en (Ka (Qa F29)) fun A32 _ F32 => tk H31 (cond_sure (fg0 F32) Zg (tb fun _ H33 => (vm (fg4 F32) (vc (va (Sa t0) (W_end (en (Kb (Qa F32)) fun A34 _ F34 => tk H33 (wp_ret (then_ret (rt2 F34 (rv_tmp (fg1 F34)) (rv_tmp (fg0 F34)) ?_)))))))))))))))))
  have h : (lfF (cfE C N Z K Q) (lgN C N Z K Q) K os full a b) = (0, 7) := lf_7 hz_5 Zb
  rw [h]
  exact ⟨rfl, (back17 _ _ S22.fin0)⟩
 refine wp_skip (tc H20 fun _ H35 => tb fun _ H36 => (vm l15_22 (vn t0 V (W_end (en ((((((ck (cq1 (FS.n hdf22) V) V V)).c (es2 V l3_22)).c (es2 V l4_22)).c (es2 V l12_22)).c (Sb l15_22)) fun A37 _ F37 => tk H36 (cond_not (fg4 F37) Zg (wp_skip (ta H35 fun _ H38 => (vm (fg1 F37) (vm (Sa (fg3 F37)) ?_))))))))))
 have k39 : a.toNat < Gs_5.length := om
 obtain ⟨y39, hy39⟩ := get_some (xs := Gs_5) (k := a.toNat) k39
 have hsm39 := plG_at hg_5 hy39
 obtain ⟨B39, O39, C39, hv39⟩ := (SlN.blk (sl_SlN fz17_0.at) om)
 refine wv (V_ixS (off := O39 + a.toNat * 2) 2 a.toNat V (Sa t0) t0 hv39 Zb k39 Tryz.underlying64 kr V) ?_
 have fgy39o := gl_o (List.mem_of_getElem? hy39) fz17_1
 have fgy39n := gl_n (List.mem_of_getElem? hy39) fz17_1
 have fgy39r := gl_r (List.mem_of_getElem? hy39) fz17_1
 refine wr (VR_ldR (ys := grC y39) V t0 (SlN.row grC_len (sl_SlN (S22.ro fz17_0)) hv39 hy39 V) Tryz.underlying30 V kr) (wc (args1 t0) (qWd_c (S22.roC fgy39o) (S22.roC fgy39n) (S22.roC fgy39r) Ze) (C0 S22 fun w40 S40 => vm t0 (vx (.int .i64 ((wdN (y39.1.2.map ab) y39.2.2))) t0 (vx (.int .i64 ((ckG (y39.1.2.map ab) y39.2.2).2)) (Sa t0) (va (Sa t0) (va (Sa t0) (W_end (en (Qa (Ka (Qh F37))) fun A41 _ F41 => tc H38 fun _ H42 => tb fun _ H43 => (vm (fg2 F41) (vm (Sa (fg4 F41)) (wv (V_ixS (off := O39 + a.toNat * 2) 2 a.toNat V (Sa t0) t0 hv39 Zb k39 Tryz.underlying64 kr V) (wv (V_fa (off' := O39 + a.toNat * 2 + 0) V t0 Tryz.underlying30 V Zj V) (rd y39.1.1 t0 (SlN.row grC_len (sl_SlN (S40.ro fz17_0)) hv39 hy39 V 0 _ V) (le_ t0 (sl_SlN fgy39o.at) (vt (W_end (en (Ka (Qf F41)) fun A45 Y45 F45 => tk H43 (wp_block ?_))))))))))))))))))
 have k46 : b.toNat < Gs_5.length := by omega
 obtain ⟨y46, hy46⟩ := get_some (xs := Gs_5) (k := b.toNat) k46
 have hsm46 := plG_at hg_5 hy46
 have hlf46 := lf_len hz_5 hg_5 hy39 hy46 Zb
 -- loop 8
 have hdl : (y46.1.2.drop y39.1.2.length).length ≤ 200 := by rw [List.length_drop]; omega
 have hwf := WF_bd hsm39
 refine loopX (fun mz A' w' => SzN A' 97 ∧ A'.defers = [] ∧ (∃ (k : Nat), (mz = y46.1.2.length - k) ∧ (y39.1.2.length ≤ k ∧ k ≤ y46.1.2.length) ∧ (EV A' (.tmp 18) = .int .i64 (k : Int)) ∧ (EV A' (.tmp 16) = .int .i64 (WF (gab y39) + smB (y46.1.2.drop y39.1.2.length) (k - y39.1.2.length))) ∧ (EV A' (.tmp 4) = EV A45 (.tmp 4)) ∧ (EV A' (.tmp 12) = EV A45 (.tmp 12)) ∧ (St w5 Yb17 [] w'))) (y46.1.2.length - y39.1.2.length) ⟨Y45, F45.d, y39.1.2.length, rfl, ⟨by omega, by omega⟩, ((fg0 F45).trans Za), ((fg1 F45).trans (by rw [Nat.sub_self, smB_0, Int.add_zero]; rfl)), rfl, rfl, S40⟩ ?_
 clear S40
 rintro n47 A47 w47 ⟨Y47, hdf47, k, hm47, hk, l18_47, l16_47, u4_47, u12_47, S47⟩
 have l4_47 := u4_47.trans (fg4 F45)
 have l12_47 := u12_47.trans (fg3 F45)
 refine td fun _ H48 => tb fun _ H49 => (vm l18_47 (vm (Sa l12_47) (vm (Sb l4_47) (wv (V_ixS (off := O39 + b.toNat * 2) 2 b.toNat V (Sa t0) t0 hv39 Zb k46 Tryz.underlying64 kr V) (wv (V_fa (off' := O39 + b.toNat * 2 + 0) V t0 Tryz.underlying30 V Zj V) ?_)))))
 have fgy46o := gl_o (List.mem_of_getElem? hy46) fz17_1
 have fgy46n := gl_n (List.mem_of_getElem? hy46) fz17_1
 have fgy46r := gl_r (List.mem_of_getElem? hy46) fz17_1
 refine rd y46.1.1 t0 (SlN.row grC_len (sl_SlN (S47.ro fz17_0)) hv39 hy46 V 0 _ V) (le_ t0 (sl_SlN fgy46o.at) (vl (Sf t0) t0 (W_end (en ((((((ck (cq7 (FS.n hdf47) V) V V)).c (es8 V l4_47)).c (es8 V l12_47)).c (es8 V l16_47)).c (Sh l18_47)) fun A51 _ F51 => tk H49 (cd (fg4 F51) (fun c52 => ?_) fun c52 => ?_)))))
 ·have hbd := smB_bd (k := k - y39.1.2.length) (SM_drop (m := y39.1.2.length) hsm46)
  have hdl2 : (y46.1.2.drop y39.1.2.length).length ≤ 200 := by rw [List.length_drop]; omega
  refine wp_skip (tc H48 fun _ H53 => wp_block (region_monoS 25 25 [] kr kr (dm (fg1 F51) (dv (uad t0 V) (dm (Sb (fg2 F51)) (dm (Sc (fg3 F51)) (dv (V_ixS (off := O39 + b.toNat * 2) 2 b.toNat V (Sa t0) t0 hv39 Zb k46 Tryz.underlying64 kr V) (dv (V_fa (off' := O39 + b.toNat * 2 + 0) V t0 Tryz.underlying30 V Zj V) (dr (fun _ hx _ => (urd y46.1.1 t0 (SlN.row grC_len (sl_SlN ((S47.grow hx).ro fz17_0)) hv39 hy46 V 0 _ V))) (dm (Sg (fg0 F51)) ?_))))))))))
  have k55 : k < y46.1.2.length := om
  obtain ⟨y55, hy55⟩ := get_some (xs := y46.1.2) (k := k) k55
  have hsy55 := hsm46.at hy55
  obtain ⟨B55, O55, C55, hv55⟩ := (SlN.blk (sl_SlN fgy46o.at) om)
  refine dv (V_ixS (off := O55 + k * 2) 2 k V (Sa t0) t0 hv55 Zb k55 Tryz.underlying28 kr V) (dv (V_fa (off' := O55 + k * 2 + 0) V t0 Tryz.underlying70 V Zj V) ?_)
  have fn56 : Ro w5 Yb17 (il .i64 y55.1.1 y55.1.2) := nst_ro1 fgy46n hy55
  have bfn56 := SlN.le (sl_SlN (S47.ro fn56))
  have fn57 : Ro w5 Yb17 (il .u64 y55.2.1 y55.2.2) := nst_ro2 fgy46n hy55
  have bfn57 := SlN.le (sl_SlN (S47.ro fn57))
  refine dr (fun _ hx _ => (urd y55.1.1 t0 (SlN.row obC_len (sl_SlN ((S47.grow hx).ro fgy46o)) hv55 hy55 V 0 _ V))) (dv (ule_ t0 (sl_SlN fn56.at)) (dv (uad (Sh (Sb t0)) t0) (dm (Sh (Se (fg2 F51))) (dm (Sh (Sf (fg3 F51))) (dv (V_ixS (off := O39 + b.toNat * 2) 2 b.toNat V (Sa t0) t0 hv39 Zb k46 Tryz.underlying64 kr V) (dv (V_fa (off' := O39 + b.toNat * 2 + 0) V t0 Tryz.underlying30 V Zj V) (dr (fun _ hx _ => (urd y46.1.1 t0 (SlN.row grC_len (sl_SlN ((S47.grow hx).ro fz17_0)) hv39 hy46 V 0 _ V))) (dm (Sh (Sh (Sb (fg0 F51)))) (dv (V_ixS (off := O55 + k * 2) 2 k V (Sa t0) t0 hv55 Zb k55 Tryz.underlying28 kr V) (dv (V_fa (off' := O55 + k * 2 + 1) V t0 Tryz.underlying70 V Zj V) (dr (fun _ hx _ => (urd y55.2.1 t0 (SlN.row obC_len (sl_SlN ((S47.grow hx).ro fgy46o)) hv55 hy55 V 1 _ V))) (dv (ule_ t0 (sl_SlN fn57.at)) (dv (uad (Sh (Sb t0)) t0) (dv (V_asg V t0) (ZS_none S47 (Nat.le_refl _) (Nat.le_refl _) (fun s60 hJ60 hL60 hF60 => ?_))))))))))))))))
  have S60 := hJ60.st; clear hF60 hJ60 hL60
  generalize s60.1 = w60 at *
  replace S60 : St w5 Yb17 [] w60 := S60
  refine en (Ka (Qh (Qh (Qh (fx1 F51))))) fun A61 _ F61 => inb_n (tk H53 (region_in (vm (fg1 F61) (ad t0 V (vt (W_end (en (Ka (Qb (fx1 F61))) fun A62 Y62 F62 => then_n ⟨y46.1.2.length - (k + 1), by simp only [hm47]; omega, Y62, F62.d, (k + 1), rfl, Zb, ((fg0 F62).trans Za), ((fg1 F62).trans ((by rw [smD_s Zb hy55]; congr 1; omega))), ((fg3 F62).trans (fg4 F45).symm), ((fg2 F62).trans (fg3 F45).symm), S60⟩)))))))
 refine wp_exit (then_exit (then_exit (inb_hit (ta H42 fun _ H63 => (vm (fg1 F51) (vt (vc (W_end (en (Kb (Qa F51)) fun A64 _ F64 => tk H63 (wp_ret (rt2 F64 (rv_tmp (fg1 F64)) (rv_tmp (fg0 F64)) ?_)))))))))))
 have h : (lfF (cfE C N Z K Q) (lgN C N Z K Q) K os full a b) = ((WF (gab y39) + smB (y46.1.2.drop y39.1.2.length) (k - y39.1.2.length)), 0) := lf_k hz_5 Zb hg_5 hy39 hy46 Zb
 rw [h]
 exact ⟨rfl, (back17 _ _ S47.fin0)⟩

end Go.Proofs.YtpgkfndbfocibaaGreat