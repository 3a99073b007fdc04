import Derived.Test.YtpgkfndbfocibaaGreatPl29j
import Derived.Test.YtpgkfndbfocibaaGreatPl15j
namespace Go.Own.Ml
open Go Go.Own Go.Own.R Go.Own.G Go.Own.Gr
section
variable {mx : Int} {g : GA} {c : OpC}
theorem fin_er {g' : GA} {er : Int} (h : (fin g er g').2.e ≠ 0) : (fin g er g').1 = g ∧ (fin g er g').2.t = false ∧ (fin g er g').2.v = 0 := by
 unfold fin at h ⊢
 exact ⟨if_neg h, rfl, rfl⟩
theorem doG_err (h : (doG mx g c).2.e ≠ 0) : (doG mx g c).1 = g ∧ (doG mx g c).2.t = false ∧ (doG mx g c).2.v = 0 := by
 by_cases h1 : c.kd = 1
 ·rw [do_1 h1] at h ⊢; exact fin_er h
 by_cases h2 : c.kd = 2
 ·rw [do_2 h2] at h ⊢; exact fin_er h
 by_cases h3 : c.kd = 3
 ·rw [do_3 h3] at h ⊢; exact fin_er h
 by_cases h4 : c.kd = 4
 ·rw [do_4 h4] at h ⊢
  refine ⟨rfl, rfl, ?_⟩
  show rdV g.1 g.2 c.a c.f = 0
  unfold rdV; exact if_pos h
 by_cases h5 : c.kd = 5
 ·rw [do_5 h5] at h ⊢; exact fin_er h
 by_cases h6 : c.kd = 6
 ·rw [do_6 h6] at h ⊢; exact fin_er h
 by_cases h7 : c.kd = 7
 ·rw [do_7 h7] at h ⊢; exact fin_er h
 by_cases h8 : c.kd = 8
 ·rw [do_8 h8] at h ⊢
  refine ⟨rfl, ?_, rfl⟩
  show Gr.alB g.1 g.2 c.a c.b = false
  unfold Gr.alB; exact decide_eq_false fun q => h q.1
 by_cases h9 : c.kd = 9
 ·rw [do_9 h9] at h ⊢
  exact ⟨rfl, decide_eq_false fun q => h q.1, rfl⟩
 by_cases h10 : c.kd = 10
 ·rw [do_10 h10] at h ⊢
  refine ⟨rfl, rfl, ?_⟩
  have h' : shE g.1 g.2 c.a ≠ 0 := h
  show 256 * shP g.1 g.2 c.a + shR g.1 g.2 c.a = 0
  unfold shP shR; rw [if_pos h', if_pos h']; rfl
 ·have : doG mx g c = (g, ⟨0, false, 0⟩) := by
   unfold doG; rw [if_neg h1, if_neg h2, if_neg h3, if_neg h4, if_neg h5, if_neg h6, if_neg h7, if_neg h8, if_neg h9, if_neg h10]
  rw [this] at h; exact absurd rfl h
theorem as_sm {G Gt : GV} (h : gab Gt = gab G) : smG (G.1.2.map ab) G.2.2 (Gt.1.2.map ab) Gt.2.2 = true := sm_same (congrArg Prod.fst h).symm (congrArg Prod.snd h).symm
end
end Go.Own.Ml
