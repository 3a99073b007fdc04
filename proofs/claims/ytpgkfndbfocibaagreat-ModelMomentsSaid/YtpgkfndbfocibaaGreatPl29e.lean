import Derived.Test.YtpgkfndbfocibaaGreatPl29d
import Derived.Test.YtpgkfndbfocibaaGreatPl15j
import Derived.Test.YtpgkfndbfocibaaGreatSep29
namespace Go.Own.Ml
open Go Go.Own Go.Own.R Go.Own.G Go.Own.Gr
def alA (mx : Int) (g : GA) (a p q : Int) : Int := if ckd g.1 g.2 [a, a] ≠ 0 then ckd g.1 g.2 [a, a] else if p < 0 ∨ q < 0 then 10 else if mx < 1 + p + q then 11 else alE g.1 g.2 a p q
def fin (g : GA) (e : Int) (g' : GA) : GA × AnC := (if e = 0 then g' else g, ⟨e, false, 0⟩)
def doG (mx : Int) (g : GA) (c : OpC) : GA × AnC :=
 if c.kd = 1 then fin g (alA mx g c.a c.p c.q) (alO g.1 g.2 c.a c.p c.q, alR g.1 g.2 c.a c.p c.q)
 else if c.kd = 2 then fin g (ptE g.1 g.2 [c.a, c.b] c.b c.f) (ldO g.1 g.2 c.a c.b c.f, ldR g.1 g.2 c.a c.b c.f)
 else if c.kd = 3 then fin g (ptE g.1 g.2 [c.a, c.b] c.a c.f) (soO g.1 g.2 c.a c.f c.b, soR g.1 g.2 c.a c.f c.b)
 else if c.kd = 4 then (g, ⟨rwE g.1 g.2 [c.a] c.a c.f, false, rdV g.1 g.2 c.a c.f⟩)
 else if c.kd = 5 then fin g (rwE g.1 g.2 [c.a] c.a c.f) (wrO g.1 g.2 c.a c.f c.u, wrR g.1 g.2 c.a c.f)
 else if c.kd = 6 then fin g (ckd g.1 g.2 [c.a, c.b]) (kpO g.1 g.2 [c.a, c.b], mvR g.1 g.2 c.a c.b)
 else if c.kd = 7 then fin g (ckd g.1 g.2 [c.a]) (kpO g.1 g.2 [c.a], clR g.1 g.2 c.a)
 else if c.kd = 8 then (g, ⟨ckd g.1 g.2 [c.a, c.b], alB g.1 g.2 c.a c.b, 0⟩)
 else if c.kd = 9 then (g, ⟨ckd g.1 g.2 [c.a, c.a], decide (ckd g.1 g.2 [c.a, c.a] = 0 ∧ rg g.2 c.a = 0), 0⟩)
 else if c.kd = 10 then (g, ⟨shE g.1 g.2 c.a, false, 256 * shP g.1 g.2 c.a + shR g.1 g.2 c.a⟩)
 else (g, ⟨0, false, 0⟩)
section
variable {mx : Int} {g : GA} {c : OpC}
theorem do_1 (h : c.kd = 1) : doG mx g c = fin g (alA mx g c.a c.p c.q) (alO g.1 g.2 c.a c.p c.q, alR g.1 g.2 c.a c.p c.q) := if_pos h
theorem do_2 (h : c.kd = 2) : doG mx g c = fin g (ptE g.1 g.2 [c.a, c.b] c.b c.f) (ldO g.1 g.2 c.a c.b c.f, ldR g.1 g.2 c.a c.b c.f) := by unfold doG; rw [if_neg (by omega), if_pos h]
theorem do_3 (h : c.kd = 3) : doG mx g c = fin g (ptE g.1 g.2 [c.a, c.b] c.a c.f) (soO g.1 g.2 c.a c.f c.b, soR g.1 g.2 c.a c.f c.b) := by unfold doG; rw [if_neg (by omega), if_neg (by omega), if_pos h]
theorem do_4 (h : c.kd = 4) : doG mx g c = (g, ⟨rwE g.1 g.2 [c.a] c.a c.f, false, rdV g.1 g.2 c.a c.f⟩) := by
 unfold doG; iterate 3 rw [if_neg (by omega)]
 rw [if_pos h]
theorem do_5 (h : c.kd = 5) : doG mx g c = fin g (rwE g.1 g.2 [c.a] c.a c.f) (wrO g.1 g.2 c.a c.f c.u, wrR g.1 g.2 c.a c.f) := by
 unfold doG; iterate 4 rw [if_neg (by omega)]
 rw [if_pos h]
theorem do_6 (h : c.kd = 6) : doG mx g c = fin g (ckd g.1 g.2 [c.a, c.b]) (kpO g.1 g.2 [c.a, c.b], mvR g.1 g.2 c.a c.b) := by
 unfold doG; iterate 5 rw [if_neg (by omega)]
 rw [if_pos h]
theorem do_7 (h : c.kd = 7) : doG mx g c = fin g (ckd g.1 g.2 [c.a]) (kpO g.1 g.2 [c.a], clR g.1 g.2 c.a) := by
 unfold doG; iterate 6 rw [if_neg (by omega)]
 rw [if_pos h]
theorem do_8 (h : c.kd = 8) : doG mx g c = (g, ⟨ckd g.1 g.2 [c.a, c.b], alB g.1 g.2 c.a c.b, 0⟩) := by
 unfold doG; iterate 7 rw [if_neg (by omega)]
 rw [if_pos h]
theorem do_9 (h : c.kd = 9) : doG mx g c = (g, ⟨ckd g.1 g.2 [c.a, c.a], decide (ckd g.1 g.2 [c.a, c.a] = 0 ∧ rg g.2 c.a = 0), 0⟩) := by
 unfold doG; iterate 8 rw [if_neg (by omega)]
 rw [if_pos h]
theorem do_10 (h : c.kd = 10) : doG mx g c = (g, ⟨shE g.1 g.2 c.a, false, 256 * shP g.1 g.2 c.a + shR g.1 g.2 c.a⟩) := by
 unfold doG; iterate 9 rw [if_neg (by omega)]
 rw [if_pos h]
theorem do_0 (h : c.kd < 1 ∨ 10 < c.kd) : doG mx g c = (g, ⟨0, false, 0⟩) := by
 unfold doG; iterate 10 rw [if_neg (by omega)]
end
def gmem (x G : GV) (l : List GV) : Prop := x = G ∨ x ∈ l
theorem gm_0 {G : GV} {l : List GV} : gmem G G l := .inl rfl
theorem gm_1 {e : Int} {Gn G : GV} : gmem (if e = 0 then Gn else G) G [Gn] := by
 unfold gmem; split
 ·exact .inr m1
 ·exact .inl rfl
theorem fin_g {e : Int} {Gn G : GV} {g' : GA} (h : gab Gn = g') : gab (if e = 0 then Gn else G) = (fin (gab G) e g').1 := by
 unfold fin; split
 ·exact h
 ·rfl
def rgX (L : List Ab) (rs : List Int) (a : Int) : Int := if ckd L rs [a, a] ≠ 0 then 0 else rg rs a
theorem rgX_e {L : List Ab} {rs : List Int} {a : Int} (h : ckd L rs [a, a] ≠ 0) : rgX L rs a = 0 := if_pos h
theorem rgX_k {L : List Ab} {rs : List Int} {a y : Int} (h : ckd L rs [a, a] = 0) (hy : rs[a.toNat]? = some y) : rgX L rs a = y := by unfold rgX; rw [if_neg (by omega), rg_at hy]
theorem alA_e {mx : Int} {g : GA} {a p q : Int} (h : ckd g.1 g.2 [a, a] ≠ 0) : alA mx g a p q = ckd g.1 g.2 [a, a] := if_pos h
theorem alA_b {mx : Int} {g : GA} {a p q : Int} (h : ¬ ckd g.1 g.2 [a, a] ≠ 0) (h1 : p < 0 ∨ q < 0) : alA mx g a p q = 10 := by unfold alA; rw [if_neg h, if_pos h1]
theorem alA_t {mx : Int} {g : GA} {a p q : Int} (h : ¬ ckd g.1 g.2 [a, a] ≠ 0) (h1 : ¬ (p < 0 ∨ q < 0)) (h2 : mx < 1 + p + q) : alA mx g a p q = 11 := by unfold alA; rw [if_neg h, if_neg h1, if_pos h2]
theorem alA_k {mx : Int} {g : GA} {a p q : Int} (h : ¬ ckd g.1 g.2 [a, a] ≠ 0) (h1 : ¬ (p < 0 ∨ q < 0)) (h2 : ¬ mx < 1 + p + q) : alA mx g a p q = alE g.1 g.2 a p q := by unfold alA; rw [if_neg h, if_neg h1, if_neg h2]
theorem fin_e {g g' : GA} {e : Int} (h : e ≠ 0) : (fin g e g').1 = g := by unfold fin; rw [if_neg h]
theorem sh_rng {L : List Ab} {rs : List Int} {a : Int} (hs : SM L) : 0 ≤ shP L rs a ∧ shP L rs a ≤ 1048576 ∧ 0 ≤ shR L rs a ∧ shR L rs a ≤ 1048576 := by
 have key : (Gr.ob L rs a).1.length ≤ 1048576 ∧ (Gr.ob L rs a).2.length ≤ 1048576 := by
  unfold Gr.ob
  rcases Nat.lt_or_ge (rg rs a - 1).toNat L.length with h | h
  ·rw [List.getD_eq_getElem?_getD, List.getElem?_eq_getElem h]; exact hs _ (List.getElem_mem h)
  ·rw [List.getD_eq_getElem?_getD, List.getElem?_eq_none h]; decide
 unfold shP shR
 split <;> omega
end Go.Own.Ml
