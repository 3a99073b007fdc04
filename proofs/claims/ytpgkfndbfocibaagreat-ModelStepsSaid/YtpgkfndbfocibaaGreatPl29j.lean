import Derived.Test.YtpgkfndbfocibaaGreatPl29h
/-! what Judge says -/
namespace Go.Own.Ml
open Go Go.Own Go.Own.R Go.Own.G Go.Own.Gr
def aD : AnC := ⟨0, false, 0⟩
section
variable {cf n K : Int} {l : List OpC} {ans : List AnC} {k : Nat} {y : OpC} {z : AnC} {G0 : GV} {pre : List ME} {x : ME}
end
end Go.Own.Ml
namespace Go.Own.Ml
open Go Go.Own Go.Own.R Go.Own.G Go.Own.Gr
/-! one step -/
def stE (cf K : Int) (g : GA) (c : OpC) : Int := if cf ≠ 0 then cf else if (ckG g.1 g.2).2 ≠ 0 then (ckG g.1 g.2).2 else if (g.2.length : Int) ≠ K then 7 else opE c
def stG (cf n K : Int) (g : GA) (c : OpC) : GA := if stE cf K g c ≠ 0 then dG else (doG n g c).1
def stA (cf n K : Int) (g : GA) (c : OpC) : AnC := if stE cf K g c ≠ 0 then aD else (doG n g c).2
section
variable {cf n K : Int} {g : GA} {c : OpC}
theorem st_e (h : stE cf K g c ≠ 0) : stG cf n K g c = dG ∧ stA cf n K g c = aD := by unfold stG stA; rw [if_pos h, if_pos h]; exact ⟨rfl, rfl⟩
theorem st_k (h : stE cf K g c = 0) : stG cf n K g c = (doG n g c).1 ∧ stA cf n K g c = (doG n g c).2 := by unfold stG stA; rw [if_neg (fun q => q h), if_neg (fun q => q h)]; exact ⟨rfl, rfl⟩
theorem st_cf (h : cf ≠ 0) : stE cf K g c = cf := if_pos h
theorem st_ck (h : ¬ cf ≠ 0) (h2 : (ckG g.1 g.2).2 ≠ 0) : stE cf K g c = (ckG g.1 g.2).2 := by unfold stE; rw [if_neg h, if_pos h2]
theorem st_7 (h : ¬ cf ≠ 0) (h2 : ¬ (ckG g.1 g.2).2 ≠ 0) (h3 : (g.2.length : Int) ≠ K) : stE cf K g c = 7 := by unfold stE; rw [if_neg h, if_neg h2, if_pos h3]
theorem st_op (h : ¬ cf ≠ 0) (h2 : ¬ (ckG g.1 g.2).2 ≠ 0) (h3 : ¬ (g.2.length : Int) ≠ K) : stE cf K g c = opE c := by unfold stE; rw [if_neg h, if_neg h2, if_neg h3]
end
end Go.Own.Ml
namespace Go.Own
open Go Go.RowKit
theorem gl_nl {w0 w : World} {X : Nat → Prop} {l : List HP} (h : St w0 X l w) : St w0 X (gls [((Value.slice none 0 0, ([] : List Ob)), (Value.slice none 0 0, ([] : List Int)))] :: l) w := by
  refine h.emp fun G hG => ?_
  rw [List.mem_singleton] at hG; subst hG
  exact ⟨sl_nil, fun o ho => (by cases ho), sl_nil⟩
end Go.Own
