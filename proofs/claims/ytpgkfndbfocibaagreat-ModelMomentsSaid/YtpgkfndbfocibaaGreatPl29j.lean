import Derived.Test.YtpgkfndbfocibaaGreatPl29h
namespace Go.Own.Ml
open Go Go.Own Go.Own.R Go.Own.G Go.Own.Gr
section
variable {cf n K : Int} {l : List OpC} {ans : List AnC} {k : Nat} {y : OpC} {z : AnC} {G0 : GV} {pre : List ME} {x : ME}
end
end Go.Own.Ml
namespace Go.Own.Ml
open Go Go.Own Go.Own.R Go.Own.G Go.Own.Gr
section
variable {cf n K : Int} {g : GA} {c : OpC}
end
end Go.Own.Ml
namespace Go.Own
open Go Go.RowKit
theorem gl_nl {w0 w : World} {X : Nat → Prop} {l : List HP} (h : St w0 X l w) : St w0 X (gls [((Value.slice none 0 0, ([] : List Ob)), (Value.slice none 0 0, ([] : List Int)))] :: l) w := by
 refine h.emp fun G hG => ?_
 rw [List.mem_singleton] at hG; subst hG
 exact ⟨sl_nil, fun o ho => (by cases ho), sl_nil⟩
end Go.Own
