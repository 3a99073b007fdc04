import Derived.Test.YtnfgeekaeegolaaSp11
import Derived.Test.YtnfgeekaeegolaaPl9f
import Derived.Test.YtnfgeekaeegolaaSepU
import Derived.Test.YtnfgeekaeegolaaSepY
/-! the library's IndexFunc and DeleteFunc over any elements -/
namespace Go.Own.G
open Go Go.Own
variable {α : Type}
def idxFG (p : α → Bool) (l : List α) : Int := match l.findIdx? p with | some i => (i : Int) | none => -1
def flG (p : α → Bool) (l : List α) : List α := l.filter fun x => !p x
def dfDG (p : α → Bool) (l gar : List α) (j : Nat) : List α := flG p (l.take j) ++ gar ++ l.drop j
end Go.Own.G

/-! slices of slices of counts, as arguments -/
namespace Go.Own.F
open Go Go.Own Go.Own.R Go.Own.S
abbrev RS := Value × List (Int × Int)
def nsr (us : List RS) : HP where
  p w f := ∀ y ∈ us, (rl 2 rcC y.1 y.2).p w f
  loc := fun h h1 h2 y hy => (rl 2 rcC y.1 y.2).loc (h y hy) h1 h2
theorem nsr_ro {w : World} {X : Nat → Prop} {us : List RS} {k : Nat} {y : RS} (h : Ro w X (nsr us)) (hy : us[k]? = some y) : Ro w X (rl 2 rcC y.1 y.2) := let ⟨f, h1, h2⟩ := h; ⟨f, h1 y (List.mem_of_getElem? hy), h2⟩
theorem nsr_one {w : World} {X : Nat → Prop} {v : Value} {l : List (Int × Int)} (h : Ro w X (rl 2 rcC v l)) : Ro w X (nsr [(v, l)]) := let ⟨f, h1, h2⟩ := h; ⟨f, fun y hy => by simp at hy; subst hy; exact h1, h2⟩
end Go.Own.F
