import Derived.Test.YtnfgeekaeegolaaPl9g
/-! counts of two lists added up -/
namespace Go.Own.F
open Go Go.Own Go.Own.R Go.Own.S
def mgE (l m : List (Int × Int)) : Int := if (ckL l).2 ≠ 0 then (ckL l).2 else if (ckL m).2 ≠ 0 then (ckL m).2 else if (plA l m).any (fun x => decide (1600 < x.2)) then 7 else 0
def mgT (l m : List (Int × Int)) : List (Int × Int) := if mgE l m ≠ 0 then [] else plA l m
theorem ck_vals {l : List (Int × Int)} (h : (ckL l).2 = 0) : l.length ≤ 1600 ∧ ∀ x ∈ l, 0 ≤ x.2 ∧ x.2 ≤ 1600 := by
  obtain ⟨h1, h2, _⟩ := ckL_iff.1 h
  exact ⟨h1, fun x hx => by have := (h2 x hx).2; omega⟩
end Go.Own.F
