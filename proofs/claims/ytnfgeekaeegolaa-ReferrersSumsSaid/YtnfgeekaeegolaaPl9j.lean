import Derived.Test.YtnfgeekaeegolaaPl9i
/-! counts added up in a map -/
namespace Go.Own.F
open Go Go.Own Go.Own.R Go.Own.S
structure KM (X : List (Int × Int)) (k : Nat) (M : List (Int × Int)) : Prop where
  nd : (M.map (·.1)).Nodup
  val : ∀ t, lkN M t = smN (X.take k) t
  pos : ∀ p ∈ M, 0 < p.2
  le : ∀ t, smN (X.take k) t ≤ 1600
  len : M.length ≤ k
end Go.Own.F
