import Derived.Test.YtdilbnmaihmgnaaSepS
import Derived.Test.YtdilbnmaihmgnaaSepP
namespace Go.Own
open Go Go.Sort
def capS (v : Value) : Nat := match v with | .slice _ _ cap => cap | _ => 0
theorem SlN.capS {w : World} {s n : Nat} {v : Value} {xs : List Value} (h : SlN w s v n xs) : n ≤ capS v := by
  obtain ⟨a, cap, rfl, h1, _⟩ := h; exact h1
end Go.Own
