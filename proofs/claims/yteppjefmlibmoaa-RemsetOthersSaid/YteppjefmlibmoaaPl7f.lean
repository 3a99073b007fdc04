import Derived.Test.YteppjefmlibmoaaPl7e
namespace Go.Own.S
open Go Go.Own Go.Own.R
/-! Good -/
def Sz (c : List Int) : Prop := usd c = adr c ∧ (c.length = 8 ∨ 3 * c.length < 8 * adr c)
/-- no address is left, and as many cells. -/
structure Zr (n : Nat) (x : List Int) : Prop where
  gd : Gd x
  no : adr x = 0
  len : x.length = n
def rvK (l : List Int) (i : Nat) : List Int := List.replicate (l.length - i) 0 ++ (l.take i).reverse
theorem hs_is {c : List Int} {a : Int} (h : Gd c) (ha : 1 ≤ a ∧ a ≤ 1600) : hsB c a = decide (a ∈ c) := by
  unfold hsB
  refine decide_eq_decide.2 ?_
  rw [(fnd_mem h.toGw (a := a) (by omega)).1]
  exact ⟨fun q => q.2, fun q => ⟨ch_iff.2 ⟨h, ha⟩, q⟩⟩
/-! Sets -/
def acC (r : Int × Bool) : List Value := [.int .u16 r.1, .bool r.2]
structure SR (x : List Int) (b : List Bool) (n : Int) : Prop where
  gd : Gd x
  len : b.length = 61
  mem : ∀ a : Nat, 1 ≤ a → a ≤ 60 → b[a]? = some (decide ((a : Int) ∈ x))
  top : ∀ y ∈ x, y ≤ 60
  num : n = ((adr x : Nat) : Int)
end Go.Own.S
