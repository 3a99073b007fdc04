import Derived.Test.YteppjefmlibmoaaPl7e
namespace Go.Own.S
open Go Go.Own Go.Own.R
theorem tgK_congr {c d : List Int} {k : Nat} (h : ∀ y, 0 < y → (y ∈ c ↔ y ∈ d)) : tgK c k = tgK d k := by
  refine asc_unique (tgK_asc c k) (tgK_asc d k) fun a => ?_
  rw [tgK_mem, tgK_mem]
  exact ⟨fun q => ⟨q.1, q.2.1, (h a (by omega)).1 q.2.2⟩, fun q => ⟨q.1, q.2.1, (h a (by omega)).2 q.2.2⟩⟩
/-! Good -/
def Sz (c : List Int) : Prop := usd c = adr c ∧ (c.length = 8 ∨ 3 * c.length < 8 * adr c)
/-- no address is left, and as many cells. -/
structure Zr (n : Nat) (x : List Int) : Prop where
  gd : Gd x
  no : adr x = 0
  len : x.length = n
def rvK (l : List Int) (i : Nat) : List Int := List.replicate (l.length - i) 0 ++ (l.take i).reverse
/-! Sets -/
def acC (r : Int × Bool) : List Value := [.int .u16 r.1, .bool r.2]
structure SR (x : List Int) (b : List Bool) (n : Int) : Prop where
  gd : Gd x
  len : b.length = 61
  mem : ∀ a : Nat, 1 ≤ a → a ≤ 60 → b[a]? = some (decide ((a : Int) ∈ x))
  top : ∀ y ∈ x, y ≤ 60
  num : n = ((adr x : Nat) : Int)
end Go.Own.S
