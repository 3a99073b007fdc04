import Derived.Test.YteppjefmlibmoaaGreatPl7e
namespace Go.Own.S
open Go Go.Own Go.Own.R
/-! Good -/
def Sz (c : List Int) : Prop := usd c = adr c ∧ (c.length = 8 ∨ 3 * c.length < 8 * adr c)
theorem pg_cnt (f t : Int) : ∀ c : List Int, adr (c.map (pg1 f t)) + c.countP (pgB f t) = adr c ∧ usd (c.map (pg1 f t)) = usd c
  | [] => ⟨rfl, rfl⟩
  | x :: c => by
    obtain ⟨h1, h2⟩ := pg_cnt f t c
    unfold adr at h1
    unfold usd at h2
    unfold adr usd
    simp only [List.map_cons, List.countP_cons]
    by_cases q : 0 < x ∧ f ≤ x ∧ x < t
    · have e1 : pg1 f t x = -1 := if_pos q
      have e2 : pgB f t x = true := decide_eq_true q
      have e3 : decide (x ≠ 0) = true := by simp; omega
      have e4 : decide (0 < x) = true := by simp; omega
      rw [e1, e2, e3, e4]
      simp at h1 h2 ⊢; omega
    · have e1 : pg1 f t x = x := if_neg q
      have e2 : pgB f t x = false := decide_eq_false q
      rw [e1, e2]
      simp at h1 h2 ⊢; omega
/-- no address is left, and as many cells. -/
structure Zr (n : Nat) (x : List Int) : Prop where
  gd : Gd x
  no : adr x = 0
  len : x.length = n
def rvK (l : List Int) (i : Nat) : List Int := List.replicate (l.length - i) 0 ++ (l.take i).reverse
theorem lsT_len (c : List Int) : (lsT c).length ≤ 1600 := by
  unfold lsT; split
  · simp
  · exact tgK_len c 1600
/-! Sets -/
def acC (r : Int × Bool) : List Value := [.int .u16 r.1, .bool r.2]
structure SR (x : List Int) (b : List Bool) (n : Int) : Prop where
  gd : Gd x
  len : b.length = 61
  mem : ∀ a : Nat, 1 ≤ a → a ≤ 60 → b[a]? = some (decide ((a : Int) ∈ x))
  top : ∀ y ∈ x, y ≤ 60
  num : n = ((adr x : Nat) : Int)
end Go.Own.S
