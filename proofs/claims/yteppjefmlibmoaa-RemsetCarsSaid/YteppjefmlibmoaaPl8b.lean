import Derived.Test.YteppjefmlibmoaaPl8
import Derived.Test.YteppjefmlibmoaaSep8b
/-! new sets; all sets, one after the other -/
namespace Go.Own.E
open Go Go.Own Go.Own.R Go.Own.S
def r8 : List Int := List.replicate 8 (0 : Int)
def nwC (C N Z K Q : Int) : List (List Int) := if cfE C N Z K Q ≠ 0 then [] else List.replicate N.toNat (List.replicate 8 (0 : Int))
def nwN (C N Z K Q : Int) : List Int := if cfE C N Z K Q ≠ 0 then [] else List.replicate 8 (0 : Int)
theorem nw_e {C N Z K Q : Int} (h : cfE C N Z K Q ≠ 0) : nwC C N Z K Q = [] ∧ nwN C N Z K Q = [] := by unfold nwC nwN; rw [if_pos h, if_pos h]; exact ⟨rfl, rfl⟩
theorem nw_k {C N Z K Q : Int} (h : cfE C N Z K Q = 0) : nwC C N Z K Q = List.replicate N.toNat (List.replicate 8 (0 : Int)) ∧ nwN C N Z K Q = List.replicate 8 (0 : Int) := by
  unfold nwC nwN; rw [if_neg (by omega), if_neg (by omega)]; exact ⟨rfl, rfl⟩
/-- the first k sets are new, the others nil. -/
def nwK (n k : Nat) : List (List Int) := List.replicate k (List.replicate 8 (0 : Int)) ++ List.replicate (n - k) []
theorem nwK_end {n k : Nat} (h : n ≤ k) (h2 : k ≤ n := by omega) : nwK n k = List.replicate n (List.replicate 8 (0 : Int)) := by
  have : k = n := by omega
  subst this; unfold nwK; simp
theorem nwK_set {n k : Nat} (h : k < n) : (nwK n k).set k (List.replicate 8 (0 : Int)) = nwK n (k + 1) := by
  unfold nwK
  generalize List.replicate 8 (0 : Int) = r
  rw [List.set_append_right _ _ (by simp)]
  simp only [List.length_replicate, Nat.sub_self]
  obtain ⟨m, rfl⟩ : ∃ m, n = k + 1 + m := ⟨n - k - 1, by omega⟩
  rw [show k + 1 + m - k = m + 1 by omega, show k + 1 + m - (k + 1) = m by omega, List.replicate_succ, List.set_cons_zero, List.replicate_succ' (n := k), List.append_assoc]; rfl
theorem nwK_len {U : List SL} {n k : Nat} (h : csF U = nwK n k) (hk : k ≤ n) : U.length = n := by
  rw [← csF_len, h]; unfold nwK; simp; omega
end Go.Own.E
