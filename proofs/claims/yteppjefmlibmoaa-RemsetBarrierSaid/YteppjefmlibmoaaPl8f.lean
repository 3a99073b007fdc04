import Derived.Test.YteppjefmlibmoaaPl8e
/-! From and Purge, set by set -/
namespace Go.Own.E
open Go Go.Own Go.Own.R Go.Own.S
theorem aI_rng (U : List SL) (x : Nat) : (x < U.length ∧ aI U x = (x : Int)) ∨ (¬ x < U.length ∧ aI U x = -1) := by
  by_cases h : x < U.length
  · exact .inl ⟨h, aI_at h⟩
  · exact .inr ⟨h, aI_end h⟩
theorem al_aS {U : List SL} {nv : Value} {ns : List Int} {x : Nat} (h : x < U.length + 1) : (csF U ++ [ns])[x]? = some (aS U nv ns x).2 := by
  have hl : x < (csF U ++ [ns]).length := by simp [csF_len]; omega
  rw [csF_aS, List.getD_eq_getElem?_getD, List.getElem?_eq_getElem hl]; rfl
theorem gD_aS {U : List SL} {nv : Value} {ns : List Int} {x : Nat} : (csF U ++ [ns]).getD x [] = (aS U nv ns x).2 := csF_aS.symm
theorem gD_row {V : List SL} {ms : List Int} {x : Nat} {y : SL} (h : V[x]? = some y) : (csF V ++ [ms]).getD x [] = y.2 := by
  rw [List.getD_eq_getElem?_getD, List.getElem?_append_left (by rw [csF_len]; exact (List.getElem?_eq_some_iff.1 h).1), csF_at h]; rfl
theorem gD_nur {V : List SL} {ms : List Int} {x : Nat} (h : x = V.length) : (csF V ++ [ms]).getD x [] = ms := by
  subst h
  rw [List.getD_eq_getElem?_getD, List.getElem?_append_right (by rw [csF_len]; exact Nat.le_refl _), csF_len, Nat.sub_self]; rfl
section
variable {C N Z K Q i : Int} {X : List (List Int)} {ns : List Int}
def sgA (C N Z K Q : Int) (X : List (List Int)) (ns : List Int) (i : Int) : Int := if frE C N Z K Q X ns i ≠ 0 then 0 else spA C N Z K Q i
def sgB (C N Z K Q : Int) (X : List (List Int)) (ns : List Int) (i : Int) : Int := if frE C N Z K Q X ns i ≠ 0 then 0 else spB C N Z K Q i
end
/-! Purge -/
def psm (f : Nat → Int) : Nat → Int
  | 0 => 0
  | k + 1 => psm f k + f k
def pnF (L : List (List Int)) (car a b : Int) (j : Nat) : Int := if (j : Int) = car then lnN (L.getD j []) else pgN (L.getD j []) a b
def pgF (car a b : Int) (j : Nat) (c : List Int) : List Int := if (j : Int) = car then List.replicate 8 (0 : Int) else pgT c a b
def pgC (X : List (List Int)) (car a b : Int) : List (List Int) := X.mapIdx fun j c => pgF car a b j c
/-- the first k are purged. -/
def pgKK (X : List (List Int)) (car a b : Int) (k : Nat) : List (List Int) := X.mapIdx fun j c => if j < k then pgF car a b j c else c
theorem pgC_len (X : List (List Int)) (car a b : Int) : (pgC X car a b).length = X.length := by unfold pgC; simp
def nuK (ns : List Int) (a b : Int) (n k : Nat) : List Int := if k ≤ n then ns else pgT ns a b
section
variable {C N Z K Q i : Int} {X : List (List Int)} {ns : List Int}
def prC (C N Z K Q : Int) (X : List (List Int)) (ns : List Int) (i : Int) : List (List Int) := if frE C N Z K Q X ns i ≠ 0 then [] else pgC X i (spA C N Z K Q i) (spB C N Z K Q i)
def prN (C N Z K Q : Int) (X : List (List Int)) (ns : List Int) (i : Int) : List Int := if frE C N Z K Q X ns i ≠ 0 then [] else pgT ns (spA C N Z K Q i) (spB C N Z K Q i)
def prS (C N Z K Q : Int) (X : List (List Int)) (ns : List Int) (i : Int) : Int := if frE C N Z K Q X ns i ≠ 0 then 0 else psm (pnF (X ++ [ns]) i (spA C N Z K Q i) (spB C N Z K Q i)) (X.length + 1)
theorem pr_bad (h : frE C N Z K Q X ns i ≠ 0) : prC C N Z K Q X ns i = [] ∧ prN C N Z K Q X ns i = [] ∧ prS C N Z K Q X ns i = 0 := by unfold prC prN prS; rw [if_pos h, if_pos h, if_pos h]; exact ⟨rfl, rfl, rfl⟩
theorem pr_ok (h : frE C N Z K Q X ns i = 0) : prC C N Z K Q X ns i = pgC X i (spA C N Z K Q i) (spB C N Z K Q i) ∧ prN C N Z K Q X ns i = pgT ns (spA C N Z K Q i) (spB C N Z K Q i) ∧ prS C N Z K Q X ns i = psm (pnF (X ++ [ns]) i (spA C N Z K Q i) (spB C N Z K Q i)) (X.length + 1) := by
  unfold prC prN prS; rw [if_neg (by omega), if_neg (by omega), if_neg (by omega)]; exact ⟨rfl, rfl, rfl⟩
end
/-! steps over the numbers of the sets -/
theorem ct_at {L : List (List Int)} {n : Int} {pre : List Nat} {x : Nat} (hp : pre = List.range x) (hz : ctP L = ctGo n (L.drop pre.length)) : ctP L = ctGo n (L.drop x) := by subst hp; simpa using hz
theorem ct_snoc {L : List (List Int)} {n : Int} {pre : List Nat} {x : Nat} {c : List Int} (hp : pre = List.range x) (hz : ctP L = ctGo n (L.drop pre.length)) (hy : L[x]? = some c) (h : ¬ (ckS c).2 ≠ 0) : ctP L = ctGo (n + lnN c) (L.drop (pre ++ [x]).length) := by
  have := ct_step (ct_at hp hz) hy h
  subst hp; simpa using this
theorem smp_step {L M : List (List Int)} {pre : List Nat} {x : Nat} (hp : pre = List.range x) (hz : ∀ j, j < pre.length → smQ (L.getD j []) (M.getD j []) = true) (h : smQ (L.getD x []) (M.getD x []) = true) : ∀ j, j < (pre ++ [x]).length → smQ (L.getD j []) (M.getD j []) = true := by
  subst hp
  have := sm_step (k := x) (by simpa using hz) h
  simpa using this
section
variable {U V : List SL} {nv : Value} {ns : List Int} {car a b n : Int} {pre : List Nat} {x : Nat}
end
end Go.Own.E
