import Derived.Test.YteppjefmlibmoaaPl8e
/-! From and Purge, set by set -/
namespace Go.Own.E
open Go Go.Own Go.Own.R Go.Own.S
theorem al_aS {U : List SL} {nv : Value} {ns : List Int} {x : Nat} (h : x < U.length + 1) : (csF U ++ [ns])[x]? = some (aS U nv ns x).2 := by
  have hl : x < (csF U ++ [ns]).length := by simp [csF_len]; omega
  rw [csF_aS, List.getD_eq_getElem?_getD, List.getElem?_eq_getElem hl]; rfl
theorem ck_all {C N Z K Q : Int} {U : List SL} {nv : Value} {ns : List Int} (h : (rmP C N Z K Q (csF U) ns).2 = 0) (x : Nat) (hx : x < U.length + 1) : (ckS (aS U nv ns x).2).2 = 0 := by
  obtain ⟨h1, h2, h3, h4⟩ := rm_lens h
  by_cases q : x < U.length
  · have hy := List.getElem?_eq_getElem q
    rw [aS_at hy]
    exact (h2 _ (List.mem_of_getElem? (csF_at hy))).2
  · rw [aS_end (by omega)]; exact h4
section
variable {C N Z K Q i : Int} {X : List (List Int)} {ns : List Int}
def sgA (C N Z K Q : Int) (X : List (List Int)) (ns : List Int) (i : Int) : Int := if frE C N Z K Q X ns i ≠ 0 then 0 else spA C N Z K Q i
def sgB (C N Z K Q : Int) (X : List (List Int)) (ns : List Int) (i : Int) : Int := if frE C N Z K Q X ns i ≠ 0 then 0 else spB C N Z K Q i
theorem sg_bad (h : frE C N Z K Q X ns i ≠ 0) : sgA C N Z K Q X ns i = 0 ∧ sgB C N Z K Q X ns i = 0 := by unfold sgA sgB; rw [if_pos h, if_pos h]; exact ⟨rfl, rfl⟩
theorem sg_ok (h : frE C N Z K Q X ns i = 0) : sgA C N Z K Q X ns i = spA C N Z K Q i ∧ sgB C N Z K Q X ns i = spB C N Z K Q i ∧ spE C N Z K Q i = 0 ∧ cfE C N Z K Q = 0 ∧ (X.length : Int) = N := by
  obtain ⟨h1, h2, h3⟩ := fr_0 h
  obtain ⟨g1, g2, _⟩ := rm_0 h1
  refine ⟨by unfold sgA; rw [if_neg (by omega)], by unfold sgB; rw [if_neg (by omega)], sp_e0 g1 (by omega), g1, g2⟩
end
theorem tg0 {C N Z K Q i : Int} {L : List (List Int)} : tgK (frD C N Z K Q (L.take 0) i) 1600 = [] := by
  unfold tgK frD; simp
theorem tk_snoc {l : List Int} {j : Nat} {y : Int} (h : l[j]? = some y) : l.take j ++ [y] = l.take (j + 1) := by
  obtain ⟨hj, rfl⟩ := List.getElem?_eq_some_iff.1 h
  rw [List.take_add_one, List.getElem?_eq_getElem hj]; rfl
theorem frD_snoc {C N Z K Q i : Int} {L : List (List Int)} {pre : List Nat} {x : Nat} {c : List Int} (hp : pre = List.range x) (hy : L[x]? = some c) : frD C N Z K Q (L.take pre.length) i ++ rgT c (spA C N Z K Q i) (spB C N Z K Q i) = frD C N Z K Q (L.take (pre ++ [x]).length) i := by
  subst hp; simpa using frD_step hy
theorem frD_pre {C N Z K Q i : Int} {L : List (List Int)} {pre : List Nat} {x : Nat} (hp : pre = List.range x) : (frD C N Z K Q (L.take pre.length) i).length ≤ 1600 * L.length := by
  have h := frD_len (C := C) (N := N) (Z := Z) (K := K) (Q := Q) (i := i) (L.take pre.length)
  have : (L.take pre.length).length ≤ L.length := by rw [List.length_take]; omega
  exact Nat.le_trans h (Nat.mul_le_mul_left _ this)
/-! Purge -/
def psm (f : Nat → Int) : Nat → Int
  | 0 => 0
  | k + 1 => psm f k + f k
def pnF (L : List (List Int)) (car a b : Int) (j : Nat) : Int := if (j : Int) = car then lnN (L.getD j []) else pgN (L.getD j []) a b
def pgF (car a b : Int) (j : Nat) (c : List Int) : List Int := if (j : Int) = car then List.replicate 8 (0 : Int) else pgT c a b
def pgC (X : List (List Int)) (car a b : Int) : List (List Int) := X.mapIdx fun j c => pgF car a b j c
/-- the first k are purged. -/
def pgKK (X : List (List Int)) (car a b : Int) (k : Nat) : List (List Int) := X.mapIdx fun j c => if j < k then pgF car a b j c else c
theorem pgC_len (X : List (List Int)) (car a b : Int) : (pgC X car a b).length = X.length := by unfold pgC; simp
def nuK (ns : List Int) (a b : Int) (n k : Nat) : List Int := if k ≤ n then ns else pgT ns a b
section
variable {C N Z K Q i : Int} {X : List (List Int)} {ns : List Int}
def prC (C N Z K Q : Int) (X : List (List Int)) (ns : List Int) (i : Int) : List (List Int) := if frE C N Z K Q X ns i ≠ 0 then [] else pgC X i (spA C N Z K Q i) (spB C N Z K Q i)
def prN (C N Z K Q : Int) (X : List (List Int)) (ns : List Int) (i : Int) : List Int := if frE C N Z K Q X ns i ≠ 0 then [] else pgT ns (spA C N Z K Q i) (spB C N Z K Q i)
def prS (C N Z K Q : Int) (X : List (List Int)) (ns : List Int) (i : Int) : Int := if frE C N Z K Q X ns i ≠ 0 then 0 else psm (pnF (X ++ [ns]) i (spA C N Z K Q i) (spB C N Z K Q i)) (X.length + 1)
theorem pr_bad (h : frE C N Z K Q X ns i ≠ 0) : prC C N Z K Q X ns i = [] ∧ prN C N Z K Q X ns i = [] ∧ prS C N Z K Q X ns i = 0 := by unfold prC prN prS; rw [if_pos h, if_pos h, if_pos h]; exact ⟨rfl, rfl, rfl⟩
theorem pr_ok (h : frE C N Z K Q X ns i = 0) : prC C N Z K Q X ns i = pgC X i (spA C N Z K Q i) (spB C N Z K Q i) ∧ prN C N Z K Q X ns i = pgT ns (spA C N Z K Q i) (spB C N Z K Q i) ∧ prS C N Z K Q X ns i = psm (pnF (X ++ [ns]) i (spA C N Z K Q i) (spB C N Z K Q i)) (X.length + 1) := by
  unfold prC prN prS; rw [if_neg (by omega), if_neg (by omega), if_neg (by omega)]; exact ⟨rfl, rfl, rfl⟩
end
/-! steps over the numbers of the sets -/
theorem ct_at {L : List (List Int)} {n : Int} {pre : List Nat} {x : Nat} (hp : pre = List.range x) (hz : ctP L = ctGo n (L.drop pre.length)) : ctP L = ctGo n (L.drop x) := by subst hp; simpa using hz
theorem ct_snoc {L : List (List Int)} {n : Int} {pre : List Nat} {x : Nat} {c : List Int} (hp : pre = List.range x) (hz : ctP L = ctGo n (L.drop pre.length)) (hy : L[x]? = some c) (h : ¬ (ckS c).2 ≠ 0) : ctP L = ctGo (n + lnN c) (L.drop (pre ++ [x]).length) := by
  have := ct_step (ct_at hp hz) hy h
  subst hp; simpa using this
section
variable {U V : List SL} {nv : Value} {ns : List Int} {car a b n : Int} {pre : List Nat} {x : Nat}
end
end Go.Own.E
