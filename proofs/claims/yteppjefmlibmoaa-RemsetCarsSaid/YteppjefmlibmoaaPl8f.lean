import Derived.Test.YteppjefmlibmoaaPl8e
/-! From and Purge, set by set -/
namespace Go.Own.E
open Go Go.Own Go.Own.R Go.Own.S
theorem aI_rng (U : List SL) (x : Nat) : (x < U.length ∧ aI U x = (x : Int)) ∨ (¬ x < U.length ∧ aI U x = -1) := by
  by_cases h : x < U.length
  · exact .inl ⟨h, aI_at h⟩
  · exact .inr ⟨h, aI_end h⟩
theorem al_aS {U : List SL} {nv : Value} {ns : List Int} {x : Nat} (h : x < U.length + 1) : (csF U ++ [ns])[x]? = some (aS U nv ns x).2 := by
  have hl : x < (csF U ++ [ns]).length := by simp [csF_len]; omega
  rw [csF_aS, List.getD_eq_getElem?_getD, List.getElem?_eq_getElem hl]; rfl
theorem gD_aS {U : List SL} {nv : Value} {ns : List Int} {x : Nat} : (csF U ++ [ns]).getD x [] = (aS U nv ns x).2 := csF_aS.symm
theorem gD_row {V : List SL} {ms : List Int} {x : Nat} {y : SL} (h : V[x]? = some y) : (csF V ++ [ms]).getD x [] = y.2 := by
  rw [List.getD_eq_getElem?_getD, List.getElem?_append_left (by rw [csF_len]; exact (List.getElem?_eq_some_iff.1 h).1), csF_at h]; rfl
theorem gD_nur {V : List SL} {ms : List Int} {x : Nat} (h : x = V.length) : (csF V ++ [ms]).getD x [] = ms := by
  subst h
  rw [List.getD_eq_getElem?_getD, List.getElem?_append_right (by rw [csF_len]; exact Nat.le_refl _), csF_len, Nat.sub_self]; rfl
theorem ck_all {C N Z K Q : Int} {U : List SL} {nv : Value} {ns : List Int} (h : (rmP C N Z K Q (csF U) ns).2 = 0) (x : Nat) (hx : x < U.length + 1) : (ckS (aS U nv ns x).2).2 = 0 := by
  obtain ⟨h1, h2, h3, h4⟩ := rm_lens h
  by_cases q : x < U.length
  · have hy := List.getElem?_eq_getElem q
    rw [aS_at hy]
    exact (h2 _ (List.mem_of_getElem? (csF_at hy))).2
  · rw [aS_end (by omega)]; exact h4
section
variable {C N Z K Q i : Int} {X : List (List Int)} {ns : List Int}
def sgA (C N Z K Q : Int) (X : List (List Int)) (ns : List Int) (i : Int) : Int := if frE C N Z K Q X ns i ≠ 0 then 0 else spA C N Z K Q i
def sgB (C N Z K Q : Int) (X : List (List Int)) (ns : List Int) (i : Int) : Int := if frE C N Z K Q X ns i ≠ 0 then 0 else spB C N Z K Q i
theorem sg_bad (h : frE C N Z K Q X ns i ≠ 0) : sgA C N Z K Q X ns i = 0 ∧ sgB C N Z K Q X ns i = 0 := by unfold sgA sgB; rw [if_pos h, if_pos h]; exact ⟨rfl, rfl⟩
theorem sg_ok (h : frE C N Z K Q X ns i = 0) : sgA C N Z K Q X ns i = spA C N Z K Q i ∧ sgB C N Z K Q X ns i = spB C N Z K Q i ∧ spE C N Z K Q i = 0 ∧ cfE C N Z K Q = 0 ∧ (X.length : Int) = N := by
  obtain ⟨h1, h2, h3⟩ := fr_0 h
  obtain ⟨g1, g2, _⟩ := rm_0 h1
  refine ⟨by unfold sgA; rw [if_neg (by omega)], by unfold sgB; rw [if_neg (by omega)], sp_e0 g1 (by omega), g1, g2⟩
end
theorem frD_snoc {C N Z K Q i : Int} {L : List (List Int)} {pre : List Nat} {x : Nat} {c : List Int} (hp : pre = List.range x) (hy : L[x]? = some c) : frD C N Z K Q (L.take pre.length) i ++ rgT c (spA C N Z K Q i) (spB C N Z K Q i) = frD C N Z K Q (L.take (pre ++ [x]).length) i := by
  subst hp; simpa using frD_step hy
theorem frD_pre {C N Z K Q i : Int} {L : List (List Int)} {pre : List Nat} {x : Nat} (hp : pre = List.range x) : (frD C N Z K Q (L.take pre.length) i).length ≤ 1600 * L.length := by
  have h := frD_len (C := C) (N := N) (Z := Z) (K := K) (Q := Q) (i := i) (L.take pre.length)
  have : (L.take pre.length).length ≤ L.length := by rw [List.length_take]; omega
  exact Nat.le_trans h (Nat.mul_le_mul_left _ this)
/-! Purge -/
def psm (f : Nat → Int) : Nat → Int
  | 0 => 0
  | k + 1 => psm f k + f k
def pnF (L : List (List Int)) (car a b : Int) (j : Nat) : Int := if (j : Int) = car then lnN (L.getD j []) else pgN (L.getD j []) a b
def pgF (car a b : Int) (j : Nat) (c : List Int) : List Int := if (j : Int) = car then List.replicate 8 (0 : Int) else pgT c a b
def pgC (X : List (List Int)) (car a b : Int) : List (List Int) := X.mapIdx fun j c => pgF car a b j c
/-- the first k are purged. -/
def pgKK (X : List (List Int)) (car a b : Int) (k : Nat) : List (List Int) := X.mapIdx fun j c => if j < k then pgF car a b j c else c
theorem pgKK_len (X : List (List Int)) (car a b : Int) (k : Nat) : (pgKK X car a b k).length = X.length := by unfold pgKK; simp
theorem pgC_len (X : List (List Int)) (car a b : Int) : (pgC X car a b).length = X.length := by unfold pgC; simp
theorem pgKK_0 (X : List (List Int)) (car a b : Int) : pgKK X car a b 0 = X := by
  unfold pgKK
  apply List.ext_getElem?
  intro i
  rw [List.getElem?_mapIdx]
  cases X[i]? <;> simp
theorem pgKK_end {X : List (List Int)} {car a b : Int} {k : Nat} (h : X.length ≤ k) : pgKK X car a b k = pgC X car a b := by
  unfold pgKK pgC
  apply List.ext_getElem?
  intro i
  rw [List.getElem?_mapIdx, List.getElem?_mapIdx]
  by_cases q : i < X.length
  · rw [List.getElem?_eq_getElem q]; simp [show i < k by omega]
  · rw [List.getElem?_eq_none (by omega)]; rfl
theorem pgKK_set {X : List (List Int)} {car a b : Int} {k : Nat} {c y : List Int} (hc : X[k]? = some c) (hy : y = pgF car a b k c) : (pgKK X car a b k).set k y = pgKK X car a b (k + 1) := by
  obtain ⟨hk, rfl⟩ := List.getElem?_eq_some_iff.1 hc
  apply List.ext_getElem?
  intro i
  by_cases q : i = k
  · subst q
    rw [List.getElem?_set_self (by rw [pgKK_len]; exact hk), hy]
    unfold pgKK
    rw [List.getElem?_mapIdx, List.getElem?_eq_getElem hk]; simp
  · rw [List.getElem?_set_ne (by omega)]
    unfold pgKK
    rw [List.getElem?_mapIdx, List.getElem?_mapIdx]
    cases X[i]? with
    | none => rfl
    | some z =>
      simp only [Option.map_some]
      by_cases p : i < k
      · rw [if_pos p, if_pos (by omega)]
      · rw [if_neg p, if_neg (by omega)]
theorem pgKK_over {X : List (List Int)} {car a b : Int} {k : Nat} (h : X.length ≤ k) : pgKK X car a b k = pgKK X car a b (k + 1) := by rw [pgKK_end h, pgKK_end (by omega)]
def nuK (ns : List Int) (a b : Int) (n k : Nat) : List Int := if k ≤ n then ns else pgT ns a b
theorem nuK_le {ns : List Int} {a b : Int} {n k : Nat} (h : k ≤ n) : nuK ns a b n k = ns := by unfold nuK; rw [if_pos h]
theorem nuK_gt {ns : List Int} {a b : Int} {n k : Nat} (h : n < k) : nuK ns a b n k = pgT ns a b := by unfold nuK; rw [if_neg (by omega)]
theorem pgN_bd (c : List Int) (f t : Int) : 0 ≤ pgN c f t ∧ pgN c f t ≤ 1600 := by
  unfold pgN
  by_cases h : (ckS c).2 ≠ 0
  · rw [if_pos h]; omega
  · rw [if_neg h]
    have g := ck_iff.1 (show (ckS c).2 = 0 by omega)
    have h1 := adr_le g.rng g.dst
    have h2 := (pg_cnt f t c).1
    omega
theorem pnF_bd (L : List (List Int)) (car a b : Int) (j : Nat) : 0 ≤ pnF L car a b j ∧ pnF L car a b j ≤ 1600 := by
  unfold pnF; split
  · exact lnN_bd _
  · exact pgN_bd _ _ _
theorem psm_bd {f : Nat → Int} (h : ∀ j, 0 ≤ f j ∧ f j ≤ 1600) : ∀ k, 0 ≤ psm f k ∧ psm f k ≤ 1600 * (k : Int)
  | 0 => by simp [psm]
  | k + 1 => by have := psm_bd h k; have := h k; simp only [psm]; push_cast; omega
theorem pnF_car {L : List (List Int)} {car a b : Int} {j : Nat} (h : (j : Int) = car) : pnF L car a b j = lnN (L.getD j []) := by unfold pnF; rw [if_pos h]
theorem pnF_no {L : List (List Int)} {car a b : Int} {j : Nat} (h : (j : Int) ≠ car) : pnF L car a b j = pgN (L.getD j []) a b := by unfold pnF; rw [if_neg h]
section
variable {C N Z K Q i : Int} {X : List (List Int)} {ns : List Int}
def prC (C N Z K Q : Int) (X : List (List Int)) (ns : List Int) (i : Int) : List (List Int) := if frE C N Z K Q X ns i ≠ 0 then [] else pgC X i (spA C N Z K Q i) (spB C N Z K Q i)
def prN (C N Z K Q : Int) (X : List (List Int)) (ns : List Int) (i : Int) : List Int := if frE C N Z K Q X ns i ≠ 0 then [] else pgT ns (spA C N Z K Q i) (spB C N Z K Q i)
def prS (C N Z K Q : Int) (X : List (List Int)) (ns : List Int) (i : Int) : Int := if frE C N Z K Q X ns i ≠ 0 then 0 else psm (pnF (X ++ [ns]) i (spA C N Z K Q i) (spB C N Z K Q i)) (X.length + 1)
theorem pr_bad (h : frE C N Z K Q X ns i ≠ 0) : prC C N Z K Q X ns i = [] ∧ prN C N Z K Q X ns i = [] ∧ prS C N Z K Q X ns i = 0 := by unfold prC prN prS; rw [if_pos h, if_pos h, if_pos h]; exact ⟨rfl, rfl, rfl⟩
theorem pr_ok (h : frE C N Z K Q X ns i = 0) : prC C N Z K Q X ns i = pgC X i (spA C N Z K Q i) (spB C N Z K Q i) ∧ prN C N Z K Q X ns i = pgT ns (spA C N Z K Q i) (spB C N Z K Q i) ∧ prS C N Z K Q X ns i = psm (pnF (X ++ [ns]) i (spA C N Z K Q i) (spB C N Z K Q i)) (X.length + 1) := by
  unfold prC prN prS; rw [if_neg (by omega), if_neg (by omega), if_neg (by omega)]; exact ⟨rfl, rfl, rfl⟩
end
/-! steps over the numbers of the sets -/
theorem ct_at {L : List (List Int)} {n : Int} {pre : List Nat} {x : Nat} (hp : pre = List.range x) (hz : ctP L = ctGo n (L.drop pre.length)) : ctP L = ctGo n (L.drop x) := by subst hp; simpa using hz
theorem ct_snoc {L : List (List Int)} {n : Int} {pre : List Nat} {x : Nat} {c : List Int} (hp : pre = List.range x) (hz : ctP L = ctGo n (L.drop pre.length)) (hy : L[x]? = some c) (h : ¬ (ckS c).2 ≠ 0) : ctP L = ctGo (n + lnN c) (L.drop (pre ++ [x]).length) := by
  have := ct_step (ct_at hp hz) hy h
  subst hp; simpa using this
theorem smp_step {L M : List (List Int)} {pre : List Nat} {x : Nat} (hp : pre = List.range x) (hz : ∀ j, j < pre.length → smQ (L.getD j []) (M.getD j []) = true) (h : smQ (L.getD x []) (M.getD x []) = true) : ∀ j, j < (pre ++ [x]).length → smQ (L.getD j []) (M.getD j []) = true := by
  subst hp
  have := sm_step (k := x) (by simpa using hz) h
  simpa using this
section
variable {U V : List SL} {nv : Value} {ns : List Int} {car a b n : Int} {pre : List Nat} {x : Nat}
theorem prp_len (h : csF V = pgKK (csF U) car a b x) : V.length = U.length := by rw [← csF_len, h, pgKK_len, csF_len]
theorem pgF_car {j : Nat} {c : List Int} (h : (j : Int) = car) : List.replicate 8 (0 : Int) = pgF car a b j c := by unfold pgF; rw [if_pos h]
theorem pgF_no {j : Nat} {c : List Int} (h : (j : Int) ≠ car) : pgT c a b = pgF car a b j c := by unfold pgF; rw [if_neg h]
theorem prp_row {v : Value} {y : List Int} (hp : pre = List.range x) (hV : csF V = pgKK (csF U) car a b pre.length) (hx : x < U.length) (hy : y = pgF car a b x (aS U nv ns x).2) : csF (V.set x (v, y)) = pgKK (csF U) car a b (pre ++ [x]).length := by
  subst hp
  have hg := List.getElem?_eq_getElem hx
  rw [aS_at hg] at hy
  rw [csF_set, hV, List.length_range, List.length_append, List.length_range, List.length_singleton]
  exact pgKK_set (csF_at hg) hy
theorem prp_over (hp : pre = List.range x) (hV : csF V = pgKK (csF U) car a b pre.length) (hx : U.length ≤ x) : csF V = pgKK (csF U) car a b (pre ++ [x]).length := by
  subst hp
  rw [hV, List.length_range, List.length_append, List.length_range, List.length_singleton]
  exact pgKK_over (by rw [csF_len]; exact hx)
theorem nu_keep {m : Nat} (hp : pre = List.range x) (hx : x < m) : nuK ns a b m pre.length = nuK ns a b m (pre ++ [x]).length := by
  subst hp
  rw [nuK_le (by simp; omega), nuK_le (by simp; omega)]
theorem nu_last {m : Nat} {c : List Int} (hp : pre = List.range x) (hx : x = m) (hc : c = ns) : pgT c a b = nuK ns a b m (pre ++ [x]).length := by
  subst hp hc
  rw [nuK_gt (by simp; omega)]
theorem ps_snoc {f : Nat → Int} {e : Int} (hp : pre = List.range x) (hn : n = psm f pre.length) (he : e = f x) : n + e = psm f (pre ++ [x]).length := by
  subst hp
  rw [hn, he, List.length_range, List.length_append, List.length_range, List.length_singleton]; rfl
theorem pn_car (h : (x : Int) = car) : lnN (aS U nv ns x).2 = pnF (csF U ++ [ns]) car a b x := by rw [pnF_car h, gD_aS]
theorem pn_no (h : (x : Int) ≠ car) : pgN (aS U nv ns x).2 a b = pnF (csF U ++ [ns]) car a b x := by rw [pnF_no h, gD_aS]
end
end Go.Own.E
