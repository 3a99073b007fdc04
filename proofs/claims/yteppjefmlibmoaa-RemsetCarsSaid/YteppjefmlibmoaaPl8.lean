import Derived.Test.YteppjefmlibmoaaPl7f
/-! layer 8, the plain side: configs, addresses, the check of sets, what Record, Forget and Store make -/
namespace Go.Own.E
open Go Go.Own Go.Own.R Go.Own.S
/-- the error of a config: words of a car C, cars N, nursery Z, registers K, popular Q. -/
def cfE (C N Z K Q : Int) : Int := if (8 ≤ C ∧ C ≤ 64) ∧ (7 ≤ N ∧ N ≤ 24) ∧ (4 ≤ Z ∧ Z ≤ 64) ∧ (1 ≤ K ∧ K ≤ 8) ∧ (2 ≤ Q ∧ Q ≤ 16) then 0 else 7
theorem cf_rng {C N Z K Q : Int} (h : cfE C N Z K Q = 0) : (8 ≤ C ∧ C ≤ 64) ∧ (7 ≤ N ∧ N ≤ 24) ∧ (4 ≤ Z ∧ Z ≤ 64) ∧ (1 ≤ K ∧ K ≤ 8) ∧ (2 ≤ Q ∧ Q ≤ 16) := by
  unfold cfE at h; split at h
  · assumption
  · cases h
theorem cf_ok {C N Z K Q : Int} (h : (8 ≤ C ∧ C ≤ 64) ∧ (7 ≤ N ∧ N ≤ 24) ∧ (4 ≤ Z ∧ Z ≤ 64) ∧ (1 ≤ K ∧ K ≤ 8) ∧ (2 ≤ Q ∧ Q ≤ 16)) : cfE C N Z K Q = 0 := by unfold cfE; rw [if_pos h]
theorem cf_bad {C N Z K Q : Int} (h : ¬ ((8 ≤ C ∧ C ≤ 64) ∧ (7 ≤ N ∧ N ≤ 24) ∧ (4 ≤ Z ∧ Z ≤ 64) ∧ (1 ≤ K ∧ K ≤ 8) ∧ (2 ≤ Q ∧ Q ≤ 16))) : cfE C N Z K Q = 7 := by unfold cfE; rw [if_neg h]
theorem mul_rng {N C : Int} (h1 : 7 ≤ N ∧ N ≤ 24) (h2 : 8 ≤ C ∧ C ≤ 64) : 56 ≤ N * C ∧ N * C ≤ 1536 := by
  have a := Int.mul_le_mul h1.1 h2.1 (by omega) (by omega)
  have b := Int.mul_le_mul h1.2 h2.2 (by omega) (by omega)
  omega
theorem mul_rng0 {N C : Int} (h1 : 0 ≤ N ∧ N ≤ 24) (h2 : 8 ≤ C ∧ C ≤ 64) : 0 ≤ N * C ∧ N * C ≤ 1536 := by
  have a := Int.mul_nonneg h1.1 (show 0 ≤ C by omega)
  have b := Int.mul_le_mul h1.2 h2.2 (by omega) (by omega)
  omega
/-- the words of the arena. -/
def wdN (C N Z K Q : Int) : Int := if cfE C N Z K Q ≠ 0 then 0 else 1 + Z + N * C
theorem wd_ok {C N Z K Q : Int} (h : cfE C N Z K Q = 0) : wdN C N Z K Q = 1 + Z + N * C ∧ 61 ≤ wdN C N Z K Q ∧ wdN C N Z K Q ≤ 1601 := by
  have hr := cf_rng h
  have hm := mul_rng hr.2.1 hr.1
  have e : wdN C N Z K Q = 1 + Z + N * C := by unfold wdN; rw [if_neg (by omega)]
  omega
theorem wd_bad {C N Z K Q : Int} (h : cfE C N Z K Q ≠ 0) : wdN C N Z K Q = 0 := by unfold wdN; rw [if_pos h]
/-- the car of an address. -/
def caE (C N Z K Q a : Int) : Int := if cfE C N Z K Q ≠ 0 then cfE C N Z K Q else if 1 ≤ a ∧ a < 1 + Z + N * C then 0 else 7
def caN (C N Z K Q a : Int) : Int := if caE C N Z K Q a ≠ 0 then 0 else if a ≤ Z then -1 else (a - (1 + Z)) / C
def caO (C N Z K Q a : Int) : Int := if caE C N Z K Q a ≠ 0 then 0 else if a ≤ Z then a - 1 else (a - (1 + Z)) % C
theorem ca_0 {C N Z K Q a : Int} (h : caE C N Z K Q a = 0) : cfE C N Z K Q = 0 ∧ 1 ≤ a ∧ a < 1 + Z + N * C ∧ a ≤ 1600 := by
  unfold caE at h
  split at h
  · omega
  · rename_i h0
    have h0 : cfE C N Z K Q = 0 := by omega
    have hw := wd_ok h0
    split at h
    · omega
    · cases h
theorem ca_e1 {C N Z K Q a : Int} (h : cfE C N Z K Q ≠ 0) : caE C N Z K Q a = cfE C N Z K Q := by unfold caE; rw [if_pos h]
theorem ca_e2 {C N Z K Q a : Int} (h : cfE C N Z K Q = 0) (h2 : ¬ (1 ≤ a ∧ a < 1 + Z + N * C)) : caE C N Z K Q a = 7 := by unfold caE; rw [if_neg (by omega), if_neg h2]
theorem ca_e0 {C N Z K Q a : Int} (h : cfE C N Z K Q = 0) (h2 : 1 ≤ a ∧ a < 1 + Z + N * C) : caE C N Z K Q a = 0 := by unfold caE; rw [if_neg (by omega), if_pos h2]
theorem ca_bad {C N Z K Q a : Int} (h : caE C N Z K Q a ≠ 0) : caN C N Z K Q a = 0 ∧ caO C N Z K Q a = 0 := by unfold caN caO; rw [if_pos h, if_pos h]; exact ⟨rfl, rfl⟩
theorem ca_young {C N Z K Q a : Int} (h : caE C N Z K Q a = 0) (h2 : a ≤ Z) : caN C N Z K Q a = -1 ∧ caO C N Z K Q a = a - 1 := by unfold caN caO; rw [if_neg (by omega), if_pos h2, if_neg (by omega), if_pos h2]; exact ⟨rfl, rfl⟩
theorem ca_car {C N Z K Q a : Int} (h : caE C N Z K Q a = 0) (h2 : ¬ a ≤ Z) : caN C N Z K Q a = (a - (1 + Z)) / C ∧ caO C N Z K Q a = (a - (1 + Z)) % C := by unfold caN caO; rw [if_neg (by omega), if_neg h2, if_neg (by omega), if_neg h2]; exact ⟨rfl, rfl⟩
/-- the addresses of a space. -/
def spE (C N Z K Q i : Int) : Int := if cfE C N Z K Q ≠ 0 then cfE C N Z K Q else if -1 ≤ i ∧ i < N then 0 else 7
def spA (C N Z K Q i : Int) : Int := if spE C N Z K Q i ≠ 0 then 0 else if i < 0 then 1 else 1 + Z + i * C
def spB (C N Z K Q i : Int) : Int := if spE C N Z K Q i ≠ 0 then 0 else if i < 0 then 1 + Z else 1 + Z + i * C + C
theorem sp_e1 {C N Z K Q i : Int} (h : cfE C N Z K Q ≠ 0) : spE C N Z K Q i = cfE C N Z K Q := by unfold spE; rw [if_pos h]
theorem sp_e2 {C N Z K Q i : Int} (h : cfE C N Z K Q = 0) (h2 : ¬ (-1 ≤ i ∧ i < N)) : spE C N Z K Q i = 7 := by unfold spE; rw [if_neg (by omega), if_neg h2]
theorem sp_e0 {C N Z K Q i : Int} (h : cfE C N Z K Q = 0) (h2 : -1 ≤ i ∧ i < N) : spE C N Z K Q i = 0 := by unfold spE; rw [if_neg (by omega), if_pos h2]
theorem sp_bad {C N Z K Q i : Int} (h : spE C N Z K Q i ≠ 0) : spA C N Z K Q i = 0 ∧ spB C N Z K Q i = 0 := by unfold spA spB; rw [if_pos h, if_pos h]; exact ⟨rfl, rfl⟩
theorem sp_young {C N Z K Q i : Int} (h : spE C N Z K Q i = 0) (h2 : i < 0) : spA C N Z K Q i = 1 ∧ spB C N Z K Q i = 1 + Z := by unfold spA spB; rw [if_neg (by omega), if_pos h2, if_neg (by omega), if_pos h2]; exact ⟨rfl, rfl⟩
theorem sp_car {C N Z K Q i : Int} (h : spE C N Z K Q i = 0) (h2 : ¬ i < 0) : spA C N Z K Q i = 1 + Z + i * C ∧ spB C N Z K Q i = 1 + Z + i * C + C := by unfold spA spB; rw [if_neg (by omega), if_neg h2, if_neg (by omega), if_neg h2]; exact ⟨rfl, rfl⟩
/-- an address is in the space of its car alone. -/
theorem sp_ca {C N Z K Q a i : Int} (ha : caE C N Z K Q a = 0) (hi : -1 ≤ i ∧ i < N) : spE C N Z K Q i = 0 ∧ ((spA C N Z K Q i ≤ a ∧ a < spB C N Z K Q i) ↔ caN C N Z K Q a = i) := by
  obtain ⟨h0, h1, h2, h3⟩ := ca_0 ha
  have hs := sp_e0 h0 hi
  have hr := cf_rng h0
  refine ⟨hs, ?_⟩
  by_cases q : i < 0
  · obtain ⟨e1, e2⟩ := sp_young hs q
    rw [e1, e2]
    by_cases p : a ≤ Z
    · rw [(ca_young ha p).1]; omega
    · rw [(ca_car ha p).1]
      have := Int.ediv_nonneg (show 0 ≤ a - (1 + Z) by omega) (show 0 ≤ C by omega)
      omega
  · obtain ⟨e1, e2⟩ := sp_car hs q
    rw [e1, e2]
    have hm := Int.mul_nonneg (show 0 ≤ i by omega) (show 0 ≤ C by omega)
    by_cases p : a ≤ Z
    · rw [(ca_young ha p).1]; omega
    · rw [(ca_car ha p).1]
      constructor
      · rintro ⟨x1, x2⟩
        have : a - (1 + Z) = (a - (1 + Z) - i * C) + i * C := by omega
        rw [this, Int.add_mul_ediv_right _ _ (by omega), Int.ediv_eq_zero_of_lt (by omega) (by omega)]; omega
      · intro e
        have g1 := Int.ediv_mul_le (a - (1 + Z)) (show C ≠ 0 by omega)
        have g2 := Int.lt_ediv_add_one_mul_self (a - (1 + Z)) (show 0 < C by omega)
        rw [e] at g1 g2
        rw [Int.add_mul, Int.one_mul] at g2
        omega
theorem ca_rng {C N Z K Q a : Int} (ha : caE C N Z K Q a = 0) : -1 ≤ caN C N Z K Q a ∧ caN C N Z K Q a < N := by
  obtain ⟨h0, h1, h2, h3⟩ := ca_0 ha
  have hr := cf_rng h0
  by_cases p : a ≤ Z
  · rw [(ca_young ha p).1]; omega
  · rw [(ca_car ha p).1]
    have g0 := Int.ediv_nonneg (show 0 ≤ a - (1 + Z) by omega) (show 0 ≤ C by omega)
    have g1 := Int.ediv_lt_of_lt_mul (show 0 < C by omega) (show a - (1 + Z) < N * C by omega)
    omega
/-- one set's error: i is its car, -1 the nursery. -/
def bdA (C N Z K Q i a : Int) : Bool := decide (caE C N Z K Q a ≠ 0 ∨ caN C N Z K Q a < 0 ∨ caN C N Z K Q a = i)
def wrE (C N Z K Q : Int) (c : List Int) (i : Int) : Int := if (ckS c).2 ≠ 0 then (ckS c).2 else if (lsT c).any (bdA C N Z K Q i) then 7 else 0
theorem wr_ck {C N Z K Q : Int} {c : List Int} {i : Int} (h : (ckS c).2 ≠ 0) : wrE C N Z K Q c i = (ckS c).2 := by unfold wrE; rw [if_pos h]
theorem wr_bad {C N Z K Q : Int} {c : List Int} {i a : Int} (h : (ckS c).2 = 0) (ha : a ∈ lsT c) (hb : bdA C N Z K Q i a = true) : wrE C N Z K Q c i = 7 := by
  unfold wrE; rw [if_neg (by omega), if_pos (List.any_eq_true.2 ⟨a, ha, hb⟩)]
theorem wr_ok {C N Z K Q : Int} {c : List Int} {i : Int} (h : (ckS c).2 = 0) (ha : ∀ a ∈ lsT c, ¬ bdA C N Z K Q i a = true) : wrE C N Z K Q c i = 0 := by
  unfold wrE; rw [if_neg (by omega), if_neg (fun q => by obtain ⟨a, h1, h2⟩ := List.any_eq_true.1 q; exact ha a h1 h2)]
theorem wr_0 {C N Z K Q : Int} {c : List Int} {i : Int} (h : wrE C N Z K Q c i = 0) : (ckS c).2 = 0 ∧ ∀ a ∈ lsT c, caE C N Z K Q a = 0 ∧ 0 ≤ caN C N Z K Q a ∧ caN C N Z K Q a ≠ i := by
  unfold wrE at h
  split at h
  · omega
  · split at h
    · cases h
    · rename_i h1 h2
      refine ⟨by omega, fun a ha => ?_⟩
      have : ¬ bdA C N Z K Q i a = true := fun q => h2 (List.any_eq_true.2 ⟨a, ha, q⟩)
      unfold bdA at this
      rw [decide_eq_true_eq] at this
      omega
theorem ls_mem {c : List Int} (h : (ckS c).2 = 0) {a : Int} : a ∈ lsT c ↔ 0 < a ∧ a ∈ c := by
  unfold lsT; rw [if_neg (by omega), tgK_mem]
  have hr := (ck_iff.1 h).rng
  constructor
  · rintro ⟨a1, a2, a3⟩; exact ⟨by omega, a3⟩
  · rintro ⟨a1, a2⟩; have := hr a a2; exact ⟨by omega, by omega, a2⟩
/-- all sets with their numbers. -/
def alC (cs : List (List Int)) (ns : List Int) : List (Int × List Int) := (cs.zipIdx.map fun p => ((p.2 : Int), p.1)) ++ [(-1, ns)]
theorem alC_len (cs : List (List Int)) (ns : List Int) : (alC cs ns).length = cs.length + 1 := by unfold alC; simp
theorem alC_at {cs : List (List Int)} {ns : List Int} {k : Nat} {c : List Int} (h : cs[k]? = some c) : (alC cs ns)[k]? = some ((k : Int), c) := by
  have hk := (List.getElem?_eq_some_iff.1 h).1
  unfold alC
  rw [List.getElem?_append_left (by simpa using hk), List.getElem?_map, List.getElem?_zipIdx, h]; simp
theorem alC_end {cs : List (List Int)} {ns : List Int} {k : Nat} (h : k = cs.length) : (alC cs ns)[k]? = some (-1, ns) := by
  subst h; unfold alC
  rw [List.getElem?_append_right (by simp)]; simp
theorem alC_mem {cs : List (List Int)} {ns : List Int} {x : Int × List Int} (h : x ∈ alC cs ns) : (x.1 = -1 ∧ x.2 = ns) ∨ (0 ≤ x.1 ∧ x.1 < (cs.length : Int) ∧ cs[x.1.toNat]? = some x.2) := by
  obtain ⟨k, hk, rfl⟩ := List.mem_iff_getElem.1 h
  rw [alC_len] at hk
  have hg := List.getElem?_eq_getElem (l := alC cs ns) (i := k) (by rw [alC_len]; exact hk)
  by_cases q : k = cs.length
  · rw [alC_end q] at hg
    have hg := Option.some.inj hg
    rw [← hg]
    exact .inl ⟨rfl, rfl⟩
  · have hc := List.getElem?_eq_getElem (l := cs) (i := k) (by omega)
    rw [alC_at hc] at hg
    have hg := Option.some.inj hg
    rw [← hg]
    exact .inr ⟨by omega, by omega, by simp⟩
/-- the first wrong set. -/
def rmGo (C N Z K Q : Int) : List (Int × List Int) → Int × Int
  | [] => (0, 0)
  | x :: r => if wrE C N Z K Q x.2 x.1 ≠ 0 then (x.1, wrE C N Z K Q x.2 x.1) else rmGo C N Z K Q r
def rmP (C N Z K Q : Int) (cs : List (List Int)) (ns : List Int) : Int × Int := if cfE C N Z K Q ≠ 0 then (-2, cfE C N Z K Q) else if (cs.length : Int) ≠ N then (-2, 6) else rmGo C N Z K Q (alC cs ns)
theorem rmGo_hit {C N Z K Q : Int} : ∀ {l : List (Int × List Int)} {k : Nat} {x : Int × List Int}, (∀ i, i < k → ∀ y, l[i]? = some y → wrE C N Z K Q y.2 y.1 = 0) → l[k]? = some x → wrE C N Z K Q x.2 x.1 ≠ 0 → rmGo C N Z K Q l = (x.1, wrE C N Z K Q x.2 x.1)
  | [], k, x, _, h, _ => by simp at h
  | y :: r, 0, x, _, h, hw => by simp at h; subst h; rw [rmGo, if_pos hw]
  | y :: r, k + 1, x, ha, h, hw => by
    rw [rmGo, if_neg (by have := ha 0 (by omega) y rfl; omega)]
    exact rmGo_hit (k := k) (fun i hi z hz => ha (i + 1) (by omega) z (by simpa using hz)) (by simpa using h) hw
theorem rmGo_ok {C N Z K Q : Int} : ∀ {l : List (Int × List Int)}, (∀ y ∈ l, wrE C N Z K Q y.2 y.1 = 0) → rmGo C N Z K Q l = (0, 0)
  | [], _ => rfl
  | y :: r, h => by rw [rmGo, if_neg (by have := h y (List.mem_cons_self ..); omega)]; exact rmGo_ok fun z hz => h z (List.mem_cons_of_mem _ hz)
theorem rmGo_0 {C N Z K Q : Int} : ∀ {l : List (Int × List Int)}, (rmGo C N Z K Q l).2 = 0 → ∀ y ∈ l, wrE C N Z K Q y.2 y.1 = 0
  | [], _, y, hy => by cases hy
  | x :: r, h, y, hy => by
    rw [rmGo] at h
    split at h
    · rename_i hw; exact absurd h hw
    · rcases List.mem_cons.1 hy with q | q
      · subst q; omega
      · exact rmGo_0 h y q
theorem rm_0 {C N Z K Q : Int} {cs : List (List Int)} {ns : List Int} (h : (rmP C N Z K Q cs ns).2 = 0) : cfE C N Z K Q = 0 ∧ (cs.length : Int) = N ∧ ∀ y ∈ alC cs ns, wrE C N Z K Q y.2 y.1 = 0 := by
  unfold rmP at h
  split at h
  · rename_i h1; exact absurd h h1
  · split at h
    · cases h
    · exact ⟨by omega, by omega, rmGo_0 h⟩
theorem rm_iff {C N Z K Q : Int} {cs : List (List Int)} {ns : List Int} : (rmP C N Z K Q cs ns).2 = 0 ↔ cfE C N Z K Q = 0 ∧ (cs.length : Int) = N ∧ ∀ y ∈ alC cs ns, wrE C N Z K Q y.2 y.1 = 0 :=
  ⟨rm_0, fun ⟨h1, h2, h3⟩ => by unfold rmP; rw [if_neg (by omega), if_neg (by omega), rmGo_ok h3]⟩
/-- into which set a slot belongs: a car, -1 the nursery, -2 none. -/
def plE (C N Z K Q slot target : Int) : Int := if caE C N Z K Q slot ≠ 0 then caE C N Z K Q slot else if target = 0 then 0 else caE C N Z K Q target
def plN (C N Z K Q slot target : Int) : Int := if plE C N Z K Q slot target ≠ 0 ∨ target = 0 ∨ caN C N Z K Q slot < 0 ∨ caN C N Z K Q slot = caN C N Z K Q target then -2 else caN C N Z K Q target
theorem pl_rng (C N Z K Q slot target : Int) : plN C N Z K Q slot target = -2 ∨ (plE C N Z K Q slot target = 0 ∧ -1 ≤ plN C N Z K Q slot target ∧ plN C N Z K Q slot target < N ∧ target ≠ 0 ∧ caE C N Z K Q slot = 0 ∧ 0 ≤ caN C N Z K Q slot ∧ plN C N Z K Q slot target = caN C N Z K Q target ∧ caE C N Z K Q target = 0 ∧ caN C N Z K Q slot ≠ caN C N Z K Q target) := by
  unfold plN
  split
  · exact .inl rfl
  · rename_i h
    refine .inr ?_
    have h1 : plE C N Z K Q slot target = 0 := by omega
    have h2 := h1
    unfold plE at h2
    by_cases q : caE C N Z K Q slot = 0
    · rw [if_neg (by omega), if_neg (by omega)] at h2
      have := ca_rng h2
      omega
    · rw [if_pos q] at h2; exact absurd h2 q
/-- a slot added to a set, or dropped there. -/
def stF (add : Bool) (c : List Int) (slot : Int) : List Int := if add then adT c slot else drT c slot
def cgC (cs : List (List Int)) (i slot : Int) (add : Bool) : List (List Int) := if 0 ≤ i then cs.set i.toNat (stF add (cs.getD i.toNat []) slot) else cs
def cgN (ns : List Int) (i slot : Int) (add : Bool) : List Int := if i = -1 then stF add ns slot else ns
theorem cgC_len (cs : List (List Int)) (i slot : Int) (add : Bool) : (cgC cs i slot add).length = cs.length := by unfold cgC; split <;> simp
def chE8 (C N Z K Q : Int) (cs : List (List Int)) (ns : List Int) (slot old now : Int) : Int :=
  if (rmP C N Z K Q cs ns).2 ≠ 0 then (rmP C N Z K Q cs ns).2 else if plE C N Z K Q slot old ≠ 0 then plE C N Z K Q slot old else plE C N Z K Q slot now
def chC (C N Z K Q : Int) (cs : List (List Int)) (ns : List Int) (slot old now : Int) : List (List Int) :=
  if chE8 C N Z K Q cs ns slot old now ≠ 0 then [] else if old = now then cs else cgC (cgC cs (plN C N Z K Q slot old) slot false) (plN C N Z K Q slot now) slot true
def chN (C N Z K Q : Int) (cs : List (List Int)) (ns : List Int) (slot old now : Int) : List Int :=
  if chE8 C N Z K Q cs ns slot old now ≠ 0 then [] else if old = now then ns else cgN (cgN ns (plN C N Z K Q slot old) slot false) (plN C N Z K Q slot now) slot true
end Go.Own.E
