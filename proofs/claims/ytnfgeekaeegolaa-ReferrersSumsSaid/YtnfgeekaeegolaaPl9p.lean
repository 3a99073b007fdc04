import Derived.Test.YtnfgeekaeegolaaPl7e
import Derived.Test.YtnfgeekaeegolaaPl9j
import Derived.Test.YtnfgeekaeegolaaPl9e
namespace Go.Own.S
open Go Go.Own Go.Own.R
/-! Good -/
def Sz (c : List Int) : Prop := usd c = adr c ∧ (c.length = 8 ∨ 3 * c.length < 8 * adr c)
/-- no address is left, and as many cells. -/
structure Zr (n : Nat) (x : List Int) : Prop where
  gd : Gd x
  no : adr x = 0
  len : x.length = n
def rvK (l : List Int) (i : Nat) : List Int := List.replicate (l.length - i) 0 ++ (l.take i).reverse
theorem lsT_len (c : List Int) : (lsT c).length ≤ 1600 := by
  unfold lsT; split
  · simp
  · exact tgK_len c 1600
/-! Sets -/
def acC (r : Int × Bool) : List Value := [.int .u16 r.1, .bool r.2]
structure SR (x : List Int) (b : List Bool) (n : Int) : Prop where
  gd : Gd x
  len : b.length = 61
  mem : ∀ a : Nat, 1 ≤ a → a ≤ 60 → b[a]? = some (decide ((a : Int) ∈ x))
  top : ∀ y ∈ x, y ≤ 60
  num : n = ((adr x : Nat) : Int)
end Go.Own.S

/-! the counts of a table are a good list; the counts of two parts add up -/
namespace Go.Own.F
open Go Go.Own Go.Own.R Go.Own.S
theorem cnF_mem {ws l : List Int} {x : Int × Int} (hx : x ∈ cnF ws l) : x.1 ≠ 0 ∧ x.2 = ((hoF ws l x.1).length : Int) ∧ ∃ a ∈ l, wA ws a = x.1 := by
  obtain ⟨h1, h2, h3⟩ := cnF_all ws l
  have h4 := nOf_mem h1 hx
  have h5 := h2 x hx
  rw [h3] at h4
  by_cases e : x.1 = 0
  · rw [if_pos e] at h4; omega
  · rw [if_neg e] at h4
    have h6 : hoF ws l x.1 ≠ [] := fun q => by rw [q] at h4; simp at h4; omega
    obtain ⟨a, ha⟩ := List.exists_mem_of_ne_nil _ h6
    unfold hoF at ha
    obtain ⟨q1, q2⟩ := List.mem_filter.1 ha
    exact ⟨e, h4.symm, a, q1, by simpa using q2⟩
end Go.Own.F

/-! the slots below t and those from t on -/
namespace Go.Own.F
open Go Go.Own Go.Own.R Go.Own.S
theorem wA_nn {ws : List Int} (hu : ∀ x ∈ ws, 0 ≤ x ∧ x ≤ 18446744073709551615) (a : Int) : 0 ≤ wA ws a := by
  unfold wA; rw [List.getD_eq_getElem?_getD]
  cases e : ws[a.toNat]? with
  | none => exact Int.le_refl _
  | some y => exact (hu y (List.mem_of_getElem? e)).1
end Go.Own.F

/-! the sum of the counts; the holders of a target -/
namespace Go.Own.F
open Go Go.Own Go.Own.R Go.Own.S
def sm2 (l : List (Int × Int)) : Int := (l.map (·.2)).foldr (· + ·) 0
theorem sm2_cons (x : Int × Int) (l : List (Int × Int)) : sm2 (x :: l) = x.2 + sm2 l := rfl
theorem sm2_plF : ∀ (l : List (Int × Int)) (t n : Int), sm2 (plF l t n) = sm2 l + n
  | [], t, n => by simp [plF, sm2]
  | x :: r, t, n => by
    unfold plF
    split
    · rw [sm2_cons, sm2_cons, sm2_plF r t n]; omega
    · split
      · rw [sm2_cons, sm2_cons]; simp; omega
      · rw [sm2_cons]; simp; omega
/-- how many slots do not have 0. -/
def nzF (ws l : List Int) : Int := ((l.filter fun a => decide (wA ws a ≠ 0)).length : Int)
theorem nz_in {ws l : List Int} {k : Nat} {a : Int} (hy : l[k]? = some a) (h : wA ws a ≠ 0) : nzF ws (l.take (k + 1)) = nzF ws (l.take k) + 1 := by
  unfold nzF; rw [take_add9 hy, List.filter_append]; simp [h]
theorem nz_out {ws l : List Int} {k : Nat} {a : Int} (hy : l[k]? = some a) (h : wA ws a = 0) : nzF ws (l.take (k + 1)) = nzF ws (l.take k) := by
  unfold nzF; rw [take_add9 hy, List.filter_append]; simp [h]
theorem nz_rng (ws l : List Int) (k : Nat) : 0 ≤ nzF ws (l.take k) ∧ nzF ws (l.take k) ≤ (l.length : Int) := by
  unfold nzF
  have h1 := List.length_filter_le (fun a => decide (wA ws a ≠ 0)) (l.take k)
  rw [List.length_take] at h1
  omega
theorem nz_all (ws c : List Int) : 0 ≤ nzF ws (lsT c) ∧ nzF ws (lsT c) ≤ 1600 := by
  have h := nz_rng ws (lsT c) (lsT c).length
  rw [List.take_of_length_le (Nat.le_refl _)] at h
  have := F.lsT_len c
  omega
theorem nz_end {ws c : List Int} {k : Nat} (hk : (lsT c).length ≤ k) : nzF ws ((lsT c).take k) = nzF ws (lsT c) - sm2 ((coT ws c).take 0) := by
  rw [List.take_of_length_le hk]; simp [sm2]
theorem cn_sum (ws l : List Int) : sm2 (cnF ws l) = nzF ws l := by
  have key : ∀ (l : List Int) (m : List (Int × Int)), sm2 (l.foldl (fun m a => if wA ws a = 0 then m else plF m (wA ws a) 1) m) = sm2 m + nzF ws l := by
    intro l
    induction l with
    | nil => intro m; simp [nzF]
    | cons a l ih =>
      intro m
      rw [List.foldl_cons, ih]
      unfold nzF
      rw [List.filter_cons]
      by_cases h : wA ws a = 0
      · simp [h]
      · rw [if_neg h, sm2_plF]; simp [h]; omega
  have := key l []
  simpa [cnF, sm2] using this
theorem sm2_app (l m : List (Int × Int)) : sm2 (l ++ m) = sm2 l + sm2 m := by
  induction l with
  | nil => simp [sm2]
  | cons x r ih => rw [List.cons_append, sm2_cons, sm2_cons, ih]; omega
theorem sm2_take {l : List (Int × Int)} {k : Nat} {y : Int × Int} (hy : l[k]? = some y) : sm2 (l.take (k + 1)) = sm2 (l.take k) + y.2 := by
  rw [take_add9 hy, sm2_app]; simp [sm2]
theorem sm2_rng {l : List (Int × Int)} {b : Int} (h : ∀ x ∈ l, 0 ≤ x.2 ∧ x.2 ≤ b) : 0 ≤ sm2 l ∧ sm2 l ≤ b * (l.length : Int) := by
  induction l with
  | nil => simp [sm2]
  | cons x r ih =>
    have := ih fun y hy => h y (List.mem_cons_of_mem _ hy)
    have hx := h x (List.mem_cons_self ..)
    rw [sm2_cons, List.length_cons]
    have e : b * ((r.length + 1 : Nat) : Int) = b * (r.length : Int) + b := by push_cast; rw [Int.mul_add, Int.mul_one]
    omega
theorem lsT_srt (c : List Int) : (lsT c).Pairwise (· < ·) := by
  unfold lsT; split
  · exact List.Pairwise.nil
  · exact tgK_asc c 1600
/-- what the law asks of each count. -/
theorem sums_row {ws c : List Int} (h : slE ws c = 0) {x : Int × Int} (hx : x ∈ coT ws c) (hu : ∀ a, 0 ≤ wA ws a) :
    (1 ≤ x.1 ∧ x.1 ≤ 1600) ∧ (1 ≤ x.2 ∧ x.2 ≤ 1600) ∧ hoE ws c x.1 = 0 ∧ ((hoT ws c x.1).length : Int) = x.2 := by
  obtain ⟨s1, s2, s3, s4⟩ := slE_zero h
  rw [coT_eq, s1] at hx
  obtain ⟨m1, m2, a, m3, m4⟩ := cnF_mem hx
  have h5 := (cnF_all ws (lsT c)).2.1 x hx
  have h6 := hoF_len ws (lsT c) x.1
  have h7 := lsT_len c
  have h8 := s4 a (by rw [s1]; exact m3)
  have h9 := hu a
  have hr : 1 ≤ x.1 ∧ x.1 ≤ 1600 := by omega
  refine ⟨hr, by omega, hoE_ok h hr, ?_⟩
  rw [hoT_ok h hr, s1, m2]
theorem sums_ho {ws c : List Int} (h : slE ws c = 0) {t : Int} (ht : 1 ≤ t ∧ t ≤ 1600) {j : Nat} {a : Int} (hy : (hoT ws c t)[j]? = some a) :
    (1 ≤ a ∧ a < (ws.length : Int)) ∧ wA ws a = t ∧ ∀ i b, i < j → (hoT ws c t)[i]? = some b → b < a := by
  obtain ⟨s1, s2, s3, s4⟩ := slE_zero h
  rw [hoT_ok h ht] at hy ⊢
  have hm := List.mem_of_getElem? hy
  unfold hoF at hm
  obtain ⟨q1, q2⟩ := List.mem_filter.1 hm
  have h8 := s4 a q1
  refine ⟨by omega, by simpa using q2, fun i b hi hb => ?_⟩
  have hp : (hoF ws (slT ws c) t).Pairwise (· < ·) := by rw [s1]; exact (lsT_srt c).sublist List.filter_sublist
  obtain ⟨k1, rfl⟩ := List.getElem?_eq_some_iff.1 hy
  obtain ⟨k2, rfl⟩ := List.getElem?_eq_some_iff.1 hb
  exact List.pairwise_iff_getElem.1 hp i j k2 k1 hi
theorem sums_asc {ws c : List Int} {i j : Nat} {x y : Int × Int} (hi : (coT ws c)[i]? = some x) (hj : (coT ws c)[j]? = some y) (h : i < j) : x.1 < y.1 := by
  rw [coT_eq] at hi hj
  obtain ⟨k1, rfl⟩ := List.getElem?_eq_some_iff.1 hi
  obtain ⟨k2, rfl⟩ := List.getElem?_eq_some_iff.1 hj
  exact List.pairwise_iff_getElem.1 (cnF_all ws (slT ws c)).1 i j k1 k2 h
theorem sums_all {ws c : List Int} (h : slE ws c = 0) {k : Nat} (hk : (coT ws c).length ≤ k) : sm2 ((coT ws c).take k) = nzF ws (lsT c) := by
  rw [List.take_of_length_le hk, coT_eq, (slE_zero h).1, cn_sum]
theorem co_len (ws c : List Int) : (coT ws c).length ≤ 1600 := by
  rw [coT_eq]; have := cnF_len ws (slT ws c); have := slT_len ws c; omega
theorem sums_rng {ws c : List Int} (h : slE ws c = 0) (hu : ∀ a, 0 ≤ wA ws a) (k : Nat) : 0 ≤ sm2 ((coT ws c).take k) ∧ sm2 ((coT ws c).take k) ≤ 2560000 := by
  have h1 := sm2_rng (l := (coT ws c).take k) (b := 1600) fun x hx => by have := sums_row h (List.mem_of_mem_take hx) hu; omega
  have h2 : ((coT ws c).take k).length ≤ 1600 := by
    rw [List.length_take, coT_eq]
    have := cnF_len ws (slT ws c); have := slT_len ws c; omega
  omega
end Go.Own.F
