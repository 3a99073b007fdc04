import Derived.Test.YtodbfgfbkgpooaaDoorSp11
/-! plain laws of layer 11: what the laws' answers come to -/
namespace Go.Own
open Go
theorem takeS_cases {lo yo : List Int} (hg : (chk lo yo).2.2 = 0) : (lo = [] ∧ takeS lo yo = ⟨[], [], 0, 4⟩) ∨ ∃ c r, lo = c :: r ∧ takeS lo yo = ⟨r, yo, c, 0⟩ := by
  cases lo with
  | nil => exact .inl ⟨rfl, by unfold takeS; rw [if_neg (by simpa using hg)]⟩
  | cons c r => exact .inr ⟨c, r, rfl, by unfold takeS; rw [if_neg (by simpa using hg)]⟩
theorem takeS_car_err {lo yo : List Int} (h : ¬ (takeS lo yo).e = 0) : (takeS lo yo).car = 0 := by
  unfold takeS at *
  split
  · rfl
  · split
    · rfl
    · rename_i h1; simp [h1] at h
theorem relinkS_e (lo yo : List Int) (b : Bool) : (relinkS lo yo b).e = (takeS lo yo).e := by
  by_cases h : (takeS lo yo).e = 0
  · rw [relinkS_ok h, h]
  · rw [relinkS_err h]
theorem relinkS_car (lo yo : List Int) (b : Bool) : (relinkS lo yo b).car = (takeS lo yo).car := by
  by_cases h : (takeS lo yo).e = 0
  · rw [relinkS_ok h]
  · rw [relinkS_err h, takeS_car_err h]
/-- behind a take, of good trains. -/
theorem pairs_T {lo yo : List Int} (hg : (chk lo yo).2.2 = 0) (he : (takeS lo yo).e = 0) : (findS (takeS lo yo).lo (takeS lo yo).yo (takeS lo yo).car).2.2 = 4 ∧
    ∀ b, placeS (takeS lo yo).lo (takeS lo yo).yo 1 (takeS lo yo).car b = ⟨(relinkS lo yo b).lo, (relinkS lo yo b).yo, 0, 0⟩ := by
  have hG := (chk_iff lo yo).1 hg
  rcases takeS_cases hg with ⟨rfl, h⟩ | ⟨c, r, rfl, h⟩
  · rw [h] at he; simp at he
  · have hG' : GoodL (r ++ yo) := hG.tail
    have hc := hG.2 c (by simp)
    have hn : c ∉ r ++ yo := (List.nodup_cons.1 hG.1).1
    have hk : ∀ t, (t = 0 ∨ t = 1) → chkE r yo t c = 0 := fun t ht => (chkE_iff r yo t c).2 ⟨hG', ht, hc.1, hc.2⟩
    rw [List.mem_append] at hn
    refine ⟨?_, fun b => ?_⟩
    · rw [h]
      show (findS r yo c).2.2 = 4
      rw [findS_no (hk 0 (.inl rfl)) (fun h => hn (.inl h)) (fun h => hn (.inr h))]
    · rw [relinkS_ok (by rw [h]), h, placeS_cases]
      simp [hk 1 (.inr rfl), hn]
theorem good_drop {lo yo : List Int} (hg : (chk lo yo).2.2 = 0) (k : Nat) : (chk (lo.drop k) yo).2.2 = 0 := by
  have hG := (chk_iff lo yo).1 hg
  rw [chk_iff]
  refine ⟨?_, fun x hx => hG.2 x ?_⟩
  · have := hG.1
    rw [← List.take_append_drop k lo, List.append_assoc] at this
    exact (List.nodup_append.1 this).2.1
  · rw [List.mem_append] at hx ⊢
    exact hx.imp List.mem_of_mem_drop id
theorem takeS_drop {lo yo : List Int} (hg : (chk lo yo).2.2 = 0) {k : Nat} {y : Int} (hy : lo[k]? = some y) : takeS (lo.drop k) yo = ⟨lo.drop (k + 1), yo, y, 0⟩ := by
  obtain ⟨hk, hv⟩ := List.getElem?_eq_some_iff.1 hy
  have hd : lo.drop k = y :: lo.drop (k + 1) := by rw [List.drop_eq_getElem_cons hk, hv]
  rcases takeS_cases (good_drop hg k) with ⟨h, _⟩ | ⟨c, r, h, h2⟩
  · rw [hd] at h; cases h
  · rw [hd] at h; cases h; rw [h2]
end Go.Own
namespace Go.Own
theorem clear_get {lo yo : List Int} (hg : (chk lo yo).2.2 = 0) {k : Nat} {y : Int} (hy : (clearS lo yo).lo[k]? = some y) : lo[k]? = some y := by
  rw [clearS_ok hg] at hy; exact hy
theorem takeS_dropE {lo yo : List Int} (hg : (chk lo yo).2.2 = 0) {k : Nat} (h : k < lo.length) : takeS (lo.drop k) yo = ⟨lo.drop (k + 1), yo, lo[k], 0⟩ := takeS_drop hg (List.getElem?_eq_getElem h)
end Go.Own
namespace Go.Own
open Go
/-- a list without a number. -/
def wout (l : List Int) (n : Int) : List Int := l.filter fun x => decide (x ≠ n)
theorem wout_step {l : List Int} {n y : Int} {k : Nat} (hy : l[k]? = some y) : wout (l.take (k + 1)) n = if y = n then wout (l.take k) n else wout (l.take k) n ++ [y] := by
  rw [take_snoc' l k y hy]
  unfold wout
  rw [List.filter_append]
  by_cases h : y = n <;> simp [h]
theorem wout_none {l : List Int} {n : Int} (h : n ∉ l) : wout l n = l := by
  unfold wout
  rw [List.filter_eq_self]
  intro a ha
  have : a ≠ n := fun e => h (e ▸ ha)
  simpa using this
theorem wout_put {l : List Int} {n : Int} {b : Bool} (h : n ∉ l) : wout (putL l n b) n = l := by
  unfold putL wout
  rw [List.filter_append, List.filter_cons]
  simp only [ne_eq, not_true, decide_false, Bool.false_eq_true, if_false]
  rw [← List.filter_append, List.take_append_drop]
  exact wout_none h
theorem wout_len (l : List Int) (n : Int) : (wout l n).length ≤ l.length := List.length_filter_le _ _
theorem placeS_e (lo yo : List Int) (tr c : Int) (b b' : Bool) : (placeS lo yo tr c b).e = (placeS lo yo tr c b').e := by
  rw [placeS_cases, placeS_cases]
  by_cases h1 : chkE lo yo tr c ≠ 0
  · rw [if_pos h1, if_pos h1]
  · rw [if_neg h1, if_neg h1]
    by_cases h2 : c ∈ lo ∨ c ∈ yo
    · rw [if_pos h2, if_pos h2]
    · rw [if_neg h2, if_neg h2]
      by_cases h3 : tr = 0
      · rw [if_pos h3, if_pos h3]
      · rw [if_neg h3, if_neg h3]
theorem putL_mem {l : List Int} {c : Int} {b : Bool} {x : Int} : x ∈ putL l c b ↔ x = c ∨ x ∈ l := by
  unfold putL
  constructor
  · intro h
    rw [List.mem_append, List.mem_cons] at h
    rcases h with h | h | h
    · exact .inr (List.mem_of_mem_take h)
    · exact .inl h
    · exact .inr (List.mem_of_mem_drop h)
  · rintro (rfl | h)
    · simp
    · rw [← List.take_append_drop (putAt l.length b) l, List.mem_append] at h
      rw [List.mem_append, List.mem_cons]
      rcases h with h | h
      · exact .inl h
      · exact .inr (.inr h)
theorem putL_perm (l : List Int) (c : Int) (b : Bool) : (putL l c b).Perm (c :: l) := by
  unfold putL
  refine List.perm_middle.trans ?_
  rw [List.take_append_drop]
theorem GoodL.perm {l m : List Int} (h : GoodL l) (p : m.Perm l) : GoodL m := ⟨p.symm.nodup h.1, fun x hx => h.2 x (p.mem_iff.1 hx)⟩
/-- what Append and Insert come to, of good trains. -/
theorem orders_P {lo yo : List Int} {n c : Int} (hg : (chk lo yo).2.2 = 0) (hn : n = 0 ∨ n = 1) (he : (placeS lo yo n c false).e = 0) (b : Bool) :
    c ∉ (if n = 0 then lo else yo) ∧ (carsS (placeS lo yo n c b).lo (placeS lo yo n c b).yo n) = (putL (if n = 0 then lo else yo) c b, 0) := by
  have hc : 0 ≤ c ∧ c < 24 ∧ c ∉ lo ∧ c ∉ yo := by
    rw [placeS_cases] at he
    by_cases h1 : chkE lo yo n c ≠ 0
    · rw [if_pos h1] at he; exact absurd he h1
    · rw [if_neg h1] at he
      by_cases h2 : c ∈ lo ∨ c ∈ yo
      · rw [if_pos h2] at he; simp at he
      · have := (chkE_iff lo yo n c).1 (by simpa using h1)
        exact ⟨this.2.2.1, this.2.2.2, fun h => h2 (.inl h), fun h => h2 (.inr h)⟩
  have hG := (chk_iff lo yo).1 hg
  have hk : chkE lo yo n c = 0 := (chkE_iff lo yo n c).2 ⟨hG, hn, hc.1, hc.2.1⟩
  have hcons : GoodL (c :: (lo ++ yo)) := by
    refine ⟨List.nodup_cons.2 ⟨by simp [hc.2.2.1, hc.2.2.2], hG.1⟩, fun x hx => ?_⟩
    rw [List.mem_cons] at hx
    rcases hx with rfl | hx
    · exact ⟨hc.1, hc.2.1⟩
    · exact hG.2 x hx
  rw [placeS_cases]
  simp only [hk, ne_eq, not_true, if_false, hc.2.2.1, hc.2.2.2, or_self]
  rcases hn with rfl | rfl
  · simp only [if_true]
    refine ⟨hc.2.2.1, ?_⟩
    rw [carsS_ok ((chkE_iff _ _ 0 0).2 ⟨hcons.perm ?_, .inl rfl, by omega, by omega⟩)]
    · simp
    · exact ((putL_perm lo c b).append_right yo)
  · simp only [Int.one_ne_zero, if_false]
    refine ⟨hc.2.2.2, ?_⟩
    rw [carsS_ok ((chkE_iff _ _ 1 0).2 ⟨hcons.perm ?_, .inr rfl, by omega, by omega⟩)]
    · simp
    · exact ((putL_perm yo c b).append_left lo).trans List.perm_middle
theorem lastS_cars {lo yo : List Int} {n : Int} {l : List Int} {k : Nat} {y : Int} (h : carsS lo yo n = (l, 0)) (hk : k + 1 = l.length) (hy : l[k]? = some y) : lastS lo yo n = (y, 0) := by
  unfold lastS
  rw [h]
  simp only [ne_eq, not_true, if_false]
  rw [List.getLast?_eq_getElem?, show l.length - 1 = k by omega, hy]
theorem putF (l : List Int) (c : Int) : putL l c false = l ++ [c] := (putL_end (.inl rfl)).symm
theorem orders_L {lo yo : List Int} {n c : Int} (hg : (chk lo yo).2.2 = 0) (hn : n = 0 ∨ n = 1) (he : (placeS lo yo n c false).e = 0) :
    lastS (placeS lo yo n c false).lo (placeS lo yo n c false).yo n = (c, 0) := by
  have := (orders_P hg hn he false).2
  refine lastS_cars (k := (if n = 0 then lo else yo).length) this ?_ ?_
  · rw [putF]; simp
  · rw [putF]; simp
theorem orders_E {lo yo : List Int} {n c : Int} (hg : (chk lo yo).2.2 = 0) (hn : n = 0 ∨ n = 1) (he : (placeS lo yo n c false).e = 0) :
    (lastS (placeS lo yo n c true).lo (placeS lo yo n c true).yo n).2 = 0 ∧
    ∀ (k : Nat) y, k + 1 = (if n = 0 then lo else yo).length → (if n = 0 then lo else yo)[k]? = some y → (lastS (placeS lo yo n c true).lo (placeS lo yo n c true).yo n).1 = y := by
  have h := (orders_P hg hn he true).2
  generalize (if n = 0 then lo else yo) = D at h ⊢
  by_cases h0 : D.length = 0
  · have hD := List.eq_nil_of_length_eq_zero h0
    subst hD
    have := lastS_cars (k := 0) (y := c) h (by rfl) (by rfl)
    exact ⟨by rw [this], fun k y hk => by simp at hk⟩
  · have hk : D.length - 1 < D.length := by omega
    have hy := List.getElem?_eq_getElem hk
    have hp : putL D c true = D.take (D.length - 1) ++ [c] ++ [D[D.length - 1]] := (putL_last (by omega) hy).symm
    have := lastS_cars (k := D.length) (y := D[D.length - 1]) h (by rw [putL_len]) (by
      rw [hp, List.getElem?_append_right (by simp; omega)]
      simp
      have : D.length - (D.length - 1 + 1) = 0 := by omega
      rw [this]; rfl)
    refine ⟨by rw [this], fun k y hk hy' => ?_⟩
    rw [this]
    have hkk : k = D.length - 1 := by omega
    subst hkk
    rw [hy] at hy'
    simpa using hy'
theorem turnS_nil {yo : List Int} (h : (chk [] yo).2.2 = 0) : turnS [] yo = ⟨yo, [], 0, 0⟩ := turnS_ok h (by simp)
theorem good_yo {lo yo : List Int} (hg : (chk lo yo).2.2 = 0) : (chk [] yo).2.2 = 0 := by
  have := good_drop hg lo.length
  rwa [List.drop_length] at this
end Go.Own
namespace Go.Own
open Go
theorem wout_app {l : List Int} {n : Int} (h : n ∉ l) : wout (l ++ [n]) n = l := by
  have := wout_put (b := false) h
  rwa [putF] at this
theorem orders_ix {lo yo : List Int} {n : Int} {k : Nat} {y : Int} (h : carsS lo yo n = (if n = 0 then lo else yo, 0)) (hy : (carsS lo yo n).1[k]? = some y) : (if n = 0 then lo else yo)[k]? = some y := by
  rw [h] at hy; exact hy
theorem orders_R {lo yo : List Int} (hg : (chk lo yo).2.2 = 0) {b : Bool} (he : (relinkS lo yo b).e = 0) (b' : Bool) : wout lo (relinkS lo yo b).car = (relinkS lo yo b).lo ∧ wout (relinkS lo yo b).yo (relinkS lo yo b).car = yo := by
  have hG := (chk_iff lo yo).1 hg
  rw [relinkS_e] at he
  rcases takeS_cases hg with ⟨rfl, h⟩ | ⟨c, r, rfl, h⟩
  · rw [h] at he; simp at he
  · rw [relinkS_ok (by rw [h]), h]
    have hn : c ∉ r ++ yo := (List.nodup_cons.1 hG.1).1
    rw [List.mem_append] at hn
    refine ⟨?_, wout_put fun h => hn (.inr h)⟩
    show wout (c :: r) c = r
    have : wout (c :: r) c = wout r c := by unfold wout; simp
    rw [this, wout_none fun h => hn (.inl h)]
theorem placeS_len {lo yo : List Int} {tr c : Int} {b : Bool} {n : Nat} (h1 : lo.length ≤ n) (h2 : yo.length ≤ n) : (placeS lo yo tr c b).lo.length ≤ n + 1 ∧ (placeS lo yo tr c b).yo.length ≤ n + 1 := by
  rw [placeS_cases]
  split
  · simp
  · split
    · simp
    · split
      · simp [putL_len]; omega
      · simp [putL_len]; omega
theorem relinkS_len {lo yo : List Int} {b : Bool} {n : Nat} (h1 : lo.length ≤ n) (h2 : yo.length ≤ n) : (relinkS lo yo b).lo.length ≤ n + 1 ∧ (relinkS lo yo b).yo.length ≤ n + 1 := by
  by_cases h : (takeS lo yo).e = 0
  · rw [relinkS_ok h]
    have := takeS_lenL (yo := yo) h1
    have := takeS_len (lo := lo) h2
    simp [putL_len]; omega
  · rw [relinkS_err h]; simp
end Go.Own
namespace Go.Own
open Go
theorem queue_P {lo : List Int} {c : Int} (he : (placeS lo [] 0 c false).e = 0) : (placeS lo [] 0 c false).lo = lo ++ [c] ∧ (placeS lo [] 0 c false).yo = [] ∧ GoodL (lo ++ [c]) := placeS_e0 he
theorem good_chk {lo : List Int} (h : GoodL lo) : (chk lo []).2.2 = 0 := (chk_iff lo []).2 (by simpa using h)
end Go.Own
namespace Go.Own
open Go
/-- how often each car is in a list. -/
def cnt (l : List Int) : List Int := (List.range 24).map fun (c : Nat) => ((l.count (c : Int) : Nat) : Int)
theorem cnt_len (l : List Int) : (cnt l).length = 24 := by simp [cnt]
theorem cnt_get {l : List Int} {c : Nat} (h : c < 24) : (cnt l)[c]? = some ((l.count (c : Int) : Nat) : Int) := by simp [cnt, h]
theorem cnt_zero {l : List Int} : List.replicate 24 (0 : Int) = cnt (l.take 0) := by simp [cnt]; rfl
theorem cnt_snoc {l : List Int} {y : Int} (h0 : 0 ≤ y) (h1 : y < 24) : cnt (l ++ [y]) = (cnt l).set y.toNat ((l.count y : Nat) + 1) := by
  apply List.ext_getElem?
  intro j
  by_cases hj : j < 24
  · rw [cnt_get hj, List.getElem?_set]
    by_cases he : y.toNat = j
    · have : y = (j : Int) := by omega
      subst this
      simp [cnt_len, hj]
    · rw [if_neg he, cnt_get hj]
      have : y ≠ (j : Int) := by omega
      simp [List.count_append, List.count_singleton, this]
  · rw [List.getElem?_eq_none (by rw [cnt_len]; omega), List.getElem?_eq_none (by rw [List.length_set, cnt_len]; omega)]
theorem cnt_skip {l : List Int} {y : Int} (h : y < 0 ∨ 24 ≤ y) : cnt (l ++ [y]) = cnt l := by
  apply List.ext_getElem?
  intro j
  by_cases hj : j < 24
  · rw [cnt_get hj, cnt_get hj]
    have : y ≠ (j : Int) := by omega
    simp [List.count_append, List.count_singleton, this]
  · rw [List.getElem?_eq_none (by rw [cnt_len]; omega), List.getElem?_eq_none (by rw [cnt_len]; omega)]
theorem cnt_at {l : List Int} {y x : Int} (h0 : 0 ≤ y) (h1 : y < 24) (hx : (cnt l)[y.toNat]? = some x) : x = ((l.count y : Nat) : Int) := by
  rw [cnt_get (by omega)] at hx
  have : ((y.toNat : Nat) : Int) = y := by omega
  rw [this] at hx
  simpa using hx.symm
theorem cnt_hit {l : List Int} {k : Nat} {y x : Int} (hy : l[k]? = some y) (h0 : 0 ≤ y) (h1 : y < 24) (hx : (cnt (l.take k))[y.toNat]? = some x) : (cnt (l.take k)).set y.toNat (x + 1) = cnt (l.take (k + 1)) := by
  rw [take_snoc' l k y hy, cnt_snoc h0 h1, cnt_at h0 h1 hx]
theorem cnt_miss {l : List Int} {k : Nat} {y : Int} (hy : l[k]? = some y) (h : y < 0 ∨ 24 ≤ y) : cnt (l.take k) = cnt (l.take (k + 1)) := by
  rw [take_snoc' l k y hy, cnt_skip h]
theorem cnt_bd {l : List Int} {i : Nat} {y : Int} (h : (cnt l)[i]? = some y) : 0 ≤ y ∧ y ≤ l.length := by
  have hi : i < 24 := by
    have := (List.getElem?_eq_some_iff.1 h).1
    rwa [cnt_len] at this
  rw [cnt_get hi] at h
  have h2 := List.count_le_length (a := (i : Int)) (l := l)
  have : y = ((l.count (i : Int) : Nat) : Int) := by simpa using h.symm
  omega
/-- what act does. -/
structure ActS where
  lo : List Int
  yo : List Int
  gone : List Int
  come : Int
  e : Int
def actS (lo yo : List Int) (kd ca tr : Int) : ActS :=
  if kd % 6 = 0 then ⟨(placeS lo yo (tr % 2) (ca % 24) false).lo, (placeS lo yo (tr % 2) (ca % 24) false).yo, [], ca % 24, (placeS lo yo (tr % 2) (ca % 24) false).e⟩
  else if kd % 6 = 1 then ⟨(placeS lo yo (tr % 2) (ca % 24) true).lo, (placeS lo yo (tr % 2) (ca % 24) true).yo, [], ca % 24, (placeS lo yo (tr % 2) (ca % 24) true).e⟩
  else if kd % 6 = 2 then ⟨(takeS lo yo).lo, (takeS lo yo).yo, [(takeS lo yo).car], -1, (takeS lo yo).e⟩
  else if kd % 6 = 3 then ⟨(relinkS lo yo (decide (tr % 2 = 0))).lo, (relinkS lo yo (decide (tr % 2 = 0))).yo, [], -1, (relinkS lo yo (decide (tr % 2 = 0))).e⟩
  else if kd % 6 = 4 then ⟨(turnS lo yo).lo, (turnS lo yo).yo, [], -1, (turnS lo yo).e⟩
  else ⟨[], (clearS lo yo).yo, (clearS lo yo).lo, -1, (clearS lo yo).e⟩
end Go.Own
