import Derived.Test.YtodbfgfbkgpooaaDoorStep2
/-! plain functions of layer 11 -/
namespace Go.Own
open Go

def putAt (n : Nat) (b : Bool) : Nat := if b && decide (0 < n) then n - 1 else n
def putL (xs : List Int) (c : Int) (b : Bool) : List Int := xs.take (putAt xs.length b) ++ c :: xs.drop (putAt xs.length b)
theorem putL_eq (xs : List Int) (c : Int) (b : Bool) (k : Nat) (h : putAt xs.length b = k) : [xs.take k, [c], xs.drop k].flatten = putL xs c b := by
  subst h; simp [putL]
theorem putL_len (xs : List Int) (c : Int) (b : Bool) : (putL xs c b).length = xs.length + 1 := by
  simp [putL, putAt]; split <;> omega

theorem take_snoc {α : Type} (l : List α) (k : Nat) (d : α) (h : k < l.length) : l.take (k + 1) = l.take k ++ [l.getD k d] := by
  rw [List.take_succ_eq_append_getElem h]; simp [h]
theorem take_snoc' {α : Type} (l : List α) (k : Nat) (x : α) (h : l[k]? = some x) : l.take (k + 1) = l.take k ++ [x] := by
  obtain ⟨hk, hx⟩ := List.getElem?_eq_some_iff.1 h
  rw [List.take_succ_eq_append_getElem hk, hx]

/-- the place of a number in a list, or -1. -/
def idx (zs : List Int) (x : Int) : Int := match zs.findIdx? (· == x) with | some i => i | none => -1
theorem idx_hit {zs : List Int} {x : Int} {k : Nat} (h : zs[k]? = some x) (hn : ∀ j, j < k → zs[j]? ≠ some x) : idx zs x = k := by
  unfold idx
  have : zs.findIdx? (· == x) = some k := by
    rw [List.findIdx?_eq_some_iff_getElem]
    obtain ⟨hk, hx⟩ := List.getElem?_eq_some_iff.1 h
    refine ⟨hk, by simp [hx], fun j hj => ?_⟩
    have := hn j hj
    rw [List.getElem?_eq_getElem (by omega)] at this
    simpa using this
  rw [this]
theorem idx_miss {zs : List Int} {x : Int} (hn : ∀ j, j < zs.length → zs[j]? ≠ some x) : idx zs x = -1 := by
  unfold idx
  have : zs.findIdx? (· == x) = none := by
    rw [List.findIdx?_eq_none_iff]
    intro y hy
    obtain ⟨j, hj, rfl⟩ := List.getElem_of_mem hy
    have := hn j hj
    rw [List.getElem?_eq_getElem hj] at this
    simpa using this
  rw [this]
theorem idx_lo (zs : List Int) (x : Int) : -1 ≤ idx zs x := by unfold idx; split <;> omega

def eqI (xs ys : List Int) : Bool := decide (xs = ys)
theorem eqI_true {xs ys : List Int} (h : xs.length = ys.length) (hh : ∀ (j : Nat) (x y : Int), xs[j]? = some x → ys[j]? = some y → x = y) : eqI xs ys = true := by
  unfold eqI
  rw [decide_eq_true_eq]
  apply List.ext_getElem h
  intro i h1 h2
  exact hh i _ _ (List.getElem?_eq_getElem h1) (List.getElem?_eq_getElem h2)
theorem eqI_false {xs ys : List Int} {j : Nat} {x y : Int} (h1 : xs[j]? = some x) (h2 : ys[j]? = some y) (hne : x ≠ y) : eqI xs ys = false := by
  unfold eqI
  rw [decide_eq_false_iff_not]
  intro e; subst e; rw [h1] at h2; cases h2; exact hne rfl
theorem eqI_len {xs ys : List Int} (h : xs.length ≠ ys.length) : eqI xs ys = false := by
  unfold eqI
  rw [decide_eq_false_iff_not]
  intro e; subst e; exact h rfl

/-- where a car is. -/
def findT (lo yo : List Int) (c : Int) : Int × Int × Int :=
  if 0 ≤ idx lo c then (0, idx lo c, 0) else if 0 ≤ idx yo c then (1, idx yo c, 0) else (-1, -1, 4)

theorem findT_lo {lo yo : List Int} {c : Int} (h : 0 ≤ idx lo c) : findT lo yo c = (0, idx lo c, 0) := by unfold findT; rw [if_pos h]
theorem findT_yo {lo yo : List Int} {c : Int} (h0 : idx lo c < 0) (h : 0 ≤ idx yo c) : findT lo yo c = (1, idx yo c, 0) := by unfold findT; rw [if_neg (by omega), if_pos h]
theorem findT_no {lo yo : List Int} {c : Int} (h0 : idx lo c < 0) (h : idx yo c < 0) : findT lo yo c = (-1, -1, 4) := by unfold findT; rw [if_neg (by omega), if_neg (by omega)]
theorem retT {k1 k2 k3 : IntKind} {t t' : Int × Int × Int} (h : t = t') : Ending.returned (.tuple #[.int k1 t.1, .int k2 t.2.1, .int k3 t.2.2]) = .returned (.tuple #[.int k1 t'.1, .int k2 t'.2.1, .int k3 t'.2.2]) := by rw [h]

/-- what is wrong with the car at a place, behind some others. -/
def errAt (pre l : List Int) (k : Nat) : Int := if l.getD k 0 < 0 ∨ 24 ≤ l.getD k 0 then 7 else if l.getD k 0 ∈ pre ++ l.take k then 8 else 0
def scan (pre l : List Int) : Option Nat := (List.range l.length).find? fun k => errAt pre l k != 0
def chk (lo yo : List Int) : Int × Int × Int :=
  if 24 < lo.length then (0, -1, 3) else if 24 < yo.length then (1, -1, 3) else
  match scan [] lo with
  | some k => (0, k, errAt [] lo k)
  | none => match scan lo yo with
    | some k => (1, k, errAt lo yo k)
    | none => (0, 0, 0)
def preAt (lo yo : List Int) (i : Nat) : List Int := if i = 0 then [] else if i = 1 then lo else lo ++ yo
def trAt (lo yo : List Int) (i : Nat) : List Int := if i = 0 then lo else yo
theorem scan_none {pre l : List Int} (h : ∀ j, j < l.length → errAt pre l j = 0) : scan pre l = none := by
  unfold scan
  rw [List.find?_eq_none]
  intro x hx
  rw [h x (by simpa using hx)]; simp
theorem scan_some {pre l : List Int} {k : Nat} (hk : k < l.length) (h : ∀ j, j < k → errAt pre l j = 0) (he : errAt pre l k ≠ 0) : scan pre l = some k := by
  unfold scan
  rw [List.find?_range_eq_some]
  refine ⟨by simpa using he, by simpa using hk, fun j hj => ?_⟩
  rw [h j hj]; rfl
theorem chk_long0 {lo yo : List Int} (h : 24 < lo.length) : chk lo yo = (0, -1, 3) := by unfold chk; rw [if_pos h]
theorem chk_long1 {lo yo : List Int} (h0 : lo.length ≤ 24) (h : 24 < yo.length) : chk lo yo = (1, -1, 3) := by unfold chk; rw [if_neg (by omega), if_pos h]
theorem chk_err {lo yo : List Int} (h0 : lo.length ≤ 24) (h1 : yo.length ≤ 24) {i k : Nat} (hi : i < 2) (hp : 1 ≤ i → ∀ j, j < lo.length → errAt [] lo j = 0)
    (hk : k < (trAt lo yo i).length) (h : ∀ j, j < k → errAt (preAt lo yo i) (trAt lo yo i) j = 0) {e : Int} (he : errAt (preAt lo yo i) (trAt lo yo i) k = e) (hne : e ≠ 0) : chk lo yo = ((i : Int), (k : Int), e) := by
  unfold chk
  rw [if_neg (by omega), if_neg (by omega)]
  obtain rfl | rfl : i = 0 ∨ i = 1 := by omega
  · simp only [preAt, trAt, if_true] at *
    rw [scan_some hk h (by rw [he]; exact hne)]
    simp [he]
  · simp only [preAt, trAt, if_true, Nat.one_ne_zero, if_false] at *
    rw [scan_none (hp (by omega)), scan_some hk h (by rw [he]; exact hne)]
    simp [he]
theorem chk_ok {lo yo : List Int} (h0 : lo.length ≤ 24) (h1 : yo.length ≤ 24) (hp : ∀ j, j < lo.length → errAt [] lo j = 0) (h : ∀ j, j < yo.length → errAt lo yo j = 0) : chk lo yo = (0, 0, 0) := by
  unfold chk
  rw [if_neg (by omega), if_neg (by omega), scan_none hp, scan_none h]
theorem errAt_range {pre l : List Int} {k : Nat} {x : Int} (hx : l[k]? = some x) (h : x < 0 ∨ 24 ≤ x) : errAt pre l k = 7 := by
  unfold errAt; rw [List.getD_eq_getElem?_getD, hx]; simp only [Option.getD_some]; rw [if_pos h]
theorem errAt_twice {pre l : List Int} {k : Nat} {x : Int} (hx : l[k]? = some x) (h0 : 0 ≤ x) (h1 : x < 24) (h : x ∈ pre ++ l.take k) : errAt pre l k = 8 := by
  unfold errAt; rw [List.getD_eq_getElem?_getD, hx]; simp only [Option.getD_some]; rw [if_neg (by omega), if_pos h]
theorem errAt_ok {pre l : List Int} {k : Nat} {x : Int} (hx : l[k]? = some x) (h0 : 0 ≤ x) (h1 : x < 24) (h : x ∉ pre ++ l.take k) : errAt pre l k = 0 := by
  unfold errAt; rw [List.getD_eq_getElem?_getD, hx]; simp only [Option.getD_some]; rw [if_neg (by omega), if_neg h]

/-- which cars were met. -/
def metA (seen : List Int) : Array Value := ((List.range 24).map fun (c : Nat) => Value.bool (decide ((c : Int) ∈ seen))).toArray
theorem metA_size (seen : List Int) : (metA seen).size = 24 := by simp [metA]
theorem metA_get (seen : List Int) (c : Nat) (h : c < 24) : (metA seen)[c]? = some (.bool (decide ((c : Int) ∈ seen))) := by
  simp [metA, h]
theorem metA_set (seen : List Int) (c : Nat) (h : c < 24) : (metA seen).setIfInBounds c (.bool true) = metA (seen ++ [(c : Int)]) := by
  apply Array.ext'
  simp only [metA, List.setIfInBounds_toArray]
  apply List.ext_getElem?
  intro j
  rw [List.getElem?_set]
  by_cases hj : c = j
  · subst hj; simp [h]
  · simp only [hj, if_false, List.getElem?_map]
    by_cases hj24 : j < 24
    · simp only [List.getElem?_range hj24, Option.map_some, List.mem_append, List.mem_singleton]
      congr 3
      have : ¬ ((j : Int) = (c : Int)) := by omega
      simp [this]
    · simp [List.getElem?_eq_none, hj24]


def chkE (lo yo : List Int) (train car : Int) : Int :=
  if (chk lo yo).2.2 ≠ 0 then (chk lo yo).2.2 else if (train ≠ 0 ∧ train ≠ 1) ∨ car < 0 ∨ 24 ≤ car then 7 else 0


structure TrS where
  lo : List Int
  yo : List Int
  car : Int
  e : Int
def takeS (lo yo : List Int) : TrS :=
  if (chk lo yo).2.2 ≠ 0 then ⟨[], [], 0, (chk lo yo).2.2⟩ else match lo with | [] => ⟨[], [], 0, 4⟩ | c :: r => ⟨r, yo, c, 0⟩

def placeS (lo yo : List Int) (tr c : Int) (b : Bool) : TrS :=
  if chkE lo yo tr c ≠ 0 then ⟨[], [], 0, chkE lo yo tr c⟩ else if (findT lo yo c).2.2 = 0 then ⟨[], [], 0, 8⟩ else
  if tr = 0 then ⟨putL lo c b, yo, 0, 0⟩ else ⟨lo, putL yo c b, 0, 0⟩
def relinkS (lo yo : List Int) (b : Bool) : TrS :=
  if (takeS lo yo).e ≠ 0 then ⟨[], [], 0, (takeS lo yo).e⟩ else ⟨(takeS lo yo).lo, putL (takeS lo yo).yo (takeS lo yo).car b, (takeS lo yo).car, 0⟩
def turnS (lo yo : List Int) : TrS :=
  if (chk lo yo).2.2 ≠ 0 then ⟨[], [], 0, (chk lo yo).2.2⟩ else if 0 < lo.length then ⟨[], [], 0, 9⟩ else ⟨yo, [], 0, 0⟩
/-- lo: the cars that were taken -/
def clearS (lo yo : List Int) : TrS :=
  if (chk lo yo).2.2 ≠ 0 then ⟨[], [], 0, (chk lo yo).2.2⟩ else ⟨lo, yo, 0, 0⟩
def findS (lo yo : List Int) (c : Int) : Int × Int × Int := if chkE lo yo 0 c ≠ 0 then (0, 0, chkE lo yo 0 c) else findT lo yo c
def carsS (lo yo : List Int) (tr : Int) : List Int × Int := if chkE lo yo tr 0 ≠ 0 then ([], chkE lo yo tr 0) else (if tr = 0 then lo else yo, 0)
def lastS (lo yo : List Int) (tr : Int) : Int × Int :=
  if (carsS lo yo tr).2 ≠ 0 then (0, (carsS lo yo tr).2) else match (carsS lo yo tr).1.getLast? with | none => (0, 4) | some x => (x, 0)

theorem chkE_ok {lo yo : List Int} {tr c : Int} (h : chkE lo yo tr c = 0) : (chk lo yo).2.2 = 0 ∧ (tr = 0 ∨ tr = 1) ∧ 0 ≤ c ∧ c < 24 := by
  unfold chkE at h
  split at h
  · omega
  · split at h
    · omega
    · omega
theorem chk_ok_len {lo yo : List Int} (h : (chk lo yo).2.2 = 0) : lo.length ≤ 24 ∧ yo.length ≤ 24 := by
  unfold chk at h
  split at h
  · simp at h
  · split at h
    · simp at h
    · omega

end Go.Own
