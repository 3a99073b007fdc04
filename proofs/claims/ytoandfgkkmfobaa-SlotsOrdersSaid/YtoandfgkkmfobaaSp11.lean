import Derived.Test.YtoandfgkkmfobaaStep
/-! plain functions of layer 11 -/
namespace Go.Own
open Go

def putAt (n : Nat) (b : Bool) : Nat := if b && decide (0 < n) then n - 1 else n
def putL (xs : List Int) (c : Int) (b : Bool) : List Int := xs.take (putAt xs.length b) ++ c :: xs.drop (putAt xs.length b)
theorem putL_eq (xs : List Int) (c : Int) (b : Bool) (k : Nat) (h : putAt xs.length b = k) : [xs.take k, [c], xs.drop k].flatten = putL xs c b := by
  subst h; simp [putL]
theorem putL_len (xs : List Int) (c : Int) (b : Bool) : (putL xs c b).length = xs.length + 1 := by
  simp [putL, putAt]; split <;> omega

theorem take_snoc {α : Type} (l : List α) (k : Nat) (d : α) (h : k < l.length) : l.take (k + 1) = l.take k ++ [l.getD k d] := by
  rw [List.take_succ_eq_append_getElem h]; simp [h]
theorem take_snoc' {α : Type} (l : List α) (k : Nat) (x : α) (h : l[k]? = some x) : l.take (k + 1) = l.take k ++ [x] := by
  obtain ⟨hk, hx⟩ := List.getElem?_eq_some_iff.1 h
  rw [List.take_succ_eq_append_getElem hk, hx]

/-- the place of a number in a list, or -1. -/
def idx (zs : List Int) (x : Int) : Int := match zs.findIdx? (· == x) with | some i => i | none => -1
theorem idx_hit {zs : List Int} {x : Int} {k : Nat} (h : zs[k]? = some x) (hn : ∀ j, j < k → zs[j]? ≠ some x) : idx zs x = k := by
  unfold idx
  have : zs.findIdx? (· == x) = some k := by
    rw [List.findIdx?_eq_some_iff_getElem]
    obtain ⟨hk, hx⟩ := List.getElem?_eq_some_iff.1 h
    refine ⟨hk, by simp [hx], fun j hj => ?_⟩
    have := hn j hj
    rw [List.getElem?_eq_getElem (by omega)] at this
    simpa using this
  rw [this]
theorem idx_miss {zs : List Int} {x : Int} (hn : ∀ j, j < zs.length → zs[j]? ≠ some x) : idx zs x = -1 := by
  unfold idx
  have : zs.findIdx? (· == x) = none := by
    rw [List.findIdx?_eq_none_iff]
    intro y hy
    obtain ⟨j, hj, rfl⟩ := List.getElem_of_mem hy
    have := hn j hj
    rw [List.getElem?_eq_getElem hj] at this
    simpa using this
  rw [this]
theorem idx_lo (zs : List Int) (x : Int) : -1 ≤ idx zs x := by unfold idx; split <;> omega

def eqI (xs ys : List Int) : Bool := decide (xs = ys)
theorem eqI_true {xs ys : List Int} (h : xs.length = ys.length) (hh : ∀ (j : Nat) (x y : Int), xs[j]? = some x → ys[j]? = some y → x = y) : eqI xs ys = true := by
  unfold eqI
  rw [decide_eq_true_eq]
  apply List.ext_getElem h
  intro i h1 h2
  exact hh i _ _ (List.getElem?_eq_getElem h1) (List.getElem?_eq_getElem h2)
theorem eqI_false {xs ys : List Int} {j : Nat} {x y : Int} (h1 : xs[j]? = some x) (h2 : ys[j]? = some y) (hne : x ≠ y) : eqI xs ys = false := by
  unfold eqI
  rw [decide_eq_false_iff_not]
  intro e; subst e; rw [h1] at h2; cases h2; exact hne rfl
theorem eqI_len {xs ys : List Int} (h : xs.length ≠ ys.length) : eqI xs ys = false := by
  unfold eqI
  rw [decide_eq_false_iff_not]
  intro e; subst e; exact h rfl

/-- where a car is. -/
def findT (lo yo : List Int) (c : Int) : Int × Int × Int :=
  if 0 ≤ idx lo c then (0, idx lo c, 0) else if 0 ≤ idx yo c then (1, idx yo c, 0) else (-1, -1, 4)

theorem findT_lo {lo yo : List Int} {c : Int} (h : 0 ≤ idx lo c) : findT lo yo c = (0, idx lo c, 0) := by unfold findT; rw [if_pos h]
theorem findT_yo {lo yo : List Int} {c : Int} (h0 : idx lo c < 0) (h : 0 ≤ idx yo c) : findT lo yo c = (1, idx yo c, 0) := by unfold findT; rw [if_neg (by omega), if_pos h]
theorem findT_no {lo yo : List Int} {c : Int} (h0 : idx lo c < 0) (h : idx yo c < 0) : findT lo yo c = (-1, -1, 4) := by unfold findT; rw [if_neg (by omega), if_neg (by omega)]
theorem retT {k1 k2 k3 : IntKind} {t t' : Int × Int × Int} (h : t = t') : Ending.returned (.tuple #[.int k1 t.1, .int k2 t.2.1, .int k3 t.2.2]) = .returned (.tuple #[.int k1 t'.1, .int k2 t'.2.1, .int k3 t'.2.2]) := by rw [h]

/-- what is wrong with the car at a place, behind some others. -/
def errAt (pre l : List Int) (k : Nat) : Int := if l.getD k 0 < 0 ∨ 24 ≤ l.getD k 0 then 7 else if l.getD k 0 ∈ pre ++ l.take k then 8 else 0
def scan (pre l : List Int) : Option Nat := (List.range l.length).find? fun k => errAt pre l k != 0
def chk (lo yo : List Int) : Int × Int × Int :=
  if 24 < lo.length then (0, -1, 3) else if 24 < yo.length then (1, -1, 3) else
  match scan [] lo with
  | some k => (0, k, errAt [] lo k)
  | none => match scan lo yo with
    | some k => (1, k, errAt lo yo k)
    | none => (0, 0, 0)
def preAt (lo yo : List Int) (i : Nat) : List Int := if i = 0 then [] else if i = 1 then lo else lo ++ yo
def trAt (lo yo : List Int) (i : Nat) : List Int := if i = 0 then lo else yo
theorem scan_none {pre l : List Int} (h : ∀ j, j < l.length → errAt pre l j = 0) : scan pre l = none := by
  unfold scan
  rw [List.find?_eq_none]
  intro x hx
  rw [h x (by simpa using hx)]; simp
theorem scan_some {pre l : List Int} {k : Nat} (hk : k < l.length) (h : ∀ j, j < k → errAt pre l j = 0) (he : errAt pre l k ≠ 0) : scan pre l = some k := by
  unfold scan
  rw [List.find?_range_eq_some]
  refine ⟨by simpa using he, by simpa using hk, fun j hj => ?_⟩
  rw [h j hj]; rfl
theorem chk_long0 {lo yo : List Int} (h : 24 < lo.length) : chk lo yo = (0, -1, 3) := by unfold chk; rw [if_pos h]
theorem chk_long1 {lo yo : List Int} (h0 : lo.length ≤ 24) (h : 24 < yo.length) : chk lo yo = (1, -1, 3) := by unfold chk; rw [if_neg (by omega), if_pos h]
theorem chk_err {lo yo : List Int} (h0 : lo.length ≤ 24) (h1 : yo.length ≤ 24) {i k : Nat} (hi : i < 2) (hp : 1 ≤ i → ∀ j, j < lo.length → errAt [] lo j = 0)
    (hk : k < (trAt lo yo i).length) (h : ∀ j, j < k → errAt (preAt lo yo i) (trAt lo yo i) j = 0) {e : Int} (he : errAt (preAt lo yo i) (trAt lo yo i) k = e) (hne : e ≠ 0) : chk lo yo = ((i : Int), (k : Int), e) := by
  unfold chk
  rw [if_neg (by omega), if_neg (by omega)]
  obtain rfl | rfl : i = 0 ∨ i = 1 := by omega
  · simp only [preAt, trAt, if_true] at *
    rw [scan_some hk h (by rw [he]; exact hne)]
    simp [he]
  · simp only [preAt, trAt, if_true, Nat.one_ne_zero, if_false] at *
    rw [scan_none (hp (by omega)), scan_some hk h (by rw [he]; exact hne)]
    simp [he]
theorem chk_ok {lo yo : List Int} (h0 : lo.length ≤ 24) (h1 : yo.length ≤ 24) (hp : ∀ j, j < lo.length → errAt [] lo j = 0) (h : ∀ j, j < yo.length → errAt lo yo j = 0) : chk lo yo = (0, 0, 0) := by
  unfold chk
  rw [if_neg (by omega), if_neg (by omega), scan_none hp, scan_none h]
theorem errAt_range {pre l : List Int} {k : Nat} {x : Int} (hx : l[k]? = some x) (h : x < 0 ∨ 24 ≤ x) : errAt pre l k = 7 := by
  unfold errAt; rw [List.getD_eq_getElem?_getD, hx]; simp only [Option.getD_some]; rw [if_pos h]
theorem errAt_twice {pre l : List Int} {k : Nat} {x : Int} (hx : l[k]? = some x) (h0 : 0 ≤ x) (h1 : x < 24) (h : x ∈ pre ++ l.take k) : errAt pre l k = 8 := by
  unfold errAt; rw [List.getD_eq_getElem?_getD, hx]; simp only [Option.getD_some]; rw [if_neg (by omega), if_pos h]
theorem errAt_ok {pre l : List Int} {k : Nat} {x : Int} (hx : l[k]? = some x) (h0 : 0 ≤ x) (h1 : x < 24) (h : x ∉ pre ++ l.take k) : errAt pre l k = 0 := by
  unfold errAt; rw [List.getD_eq_getElem?_getD, hx]; simp only [Option.getD_some]; rw [if_neg (by omega), if_neg h]

/-- which cars were met. -/
def metA (seen : List Int) : Array Value := ((List.range 24).map fun (c : Nat) => Value.bool (decide ((c : Int) ∈ seen))).toArray
theorem metA_size (seen : List Int) : (metA seen).size = 24 := by simp [metA]
theorem metA_get (seen : List Int) (c : Nat) (h : c < 24) : (metA seen)[c]? = some (.bool (decide ((c : Int) ∈ seen))) := by
  simp [metA, h]
theorem metA_set (seen : List Int) (c : Nat) (h : c < 24) : (metA seen).setIfInBounds c (.bool true) = metA (seen ++ [(c : Int)]) := by
  apply Array.ext'
  simp only [metA, List.setIfInBounds_toArray]
  apply List.ext_getElem?
  intro j
  rw [List.getElem?_set]
  by_cases hj : c = j
  · subst hj; simp [h]
  · simp only [hj, if_false, List.getElem?_map]
    by_cases hj24 : j < 24
    · simp only [List.getElem?_range hj24, Option.map_some, List.mem_append, List.mem_singleton]
      congr 3
      have : ¬ ((j : Int) = (c : Int)) := by omega
      simp [this]
    · simp [List.getElem?_eq_none, hj24]


def chkE (lo yo : List Int) (train car : Int) : Int :=
  if (chk lo yo).2.2 ≠ 0 then (chk lo yo).2.2 else if (train ≠ 0 ∧ train ≠ 1) ∨ car < 0 ∨ 24 ≤ car then 7 else 0


structure TrS where
  lo : List Int
  yo : List Int
  car : Int
  e : Int
def takeS (lo yo : List Int) : TrS :=
  if (chk lo yo).2.2 ≠ 0 then ⟨[], [], 0, (chk lo yo).2.2⟩ else match lo with | [] => ⟨[], [], 0, 4⟩ | c :: r => ⟨r, yo, c, 0⟩

def placeS (lo yo : List Int) (tr c : Int) (b : Bool) : TrS :=
  if chkE lo yo tr c ≠ 0 then ⟨[], [], 0, chkE lo yo tr c⟩ else if (findT lo yo c).2.2 = 0 then ⟨[], [], 0, 8⟩ else
  if tr = 0 then ⟨putL lo c b, yo, 0, 0⟩ else ⟨lo, putL yo c b, 0, 0⟩
def relinkS (lo yo : List Int) (b : Bool) : TrS :=
  if (takeS lo yo).e ≠ 0 then ⟨[], [], 0, (takeS lo yo).e⟩ else ⟨(takeS lo yo).lo, putL (takeS lo yo).yo (takeS lo yo).car b, (takeS lo yo).car, 0⟩
def turnS (lo yo : List Int) : TrS :=
  if (chk lo yo).2.2 ≠ 0 then ⟨[], [], 0, (chk lo yo).2.2⟩ else if 0 < lo.length then ⟨[], [], 0, 9⟩ else ⟨yo, [], 0, 0⟩
/-- lo: the cars that were taken -/
def clearS (lo yo : List Int) : TrS :=
  if (chk lo yo).2.2 ≠ 0 then ⟨[], [], 0, (chk lo yo).2.2⟩ else ⟨lo, yo, 0, 0⟩
def findS (lo yo : List Int) (c : Int) : Int × Int × Int := if chkE lo yo 0 c ≠ 0 then (0, 0, chkE lo yo 0 c) else findT lo yo c
def carsS (lo yo : List Int) (tr : Int) : List Int × Int := if chkE lo yo tr 0 ≠ 0 then ([], chkE lo yo tr 0) else (if tr = 0 then lo else yo, 0)
def lastS (lo yo : List Int) (tr : Int) : Int × Int :=
  if (carsS lo yo tr).2 ≠ 0 then (0, (carsS lo yo tr).2) else match (carsS lo yo tr).1.getLast? with | none => (0, 4) | some x => (x, 0)

theorem chkE_ok {lo yo : List Int} {tr c : Int} (h : chkE lo yo tr c = 0) : (chk lo yo).2.2 = 0 ∧ (tr = 0 ∨ tr = 1) ∧ 0 ≤ c ∧ c < 24 := by
  unfold chkE at h
  split at h
  · omega
  · split at h
    · omega
    · omega
theorem chk_ok_len {lo yo : List Int} (h : (chk lo yo).2.2 = 0) : lo.length ≤ 24 ∧ yo.length ≤ 24 := by
  unfold chk at h
  split at h
  · simp at h
  · split at h
    · simp at h
    · omega

end Go.Own
/-! plain law: what Check accepts -/
namespace Go.Own
open Go

def GoodL (l : List Int) : Prop := l.Nodup ∧ ∀ x ∈ l, 0 ≤ x ∧ x < 24

theorem pigeon : ∀ (n : Nat) (l : List Int), l.Nodup → (∀ x ∈ l, 0 ≤ x ∧ x < n) → l.length ≤ n := by
  intro n
  induction n with
  | zero =>
    intro l _ h
    cases l with
    | nil => simp
    | cons x r => have := h x (by simp); omega
  | succ n ih =>
    intro l hn h
    by_cases hm : (n : Int) ∈ l
    · have h1 := ih (l.erase (n : Int)) (hn.erase _) (fun x hx => by
        have hx' := (hn.mem_erase_iff).1 hx
        have := h x hx'.2
        have hne := hx'.1
        omega)
      rw [List.length_erase_of_mem hm] at h1
      omega
    · have h1 := ih l hn (fun x hx => by
        have := h x hx
        have hne : x ≠ (n : Int) := fun e => hm (e ▸ hx)
        omega)
      omega

theorem GoodL.len {l : List Int} (h : GoodL l) : l.length ≤ 24 := pigeon 24 l h.1 h.2

theorem errAt_zero {pre l : List Int} {k : Nat} {x : Int} (hx : l[k]? = some x) : errAt pre l k = 0 ↔ (0 ≤ x ∧ x < 24) ∧ x ∉ pre ++ l.take k := by
  unfold errAt
  rw [List.getD_eq_getElem?_getD, hx]
  simp only [Option.getD_some]
  by_cases h : x < 0 ∨ 24 ≤ x
  · rw [if_pos h]; constructor
    · intro h; omega
    · intro hh; omega
  · rw [if_neg h]
    by_cases h2 : x ∈ pre ++ l.take k
    · rw [if_pos h2]; constructor
      · intro h; omega
      · intro hh; exact absurd h2 hh.2
    · rw [if_neg h2]; constructor
      · intro _; exact ⟨by omega, h2⟩
      · intro _; rfl

theorem good_scan {pre l : List Int} : (GoodL (pre ++ l)) ↔ GoodL pre ∧ ∀ j, j < l.length → errAt pre l j = 0 := by
  constructor
  · intro h
    refine ⟨⟨(List.nodup_append.1 h.1).1, fun x hx => h.2 x (by simp [hx])⟩, fun j hj => ?_⟩
    have hx := List.getElem?_eq_getElem hj
    rw [errAt_zero hx]
    refine ⟨h.2 _ (by simp), ?_⟩
    have e : pre ++ l = (pre ++ l.take j) ++ (l[j] :: l.drop (j + 1)) := by
      rw [List.append_assoc]; congr 1; simp
    have h1 := h.1
    rw [e, List.nodup_append] at h1
    intro hm
    exact h1.2.2 _ hm _ List.mem_cons_self rfl
  · rintro ⟨hp, h⟩
    have key : ∀ k, k ≤ l.length → GoodL (pre ++ l.take k) := by
      intro k
      induction k with
      | zero => intro _; simpa using hp
      | succ k ih =>
        intro hk
        have hx := List.getElem?_eq_getElem (show k < l.length by omega)
        have hg := ih (by omega)
        have he := (errAt_zero hx).1 (h k (by omega))
        rw [take_snoc' l k _ hx, ← List.append_assoc]
        refine ⟨?_, ?_⟩
        · rw [List.nodup_append]
          refine ⟨hg.1, by simp, ?_⟩
          intro a ha b hb
          simp at hb
          subst hb
          intro e; subst e; exact he.2 ha
        · intro x hx
          rw [List.mem_append] at hx
          rcases hx with hx | hx
          · exact hg.2 x hx
          · simp at hx; subst hx; exact he.1
    have := key l.length (Nat.le_refl _)
    rwa [List.take_length] at this

theorem scan_none_iff {pre l : List Int} : scan pre l = none ↔ ∀ j, j < l.length → errAt pre l j = 0 := by
  constructor
  · intro h j hj
    unfold scan at h
    rw [List.find?_eq_none] at h
    have := h j (by simpa using hj)
    simpa using this
  · exact scan_none

theorem errAt_scan {pre l : List Int} {k : Nat} (h : scan pre l = some k) : errAt pre l k ≠ 0 := by
  unfold scan at h
  have := List.find?_some h
  simpa using this

theorem good_nil : GoodL [] := ⟨List.nodup_nil, fun x h => by cases h⟩

/-- what Check accepts. -/
theorem chk_iff (lo yo : List Int) : (chk lo yo).2.2 = 0 ↔ GoodL (lo ++ yo) := by
  constructor
  · intro h
    unfold chk at h
    split at h
    · simp at h
    split at h
    · simp at h
    cases h1 : scan [] lo with
    | some k => rw [h1] at h; exact absurd h (errAt_scan h1)
    | none =>
      rw [h1] at h
      cases h2 : scan lo yo with
      | some k => rw [h2] at h; exact absurd h (errAt_scan h2)
      | none =>
        have g1 : GoodL lo := by
          have := (good_scan (pre := []) (l := lo)).2 ⟨good_nil, scan_none_iff.1 h1⟩
          simpa using this
        exact good_scan.2 ⟨g1, scan_none_iff.1 h2⟩
  · intro h
    have hlen := h.len
    simp at hlen
    obtain ⟨g1, g2⟩ := good_scan.1 h
    have g1' := (good_scan (pre := []) (l := lo)).1 (by simpa using g1)
    rw [chk_ok (by omega) (by omega) g1'.2 g2]

theorem chk_zero {lo yo : List Int} (h : GoodL (lo ++ yo)) : chk lo yo = (0, 0, 0) := by
  have hlen := h.len
  simp at hlen
  obtain ⟨g1, g2⟩ := good_scan.1 h
  have g1' := (good_scan (pre := []) (l := lo)).1 (by simpa using g1)
  exact chk_ok (by omega) (by omega) g1'.2 g2

theorem chkE_iff (lo yo : List Int) (tr c : Int) : chkE lo yo tr c = 0 ↔ GoodL (lo ++ yo) ∧ (tr = 0 ∨ tr = 1) ∧ 0 ≤ c ∧ c < 24 := by
  constructor
  · intro h
    obtain ⟨h1, h2, h3, h4⟩ := chkE_ok h
    exact ⟨(chk_iff lo yo).1 h1, h2, h3, h4⟩
  · rintro ⟨h1, h2, h3, h4⟩
    unfold chkE
    rw [if_neg (by rw [(chk_iff lo yo).2 h1]; simp), if_neg (by omega)]

theorem idx_neg {l : List Int} {c : Int} : idx l c < 0 ↔ c ∉ l := by
  constructor
  · intro h hm
    obtain ⟨j, hj, he⟩ := List.getElem_of_mem hm
    unfold idx at h
    cases hf : l.findIdx? (· == c) with
    | none =>
      rw [List.findIdx?_eq_none_iff] at hf
      have := hf c hm
      simp at this
    | some i => rw [hf] at h; simp at h; omega
  · intro h
    rw [idx_miss fun j hj he => h (List.mem_of_getElem? he)]
    omega

theorem findT_none {lo yo : List Int} {c : Int} : (findT lo yo c).2.2 ≠ 0 ↔ c ∉ lo ++ yo := by
  unfold findT
  by_cases h1 : 0 ≤ idx lo c
  · rw [if_pos h1]
    have : c ∈ lo := by
      apply Classical.byContradiction
      intro h; have := idx_neg.2 h; omega
    simp [this]
  · rw [if_neg h1]
    have h1' : c ∉ lo := idx_neg.1 (by omega)
    by_cases h2 : 0 ≤ idx yo c
    · rw [if_pos h2]
      have : c ∈ yo := by
        apply Classical.byContradiction
        intro h; have := idx_neg.2 h; omega
      simp [this]
    · rw [if_neg h2]
      have h2' : c ∉ yo := idx_neg.1 (by omega)
      simp [h1', h2']

end Go.Own
namespace Go.Own
open Go Go.RowKit
theorem OwnI.setB {w : World} {B : Nat} {E T : TypeId} {v : Value} {zs : List Int} {b o : Nat} {x : Value} (h : OwnI w B E v zs) (hp : IsBlk w b T) (hT : (T == E) = false) : OwnI (w.setCell ⟨b, o, none⟩ x) B E v zs := by
  obtain ⟨cs, hp⟩ := hp
  obtain ⟨h1, h2⟩ := h
  refine ⟨h1, ?_⟩
  rcases h2 with h2 | ⟨g, cap, cur, hv, hg, hh, r⟩
  · exact .inl h2
  · refine .inr ⟨g, cap, cur, hv, hg, ?_, r⟩
    have hne : g ≠ b := by
      intro e; subst e; rw [hp] at hh; cases hh; simp at hT
    rw [heap_setCell hne]; exact hh
theorem placeS_e0 {lo : List Int} {c : Int} (h : (placeS lo [] 0 c false).e = 0) : (placeS lo [] 0 c false).lo = lo ++ [c] ∧ (placeS lo [] 0 c false).yo = [] ∧ GoodL (lo ++ [c]) := by
  unfold placeS at *
  split at h
  · rename_i h1; exact absurd h h1
  · rename_i h1
    split at h
    · simp at h
    · rename_i h2
      have h1 : chkE lo [] 0 c = 0 := by
        apply Classical.byContradiction; intro hh; exact h1 hh
      obtain ⟨hg, _, h3, h4⟩ := (chkE_iff lo [] 0 c).1 h1
      have hn := findT_none.1 h2
      simp at hn hg
      rw [if_neg (by rw [h1]; simp), if_neg h2]
      refine ⟨by simp [putL, putAt], by simp, ⟨?_, ?_⟩⟩
      · rw [List.nodup_append]
        exact ⟨hg.1, by simp, by intro a ha b hb; simp at hb; subst hb; intro e; subst e; exact hn ha⟩
      · intro x hx
        rw [List.mem_append] at hx
        rcases hx with hx | hx
        · exact hg.2 x hx
        · simp at hx; subst hx; exact ⟨h3, h4⟩
theorem takeS_nil : takeS [] [] = ⟨[], [], 0, 4⟩ := by rfl
theorem takeS_cons {c : Int} {r : List Int} (h : GoodL (c :: r)) : takeS (c :: r) [] = ⟨r, [], c, 0⟩ := by
  unfold takeS
  rw [if_neg (by rw [chk_zero (by simpa using h)]; simp)]
theorem GoodL.tail {c : Int} {r : List Int} (h : GoodL (c :: r)) : GoodL r := ⟨(List.nodup_cons.1 h.1).2, fun x hx => h.2 x (by simp [hx])⟩
end Go.Own
namespace Go.Own
open Go
theorem putL_last {zs : List Int} {c y : Int} {k : Nat} (hk : k + 1 = zs.length) (hy : zs[k]? = some y) : zs.take k ++ [c] ++ [y] = putL zs c true := by
  have hlt : k < zs.length := by omega
  have hp : putAt zs.length true = k := by unfold putAt; rw [if_pos (by simp; omega)]; omega
  unfold putL; rw [hp]
  have hd : zs.drop k = [y] := by
    rw [List.drop_eq_getElem_cons hlt, List.drop_eq_nil_of_le (by omega)]
    have := (List.getElem?_eq_some_iff.1 hy).2
    rw [this]
  rw [hd]; simp
theorem putL_end {zs : List Int} {c : Int} {b : Bool} (h : b = false ∨ zs.length = 0) : zs ++ [c] = putL zs c b := by
  have hp : putAt zs.length b = zs.length := by
    unfold putAt; rcases h with rfl | h
    · simp
    · simp [h]
  unfold putL; rw [hp]; simp
theorem own_eq {w : World} {B : Nat} {e : TypeId} {a : Option Addr} {c : Nat} {xs ys : List Int} (h : OwnI w B e (.slice a xs.length c) xs) (he : xs = ys) : OwnI w B e (.slice a xs.length c) ys := by subst he; exact h
end Go.Own
namespace Go.Own
theorem chkE_cases (lo yo : List Int) (tr c : Int) : chkE lo yo tr c = if (chk lo yo).2.2 ≠ 0 then (chk lo yo).2.2 else if (tr ≠ 0 ∧ tr ≠ 1) ∨ c < 0 ∨ 24 ≤ c then 7 else 0 := rfl
end Go.Own
namespace Go.Own
theorem findT_zero {lo yo : List Int} {c : Int} : (findT lo yo c).2.2 = 0 ↔ c ∈ lo ∨ c ∈ yo := by
  have := findT_none (lo := lo) (yo := yo) (c := c)
  rw [List.mem_append] at this
  constructor
  · intro h; apply Classical.byContradiction; intro hn; exact (this.2 hn) h
  · intro h; apply Classical.byContradiction; intro hn; exact (this.1 hn) h
theorem placeS_cases (lo yo : List Int) (tr c : Int) (b : Bool) : placeS lo yo tr c b = if chkE lo yo tr c ≠ 0 then ⟨[], [], 0, chkE lo yo tr c⟩ else if c ∈ lo ∨ c ∈ yo then ⟨[], [], 0, 8⟩ else
    if tr = 0 then ⟨putL lo c b, yo, 0, 0⟩ else ⟨lo, putL yo c b, 0, 0⟩ := by
  unfold placeS
  by_cases h : c ∈ lo ∨ c ∈ yo
  · simp only [findT_zero, if_pos h]
  · simp only [findT_zero, if_neg h]
theorem takeS_err {lo yo : List Int} (h : ¬ (chk lo yo).2.2 = 0) : takeS lo yo = ⟨[], [], 0, (chk lo yo).2.2⟩ := by unfold takeS; rw [if_pos h]
theorem takeS_emp {lo yo : List Int} (h : (chk lo yo).2.2 = 0) (hl : (lo.length : Int) = 0) : takeS lo yo = ⟨[], [], 0, 4⟩ := by
  have : lo = [] := List.eq_nil_of_length_eq_zero (by omega)
  subst this
  unfold takeS; rw [if_neg (by simpa using h)]
theorem takeS_ok {lo yo : List Int} {y : Int} (h : (chk lo yo).2.2 = 0) (hy : lo[0]? = some y) : takeS lo yo = ⟨(lo.drop 1).take (lo.length - 1), yo, y, 0⟩ := by
  cases lo with
  | nil => simp at hy
  | cons c r => simp at hy; subst hy; unfold takeS; rw [if_neg (by simpa using h)]; simp
theorem relinkS_err {lo yo : List Int} {b : Bool} (h : ¬ (takeS lo yo).e = 0) : relinkS lo yo b = ⟨[], [], 0, (takeS lo yo).e⟩ := by unfold relinkS; rw [if_pos h]
theorem relinkS_ok {lo yo : List Int} {b : Bool} (h : (takeS lo yo).e = 0) : relinkS lo yo b = ⟨(takeS lo yo).lo, putL (takeS lo yo).yo (takeS lo yo).car b, (takeS lo yo).car, 0⟩ := by unfold relinkS; rw [if_neg (by simpa using h)]
theorem turnS_err {lo yo : List Int} (h : ¬ (chk lo yo).2.2 = 0) : turnS lo yo = ⟨[], [], 0, (chk lo yo).2.2⟩ := by unfold turnS; rw [if_pos h]
theorem turnS_down {lo yo : List Int} (h : (chk lo yo).2.2 = 0) (hl : (0 : Int) < (lo.length : Int)) : turnS lo yo = ⟨[], [], 0, 9⟩ := by
  unfold turnS; rw [if_neg (by simpa using h), if_pos (by omega)]
theorem turnS_ok {lo yo : List Int} (h : (chk lo yo).2.2 = 0) (hl : ¬ (0 : Int) < (lo.length : Int)) : turnS lo yo = ⟨yo, [], 0, 0⟩ := by
  unfold turnS; rw [if_neg (by simpa using h), if_neg (by omega)]
theorem clearS_err {lo yo : List Int} (h : ¬ (chk lo yo).2.2 = 0) : clearS lo yo = ⟨[], [], 0, (chk lo yo).2.2⟩ := by unfold clearS; rw [if_pos h]
theorem clearS_ok {lo yo : List Int} (h : (chk lo yo).2.2 = 0) : clearS lo yo = ⟨lo, yo, 0, 0⟩ := by unfold clearS; rw [if_neg (by simpa using h)]
theorem carsS_err {lo yo : List Int} {tr : Int} (h : ¬ chkE lo yo tr 0 = 0) : carsS lo yo tr = ([], chkE lo yo tr 0) := by unfold carsS; rw [if_pos h]
theorem carsS_ok {lo yo : List Int} {tr : Int} (h : chkE lo yo tr 0 = 0) : carsS lo yo tr = (if tr = 0 then lo else yo, 0) := by unfold carsS; rw [if_neg (by simpa using h)]
theorem lastS_err {lo yo : List Int} {tr : Int} (h : ¬ chkE lo yo tr 0 = 0) : lastS lo yo tr = (0, chkE lo yo tr 0) := by
  unfold lastS; rw [carsS_err h]; simp [h]
theorem lastS_emp {lo yo : List Int} {tr : Int} (h : chkE lo yo tr 0 = 0) (hl : ((if tr = 0 then lo else yo).length : Int) = 0) : lastS lo yo tr = (0, 4) := by
  unfold lastS; rw [carsS_ok h]; simp only [ne_eq, not_true, if_false]
  rw [List.eq_nil_of_length_eq_zero (by omega : (if tr = 0 then lo else yo).length = 0)]; rfl
theorem lastS_ok {lo yo : List Int} {tr y : Int} {k : Nat} (h : chkE lo yo tr 0 = 0) (hk : k + 1 = (if tr = 0 then lo else yo).length) (hy : (if tr = 0 then lo else yo)[k]? = some y) : lastS lo yo tr = (y, 0) := by
  unfold lastS; rw [carsS_ok h]; simp only [ne_eq, not_true, if_false]
  rw [List.getLast?_eq_getElem?, show (if tr = 0 then lo else yo).length - 1 = k by omega, hy]
end Go.Own
namespace Go.Own
theorem takeS_len {lo yo : List Int} {n : Nat} (h : yo.length ≤ n) : (takeS lo yo).yo.length ≤ n := by
  unfold takeS; split
  · simp
  · split <;> simp [h]
theorem takeS_lenL {lo yo : List Int} {n : Nat} (h : lo.length ≤ n) : (takeS lo yo).lo.length ≤ n := by
  unfold takeS; split
  · simp
  · split
    · simp
    · simp at h ⊢; omega
end Go.Own
namespace Go.Own
theorem idx_first {l : List Int} {c : Int} {k : Nat} (hk : l[k]? = some c) (h : ∀ j, j < k → l[j]? ≠ some c) : idx l c = k := by
  have hlt := (List.getElem?_eq_some_iff.1 hk).1
  have hv := (List.getElem?_eq_some_iff.1 hk).2
  have : l.findIdx? (· == c) = some k := by
    rw [List.findIdx?_eq_some_iff_getElem]
    refine ⟨hlt, by simp [hv], fun j hj => ?_⟩
    have := h j hj
    rw [List.getElem?_eq_getElem (by omega)] at this
    simpa using this
  unfold idx; rw [this]
theorem not_mem_of {l : List Int} {c : Int} {k : Nat} (hk : l.length ≤ k) (h : ∀ j, j < k → l[j]? ≠ some c) : c ∉ l := by
  intro hm
  obtain ⟨j, hj, he⟩ := List.getElem_of_mem hm
  exact h j (by omega) (by rw [List.getElem?_eq_getElem hj, he])
theorem findS_err {lo yo : List Int} {c : Int} (h : ¬ chkE lo yo 0 c = 0) : findS lo yo c = (0, 0, chkE lo yo 0 c) := by unfold findS; rw [if_pos h]
theorem findS_hit {lo yo : List Int} {c : Int} {i k : Nat} (he : chkE lo yo 0 c = 0) (hi : i < 2) (h0 : 1 ≤ i → c ∉ lo) (hk : (if (i : Int) = 0 then lo else yo)[k]? = some c) (h : ∀ j, j < k → (if (i : Int) = 0 then lo else yo)[j]? ≠ some c) :
    findS lo yo c = ((i : Int), (k : Int), 0) := by
  unfold findS; rw [if_neg (by simpa using he)]
  obtain rfl | rfl : i = 0 ∨ i = 1 := by omega
  · simp only [Int.natCast_zero, if_true] at hk h ⊢
    have := idx_first hk h
    rw [findT_lo (by omega), this]
  · simp only [Int.natCast_one, Int.one_ne_zero, if_false] at hk h ⊢
    have := idx_first hk h
    rw [findT_yo (idx_neg.2 (h0 (by omega))) (by omega), this]
theorem findS_no {lo yo : List Int} {c : Int} (he : chkE lo yo 0 c = 0) (h0 : c ∉ lo) (h1 : c ∉ yo) : findS lo yo c = (-1, -1, 4) := by
  unfold findS; rw [if_neg (by simpa using he), findT_no (idx_neg.2 h0) (idx_neg.2 h1)]
end Go.Own
