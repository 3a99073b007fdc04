import Derived.Test.YtodbfgfbkgpooaaDoorPl11
/-! plain laws of TrainsKept -/
namespace Go.Own
open Go
def cntD (l g : List Int) : List Int := (List.range 24).map fun (c : Nat) => ((l.count (c : Int) : Nat) : Int) - ((g.count (c : Int) : Nat) : Int)
theorem cntD_len (l g : List Int) : (cntD l g).length = 24 := by simp [cntD]
theorem cntD_get {l g : List Int} {c : Nat} (h : c < 24) : (cntD l g)[c]? = some (((l.count (c : Int) : Nat) : Int) - ((g.count (c : Int) : Nat) : Int)) := by simp [cntD, h]
theorem cntD_nil (l g : List Int) : cnt l = cntD l (g.take 0) := by simp [cntD, cnt]
theorem cntD_bd {l g : List Int} {i : Nat} {y : Int} (h : (cntD l g)[i]? = some y) : -(g.length : Int) ≤ y ∧ y ≤ l.length := by
  have hi : i < 24 := by
    have := (List.getElem?_eq_some_iff.1 h).1
    rwa [cntD_len] at this
  rw [cntD_get hi] at h
  have h2 := List.count_le_length (a := (i : Int)) (l := l)
  have h3 := List.count_le_length (a := (i : Int)) (l := g)
  have : ((l.count (i : Int) : Nat) : Int) - ((g.count (i : Int) : Nat) : Int) = y := by simpa using h
  omega
theorem list24 {a b : List Int} (ha : a.length = 24) (hb : b.length = 24) (h : ∀ c, c < 24 → a[c]? = b[c]?) : a = b := by
  apply List.ext_getElem?
  intro j
  by_cases hj : j < 24
  · exact h j hj
  · rw [List.getElem?_eq_none (by omega), List.getElem?_eq_none (by omega)]
theorem cntD_hit {l g : List Int} {k : Nat} {y x : Int} (hy : g[k]? = some y) (h0 : 0 ≤ y) (h1 : y < 24) (hx : (cntD l (g.take k))[y.toNat]? = some x) : (cntD l (g.take k)).set y.toNat (x - 1) = cntD l (g.take (k + 1)) := by
  refine list24 (by rw [List.length_set, cntD_len]) (cntD_len _ _) fun j hj => ?_
  rw [cntD_get (by omega)] at hx
  rw [take_snoc' g k y hy, cntD_get hj, List.getElem?_set]
  have e : ((y.toNat : Nat) : Int) = y := by omega
  rw [e] at hx
  have hx : ((l.count y : Nat) : Int) - (((g.take k).count y : Nat) : Int) = x := by simpa using hx
  by_cases he : y.toNat = j
  · have : y = (j : Int) := by omega
    subst this
    simp [cntD_len, hj]
    omega
  · rw [if_neg he, cntD_get hj]
    have : y ≠ (j : Int) := by omega
    simp [List.count_append, List.count_singleton, this]
/-- nothing came. -/
theorem cntD_perm {l m g : List Int} (p : (g ++ m).Perm l) : cntD l (g.take g.length) = cnt m := by
  refine list24 (cntD_len _ _) (cnt_len _) fun j hj => ?_
  rw [List.take_length, cntD_get hj, cnt_get hj]
  have := p.count_eq (j : Int)
  rw [List.count_append] at this
  congr 1
  omega
/-- one came. -/
theorem cntD_come {l m : List Int} {c x : Int} {k : Nat} (p : m.Perm (c :: l)) (h0 : 0 ≤ c) (h1 : c < 24) (hx : (cntD l (([] : List Int).take k))[c.toNat]? = some x) : (cntD l (([] : List Int).take k)).set c.toNat (x + 1) = cnt m := by
  refine list24 (by rw [List.length_set, cntD_len]) (cnt_len _) fun j hj => ?_
  rw [cntD_get (by omega)] at hx
  have e : ((c.toNat : Nat) : Int) = c := by omega
  rw [e] at hx
  have hx : ((l.count c : Nat) : Int) = x := by simpa using hx
  rw [cnt_get hj, List.getElem?_set]
  have := p.count_eq (j : Int)
  rw [List.count_cons] at this
  by_cases he : c.toNat = j
  · have : c = (j : Int) := by omega
    subst this
    simp [cntD_len, hj]
    simp at this
    omega
  · rw [if_neg he, cntD_get hj]
    have hne : c ≠ (j : Int) := by omega
    simp [hne] at this
    simp [this]
theorem chkE_of {lo yo : List Int} {n c : Int} (hG : GoodL (lo ++ yo)) (hn : n = 0 ∨ n = 1) (h0 : 0 ≤ c) (h1 : c < 24) : chkE lo yo n c = 0 := (chkE_iff lo yo n c).2 ⟨hG, hn, h0, h1⟩
theorem place_good {lo yo : List Int} {n c : Int} (b : Bool) (hG : GoodL (lo ++ yo)) (hn : n = 0 ∨ n = 1) (h0 : 0 ≤ c) (h1 : c < 24) :
    (placeS lo yo n c b = ⟨[], [], 0, 8⟩) ∨ ((placeS lo yo n c b).e = 0 ∧ ((placeS lo yo n c b).lo ++ (placeS lo yo n c b).yo).Perm (c :: (lo ++ yo)) ∧ GoodL (c :: (lo ++ yo))) := by
  have hk := chkE_of hG hn h0 h1
  rw [placeS_cases]
  simp only [hk, ne_eq, not_true, if_false]
  by_cases h : c ∈ lo ∨ c ∈ yo
  · left; simp [h]
  · right
    have hg : GoodL (c :: (lo ++ yo)) := by
      refine ⟨List.nodup_cons.2 ⟨by simpa [List.mem_append] using h, hG.1⟩, fun x hx => ?_⟩
      rw [List.mem_cons] at hx
      rcases hx with rfl | hx
      · exact ⟨h0, h1⟩
      · exact hG.2 x hx
    rcases hn with rfl | rfl
    · simp only [h, if_false, if_true]
      exact ⟨trivial, (putL_perm lo c b).append_right yo, hg⟩
    · simp only [h, if_false, Int.one_ne_zero]
      exact ⟨trivial, ((putL_perm yo c b).append_left lo).trans List.perm_middle, hg⟩
/-- what act comes to, of good trains. -/
structure ActOk (lo yo : List Int) (s : ActS) : Prop where
  good : GoodL (s.lo ++ s.yo)
  gone : GoodL s.gone
  perm : s.come < 0 → (s.gone ++ (s.lo ++ s.yo)).Perm (lo ++ yo)
  come : 0 ≤ s.come → s.come < 24 ∧ s.gone = [] ∧ (s.lo ++ s.yo).Perm (s.come :: (lo ++ yo))
theorem good_e {lo yo : List Int} (hG : GoodL (lo ++ yo)) : (chk lo yo).2.2 = 0 := (chk_iff lo yo).2 hG
theorem act_good {lo yo : List Int} {kd ca tr : Int} (hG : GoodL (lo ++ yo)) (_ : 0 ≤ ca) (_ : 0 ≤ tr) :
    (((actS lo yo kd ca tr).e = 8 ∨ (actS lo yo kd ca tr).e = 4 ∨ (actS lo yo kd ca tr).e = 9) ∧ (actS lo yo kd ca tr).lo = [] ∧ (actS lo yo kd ca tr).yo = []) ∨ ((actS lo yo kd ca tr).e = 0 ∧ ActOk lo yo (actS lo yo kd ca tr)) := by
  have hn : tr % 2 = 0 ∨ tr % 2 = 1 := by omega
  have hg := good_e hG
  have pl : ∀ b, ((((⟨(placeS lo yo (tr % 2) (ca % 24) b).lo, (placeS lo yo (tr % 2) (ca % 24) b).yo, [], ca % 24, (placeS lo yo (tr % 2) (ca % 24) b).e⟩ : ActS)).e = 8 ∨ ((⟨(placeS lo yo (tr % 2) (ca % 24) b).lo, (placeS lo yo (tr % 2) (ca % 24) b).yo, [], ca % 24, (placeS lo yo (tr % 2) (ca % 24) b).e⟩ : ActS)).e = 4 ∨ ((⟨(placeS lo yo (tr % 2) (ca % 24) b).lo, (placeS lo yo (tr % 2) (ca % 24) b).yo, [], ca % 24, (placeS lo yo (tr % 2) (ca % 24) b).e⟩ : ActS)).e = 9) ∧
      (placeS lo yo (tr % 2) (ca % 24) b).lo = [] ∧ (placeS lo yo (tr % 2) (ca % 24) b).yo = []) ∨ ((placeS lo yo (tr % 2) (ca % 24) b).e = 0 ∧ ActOk lo yo ⟨(placeS lo yo (tr % 2) (ca % 24) b).lo, (placeS lo yo (tr % 2) (ca % 24) b).yo, [], ca % 24, (placeS lo yo (tr % 2) (ca % 24) b).e⟩) := by
    intro b
    rcases place_good (c := ca % 24) b hG hn (by omega) (by omega) with h | ⟨h1, h2, h3⟩
    · left; rw [h]; simp
    · right
      exact ⟨h1, ⟨h3.perm h2, ⟨by simp, by simp⟩, fun h => absurd h (by simp only; omega), fun _ => ⟨by simp only; omega, rfl, h2⟩⟩⟩
  unfold actS
  by_cases h0 : kd % 6 = 0
  · simp only [h0, if_true]; exact pl false
  rw [if_neg h0]
  by_cases h1 : kd % 6 = 1
  · rw [if_pos h1]; exact pl true
  rw [if_neg h1]
  by_cases h2 : kd % 6 = 2
  · rw [if_pos h2]
    rcases takeS_cases hg with ⟨rfl, h⟩ | ⟨c, r, rfl, h⟩
    · left; rw [h]; simp
    · right; rw [h]
      refine ⟨rfl, ⟨GoodL.tail hG, ⟨by simp, fun x hx => ?_⟩, fun _ => by simp, fun h => absurd h (show ¬ (0 : Int) ≤ -1 by decide)⟩⟩
      simp at hx; subst hx; exact hG.2 _ (by simp)
  rw [if_neg h2]
  by_cases h3 : kd % 6 = 3
  · rw [if_pos h3]
    rcases takeS_cases hg with ⟨rfl, h⟩ | ⟨c, r, rfl, h⟩
    · left; rw [relinkS_err (by rw [h]; decide), h]; simp
    · right; rw [relinkS_ok (by rw [h]), h]
      have p : (r ++ putL yo c (decide (tr % 2 = 0))).Perm (c :: r ++ yo) := ((putL_perm yo c _).append_left r).trans List.perm_middle
      exact ⟨rfl, ⟨hG.perm p, ⟨by simp, by simp⟩, fun _ => by simpa using p, fun h => absurd h (show ¬ (0 : Int) ≤ -1 by decide)⟩⟩
  rw [if_neg h3]
  by_cases h4 : kd % 6 = 4
  · rw [if_pos h4]
    cases lo with
    | cons c r => left; rw [turnS_down hg (by simp)]; simp
    | nil => right; rw [turnS_nil hg]
             exact ⟨rfl, ⟨by simpa using hG, ⟨by simp, by simp⟩, fun _ => by simp, fun h => absurd h (show ¬ (0 : Int) ≤ -1 by decide)⟩⟩
  rw [if_neg h4]
  right
  rw [clearS_ok hg]
  refine ⟨rfl, ⟨⟨(List.nodup_append.1 hG.1).2.1, fun x hx => hG.2 x (by simp at hx; simp [hx])⟩, ⟨(List.nodup_append.1 hG.1).1, fun x hx => hG.2 x (by simp [hx])⟩, fun _ => by simp, fun h => absurd h (show ¬ (0 : Int) ≤ -1 by decide)⟩⟩
/-- what Find and Cars come to, of good trains. -/
structure FindOk (lo yo : List Int) (c : Int) (f : Int × Int × Int) : Prop where
  car : (carsS lo yo (if (0 : Int) > f.1 then 0 else f.1)).2 = 0
  e : f.2.2 = 0 ↔ (lo ++ yo).count c = 1
  place : f.2.2 = 0 → 0 ≤ f.2.1 ∧ f.2.1 < ((carsS lo yo (if (0 : Int) > f.1 then 0 else f.1)).1.length : Int) ∧ (carsS lo yo (if (0 : Int) > f.1 then 0 else f.1)).1[f.2.1.toNat]? = some c
theorem idx_mem {zs : List Int} {x : Int} (h : x ∈ zs) : 0 ≤ idx zs x ∧ idx zs x < zs.length ∧ zs[(idx zs x).toNat]? = some x := by
  unfold idx
  have hs : (zs.findIdx? (· == x)).isSome = true := by rw [List.findIdx?_isSome, List.any_eq_true]; exact ⟨x, h, by simp⟩
  obtain ⟨i, hi⟩ := Option.isSome_iff_exists.1 hs
  rw [hi]
  rw [List.findIdx?_eq_some_iff_getElem] at hi
  obtain ⟨hk, hx, _⟩ := hi
  simp only [beq_iff_eq] at hx
  refine ⟨by simp only; omega, by simp only; omega, ?_⟩
  simp only [Int.toNat_natCast]
  rw [List.getElem?_eq_getElem hk, hx]
theorem idx_no {zs : List Int} {x : Int} (h : x ∉ zs) : idx zs x = -1 := idx_miss fun j hj he => h (List.mem_of_getElem? he)
theorem find_good {lo yo : List Int} {c : Int} (hG : GoodL (lo ++ yo)) (h0 : 0 ≤ c) (h1 : c < 24) : FindOk lo yo c (findS lo yo c) := by
  have hk := chkE_of hG (.inl rfl) h0 h1
  have c0 : carsS lo yo 0 = (lo, 0) := by rw [carsS_ok (chkE_of hG (.inl rfl) (by omega) (by omega))]; simp
  have c1 : carsS lo yo 1 = (yo, 0) := by rw [carsS_ok (chkE_of hG (.inr rfl) (by omega) (by omega))]; simp
  have hf : findS lo yo c = findT lo yo c := by unfold findS; rw [if_neg (by simpa using hk)]
  rw [hf]
  by_cases hl : c ∈ lo
  · obtain ⟨a, b, d⟩ := idx_mem hl
    rw [findT_lo a]
    refine ⟨by simp [c0], ⟨fun _ => ?_, fun _ => rfl⟩, fun _ => by show 0 ≤ idx lo c ∧ idx lo c < ((carsS lo yo 0).1.length : Int) ∧ (carsS lo yo 0).1[(idx lo c).toNat]? = some c; rw [c0]; exact ⟨a, b, d⟩⟩
    rw [List.Nodup.count hG.1, if_pos (by simp [hl])]
  · by_cases hy : c ∈ yo
    · obtain ⟨a, b, d⟩ := idx_mem hy
      rw [findT_yo (by rw [idx_no hl]; decide) a]
      refine ⟨by simp [c1], ⟨fun _ => ?_, fun _ => rfl⟩, fun _ => by show 0 ≤ idx yo c ∧ idx yo c < ((carsS lo yo 1).1.length : Int) ∧ (carsS lo yo 1).1[(idx yo c).toNat]? = some c; rw [c1]; exact ⟨a, b, d⟩⟩
      rw [List.Nodup.count hG.1, if_pos (by simp [hy])]
    · rw [findT_no (by rw [idx_no hl]; decide) (by rw [idx_no hy]; decide)]
      refine ⟨by simp [c0], ⟨fun h => absurd h (by decide), fun h => ?_⟩, fun h => absurd h (show ¬ (4 : Int) = 0 by decide)⟩
      rw [List.count_eq_zero.2 (by simp [hl, hy])] at h
      exact absurd h (by decide)
theorem good_count {l : List Int} (hG : GoodL l) (c : Int) : l.count c ≤ 1 := by
  rw [List.Nodup.count hG.1]; split <;> omega
/-- how many are below a bound. -/
def below (l : List Int) (c : Nat) : Int := ((l.countP fun x => decide (x < (c : Int)) : Nat) : Int)
theorem below_len (l : List Int) (c : Nat) : 0 ≤ below l c ∧ below l c ≤ l.length := by
  unfold below
  have := List.countP_le_length (p := fun x => decide (x < (c : Int))) (l := l)
  omega
theorem below_step {l : List Int} {c : Nat} : below l (c + 1) = below l c + ((l.count (c : Int) : Nat) : Int) := by
  unfold below
  have e : ((c + 1 : Nat) : Int) = (c : Int) + 1 := by omega
  simp only [e]
  induction l with
  | nil => simp
  | cons a l ih =>
    rw [List.countP_cons, List.countP_cons, List.count_cons]
    by_cases h1 : a < (c : Int)
    · have h2 : a < (c : Int) + 1 := by omega
      have h3 : a ≠ (c : Int) := by omega
      simp [h1, h2, h3]; omega
    · by_cases h3 : a = (c : Int)
      · subst h3; have h2 : (c : Int) < (c : Int) + 1 := by omega
        simp [h2]; omega
      · have h2 : ¬ a < (c : Int) + 1 := by omega
        simp [h1, h2, h3]; omega
theorem below_zero {l : List Int} (hG : GoodL l) : below l 0 = 0 := by
  unfold below
  have : (l.countP fun x => decide (x < ((0 : Nat) : Int))) = 0 := by
    rw [List.countP_eq_zero]; intro x hx; have := (hG.2 x hx).1; simp; omega
  rw [this]; rfl
theorem below_all {l : List Int} (hG : GoodL l) : below l 24 = l.length := by
  unfold below
  have : (l.countP fun x => decide (x < ((24 : Nat) : Int))) = l.length := by
    rw [List.countP_eq_length]; intro x hx; have := (hG.2 x hx).2; simp; omega
  rw [this]
theorem below_hit {l : List Int} {c : Nat} {x : Int} (hc : c < 24) (hx : (cnt l)[c]? = some x) : below l c + x = below l (c + 1) := by
  rw [cnt_get hc] at hx
  have : ((l.count (c : Int) : Nat) : Int) = x := by simpa using hx
  rw [below_step, this]
theorem cnt_is {l : List Int} {c : Nat} {x : Int} (hc : c < 24) (hx : (cnt l)[c]? = some x) : x = ((l.count (c : Int) : Nat) : Int) := by
  rw [cnt_get hc] at hx
  simpa using hx.symm
theorem good_len {lo yo : List Int} (hG : GoodL (lo ++ yo)) : lo.length ≤ 24 ∧ yo.length ≤ 24 := chk_ok_len (good_e hG)
theorem cnt_zero2 : List.replicate 24 (0 : Int) = cnt ([] ++ []) := by simp [cnt]; rfl
theorem cntD_perm2 {l m g : List Int} {j : Nat} (hj : g.length ≤ j) (p : (g ++ m).Perm l) : cntD l (g.take j) = cnt m := by
  rw [List.take_of_length_le hj, ← List.take_length (l := g)]; exact cntD_perm p
theorem cntD_come2 {l m g : List Int} {c x : Int} {k : Nat} (hg : g = []) (p : m.Perm (c :: l)) (h0 : 0 ≤ c) (h1 : c < 24) (hx : (cntD l (g.take k))[c.toNat]? = some x) : (cntD l (g.take k)).set c.toNat (x + 1) = cnt m := by
  subst hg; exact cntD_come p h0 h1 hx
theorem act_err {lo yo : List Int} {kd ca tr : Int} (hG : GoodL (lo ++ yo)) (h1 : 0 ≤ ca) (h2 : 0 ≤ tr) (h : (actS lo yo kd ca tr).e ≠ 0) :
    ((actS lo yo kd ca tr).e = 8 ∨ (actS lo yo kd ca tr).e = 4 ∨ (actS lo yo kd ca tr).e = 9) ∧ (actS lo yo kd ca tr).lo = [] ∧ (actS lo yo kd ca tr).yo = [] := by
  rcases act_good (kd := kd) hG h1 h2 with h3 | h3
  · exact h3
  · exact absurd h3.1 h
theorem act_ok {lo yo : List Int} {kd ca tr : Int} (hG : GoodL (lo ++ yo)) (h1 : 0 ≤ ca) (h2 : 0 ≤ tr) (h : ¬ (actS lo yo kd ca tr).e ≠ 0) : ActOk lo yo (actS lo yo kd ca tr) := by
  rcases act_good (kd := kd) hG h1 h2 with h3 | h3
  · omega
  · exact h3.2
theorem good_len1 {l : List Int} (h : GoodL l) : l.length ≤ 24 := (good_len (lo := l) (yo := []) (by simpa using h)).1
/-- an act's cells. -/
def tri (x : Int × Int × Int) : List Value := [.int .u8 x.1, .int .u8 x.2.1, .int .u8 x.2.2]
end Go.Own
