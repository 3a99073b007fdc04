import Derived.Test.YtodbfgfbkgpooaaDoorStep4
import Derived.Test.YtodbfgfbkgpooaaDoorSp11g
namespace Go.Own
open Go Go.RowKit
theorem OwnI.setB {w : World} {B : Nat} {E T : TypeId} {v : Value} {zs : List Int} {b o : Nat} {x : Value} (h : OwnI w B E v zs) (hp : IsBlk w b T) (hT : (T == E) = false) : OwnI (w.setCell ⟨b, o, none⟩ x) B E v zs := by
  obtain ⟨cs, hp⟩ := hp
  obtain ⟨h1, h2⟩ := h
  refine ⟨h1, ?_⟩
  rcases h2 with h2 | ⟨g, cap, cur, hv, hg, hh, r⟩
  · exact .inl h2
  · refine .inr ⟨g, cap, cur, hv, hg, ?_, r⟩
    have hne : g ≠ b := by
      intro e; subst e; rw [hp] at hh; cases hh; simp at hT
    rw [heap_setCell hne]; exact hh
theorem placeS_e0 {lo : List Int} {c : Int} (h : (placeS lo [] 0 c false).e = 0) : (placeS lo [] 0 c false).lo = lo ++ [c] ∧ (placeS lo [] 0 c false).yo = [] ∧ GoodL (lo ++ [c]) := by
  unfold placeS at *
  split at h
  · rename_i h1; exact absurd h h1
  · rename_i h1
    split at h
    · simp at h
    · rename_i h2
      have h1 : chkE lo [] 0 c = 0 := by
        apply Classical.byContradiction; intro hh; exact h1 hh
      obtain ⟨hg, _, h3, h4⟩ := (chkE_iff lo [] 0 c).1 h1
      have hn := findT_none.1 h2
      simp at hn hg
      rw [if_neg (by rw [h1]; simp), if_neg h2]
      refine ⟨by simp [putL, putAt], by simp, ⟨?_, ?_⟩⟩
      · rw [List.nodup_append]
        exact ⟨hg.1, by simp, by intro a ha b hb; simp at hb; subst hb; intro e; subst e; exact hn ha⟩
      · intro x hx
        rw [List.mem_append] at hx
        rcases hx with hx | hx
        · exact hg.2 x hx
        · simp at hx; subst hx; exact ⟨h3, h4⟩
theorem takeS_nil : takeS [] [] = ⟨[], [], 0, 4⟩ := by rfl
theorem takeS_cons {c : Int} {r : List Int} (h : GoodL (c :: r)) : takeS (c :: r) [] = ⟨r, [], c, 0⟩ := by
  unfold takeS
  rw [if_neg (by rw [chk_zero (by simpa using h)]; simp)]
theorem GoodL.tail {c : Int} {r : List Int} (h : GoodL (c :: r)) : GoodL r := ⟨(List.nodup_cons.1 h.1).2, fun x hx => h.2 x (by simp [hx])⟩
end Go.Own
namespace Go.Own
open Go
theorem putL_last {zs : List Int} {c y : Int} {k : Nat} (hk : k + 1 = zs.length) (hy : zs[k]? = some y) : zs.take k ++ [c] ++ [y] = putL zs c true := by
  have hlt : k < zs.length := by omega
  have hp : putAt zs.length true = k := by unfold putAt; rw [if_pos (by simp; omega)]; omega
  unfold putL; rw [hp]
  have hd : zs.drop k = [y] := by
    rw [List.drop_eq_getElem_cons hlt, List.drop_eq_nil_of_le (by omega)]
    have := (List.getElem?_eq_some_iff.1 hy).2
    rw [this]
  rw [hd]; simp
theorem putL_end {zs : List Int} {c : Int} {b : Bool} (h : b = false ∨ zs.length = 0) : zs ++ [c] = putL zs c b := by
  have hp : putAt zs.length b = zs.length := by
    unfold putAt; rcases h with rfl | h
    · simp
    · simp [h]
  unfold putL; rw [hp]; simp
theorem own_eq {w : World} {B : Nat} {e : TypeId} {a : Option Addr} {c : Nat} {xs ys : List Int} (h : OwnI w B e (.slice a xs.length c) xs) (he : xs = ys) : OwnI w B e (.slice a xs.length c) ys := by subst he; exact h
end Go.Own
namespace Go.Own
theorem chkE_cases (lo yo : List Int) (tr c : Int) : chkE lo yo tr c = if (chk lo yo).2.2 ≠ 0 then (chk lo yo).2.2 else if (tr ≠ 0 ∧ tr ≠ 1) ∨ c < 0 ∨ 24 ≤ c then 7 else 0 := rfl
end Go.Own
namespace Go.Own
theorem findT_zero {lo yo : List Int} {c : Int} : (findT lo yo c).2.2 = 0 ↔ c ∈ lo ∨ c ∈ yo := by
  have := findT_none (lo := lo) (yo := yo) (c := c)
  rw [List.mem_append] at this
  constructor
  · intro h; apply Classical.byContradiction; intro hn; exact (this.2 hn) h
  · intro h; apply Classical.byContradiction; intro hn; exact (this.1 hn) h
theorem placeS_cases (lo yo : List Int) (tr c : Int) (b : Bool) : placeS lo yo tr c b = if chkE lo yo tr c ≠ 0 then ⟨[], [], 0, chkE lo yo tr c⟩ else if c ∈ lo ∨ c ∈ yo then ⟨[], [], 0, 8⟩ else
    if tr = 0 then ⟨putL lo c b, yo, 0, 0⟩ else ⟨lo, putL yo c b, 0, 0⟩ := by
  unfold placeS
  by_cases h : c ∈ lo ∨ c ∈ yo
  · simp only [findT_zero, if_pos h]
  · simp only [findT_zero, if_neg h]
theorem takeS_err {lo yo : List Int} (h : ¬ (chk lo yo).2.2 = 0) : takeS lo yo = ⟨[], [], 0, (chk lo yo).2.2⟩ := by unfold takeS; rw [if_pos h]
theorem takeS_emp {lo yo : List Int} (h : (chk lo yo).2.2 = 0) (hl : (lo.length : Int) = 0) : takeS lo yo = ⟨[], [], 0, 4⟩ := by
  have : lo = [] := List.eq_nil_of_length_eq_zero (by omega)
  subst this
  unfold takeS; rw [if_neg (by simpa using h)]
theorem takeS_ok {lo yo : List Int} {y : Int} (h : (chk lo yo).2.2 = 0) (hy : lo[0]? = some y) : takeS lo yo = ⟨(lo.drop 1).take (lo.length - 1), yo, y, 0⟩ := by
  cases lo with
  | nil => simp at hy
  | cons c r => simp at hy; subst hy; unfold takeS; rw [if_neg (by simpa using h)]; simp
theorem relinkS_err {lo yo : List Int} {b : Bool} (h : ¬ (takeS lo yo).e = 0) : relinkS lo yo b = ⟨[], [], 0, (takeS lo yo).e⟩ := by unfold relinkS; rw [if_pos h]
theorem relinkS_ok {lo yo : List Int} {b : Bool} (h : (takeS lo yo).e = 0) : relinkS lo yo b = ⟨(takeS lo yo).lo, putL (takeS lo yo).yo (takeS lo yo).car b, (takeS lo yo).car, 0⟩ := by unfold relinkS; rw [if_neg (by simpa using h)]
theorem turnS_err {lo yo : List Int} (h : ¬ (chk lo yo).2.2 = 0) : turnS lo yo = ⟨[], [], 0, (chk lo yo).2.2⟩ := by unfold turnS; rw [if_pos h]
theorem turnS_down {lo yo : List Int} (h : (chk lo yo).2.2 = 0) (hl : (0 : Int) < (lo.length : Int)) : turnS lo yo = ⟨[], [], 0, 9⟩ := by
  unfold turnS; rw [if_neg (by simpa using h), if_pos (by omega)]
theorem turnS_ok {lo yo : List Int} (h : (chk lo yo).2.2 = 0) (hl : ¬ (0 : Int) < (lo.length : Int)) : turnS lo yo = ⟨yo, [], 0, 0⟩ := by
  unfold turnS; rw [if_neg (by simpa using h), if_neg (by omega)]
theorem clearS_err {lo yo : List Int} (h : ¬ (chk lo yo).2.2 = 0) : clearS lo yo = ⟨[], [], 0, (chk lo yo).2.2⟩ := by unfold clearS; rw [if_pos h]
theorem clearS_ok {lo yo : List Int} (h : (chk lo yo).2.2 = 0) : clearS lo yo = ⟨lo, yo, 0, 0⟩ := by unfold clearS; rw [if_neg (by simpa using h)]
theorem carsS_err {lo yo : List Int} {tr : Int} (h : ¬ chkE lo yo tr 0 = 0) : carsS lo yo tr = ([], chkE lo yo tr 0) := by unfold carsS; rw [if_pos h]
theorem carsS_ok {lo yo : List Int} {tr : Int} (h : chkE lo yo tr 0 = 0) : carsS lo yo tr = (if tr = 0 then lo else yo, 0) := by unfold carsS; rw [if_neg (by simpa using h)]
theorem lastS_err {lo yo : List Int} {tr : Int} (h : ¬ chkE lo yo tr 0 = 0) : lastS lo yo tr = (0, chkE lo yo tr 0) := by
  unfold lastS; rw [carsS_err h]; simp [h]
theorem lastS_emp {lo yo : List Int} {tr : Int} (h : chkE lo yo tr 0 = 0) (hl : ((if tr = 0 then lo else yo).length : Int) = 0) : lastS lo yo tr = (0, 4) := by
  unfold lastS; rw [carsS_ok h]; simp only [ne_eq, not_true, if_false]
  rw [List.eq_nil_of_length_eq_zero (by omega : (if tr = 0 then lo else yo).length = 0)]; rfl
theorem lastS_ok {lo yo : List Int} {tr y : Int} {k : Nat} (h : chkE lo yo tr 0 = 0) (hk : k + 1 = (if tr = 0 then lo else yo).length) (hy : (if tr = 0 then lo else yo)[k]? = some y) : lastS lo yo tr = (y, 0) := by
  unfold lastS; rw [carsS_ok h]; simp only [ne_eq, not_true, if_false]
  rw [List.getLast?_eq_getElem?, show (if tr = 0 then lo else yo).length - 1 = k by omega, hy]
end Go.Own
namespace Go.Own
theorem takeS_len {lo yo : List Int} {n : Nat} (h : yo.length ≤ n) : (takeS lo yo).yo.length ≤ n := by
  unfold takeS; split
  · simp
  · split <;> simp [h]
theorem takeS_lenL {lo yo : List Int} {n : Nat} (h : lo.length ≤ n) : (takeS lo yo).lo.length ≤ n := by
  unfold takeS; split
  · simp
  · split
    · simp
    · simp at h ⊢; omega
end Go.Own
namespace Go.Own
theorem idx_first {l : List Int} {c : Int} {k : Nat} (hk : l[k]? = some c) (h : ∀ j, j < k → l[j]? ≠ some c) : idx l c = k := by
  have hlt := (List.getElem?_eq_some_iff.1 hk).1
  have hv := (List.getElem?_eq_some_iff.1 hk).2
  have : l.findIdx? (· == c) = some k := by
    rw [List.findIdx?_eq_some_iff_getElem]
    refine ⟨hlt, by simp [hv], fun j hj => ?_⟩
    have := h j hj
    rw [List.getElem?_eq_getElem (by omega)] at this
    simpa using this
  unfold idx; rw [this]
theorem not_mem_of {l : List Int} {c : Int} {k : Nat} (hk : l.length ≤ k) (h : ∀ j, j < k → l[j]? ≠ some c) : c ∉ l := by
  intro hm
  obtain ⟨j, hj, he⟩ := List.getElem_of_mem hm
  exact h j (by omega) (by rw [List.getElem?_eq_getElem hj, he])
theorem findS_err {lo yo : List Int} {c : Int} (h : ¬ chkE lo yo 0 c = 0) : findS lo yo c = (0, 0, chkE lo yo 0 c) := by unfold findS; rw [if_pos h]
theorem findS_hit {lo yo : List Int} {c : Int} {i k : Nat} (he : chkE lo yo 0 c = 0) (hi : i < 2) (h0 : 1 ≤ i → c ∉ lo) (hk : (if (i : Int) = 0 then lo else yo)[k]? = some c) (h : ∀ j, j < k → (if (i : Int) = 0 then lo else yo)[j]? ≠ some c) :
    findS lo yo c = ((i : Int), (k : Int), 0) := by
  unfold findS; rw [if_neg (by simpa using he)]
  obtain rfl | rfl : i = 0 ∨ i = 1 := by omega
  · simp only [Int.natCast_zero, if_true] at hk h ⊢
    have := idx_first hk h
    rw [findT_lo (by omega), this]
  · simp only [Int.natCast_one, Int.one_ne_zero, if_false] at hk h ⊢
    have := idx_first hk h
    rw [findT_yo (idx_neg.2 (h0 (by omega))) (by omega), this]
theorem findS_no {lo yo : List Int} {c : Int} (he : chkE lo yo 0 c = 0) (h0 : c ∉ lo) (h1 : c ∉ yo) : findS lo yo c = (-1, -1, 4) := by
  unfold findS; rw [if_neg (by simpa using he), findT_no (idx_neg.2 h0) (idx_neg.2 h1)]
end Go.Own
