import Derived.Test.YtbnijekjaafoaaaPl19b
namespace Go.Own.R
open Go Go.Own
def mvC (r : Int × Int) : List Value := [.int .i64 r.1, .int .i64 r.2]
theorem mvC_len : ∀ a : Int × Int, (mvC a).length = 2 := fun _ => rfl
theorem mvC_one : ∀ y : Int × Int, ∀ u ∈ mvC y, u.oneCell' = true := by intro y u hu; simp only [mvC, List.mem_cons, List.not_mem_nil, or_false] at hu; rcases hu with rfl | rfl <;> rfl
def badM (x : Int × Int) : Prop := x.1 < 1 ∨ 1600 < x.1 ∨ x.2 < 1 ∨ 1600 < x.2
instance (x : Int × Int) : Decidable (badM x) := by unfold badM; infer_instance
def fsts (ms : List (Int × Int)) : List Int := ms.map (·.1)
def mvGo : List Int → List (Int × Int) → Nat → Int × Int
  | _, [], _ => (0, 0)
  | seen, x :: r, i => if badM x then ((i : Int), 7) else if x.1 ∈ seen then ((i : Int), 8) else mvGo (seen ++ [x.1]) r (i + 1)
def mvR (ms : List (Int × Int)) : Int × Int := if 2000 < ms.length then (-1, 3) else mvGo [] ms 0
theorem mvR_long {ms : List (Int × Int)} (h : 2000 < (ms.length : Int)) : mvR ms = (-1, 3) := by unfold mvR; rw [if_pos (by omega)]
theorem mvR_init {ms : List (Int × Int)} (h : ¬ 2000 < (ms.length : Int)) : mvR ms = mvGo (fsts (ms.take 0)) (ms.drop 0) 0 := by unfold mvR; rw [if_neg (by omega)]; simp [fsts]
theorem drop_at {α : Type} {l : List α} {k : Nat} {y : α} (hy : l[k]? = some y) : l.drop k = y :: l.drop (k + 1) := by
  obtain ⟨hk, rfl⟩ := List.getElem?_eq_some_iff.1 hy
  exact List.drop_eq_getElem_cons hk
theorem fsts_snoc {ms : List (Int × Int)} {k : Nat} {y : Int × Int} (hy : ms[k]? = some y) : fsts (ms.take (k + 1)) = fsts (ms.take k) ++ [y.1] := by
  obtain ⟨hk, rfl⟩ := List.getElem?_eq_some_iff.1 hy
  unfold fsts; rw [List.take_add_one, List.getElem?_eq_getElem hk, List.map_append]; rfl
theorem mv_step {ms : List (Int × Int)} {k : Nat} {y : Int × Int} (hz : mvR ms = mvGo (fsts (ms.take k)) (ms.drop k) k) (hy : ms[k]? = some y) (hb : ¬ badM y) (hn : y.1 ∉ fsts (ms.take k)) : mvR ms = mvGo (fsts (ms.take (k + 1))) (ms.drop (k + 1)) (k + 1) := by
  rw [hz, drop_at hy, mvGo, if_neg hb, if_neg hn, fsts_snoc hy]
theorem mv_bad {ms : List (Int × Int)} {k : Nat} {y : Int × Int} (hz : mvR ms = mvGo (fsts (ms.take k)) (ms.drop k) k) (hy : ms[k]? = some y) (hb : badM y) : mvR ms = ((k : Int), 7) := by
  rw [hz, drop_at hy, mvGo, if_pos hb]
theorem mv_twice {ms : List (Int × Int)} {k : Nat} {y : Int × Int} (hz : mvR ms = mvGo (fsts (ms.take k)) (ms.drop k) k) (hy : ms[k]? = some y) (hb : ¬ badM y) (hn : y.1 ∈ fsts (ms.take k)) : mvR ms = ((k : Int), 8) := by
  rw [hz, drop_at hy, mvGo, if_neg hb, if_pos hn]
theorem mv_done {ms : List (Int × Int)} {k : Nat} (hz : mvR ms = mvGo (fsts (ms.take k)) (ms.drop k) k) (hk : ms.length ≤ k) : mvR ms = (0, 0) := by
  rw [hz, List.drop_eq_nil_of_le hk]; cases fsts (ms.take k) <;> rfl
theorem lkB_fsts {ms : List (Int × Int)} {q : Int} : lkB ms q = true ↔ q ∈ fsts ms := by
  unfold lkB fsts
  rw [List.find?_isSome]
  simp
theorem lkB_in {ms : List (Int × Int)} {q : Int} (h : lkB ms q = true) : q ∈ fsts ms := lkB_fsts.1 h
theorem lkB_out {ms : List (Int × Int)} {q : Int} (h : lkB ms q = false) : q ∉ fsts ms := fun q => by rw [lkB_fsts.2 q] at h; cases h
def wyM (ms : List (Int × Int)) : List (Int × Int) := if (mvR ms).2 ≠ 0 then [] else ms
theorem wyM_err {ms : List (Int × Int)} (h : (mvR ms).2 ≠ 0) : wyM ms = [] := by unfold wyM; rw [if_pos h]
theorem wyM_ok {ms : List (Int × Int)} (h : (mvR ms).2 = 0) : wyM ms = ms := by unfold wyM; rw [if_neg (by simpa using h)]
/-! the reference's table of what was met -/
def metT (ps : List (Int × Int)) : List Bool := (List.range 1601).map fun (i : Nat) => decide ((i : Int) ∈ fsts ps)
theorem metT_len (ps : List (Int × Int)) : (metT ps).length = 1601 := by simp [metT]
theorem metT_nil (ms : List (Int × Int)) : List.replicate 1601 false = metT (ms.take 0) := by
  apply List.ext_getElem
  · rw [List.length_replicate, metT_len]
  · intro i h1 h2
    rw [List.getElem_replicate]
    simp only [metT, List.getElem_map, List.take_zero, fsts, List.map_nil, List.not_mem_nil, decide_false]
theorem metT_at {ps : List (Int × Int)} {q : Int} {b : Bool} (hq : 0 ≤ q ∧ q ≤ 1600) (h : (metT ps)[q.toNat]? = some b) : b = decide (q ∈ fsts ps) := by
  have hl : q.toNat < 1601 := by omega
  have e : ((q.toNat : Nat) : Int) = q := by omega
  unfold metT at h
  rw [List.getElem?_map, List.getElem?_range hl] at h
  simp only [Option.map_some, Option.some.injEq, e] at h
  exact h.symm
theorem metT_set {ms : List (Int × Int)} {k : Nat} {y : Int × Int} (hy : ms[k]? = some y) (hq : 0 ≤ y.1 ∧ y.1 ≤ 1600) : (metT (ms.take k)).set y.1.toNat true = metT (ms.take (k + 1)) := by
  apply List.ext_getElem
  · rw [List.length_set, metT_len, metT_len]
  · intro i h1 h2
    have hi : i < 1601 := by rw [metT_len] at h2; exact h2
    rw [List.getElem_set]
    simp only [metT, List.getElem_map, List.getElem_range, fsts_snoc hy, List.mem_append, List.mem_singleton]
    by_cases e : y.1.toNat = i
    · rw [if_pos e]
      have : (i : Int) = y.1 := by omega
      simp [this]
    · rw [if_neg e]
      have : ¬ (i : Int) = y.1 := by omega
      simp [this]
/-! Forward -/
def fwE (l : List Int) (ms : List (Int × Int)) : Int := if (ckR l).2 ≠ 0 then (ckR l).2 else (mvR ms).2
def fw1 (ms : List (Int × Int)) (a : Int) : Int := if lkB ms a then lkN ms a else a
def fwT (l : List Int) (ms : List (Int × Int)) : List Int := if fwE l ms ≠ 0 then [] else l.map (fw1 ms)
def fwC (l : List Int) (ms : List (Int × Int)) (k : Nat) : Int := (((l.take k).countP fun a => decide (fw1 ms a ≠ a) : Nat) : Int)
def fwN (l : List Int) (ms : List (Int × Int)) : Int := if fwE l ms ≠ 0 then 0 else fwC l ms l.length
def fwK (l : List Int) (ms : List (Int × Int)) (k : Nat) : List Int := (l.take k).map (fw1 ms) ++ l.drop k
theorem fwE_ck {l : List Int} {ms : List (Int × Int)} (h : (ckR l).2 ≠ 0) : fwE l ms = (ckR l).2 := by unfold fwE; rw [if_pos h]
theorem fwE_mv {l : List Int} {ms : List (Int × Int)} (h : (ckR l).2 = 0) : fwE l ms = (mvR ms).2 := by unfold fwE; rw [if_neg (by simpa using h)]
theorem fw_err {l : List Int} {ms : List (Int × Int)} (h : fwE l ms ≠ 0) : fwT l ms = [] ∧ fwN l ms = 0 := by unfold fwT fwN; rw [if_pos h, if_pos h]; exact ⟨rfl, rfl⟩
theorem fw_ok {l : List Int} {ms : List (Int × Int)} (h : fwE l ms = 0) : fwT l ms = l.map (fw1 ms) ∧ fwN l ms = fwC l ms l.length := by unfold fwT fwN; rw [if_neg (by simpa using h), if_neg (by simpa using h)]; exact ⟨rfl, rfl⟩
theorem fwK_len (l : List Int) (ms : List (Int × Int)) (k : Nat) : (fwK l ms k).length = l.length := by unfold fwK; rw [List.length_append, List.length_map, List.length_take, List.length_drop]; omega
theorem fwK_zero (l : List Int) (ms : List (Int × Int)) : fwK l ms 0 = l := by simp [fwK]
theorem fwK_all {l : List Int} {ms : List (Int × Int)} {k : Nat} (h : l.length ≤ k) : fwK l ms k = l.map (fw1 ms) := by unfold fwK; rw [List.take_of_length_le h, List.drop_eq_nil_of_le h]; simp
theorem fwK_set {l : List Int} {ms : List (Int × Int)} {k : Nat} {y : Int} (hy : l[k]? = some y) : (fwK l ms k).set k (fw1 ms y) = fwK l ms (k + 1) := by
  have hk := (List.getElem?_eq_some_iff.1 hy).1
  unfold fwK
  have hl : ((l.take k).map (fw1 ms)).length = k := by rw [List.length_map, List.length_take]; omega
  rw [List.set_append_right _ _ (by omega), hl, Nat.sub_self, drop_at hy, take_snoc' l k y hy]
  simp
theorem fwK_same {l : List Int} {ms : List (Int × Int)} {k : Nat} {y : Int} (hy : l[k]? = some y) (h : fw1 ms y = y) : fwK l ms k = fwK l ms (k + 1) := by
  unfold fwK
  rw [drop_at hy, take_snoc' l k y hy, List.map_append]; simp [h]
theorem fwC_zero (l : List Int) (ms : List (Int × Int)) : fwC l ms 0 = 0 := rfl
theorem fwC_ne {l : List Int} {ms : List (Int × Int)} {k : Nat} {y : Int} (hy : l[k]? = some y) (h : ¬ fw1 ms y = y) : fwC l ms (k + 1) = fwC l ms k + 1 := by
  unfold fwC; rw [take_snoc' l k y hy, List.countP_append]; simp [h]
theorem fwC_eq {l : List Int} {ms : List (Int × Int)} {k : Nat} {y : Int} (hy : l[k]? = some y) (h : fw1 ms y = y) : fwC l ms (k + 1) = fwC l ms k := by
  unfold fwC; rw [take_snoc' l k y hy, List.countP_append]; simp [h]
theorem fwC_bd (l : List Int) (ms : List (Int × Int)) (k : Nat) : 0 ≤ fwC l ms k ∧ fwC l ms k ≤ l.length := by
  unfold fwC
  have h1 := List.countP_le_length (p := fun a => decide (fw1 ms a ≠ a)) (l := l.take k)
  rw [List.length_take] at h1
  omega
theorem fwC_all {l : List Int} {ms : List (Int × Int)} {k : Nat} (h : l.length ≤ k) : fwC l ms k = fwC l ms l.length := by unfold fwC; rw [List.take_of_length_le h, List.take_length]
theorem fw1_in {ms : List (Int × Int)} {y : Int} (h : lkB ms y = true) : fw1 ms y = lkN ms y := by unfold fw1; rw [if_pos h]
theorem fw1_out {ms : List (Int × Int)} {y : Int} (h : lkB ms y = false) : fw1 ms y = y := by unfold fw1; rw [if_neg (by simp [h])]
theorem hd_t {l : List Int} {a : Int} {j : Nat} {hb : Bool} (h : hb = decide (a ∈ l.take j)) (c : hb = true) : true = decide (a ∈ l.take (j + 1)) := by
  rw [c] at h
  have : a ∈ l.take j := by simpa using h.symm
  symm; rw [decide_eq_true_eq]
  exact (List.take_sublist_take_left (by omega)).subset this
theorem hd_f {l : List Int} {a y : Int} {j : Nat} {hb : Bool} (h : hb = decide (a ∈ l.take j)) (c : hb = false) (hy : l[j]? = some y) : decide (y = a) = decide (a ∈ l.take (j + 1)) := by
  rw [c] at h
  have : a ∉ l.take j := by simpa using h.symm
  rw [take_snoc' l j y hy]
  apply decide_eq_decide.2
  rw [List.mem_append, List.mem_singleton]
  exact ⟨fun e => .inr e.symm, fun q => q.elim (fun q => absurd q this) fun e => e.symm⟩
theorem hd_T {l : List Int} {a : Int} {j : Nat} {hb : Bool} (h : hb = decide (a ∈ l.take j)) (c : hb = true) (hj : l.length ≤ j) : a ∈ l := by
  rw [c, List.take_of_length_le hj] at h; simpa using h.symm
theorem hd_F {l : List Int} {a : Int} {j : Nat} {hb : Bool} (h : hb = decide (a ∈ l.take j)) (c : hb = false) (hj : l.length ≤ j) : a ∉ l := by
  rw [c, List.take_of_length_le hj] at h; simpa using h.symm
theorem take_pair {ms : List (Int × Int)} {k : Nat} {y : Int × Int} (hy : ms[k]? = some y) : ms.take k ++ [(y.1, y.2)] = ms.take (k + 1) := by
  obtain ⟨hk, rfl⟩ := List.getElem?_eq_some_iff.1 hy
  rw [List.take_add_one, List.getElem?_eq_getElem hk]; rfl
theorem met_in {ps : List (Int × Int)} {q : Int} {b : Bool} (hq : 0 ≤ q ∧ q ≤ 1600) (h : (metT ps)[q.toNat]? = some b) (c : b = true) : q ∈ fsts ps := by
  have := metT_at hq h; rw [c] at this; simpa using this.symm
theorem met_out {ps : List (Int × Int)} {q : Int} {b : Bool} (hq : 0 ≤ q ∧ q ≤ 1600) (h : (metT ps)[q.toNat]? = some b) (c : b = false) : q ∉ fsts ps := by
  have := metT_at hq h; rw [c] at this; simpa using this.symm
/-- what the reference's inner loop has laid behind j moves. -/
def fwj (ms : List (Int × Int)) (j : Nat) (a : Int) : Int := if lkB (ms.take j) a then lkN (ms.take j) a else a
theorem fwj_zero (ms : List (Int × Int)) (a : Int) : fwj ms 0 a = a := by simp [fwj, lkB]
theorem fwj_all {ms : List (Int × Int)} {j : Nat} {a : Int} (h : ms.length ≤ j) : fwj ms j a = fw1 ms a := by unfold fwj fw1; rw [List.take_of_length_le h]
theorem find_snoc {ms : List (Int × Int)} {j : Nat} {p : Int × Int} {a : Int} (hp : ms[j]? = some p) : ((ms.take (j + 1)).find? fun q => q.1 == a) = ((ms.take j).find? fun q => q.1 == a).or (if p.1 = a then some p else none) := by
  obtain ⟨hj, rfl⟩ := List.getElem?_eq_some_iff.1 hp
  rw [List.take_add_one, List.getElem?_eq_getElem hj, Option.toList_some, List.find?_append]
  congr 1
  by_cases h : ms[j].1 = a <;> simp [List.find?_cons, h]
theorem fwj_miss {ms : List (Int × Int)} {j : Nat} {p : Int × Int} {a : Int} (hp : ms[j]? = some p) (h : ¬ p.1 = a) : fwj ms (j + 1) a = fwj ms j a := by
  unfold fwj lkB lkN
  rw [find_snoc hp, if_neg h, Option.or_none]
theorem mvGo_nodup : ∀ (r : List (Int × Int)) (seen : List Int) (i : Nat), (mvGo seen r i).2 = 0 → seen.Nodup → (seen ++ fsts r).Nodup
  | [], seen, _, _, h => by simpa [fsts] using h
  | x :: r, seen, i, h, hn => by
    unfold mvGo at h
    split at h
    · cases h
    · split at h
      · cases h
      · rename_i hx
        have := mvGo_nodup r (seen ++ [x.1]) (i + 1) h (List.nodup_append.2 ⟨hn, by simp, fun a ha b hb => by rw [List.mem_singleton] at hb; subst hb; rintro rfl; exact hx ha⟩)
        simpa [fsts, List.append_assoc] using this
theorem mv_nodup {ms : List (Int × Int)} (h : (mvR ms).2 = 0) : (fsts ms).Nodup := by
  unfold mvR at h
  split at h
  · cases h
  · have := mvGo_nodup ms [] 0 h List.nodup_nil
    simpa using this
theorem fwj_hit {ms : List (Int × Int)} {j : Nat} {p : Int × Int} {a : Int} (hm : (mvR ms).2 = 0) (hp : ms[j]? = some p) (h : p.1 = a) : fwj ms (j + 1) a = p.2 := by
  have hn : (ms.take j).find? (fun q => q.1 == a) = none := by
    rw [List.find?_eq_none]
    intro q hq he
    have he : q.1 = a := by simpa using he
    obtain ⟨i, hi, rfl⟩ := List.mem_iff_getElem.1 hq
    rw [List.length_take] at hi
    rw [List.getElem_take] at he
    obtain ⟨hj, rfl⟩ := List.getElem?_eq_some_iff.1 hp
    have hnd := mv_nodup hm
    unfold fsts at hnd
    have := List.pairwise_iff_getElem.1 hnd i j (by simp; omega) (by simp; omega) (by omega)
    simp at this
    exact this (he.trans h.symm)
  unfold fwj lkB lkN
  rw [find_snoc hp, hn, if_pos h]; rfl
theorem set_at {l : List Int} {k : Nat} {x y : Int} (h : (l.set k x)[k]? = some y) : y = x := by
  have hk : k < l.length := by
    have := (List.getElem?_eq_some_iff.1 h).1
    simpa using this
  rw [List.getElem?_set_self hk] at h; exact (Option.some.inj h).symm
theorem fwK_self {l : List Int} {ms : List (Int × Int)} {k : Nat} {y : Int} (hy : l[k]? = some y) : (fwK l ms k).set k (fwj ms 0 y) = fwK l ms k := by
  rw [fwj_zero]
  have hk := (List.getElem?_eq_some_iff.1 hy).1
  unfold fwK
  have hl : ((l.take k).map (fw1 ms)).length = k := by rw [List.length_map, List.length_take]; omega
  rw [List.set_append_right _ _ (by omega), hl, Nat.sub_self, drop_at hy]; rfl
end Go.Own.R
