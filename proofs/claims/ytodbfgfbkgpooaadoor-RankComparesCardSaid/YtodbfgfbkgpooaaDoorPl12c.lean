import Derived.Test.YtodbfgfbkgpooaaDoorPl12b
namespace Go.Own
open Go
def olT (lo yo : List Int) (c : Int) : List Int := if plE lo yo c ≠ 0 then [] else (lo ++ yo).take (plN lo yo c).toNat
theorem olT_err {lo yo : List Int} {c : Int} (h : plE lo yo c ≠ 0) : olT lo yo c = [] := by unfold olT; rw [if_pos h]
theorem olT_ok {lo yo : List Int} {c : Int} (h : plE lo yo c = 0) : olT lo yo c = (lo ++ yo).take (plN lo yo c).toNat := by unfold olT; rw [if_neg (by simpa using h)]
theorem plE_of {lo yo : List Int} {c : Int} (h : ofE lo yo [c] ≠ 0) : plE lo yo c = ofE lo yo [c] := by
  rw [ofE_one] at h ⊢; unfold plE; rw [if_pos h]
theorem plE_no {lo yo : List Int} {c : Int} (h : rkE lo yo c = 0) (h1 : (rkR lo yo c).1 = -1) : plE lo yo c = 4 := by unfold plE; rw [if_neg (by simpa using h), if_pos h1]
theorem plE_yes {lo yo : List Int} {c : Int} (h : rkE lo yo c = 0) (h1 : ¬ (rkR lo yo c).1 = -1) : plE lo yo c = 0 := by unfold plE; rw [if_neg (by simpa using h), if_neg h1]
theorem rkE_pl {lo yo : List Int} {c : Int} (h : plE lo yo c = 0) : rkE lo yo c = 0 := by
  unfold plE at h; split at h
  · exact h
  · rename_i a; simpa using a
theorem chk_pl {lo yo : List Int} {c : Int} (h : plE lo yo c = 0) : (chk lo yo).2.2 = 0 := by
  have := rkE_pl h
  unfold rkE chkE at this
  by_cases h0 : (chk lo yo).2.2 = 0
  · exact h0
  · rw [if_pos h0] at this; exact this
theorem pl_at {lo yo : List Int} {c : Int} (h : plE lo yo c = 0) : 0 ≤ plN lo yo c ∧ (lo ++ yo)[(plN lo yo c).toNat]? = some c := by
  have h1 : ¬ (rkR lo yo c).1 = -1 := fun e => by rw [plE_no (rkE_pl h) e] at h; cases h
  unfold plN; rw [if_neg (by simpa using h)]
  rcases rk_cs lo yo c with ⟨a, _⟩ | ⟨_, e, _⟩ | ⟨_, k, hk, e, _⟩ | ⟨_, _, k, hk, e, _⟩
  · exact absurd (rkE_pl h) a
  · rw [e] at h1; exact absurd rfl h1
  · rw [e]; simp
    rw [List.getElem?_append_left (List.getElem?_eq_some_iff.1 hk).1]; exact hk
  · rw [e]; simp
    refine ⟨by omega, ?_⟩
    rw [show ((lo.length : Int) + (k : Int)).toNat = lo.length + k by omega, List.getElem?_append_right (by omega), Nat.add_sub_cancel_left]; exact hk
theorem pl_lt {lo yo : List Int} {c : Int} (h : plE lo yo c = 0) : plN lo yo c < (lo.length + yo.length : Int) := by
  have := pl_at h
  have h2 := (List.getElem?_eq_some_iff.1 this.2).1
  rw [List.length_append] at h2; omega
theorem pl_mem {lo yo : List Int} {c : Int} (h : (chk lo yo).2.2 = 0) (hm : c ∈ lo ++ yo) : plE lo yo c = 0 := by
  have hg := (chk_iff lo yo).1 h
  have hr := hg.2 c hm
  have h0 : rkE lo yo c = 0 := (chkE_iff lo yo 0 c).2 ⟨hg, .inl rfl, hr⟩
  refine plE_yes h0 fun e => ?_
  rcases rk_cs lo yo c with ⟨a, _⟩ | ⟨_, _, h1, h2⟩ | ⟨_, k, _, e', _⟩ | ⟨_, _, k, _, e', _⟩
  · exact a h0
  · rcases List.mem_append.1 hm with q | q
    · exact h1 q
    · exact h2 q
  · rw [e'] at e; cases e
  · rw [e'] at e; cases e
theorem mem_pl {lo yo : List Int} {c : Int} (h : plE lo yo c = 0) : c ∈ lo ++ yo := List.mem_of_getElem? (pl_at h).2
theorem nodup_at {l : List Int} {i j : Nat} {c : Int} (h : l.Nodup) (h1 : l[i]? = some c) (h2 : l[j]? = some c) : i = j := by
  obtain ⟨a, ha⟩ := List.getElem?_eq_some_iff.1 h1
  obtain ⟨b, hb⟩ := List.getElem?_eq_some_iff.1 h2
  rcases Nat.lt_trichotomy i j with q | q | q
  · exact absurd (ha.trans hb.symm) (List.pairwise_iff_getElem.1 h i j a b q)
  · exact q
  · exact absurd (hb.trans ha.symm) (List.pairwise_iff_getElem.1 h j i b a q)
/-- a car's place is the only one. -/
theorem pl_only {lo yo : List Int} {c : Int} {k : Nat} (h : (chk lo yo).2.2 = 0) (hk : (lo ++ yo)[k]? = some c) : plE lo yo c = 0 ∧ plN lo yo c = k := by
  have hg := (chk_iff lo yo).1 h
  have h0 := pl_mem h (List.mem_of_getElem? hk)
  have h1 := pl_at h0
  have := nodup_at hg.1 h1.2 hk
  exact ⟨h0, by omega⟩
theorem ol_hit {lo yo : List Int} {c : Int} {pre q : List (Int × Int × Int)} {x : Int × Int × Int} (h : (chk lo yo).2.2 = 0) (hq : pre = q ++ [x]) (hx : x.1 = c) (hp : pre <+: ranked lo yo) : plE lo yo c = 0 ∧ olT lo yo c = fst3 q := by
  subst hq
  obtain ⟨r, hr⟩ := hp
  have hl : lo ++ yo = fst3 q ++ c :: r.map (·.1) := by rw [← ranked_fst, ← hr, ← hx]; simp [fst3]
  have hk : (lo ++ yo)[(fst3 q).length]? = some c := by rw [hl]; simp
  have := pl_only h hk
  refine ⟨this.1, ?_⟩
  rw [olT_ok this.1, this.2, hl, Int.toNat_natCast]; simp
theorem ol_miss {lo yo : List Int} {c : Int} (h0 : plE lo yo c = 0) (hn : ∀ y ∈ ranked lo yo, y.1 ≠ c) : False := by
  have hm := mem_pl h0
  rw [← ranked_fst] at hm
  obtain ⟨y, hy, e⟩ := List.mem_map.1 hm
  exact hn y hy e
theorem ol_len (lo yo : List Int) (c : Int) : ((olT lo yo c).length : Int) = plN lo yo c := by
  by_cases h : plE lo yo c = 0
  · rw [olT_ok h, List.length_take, List.length_append]
    have := pl_lt h; have := (pl_at h).1; omega
  · rw [olT_err h]; unfold plN; rw [if_pos h]; rfl
/-! External -/
def exE (lo yo : List Int) (a b : Int) : Int := if rkE lo yo b ≠ 0 then rkE lo yo b else if a ≠ -1 then rkE lo yo a else 0
def exX (lo yo : List Int) (a : Int) : Int := if a ≠ -1 then (rkR lo yo a).1 else -1
def exB (lo yo : List Int) (a b : Int) : Bool := if exE lo yo a b ≠ 0 then false else decide ((rkR lo yo b).1 ≠ -1 ∧ exX lo yo a ≠ (rkR lo yo b).1)
theorem exE_one {lo yo : List Int} {a b : Int} (h : a = -1) : exE lo yo a b = ofE lo yo [b] := by rw [ofE_one]; unfold exE; split <;> simp_all
theorem exE_two {lo yo : List Int} {a b : Int} (h : ¬ a = -1) : exE lo yo a b = ofE lo yo [b, a] := by rw [ofE_two]; unfold exE; split <;> simp_all
theorem exB_err {lo yo : List Int} {a b : Int} (h : exE lo yo a b ≠ 0) : exB lo yo a b = false := by unfold exB; rw [if_pos h]
theorem exB_ok {lo yo : List Int} {a b : Int} (h : exE lo yo a b = 0) : exB lo yo a b = decide ((rkR lo yo b).1 ≠ -1 ∧ exX lo yo a ≠ (rkR lo yo b).1) := by unfold exB; rw [if_neg (by simpa using h)]
/-! Moved -/
def mvE (lo yo lo2 yo2 : List Int) : Int := if (chk lo yo).2.2 ≠ 0 then (chk lo yo).2.2 else (chk lo2 yo2).2.2
def mvK (lo yo lo2 yo2 : List Int) (k : Nat) : List Int := ((List.range k).filter fun (c : Nat) => decide (rkP lo yo (c : Int) ≠ rkP lo2 yo2 (c : Int))).map fun (c : Nat) => (c : Int)
def mvT (lo yo lo2 yo2 : List Int) : List Int := if mvE lo yo lo2 yo2 ≠ 0 then [] else mvK lo yo lo2 yo2 24
theorem mvT_err {lo yo lo2 yo2 : List Int} (h : mvE lo yo lo2 yo2 ≠ 0) : mvT lo yo lo2 yo2 = [] := by unfold mvT; rw [if_pos h]
theorem mvT_ok {lo yo lo2 yo2 : List Int} (h : mvE lo yo lo2 yo2 = 0) : mvT lo yo lo2 yo2 = mvK lo yo lo2 yo2 24 := by unfold mvT; rw [if_neg (by simpa using h)]
theorem mvE_1 {lo yo lo2 yo2 : List Int} (h : (chk lo yo).2.2 ≠ 0) : mvE lo yo lo2 yo2 = (chk lo yo).2.2 := by unfold mvE; rw [if_pos h]
theorem mvE_2 {lo yo lo2 yo2 : List Int} (h : (chk lo yo).2.2 = 0) : mvE lo yo lo2 yo2 = (chk lo2 yo2).2.2 := by unfold mvE; rw [if_neg (by simpa using h)]
theorem mvK_len (lo yo lo2 yo2 : List Int) (k : Nat) : (mvK lo yo lo2 yo2 k).length ≤ k := by
  unfold mvK; rw [List.length_map]; exact Nat.le_trans (List.length_filter_le _ _) (by simp)
theorem mvK_hit {lo yo lo2 yo2 : List Int} {k : Nat} (h : rkP lo yo (k : Int) ≠ rkP lo2 yo2 (k : Int)) : mvK lo yo lo2 yo2 k ++ [(k : Int)] = mvK lo yo lo2 yo2 (k + 1) := by
  unfold mvK; rw [List.range_succ, List.filter_append, List.map_append]; simp [h]
theorem mvK_skip {lo yo lo2 yo2 : List Int} {k : Nat} (h : rkP lo yo (k : Int) = rkP lo2 yo2 (k : Int)) : mvK lo yo lo2 yo2 k = mvK lo yo lo2 yo2 (k + 1) := by
  unfold mvK; rw [List.range_succ, List.filter_append, List.map_append]; simp [h]
theorem all_row {lo yo : List Int} {k : Nat} {y : Int × Int} (h : (chk lo yo).2.2 = 0) (hk : k < 24) (hy : (ofT lo yo [])[k]? = some y) : rkP lo yo (k : Int) = y := by
  unfold ofT at hy
  rw [if_neg (by rw [ofE_nil]; simpa using h)] at hy
  have := rkAll_at (lo := lo) (yo := yo) (c := (k : Int)) (by omega) (by omega)
  rw [Int.toNat_natCast, hy] at this; cases this; rfl
theorem all_row' {lo yo : List Int} {k : Nat} {y : Int × Int} (h : (chk lo yo).2.2 = 0) (hk : k < 24) (hy : (allT lo yo)[k]? = some y) : rkP lo yo (k : Int) = y := all_row h hk (by rw [← allT_ok h]; exact hy)
theorem allT_len {lo yo : List Int} (h : (chk lo yo).2.2 = 0) : (allT lo yo).length = 24 := by rw [allT_ok h, ofT_len]
theorem pr_ne {a b : Int × Int} (h : ¬ (a.1 = b.1 ∧ a.2 = b.2)) : a ≠ b := fun e => h (by rw [e]; exact ⟨rfl, rfl⟩)
theorem pr_eq {a b : Int × Int} (h : a.1 = b.1 ∧ a.2 = b.2) : a = b := Prod.ext h.1 h.2
theorem rows_eq {xs ys : List (Int × Int)} (h1 : xs.length = ys.length) {k : Nat} (hk : xs.length ≤ k) (h : ∀ i, i < k → xs[i]? = ys[i]?) : xs = ys := by
  apply List.ext_getElem?
  intro i
  by_cases hi : i < k
  · exact h i hi
  · rw [List.getElem?_eq_none (by omega), List.getElem?_eq_none (by omega)]
theorem rows_step {xs ys : List (Int × Int)} {k : Nat} {x y : Int × Int} (h : ∀ i, i < k → xs[i]? = ys[i]?) (hx : xs[k]? = some x) (hy : ys[k]? = some y) (e : x = y) : ∀ i, i < k + 1 → xs[i]? = ys[i]? := by
  intro i hi
  by_cases q : i = k
  · subst q; rw [hx, hy, e]
  · exact h i (by omega)
theorem rows_ne {xs ys : List (Int × Int)} {k : Nat} {x y : Int × Int} (hx : xs[k]? = some x) (hy : ys[k]? = some y) (e : x ≠ y) : xs ≠ ys := by
  rintro rfl; rw [hx] at hy; cases hy; exact e rfl
theorem ne_snoc {pre : List (Int × Int × Int)} {c x1 x2 x3 : Int} (h : ∀ y ∈ pre, y.1 ≠ c) (h1 : ¬ x1 = c) : ∀ y ∈ pre ++ [(x1, x2, x3)], y.1 ≠ c := by
  intro y hy
  rcases List.mem_append.1 hy with q | q
  · exact h y q
  · rw [List.mem_singleton] at q; subst q; exact h1
theorem chk_rk {lo yo : List Int} {c : Int} (h : rkE lo yo c = 0) : (chk lo yo).2.2 = 0 := by
  unfold rkE chkE at h
  by_cases h0 : (chk lo yo).2.2 = 0
  · exact h0
  · rw [if_pos h0] at h; exact h
end Go.Own
