import Derived.Test.YtodbfgfbkgpooaaDoorSp11
import Derived.Test.YtodbfgfbkgpooaaDoorPl11
import Derived.Test.YtodbfgfbkgpooaaDoorSepH
import Derived.Test.YtodbfgfbkgpooaaDoorPl11b
import Derived.Test.YtodbfgfbkgpooaaDoorSepR
namespace Go.Own
open Go
def cmpI (x y : Int) : Int := if x < y then -1 else if y < x then 1 else 0
def orI : List Int → Int
  | [] => 0
  | x :: l => if x ≠ 0 then x else orI l
theorem orI_skip {zs : List Int} {k : Nat} {y : Int} (hy : zs[k]? = some y) (h : y = 0) : orI (zs.drop k) = orI (zs.drop (k + 1)) := by
  obtain ⟨hk, rfl⟩ := List.getElem?_eq_some_iff.1 hy
  rw [List.drop_eq_getElem_cons hk]; simp [orI, h]
theorem orI_hit {zs : List Int} {k : Nat} {y : Int} (hy : zs[k]? = some y) (h : y ≠ 0) : orI (zs.drop k) = y := by
  obtain ⟨hk, rfl⟩ := List.getElem?_eq_some_iff.1 hy
  rw [List.drop_eq_getElem_cons hk]; simp [orI, h]
def encR (x : Int × Int × Int) : Array Value := #[.int .i64 x.1, .agg #[.int .i64 x.2.1, .int .i64 x.2.2]]
def rkSeg (t : Nat) (l : List Int) : List (Int × Int × Int) := l.zipIdx.map fun p => (p.1, (t : Int), (p.2 : Int))
def ranked (lo yo : List Int) : List (Int × Int × Int) := rkSeg 0 lo ++ rkSeg 1 yo
def rkPre (lo yo : List Int) (k : Nat) : List (Int × Int × Int) := if k = 0 then [] else if k = 1 then rkSeg 0 lo else ranked lo yo
theorem rkSeg_snoc {t : Nat} {l : List Int} {m : Nat} {y : Int} (hy : l[m]? = some y) : rkSeg t (l.take (m + 1)) = rkSeg t (l.take m) ++ [(y, (t : Int), (m : Int))] := by
  have hlt := (List.getElem?_eq_some_iff.1 hy).1
  rw [take_snoc' l m y hy]
  simp [rkSeg, List.zipIdx_append, Nat.min_eq_left (Nat.le_of_lt hlt)]
theorem rk_snoc {lo yo : List Int} {k m : Nat} {y : Int} (hy : (trAt lo yo k)[m]? = some y) : rkPre lo yo k ++ rkSeg k ((trAt lo yo k).take m) ++ [(y, (k : Int), (m : Int))] = rkPre lo yo k ++ rkSeg k ((trAt lo yo k).take (m + 1)) := by
  rw [rkSeg_snoc hy, List.append_assoc]
theorem rk_full {lo yo : List Int} {k : Nat} (hk : k < 2) : rkPre lo yo k ++ rkSeg k (trAt lo yo k) = rkPre lo yo (k + 1) := by
  obtain rfl | rfl : k = 0 ∨ k = 1 := by omega
  · simp [rkPre, trAt]
  · simp [rkPre, trAt, ranked]
theorem rk_next {lo yo : List Int} {k m : Nat} (hk : k < 2) (hm : (trAt lo yo k).length ≤ m) : rkPre lo yo k ++ rkSeg k ((trAt lo yo k).take m) = rkPre lo yo (k + 1) := by
  rw [List.take_of_length_le hm, rk_full hk]
theorem rkSeg_take (t : Nat) (l : List Int) (m : Nat) : rkSeg t (l.take m) <+: rkSeg t l := by
  have h := List.zipIdx_append (xs := l.take m) (ys := l.drop m) (k := 0)
  rw [List.take_append_drop] at h
  exact ⟨((l.drop m).zipIdx (0 + (l.take m).length)).map fun p => (p.1, (t : Int), (p.2 : Int)), by rw [rkSeg, rkSeg, h, List.map_append]⟩
theorem rk_pre {lo yo : List Int} {k m : Nat} {y : Int} (hk : k < 2) (hy : (trAt lo yo k)[m]? = some y) : rkPre lo yo k ++ rkSeg k ((trAt lo yo k).take m) ++ [(y, (k : Int), (m : Int))] <+: ranked lo yo := by
  rw [rk_snoc hy]
  have h1 : rkPre lo yo k ++ rkSeg k ((trAt lo yo k).take (m + 1)) <+: rkPre lo yo (k + 1) := by
    rw [← rk_full hk]; exact (List.prefix_append_right_inj _).2 (rkSeg_take _ _ _)
  refine h1.trans ?_
  obtain rfl | rfl : k = 0 ∨ k = 1 := by omega
  · simp [rkPre, ranked]
  · simp [rkPre]
/-- a rank's cells. -/
def rkC (r : Int × Int) : List Value := [.int .i64 r.1, .int .i64 r.2]
theorem rkC_len : ∀ a : Int × Int, (rkC a).length = 2 := fun _ => rfl
theorem rkC_one : ∀ y : Int × Int, ∀ u ∈ rkC y, u.oneCell' = true := by intro y u hu; simp only [rkC, List.mem_cons, List.not_mem_nil, or_false] at hu; rcases hu with rfl | rfl <;> rfl
/-- the table behind some cars. -/
def rkTab (pre : List (Int × Int × Int)) : List (Int × Int) := pre.foldl (fun t x => t.set x.1.toNat x.2) (List.replicate 24 (-1, -1))
theorem foldl_set_len (pre : List (Int × Int × Int)) : ∀ t : List (Int × Int), (pre.foldl (fun t x => t.set x.1.toNat x.2) t).length = t.length := by
  induction pre with
  | nil => intro t; rfl
  | cons x pre ih => intro t; rw [List.foldl_cons, ih, List.length_set]
theorem rkTab_len (pre : List (Int × Int × Int)) : (rkTab pre).length = 24 := by rw [rkTab, foldl_set_len]; simp
theorem rkTab_snoc {pre : List (Int × Int × Int)} {x1 x2 x3 : Int} : (rkTab pre).set x1.toNat (x2, x3) = rkTab (pre ++ [(x1, x2, x3)]) := by simp [rkTab]
def rkIni (k : Nat) : List (Int × Int) := List.replicate k (-1, -1) ++ List.replicate (24 - k) (0, 0)
theorem rkIni_len {k : Nat} (h : k ≤ 24) : (rkIni k).length = 24 := by simp [rkIni]; omega
theorem rkIni_set {k : Nat} (h : k < 24) : (rkIni k).set k (-1, -1) = rkIni (k + 1) := by
  obtain ⟨m, hm⟩ : ∃ m, 24 - k = m + 1 := ⟨23 - k, by omega⟩
  have hm' : 24 - (k + 1) = m := by omega
  unfold rkIni
  rw [hm, hm', List.replicate_succ' (n := k), List.replicate_succ (n := m), List.set_append_right _ _ (by simp)]
  simp
def rkAll (lo yo : List Int) : List (Int × Int) := (List.range 24).map fun (c : Nat) => ((findT lo yo (c : Int)).1, (findT lo yo (c : Int)).2.1)
def ofE (lo yo cs : List Int) : Int := if (chk lo yo).2.2 ≠ 0 then (chk lo yo).2.2 else if cs.all (fun c => decide (0 ≤ c ∧ c < 24)) then 0 else 7
def ofT (lo yo cs : List Int) : List (Int × Int) := if ofE lo yo cs ≠ 0 then List.replicate 24 (0, 0) else rkAll lo yo
theorem ofT_len (lo yo cs : List Int) : (ofT lo yo cs).length = 24 := by unfold ofT; split <;> simp [rkAll]
theorem ranked_fst (lo yo : List Int) : (ranked lo yo).map (·.1) = lo ++ yo := by
  have h : ∀ (t : Nat) (l : List Int), (rkSeg t l).map (·.1) = l := fun t l => by
    unfold rkSeg; rw [List.map_map]
    have : ((fun x : Int × Int × Int => x.1) ∘ fun p : Int × Nat => (p.1, (t : Int), (p.2 : Int))) = Prod.fst := rfl
    rw [this]; simp
  simp [ranked, h]
theorem rk_in {lo yo : List Int} {pre : List (Int × Int × Int)} {x1 x2 x3 : Int} (hg : GoodL (lo ++ yo)) (h : pre ++ [(x1, x2, x3)] <+: ranked lo yo) : 0 ≤ x1 ∧ x1 < 24 := by
  refine hg.2 x1 ?_
  rw [← ranked_fst]
  exact List.mem_map.2 ⟨(x1, x2, x3), h.subset (by simp), rfl⟩
theorem cs_step {cs : List Int} {j : Nat} {y : Int} (h : ∀ i, i < j → ∀ x, cs[i]? = some x → 0 ≤ x ∧ x < 24) (hy : cs[j]? = some y) (hr : 0 ≤ y ∧ y < 24) : ∀ i, i < j + 1 → ∀ x, cs[i]? = some x → 0 ≤ x ∧ x < 24 := by
  intro i hi x hx
  by_cases e : i = j
  · subst e; rw [hy] at hx; cases hx; exact hr
  · exact h i (by omega) x hx
theorem tab_miss (pre : List (Int × Int × Int)) : ∀ (t : List (Int × Int)) (c : Nat), (∀ x ∈ pre, x.1.toNat ≠ c) → (pre.foldl (fun t x => t.set x.1.toNat x.2) t)[c]? = t[c]? := by
  induction pre with
  | nil => intro t c _; rfl
  | cons x pre ih =>
    intro t c h
    rw [List.foldl_cons, ih _ c fun y hy => h y (by simp [hy]), List.getElem?_set_ne (h x (by simp))]
theorem tab_hit (pre : List (Int × Int × Int)) : ∀ (t : List (Int × Int)) (x : Int × Int × Int), x ∈ pre → (pre.map fun x => x.1.toNat).Nodup → x.1.toNat < t.length → (pre.foldl (fun t x => t.set x.1.toNat x.2) t)[x.1.toNat]? = some x.2 := by
  induction pre with
  | nil => intro t x h; cases h
  | cons y pre ih =>
    intro t x h hn hl
    rw [List.map_cons, List.nodup_cons] at hn
    rw [List.foldl_cons]
    rcases List.mem_cons.1 h with rfl | h
    · rw [tab_miss _ _ _ fun z hz e => hn.1 (List.mem_map.2 ⟨z, hz, e⟩), List.getElem?_set_self hl]
    · exact ih _ x h hn.2 (by rw [List.length_set]; exact hl)
theorem mem_rkSeg {t : Nat} {l : List Int} {k : Nat} {c : Int} (h : l[k]? = some c) : (c, (t : Int), (k : Int)) ∈ rkSeg t l := by
  unfold rkSeg
  refine List.mem_map.2 ⟨(c, k), ?_, rfl⟩
  rw [List.mem_zipIdx_iff_getElem?]; simpa using h
theorem idx_at {l : List Int} {c : Int} (h : c ∈ l) : ∃ k : Nat, l[k]? = some c ∧ idx l c = k := by
  have h0 : ¬ idx l c < 0 := fun h' => (idx_neg.1 h') h
  unfold idx at h0 ⊢
  split at h0
  · rename_i i hi
    refine ⟨i, ?_, rfl⟩
    rw [List.findIdx?_eq_some_iff_getElem] at hi
    obtain ⟨hk, hx, _⟩ := hi
    rw [List.getElem?_eq_getElem hk]; simpa using hx
  · omega
theorem rkTab_all {lo yo : List Int} (hg : GoodL (lo ++ yo)) : rkTab (ranked lo yo) = rkAll lo yo := by
  have hnd : ((ranked lo yo).map fun x => x.1.toNat).Nodup := by
    have : (ranked lo yo).map (fun x => x.1.toNat) = (lo ++ yo).map Int.toNat := by rw [← ranked_fst, List.map_map]; rfl
    rw [this]
    refine List.pairwise_map.2 (hg.1.imp_of_mem ?_)
    intro a b ha hb hne e
    have := hg.2 a ha; have := hg.2 b hb
    omega
  apply List.ext_getElem?
  intro c
  by_cases hc : c < 24
  · have hr : (rkAll lo yo)[c]? = some ((findT lo yo (c : Int)).1, (findT lo yo (c : Int)).2.1) := by simp [rkAll, hc]
    rw [hr]
    by_cases h1 : (c : Int) ∈ lo
    · obtain ⟨k, hk, hi⟩ := idx_at h1
      have := tab_hit (ranked lo yo) (List.replicate 24 (-1, -1)) ((c : Int), ((0 : Nat) : Int), (k : Int)) (List.mem_append_left _ (mem_rkSeg hk)) hnd (by simpa using hc)
      simp only [Int.toNat_natCast] at this
      rw [rkTab, this, findT_lo (by omega), hi]; rfl
    · have h1' : idx lo c < 0 := idx_neg.2 h1
      by_cases h2 : (c : Int) ∈ yo
      · obtain ⟨k, hk, hi⟩ := idx_at h2
        have := tab_hit (ranked lo yo) (List.replicate 24 (-1, -1)) ((c : Int), ((1 : Nat) : Int), (k : Int)) (List.mem_append_right _ (mem_rkSeg hk)) hnd (by simpa using hc)
        simp only [Int.toNat_natCast] at this
        rw [rkTab, this, findT_yo h1' (by omega), hi]; rfl
      · rw [rkTab, tab_miss, findT_no h1' (idx_neg.2 h2)]
        · rw [List.getElem?_replicate, if_pos hc]
        · intro x hx e
          have hm : x.1 ∈ lo ++ yo := by rw [← ranked_fst]; exact List.mem_map.2 ⟨x, hx, rfl⟩
          have := hg.2 _ hm
          have e2 : x.1 = (c : Int) := by omega
          rw [e2] at hm
          rcases List.mem_append.1 hm with h | h
          · exact h1 h
          · exact h2 h
  · rw [List.getElem?_eq_none (by rw [rkTab_len]; omega), List.getElem?_eq_none (by simp [rkAll]; omega)]
theorem ofE_err {lo yo cs : List Int} (h : (chk lo yo).2.2 ≠ 0) : ofE lo yo cs = (chk lo yo).2.2 := by unfold ofE; rw [if_pos h]
theorem ofE_bad {lo yo cs : List Int} {j : Nat} {y : Int} (h : (chk lo yo).2.2 = 0) (hy : cs[j]? = some y) (hb : y < 0 ∨ 24 ≤ y) : ofE lo yo cs = 7 := by
  unfold ofE; rw [if_neg (by simpa using h), if_neg]
  intro ha
  have := List.all_eq_true.1 ha y (List.mem_of_getElem? hy)
  simp at this; omega
theorem ofE_ok {lo yo cs : List Int} {j : Nat} (h : (chk lo yo).2.2 = 0) (hj : ∀ i, i < j → ∀ x, cs[i]? = some x → 0 ≤ x ∧ x < 24) (hl : cs.length ≤ j) : ofE lo yo cs = 0 := by
  unfold ofE; rw [if_neg (by simpa using h), if_pos]
  rw [List.all_eq_true]
  intro x hx
  obtain ⟨i, hi, rfl⟩ := List.mem_iff_getElem.1 hx
  have := hj i (by omega) _ (List.getElem?_eq_getElem hi)
  simp; omega
theorem ofT_err {lo yo cs : List Int} (h : ofE lo yo cs ≠ 0) : ofT lo yo cs = List.replicate 24 (0, 0) := by unfold ofT; rw [if_pos h]
theorem ofT_ok {lo yo cs : List Int} (hg : (chk lo yo).2.2 = 0) (h : ofE lo yo cs = 0) : ofT lo yo cs = rkTab (ranked lo yo) := by unfold ofT; rw [if_neg (by simpa using h), rkTab_all ((chk_iff lo yo).1 hg)]
/-! what each function says -/
def rkE (lo yo : List Int) (c : Int) : Int := chkE lo yo 0 c
def rkP (lo yo : List Int) (c : Int) : Int × Int := ((findT lo yo c).1, (findT lo yo c).2.1)
def rkR (lo yo : List Int) (c : Int) : Int × Int := if rkE lo yo c ≠ 0 then (0, 0) else rkP lo yo c
theorem ofE_one (lo yo : List Int) (c : Int) : ofE lo yo [c] = rkE lo yo c := by
  unfold ofE rkE chkE
  by_cases h : (chk lo yo).2.2 = 0
  · by_cases h2 : 0 ≤ c ∧ c < 24
    · have a : ¬ c < 0 := by omega
      have b : ¬ 24 ≤ c := by omega
      simp [h, h2, a, b]
    · simp [h]; by_cases h3 : 0 ≤ c <;> simp [h3] <;> omega
  · simp [h]
theorem ofE_one0 {lo yo : List Int} {c : Int} (h : ofE lo yo [c] = 0) : 0 ≤ c ∧ c < 24 := (chkE_ok ((ofE_one lo yo c).symm.trans h)).2.2
theorem ofE_mem {lo yo cs : List Int} {c : Int} (h : ofE lo yo cs = 0) (hc : c ∈ cs) : rkE lo yo c = 0 := by
  unfold ofE at h
  split at h
  · omega
  · rename_i h0
    split at h
    · rename_i ha
      have := List.all_eq_true.1 ha c hc
      have h0' : (chk lo yo).2.2 = 0 := by simpa using h0
      refine (chkE_iff lo yo 0 c).2 ⟨(chk_iff lo yo).1 h0', .inl rfl, ?_⟩
      simpa using this
    · cases h
theorem rkR_err {lo yo : List Int} {c : Int} (h : rkE lo yo c ≠ 0) : rkR lo yo c = (0, 0) := by unfold rkR; rw [if_pos h]
theorem rkR_ok {lo yo : List Int} {c : Int} (h : rkE lo yo c = 0) : rkR lo yo c = rkP lo yo c := by unfold rkR; rw [if_neg (by simpa using h)]
theorem rkAll_at {lo yo : List Int} {c : Int} (h0 : 0 ≤ c) (h1 : c < 24) : (rkAll lo yo)[c.toNat]? = some (rkP lo yo c) := by
  have : ((c.toNat : Nat) : Int) = c := by omega
  have h : c.toNat < 24 := by omega
  simp [rkAll, h, rkP, this]
theorem ofT_at {lo yo cs : List Int} {c : Int} (h : ofE lo yo cs = 0) (hc : rkE lo yo c = 0) : (ofT lo yo cs)[c.toNat]? = some (rkR lo yo c) := by
  have := chkE_ok hc
  unfold ofT; rw [if_neg (by simpa using h), rkAll_at this.2.2.1 this.2.2.2, rkR_ok hc]
theorem ofT_row {lo yo cs : List Int} {c : Int} {y : Int × Int} (h : ofE lo yo cs = 0) (hc : rkE lo yo c = 0) (hy : (ofT lo yo cs)[c.toNat]? = some y) : rkR lo yo c = y := by
  rw [ofT_at h hc] at hy; cases hy; rfl
theorem rkR_none {lo yo : List Int} {c : Int} (h : (findS lo yo c).2.2 = 4) : rkE lo yo c = 0 ∧ rkR lo yo c = (-1, -1) := by
  unfold findS at h
  have h9 : chkE lo yo 0 c ≠ 4 := by
    unfold chkE; split
    · rename_i hc
      intro e
      unfold chk at e
      split at e
      · cases e
      · split at e
        · cases e
        · split at e
          · unfold errAt at e; split at e
            · cases e
            · split at e <;> cases e
          · split at e
            · unfold errAt at e; split at e
              · cases e
              · split at e <;> cases e
            · cases e
    · split <;> decide
  split at h
  · exact absurd h h9
  · rename_i h0
    have h0' : rkE lo yo c = 0 := by unfold rkE; simpa using h0
    refine ⟨h0', ?_⟩
    rw [rkR_ok h0', rkP]
    unfold findT at h ⊢
    split at h
    · cases h
    · split at h
      · cases h
      · rename_i a b; rw [if_neg a, if_neg b]
theorem rkR_find {lo yo : List Int} {c : Int} (h : ¬ (findS lo yo c).2.2 = 4) : rkE lo yo c = (findS lo yo c).2.2 ∧ rkR lo yo c = ((findS lo yo c).1, (findS lo yo c).2.1) := by
  unfold findS at h ⊢
  by_cases h0 : rkE lo yo c = 0
  · have h0' : ¬ chkE lo yo 0 c ≠ 0 := by unfold rkE at h0; simpa using h0
    rw [if_neg h0'] at h ⊢
    rw [rkR_ok h0, h0]
    refine ⟨?_, rfl⟩
    unfold findT at h ⊢
    split at h
    · rename_i a; rw [if_pos a]
    · rename_i a; split at h
      · rename_i b; rw [if_neg a, if_pos b]
      · exact absurd rfl h
  · rw [if_pos (by exact h0), rkR_err h0]; exact ⟨rfl, rfl⟩
theorem ofE_nil (lo yo : List Int) : ofE lo yo [] = (chk lo yo).2.2 := by
  unfold ofE; by_cases h : (chk lo yo).2.2 = 0 <;> simp [h]
def allT (lo yo : List Int) : List (Int × Int) := if (chk lo yo).2.2 ≠ 0 then [] else rkAll lo yo
theorem allT_err {lo yo : List Int} (h : (chk lo yo).2.2 ≠ 0) : allT lo yo = [] := by unfold allT; rw [if_pos h]
theorem allT_ok {lo yo : List Int} (h : (chk lo yo).2.2 = 0) : allT lo yo = ofT lo yo [] := by
  unfold allT ofT; rw [if_neg (by simpa using h), if_neg (by rw [ofE_nil]; simpa using h)]
def allK (lo yo : List Int) (k : Nat) : List (Int × Int) := (List.range k).map fun (c : Nat) => rkR lo yo (c : Int)
theorem allK_snoc {lo yo : List Int} {k : Nat} : allK lo yo k ++ [((rkR lo yo (k : Int)).1, (rkR lo yo (k : Int)).2)] = allK lo yo (k + 1) := by simp [allK, List.range_succ]
theorem allT_k {lo yo : List Int} {k : Nat} (hk : (chk lo yo).2.2 = 0 ∨ k = 0) (h : 24 = k ∨ ¬ (chk lo yo).2.2 = 0) : allT lo yo = allK lo yo k := by
  by_cases hc : (chk lo yo).2.2 = 0
  · obtain rfl : 24 = k := h.resolve_right (fun h => h hc)
    unfold allT; rw [if_neg (by simpa using hc)]
    unfold rkAll allK
    refine List.map_congr_left fun c hm => ?_
    have hlt : c < 24 := by simpa using hm
    rw [rkR_ok ((chkE_iff lo yo 0 (c : Int)).2 ⟨(chk_iff lo yo).1 hc, .inl rfl, by omega, by omega⟩)]; rfl
  · obtain rfl : k = 0 := hk.resolve_left hc
    rw [allT_err hc]; rfl
def ordT (lo yo : List Int) : List Int := if (chk lo yo).2.2 ≠ 0 then [] else lo ++ yo
theorem ordT_err {lo yo : List Int} (h : (chk lo yo).2.2 ≠ 0) : ordT lo yo = [] := by unfold ordT; rw [if_pos h]
theorem ordT_ok {lo yo : List Int} (h : (chk lo yo).2.2 = 0) : ordT lo yo = lo ++ yo := by unfold ordT; rw [if_neg (by simpa using h)]
theorem ranked_len (lo yo : List Int) : (ranked lo yo).length = lo.length + yo.length := by
  have := congrArg List.length (ranked_fst lo yo); simpa using this
theorem rk_len {lo yo : List Int} {pre : List (Int × Int × Int)} {x : Int × Int × Int} (hg : GoodL (lo ++ yo)) (h : pre ++ [x] <+: ranked lo yo) : pre.length + 1 ≤ 24 := by
  have h1 := h.length_le
  have h2 := hg.len
  rw [ranked_len] at h1
  simp at h1 h2
  omega
def fst3 (l : List (Int × Int × Int)) : List Int := l.map (·.1)
end Go.Own
namespace Go.Own
open Go
theorem chkE_cs {lo yo : List Int} {a : Int} : chkE lo yo 0 a = if (chk lo yo).2.2 ≠ 0 then (chk lo yo).2.2 else if a < 0 ∨ 24 ≤ a then 7 else 0 := by
  unfold chkE; simp
def cmE (lo yo : List Int) (a b : Int) : Int := if rkE lo yo a ≠ 0 then rkE lo yo a else if rkE lo yo b ≠ 0 then rkE lo yo b else if (rkR lo yo a).1 = -1 ∨ (rkR lo yo b).1 = -1 then 4 else 0
def cmN (lo yo : List Int) (a b : Int) : Int := if cmE lo yo a b ≠ 0 then 0 else orI [cmpI (rkR lo yo a).1 (rkR lo yo b).1, cmpI (rkR lo yo a).2 (rkR lo yo b).2]
theorem ofE_two (lo yo : List Int) (a b : Int) : ofE lo yo [a, b] = if rkE lo yo a ≠ 0 then rkE lo yo a else rkE lo yo b := by
  unfold ofE rkE; simp only [chkE_cs]
  by_cases h : (chk lo yo).2.2 = 0
  · by_cases ha : 0 ≤ a ∧ a < 24 <;> by_cases hb : 0 ≤ b ∧ b < 24
    · have h1 : ¬ (a < 0 ∨ 24 ≤ a) := by omega
      have h2 : ¬ (b < 0 ∨ 24 ≤ b) := by omega
      simp [h, ha, hb, h1, h2]
    · have h1 : ¬ (a < 0 ∨ 24 ≤ a) := by omega
      have h2 : (b < 0 ∨ 24 ≤ b) := by omega
      simp [h, ha, h1, h2]; omega
    · have h1 : (a < 0 ∨ 24 ≤ a) := by omega
      simp [h, h1]; omega
    · have h1 : (a < 0 ∨ 24 ≤ a) := by omega
      simp [h, h1]; omega
  · simp [h]
theorem cmE_of {lo yo : List Int} {a b : Int} (h : ofE lo yo [a, b] ≠ 0) : cmE lo yo a b = ofE lo yo [a, b] := by
  rw [ofE_two] at h ⊢; unfold cmE
  by_cases h1 : rkE lo yo a = 0
  · have h2 : rkE lo yo b ≠ 0 := by simpa [h1] using h
    simp [h1, h2]
  · simp [h1]
theorem cmN_err {lo yo : List Int} {a b : Int} (h : cmE lo yo a b ≠ 0) : cmN lo yo a b = 0 := by unfold cmN; rw [if_pos h]
theorem cmN_ok {lo yo : List Int} {a b : Int} (h : cmE lo yo a b = 0) : cmN lo yo a b = orI [cmpI (rkR lo yo a).1 (rkR lo yo b).1, cmpI (rkR lo yo a).2 (rkR lo yo b).2] := by unfold cmN; rw [if_neg (by simpa using h)]
theorem cmE_no {lo yo : List Int} {a b : Int} (ha : rkE lo yo a = 0) (hb : rkE lo yo b = 0) (h : (rkR lo yo a).1 = -1 ∨ (rkR lo yo b).1 = -1) : cmE lo yo a b = 4 := by unfold cmE; simp [ha, hb, h]
theorem cmE_ok {lo yo : List Int} {a b : Int} (ha : rkE lo yo a = 0) (hb : rkE lo yo b = 0) (h1 : ¬ (rkR lo yo a).1 = -1) (h2 : ¬ (rkR lo yo b).1 = -1) : cmE lo yo a b = 0 := by unfold cmE; simp [ha, hb, h1, h2]
/-- how a rank may be. -/
theorem rk_cs (lo yo : List Int) (c : Int) : (rkE lo yo c ≠ 0 ∧ rkR lo yo c = (0, 0)) ∨ (rkE lo yo c = 0 ∧ rkR lo yo c = (-1, -1) ∧ c ∉ lo ∧ c ∉ yo) ∨
    (rkE lo yo c = 0 ∧ ∃ k : Nat, lo[k]? = some c ∧ rkR lo yo c = (0, (k : Int)) ∧ idx lo c = k) ∨ (rkE lo yo c = 0 ∧ c ∉ lo ∧ ∃ k : Nat, yo[k]? = some c ∧ rkR lo yo c = (1, (k : Int)) ∧ idx yo c = k) := by
  by_cases h : rkE lo yo c = 0
  · rw [rkR_ok h]; unfold rkP
    by_cases h1 : c ∈ lo
    · obtain ⟨k, hk, hi⟩ := idx_at h1
      exact .inr (.inr (.inl ⟨h, k, hk, by rw [findT_lo (by omega), hi], hi⟩))
    · by_cases h2 : c ∈ yo
      · obtain ⟨k, hk, hi⟩ := idx_at h2
        exact .inr (.inr (.inr ⟨h, h1, k, hk, by rw [findT_yo (idx_neg.2 h1) (by omega), hi], hi⟩))
      · exact .inr (.inl ⟨h, by rw [findT_no (idx_neg.2 h1) (idx_neg.2 h2)], h1, h2⟩)
  · exact .inl ⟨h, rkR_err h⟩
theorem rkR_pair {lo yo : List Int} {c : Int} (_ : rkE lo yo c = 0) (h : (rkR lo yo c).1 = -1) : (rkR lo yo c).1 = -1 ∧ (rkR lo yo c).2 = -1 := by
  rcases rk_cs lo yo c with ⟨_, e⟩ | ⟨_, e, _⟩ | ⟨_, k, _, e, _⟩ | ⟨_, _, k, _, e, _⟩ <;> rw [e] at h ⊢ <;> simp at h ⊢
theorem rk_bd (lo yo : List Int) (c : Int) : ((rkR lo yo c).1 = -1 ∨ (rkR lo yo c).1 = 0 ∨ (rkR lo yo c).1 = 1) ∧ -1 ≤ (rkR lo yo c).2 ∧ ((rkR lo yo c).1 = 0 → 0 ≤ (rkR lo yo c).2 ∧ ((rkR lo yo c).2 < lo.length ∨ rkE lo yo c ≠ 0)) ∧ ((rkR lo yo c).1 = 1 → 0 ≤ (rkR lo yo c).2) ∧ (rkR lo yo c).2 ≤ lo.length + yo.length := by
  rcases rk_cs lo yo c with ⟨h, e⟩ | ⟨_, e, _⟩ | ⟨_, k, hk, e, _⟩ | ⟨_, _, k, hk, e, _⟩ <;> rw [e] <;> simp
  · omega
  · omega
  · have := (List.getElem?_eq_some_iff.1 hk).1; omega
  · have := (List.getElem?_eq_some_iff.1 hk).1; omega
def plE (lo yo : List Int) (c : Int) : Int := if rkE lo yo c ≠ 0 then rkE lo yo c else if (rkR lo yo c).1 = -1 then 4 else 0
def plN (lo yo : List Int) (c : Int) : Int := if plE lo yo c ≠ 0 then 0 else if (rkR lo yo c).1 = 1 then lo.length + (rkR lo yo c).2 else (rkR lo yo c).2
theorem plc (lo yo : List Int) (c : Int) : plN lo yo c = (if rkE lo yo c ≠ 0 ∨ (rkR lo yo c).1 = -1 then 0 else if (rkR lo yo c).1 = 1 then lo.length + (rkR lo yo c).2 else (rkR lo yo c).2) ∧
    plE lo yo c = (if rkE lo yo c ≠ 0 then rkE lo yo c else if (rkR lo yo c).1 = -1 then 4 else 0) := by
  refine ⟨?_, rfl⟩
  unfold plN plE
  by_cases h : rkE lo yo c = 0 <;> by_cases h1 : (rkR lo yo c).1 = -1 <;> simp [h, h1]
theorem cmc (lo yo : List Int) (a b : Int) : cmN lo yo a b = (if rkE lo yo a ≠ 0 ∨ rkE lo yo b ≠ 0 ∨ plE lo yo a ≠ 0 ∨ plE lo yo b ≠ 0 then 0 else if plN lo yo a < plN lo yo b then -1 else if plN lo yo b < plN lo yo a then 1 else 0) ∧
    cmE lo yo a b = (if rkE lo yo a ≠ 0 then rkE lo yo a else if rkE lo yo b ≠ 0 then rkE lo yo b else if plE lo yo a ≠ 0 ∨ plE lo yo b ≠ 0 then 4 else 0) := by
  have ba := rk_bd lo yo a
  have bb := rk_bd lo yo b
  by_cases ha : rkE lo yo a = 0 <;> by_cases hb : rkE lo yo b = 0
  · by_cases ra : (rkR lo yo a).1 = -1 <;> by_cases rb : (rkR lo yo b).1 = -1
    · simp [cmN, cmE, plE, ha, hb, ra, rb]
    · simp [cmN, cmE, plE, ha, hb, ra, rb]
    · simp [cmN, cmE, plE, ha, hb, ra, rb]
    · refine ⟨?_, by simp [cmE, plE, ha, hb, ra, rb]⟩
      simp only [cmN, cmE, plN, plE, ha, hb, ra, rb, orI, cmpI]
      simp
      repeat (first | omega | split)
  · simp [cmN, cmE, ha, hb]
  · simp [cmN, cmE, ha]
  · simp [cmN, cmE, ha]
end Go.Own
namespace Go.Own
open Go
def olT (lo yo : List Int) (c : Int) : List Int := if plE lo yo c ≠ 0 then [] else (lo ++ yo).take (plN lo yo c).toNat
theorem olT_err {lo yo : List Int} {c : Int} (h : plE lo yo c ≠ 0) : olT lo yo c = [] := by unfold olT; rw [if_pos h]
theorem olT_ok {lo yo : List Int} {c : Int} (h : plE lo yo c = 0) : olT lo yo c = (lo ++ yo).take (plN lo yo c).toNat := by unfold olT; rw [if_neg (by simpa using h)]
theorem plE_of {lo yo : List Int} {c : Int} (h : ofE lo yo [c] ≠ 0) : plE lo yo c = ofE lo yo [c] := by
  rw [ofE_one] at h ⊢; unfold plE; rw [if_pos h]
theorem plE_no {lo yo : List Int} {c : Int} (h : rkE lo yo c = 0) (h1 : (rkR lo yo c).1 = -1) : plE lo yo c = 4 := by unfold plE; rw [if_neg (by simpa using h), if_pos h1]
theorem plE_yes {lo yo : List Int} {c : Int} (h : rkE lo yo c = 0) (h1 : ¬ (rkR lo yo c).1 = -1) : plE lo yo c = 0 := by unfold plE; rw [if_neg (by simpa using h), if_neg h1]
theorem rkE_pl {lo yo : List Int} {c : Int} (h : plE lo yo c = 0) : rkE lo yo c = 0 := by
  unfold plE at h; split at h
  · exact h
  · rename_i a; simpa using a
theorem chk_pl {lo yo : List Int} {c : Int} (h : plE lo yo c = 0) : (chk lo yo).2.2 = 0 := by
  have := rkE_pl h
  unfold rkE chkE at this
  by_cases h0 : (chk lo yo).2.2 = 0
  · exact h0
  · rw [if_pos h0] at this; exact this
theorem pl_at {lo yo : List Int} {c : Int} (h : plE lo yo c = 0) : 0 ≤ plN lo yo c ∧ (lo ++ yo)[(plN lo yo c).toNat]? = some c := by
  have h1 : ¬ (rkR lo yo c).1 = -1 := fun e => by rw [plE_no (rkE_pl h) e] at h; cases h
  unfold plN; rw [if_neg (by simpa using h)]
  rcases rk_cs lo yo c with ⟨a, _⟩ | ⟨_, e, _⟩ | ⟨_, k, hk, e, _⟩ | ⟨_, _, k, hk, e, _⟩
  · exact absurd (rkE_pl h) a
  · rw [e] at h1; exact absurd rfl h1
  · rw [e]; simp
    rw [List.getElem?_append_left (List.getElem?_eq_some_iff.1 hk).1]; exact hk
  · rw [e]; simp
    refine ⟨by omega, ?_⟩
    rw [show ((lo.length : Int) + (k : Int)).toNat = lo.length + k by omega, List.getElem?_append_right (by omega), Nat.add_sub_cancel_left]; exact hk
theorem pl_lt {lo yo : List Int} {c : Int} (h : plE lo yo c = 0) : plN lo yo c < (lo.length + yo.length : Int) := by
  have := pl_at h
  have h2 := (List.getElem?_eq_some_iff.1 this.2).1
  rw [List.length_append] at h2; omega
theorem pl_mem {lo yo : List Int} {c : Int} (h : (chk lo yo).2.2 = 0) (hm : c ∈ lo ++ yo) : plE lo yo c = 0 := by
  have hg := (chk_iff lo yo).1 h
  have hr := hg.2 c hm
  have h0 : rkE lo yo c = 0 := (chkE_iff lo yo 0 c).2 ⟨hg, .inl rfl, hr⟩
  refine plE_yes h0 fun e => ?_
  rcases rk_cs lo yo c with ⟨a, _⟩ | ⟨_, _, h1, h2⟩ | ⟨_, k, _, e', _⟩ | ⟨_, _, k, _, e', _⟩
  · exact a h0
  · rcases List.mem_append.1 hm with q | q
    · exact h1 q
    · exact h2 q
  · rw [e'] at e; cases e
  · rw [e'] at e; cases e
theorem mem_pl {lo yo : List Int} {c : Int} (h : plE lo yo c = 0) : c ∈ lo ++ yo := List.mem_of_getElem? (pl_at h).2
theorem nodup_at {l : List Int} {i j : Nat} {c : Int} (h : l.Nodup) (h1 : l[i]? = some c) (h2 : l[j]? = some c) : i = j := by
  obtain ⟨a, ha⟩ := List.getElem?_eq_some_iff.1 h1
  obtain ⟨b, hb⟩ := List.getElem?_eq_some_iff.1 h2
  rcases Nat.lt_trichotomy i j with q | q | q
  · exact absurd (ha.trans hb.symm) (List.pairwise_iff_getElem.1 h i j a b q)
  · exact q
  · exact absurd (hb.trans ha.symm) (List.pairwise_iff_getElem.1 h j i b a q)
/-- a car's place is the only one. -/
theorem pl_only {lo yo : List Int} {c : Int} {k : Nat} (h : (chk lo yo).2.2 = 0) (hk : (lo ++ yo)[k]? = some c) : plE lo yo c = 0 ∧ plN lo yo c = k := by
  have hg := (chk_iff lo yo).1 h
  have h0 := pl_mem h (List.mem_of_getElem? hk)
  have h1 := pl_at h0
  have := nodup_at hg.1 h1.2 hk
  exact ⟨h0, by omega⟩
theorem ol_hit {lo yo : List Int} {c : Int} {pre q : List (Int × Int × Int)} {x : Int × Int × Int} (h : (chk lo yo).2.2 = 0) (hq : pre = q ++ [x]) (hx : x.1 = c) (hp : pre <+: ranked lo yo) : plE lo yo c = 0 ∧ olT lo yo c = fst3 q := by
  subst hq
  obtain ⟨r, hr⟩ := hp
  have hl : lo ++ yo = fst3 q ++ c :: r.map (·.1) := by rw [← ranked_fst, ← hr, ← hx]; simp [fst3]
  have hk : (lo ++ yo)[(fst3 q).length]? = some c := by rw [hl]; simp
  have := pl_only h hk
  refine ⟨this.1, ?_⟩
  rw [olT_ok this.1, this.2, hl, Int.toNat_natCast]; simp
theorem ol_miss {lo yo : List Int} {c : Int} (h0 : plE lo yo c = 0) (hn : ∀ y ∈ ranked lo yo, y.1 ≠ c) : False := by
  have hm := mem_pl h0
  rw [← ranked_fst] at hm
  obtain ⟨y, hy, e⟩ := List.mem_map.1 hm
  exact hn y hy e
theorem ol_len (lo yo : List Int) (c : Int) : ((olT lo yo c).length : Int) = plN lo yo c := by
  by_cases h : plE lo yo c = 0
  · rw [olT_ok h, List.length_take, List.length_append]
    have := pl_lt h; have := (pl_at h).1; omega
  · rw [olT_err h]; unfold plN; rw [if_pos h]; rfl
/-! External -/
def exE (lo yo : List Int) (a b : Int) : Int := if rkE lo yo b ≠ 0 then rkE lo yo b else if a ≠ -1 then rkE lo yo a else 0
def exX (lo yo : List Int) (a : Int) : Int := if a ≠ -1 then (rkR lo yo a).1 else -1
def exB (lo yo : List Int) (a b : Int) : Bool := if exE lo yo a b ≠ 0 then false else decide ((rkR lo yo b).1 ≠ -1 ∧ exX lo yo a ≠ (rkR lo yo b).1)
theorem exE_one {lo yo : List Int} {a b : Int} (h : a = -1) : exE lo yo a b = ofE lo yo [b] := by rw [ofE_one]; unfold exE; split <;> simp_all
theorem exE_two {lo yo : List Int} {a b : Int} (h : ¬ a = -1) : exE lo yo a b = ofE lo yo [b, a] := by rw [ofE_two]; unfold exE; split <;> simp_all
theorem exB_err {lo yo : List Int} {a b : Int} (h : exE lo yo a b ≠ 0) : exB lo yo a b = false := by unfold exB; rw [if_pos h]
theorem exB_ok {lo yo : List Int} {a b : Int} (h : exE lo yo a b = 0) : exB lo yo a b = decide ((rkR lo yo b).1 ≠ -1 ∧ exX lo yo a ≠ (rkR lo yo b).1) := by unfold exB; rw [if_neg (by simpa using h)]
/-! Moved -/
def mvE (lo yo lo2 yo2 : List Int) : Int := if (chk lo yo).2.2 ≠ 0 then (chk lo yo).2.2 else (chk lo2 yo2).2.2
def mvK (lo yo lo2 yo2 : List Int) (k : Nat) : List Int := ((List.range k).filter fun (c : Nat) => decide (rkP lo yo (c : Int) ≠ rkP lo2 yo2 (c : Int))).map fun (c : Nat) => (c : Int)
def mvT (lo yo lo2 yo2 : List Int) : List Int := if mvE lo yo lo2 yo2 ≠ 0 then [] else mvK lo yo lo2 yo2 24
theorem mvT_err {lo yo lo2 yo2 : List Int} (h : mvE lo yo lo2 yo2 ≠ 0) : mvT lo yo lo2 yo2 = [] := by unfold mvT; rw [if_pos h]
theorem mvT_ok {lo yo lo2 yo2 : List Int} (h : mvE lo yo lo2 yo2 = 0) : mvT lo yo lo2 yo2 = mvK lo yo lo2 yo2 24 := by unfold mvT; rw [if_neg (by simpa using h)]
theorem mvE_1 {lo yo lo2 yo2 : List Int} (h : (chk lo yo).2.2 ≠ 0) : mvE lo yo lo2 yo2 = (chk lo yo).2.2 := by unfold mvE; rw [if_pos h]
theorem mvE_2 {lo yo lo2 yo2 : List Int} (h : (chk lo yo).2.2 = 0) : mvE lo yo lo2 yo2 = (chk lo2 yo2).2.2 := by unfold mvE; rw [if_neg (by simpa using h)]
theorem mvK_len (lo yo lo2 yo2 : List Int) (k : Nat) : (mvK lo yo lo2 yo2 k).length ≤ k := by
  unfold mvK; rw [List.length_map]; exact Nat.le_trans (List.length_filter_le _ _) (by simp)
theorem mvK_hit {lo yo lo2 yo2 : List Int} {k : Nat} (h : rkP lo yo (k : Int) ≠ rkP lo2 yo2 (k : Int)) : mvK lo yo lo2 yo2 k ++ [(k : Int)] = mvK lo yo lo2 yo2 (k + 1) := by
  unfold mvK; rw [List.range_succ, List.filter_append, List.map_append]; simp [h]
theorem mvK_skip {lo yo lo2 yo2 : List Int} {k : Nat} (h : rkP lo yo (k : Int) = rkP lo2 yo2 (k : Int)) : mvK lo yo lo2 yo2 k = mvK lo yo lo2 yo2 (k + 1) := by
  unfold mvK; rw [List.range_succ, List.filter_append, List.map_append]; simp [h]
theorem all_row {lo yo : List Int} {k : Nat} {y : Int × Int} (h : (chk lo yo).2.2 = 0) (hk : k < 24) (hy : (ofT lo yo [])[k]? = some y) : rkP lo yo (k : Int) = y := by
  unfold ofT at hy
  rw [if_neg (by rw [ofE_nil]; simpa using h)] at hy
  have := rkAll_at (lo := lo) (yo := yo) (c := (k : Int)) (by omega) (by omega)
  rw [Int.toNat_natCast, hy] at this; cases this; rfl
theorem all_row' {lo yo : List Int} {k : Nat} {y : Int × Int} (h : (chk lo yo).2.2 = 0) (hk : k < 24) (hy : (allT lo yo)[k]? = some y) : rkP lo yo (k : Int) = y := all_row h hk (by rw [← allT_ok h]; exact hy)
theorem allT_len {lo yo : List Int} (h : (chk lo yo).2.2 = 0) : (allT lo yo).length = 24 := by rw [allT_ok h, ofT_len]
theorem pr_ne {a b : Int × Int} (h : ¬ (a.1 = b.1 ∧ a.2 = b.2)) : a ≠ b := fun e => h (by rw [e]; exact ⟨rfl, rfl⟩)
theorem pr_eq {a b : Int × Int} (h : a.1 = b.1 ∧ a.2 = b.2) : a = b := Prod.ext h.1 h.2
theorem rows_eq {xs ys : List (Int × Int)} (h1 : xs.length = ys.length) {k : Nat} (hk : xs.length ≤ k) (h : ∀ i, i < k → xs[i]? = ys[i]?) : xs = ys := by
  apply List.ext_getElem?
  intro i
  by_cases hi : i < k
  · exact h i hi
  · rw [List.getElem?_eq_none (by omega), List.getElem?_eq_none (by omega)]
theorem rows_step {xs ys : List (Int × Int)} {k : Nat} {x y : Int × Int} (h : ∀ i, i < k → xs[i]? = ys[i]?) (hx : xs[k]? = some x) (hy : ys[k]? = some y) (e : x = y) : ∀ i, i < k + 1 → xs[i]? = ys[i]? := by
  intro i hi
  by_cases q : i = k
  · subst q; rw [hx, hy, e]
  · exact h i (by omega)
theorem rows_ne {xs ys : List (Int × Int)} {k : Nat} {x y : Int × Int} (hx : xs[k]? = some x) (hy : ys[k]? = some y) (e : x ≠ y) : xs ≠ ys := by
  rintro rfl; rw [hx] at hy; cases hy; exact e rfl
theorem ne_snoc {pre : List (Int × Int × Int)} {c x1 x2 x3 : Int} (h : ∀ y ∈ pre, y.1 ≠ c) (h1 : ¬ x1 = c) : ∀ y ∈ pre ++ [(x1, x2, x3)], y.1 ≠ c := by
  intro y hy
  rcases List.mem_append.1 hy with q | q
  · exact h y q
  · rw [List.mem_singleton] at q; subst q; exact h1
theorem chk_rk {lo yo : List Int} {c : Int} (h : rkE lo yo c = 0) : (chk lo yo).2.2 = 0 := by
  unfold rkE chkE at h
  by_cases h0 : (chk lo yo).2.2 = 0
  · exact h0
  · rw [if_pos h0] at h; exact h
end Go.Own
namespace Go.Own
open Go
theorem ord_cm {lo yo : List Int} {i k : Nat} {a b : Int} (hg : (chk lo yo).2.2 = 0) (ha : (lo ++ yo)[i]? = some a) (hb : (lo ++ yo)[k]? = some b) :
    cmE lo yo a b = 0 ∧ cmN lo yo a b = (if i < k then -1 else if k < i then 1 else 0) := by
  have pa := pl_only hg ha
  have pb := pl_only hg hb
  have h := cmc lo yo a b
  have ea := rkE_pl pa.1
  have eb := rkE_pl pb.1
  rw [h.1, h.2, ea, eb, pa.1, pa.2, pb.1, pb.2]
  simp
theorem ord_ne {lo yo : List Int} {i k : Nat} {a b : Int} (hg : (chk lo yo).2.2 = 0) (ha : (lo ++ yo)[i]? = some a) (hb : (lo ++ yo)[k]? = some b) (h : i ≠ k) : a ≠ b := by
  rintro rfl
  exact h (nodup_at ((chk_iff lo yo).1 hg).1 ha hb)
theorem rk_in0 {lo yo : List Int} {c : Int} (hg : (chk lo yo).2.2 = 0) (h : 0 ≤ c ∧ c < 24) : rkE lo yo c = 0 := (chkE_iff lo yo 0 c).2 ⟨(chk_iff lo yo).1 hg, .inl rfl, h⟩
theorem pl_iff {lo yo : List Int} {c : Int} (hg : (chk lo yo).2.2 = 0) (h : 0 ≤ c ∧ c < 24) : plE lo yo c = 0 ↔ 0 ≤ (rkP lo yo c).1 := by
  have h0 := rk_in0 hg h
  rw [← rkR_ok h0]
  have hb := (rk_bd lo yo c).1
  unfold plE
  rw [if_neg (by simpa using h0)]
  split <;> omega
theorem pl_iff_mem {lo yo : List Int} {c : Int} (hg : (chk lo yo).2.2 = 0) : plE lo yo c = 0 ↔ c ∈ lo ++ yo := ⟨mem_pl, pl_mem hg⟩
theorem below_in {l : List Int} {c : Nat} (hG : GoodL l) (h : (c : Int) ∈ l) : below l (c + 1) = below l c + 1 := by
  rw [below_step]
  have := hG.1.count (a := (c : Int))
  rw [if_pos h] at this
  rw [this]; rfl
theorem below_out {l : List Int} {c : Nat} (h : (c : Int) ∉ l) : below l (c + 1) = below l c := by
  rw [below_step, List.count_eq_zero.2 h]; simp
/-! External -/
theorem ex_in {lo yo : List Int} {a b : Int} (hg : (chk lo yo).2.2 = 0) (ha : a = -1 ∨ (0 ≤ a ∧ a < 24)) (hb : 0 ≤ b ∧ b < 24) : exE lo yo a b = 0 := by
  unfold exE
  rw [rk_in0 hg hb]
  rcases ha with rfl | ha
  · simp
  · rw [rk_in0 hg ha]; simp
theorem ex_is {lo yo : List Int} {a b f : Int} {y : Int × Int} (hg : (chk lo yo).2.2 = 0) (ha : a = -1 ∨ (0 ≤ a ∧ a < 24)) (hb : 0 ≤ b ∧ b < 24) (hf : exX lo yo a = f) (hy : rkP lo yo b = y) :
    exB lo yo a b = decide (0 ≤ y.1 ∧ f ≠ y.1) := by
  rw [exB_ok (ex_in hg ha hb), hf, rkR_ok (rk_in0 hg hb), hy]
  have h := (rk_bd lo yo b).1
  rw [rkR_ok (rk_in0 hg hb), hy] at h
  apply decide_eq_decide.2
  omega
/-! Moved -/
theorem mvK_comm (lo yo lo2 yo2 : List Int) (k : Nat) : mvK lo yo lo2 yo2 k = mvK lo2 yo2 lo yo k := by
  unfold mvK
  congr 1
  apply List.filter_congr
  intro x _
  exact decide_eq_decide.2 ⟨fun h e => h e.symm, fun h e => h e.symm⟩
theorem mv_ok {lo yo lo2 yo2 : List Int} (h : (chk lo yo).2.2 = 0) (h2 : (chk lo2 yo2).2.2 = 0) : mvE lo yo lo2 yo2 = 0 ∧ mvT lo yo lo2 yo2 = mvK lo yo lo2 yo2 24 := by
  have h0 : mvE lo yo lo2 yo2 = 0 := (mvE_2 h).trans h2
  exact ⟨h0, mvT_ok h0⟩
theorem mvK_pre (lo yo lo2 yo2 : List Int) {k m : Nat} (h : k ≤ m) : mvK lo yo lo2 yo2 k <+: mvK lo yo lo2 yo2 m := by
  induction m with
  | zero => obtain rfl : k = 0 := by omega
            exact List.prefix_rfl
  | succ m ih =>
    by_cases e : k = m + 1
    · subst e; exact List.prefix_rfl
    · refine (ih (by omega)).trans ?_
      by_cases q : rkP lo yo (m : Int) = rkP lo2 yo2 (m : Int)
      · rw [mvK_skip q]; exact List.prefix_rfl
      · rw [← mvK_hit q]; exact List.prefix_append _ _
theorem mvK_at {lo yo lo2 yo2 : List Int} {k : Nat} (hk : k < 24) (h : rkP lo yo (k : Int) ≠ rkP lo2 yo2 (k : Int)) :
    (mvK lo yo lo2 yo2 24)[(mvK lo yo lo2 yo2 k).length]? = some (k : Int) := by
  obtain ⟨r, hr⟩ := mvK_pre lo yo lo2 yo2 (show k + 1 ≤ 24 by omega)
  rw [← hr, ← mvK_hit h]; simp
theorem mvK_self (lo yo : List Int) (k : Nat) : mvK lo yo lo yo k = [] := by unfold mvK; simp
/-- what Moved lists ascends. -/
theorem mvK_asc {lo yo lo2 yo2 : List Int} {i : Nat} {a b : Int} (ha : (mvK lo yo lo2 yo2 24)[i]? = some a) (hb : (mvK lo yo lo2 yo2 24)[i - 1]? = some b) (h : 0 < i) : b < a := by
  obtain ⟨h1, rfl⟩ := List.getElem?_eq_some_iff.1 ha
  obtain ⟨h2, rfl⟩ := List.getElem?_eq_some_iff.1 hb
  have hp : (mvK lo yo lo2 yo2 24).Pairwise (· < ·) := by
    unfold mvK
    refine List.pairwise_map.2 ((List.Pairwise.filter _ List.pairwise_lt_range).imp ?_)
    intro x y hxy; omega
  exact List.pairwise_iff_getElem.1 hp _ _ h2 h1 (by omega)
theorem mvK_mem {lo yo lo2 yo2 : List Int} {c : Int} {k : Nat} (h : c ∈ mvK lo yo lo2 yo2 k) : 0 ≤ c ∧ c < k ∧ rkP lo yo c ≠ rkP lo2 yo2 c := by
  unfold mvK at h
  obtain ⟨x, hx, rfl⟩ := List.mem_map.1 h
  rw [List.mem_filter, List.mem_range] at hx
  exact ⟨by omega, by omega, by simpa using hx.2⟩
/-! the train that is turned -/
theorem tn_good {lo yo : List Int} (h : (chk lo yo).2.2 = 0) : (chk yo []).2.2 = 0 := by
  have hG := (chk_iff lo yo).1 h
  refine (chk_iff yo []).2 ⟨?_, fun x hx => hG.2 x (by simp at hx; simp [hx])⟩
  rw [List.append_nil]; exact (List.pairwise_append.1 hG.1).2.1
theorem rkP_of {lo yo : List Int} {c : Int} (hg : (chk lo yo).2.2 = 0) (h : 0 ≤ c ∧ c < 24) : (rkP lo yo c = (-1, -1) ∧ c ∉ lo ∧ c ∉ yo) ∨ (∃ k : Nat, lo[k]? = some c ∧ rkP lo yo c = (0, (k : Int))) ∨ (c ∉ lo ∧ ∃ k : Nat, yo[k]? = some c ∧ rkP lo yo c = (1, (k : Int))) := by
  have h0 := rk_in0 hg h
  rw [← rkR_ok h0]
  rcases rk_cs lo yo c with ⟨q, _⟩ | ⟨_, e, h1, h2⟩ | ⟨_, k, hk, e, _⟩ | ⟨_, h1, k, hk, e, _⟩
  · exact absurd h0 q
  · exact .inl ⟨e, h1, h2⟩
  · exact .inr (.inl ⟨k, hk, e⟩)
  · exact .inr (.inr ⟨h1, k, hk, e⟩)
theorem tn_ne {lo yo : List Int} {c : Int} (hg : (chk lo yo).2.2 = 0) (h : 0 ≤ c ∧ c < 24) : rkP lo yo c ≠ rkP yo [] c ↔ c ∈ lo ++ yo := by
  have hnd := ((chk_iff lo yo).1 hg).1
  have hdis : c ∈ lo → c ∈ yo → False := fun h1 h2 => by
    exact (List.pairwise_append.1 hnd).2.2 c h1 c h2 rfl
  rcases rkP_of hg h with ⟨e, h1, h2⟩ | ⟨k, hk, e⟩ | ⟨h1, k, hk, e⟩ <;> rcases rkP_of (tn_good hg) h with ⟨e', g1, g2⟩ | ⟨m, hm, e'⟩ | ⟨g1, m, hm, e'⟩ <;> rw [e, e'] <;> simp at *
  · exact ⟨h1, h2⟩
  · exact absurd (List.mem_of_getElem? hm) h2
  · exact .inl (List.mem_of_getElem? hk)
  · exact absurd (List.mem_of_getElem? hm) (fun q => hdis (List.mem_of_getElem? hk) q)
  · exact .inr (List.mem_of_getElem? hk)
  · exact .inr (List.mem_of_getElem? hk)
theorem tn_len {lo yo : List Int} (hg : (chk lo yo).2.2 = 0) (k : Nat) (hk : k ≤ 24) : ((mvK lo yo yo [] k).length : Int) = below (lo ++ yo) k := by
  have hG := (chk_iff lo yo).1 hg
  induction k with
  | zero => rw [below_zero hG]; rfl
  | succ k ih =>
    have ih := ih (by omega)
    by_cases q : (k : Int) ∈ lo ++ yo
    · rw [← mvK_hit ((tn_ne hg ⟨by omega, by omega⟩).2 q), below_in hG q, List.length_append]; simp; omega
    · rw [← mvK_skip (Classical.byContradiction fun h => q ((tn_ne hg ⟨by omega, by omega⟩).1 h)), below_out q]; exact ih
theorem tn_all {lo yo : List Int} (hg : (chk lo yo).2.2 = 0) : ((mvK lo yo yo [] 24).length : Int) = lo.length + yo.length := by
  rw [tn_len hg 24 (by omega), below_all ((chk_iff lo yo).1 hg), List.length_append]; omega
theorem tn_at {lo yo : List Int} {k : Nat} {c : Int} (hg : (chk lo yo).2.2 = 0) (h : yo[k]? = some c) : plE yo [] c = 0 ∧ plN yo [] c = k := pl_only (tn_good hg) (by rw [List.append_nil]; exact h)
theorem tn_mem {lo yo : List Int} {k : Nat} {c : Int} (hg : (chk lo yo).2.2 = 0) (h : (mvK lo yo yo [] 24)[k]? = some c) : plE lo yo c = 0 := by
  have := mvK_mem (List.mem_of_getElem? h)
  exact pl_mem hg ((tn_ne hg ⟨this.1, this.2.1⟩).1 this.2.2)
theorem mvN {lo yo lo2 yo2 : List Int} {c : Int} (h : ¬ ((rkR lo yo c).1 = (rkR lo2 yo2 c).1 ∧ (rkR lo yo c).2 = (rkR lo2 yo2 c).2)) (hg : (chk lo yo).2.2 = 0) (hg2 : (chk lo2 yo2).2.2 = 0) (hc : 0 ≤ c ∧ c < 24) : rkP lo yo c ≠ rkP lo2 yo2 c := by
  rw [rkR_ok (rk_in0 hg hc), rkR_ok (rk_in0 hg2 hc)] at h; exact pr_ne h
theorem mvY {lo yo lo2 yo2 : List Int} {c : Int} (h : (rkR lo yo c).1 = (rkR lo2 yo2 c).1 ∧ (rkR lo yo c).2 = (rkR lo2 yo2 c).2) (hg : (chk lo yo).2.2 = 0) (hg2 : (chk lo2 yo2).2.2 = 0) (hc : 0 ≤ c ∧ c < 24) : rkP lo yo c = rkP lo2 yo2 c := by
  rw [rkR_ok (rk_in0 hg hc), rkR_ok (rk_in0 hg2 hc)] at h; exact pr_eq h
theorem all_rowc {lo yo : List Int} {z : Int} {k : Nat} {y : Int × Int} (h : (chk lo yo).2.2 = 0) (e : z = (k : Int)) (hk : k < 24) (hy : (allT lo yo)[k]? = some y) : rkP lo yo z = y := by subst e; exact all_row' h hk hy
theorem clr_lift {P : Program} {f : FuncId} {args : Array Value} {w : World} {lo yo : List Int} (hg : (chk lo yo).2.2 = 0) (h : Calls P f args w fun e w' => ∃ v1 v2 v3, e = .returned (.tuple #[.agg #[v1, v2], v3, .int .i64 (clearS lo yo).e]) ∧ St w NoX [((il .i64 v1 []).and (il .i64 v2 (clearS lo yo).yo)).and (il .i64 v3 (clearS lo yo).lo)] w') :
    Calls P f args w fun e w' => ∃ v1 v2 v3, e = .returned (.tuple #[.agg #[v1, v2], v3, .int .i64 0]) ∧ St w NoX [((il .i64 v1 []).and (il .i64 v2 yo)).and (il .i64 v3 lo)] w' := by
  rw [clearS_ok hg] at h; exact h
theorem trn_lift {P : Program} {f : FuncId} {args : Array Value} {w : World} {yo : List Int} (hg : (chk yo []).2.2 = 0) (h : Calls P f args w fun e w' => ∃ v1 v2, e = .returned (.tuple #[.agg #[v1, v2], .int .i64 (turnS [] yo).e]) ∧ St w NoX [(il .i64 v1 (turnS [] yo).lo).and (il .i64 v2 (turnS [] yo).yo)] w') :
    Calls P f args w fun e w' => ∃ v1 v2, e = .returned (.tuple #[.agg #[v1, v2], .int .i64 0]) ∧ St w NoX [(il .i64 v1 yo).and (il .i64 v2 [])] w' := by
  have hh : (chk [] yo).2.2 = 0 := by
    refine (chk_iff [] yo).2 ?_
    have := (chk_iff yo []).1 hg
    rw [List.append_nil] at this; exact this
  rw [turnS_nil hh] at h; exact h
/-! Take and Append of trains without an error -/
def apL (l : List Int) (c t : Int) : List Int := if t = 0 then l ++ [c] else l
def apY (l : List Int) (c t : Int) : List Int := if t = 0 then l else l ++ [c]
theorem apL_len (l : List Int) (c t : Int) : (apL l c t).length ≤ l.length + 1 := by unfold apL; split <;> simp
theorem apY_len (l : List Int) (c t : Int) : (apY l c t).length ≤ l.length + 1 := by unfold apY; split <;> simp
theorem tk_is {lo yo : List Int} (hg : (chk lo yo).2.2 = 0) (h : 0 < lo.length) : takeS lo yo = ⟨lo.drop 1, yo, lo.headD 0, 0⟩ := by
  rcases takeS_cases hg with ⟨rfl, _⟩ | ⟨c, r, rfl, e⟩
  · simp at h
  · exact e
theorem tk_good {lo yo : List Int} (hg : (chk lo yo).2.2 = 0) : (chk (lo.drop 1) yo).2.2 = 0 := by
  have hG := (chk_iff lo yo).1 hg
  refine (chk_iff _ yo).2 ⟨?_, fun x hx => hG.2 x ?_⟩
  · exact hG.1.sublist (List.Sublist.append (List.drop_sublist 1 lo) (List.Sublist.refl yo))
  · exact (List.Sublist.append (List.drop_sublist 1 lo) (List.Sublist.refl yo)).subset hx
theorem ap_perm {lo yo : List Int} {t : Int} (h : 0 < lo.length) : (apL (lo.drop 1) (lo.headD 0) t ++ apY yo (lo.headD 0) t).Perm (lo ++ yo) := by
  cases lo with
  | nil => simp at h
  | cons c r =>
    simp only [List.drop_succ_cons, List.drop_zero, List.headD_cons]
    unfold apL apY
    split
    · rw [List.append_assoc, List.singleton_append]; exact List.perm_middle
    · rw [← List.append_assoc]; exact List.perm_append_comm
theorem ap_good {lo yo : List Int} {t : Int} (hg : (chk lo yo).2.2 = 0) (h : 0 < lo.length) : (chk (apL (lo.drop 1) (lo.headD 0) t) (apY yo (lo.headD 0) t)).2.2 = 0 := by
  have hG := (chk_iff lo yo).1 hg
  have p := ap_perm (yo := yo) (t := t) h
  exact (chk_iff _ _).2 ⟨p.nodup_iff.2 hG.1, fun x hx => hG.2 x (p.subset hx)⟩
theorem ap_is {lo yo : List Int} {t : Int} (hg : (chk lo yo).2.2 = 0) (h : 0 < lo.length) (ht : t = 0 ∨ t = 1) :
    placeS (lo.drop 1) yo t (lo.headD 0) false = ⟨apL (lo.drop 1) (lo.headD 0) t, apY yo (lo.headD 0) t, 0, 0⟩ := by
  have hG := (chk_iff lo yo).1 hg
  cases lo with
  | nil => simp at h
  | cons c r =>
    have hr := hG.2 c (by simp)
    have hk := tk_good hg
    simp only [List.drop_succ_cons, List.drop_zero, List.headD_cons] at hk ⊢
    rw [placeS_cases, if_neg (by simpa using (chkE_iff r yo t c).2 ⟨(chk_iff r yo).1 hk, ht, hr⟩), if_neg]
    · unfold apL apY putL
      rcases ht with rfl | rfl <;> simp [putAt]
    · intro hm
      have h1 := hG.1
      rw [List.cons_append, List.nodup_cons] at h1
      exact h1.1 (List.mem_append.2 hm)
theorem tk_ne {lo yo : List Int} {n : Nat} {c : Int} (hg : (chk lo yo).2.2 = 0) (hc : lo[n]? = some c) (hn : 0 < n) : lo.headD 0 ≠ c := by
  intro e
  have hG := (chk_iff lo yo).1 hg
  have hl := (List.getElem?_eq_some_iff.1 hc).1
  cases lo with
  | nil => simp at hl
  | cons d r =>
    simp only [List.headD_cons] at e
    have h1 : (d :: r ++ yo)[0]? = some c := by simp [e]
    have h2 : (d :: r ++ yo)[n]? = some c := by rw [List.getElem?_append_left hl]; exact hc
    have := nodup_at hG.1 h1 h2
    omega
theorem tk_at {lo yo : List Int} {i : Nat} {c : Int} (hg : (chk lo yo).2.2 = 0) (h : 0 < lo.length) (hc : (lo.drop 1 ++ yo)[i]? = some c) :
    plE lo yo c = 0 ∧ plN lo yo c = i + 1 ∧ plE (lo.drop 1) yo c = 0 ∧ plN (lo.drop 1) yo c = i := by
  have h2 := pl_only (tk_good hg) hc
  have h3 : (lo ++ yo)[i + 1]? = some c := by
    cases lo with
    | nil => simp at h
    | cons d r => simpa using hc
  have h4 := pl_only hg h3
  exact ⟨h4.1, by rw [h4.2]; omega, h2.1, h2.2⟩
theorem tk_car {lo : List Int} {n : Nat} {c : Int} (hc : lo[n]? = some c) (hn : 0 < n) : (lo.drop 1)[n - 1]? = some c := by
  rw [List.getElem?_drop, show 1 + (n - 1) = n by omega]; exact hc
theorem ap_car {l : List Int} {d t : Int} {n : Nat} {c : Int} (h : l[n]? = some c) : (apL l d t)[n]? = some c := by
  unfold apL; split
  · rw [List.getElem?_append_left (List.getElem?_eq_some_iff.1 h).1]; exact h
  · exact h
theorem lo_at {lo yo : List Int} {n : Nat} {c : Int} (hg : (chk lo yo).2.2 = 0) (hc : lo[n]? = some c) : plE lo yo c = 0 ∧ plN lo yo c = n :=
  pl_only hg (by rw [List.getElem?_append_left (List.getElem?_eq_some_iff.1 hc).1]; exact hc)
theorem tk_lift {P : Program} {f : FuncId} {args : Array Value} {w : World} {xl xy : List Int} (hg : (chk xl xy).2.2 = 0) (h0 : 0 < xl.length) (h : Calls P f args w fun e w' => ∃ v1 v2, e = .returned (.tuple #[.agg #[v1, v2], .int .i64 (takeS xl xy).car, .int .i64 (takeS xl xy).e]) ∧ St w NoX [(il .i64 v1 (takeS xl xy).lo).and (il .i64 v2 (takeS xl xy).yo)] w') :
    Calls P f args w fun e w' => ∃ v1 v2, e = .returned (.tuple #[.agg #[v1, v2], .int .i64 (xl.headD 0), .int .i64 0]) ∧ St w NoX [(il .i64 v1 (xl.drop 1)).and (il .i64 v2 xy)] w' := by
  rw [tk_is hg h0] at h; exact h
theorem ap_lift {P : Program} {f : FuncId} {args : Array Value} {w : World} {xl xy : List Int} {t : Int} (hg : (chk xl xy).2.2 = 0) (h0 : 0 < xl.length) (ht : t = 0 ∨ t = 1) (h : Calls P f args w fun e w' => ∃ v1 v2, e = .returned (.tuple #[.agg #[v1, v2], .int .i64 (placeS (xl.drop 1) xy t (xl.headD 0) false).e]) ∧ St w NoX [(il .i64 v1 (placeS (xl.drop 1) xy t (xl.headD 0) false).lo).and (il .i64 v2 (placeS (xl.drop 1) xy t (xl.headD 0) false).yo)] w') :
    Calls P f args w fun e w' => ∃ v1 v2, e = .returned (.tuple #[.agg #[v1, v2], .int .i64 0]) ∧ St w NoX [(il .i64 v1 (apL (xl.drop 1) (xl.headD 0) t)).and (il .i64 v2 (apY xy (xl.headD 0) t))] w' := by
  rw [ap_is hg h0 ht] at h; exact h
theorem tk_hd {l : List Int} {n : Nat} {c : Int} (h : l[n]? = some c) (hn : n = 0) : l.headD 0 = c := by
  subst hn; cases l with
  | nil => simp at h
  | cons d r => simpa using h
end Go.Own
