import Derived.Test.YtodbfgfbkgpooaaDoorSp11h
import Derived.Test.YtodbfgfbkgpooaaDoorPl11
import Derived.Test.YtodbfgfbkgpooaaDoorSepH
namespace Go.Own
open Go
def cmpI (x y : Int) : Int := if x < y then -1 else if y < x then 1 else 0
def orI : List Int → Int
  | [] => 0
  | x :: l => if x ≠ 0 then x else orI l
theorem orI_skip {zs : List Int} {k : Nat} {y : Int} (hy : zs[k]? = some y) (h : y = 0) : orI (zs.drop k) = orI (zs.drop (k + 1)) := by
  obtain ⟨hk, rfl⟩ := List.getElem?_eq_some_iff.1 hy
  rw [List.drop_eq_getElem_cons hk]; simp [orI, h]
theorem orI_hit {zs : List Int} {k : Nat} {y : Int} (hy : zs[k]? = some y) (h : y ≠ 0) : orI (zs.drop k) = y := by
  obtain ⟨hk, rfl⟩ := List.getElem?_eq_some_iff.1 hy
  rw [List.drop_eq_getElem_cons hk]; simp [orI, h]
def encR (x : Int × Int × Int) : Array Value := #[.int .i64 x.1, .agg #[.int .i64 x.2.1, .int .i64 x.2.2]]
def rkSeg (t : Nat) (l : List Int) : List (Int × Int × Int) := l.zipIdx.map fun p => (p.1, (t : Int), (p.2 : Int))
def ranked (lo yo : List Int) : List (Int × Int × Int) := rkSeg 0 lo ++ rkSeg 1 yo
def rkPre (lo yo : List Int) (k : Nat) : List (Int × Int × Int) := if k = 0 then [] else if k = 1 then rkSeg 0 lo else ranked lo yo
theorem rkSeg_snoc {t : Nat} {l : List Int} {m : Nat} {y : Int} (hy : l[m]? = some y) : rkSeg t (l.take (m + 1)) = rkSeg t (l.take m) ++ [(y, (t : Int), (m : Int))] := by
  have hlt := (List.getElem?_eq_some_iff.1 hy).1
  rw [take_snoc' l m y hy]
  simp [rkSeg, List.zipIdx_append, Nat.min_eq_left (Nat.le_of_lt hlt)]
theorem rk_snoc {lo yo : List Int} {k m : Nat} {y : Int} (hy : (trAt lo yo k)[m]? = some y) : rkPre lo yo k ++ rkSeg k ((trAt lo yo k).take m) ++ [(y, (k : Int), (m : Int))] = rkPre lo yo k ++ rkSeg k ((trAt lo yo k).take (m + 1)) := by
  rw [rkSeg_snoc hy, List.append_assoc]
theorem rk_full {lo yo : List Int} {k : Nat} (hk : k < 2) : rkPre lo yo k ++ rkSeg k (trAt lo yo k) = rkPre lo yo (k + 1) := by
  obtain rfl | rfl : k = 0 ∨ k = 1 := by omega
  · simp [rkPre, trAt]
  · simp [rkPre, trAt, ranked]
theorem rk_next {lo yo : List Int} {k m : Nat} (hk : k < 2) (hm : (trAt lo yo k).length ≤ m) : rkPre lo yo k ++ rkSeg k ((trAt lo yo k).take m) = rkPre lo yo (k + 1) := by
  rw [List.take_of_length_le hm, rk_full hk]
theorem rkSeg_take (t : Nat) (l : List Int) (m : Nat) : rkSeg t (l.take m) <+: rkSeg t l := by
  have h := List.zipIdx_append (xs := l.take m) (ys := l.drop m) (k := 0)
  rw [List.take_append_drop] at h
  exact ⟨((l.drop m).zipIdx (0 + (l.take m).length)).map fun p => (p.1, (t : Int), (p.2 : Int)), by rw [rkSeg, rkSeg, h, List.map_append]⟩
theorem rk_pre {lo yo : List Int} {k m : Nat} {y : Int} (hk : k < 2) (hy : (trAt lo yo k)[m]? = some y) : rkPre lo yo k ++ rkSeg k ((trAt lo yo k).take m) ++ [(y, (k : Int), (m : Int))] <+: ranked lo yo := by
  rw [rk_snoc hy]
  have h1 : rkPre lo yo k ++ rkSeg k ((trAt lo yo k).take (m + 1)) <+: rkPre lo yo (k + 1) := by
    rw [← rk_full hk]; exact (List.prefix_append_right_inj _).2 (rkSeg_take _ _ _)
  refine h1.trans ?_
  obtain rfl | rfl : k = 0 ∨ k = 1 := by omega
  · simp [rkPre, ranked]
  · simp [rkPre]
/-- a rank's cells. -/
def rkC (r : Int × Int) : List Value := [.int .i64 r.1, .int .i64 r.2]
theorem rkC_len : ∀ a : Int × Int, (rkC a).length = 2 := fun _ => rfl
theorem rkC_one : ∀ y : Int × Int, ∀ u ∈ rkC y, u.oneCell' = true := by intro y u hu; simp only [rkC, List.mem_cons, List.not_mem_nil, or_false] at hu; rcases hu with rfl | rfl <;> rfl
/-- the table behind some cars. -/
def rkTab (pre : List (Int × Int × Int)) : List (Int × Int) := pre.foldl (fun t x => t.set x.1.toNat x.2) (List.replicate 24 (-1, -1))
theorem foldl_set_len (pre : List (Int × Int × Int)) : ∀ t : List (Int × Int), (pre.foldl (fun t x => t.set x.1.toNat x.2) t).length = t.length := by
  induction pre with
  | nil => intro t; rfl
  | cons x pre ih => intro t; rw [List.foldl_cons, ih, List.length_set]
theorem rkTab_len (pre : List (Int × Int × Int)) : (rkTab pre).length = 24 := by rw [rkTab, foldl_set_len]; simp
theorem rkTab_snoc {pre : List (Int × Int × Int)} {x1 x2 x3 : Int} : (rkTab pre).set x1.toNat (x2, x3) = rkTab (pre ++ [(x1, x2, x3)]) := by simp [rkTab]
def rkIni (k : Nat) : List (Int × Int) := List.replicate k (-1, -1) ++ List.replicate (24 - k) (0, 0)
theorem rkIni_len {k : Nat} (h : k ≤ 24) : (rkIni k).length = 24 := by simp [rkIni]; omega
theorem rkIni_set {k : Nat} (h : k < 24) : (rkIni k).set k (-1, -1) = rkIni (k + 1) := by
  obtain ⟨m, hm⟩ : ∃ m, 24 - k = m + 1 := ⟨23 - k, by omega⟩
  have hm' : 24 - (k + 1) = m := by omega
  unfold rkIni
  rw [hm, hm', List.replicate_succ' (n := k), List.replicate_succ (n := m), List.set_append_right _ _ (by simp)]
  simp
def rkAll (lo yo : List Int) : List (Int × Int) := (List.range 24).map fun (c : Nat) => ((findT lo yo (c : Int)).1, (findT lo yo (c : Int)).2.1)
def ofE (lo yo cs : List Int) : Int := if (chk lo yo).2.2 ≠ 0 then (chk lo yo).2.2 else if cs.all (fun c => decide (0 ≤ c ∧ c < 24)) then 0 else 7
def ofT (lo yo cs : List Int) : List (Int × Int) := if ofE lo yo cs ≠ 0 then List.replicate 24 (0, 0) else rkAll lo yo
theorem ofT_len (lo yo cs : List Int) : (ofT lo yo cs).length = 24 := by unfold ofT; split <;> simp [rkAll]
theorem ranked_fst (lo yo : List Int) : (ranked lo yo).map (·.1) = lo ++ yo := by
  have h : ∀ (t : Nat) (l : List Int), (rkSeg t l).map (·.1) = l := fun t l => by
    unfold rkSeg; rw [List.map_map]
    have : ((fun x : Int × Int × Int => x.1) ∘ fun p : Int × Nat => (p.1, (t : Int), (p.2 : Int))) = Prod.fst := rfl
    rw [this]; simp
  simp [ranked, h]
theorem rk_in {lo yo : List Int} {pre : List (Int × Int × Int)} {x1 x2 x3 : Int} (hg : GoodL (lo ++ yo)) (h : pre ++ [(x1, x2, x3)] <+: ranked lo yo) : 0 ≤ x1 ∧ x1 < 24 := by
  refine hg.2 x1 ?_
  rw [← ranked_fst]
  exact List.mem_map.2 ⟨(x1, x2, x3), h.subset (by simp), rfl⟩
theorem cs_step {cs : List Int} {j : Nat} {y : Int} (h : ∀ i, i < j → ∀ x, cs[i]? = some x → 0 ≤ x ∧ x < 24) (hy : cs[j]? = some y) (hr : 0 ≤ y ∧ y < 24) : ∀ i, i < j + 1 → ∀ x, cs[i]? = some x → 0 ≤ x ∧ x < 24 := by
  intro i hi x hx
  by_cases e : i = j
  · subst e; rw [hy] at hx; cases hx; exact hr
  · exact h i (by omega) x hx
theorem tab_miss (pre : List (Int × Int × Int)) : ∀ (t : List (Int × Int)) (c : Nat), (∀ x ∈ pre, x.1.toNat ≠ c) → (pre.foldl (fun t x => t.set x.1.toNat x.2) t)[c]? = t[c]? := by
  induction pre with
  | nil => intro t c _; rfl
  | cons x pre ih =>
    intro t c h
    rw [List.foldl_cons, ih _ c fun y hy => h y (by simp [hy]), List.getElem?_set_ne (h x (by simp))]
theorem tab_hit (pre : List (Int × Int × Int)) : ∀ (t : List (Int × Int)) (x : Int × Int × Int), x ∈ pre → (pre.map fun x => x.1.toNat).Nodup → x.1.toNat < t.length → (pre.foldl (fun t x => t.set x.1.toNat x.2) t)[x.1.toNat]? = some x.2 := by
  induction pre with
  | nil => intro t x h; cases h
  | cons y pre ih =>
    intro t x h hn hl
    rw [List.map_cons, List.nodup_cons] at hn
    rw [List.foldl_cons]
    rcases List.mem_cons.1 h with rfl | h
    · rw [tab_miss _ _ _ fun z hz e => hn.1 (List.mem_map.2 ⟨z, hz, e⟩), List.getElem?_set_self hl]
    · exact ih _ x h hn.2 (by rw [List.length_set]; exact hl)
theorem mem_rkSeg {t : Nat} {l : List Int} {k : Nat} {c : Int} (h : l[k]? = some c) : (c, (t : Int), (k : Int)) ∈ rkSeg t l := by
  unfold rkSeg
  refine List.mem_map.2 ⟨(c, k), ?_, rfl⟩
  rw [List.mem_zipIdx_iff_getElem?]; simpa using h
theorem idx_at {l : List Int} {c : Int} (h : c ∈ l) : ∃ k : Nat, l[k]? = some c ∧ idx l c = k := by
  have h0 : ¬ idx l c < 0 := fun h' => (idx_neg.1 h') h
  unfold idx at h0 ⊢
  split at h0
  · rename_i i hi
    refine ⟨i, ?_, rfl⟩
    rw [List.findIdx?_eq_some_iff_getElem] at hi
    obtain ⟨hk, hx, _⟩ := hi
    rw [List.getElem?_eq_getElem hk]; simpa using hx
  · omega
theorem rkTab_all {lo yo : List Int} (hg : GoodL (lo ++ yo)) : rkTab (ranked lo yo) = rkAll lo yo := by
  have hnd : ((ranked lo yo).map fun x => x.1.toNat).Nodup := by
    have : (ranked lo yo).map (fun x => x.1.toNat) = (lo ++ yo).map Int.toNat := by rw [← ranked_fst, List.map_map]; rfl
    rw [this]
    refine List.pairwise_map.2 (hg.1.imp_of_mem ?_)
    intro a b ha hb hne e
    have := hg.2 a ha; have := hg.2 b hb
    omega
  apply List.ext_getElem?
  intro c
  by_cases hc : c < 24
  · have hr : (rkAll lo yo)[c]? = some ((findT lo yo (c : Int)).1, (findT lo yo (c : Int)).2.1) := by simp [rkAll, hc]
    rw [hr]
    by_cases h1 : (c : Int) ∈ lo
    · obtain ⟨k, hk, hi⟩ := idx_at h1
      have := tab_hit (ranked lo yo) (List.replicate 24 (-1, -1)) ((c : Int), ((0 : Nat) : Int), (k : Int)) (List.mem_append_left _ (mem_rkSeg hk)) hnd (by simpa using hc)
      simp only [Int.toNat_natCast] at this
      rw [rkTab, this, findT_lo (by omega), hi]; rfl
    · have h1' : idx lo c < 0 := idx_neg.2 h1
      by_cases h2 : (c : Int) ∈ yo
      · obtain ⟨k, hk, hi⟩ := idx_at h2
        have := tab_hit (ranked lo yo) (List.replicate 24 (-1, -1)) ((c : Int), ((1 : Nat) : Int), (k : Int)) (List.mem_append_right _ (mem_rkSeg hk)) hnd (by simpa using hc)
        simp only [Int.toNat_natCast] at this
        rw [rkTab, this, findT_yo h1' (by omega), hi]; rfl
      · rw [rkTab, tab_miss, findT_no h1' (idx_neg.2 h2)]
        · rw [List.getElem?_replicate, if_pos hc]
        · intro x hx e
          have hm : x.1 ∈ lo ++ yo := by rw [← ranked_fst]; exact List.mem_map.2 ⟨x, hx, rfl⟩
          have := hg.2 _ hm
          have e2 : x.1 = (c : Int) := by omega
          rw [e2] at hm
          rcases List.mem_append.1 hm with h | h
          · exact h1 h
          · exact h2 h
  · rw [List.getElem?_eq_none (by rw [rkTab_len]; omega), List.getElem?_eq_none (by simp [rkAll]; omega)]
theorem ofE_err {lo yo cs : List Int} (h : (chk lo yo).2.2 ≠ 0) : ofE lo yo cs = (chk lo yo).2.2 := by unfold ofE; rw [if_pos h]
theorem ofE_bad {lo yo cs : List Int} {j : Nat} {y : Int} (h : (chk lo yo).2.2 = 0) (hy : cs[j]? = some y) (hb : y < 0 ∨ 24 ≤ y) : ofE lo yo cs = 7 := by
  unfold ofE; rw [if_neg (by simpa using h), if_neg]
  intro ha
  have := List.all_eq_true.1 ha y (List.mem_of_getElem? hy)
  simp at this; omega
theorem ofE_ok {lo yo cs : List Int} {j : Nat} (h : (chk lo yo).2.2 = 0) (hj : ∀ i, i < j → ∀ x, cs[i]? = some x → 0 ≤ x ∧ x < 24) (hl : cs.length ≤ j) : ofE lo yo cs = 0 := by
  unfold ofE; rw [if_neg (by simpa using h), if_pos]
  rw [List.all_eq_true]
  intro x hx
  obtain ⟨i, hi, rfl⟩ := List.mem_iff_getElem.1 hx
  have := hj i (by omega) _ (List.getElem?_eq_getElem hi)
  simp; omega
theorem ofT_err {lo yo cs : List Int} (h : ofE lo yo cs ≠ 0) : ofT lo yo cs = List.replicate 24 (0, 0) := by unfold ofT; rw [if_pos h]
theorem ofT_ok {lo yo cs : List Int} (hg : (chk lo yo).2.2 = 0) (h : ofE lo yo cs = 0) : ofT lo yo cs = rkTab (ranked lo yo) := by unfold ofT; rw [if_neg (by simpa using h), rkTab_all ((chk_iff lo yo).1 hg)]
/-! what each function says -/
def rkE (lo yo : List Int) (c : Int) : Int := chkE lo yo 0 c
def rkP (lo yo : List Int) (c : Int) : Int × Int := ((findT lo yo c).1, (findT lo yo c).2.1)
def rkR (lo yo : List Int) (c : Int) : Int × Int := if rkE lo yo c ≠ 0 then (0, 0) else rkP lo yo c
theorem ofE_one (lo yo : List Int) (c : Int) : ofE lo yo [c] = rkE lo yo c := by
  unfold ofE rkE chkE
  by_cases h : (chk lo yo).2.2 = 0
  · by_cases h2 : 0 ≤ c ∧ c < 24
    · have a : ¬ c < 0 := by omega
      have b : ¬ 24 ≤ c := by omega
      simp [h, h2, a, b]
    · simp [h]; by_cases h3 : 0 ≤ c <;> simp [h3] <;> omega
  · simp [h]
theorem ofE_one0 {lo yo : List Int} {c : Int} (h : ofE lo yo [c] = 0) : 0 ≤ c ∧ c < 24 := (chkE_ok ((ofE_one lo yo c).symm.trans h)).2.2
theorem ofE_mem {lo yo cs : List Int} {c : Int} (h : ofE lo yo cs = 0) (hc : c ∈ cs) : rkE lo yo c = 0 := by
  unfold ofE at h
  split at h
  · omega
  · rename_i h0
    split at h
    · rename_i ha
      have := List.all_eq_true.1 ha c hc
      have h0' : (chk lo yo).2.2 = 0 := by simpa using h0
      refine (chkE_iff lo yo 0 c).2 ⟨(chk_iff lo yo).1 h0', .inl rfl, ?_⟩
      simpa using this
    · cases h
theorem rkR_err {lo yo : List Int} {c : Int} (h : rkE lo yo c ≠ 0) : rkR lo yo c = (0, 0) := by unfold rkR; rw [if_pos h]
theorem rkR_ok {lo yo : List Int} {c : Int} (h : rkE lo yo c = 0) : rkR lo yo c = rkP lo yo c := by unfold rkR; rw [if_neg (by simpa using h)]
theorem rkAll_at {lo yo : List Int} {c : Int} (h0 : 0 ≤ c) (h1 : c < 24) : (rkAll lo yo)[c.toNat]? = some (rkP lo yo c) := by
  have : ((c.toNat : Nat) : Int) = c := by omega
  have h : c.toNat < 24 := by omega
  simp [rkAll, h, rkP, this]
theorem ofT_at {lo yo cs : List Int} {c : Int} (h : ofE lo yo cs = 0) (hc : rkE lo yo c = 0) : (ofT lo yo cs)[c.toNat]? = some (rkR lo yo c) := by
  have := chkE_ok hc
  unfold ofT; rw [if_neg (by simpa using h), rkAll_at this.2.2.1 this.2.2.2, rkR_ok hc]
theorem ofT_row {lo yo cs : List Int} {c : Int} {y : Int × Int} (h : ofE lo yo cs = 0) (hc : rkE lo yo c = 0) (hy : (ofT lo yo cs)[c.toNat]? = some y) : rkR lo yo c = y := by
  rw [ofT_at h hc] at hy; cases hy; rfl
theorem rkR_none {lo yo : List Int} {c : Int} (h : (findS lo yo c).2.2 = 4) : rkE lo yo c = 0 ∧ rkR lo yo c = (-1, -1) := by
  unfold findS at h
  have h9 : chkE lo yo 0 c ≠ 4 := by
    unfold chkE; split
    · rename_i hc
      intro e
      unfold chk at e
      split at e
      · cases e
      · split at e
        · cases e
        · split at e
          · unfold errAt at e; split at e
            · cases e
            · split at e <;> cases e
          · split at e
            · unfold errAt at e; split at e
              · cases e
              · split at e <;> cases e
            · cases e
    · split <;> decide
  split at h
  · exact absurd h h9
  · rename_i h0
    have h0' : rkE lo yo c = 0 := by unfold rkE; simpa using h0
    refine ⟨h0', ?_⟩
    rw [rkR_ok h0', rkP]
    unfold findT at h ⊢
    split at h
    · cases h
    · split at h
      · cases h
      · rename_i a b; rw [if_neg a, if_neg b]
theorem rkR_find {lo yo : List Int} {c : Int} (h : ¬ (findS lo yo c).2.2 = 4) : rkE lo yo c = (findS lo yo c).2.2 ∧ rkR lo yo c = ((findS lo yo c).1, (findS lo yo c).2.1) := by
  unfold findS at h ⊢
  by_cases h0 : rkE lo yo c = 0
  · have h0' : ¬ chkE lo yo 0 c ≠ 0 := by unfold rkE at h0; simpa using h0
    rw [if_neg h0'] at h ⊢
    rw [rkR_ok h0, h0]
    refine ⟨?_, rfl⟩
    unfold findT at h ⊢
    split at h
    · rename_i a; rw [if_pos a]
    · rename_i a; split at h
      · rename_i b; rw [if_neg a, if_pos b]
      · exact absurd rfl h
  · rw [if_pos (by exact h0), rkR_err h0]; exact ⟨rfl, rfl⟩
theorem ofE_nil (lo yo : List Int) : ofE lo yo [] = (chk lo yo).2.2 := by
  unfold ofE; by_cases h : (chk lo yo).2.2 = 0 <;> simp [h]
def allT (lo yo : List Int) : List (Int × Int) := if (chk lo yo).2.2 ≠ 0 then [] else rkAll lo yo
theorem allT_err {lo yo : List Int} (h : (chk lo yo).2.2 ≠ 0) : allT lo yo = [] := by unfold allT; rw [if_pos h]
theorem allT_ok {lo yo : List Int} (h : (chk lo yo).2.2 = 0) : allT lo yo = ofT lo yo [] := by
  unfold allT ofT; rw [if_neg (by simpa using h), if_neg (by rw [ofE_nil]; simpa using h)]
def allK (lo yo : List Int) (k : Nat) : List (Int × Int) := (List.range k).map fun (c : Nat) => rkR lo yo (c : Int)
theorem allK_snoc {lo yo : List Int} {k : Nat} : allK lo yo k ++ [((rkR lo yo (k : Int)).1, (rkR lo yo (k : Int)).2)] = allK lo yo (k + 1) := by simp [allK, List.range_succ]
theorem allT_k {lo yo : List Int} {k : Nat} (hk : (chk lo yo).2.2 = 0 ∨ k = 0) (h : 24 = k ∨ ¬ (chk lo yo).2.2 = 0) : allT lo yo = allK lo yo k := by
  by_cases hc : (chk lo yo).2.2 = 0
  · obtain rfl : 24 = k := h.resolve_right (fun h => h hc)
    unfold allT; rw [if_neg (by simpa using hc)]
    unfold rkAll allK
    refine List.map_congr_left fun c hm => ?_
    have hlt : c < 24 := by simpa using hm
    rw [rkR_ok ((chkE_iff lo yo 0 (c : Int)).2 ⟨(chk_iff lo yo).1 hc, .inl rfl, by omega, by omega⟩)]; rfl
  · obtain rfl : k = 0 := hk.resolve_left hc
    rw [allT_err hc]; rfl
def ordT (lo yo : List Int) : List Int := if (chk lo yo).2.2 ≠ 0 then [] else lo ++ yo
theorem ordT_err {lo yo : List Int} (h : (chk lo yo).2.2 ≠ 0) : ordT lo yo = [] := by unfold ordT; rw [if_pos h]
theorem ordT_ok {lo yo : List Int} (h : (chk lo yo).2.2 = 0) : ordT lo yo = lo ++ yo := by unfold ordT; rw [if_neg (by simpa using h)]
theorem ranked_len (lo yo : List Int) : (ranked lo yo).length = lo.length + yo.length := by
  have := congrArg List.length (ranked_fst lo yo); simpa using this
theorem rk_len {lo yo : List Int} {pre : List (Int × Int × Int)} {x : Int × Int × Int} (hg : GoodL (lo ++ yo)) (h : pre ++ [x] <+: ranked lo yo) : pre.length + 1 ≤ 24 := by
  have h1 := h.length_le
  have h2 := hg.len
  rw [ranked_len] at h1
  simp at h1 h2
  omega
def fst3 (l : List (Int × Int × Int)) : List Int := l.map (·.1)
end Go.Own
