import Derived.Test.YtbnijekjaafoaaaPl19c
namespace Go.Own.R
open Go Go.Own
theorem ckR_iff {l : List Int} : (ckR l).2 = 0 ↔ 1 ≤ l.length ∧ l.length ≤ 8 ∧ ∀ x ∈ l, 0 ≤ x ∧ x ≤ 1600 := by
  refine ⟨ckR_good, fun ⟨h1, h2, h3⟩ => ?_⟩
  have hi : idxF outB l = -1 := idxF_no fun i hi x hx => by
    have := h3 x (List.mem_of_getElem? hx)
    simp [outB]; omega
  rw [ckR_ok (by omega) (by rw [hi]; omega)]
theorem nmE_iff {l ns : List Int} : nmE l ns = 0 ↔ (ckR l).2 = 0 ∧ ∀ x ∈ ns, 0 ≤ x ∧ x < (l.length : Int) := by
  refine ⟨nmE_good, fun ⟨h1, h2⟩ => nmE_ok (j := ns.length) h1 (fun i hi x hx => h2 x (List.mem_of_getElem? hx)) (Nat.le_refl _)⟩
theorem ck_set {l : List Int} {k : Nat} {x : Int} (h : (ckR l).2 = 0) (hx : 0 ≤ x ∧ x ≤ 1600) : (ckR (l.set k x)).2 = 0 := by
  obtain ⟨h1, h2, h3⟩ := ckR_iff.1 h
  refine ckR_iff.2 ⟨by rw [List.length_set]; exact h1, by rw [List.length_set]; exact h2, fun y hy => ?_⟩
  rcases List.mem_or_eq_of_mem_set hy with q | rfl
  · exact h3 y q
  · exact hx
theorem st0 {l : List Int} {a x : Int} (h : stE l a x = 0) : stT l a x = l.set a.toNat x ∧ (ckR l).2 = 0 ∧ (ckR (stT l a x)).2 = 0 ∧ (stT l a x).length = l.length ∧ (0 ≤ a ∧ a < (l.length : Int)) ∧ 0 ≤ x ∧ x ≤ 1600 := by
  have e := stT_ok h
  unfold stE at h
  split at h
  · rename_i q; exact absurd h q
  · rename_i q
    split at h
    · cases h
    · rename_i r
      have q' : nmE l [a] = 0 := by simpa using q
      obtain ⟨h1, h2⟩ := nmE_iff.1 q'
      have ha := h2 a (by simp)
      refine ⟨e, h1, by rw [e]; exact ck_set h1 (by omega), by rw [e, List.length_set], ha, by omega, by omega⟩
theorem st_get {l : List Int} {a x : Int} (h : stE l a x = 0) : nmE (stT l a x) [a] = 0 ∧ gtN (stT l a x) a = x ∧ (stT l a x)[a.toNat]? = some x := by
  obtain ⟨e, h1, h2, h3, h4, _⟩ := st0 h
  have hn : nmE (stT l a x) [a] = 0 := nmE_iff.2 ⟨h2, fun y hy => by rw [List.mem_singleton] at hy; subst hy; rw [h3]; exact h4⟩
  have hg : (stT l a x)[a.toNat]? = some x := by rw [e, List.getElem?_set_self (by omega)]
  exact ⟨hn, gtN_ok hn hg, hg⟩
theorem st_other {l : List Int} {a x y z : Int} {i : Nat} (h : stE l a x = 0) (hi : (i : Int) ≠ a) (hy : (stT l a x)[i]? = some y) (hz : l[i]? = some z) : y = z := by
  have h0 := st0 h
  rw [h0.1, List.getElem?_set_ne (by omega), hz] at hy
  exact (Option.some.inj hy).symm
theorem nmE_two {l : List Int} {a b : Int} (h : (ckR l).2 = 0) (ha : 0 ≤ a ∧ a < (l.length : Int)) : (nmE l [b, a] = 0 ↔ 0 ≤ b ∧ b < (l.length : Int)) ∧ (¬ nmE l [b, a] = 0 → nmE l [b, a] = 10) := by
  constructor
  · rw [nmE_iff]
    exact ⟨fun q => q.2 b (by simp), fun q => ⟨h, fun x hx => by simp at hx; rcases hx with rfl | rfl; exact q; exact ha⟩⟩
  · intro q
    unfold nmE at q ⊢
    rw [if_neg (by simpa using h)] at q ⊢
    split
    · rename_i r; rw [if_pos r] at q; exact absurd rfl q
    · rfl
/-- behind a move from a to b. -/
theorem mv0 {l : List Int} {a b : Int} (h : nmE l [b, a] = 0) : (ckR (mvT l b a)).2 = 0 ∧ (mvT l b a).length = l.length ∧ nmE (mvT l b a) [a, b] = 0 ∧ alB (mvT l b a) a b = true ∧ stE (mvT l b a) b 0 = 0 := by
  obtain ⟨h1, h2⟩ := nmE_iff.1 h
  have hb := h2 b (by simp)
  have ha := h2 a (by simp)
  obtain ⟨q1, q2, q3⟩ := ckR_iff.1 h1
  have hlt : a.toNat < l.length := by omega
  obtain ⟨v, hy⟩ : ∃ v, l[a.toNat]? = some v := ⟨_, List.getElem?_eq_getElem hlt⟩
  have e := mvT_ok h hy
  have hr := q3 _ (List.mem_of_getElem? hy)
  have c : (ckR (mvT l b a)).2 = 0 := by rw [e]; exact ck_set h1 hr
  have hl : (mvT l b a).length = l.length := by rw [e, List.length_set]
  have hn : nmE (mvT l b a) [a, b] = 0 := nmE_iff.2 ⟨c, fun x hx => by rw [hl]; simp at hx; rcases hx with rfl | rfl; exact ha; exact hb⟩
  have hn1 : nmE (mvT l b a) [b] = 0 := nmE_iff.2 ⟨c, fun x hx => by rw [hl]; simp at hx; subst hx; exact hb⟩
  refine ⟨c, hl, hn, ?_, stE_ok hn1 (by omega)⟩
  have hbv : (mvT l b a)[b.toNat]? = some v := by rw [e, List.getElem?_set_self (by omega)]
  have hav : (mvT l b a)[a.toNat]? = some v := by
    by_cases q : b.toNat = a.toNat
    · rw [q] at hbv; exact hbv
    · rw [e, List.getElem?_set_ne q, hy]
  rw [alB_ok hn hav hbv]; simp
/-! Ranges -/
def cn (l : List Int) (f t : Int) : Int := ((l.countP (hitB f t) : Nat) : Int)
theorem many_is {l : List Int} {f t : Int} (h : (ckR l).2 = 0) (hr : 0 ≤ f ∧ f ≤ t ∧ t ≤ 1601) : (inE l f t = 0 ∨ inE l f t = 4) ∧ inN l f t = cn l f t := by
  have e : inE l f t = if l.countP (hitB f t) = 0 then 4 else 0 := by unfold inE; rw [if_neg (by simpa using h), if_neg (by omega)]
  unfold inN cn
  by_cases q : l.countP (hitB f t) = 0
  · rw [if_pos q] at e; rw [e]; simp [q]
  · rw [if_neg q] at e; rw [e]; simp
theorem cn_cons (x : Int) (l : List Int) (f t : Int) : cn (x :: l) f t = (if x ≠ 0 ∧ f ≤ x ∧ x < t then 1 else 0) + cn l f t := by
  unfold cn
  rw [List.countP_cons]
  by_cases h : x ≠ 0 ∧ f ≤ x ∧ x < t
  · have : hitB f t x = true := by simp [hitB]; omega
    rw [if_pos h, if_pos this]; omega
  · have : ¬ hitB f t x = true := by simp [hitB]; omega
    rw [if_neg h, if_neg this]; omega
theorem cn_add (l : List Int) {a b c : Int} (h : a ≤ b ∧ b ≤ c) : cn l a b + cn l b c = cn l a c := by
  induction l with
  | nil => rfl
  | cons x l ih =>
    rw [cn_cons, cn_cons, cn_cons]
    split <;> split <;> split <;> omega
/-- the registers that hold an address. -/
def nz (l : List Int) : Int := cn l 0 1601
theorem nz_step {l : List Int} {k : Nat} {y : Int} (hl : ∀ x ∈ l, 0 ≤ x ∧ x ≤ 1600) (hy : l[k]? = some y) : nz (l.take (k + 1)) = nz (l.take k) + (if y ≠ 0 then 1 else 0) := by
  have hr := hl y (List.mem_of_getElem? hy)
  unfold nz cn
  rw [take_snoc' l k y hy, List.countP_append]
  by_cases h : y = 0
  · subst h
    have : hitB 0 1601 0 = false := by decide
    simp [this]
  · have : hitB 0 1601 y = true := by simp [hitB]; omega
    simp [this, h]
theorem cn_bd (l : List Int) (f t : Int) : 0 ≤ cn l f t ∧ cn l f t ≤ l.length := by
  unfold cn
  have := List.countP_le_length (p := hitB f t) (l := l)
  omega
def sm (l t : List Int) : Int := (t.map fun a => cn l a (a + 1)).sum
theorem sm_snoc {l t : List Int} {k : Nat} {y : Int} (hy : t[k]? = some y) : sm l (t.take (k + 1)) = sm l (t.take k) + cn l y (y + 1) := by
  unfold sm; rw [take_snoc' t k y hy, List.map_append, List.sum_append]; simp
theorem cn_out {l : List Int} {a : Int} (h : a ∉ l) : cn l a (a + 1) = 0 := by
  unfold cn
  have : l.countP (hitB a (a + 1)) = 0 := by
    rw [List.countP_eq_zero]; intro x hx hp
    have : x = a := by simp [hitB] at hp; omega
    exact h (this ▸ hx)
  rw [this]; rfl
theorem cn_in {l : List Int} {a : Int} (h : a ∈ l) (h0 : a ≠ 0) : 1 ≤ cn l a (a + 1) := by
  unfold cn
  have : 0 < l.countP (hitB a (a + 1)) := List.countP_pos_iff.2 ⟨a, h, by simp [hitB, h0]; omega⟩
  omega
theorem sm_k (l : List Int) (k : Nat) : sm l (tgK l k) = cn l 0 ((k : Int) + 1) := by
  induction k with
  | zero =>
    show (0 : Int) = _
    unfold cn
    have : l.countP (hitB 0 (((0 : Nat) : Int) + 1)) = 0 := by
      rw [List.countP_eq_zero]; intro x _ hp; simp [hitB] at hp; omega
    rw [this]; rfl
  | succ k ih =>
    have h := cn_add l (a := 0) (b := (k : Int) + 1) (c := (k : Int) + 1 + 1) (by omega)
    have e : (((k + 1 : Nat) : Int) + 1) = (k : Int) + 1 + 1 := by omega
    rw [e, ← h, ← ih]
    by_cases q : ((k : Int) + 1) ∈ l
    · rw [← tgK_in q]; unfold sm; rw [List.map_append, List.sum_append]; simp
    · rw [← tgK_out q, cn_out q]; omega
theorem sm_all {l : List Int} (h : (ckR l).2 = 0) : sm l (tgT l) = nz l := by rw [tgT_ok h, sm_k]; rfl
theorem sm_len (l : List Int) : ∀ t : List Int, (∀ a ∈ t, a ∈ l ∧ a ≠ 0) → (t.length : Int) ≤ sm l t
  | [], _ => by simp [sm]
  | a :: t, h => by
    have h1 := sm_len l t fun b hb => h b (by simp [hb])
    have h2 := cn_in (h a (by simp)).1 (h a (by simp)).2
    unfold sm at h1 ⊢
    rw [List.map_cons, List.sum_cons, List.length_cons]; omega
theorem tgT_mem {l : List Int} {a : Int} (h : (ckR l).2 = 0) (ha : a ∈ tgT l) : 1 ≤ a ∧ a ≤ 1600 ∧ a ∈ l := by
  rw [tgT_ok h, tgK_mem] at ha; exact ⟨ha.1, by omega, ha.2.2⟩
theorem tgT_len {l : List Int} (h : (ckR l).2 = 0) : ((tgT l).length : Int) ≤ nz l := by
  rw [← sm_all h]
  exact sm_len l _ fun a ha => ⟨(tgT_mem h ha).2.2, by have := (tgT_mem h ha).1; omega⟩
theorem sm_take (l : List Int) : ∀ (t : List Int) (j : Nat), 0 ≤ sm l (t.take j) ∧ sm l (t.take j) ≤ sm l t
  | [], _ => by simp [sm]
  | a :: t, 0 => by
    have h1 := sm_take l t 0
    have h2 := (cn_bd l a (a + 1)).1
    unfold sm at h1 ⊢; simp at h1 ⊢; omega
  | a :: t, j + 1 => by
    have h1 := sm_take l t j
    have h2 := (cn_bd l a (a + 1)).1
    unfold sm at h1 ⊢
    rw [List.take_succ_cons, List.map_cons, List.map_cons, List.sum_cons, List.sum_cons]; omega
theorem sm_bd {l : List Int} (h : (ckR l).2 = 0) (j : Nat) : 0 ≤ sm l ((tgT l).take j) ∧ sm l ((tgT l).take j) ≤ nz l := by
  have := sm_take l (tgT l) j
  rw [sm_all h] at this; exact this
theorem tgT_asc {l : List Int} {i : Nat} {a b : Int} (h : (ckR l).2 = 0) (ha : (tgT l)[i]? = some a) (hb : (tgT l)[i - 1]? = some b) (hi : 0 < i) : b < a := by
  have hp : (tgT l).Pairwise (· < ·) := by rw [tgT_ok h]; exact tgK_asc l 1600
  obtain ⟨h1, rfl⟩ := List.getElem?_eq_some_iff.1 ha
  obtain ⟨h2, rfl⟩ := List.getElem?_eq_some_iff.1 hb
  exact List.pairwise_iff_getElem.1 hp _ _ h2 h1 (by omega)
end Go.Own.R
