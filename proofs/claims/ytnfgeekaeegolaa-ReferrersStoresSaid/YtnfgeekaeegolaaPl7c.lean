import Derived.Test.YtnfgeekaeegolaaPl7b
namespace Go.Own.S
open Go Go.Own Go.Own.R
def encP (x : Int × Int) : Array Value := #[.int .i64 x.1, .int .i64 x.2]
def pthK (c : List Int) (a : Int) (j : Nat) : List (Int × Int) := (List.range j).map fun i => (((ps c.length a i : Nat) : Int), cl c a i)
def zeB (x : Int) : Bool := decide (x = 0)
def plen (c : List Int) (a : Int) : Nat := match fstJ zeB c a with | some j => j + 1 | none => c.length
def pthL (c : List Int) (a : Int) : List (Int × Int) := pthK c a (plen c a)
theorem plen_le (c : List Int) (a : Int) : plen c a ≤ c.length := by
  unfold plen
  split
  · rename_i j h; have := (fstJ_some h).1; omega
  · omega
theorem pk_snoc {c : List Int} {a y : Int} {j : Nat} (hy : c[ps c.length a j]? = some y) : pthK c a j ++ [(((ps c.length a j : Nat) : Int), y)] = pthK c a (j + 1) := by
  unfold pthK; rw [List.range_succ, List.map_append, ← cl_at rfl hy]; rfl
theorem pk_le {c : List Int} {a : Int} {j : Nat} (hj : j ≤ c.length) (hz : ∀ i, i + 1 < j → ¬ cl c a i = 0) : j ≤ plen c a := by
  unfold plen
  split
  · rename_i m h
    have h3 := (fstJ_some h).2.2
    have h3 : cl c a m = 0 := by unfold zeB at h3; simpa using h3
    rcases Nat.lt_or_ge (m + 1) j with q | q
    · exact absurd h3 (hz m q)
    · exact q
  · exact hj
theorem pk_mono {c : List Int} {a : Int} {j m : Nat} (h : j ≤ m) : pthK c a j <+: pthK c a m := by
  unfold pthK
  refine List.IsPrefix.map _ ?_
  rw [List.prefix_iff_eq_take, List.length_range, List.take_range, Nat.min_eq_left h]
theorem pk_pre {c : List Int} {a y : Int} {j : Nat} (hj : j < c.length) (hz : ∀ i, i < j → ¬ cl c a i = 0) (hy : c[ps c.length a j]? = some y) : pthK c a j ++ [(((ps c.length a j : Nat) : Int), y)] <+: pthL c a := by
  rw [pk_snoc hy]; exact pk_mono (pk_le hj fun i hi => hz i (by omega))
theorem pk_all {c : List Int} {a : Int} {j : Nat} (hj : j ≤ c.length) (hj2 : c.length ≤ j) (hz : ∀ i, i < j → ¬ cl c a i = 0) : pthK c a j = pthL c a := by
  have : fstJ zeB c a = none := fstJ_no fun i hi => by unfold zeB; simpa using hz i (by omega)
  unfold pthL plen; rw [this]; simp only; rw [show j = c.length by omega]
theorem pk_zero {c : List Int} {a y : Int} {j : Nat} (hj : j < c.length) (hz : ∀ i, i < j → ¬ cl c a i = 0) (hy : c[ps c.length a j]? = some y) (h0 : y = 0) : pthK c a j ++ [(((ps c.length a j : Nat) : Int), y)] = pthL c a := by
  have : fstJ zeB c a = some j := fstJ_at hj (fun i hi => by unfold zeB; simpa using hz i hi) (by unfold zeB; rw [cl_at rfl hy]; simpa using h0)
  rw [pk_snoc hy]; unfold pthL plen; rw [this]
theorem nz_step {c : List Int} {a y : Int} {j : Nat} (hz : ∀ i, i < j → ¬ cl c a i = 0) (hy : c[ps c.length a j]? = some y) (h0 : ¬ y = 0) : ∀ i, i < j + 1 → ¬ cl c a i = 0 := by
  intro i hi
  by_cases e : i = j
  · subst e; rw [cl_at rfl hy]; exact h0
  · exact hz i (by omega)
theorem pk_at {c : List Int} {a x1 x2 : Int} {pre : List (Int × Int)} (h : pre ++ [(x1, x2)] <+: pthL c a) : ∃ j, j < c.length ∧ pre = pthK c a j ∧ x1 = ((ps c.length a j : Nat) : Int) ∧ x2 = cl c a j ∧ ∀ i, i < j → ¬ cl c a i = 0 := by
  have hl := h.length_le
  have hll : (pthL c a).length = plen c a := by simp [pthL, pthK]
  rw [hll, List.length_append, List.length_singleton] at hl
  have hle := plen_le c a
  have e := List.prefix_iff_eq_take.1 h
  have e2 : (pthL c a).take (pre ++ [(x1, x2)]).length = pthK c a (pre.length + 1) := by
    rw [List.length_append, List.length_singleton]
    have h3 : pthK c a (pre.length + 1) <+: pthL c a := pk_mono hl
    have := List.prefix_iff_eq_take.1 h3
    rw [this]; simp [pthK]
  rw [e2] at e
  have e3 : pthK c a (pre.length + 1) = pthK c a pre.length ++ [(((ps c.length a pre.length : Nat) : Int), cl c a pre.length)] := by
    unfold pthK; rw [List.range_succ, List.map_append]; rfl
  rw [e3] at e
  obtain ⟨e4, e5⟩ := List.append_inj' e rfl
  have e6 := (List.cons.inj e5).1
  refine ⟨pre.length, by omega, e4, (Prod.mk.inj e6).1, (Prod.mk.inj e6).2, fun i hi h0 => ?_⟩
  have hil : i < c.length := by omega
  cases q : fstJ zeB c a with
  | none => have := fstJ_none q i hil; unfold zeB at this; simp at this; exact this h0
  | some m =>
    have hm := fstJ_some q
    have hmi : m ≤ i := by
      rcases Nat.lt_or_ge i m with r | r
      · have := hm.2.1 i r; unfold zeB at this; simp at this; exact absurd h0 this
      · exact r
    unfold plen at hl; rw [q] at hl; simp only at hl; omega
theorem pk_mem {c : List Int} {a : Int} {i j : Nat} (h : i < j) : (((ps c.length a i : Nat) : Int), cl c a i) ∈ pthK c a j := List.mem_map.2 ⟨i, List.mem_range.2 h, rfl⟩
theorem hit_pth {c : List Int} {x x1 x2 : Int} {i : Nat} {pre : List (Int × Int)} (h : pre ++ [(x1, x2)] <+: pthL c x) (hx : x1 = i) (hc : c[i]? = some x) (h0 : 0 < x) : 0 ≤ fnd c x := by
  obtain ⟨j, hj, rfl, e1, e2, hz⟩ := pk_at h
  have hp : ps c.length x j = i := by omega
  rcases fnd_cases c x (by omega) with ⟨_, q⟩ | ⟨k, _, e, _⟩
  · exact absurd (cl_at hp hc) (q j hj hz)
  · omega
theorem no_pth {c : List Int} {x : Int} {i : Nat} (hno : ∀ e ∈ pthL c x, ¬ e.1 = i) (hc : c[i]? = some x) (h0 : 0 < x) (hd : Dst c) : fnd c x < 0 := by
  rcases fnd_cases c x (by omega) with ⟨e, _⟩ | ⟨j, hj, e, e2, hz⟩
  · omega
  · have h1 := pk_le (a := x) (j := j + 1) (c := c) (by omega) fun i hi => (hz i (by omega)).2
    have h2 : c[ps c.length x j]? = some x := by rw [cl_get (by omega), e2]
    have := hd _ _ x h2 hc h0
    exact absurd (by rw [this]) (hno _ (pk_mem (c := c) (a := x) (i := j) (j := plen c x) (by omega)))
theorem all_snoc {p : Int × Int → Prop} {pre : List (Int × Int)} {x : Int × Int} (h : ∀ e ∈ pre, ¬ p e) (hx : ¬ p x) : ∀ e ∈ pre ++ [x], ¬ p e := by
  intro e he
  rcases List.mem_append.1 he with q | q
  · exact h e q
  · rw [List.mem_singleton] at q; subst q; exact hx
/-! bits -/
theorem and_ps0 {n : Nat} (h : P2 n) (a : Int) : (((a * 40503).toNat &&& ((n : Int) - 1).toNat : Nat) : Int) = ((ps n a 0 : Nat) : Int) := by
  have := h.bd
  rw [show ((n : Int) - 1).toNat = n - 1 by omega, and_p2 h]; rfl
theorem and_psS {n : Nat} (h : P2 n) (a : Int) (j : Nat) : ((((((ps n a j : Nat) : Int) + 1)).toNat &&& ((n : Int) - 1).toNat : Nat) : Int) = ((ps n a (j + 1) : Nat) : Int) := by
  have := h.bd
  rw [show ((n : Int) - 1).toNat = n - 1 by omega, and_p2 h, show (((ps n a j : Nat) : Int) + 1).toNat = ps n a j + 1 by omega, ps_succ]
theorem mod_ps0 {n : Nat} {a : Int} (ha : 0 ≤ a) : (a * 40503) % (n : Int) = ((ps n a 0 : Nat) : Int) := by
  unfold ps
  rw [Int.natCast_emod, Nat.add_zero, Int.toNat_of_nonneg (by omega)]
theorem mod_psS {n : Nat} (a : Int) (j : Nat) : (((ps n a j : Nat) : Int) + 1) % (n : Int) = ((ps n a (j + 1) : Nat) : Int) := by
  rw [ps_succ, Int.natCast_emod]; rfl
theorem and_form {n : Nat} (h1 : 8 ≤ n) (h2 : n ≤ 8192) : ((((n : Int)).toNat &&& ((n : Int) - 1).toNat : Nat) : Int) = 0 ↔ P2 n := by
  rw [show ((n : Int) - 1).toNat = n - 1 by omega, Int.toNat_natCast, ← p2_and h1 h2]; omega
/-! counts -/
theorem usd_snoc {c : List Int} {k : Nat} {y : Int} (hy : c[k]? = some y) : usd (c.take (k + 1)) = usd (c.take k) + (if y = 0 then 0 else 1) := by
  unfold usd; rw [take_snoc' c k y hy, List.countP_append]
  by_cases h : y = 0 <;> simp [h]
theorem adr_snoc {c : List Int} {k : Nat} {y : Int} (hy : c[k]? = some y) : adr (c.take (k + 1)) = adr (c.take k) + (if 0 < y then 1 else 0) := by
  unfold adr; rw [take_snoc' c k y hy, List.countP_append]
  by_cases h : 0 < y <;> simp [h]
theorem cnt_bd (c : List Int) (k : Nat) : usd (c.take k) ≤ k ∧ adr (c.take k) ≤ k := by
  have h1 := usd_le (c.take k)
  have h2 := adr_usd (c.take k)
  rw [List.length_take] at h1
  omega
/-! what a library's DeleteFunc does -/
theorem idxF_spec {p : Int → Bool} {l : List Int} (h : ¬ idxF p l = -1) : ∃ (k : Nat) (y : Int), idxF p l = (k : Int) ∧ l[k]? = some y ∧ p y = true ∧ ∀ i, i < k → ∀ x, l[i]? = some x → p x = false := by
  unfold idxF at h ⊢
  cases e : l.findIdx? p with
  | none => rw [e] at h; exact absurd rfl h
  | some k =>
    rw [List.findIdx?_eq_some_iff_getElem] at e
    obtain ⟨hk, h1, h2⟩ := e
    refine ⟨k, l[k], rfl, List.getElem?_eq_getElem hk, h1, fun i hi x hx => ?_⟩
    obtain ⟨hi2, rfl⟩ := List.getElem?_eq_some_iff.1 hx
    simpa using h2 i hi
def fl (p : Int → Bool) (l : List Int) : List Int := l.filter fun x => !p x
theorem fl_no {p : Int → Bool} {l : List Int} (h : idxF p l = -1) : l = fl p l := by
  unfold fl; symm; rw [List.filter_eq_self]
  intro x hx
  unfold idxF at h
  cases e : l.findIdx? p with
  | none => rw [List.findIdx?_eq_none_iff] at e; simp [e x hx]
  | some k => rw [e] at h; simp at h <;> omega
theorem fl_all {p : Int → Bool} {l : List Int} (h : ∀ x ∈ l, p x = false) : fl p l = l := by unfold fl; rw [List.filter_eq_self]; intro x hx; simp [h x hx]
def dfD (p : Int → Bool) (l gar : List Int) (j : Nat) : List Int := fl p (l.take j) ++ gar ++ l.drop j
theorem fl_snoc {p : Int → Bool} {l : List Int} {j : Nat} {y : Int} (hy : l[j]? = some y) : fl p (l.take (j + 1)) = fl p (l.take j) ++ (if p y then [] else [y]) := by
  unfold fl; rw [take_snoc' l j y hy, List.filter_append]
  by_cases h : p y = true <;> simp [h]
theorem df_init {p : Int → Bool} {l : List Int} {k : Nat} {y : Int} (hy : l[k]? = some y) (hp : p y = true) (hn : ∀ i, i < k → ∀ x, l[i]? = some x → p x = false) : l = dfD p l [y] (k + 1) ∧ (fl p (l.take (k + 1))).length = k := by
  have h1 : fl p (l.take k) = l.take k := fl_all fun x hx => by
    obtain ⟨i, hi, rfl⟩ := List.mem_iff_getElem.1 hx
    rw [List.length_take] at hi
    exact hn i (by omega) _ (by rw [List.getElem_take]; exact List.getElem?_eq_getElem (by omega))
  have hk := (List.getElem?_eq_some_iff.1 hy).1
  have h2 : fl p (l.take (k + 1)) = l.take k := by rw [fl_snoc hy, h1, if_pos hp, List.append_nil]
  refine ⟨?_, by rw [h2, List.length_take]; omega⟩
  unfold dfD
  rw [h2, ← take_snoc' l k y hy, List.take_append_drop]
theorem dfD_len {p : Int → Bool} {l gar : List Int} {j : Nat} (hj : j ≤ l.length) (h : (fl p (l.take j)).length + gar.length = j) : (dfD p l gar j).length = l.length := by
  unfold dfD; rw [List.length_append, List.length_append, List.length_drop]; omega
theorem df_get {p : Int → Bool} {l gar : List Int} {j : Nat} {y : Int} (h : (fl p (l.take j)).length + gar.length = j) (hy : (dfD p l gar j)[j]? = some y) : l[j]? = some y := by
  unfold dfD at hy
  rw [List.getElem?_append_right (by rw [List.length_append]; omega), List.length_append, h, List.getElem?_drop] at hy
  simpa using hy
theorem df_keep {p : Int → Bool} {l gar : List Int} {j : Nat} {y : Int} (h : (fl p (l.take j)).length + gar.length = j) (hy : l[j]? = some y) (hp : p y = false) :
    (dfD p l gar j).set (fl p (l.take j)).length y = dfD p l (gar ++ [y]).tail (j + 1) ∧ (fl p (l.take (j + 1))).length = (fl p (l.take j)).length + 1 ∧ (fl p (l.take (j + 1))).length + (gar ++ [y]).tail.length = j + 1 := by
  have hk := (List.getElem?_eq_some_iff.1 hy).1
  have e := (List.getElem?_eq_some_iff.1 hy).2
  have hf : fl p (l.take (j + 1)) = fl p (l.take j) ++ [y] := by rw [fl_snoc hy]; simp [hp]
  have hd : l.drop j = y :: l.drop (j + 1) := by rw [List.drop_eq_getElem_cons hk, e]
  refine ⟨?_, by rw [hf]; simp, by rw [hf]; cases gar <;> simp at h ⊢ <;> omega⟩
  unfold dfD
  rw [hf, hd, List.append_assoc, List.set_append_right _ _ (Nat.le_refl _), Nat.sub_self]
  cases gar with
  | nil => simp
  | cons g gs => simp
theorem df_drop {p : Int → Bool} {l gar : List Int} {j : Nat} {y : Int} (h : (fl p (l.take j)).length + gar.length = j) (hy : l[j]? = some y) (hp : p y = true) :
    dfD p l gar j = dfD p l (gar ++ [y]) (j + 1) ∧ (fl p (l.take (j + 1))).length = (fl p (l.take j)).length ∧ (fl p (l.take (j + 1))).length + (gar ++ [y]).length = j + 1 := by
  have hk := (List.getElem?_eq_some_iff.1 hy).1
  have e := (List.getElem?_eq_some_iff.1 hy).2
  have hf : fl p (l.take (j + 1)) = fl p (l.take j) := by rw [fl_snoc hy]; simp [hp]
  have hd : l.drop j = y :: l.drop (j + 1) := by rw [List.drop_eq_getElem_cons hk, e]
  refine ⟨?_, by rw [hf], by rw [hf]; simp; omega⟩
  unfold dfD; rw [hf, hd]; simp
theorem df_end {p : Int → Bool} {l gar : List Int} {j n : Nat} {zs : List Int} (hj : l.length ≤ j) (hn : n = (fl p (l.take j)).length) : ((dfD p l gar j).take n ++ zs).take n = fl p l := by
  subst hn
  unfold dfD
  rw [List.take_of_length_le hj, List.append_assoc, List.take_left' rfl, List.take_left' rfl]
theorem srt_fl {c : List Int} (hr : Rng c) (hd : Dst c) : sortL (fl (fun x => decide (x ≤ 0)) c) = tgK c 1600 := by
  have e : fl (fun x => decide (x ≤ 0)) c = c.filter fun x => decide (0 < x) := by
    unfold fl
    refine List.filter_congr fun x _ => ?_
    simp [← Int.not_le]
  rw [e, srt_eq hr hd]
theorem fl_len (p : Int → Bool) (l : List Int) : (fl p l).length ≤ l.length := List.length_filter_le _ _
end Go.Own.S
