import Derived.Test.YtnfgeekaeegolaaPl9i
/-! counts added up in a map -/
namespace Go.Own.F
open Go Go.Own Go.Own.R Go.Own.S
theorem smN_app (l m : List (Int × Int)) (t : Int) : smN (l ++ m) t = smN l t + smN m t := by unfold smN; rw [List.map_append, List.sum_append]
theorem smN_snoc {X : List (Int × Int)} {k : Nat} {y : Int × Int} (hy : X[k]? = some y) (t : Int) : smN (X.take (k + 1)) t = smN (X.take k) t + if t = y.1 then y.2 else 0 := by
  rw [take_add9 hy, smN_app]; simp [smN]
theorem lkN_set (M : List (Int × Int)) (q u t : Int) : lkN (kset M q u) t = if t = q then u else lkN M t := by
  rw [lkN_get, kget_set]; split
  · rfl
  · rfl
theorem lkN_nn {M : List (Int × Int)} (h : ∀ p ∈ M, 0 < p.2) (q : Int) : 0 ≤ lkN M q := by
  rw [lkN_get]
  cases e : kget M q with
  | none => exact Int.le_refl _
  | some y => have := h _ (mem_kget e); simp only [Option.getD_some] at *; omega
structure KM (X : List (Int × Int)) (k : Nat) (M : List (Int × Int)) : Prop where
  nd : (M.map (·.1)).Nodup
  val : ∀ t, lkN M t = smN (X.take k) t
  pos : ∀ p ∈ M, 0 < p.2
  le : ∀ t, smN (X.take k) t ≤ 1600
  len : M.length ≤ k
theorem kset_len {α : Type} (m : List (Int × α)) (q : Int) (u : α) : (kset m q u).length ≤ m.length + 1 := by unfold kset; split <;> simp
theorem KM_0 (X : List (Int × Int)) : KM X 0 [] := ⟨by simp, fun t => by simp [smN, lkN], fun p h => by (cases h), fun t => by simp [smN], Nat.le_refl _⟩
theorem KM_new {X M : List (Int × Int)} {k : Nat} {y : Int × Int} (h : KM X k M) (hy : X[k]? = some y) (t : Int) : lkN (kset M y.1 (lkN M y.1 + y.2)) t = smN (X.take (k + 1)) t := by
  rw [lkN_set, smN_snoc hy]
  by_cases e : t = y.1
  · subst e; rw [if_pos rfl, if_pos rfl, h.val]
  · rw [if_neg e, if_neg e, h.val]; omega
theorem KM_step {X M : List (Int × Int)} {k : Nat} {y : Int × Int} (h : KM X k M) (hy : X[k]? = some y) (h0 : 0 < y.2) (hl : ¬ 1600 < lkN (kset M y.1 (lkN M y.1 + y.2)) y.1) : KM X (k + 1) (kset M y.1 (lkN M y.1 + y.2)) := by
  refine ⟨keys_set h.nd, KM_new h hy, fun p hp => ?_, fun t => ?_, by have := kset_len M y.1 (lkN M y.1 + y.2); have := h.len; omega⟩
  · have := kget_mem (keys_set h.nd) hp
    rw [kget_set] at this
    by_cases e : p.1 = y.1
    · rw [if_pos e] at this
      have e2 := Option.some.inj this
      have := lkN_nn h.pos y.1
      omega
    · rw [if_neg e] at this; exact h.pos _ (mem_kget this)
  · by_cases e : t = y.1
    · subst e; rw [← KM_new h hy]; omega
    · rw [smN_snoc hy, if_neg e]; have := h.le t; omega
theorem smN_cons (x : Int × Int) (r : List (Int × Int)) (t : Int) : smN (x :: r) t = (if t = x.1 then x.2 else 0) + smN r t := by simp [smN]
theorem smN_lt : ∀ {l : List (Int × Int)} {t : Int}, (∀ x ∈ l, t < x.1) → smN l t = 0
  | [], t, _ => rfl
  | x :: r, t, h => by
    have := h x (by simp)
    rw [smN_cons, if_neg (by omega), smN_lt fun y hy => h y (List.mem_cons_of_mem _ hy)]; rfl
theorem smN_nOf : ∀ {l : List (Int × Int)}, Asc l → ∀ t, smN l t = nOf l t
  | [], _, t => rfl
  | x :: r, h, t => by
    unfold Asc at h
    rw [List.pairwise_cons] at h
    rw [smN_cons, nOf_cons]
    by_cases e : t = x.1
    · subst e; rw [if_pos rfl, if_pos rfl, smN_lt h.1]; omega
    · rw [if_neg e, if_neg (fun q => e q.symm), smN_nOf h.2]; omega
theorem smN_nn {l : List (Int × Int)} (h : ∀ x ∈ l, 0 ≤ x.2) (t : Int) : 0 ≤ smN l t := by
  induction l with
  | nil => exact Int.le_refl _
  | cons x r ih =>
    rw [smN_cons]
    have := ih fun y hy => h y (List.mem_cons_of_mem _ hy)
    have := h x (List.mem_cons_self ..)
    split <;> omega
theorem mg_n {l m : List (Int × Int)} (hl : (ckL l).2 = 0) (t : Int) : nOf (plA l m) t = smN (l ++ m) t := by
  have ha : Asc l := (ckL_iff.1 hl).2.2
  rw [plA_n ha, smN_app, smN_nOf ha]
theorem ck_pos {l : List (Int × Int)} (hl : (ckL l).2 = 0) : ∀ x ∈ l, 1 ≤ x.2 ∧ x.2 ≤ 1600 := fun x hx => ((ckL_iff.1 hl).2.1 x hx).2
theorem mg_asc {l m : List (Int × Int)} (hl : (ckL l).2 = 0) (hm : (ckL m).2 = 0) : Asc (plA l m) ∧ Pos (plA l m) :=
  ⟨plA_asc (ckL_iff.1 hl).2.2, plA_pos (fun x hx => by have := ck_pos hl x hx; omega) fun x hx => by have := ck_pos hm x hx; omega⟩
theorem KM_done {l m M : List (Int × Int)} {k : Nat} (hl : (ckL l).2 = 0) (hm : (ckL m).2 = 0) (h : KM (l ++ m) k M) (hk : (l ++ m).length ≤ k) : lsM M = plA l m ∧ mgE l m = 0 := by
  have hv : ∀ t, lkN M t = smN (l ++ m) t := fun t => by rw [h.val, List.take_of_length_le hk]
  have hle : ∀ t, smN (l ++ m) t ≤ 1600 := fun t => by have := h.le t; rwa [List.take_of_length_le hk] at this
  obtain ⟨p1, p2⟩ := mg_asc hl hm
  refine ⟨asc_nOf (lsM_asc h.nd) p1 (fun x hx => ?_) p2 fun t => by rw [lsM_n _ h.nd, mg_n hl, hv], ?_⟩
  · unfold lsM at hx
    obtain ⟨q, hq, rfl⟩ := List.mem_map.1 hx
    obtain ⟨p, hp, rfl⟩ := List.mem_map.1 (sortL_mem'.1 hq)
    have h1 := kget_mem h.nd hp
    have := h.pos p hp
    simp only [lkN_get, h1, Option.getD_some]; exact this
  · unfold mgE
    rw [if_neg (by omega), if_neg (by omega), if_neg]
    intro q
    obtain ⟨x, hx, hd⟩ := List.any_eq_true.1 q
    have h1 := nOf_mem p1 hx
    rw [mg_n hl] at h1
    have := hle x.1
    simp at hd; omega
theorem KM_over {l m : List (Int × Int)} {k : Nat} {t : Int} (hl : (ckL l).2 = 0) (hm : (ckL m).2 = 0) (h : 1600 < smN ((l ++ m).take k) t) : mgE l m = 7 := by
  have hp : ∀ x ∈ l ++ m, 0 ≤ x.2 := fun x hx => by
    rcases List.mem_append.1 hx with q | q
    · have := ck_pos hl x q; omega
    · have := ck_pos hm x q; omega
  have h2 : smN (l ++ m) t = smN ((l ++ m).take k) t + smN ((l ++ m).drop k) t := by rw [← smN_app, List.take_append_drop]
  have h3 := smN_nn (fun x hx => hp x (List.mem_of_mem_drop hx)) t (l := (l ++ m).drop k)
  have h4 : 1600 < nOf (plA l m) t := by rw [mg_n hl]; omega
  have h5 := nOf_in (l := plA l m) (t := t) (by omega)
  unfold mgE
  rw [if_neg (by omega), if_neg (by omega), if_pos (List.any_eq_true.2 ⟨_, h5, by simpa using h4⟩)]
theorem KM_lk {X M : List (Int × Int)} {k : Nat} (h : KM X k M) (t : Int) : 0 ≤ lkN M t ∧ lkN M t ≤ 1600 := ⟨lkN_nn h.pos t, by rw [h.val]; exact h.le t⟩
theorem mgE_ck {l m : List (Int × Int)} (h : ckN [l, m] ≠ 0) : mgE l m = ckN [l, m] := by
  rw [ckN_two] at h ⊢
  unfold mgE
  by_cases e : (ckL l).2 ≠ 0
  · rw [if_pos e, if_pos e]
  · rw [if_neg e] at h; rw [if_neg e, if_neg e, if_pos h]
theorem ck_two {l m : List (Int × Int)} (h : ckN [l, m] = 0) : (ckL l).2 = 0 ∧ (ckL m).2 = 0 := by
  rw [ckN_two] at h
  by_cases e : (ckL l).2 ≠ 0
  · rw [if_pos e] at h; exact absurd h e
  · rw [if_neg e] at h; exact ⟨by omega, h⟩
theorem app_pos {l m : List (Int × Int)} (hl : (ckL l).2 = 0) (hm : (ckL m).2 = 0) {x : Int × Int} (hx : x ∈ l ++ m) : 1 ≤ x.2 ∧ x.2 ≤ 1600 := by
  rcases List.mem_append.1 hx with q | q
  · exact ck_pos hl x q
  · exact ck_pos hm x q
end Go.Own.F
