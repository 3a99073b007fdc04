import Derived.Test.YteppjefmlibmoaaPl8j
/-! Purge on the list of all sets; the law Cars -/
namespace Go.Own.E
open Go Go.Own Go.Own.R Go.Own.S
variable {C N Z K Q : Int} {X : List (List Int)} {ns c d : List Int} {L M : List (List Int)} {a b i p y : Int} {j k : Nat}
def pgL (L : List (List Int)) (i a b : Int) : List (List Int) := L.mapIdx fun j c => pgF i a b j c
theorem r8_gd : Gd (List.replicate 8 (0 : Int)) := ck_iff.1 (by decide +kernel)
theorem r8_mem (hy : 0 < y) : y ∉ List.replicate 8 (0 : Int) := fun q => by have := (List.mem_replicate.1 q).2; omega
theorem VL_new (h : cfE C N Z K Q = 0) : VL C N Z K Q (nwC C N Z K Q ++ [nwN C N Z K Q]) ∧ ∀ j y, 0 < y → y ∉ (nwC C N Z K Q ++ [nwN C N Z K Q]).getD j [] := by
  obtain ⟨h1, h2⟩ := nw_k h
  have hr := cf_rng h
  have e : nwC C N Z K Q ++ [nwN C N Z K Q] = List.replicate (N.toNat + 1) (List.replicate 8 (0 : Int)) := by rw [h1, h2]; exact List.replicate_succ'.symm
  rw [e]
  refine ⟨⟨h, by simp; omega, fun j c hj => ?_⟩, fun j y hy hm => ?_⟩
  · have := (List.mem_replicate.1 (List.mem_of_getElem? hj)).2
    subst this
    exact wr_iff.2 ⟨r8_gd, fun y hy hm => absurd hm (r8_mem hy)⟩
  · rw [List.getD_eq_getElem?_getD] at hm
    cases q : (List.replicate (N.toNat + 1) (List.replicate 8 (0 : Int)))[j]? with
    | none => rw [q] at hm; simp at hm
    | some c =>
      rw [q] at hm
      have := (List.mem_replicate.1 (List.mem_of_getElem? q)).2
      subst this
      exact r8_mem hy hm
theorem cars_end (h : VL C N Z K Q (X ++ [ns])) (hz : ∀ j y, 0 < y → y ∈ (X ++ [ns]).getD j [] → N ≤ caN C N Z K Q y) : (ctP (X ++ [ns])).1 = 0 ∧ smB (X ++ [ns]) (nwC C N Z K Q ++ [nwN C N Z K Q]) = true := by
  have hno : ∀ j y, j < (X ++ [ns]).length → 0 < y → y ∉ (X ++ [ns]).getD j [] := fun j y hj hy hm => by
    have h1 := hz j y hy hm
    have hL := h.gD hj
    have := ca_rng ((wr_iff.1 (h.2.2 j _ hL)).2 y hy hm).1
    omega
  obtain ⟨v, hv⟩ := VL_new h.1
  refine ⟨?_, sm_ext h v fun j hj y hy => ⟨fun q => absurd q (hno j y hj hy), fun q => absurd q (hv j y hy)⟩⟩
  rw [h.ct]
  have hall : ∀ c ∈ X ++ [ns], lnN c = 0 := fun c hc => by
    obtain ⟨j, hj⟩ := List.mem_iff_getElem?.1 hc
    have hg := h.gd hj
    rw [lnN_gd hg, adr_srt hg.rng hg.dst]
    have : tgK c 1600 = [] := List.eq_nil_iff_forall_not_mem.2 fun x hx => by
      obtain ⟨q1, _, q3⟩ := tgK_mem.1 hx
      exact hno j x (List.getElem?_eq_some_iff.1 hj).1 (by omega) (by rw [gD_at hj]; exact q3)
    rw [this]; rfl
  have : ∀ l : List (List Int), (∀ c ∈ l, lnN c = 0) → (l.map lnN).sum = 0 := fun l => by
    induction l with
    | nil => simp
    | cons c r ih => intro hh; simp only [List.map_cons, List.sum_cons]; rw [hh c (List.mem_cons_self ..), ih fun d hd => hh d (List.mem_cons_of_mem _ hd)]; rfl
  exact this _ hall
end Go.Own.E

/-! the law Barrier: what the sets hold is what the words hold -/
namespace Go.Own.E
open Go Go.Own Go.Own.R Go.Own.S
variable {C N Z K Q : Int} {X : List (List Int)} {ns c d : List Int} {L M : List (List Int)} {A : List Int} {a b i p y s v : Int} {j k : Nat} {n : Int}
def auC (r : Int × Int) : List Value := [.int .u16 r.1, .int .u16 r.2]
theorem auC_len : ∀ a : Int × Int, (auC a).length = 2 := fun _ => rfl
/-- the words: one for each address, what it holds. -/
structure WA (C N Z K Q : Int) (A : List Int) : Prop where
  cf : cfE C N Z K Q = 0
  len : (A.length : Int) = Z + N * C + 1
  rng : ∀ x ∈ A, 0 ≤ x ∧ x ≤ Z + N * C
theorem WA.at (h : WA C N Z K Q A) (hy : 0 ≤ y ∧ y ≤ Z + N * C) : A[y.toNat]? = some (A.getD y.toNat 0) ∧ 0 ≤ A.getD y.toNat 0 ∧ A.getD y.toNat 0 ≤ Z + N * C := by
  have hk : y.toNat < A.length := by have := h.len; omega
  have e : A.getD y.toNat 0 = A[y.toNat] := by rw [List.getD_eq_getElem?_getD, List.getElem?_eq_getElem hk]; rfl
  rw [e, List.getElem?_eq_getElem hk]
  exact ⟨rfl, h.rng _ (List.getElem_mem hk)⟩
theorem WA.ca (h : WA C N Z K Q A) (hy : 1 ≤ y ∧ y ≤ Z + N * C) : caE C N Z K Q y = 0 := ca_e0 h.cf (by omega)
theorem WA.pl (h : WA C N Z K Q A) (hy : 1 ≤ y ∧ y ≤ Z + N * C) (hv : 0 ≤ v ∧ v ≤ Z + N * C) : plE C N Z K Q y v = 0 := by
  have h1 := h.ca hy
  unfold plE; rw [if_neg (by omega)]
  split
  · rfl
  · exact h.ca (by omega)
theorem WA.set (h : WA C N Z K Q A) (hv : 0 ≤ v ∧ v ≤ Z + N * C) : WA C N Z K Q (A.set k v) :=
  ⟨h.cf, by rw [List.length_set]; exact h.len, fun x hx => by rcases List.mem_or_eq_of_mem_set hx with q | rfl; exact h.rng x q; exact hv⟩
theorem WA.zero (h : cfE C N Z K Q = 0) : WA C N Z K Q (List.replicate (Z + N * C + 1).toNat (0 : Int)) := by
  have hr := cf_rng h
  have hm := mul_rng hr.2.1 hr.1
  exact ⟨h, by rw [List.length_replicate]; omega, fun x hx => by have := (List.mem_replicate.1 hx).2; omega⟩
/-- whether the word y belongs into the set of number j. -/
def inS (C N Z K Q : Int) (A : List Int) (j : Nat) (y : Int) : Prop := y ≤ Z + N * C ∧ plN C N Z K Q y (A.getD y.toNat 0) ≠ -2 ∧ j = jx N (plN C N Z K Q y (A.getD y.toNat 0))
def BI (C N Z K Q : Int) (A : List Int) (L : List (List Int)) : Prop := VL C N Z K Q L ∧ ∀ j y, 0 < y → (y ∈ L.getD j [] ↔ inS C N Z K Q A j y)
theorem BI_new (h : cfE C N Z K Q = 0) : BI C N Z K Q (List.replicate (Z + N * C + 1).toNat (0 : Int)) (nwC C N Z K Q ++ [nwN C N Z K Q]) := by
  obtain ⟨v, hv⟩ := VL_new h
  refine ⟨v, fun j y hy => ⟨fun q => absurd q (hv j y hy), fun q => ?_⟩⟩
  have e : (List.replicate (Z + N * C + 1).toNat (0 : Int)).getD y.toNat 0 = 0 := by
    rw [List.getD_eq_getElem?_getD]
    cases e : (List.replicate (Z + N * C + 1).toNat (0 : Int))[y.toNat]? with
    | none => rfl
    | some x => exact (List.mem_replicate.1 (List.mem_of_getElem? e)).2
  have := q.2.1
  rw [e, plN_z] at this; exact absurd rfl this
theorem BI_step (h : BI C N Z K Q A (X ++ [ns])) (hA : WA C N Z K Q A) (hs : 1 ≤ s ∧ s ≤ Z + N * C) (hv : 0 ≤ v ∧ v ≤ Z + N * C) (ho : b = A.getD s.toNat 0) :
    chE8 C N Z K Q X ns s b v = 0 ∧ BI C N Z K Q (A.set s.toNat v) (chC C N Z K Q X ns s b v ++ [chN C N Z K Q X ns s b v]) := by
  obtain ⟨hV, hm⟩ := h
  obtain ⟨w1, w2⟩ := hA.at (y := s) (by omega)
  rw [← ho] at w1 w2
  have p1 := hA.pl hs w2
  have p2 := hA.pl hs hv
  have he := ch_0 hV p1 p2
  obtain ⟨e1, hW, _⟩ := ch_VL hV he
  refine ⟨he, hW, fun j y hy => ?_⟩
  have hcs := hA.ca hs
  have hne : y ≠ s → (A.set s.toNat v).getD y.toNat 0 = A.getD y.toNat 0 := fun q => by
    rw [List.getD_eq_getElem?_getD, List.getElem?_set_ne (by omega), ← List.getD_eq_getElem?_getD]
  have heq : (A.set s.toNat v).getD s.toNat 0 = v := by
    rw [List.getD_eq_getElem?_getD, List.getElem?_set_self (by have := hA.len; omega)]; rfl
  rw [e1]
  by_cases e : b = v
  · rw [if_pos e, hm j y hy]
    have : A.set s.toNat v = A := by
      apply List.ext_getElem?
      intro m
      by_cases q : s.toNat = m
      · subst q; rw [List.getElem?_set_self (by have := hA.len; omega), w1, e]
      · rw [List.getElem?_set_ne q]
    rw [this]
  · rw [if_neg e]
    have v1 := VL_cg' (add := false) hV hcs (pl2_of p1) pl_car
    rw [cgA_mem v1 hcs (pl2_of p2).r hy, cgA_mem hV hcs (pl2_of p1).r hy, hm j y hy]
    by_cases r : y = s
    · subst r
      unfold inS; rw [heq, ← ho]
      by_cases q2 : plN C N Z K Q y v ≠ -2 ∧ j = jx N (plN C N Z K Q y v)
      · rw [if_pos ⟨q2.1, q2.2, rfl⟩]; exact ⟨fun _ => ⟨hs.2, q2.1, q2.2⟩, fun _ => rfl⟩
      · rw [if_neg (fun q => q2 ⟨q.1, q.2.1⟩)]
        by_cases q1 : plN C N Z K Q y b ≠ -2 ∧ j = jx N (plN C N Z K Q y b)
        · rw [if_pos ⟨q1.1, q1.2, rfl⟩]; exact ⟨fun q => by simp at q, fun q => absurd ⟨q.2.1, q.2.2⟩ q2⟩
        · rw [if_neg (fun q => q1 ⟨q.1, q.2.1⟩)]; exact ⟨fun q => absurd ⟨q.2.1, q.2.2⟩ q1, fun q => absurd ⟨q.2.1, q.2.2⟩ q2⟩
    · rw [if_neg (fun q => r q.2.2), if_neg (fun q => r q.2.2)]
      unfold inS; rw [hne r]
/-- the sets that are built anew, up to the word k. -/
def QI (C N Z K Q : Int) (A : List Int) (k : Nat) (n : Int) (L : List (List Int)) : Prop := VL C N Z K Q L ∧ n = (L.map lnN).sum ∧ ∀ j y, 0 < y → (y ∈ L.getD j [] ↔ y < (k : Int) ∧ inS C N Z K Q A j y)
theorem QI_new (h : cfE C N Z K Q = 0) : QI C N Z K Q A 1 0 (nwC C N Z K Q ++ [nwN C N Z K Q]) := by
  obtain ⟨v, hv⟩ := VL_new h
  refine ⟨v, ?_, fun j y hy => ⟨fun q => absurd q (hv j y hy), fun q => by omega⟩⟩
  have := (cars_end v (fun j y hy hm => absurd hm (hv j y hy))).1
  rw [v.ct] at this; exact this.symm
theorem QI_skip (h : QI C N Z K Q A k n L) (hk : 1 ≤ k) (hp : plN C N Z K Q k (A.getD k 0) = -2) : QI C N Z K Q A (k + 1) n L := by
  refine ⟨h.1, h.2.1, fun j y hy => ?_⟩
  rw [h.2.2 j y hy]
  by_cases e : y = (k : Int)
  · subst e
    exact ⟨fun q => by omega, fun q => absurd hp (by simpa using q.2.2.1)⟩
  · exact and_congr_left fun _ => ⟨fun q => by push_cast; omega, fun q => by push_cast at q; omega⟩
theorem QI_add (h : QI C N Z K Q A k n L) (hA : WA C N Z K Q A) (hk : 1 ≤ k ∧ (k : Int) ≤ Z + N * C) (hp : plN C N Z K Q k (A.getD k 0) ≠ -2) : QI C N Z K Q A (k + 1) (n + 1) (cgA N (plN C N Z K Q k (A.getD k 0)) k true L) := by
  have hs := hA.ca (y := (k : Int)) (by omega)
  obtain ⟨w1, w2⟩ := hA.at (y := (k : Int)) (by omega)
  simp only [Int.toNat_natCast] at w1 w2
  have hpe := hA.pl (y := (k : Int)) (v := A.getD k 0) (by omega) w2
  have hr := (pl2_of hpe).r
  have hnot : (k : Int) ∉ L.getD (jx N (plN C N Z K Q k (A.getD k 0))) [] := fun q => by
    have := (h.2.2 _ (k : Int) (by omega)).1 q; omega
  refine ⟨VL_cg' h.1 hs (pl2_of hpe) pl_car, ?_, fun j y hy => ?_⟩
  · rw [cgA_cnt h.1 hs hr, if_pos ⟨hp, hnot⟩, h.2.1]
  · rw [cgA_mem h.1 hs hr hy, h.2.2 j y hy]
    by_cases e : y = (k : Int)
    · subst e
      by_cases q : j = jx N (plN C N Z K Q k (A.getD k 0))
      · rw [if_pos ⟨hp, q, rfl⟩]
        exact ⟨fun _ => ⟨by push_cast; omega, by omega, by simpa using hp, by simpa using q⟩, fun _ => rfl⟩
      · rw [if_neg (fun r => q r.2.1)]
        exact ⟨fun r => by omega, fun r => absurd (by simpa using r.2.2.2) q⟩
    · rw [if_neg (fun r => e r.2.2)]
      exact and_congr_left fun _ => ⟨fun q => by push_cast; omega, fun q => by push_cast at q; omega⟩
theorem QI_end (h : QI C N Z K Q A k n M) (hB : BI C N Z K Q A L) (hk : Z + N * C < (k : Int)) : smB L M = true ∧ (ctP L).1 = n := by
  have hmem : ∀ j y, 0 < y → (y ∈ L.getD j [] ↔ y ∈ M.getD j []) := fun j y hy => by
    rw [hB.2 j y hy, h.2.2 j y hy]
    exact ⟨fun q => ⟨by have := q.1; omega, q⟩, fun q => q.2⟩
  refine ⟨sm_ext hB.1 h.1 fun j _ y hy => hmem j y hy, ?_⟩
  rw [hB.1.ct, h.2.1]
  have hl : L.length = M.length := by have := hB.1.2.1; have := h.1.2.1; omega
  have : L.map lnN = M.map lnN := by
    apply List.ext_getElem?
    intro j
    rw [List.getElem?_map, List.getElem?_map]
    by_cases q : j < L.length
    · have h1 := hB.1.gD q
      have h2 := h.1.gD (j := j) (by omega)
      rw [h1, h2]
      have g1 := hB.1.gd h1
      have g2 := h.1.gd h2
      simp only [Option.map_some]
      rw [lnN_gd g1, lnN_gd g2, adr_srt g1.rng g1.dst, adr_srt g2.rng g2.dst, tgK_congr (hmem j)]
    · rw [List.getElem?_eq_none (by omega), List.getElem?_eq_none (by omega)]
  rw [this]
theorem QI_bd (h : QI C N Z K Q A k n L) : 0 ≤ n ∧ n ≤ 40000 := by have := h.1.cb; rw [h.1.ct] at this; rw [h.2.1]; exact this
theorem pl_i (hA : WA C N Z K Q A) (hk : 1 ≤ k ∧ (k : Int) ≤ Z + N * C) : (plN C N Z K Q k (A.getD k 0) = -2 ↔ A.getD k 0 = 0 ∨ caN C N Z K Q k < 0 ∨ caN C N Z K Q k = caN C N Z K Q (A.getD k 0)) ∧
    (plN C N Z K Q k (A.getD k 0) ≠ -2 → plN C N Z K Q k (A.getD k 0) = caN C N Z K Q (A.getD k 0) ∧ -1 ≤ caN C N Z K Q (A.getD k 0) ∧ caN C N Z K Q (A.getD k 0) < N) := by
  obtain ⟨w1, w2⟩ := hA.at (y := (k : Int)) (by omega)
  simp only [Int.toNat_natCast] at w1 w2
  exact pl_all (hA.pl (y := (k : Int)) (v := A.getD k 0) (by omega) w2)
theorem br_nur (hN : (X.length : Int) = N) (hp : p = -1) (h0 : 0 < N) : X ++ [adT ns s] = cgA N p s true (X ++ [ns]) := by
  subst hp
  rw [← cg_L hN (.inr ⟨by omega, by omega⟩), cg_neg (by omega), cgN_at rfl]; rfl
theorem br_car {U : List SL} {w : Value} {q : SL} (hN : (U.length : Int) = N) (h0 : 0 ≤ p ∧ p < N) (hy : U[p.toNat]? = some q) : csF (U.set p.toNat (w, adT q.2 s)) ++ [ns] = cgA N p s true (csF U ++ [ns]) := by
  rw [← cg_L (by rw [csF_len]; exact hN) (.inr ⟨by omega, by omega⟩), csF_set, cg_at (by omega) rfl (csF_at hy), cgN_no (by omega)]; rfl
theorem br_rng {x W : Int} (h : 0 < W) : 1 ≤ x % W + 1 ∧ x % W + 1 ≤ W := by have := Int.emod_nonneg x (show W ≠ 0 by omega); have := Int.emod_lt_of_pos x h; omega
theorem br_rng2 {x W : Int} (h : 0 ≤ W) : 0 ≤ x % (W + 1) ∧ x % (W + 1) ≤ W := by have := Int.emod_nonneg x (show W + 1 ≠ 0 by omega); have := Int.emod_lt_of_pos x (show 0 < W + 1 by omega); omega
theorem gd_of (h : A[k]? = some y) : y = A.getD k 0 := by rw [List.getD_eq_getElem?_getD, h]; rfl
theorem QI_len {U : List SL} (h : QI C N Z K Q A k n (csF U ++ [ns])) : (U.length : Int) = N := by have := h.1.len; rw [csF_len] at this; exact this
theorem QI_nur {U : List SL} (h : QI C N Z K Q A k n (csF U ++ [ns])) (hA : WA C N Z K Q A) (hk : 1 ≤ k ∧ (k : Int) ≤ Z + N * C) (hgd : y = A.getD k 0) (hp : plN C N Z K Q k y ≠ -2) (hc : caN C N Z K Q y < 0) : QI C N Z K Q A (k + 1) (n + 1) (csF U ++ [adT ns k]) := by
  subst hgd
  have q := QI_add h hA hk hp
  have hpi := (pl_i hA hk).2 hp
  have hr := cf_rng hA.cf
  rw [← br_nur (by rw [csF_len]; exact QI_len h) (by omega) (by omega)] at q
  exact q
theorem QI_car {U : List SL} {w : Value} {r : SL} (h : QI C N Z K Q A k n (csF U ++ [ns])) (hA : WA C N Z K Q A) (hk : 1 ≤ k ∧ (k : Int) ≤ Z + N * C) (hgd : y = A.getD k 0) (hp : plN C N Z K Q k y ≠ -2) (hc : ¬ caN C N Z K Q y < 0) (hy : U[(caN C N Z K Q y).toNat]? = some r) :
    QI C N Z K Q A (k + 1) (n + 1) (csF (U.set (caN C N Z K Q y).toNat (w, adT r.2 k)) ++ [ns]) := by
  subst hgd
  have q := QI_add h hA hk hp
  have hpi := (pl_i hA hk).2 hp
  rw [hpi.1] at q
  rw [br_car (QI_len h) (by omega) hy]
  exact q
end Go.Own.E
