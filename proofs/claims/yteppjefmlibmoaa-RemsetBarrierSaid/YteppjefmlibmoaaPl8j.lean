import Derived.Test.YteppjefmlibmoaaPl8h
/-! remembered sets as one list, the nursery's last: what a change does to it -/
namespace Go.Own.E
open Go Go.Own Go.Own.R Go.Own.S
variable {C N Z K Q : Int} {X : List (List Int)} {ns c d : List Int} {L M : List (List Int)} {a slot p : Int} {add : Bool}
theorem stf_gd (h : chE c a = 0) : Gd (stF add c a) ∧ (∀ y, 0 < y → (y ∈ stF add c a ↔ if y = a then add = true else y ∈ c)) ∧
    ((adr (stF add c a) : Nat) : Int) = (adr c : Nat) + (if add then (if a ∈ c then 0 else 1) else if a ∈ c then -1 else 0) := by
  obtain ⟨g, hr⟩ := ch0 h
  have hf := fnd_mem g.toGw (a := a) (by omega)
  by_cases q : a ∈ c
  · have h0 := hf.1.2 q
    cases add
    · have e : stF false c a = c.set (fnd c a).toNat (-1) := by unfold stF drT drpT; rw [if_neg (by simp), if_neg (by simpa using h), if_pos h0]
      obtain ⟨d1, d2, d3, _⟩ := drop_at' g (a := a) (by omega) (hf.2.2.1 h0)
      rw [e]
      refine ⟨d1, fun y hy => by rw [d2 y hy]; split <;> rename_i r <;> simp [r], ?_⟩
      simp only [Bool.false_eq_true, if_false, if_pos q]; omega
    · have e : stF true c a = c := by unfold stF adT; rw [if_pos rfl, if_neg (by simpa using h), if_pos h0]
      rw [e]
      refine ⟨g, fun y hy => by split <;> rename_i r <;> simp [r, q], ?_⟩
      simp only [if_true, if_pos q]; omega
  · have h0 : ¬ 0 ≤ fnd c a := fun r => q (hf.1.1 r)
    cases add
    · have e : stF false c a = c := by unfold stF drT drpT; rw [if_neg (by simp), if_neg (by simpa using h), if_neg h0]
      rw [e]
      refine ⟨g, fun y hy => by split <;> rename_i r <;> simp [r, q], ?_⟩
      simp only [Bool.false_eq_true, if_false, if_neg q]; omega
    · have e : stF true c a = addT c a := by unfold stF adT; rw [if_pos rfl, if_neg (by simpa using h), if_neg h0]
      obtain ⟨g1, g2, g3, _⟩ := add_good g (a := a) (by omega) q
      rw [e]
      refine ⟨g1, fun y hy => by rw [g2 y hy]; split <;> rename_i r <;> simp [r], ?_⟩
      simp only [if_true, if_neg q]; omega
theorem ck_gd (g : Gd c) : (ckS c).2 = 0 := ck_iff.2 g
theorem lnN_gd (g : Gd c) : lnN c = (adr c : Nat) := by unfold lnN; rw [if_neg (by have := ck_gd g; omega)]
theorem wr_iff {i : Int} : wrE C N Z K Q c i = 0 ↔ Gd c ∧ ∀ a, 0 < a → a ∈ c → caE C N Z K Q a = 0 ∧ 0 ≤ caN C N Z K Q a ∧ caN C N Z K Q a ≠ i := by
  constructor
  · intro h
    obtain ⟨h1, h2⟩ := wr_0 h
    exact ⟨ck_iff.1 h1, fun a ha hm => h2 a ((ls_mem h1).2 ⟨ha, hm⟩)⟩
  · rintro ⟨g, h⟩
    refine wr_ok (ck_gd g) fun a ha => bdA_F ?_
    obtain ⟨q1, q2⟩ := (ls_mem (ck_gd g)).1 ha
    have := h a q1 q2
    omega
def nI (N : Int) (j : Nat) : Int := if (j : Int) < N then j else -1
def VL (C N Z K Q : Int) (L : List (List Int)) : Prop := cfE C N Z K Q = 0 ∧ (L.length : Int) = N + 1 ∧ ∀ j c, L[j]? = some c → wrE C N Z K Q c (nI N j) = 0
theorem ap_at {j : Nat} (h : (X ++ [ns])[j]? = some c) : (j < X.length ∧ X[j]? = some c) ∨ (j = X.length ∧ c = ns) := by
  by_cases q : j < X.length
  · rw [List.getElem?_append_left q] at h; exact .inl ⟨q, h⟩
  · rw [List.getElem?_append_right (by omega)] at h
    have hj : j - X.length = 0 := by
      have := (List.getElem?_eq_some_iff.1 h).1; simp at this; omega
    rw [hj] at h; exact .inr ⟨by omega, (Option.some.inj h).symm⟩
theorem VL_iff : (rmP C N Z K Q X ns).2 = 0 ↔ VL C N Z K Q (X ++ [ns]) := by
  rw [rm_iff]
  constructor
  · rintro ⟨h1, h2, h3⟩
    refine ⟨h1, by simp; omega, fun j c hj => ?_⟩
    rcases ap_at hj with ⟨q, hq⟩ | ⟨q, rfl⟩
    · have := h3 _ (List.mem_of_getElem? (alC_at (ns := ns) hq))
      unfold nI; rw [if_pos (by omega)]; exact this
    · have := h3 _ (List.mem_of_getElem? (alC_end (ns := c) q))
      unfold nI; rw [if_neg (by omega)]; exact this
  · rintro ⟨h1, h2, h3⟩
    have hl : (X.length : Int) = N := by simp at h2; omega
    refine ⟨h1, hl, fun y hy => ?_⟩
    rcases alC_mem hy with ⟨e1, e2⟩ | ⟨e1, e2, e3⟩
    · have := h3 X.length ns (by rw [List.getElem?_append_right (Nat.le_refl _), Nat.sub_self]; rfl)
      unfold nI at this; rw [if_neg (by omega)] at this; rw [e1, e2]; exact this
    · have hk := (List.getElem?_eq_some_iff.1 e3).1
      have := h3 y.1.toNat y.2 (by rw [List.getElem?_append_left hk]; exact e3)
      unfold nI at this; rw [if_pos (by omega)] at this
      rw [show y.1 = ((y.1.toNat : Nat) : Int) by omega]; exact this
theorem VL.gd (h : VL C N Z K Q L) {j : Nat} (hy : L[j]? = some c) : Gd c := (wr_iff.1 (h.2.2 j c hy)).1
theorem VL.gD (h : VL C N Z K Q L) {j : Nat} (hj : j < L.length) : L[j]? = some (L.getD j []) := by rw [List.getD_eq_getElem?_getD, List.getElem?_eq_getElem hj]; rfl
def jx (N p : Int) : Nat := if p < 0 then N.toNat else p.toNat
def cgA (N p slot : Int) (add : Bool) (L : List (List Int)) : List (List Int) := if p = -2 then L else L.set (jx N p) (stF add (L.getD (jx N p) []) slot)
theorem cgA_len : (cgA N p slot add L).length = L.length := by unfold cgA; split <;> simp
theorem jx_lt (hl : (L.length : Int) = N + 1) (hp : -1 ≤ p ∧ p < N) : jx N p < L.length := by unfold jx; split <;> omega
theorem nI_jx (hp : -1 ≤ p ∧ p < N) : nI N (jx N p) = p := by unfold nI jx; split <;> split <;> omega
theorem cg_L (hN : (X.length : Int) = N) (hp : p = -2 ∨ (-1 ≤ p ∧ p < N)) : cgC X p slot add ++ [cgN ns p slot add] = cgA N p slot add (X ++ [ns]) := by
  rcases hp with rfl | ⟨h1, h2⟩
  · rw [cg_neg (by omega), cgN_no (by omega)]; unfold cgA; rw [if_pos rfl]
  · by_cases q : p = -1
    · subst q
      have hj : jx N (-1) = X.length := by unfold jx; rw [if_pos (by omega)]; omega
      rw [cg_neg (by omega), cgN_at rfl]; unfold cgA; rw [if_neg (by omega), hj, List.set_append_right _ _ (Nat.le_refl _), Nat.sub_self]
      have : (X ++ [ns]).getD X.length [] = ns := by rw [List.getD_eq_getElem?_getD, List.getElem?_append_right (Nat.le_refl _), Nat.sub_self]; rfl
      rw [this]; rfl
    · have hj : jx N p = p.toNat := by unfold jx; rw [if_neg (by omega)]
      have hk : p.toNat < X.length := by omega
      rw [cgN_no q, cg_at (by omega) rfl (List.getElem?_eq_getElem hk)]; unfold cgA; rw [if_neg (by omega), hj, List.set_append_left _ _ hk, gD_ap (List.getElem?_eq_getElem hk)]
theorem VL_cg (h : VL C N Z K Q L) (hs : caE C N Z K Q slot = 0) (h0 : 0 ≤ caN C N Z K Q slot) (hp : p = -2 ∨ ((-1 ≤ p ∧ p < N) ∧ caN C N Z K Q slot ≠ p)) : VL C N Z K Q (cgA N p slot add L) := by
  rcases hp with rfl | ⟨hr, hn⟩
  · unfold cgA; rw [if_pos rfl]; exact h
  · refine ⟨h.1, by rw [cgA_len]; exact h.2.1, fun j c hj => ?_⟩
    unfold cgA at hj; rw [if_neg (by omega)] at hj
    have hlt := jx_lt h.2.1 hr
    by_cases e : jx N p = j
    · subst e
      rw [List.getElem?_set_self hlt] at hj
      obtain rfl := Option.some.inj hj
      obtain ⟨g, hm⟩ := wr_iff.1 (h.2.2 _ _ (h.gD hlt))
      obtain ⟨q0, q1, q2, q3⟩ := ca_0 hs
      obtain ⟨s1, s2, _⟩ := stf_gd (add := add) (chE_ok (a := slot) (c := L.getD (jx N p) []) (by have := ck_gd g; omega) ⟨q1, q3⟩)
      refine wr_iff.2 ⟨s1, fun y hy hy2 => ?_⟩
      have := (s2 y hy).1 hy2
      by_cases ey : y = slot
      · subst ey; rw [nI_jx hr]; exact ⟨hs, h0, hn⟩
      · rw [if_neg ey] at this; exact hm y hy this
    · rw [List.getElem?_set_ne e] at hj; exact h.2.2 j c hj
theorem sm_ext (hL : VL C N Z K Q L) (hM : VL C N Z K Q M) (h : ∀ j, j < L.length → ∀ y, 0 < y → (y ∈ L.getD j [] ↔ y ∈ M.getD j [])) : smB L M = true := by
  have hl : L.length = M.length := by have := hL.2.1; have := hM.2.1; omega
  refine smB_ok (k := L.length) hl (Nat.le_refl _) fun j hj => ?_
  have g1 := hL.gd (hL.gD hj)
  have g2 := hM.gd (hM.gD (j := j) (by omega))
  refine smQ_T ⟨ck_gd g1, ck_gd g2, ?_⟩
  unfold lsT; rw [if_neg (by have := ck_gd g1; omega), if_neg (by have := ck_gd g2; omega)]
  exact tgK_congr (h j hj)
theorem ct_sum : ∀ {L : List (List Int)} {n : Int}, (∀ c ∈ L, (ckS c).2 = 0) → ctGo n L = (n + (L.map lnN).sum, 0)
  | [], n, _ => by simp [ctGo]
  | c :: r, n, h => by
    rw [ctGo, if_neg (by have := h c (List.mem_cons_self ..); omega), ct_sum fun d hd => h d (List.mem_cons_of_mem _ hd)]
    simp only [List.map_cons, List.sum_cons]; rw [Int.add_assoc]
theorem VL.ct (h : VL C N Z K Q L) : ctP L = ((L.map lnN).sum, 0) := by
  unfold ctP
  rw [ct_sum fun c hc => ?_, Int.zero_add]
  obtain ⟨j, hj⟩ := List.mem_iff_getElem?.1 hc
  exact ck_gd (h.gd hj)
theorem sum_set : ∀ {L : List (List Int)} {j : Nat} {c d : List Int}, L[j]? = some c → ((L.set j d).map lnN).sum = (L.map lnN).sum - lnN c + lnN d
  | [], j, c, d, h => by simp at h
  | x :: r, 0, c, d, h => by
    simp only [List.getElem?_cons_zero, Option.some.injEq] at h; subst h
    simp only [List.set_cons_zero, List.map_cons, List.sum_cons]; omega
  | x :: r, j + 1, c, d, h => by
    simp only [List.getElem?_cons_succ] at h
    simp only [List.set_cons_succ, List.map_cons, List.sum_cons]
    rw [sum_set h]; omega
theorem cgA_at (hl : (L.length : Int) = N + 1) (hr : -1 ≤ p ∧ p < N) : (cgA N p slot add L).getD (jx N p) [] = stF add (L.getD (jx N p) []) slot := by
  unfold cgA; rw [if_neg (by omega), List.getD_eq_getElem?_getD, List.getElem?_set_self (jx_lt hl hr)]; rfl
theorem cgA_ne {j : Nat} (h : p = -2 ∨ j ≠ jx N p) : (cgA N p slot add L).getD j [] = L.getD j [] := by
  unfold cgA; split
  · rfl
  · rw [List.getD_eq_getElem?_getD, List.getElem?_set_ne (by rcases h with h | h <;> omega), List.getD_eq_getElem?_getD]
/-- the members of a set behind a change. -/
theorem cgA_mem (h : VL C N Z K Q L) (hs : caE C N Z K Q slot = 0) (hp : p = -2 ∨ (-1 ≤ p ∧ p < N)) {j : Nat} {y : Int} (hy : 0 < y) :
    y ∈ (cgA N p slot add L).getD j [] ↔ if p ≠ -2 ∧ j = jx N p ∧ y = slot then add = true else y ∈ L.getD j [] := by
  by_cases q : p ≠ -2 ∧ j = jx N p
  · obtain ⟨q1, rfl⟩ := q
    have hr : -1 ≤ p ∧ p < N := by omega
    have hlt := jx_lt h.2.1 hr
    obtain ⟨q0, q2, _, q3⟩ := ca_0 hs
    have g := h.gd (h.gD hlt)
    rw [cgA_at h.2.1 hr, (stf_gd (add := add) (chE_ok (a := slot) (c := L.getD (jx N p) []) (by have := ck_gd g; omega) ⟨q2, q3⟩)).2.1 y hy]
    by_cases e : y = slot
    · rw [if_pos e, if_pos ⟨q1, rfl, e⟩]
    · rw [if_neg e, if_neg (fun r => e r.2.2)]
  · rw [cgA_ne (by by_cases r : p = -2 <;> simp [r] at q ⊢; exact q), if_neg (fun r => q ⟨r.1, r.2.1⟩)]
/-- the count behind a record. -/
theorem cgA_cnt (h : VL C N Z K Q L) (hs : caE C N Z K Q slot = 0) (hp : p = -2 ∨ (-1 ≤ p ∧ p < N)) :
    ((cgA N p slot true L).map lnN).sum = (L.map lnN).sum + (if p ≠ -2 ∧ slot ∉ L.getD (jx N p) [] then 1 else 0) := by
  rcases hp with rfl | hr
  · unfold cgA; simp
  · have hlt := jx_lt h.2.1 hr
    obtain ⟨q0, q2, _, q3⟩ := ca_0 hs
    have g := h.gd (h.gD hlt)
    obtain ⟨s1, _, s3⟩ := stf_gd (add := true) (chE_ok (a := slot) (c := L.getD (jx N p) []) (by have := ck_gd g; omega) ⟨q2, q3⟩)
    unfold cgA; rw [if_neg (by omega), sum_set (h.gD hlt), lnN_gd g, lnN_gd s1, s3]
    simp only [if_true]
    by_cases e : slot ∈ L.getD (jx N p) []
    · rw [if_pos e, if_neg (fun r => r.2 e)]; omega
    · rw [if_neg e, if_pos ⟨by omega, e⟩]; omega
end Go.Own.E

/-! has; the laws Others and Back -/
namespace Go.Own.E
open Go Go.Own Go.Own.R Go.Own.S
variable {C N Z K Q : Int} {X : List (List Int)} {ns c d : List Int} {L M : List (List Int)} {a b slot p : Int} {add : Bool} {k : Nat}
def hasB (X : List (List Int)) (ns : List Int) (a : Int) : Bool := (X ++ [ns]).any fun c => hsB c a
theorem sum_bd : ∀ L : List (List Int), 0 ≤ (L.map lnN).sum ∧ (L.map lnN).sum ≤ 1600 * (L.length : Int)
  | [] => by simp
  | c :: r => by
    have h1 := sum_bd r
    have h2 := lnN_bd c
    simp only [List.map_cons, List.sum_cons, List.length_cons]; push_cast; omega
theorem VL.cb (h : VL C N Z K Q L) : 0 ≤ (ctP L).1 ∧ (ctP L).1 ≤ 40000 := by
  rw [h.ct]
  have h1 := sum_bd L
  have h2 := cf_rng h.1
  have h3 := h.2.1
  constructor
  · exact h1.1
  · have := h1.2; simp only; omega
def jS (U : List SL) (i : Int) : Nat := if i < 0 then U.length else i.toNat
theorem pl_all {t : Int} (h : plE C N Z K Q slot t = 0) : (plN C N Z K Q slot t = -2 ↔ t = 0 ∨ caN C N Z K Q slot < 0 ∨ caN C N Z K Q slot = caN C N Z K Q t) ∧ (plN C N Z K Q slot t ≠ -2 → plN C N Z K Q slot t = caN C N Z K Q t ∧ -1 ≤ caN C N Z K Q t ∧ caN C N Z K Q t < N) := by
  have hp := pl_rng C N Z K Q slot t
  refine ⟨⟨fun q => ?_, fun q => ?_⟩, fun q => by omega⟩
  · apply Classical.byContradiction; intro r
    have : ¬ (plE C N Z K Q slot t ≠ 0 ∨ t = 0 ∨ caN C N Z K Q slot < 0 ∨ caN C N Z K Q slot = caN C N Z K Q t) := by omega
    unfold plN at q; rw [if_neg this] at q
    have ht : caE C N Z K Q t = 0 := pl_tg h (by omega)
    have := ca_rng ht
    omega
  · unfold plN; rw [if_pos (Or.inr q)]
def pl2 (C N Z K Q : Int) (slot p : Int) : Prop := p = -2 ∨ ((-1 ≤ p ∧ p < N) ∧ caN C N Z K Q slot ≠ p)
theorem pl2_of {t : Int} (h : plE C N Z K Q slot t = 0) : pl2 C N Z K Q slot (plN C N Z K Q slot t) := by
  have hp := pl_rng C N Z K Q slot t
  unfold pl2; omega
theorem pl_car {t : Int} (h : plN C N Z K Q slot t ≠ -2) : 0 ≤ caN C N Z K Q slot := by have := pl_rng C N Z K Q slot t; omega
theorem pl2.r (h : pl2 C N Z K Q slot p) : p = -2 ∨ (-1 ≤ p ∧ p < N) := by unfold pl2 at h; omega
theorem VL_cg' (h : VL C N Z K Q L) (hs : caE C N Z K Q slot = 0) (hp : pl2 C N Z K Q slot p) (h0 : p ≠ -2 → 0 ≤ caN C N Z K Q slot) : VL C N Z K Q (cgA N p slot add L) := by
  by_cases q : p = -2
  · unfold cgA; rw [if_pos q]; exact h
  · exact VL_cg h hs (h0 q) hp
theorem VL.len (h : VL C N Z K Q (X ++ [ns])) : (X.length : Int) = N := by have := h.2.1; simp at this; omega
theorem rm_of (h : VL C N Z K Q (X ++ [ns])) : (rmP C N Z K Q X ns).2 = 0 := VL_iff.2 h
theorem cg_two {p q : Int} {x y : Bool} (hN : (X.length : Int) = N) (hp : p = -2 ∨ (-1 ≤ p ∧ p < N)) (hq : q = -2 ∨ (-1 ≤ q ∧ q < N)) : cgC (cgC X p slot x) q slot y ++ [cgN (cgN ns p slot x) q slot y] = cgA N q slot y (cgA N p slot x (X ++ [ns])) := by
  rw [cg_L (by rw [cgC_len]; exact hN) hq, cg_L hN hp]
/-- what a change makes of the list of all sets. -/
theorem ch_VL {o n : Int} (h : VL C N Z K Q (X ++ [ns])) (he : chE8 C N Z K Q X ns slot o n = 0) :
    (chC C N Z K Q X ns slot o n ++ [chN C N Z K Q X ns slot o n] = (if o = n then X ++ [ns] else cgA N (plN C N Z K Q slot n) slot true (cgA N (plN C N Z K Q slot o) slot false (X ++ [ns])))) ∧
    VL C N Z K Q (chC C N Z K Q X ns slot o n ++ [chN C N Z K Q X ns slot o n]) ∧ plE C N Z K Q slot o = 0 ∧ plE C N Z K Q slot n = 0 := by
  have hk := rm_of h
  have p1 : plE C N Z K Q slot o = 0 := by
    apply Classical.byContradiction; intro r
    rw [ch8_e2 hk r] at he; exact r he
  have p2 : plE C N Z K Q slot n = 0 := by rw [ch8_e3 hk p1] at he; exact he
  have hs := pl_slot p1
  by_cases e : o = n
  · obtain ⟨h1, h2⟩ := ch_same he e
    rw [h1, h2, if_pos e]; exact ⟨rfl, h, p1, p2⟩
  · obtain ⟨h1, h2⟩ := ch_k he e
    rw [h1, h2, if_neg e, cg_two h.len (pl2_of p1).r (pl2_of p2).r]
    exact ⟨rfl, VL_cg' (VL_cg' h hs (pl2_of p1) pl_car) hs (pl2_of p2) pl_car, p1, p2⟩
theorem ch_0 {o n : Int} (h : VL C N Z K Q (X ++ [ns])) (h1 : plE C N Z K Q slot o = 0) (h2 : plE C N Z K Q slot n = 0) : chE8 C N Z K Q X ns slot o n = 0 := by rw [ch8_e3 (rm_of h) h1]; exact h2
end Go.Own.E
