import Derived.Test.YteppjefmlibmoaaPl8j
/-! Purge on the list of all sets; the law Cars -/
namespace Go.Own.E
open Go Go.Own Go.Own.R Go.Own.S
variable {C N Z K Q : Int} {X : List (List Int)} {ns c d : List Int} {L M : List (List Int)} {a b i p y : Int} {j k : Nat}
theorem nodup_sub : ∀ {l m : List Int}, l.Nodup → (∀ x ∈ l, x ∈ m) → l.length ≤ m.length
  | [], _, _, _ => by simp
  | x :: l, m, hn, hs => by
    obtain ⟨h1, h2⟩ := List.nodup_cons.1 hn
    have hx := hs x (List.mem_cons_self ..)
    have := nodup_sub (l := l) (m := m.erase x) h2 (fun y hy => (List.mem_erase_of_ne (fun e => by subst e; exact h1 hy)).2 (hs y (List.mem_cons_of_mem _ hy)))
    rw [List.length_erase_of_mem hx] at this
    have := List.length_pos_of_mem hx
    simp only [List.length_cons]; omega
def pgL (L : List (List Int)) (i a b : Int) : List (List Int) := L.mapIdx fun j c => pgF i a b j c
theorem pgL_len : (pgL L i a b).length = L.length := by unfold pgL; simp
theorem pgL_at (h : L[j]? = some c) : (pgL L i a b)[j]? = some (pgF i a b j c) := by unfold pgL; rw [List.getElem?_mapIdx, h]; rfl
theorem pgL_of (h : (pgL L i a b)[j]? = some d) : ∃ c, L[j]? = some c ∧ d = pgF i a b j c := by
  unfold pgL at h; rw [List.getElem?_mapIdx] at h
  cases e : L[j]? with
  | none => rw [e] at h; cases h
  | some c => rw [e] at h; exact ⟨c, rfl, (Option.some.inj h).symm⟩
theorem pg_app (h : (X.length : Int) ≠ i) : pgC X i a b ++ [pgT ns a b] = pgL (X ++ [ns]) i a b := by
  apply List.ext_getElem?
  intro j
  by_cases q : j < X.length
  · rw [List.getElem?_append_left (by rw [pgC_len]; exact q)]
    have hx := List.getElem?_eq_getElem q
    rw [pgL_at (ap_row hx), pgC_at hx rfl]
  · by_cases q2 : j = X.length
    · subst q2
      rw [pgL_at (ap_end rfl), List.getElem?_append_right (by rw [pgC_len]; omega), pgC_len, Nat.sub_self]
      unfold pgF; rw [if_neg h]; rfl
    · rw [List.getElem?_eq_none (by simp [pgC_len]; omega), List.getElem?_eq_none (by rw [pgL_len]; simp; omega)]
theorem r8_gd : Gd (List.replicate 8 (0 : Int)) := ck_iff.1 (by decide +kernel)
theorem r8_mem (hy : 0 < y) : y ∉ List.replicate 8 (0 : Int) := fun q => by have := (List.mem_replicate.1 q).2; omega
theorem pgT_gd (g : Gd c) : pgT c a b = c.map (pg1 a b) := by unfold pgT; rw [if_neg (by have := ck_gd g; omega)]
theorem pgN_gd (g : Gd c) : pgN c a b = (c.countP (pgB a b) : Nat) := by unfold pgN; rw [if_neg (by have := ck_gd g; omega)]
theorem pgF_gd (g : Gd c) : Gd (pgF i a b j c) ∧ (∀ y, 0 < y → (y ∈ pgF i a b j c ↔ (j : Int) ≠ i ∧ y ∈ c ∧ ¬ (a ≤ y ∧ y < b))) ∧ lnN (pgF i a b j c) + (if (j : Int) = i then lnN c else pgN c a b) = lnN c := by
  unfold pgF
  by_cases e : (j : Int) = i
  · rw [if_pos e, if_pos e]
    refine ⟨r8_gd, fun y hy => ⟨fun q => absurd q (r8_mem hy), fun q => absurd e q.1⟩, ?_⟩
    rw [lnN_gd r8_gd, zer_adr]; simp
  · rw [if_neg e, if_neg e, pgT_gd g]
    obtain ⟨g1, g2⟩ := pg_good g a b
    have h1 := (pg_cnt a b c).1
    refine ⟨g1, fun y hy => by rw [g2 y hy]; exact ⟨fun q => ⟨e, q⟩, fun q => q.2⟩, ?_⟩
    rw [lnN_gd g1, lnN_gd g, pgN_gd g]; omega
theorem VL_pg (h : VL C N Z K Q L) : VL C N Z K Q (pgL L i a b) := by
  refine ⟨h.1, by rw [pgL_len]; exact h.2.1, fun j d hj => ?_⟩
  obtain ⟨c, hc, rfl⟩ := pgL_of hj
  obtain ⟨g, hm⟩ := wr_iff.1 (h.2.2 j c hc)
  obtain ⟨g1, g2, _⟩ := pgF_gd (i := i) (a := a) (b := b) (j := j) g
  exact wr_iff.2 ⟨g1, fun y hy hy2 => hm y hy ((g2 y hy).1 hy2).2.1⟩
theorem mem_pg (h : VL C N Z K Q L) (hi : -1 ≤ i ∧ i < N) (hj : j < L.length) (hy : 0 < y) :
    y ∈ (pgL L i (spA C N Z K Q i) (spB C N Z K Q i)).getD j [] ↔ (j : Int) ≠ i ∧ y ∈ L.getD j [] ∧ caN C N Z K Q y ≠ i := by
  have hL := h.gD hj
  rw [gD_at (pgL_at hL), (pgF_gd (h.gd hL)).2.1 y hy]
  refine and_congr_right fun _ => and_congr_right fun hm => ?_
  obtain ⟨q1, _, _⟩ := (wr_iff.1 (h.2.2 j _ hL)).2 y hy hm
  rw [(sp_ca q1 hi).2]
theorem pg_sum (h : VL C N Z K Q L) : ∀ k, k ≤ L.length → ((L.take k).map lnN).sum = (((pgL L i a b).take k).map lnN).sum + psm (pnF L i a b) k
  | 0, _ => by simp [psm]
  | k + 1, hk => by
    have hL := h.gD (j := k) (by omega)
    rw [← tkC hL, ← tkC (pgL_at hL)]
    simp only [List.map_append, List.sum_append, List.map_cons, List.map_nil, List.sum_cons, List.sum_nil, psm]
    rw [pg_sum h k (by omega)]
    have := (pgF_gd (i := i) (a := a) (b := b) (j := k) (h.gd hL)).2.2
    unfold pnF; omega
theorem psm_ge {f : Nat → Int} (hf : ∀ j, 0 ≤ f j) : ∀ {k j : Nat}, j < k → f j ≤ psm f k
  | k + 1, j, h => by
    simp only [psm]
    have h0 : ∀ m, 0 ≤ psm f m := fun m => by
      induction m with
      | zero => simp [psm]
      | succ m ih => simp only [psm]; have := hf m; omega
    by_cases e : j = k
    · subst e; have := h0 j; omega
    · have := psm_ge hf (k := k) (j := j) (by omega); have := hf k; omega
theorem rg_mem {x : Int} (h : x ∈ rgT c a b) : x ∈ lsT c ∧ a ≤ x ∧ x < b := by
  unfold rgT fl at h
  obtain ⟨h1, h2⟩ := List.mem_filter.1 h
  refine ⟨h1, ?_⟩
  simp at h2; omega
theorem rg_cnt (g : Gd c) : ((rgT c a b).length : Int) = pgN c a b := by
  rw [pgN_gd g]
  have h := ck_gd g
  have e5 : rgT c a b = fl (fun x => decide (x < a ∨ b ≤ x)) (tgK c 1600) := by unfold rgT lsT; rw [if_neg (by omega)]
  rw [e5, ← srt_eq g.rng g.dst]
  have hp : (sortL (c.filter fun x => decide (0 < x))).Perm (c.filter fun x => decide (0 < x)) := List.mergeSort_perm _ _
  unfold fl
  rw [(hp.filter _).length_eq, List.filter_filter, ← List.countP_eq_length_filter]
  congr 1
  refine List.countP_congr fun x _ => ?_
  unfold pgB; simp; omega
theorem fr_len (h : VL C N Z K Q L) (hi : 0 ≤ i ∧ i < N) : ∀ k, k ≤ L.length → ((frD C N Z K Q (L.take k) i).length : Int) ≤ psm (pnF L i (spA C N Z K Q i) (spB C N Z K Q i)) k
  | 0, _ => by simp [psm, frD]
  | k + 1, hk => by
    have hL := h.gD (j := k) (by omega)
    have ih := fr_len h hi k (by omega)
    rw [← frD_step hL, List.length_append]
    simp only [psm]
    have hg := h.gd hL
    have hc := rg_cnt (a := spA C N Z K Q i) (b := spB C N Z K Q i) hg
    by_cases e : (k : Int) = i
    · rw [pnF_car e]
      have hz : rgT (L.getD k []) (spA C N Z K Q i) (spB C N Z K Q i) = [] := by
        refine List.eq_nil_iff_forall_not_mem.2 fun x hx => ?_
        obtain ⟨m1, m2⟩ := rg_mem hx
        obtain ⟨m3, m4⟩ := (ls_mem (ck_gd hg)).1 m1
        obtain ⟨q1, _, q3⟩ := (wr_iff.1 (h.2.2 k _ hL)).2 x m3 m4
        have := (sp_ca q1 (i := i) (by omega)).2.1 m2
        unfold nI at q3; rw [if_pos (by omega)] at q3; omega
      rw [hz]; have := (lnN_bd (L.getD k [])).1
      simp only [List.length_nil]; push_cast; omega
    · rw [pnF_no e, ← hc]; push_cast; omega
/-- what one Purge says. -/
theorem cars_1 (h : VL C N Z K Q (X ++ [ns])) (hi : 0 ≤ i ∧ i < N) :
    frE C N Z K Q X ns i = 0 ∧ itE X i = 0 ∧ VL C N Z K Q (prC C N Z K Q X ns i ++ [prN C N Z K Q X ns i]) ∧
    (ctP (X ++ [ns])).1 = (ctP (prC C N Z K Q X ns i ++ [prN C N Z K Q X ns i])).1 + prS C N Z K Q X ns i ∧
    (∀ j y, j < (X ++ [ns]).length → 0 < y → (y ∈ (prC C N Z K Q X ns i ++ [prN C N Z K Q X ns i]).getD j [] ↔ (j : Int) ≠ i ∧ y ∈ (X ++ [ns]).getD j [] ∧ caN C N Z K Q y ≠ i)) ∧
    ((itT X i).length : Int) ≤ prS C N Z K Q X ns i ∧ ((frT C N Z K Q X ns i).length : Int) ≤ prS C N Z K Q X ns i := by
  have e0 : frE C N Z K Q X ns i = 0 := fr_e0 (rm_of h) (by omega)
  have hl := h.len
  have hk : i.toNat < X.length := by omega
  have hx := List.getElem?_eq_getElem hk
  obtain ⟨t1, t2⟩ := it_ok (X := X) (i := i) (by omega) rfl hx
  have hgi := h.gd (ap_row (ns := ns) hx)
  obtain ⟨p1, p2, p3⟩ := pr_ok e0
  have hap : prC C N Z K Q X ns i ++ [prN C N Z K Q X ns i] = pgL (X ++ [ns]) i (spA C N Z K Q i) (spB C N Z K Q i) := by rw [p1, p2, pg_app (by omega)]
  have hV : VL C N Z K Q (prC C N Z K Q X ns i ++ [prN C N Z K Q X ns i]) := by rw [hap]; exact VL_pg h
  have hlen : (X ++ [ns]).length = X.length + 1 := by simp
  have hs := pg_sum (i := i) (a := spA C N Z K Q i) (b := spB C N Z K Q i) h (X ++ [ns]).length (Nat.le_refl _)
  rw [List.take_of_length_le (Nat.le_refl _), List.take_of_length_le (by rw [pgL_len]; exact Nat.le_refl _), hlen, ← p3] at hs
  have hf := fr_len h hi (X ++ [ns]).length (Nat.le_refl _)
  rw [List.take_of_length_le (Nat.le_refl _), hlen, ← p3] at hf
  refine ⟨e0, by rw [t1]; exact ck_gd hgi, hV, by rw [h.ct, hV.ct, hap]; exact hs, fun j y hj hy => by rw [hap]; exact mem_pg h (by omega) hj hy, ?_, ?_⟩
  · rw [t2, p3]
    have hnn : ∀ j, 0 ≤ pnF (X ++ [ns]) i (spA C N Z K Q i) (spB C N Z K Q i) j := fun j => (pnF_bd _ _ _ _ j).1
    have := psm_ge hnn (k := X.length + 1) (j := i.toNat) (by omega)
    rw [pnF_car (by omega), gD_ap hx, lnN_gd hgi, adr_srt hgi.rng hgi.dst] at this
    have e : lsT X[i.toNat] = tgK X[i.toNat] 1600 := by unfold lsT; rw [if_neg (by have := ck_gd hgi; omega)]
    rw [e]; exact this
  · rw [frT_ok e0]
    have : (tgK (frD C N Z K Q (X ++ [ns]) i) 1600).length ≤ (frD C N Z K Q (X ++ [ns]) i).length := nodup_sub (tgK_nodup _ _) fun x hx => (tgK_mem.1 hx).2.2
    omega
theorem cars_2 (h : VL C N Z K Q (X ++ [ns])) (hi : 0 ≤ i ∧ i < N) :
    itT (prC C N Z K Q X ns i) i = [] ∧ frT C N Z K Q (prC C N Z K Q X ns i) (prN C N Z K Q X ns i) i = [] := by
  obtain ⟨e0, _, hV, _, hm, _⟩ := cars_1 h hi
  have hl := h.len
  have hl2 := hV.len
  have e1 : frE C N Z K Q (prC C N Z K Q X ns i) (prN C N Z K Q X ns i) i = 0 := fr_e0 (rm_of hV) (by omega)
  have hno : ∀ c ∈ prC C N Z K Q X ns i ++ [prN C N Z K Q X ns i], ∀ x ∈ lsT c, caN C N Z K Q x ≠ i ∧ caE C N Z K Q x = 0 := fun c hc x hx => by
    obtain ⟨j, hj⟩ := List.mem_iff_getElem?.1 hc
    have hg := hV.gd hj
    obtain ⟨m1, m2⟩ := (ls_mem (ck_gd hg)).1 hx
    have hjl := (List.getElem?_eq_some_iff.1 hj).1
    have q := (hm j x (by simp at hjl ⊢; omega) m1).1 (by rw [gD_at hj]; exact m2)
    exact ⟨q.2.2, ((wr_iff.1 (hV.2.2 j c hj)).2 x m1 m2).1⟩
  have hk : i.toNat < (prC C N Z K Q X ns i).length := by omega
  have hx := List.getElem?_eq_getElem hk
  constructor
  · obtain ⟨_, t2⟩ := it_ok (X := prC C N Z K Q X ns i) (i := i) (by omega) rfl hx
    rw [t2]
    refine List.eq_nil_iff_forall_not_mem.2 fun x hxm => ?_
    have hj := ap_row (ns := prN C N Z K Q X ns i) hx
    have hg := hV.gd hj
    obtain ⟨m1, m2⟩ := (ls_mem (ck_gd hg)).1 hxm
    have q := (hm i.toNat x (by simp; omega) m1).1 (by rw [gD_at hj]; exact m2)
    exact q.1 (by omega)
  · rw [frT_ok e1]
    refine List.eq_nil_iff_forall_not_mem.2 fun x hxm => ?_
    have hd := (tgK_mem.1 hxm).2.2
    unfold frD at hd
    obtain ⟨c, hc, hxc⟩ := List.mem_flatMap.1 hd
    obtain ⟨m1, m2⟩ := rg_mem hxc
    obtain ⟨q1, q2⟩ := hno c hc x m1
    exact q1 ((sp_ca q2 (i := i) (by omega)).2.1 m2)
theorem VL_new (h : cfE C N Z K Q = 0) : VL C N Z K Q (nwC C N Z K Q ++ [nwN C N Z K Q]) ∧ ∀ j y, 0 < y → y ∉ (nwC C N Z K Q ++ [nwN C N Z K Q]).getD j [] := by
  obtain ⟨h1, h2⟩ := nw_k h
  have hr := cf_rng h
  have e : nwC C N Z K Q ++ [nwN C N Z K Q] = List.replicate (N.toNat + 1) (List.replicate 8 (0 : Int)) := by rw [h1, h2]; exact List.replicate_succ'.symm
  rw [e]
  refine ⟨⟨h, by simp; omega, fun j c hj => ?_⟩, fun j y hy hm => ?_⟩
  · have := (List.mem_replicate.1 (List.mem_of_getElem? hj)).2
    subst this
    exact wr_iff.2 ⟨r8_gd, fun y hy hm => absurd hm (r8_mem hy)⟩
  · rw [List.getD_eq_getElem?_getD] at hm
    cases q : (List.replicate (N.toNat + 1) (List.replicate 8 (0 : Int)))[j]? with
    | none => rw [q] at hm; simp at hm
    | some c =>
      rw [q] at hm
      have := (List.mem_replicate.1 (List.mem_of_getElem? q)).2
      subst this
      exact r8_mem hy hm
theorem cars_end (h : VL C N Z K Q (X ++ [ns])) (hz : ∀ j y, 0 < y → y ∈ (X ++ [ns]).getD j [] → N ≤ caN C N Z K Q y) : (ctP (X ++ [ns])).1 = 0 ∧ smB (X ++ [ns]) (nwC C N Z K Q ++ [nwN C N Z K Q]) = true := by
  have hno : ∀ j y, j < (X ++ [ns]).length → 0 < y → y ∉ (X ++ [ns]).getD j [] := fun j y hj hy hm => by
    have h1 := hz j y hy hm
    have hL := h.gD hj
    have := ca_rng ((wr_iff.1 (h.2.2 j _ hL)).2 y hy hm).1
    omega
  obtain ⟨v, hv⟩ := VL_new h.1
  refine ⟨?_, sm_ext h v fun j hj y hy => ⟨fun q => absurd q (hno j y hj hy), fun q => absurd q (hv j y hy)⟩⟩
  rw [h.ct]
  have hall : ∀ c ∈ X ++ [ns], lnN c = 0 := fun c hc => by
    obtain ⟨j, hj⟩ := List.mem_iff_getElem?.1 hc
    have hg := h.gd hj
    rw [lnN_gd hg, adr_srt hg.rng hg.dst]
    have : tgK c 1600 = [] := List.eq_nil_iff_forall_not_mem.2 fun x hx => by
      obtain ⟨q1, _, q3⟩ := tgK_mem.1 hx
      exact hno j x (List.getElem?_eq_some_iff.1 hj).1 (by omega) (by rw [gD_at hj]; exact q3)
    rw [this]; rfl
  have : ∀ l : List (List Int), (∀ c ∈ l, lnN c = 0) → (l.map lnN).sum = 0 := fun l => by
    induction l with
    | nil => simp
    | cons c r ih => intro hh; simp only [List.map_cons, List.sum_cons]; rw [hh c (List.mem_cons_self ..), ih fun d hd => hh d (List.mem_cons_of_mem _ hd)]; rfl
  exact this _ hall
theorem gD_lt (h : y ∈ L.getD j []) : j < L.length := by
  apply Classical.byContradiction; intro q
  rw [List.getD_eq_getElem?_getD, List.getElem?_eq_none (by omega)] at h; simp at h
theorem cars_z0 (h : VL C N Z K Q L) : ∀ j y, 0 < y → y ∈ L.getD j [] → (((0 : Nat) : Nat) : Int) ≤ caN C N Z K Q y := fun j y hy hm => by
  have := ((wr_iff.1 (h.2.2 j _ (h.gD (gD_lt hm)))).2 y hy hm).2.1
  omega
theorem cars_zs (h : VL C N Z K Q (X ++ [ns])) (hi : (0 : Int) ≤ (k : Int) ∧ (k : Int) < N) (hz : ∀ j y, 0 < y → y ∈ (X ++ [ns]).getD j [] → (k : Int) ≤ caN C N Z K Q y) :
    ∀ j y, 0 < y → y ∈ (prC C N Z K Q X ns k ++ [prN C N Z K Q X ns k]).getD j [] → ((k + 1 : Nat) : Int) ≤ caN C N Z K Q y := fun j y hy hm => by
  obtain ⟨_, _, hV, _, h5, _⟩ := cars_1 h hi
  have hj := gD_lt hm
  have hl := h.len
  have hl2 := hV.len
  have q := (h5 j y (by simp at hj ⊢; omega) hy).1 hm
  have := hz j y hy q.2.1
  omega
theorem cars_3 (h : VL C N Z K Q (X ++ [ns])) (hi : 0 ≤ i ∧ i < N) : frE C N Z K Q (prC C N Z K Q X ns i) (prN C N Z K Q X ns i) i = 0 ∧ itE (prC C N Z K Q X ns i) i = 0 ∧ (rmP C N Z K Q (prC C N Z K Q X ns i) (prN C N Z K Q X ns i)).2 = 0 := by
  have hV := (cars_1 h hi).2.2.1
  have q := cars_1 hV hi
  exact ⟨q.1, q.2.1, rm_of hV⟩
end Go.Own.E
