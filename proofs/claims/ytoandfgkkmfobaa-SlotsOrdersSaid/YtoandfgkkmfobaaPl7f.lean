import Derived.Test.YtoandfgkkmfobaaPl7e
namespace Go.Own.S
open Go Go.Own Go.Own.R
theorem tgK_congr {c d : List Int} {k : Nat} (h : ∀ y, 0 < y → (y ∈ c ↔ y ∈ d)) : tgK c k = tgK d k := by
  refine asc_unique (tgK_asc c k) (tgK_asc d k) fun a => ?_
  rw [tgK_mem, tgK_mem]
  exact ⟨fun q => ⟨q.1, q.2.1, (h a (by omega)).1 q.2.2⟩, fun q => ⟨q.1, q.2.1, (h a (by omega)).2 q.2.2⟩⟩
/-! Good -/
def Sz (c : List Int) : Prop := usd c = adr c ∧ (c.length = 8 ∨ 3 * c.length < 8 * adr c)
theorem add_sz {c : List Int} {a : Int} (h : Gd c) (hs : Sz c) (ha : 1 ≤ a ∧ a ≤ 1600) (hn : a ∉ c) : Sz (addT c a) := by
  obtain ⟨b1, b2, b3, b4⟩ := h.bd
  obtain ⟨p1, p2, p3, p4, p5⟩ := put_good h.toGw ha hn b4
  have hl := putT_len c a
  obtain ⟨s1, s2⟩ := hs
  have hu := p5 s1
  unfold addT
  split
  · exact ⟨hu, by omega⟩
  · rename_i hf
    have hfl := h.full
    obtain ⟨n1, n2, n3, n4⟩ := adN_bd p1 (by rw [hl]; exact h.p2) (by omega)
    obtain ⟨q1, q2, q3, q4, q5⟩ := bld_good (n := adN (putT c a)) (tgK_nodup (putT c a) 1600) tgK_rng n2
    refine ⟨by rw [q3, q4], ?_⟩
    rw [q5, q3, ← adr_srt p1.rng p1.dst]
    have : adN (putT c a) = 2 * (putT c a).length := if_pos (by omega)
    rw [this]; right; omega
theorem all_sz : ∀ (l : List Int) (c : List Int), Gd c → Sz c → (∀ x ∈ l, 1 ≤ x ∧ x ≤ 1600) → Sz (allT c l)
  | [], c, _, hs, _ => hs
  | a :: l, c, h, hs, hx => by
    have ha := hx a (by simp)
    have e : allT c (a :: l) = allT (if fnd c a < 0 then addT c a else c) l := rfl
    rw [e]
    by_cases q : fnd c a < 0
    · rw [if_pos q]
      have hn := fnd_not h ha.1 q
      exact all_sz l _ (add_good h ha hn).1 (add_sz h hs ha hn) fun x hq => hx x (List.mem_cons_of_mem _ hq)
    · rw [if_neg q]; exact all_sz l c h hs fun x hq => hx x (List.mem_cons_of_mem _ hq)
theorem sz_new : Sz (List.replicate 8 (0 : Int)) := ⟨by rw [zer_usd, zer_adr], .inl (by simp)⟩
theorem of_good {l : List Int} (h : ofE l = 0) : ofT l = allT (List.replicate 8 0) l ∧ Gd (ofT l) ∧ (ckS (ofT l)).2 = 0 ∧ lnN (ofT l) = ((adr (ofT l) : Nat) : Int) ∧ ((ofT l).length = 8 ∨ 3 * (ofT l).length < 8 * adr (ofT l)) ∧ (∀ y, 0 < y → (y ∈ ofT l ↔ y ∈ l)) := by
  obtain ⟨h1, h2⟩ := ofE_0 h
  have e : ofT l = allT (List.replicate 8 0) l := by unfold ofT; rw [if_neg (by simpa using h)]
  obtain ⟨g1, g2, g3⟩ := allT_good l _ gd_new h2
  have hc : (ckS (ofT l)).2 = 0 := by rw [e]; exact ck_iff.2 g1
  refine ⟨e, by rw [e]; exact g1, hc, by unfold lnN; rw [if_neg (by simpa using hc)], by rw [e]; exact (all_sz l _ gd_new sz_new h2).2, fun y hy => ?_⟩
  rw [e, g2 y hy]
  exact ⟨fun q => q.resolve_right (zer_no hy), .inl⟩
theorem jn_good {c d : List Int} (h : jnE c d = 0) : jnT c d = allT c (tgK d 1600) ∧ Gd c ∧ Gd d ∧ Gd (jnT c d) ∧ (ckS (jnT c d)).2 = 0 ∧ (∀ y, 0 < y → (y ∈ jnT c d ↔ y ∈ c ∨ y ∈ d)) := by
  obtain ⟨h1, h2⟩ := jn_0.1 h
  have hc := ck_iff.1 h1
  have hd := ck_iff.1 h2
  have e : jnT c d = allT c (tgK d 1600) := by unfold jnT; rw [if_neg (by simpa using h)]
  obtain ⟨g1, g2, g3⟩ := allT_good (tgK d 1600) c hc tgK_rng
  refine ⟨e, hc, hd, by rw [e]; exact g1, by rw [e]; exact ck_iff.2 g1, fun y hy => ?_⟩
  rw [e, g2 y hy, tgK_mem]
  constructor
  · rintro (q | q)
    · exact .inr q.2.2
    · exact .inl q
  · rintro (q | q)
    · exact .inr q
    · exact .inl ⟨by omega, by have := hd.rng y q; omega, q⟩
/-! Purge -/
theorem pg1_pos {f t x : Int} (h : 0 < pg1 f t x) : pg1 f t x = x ∧ ¬ (f ≤ x ∧ x < t) := by
  unfold pg1 at h ⊢
  split at h
  · omega
  · rename_i q; rw [if_neg q]; exact ⟨rfl, by omega⟩
theorem pg1_nz {f t x : Int} (h : ¬ x = 0) : ¬ pg1 f t x = 0 := by unfold pg1; split <;> omega
theorem pg_cnt (f t : Int) : ∀ c : List Int, adr (c.map (pg1 f t)) + c.countP (pgB f t) = adr c ∧ usd (c.map (pg1 f t)) = usd c
  | [] => ⟨rfl, rfl⟩
  | x :: c => by
    obtain ⟨h1, h2⟩ := pg_cnt f t c
    unfold adr at h1
    unfold usd at h2
    unfold adr usd
    simp only [List.map_cons, List.countP_cons]
    by_cases q : 0 < x ∧ f ≤ x ∧ x < t
    · have e1 : pg1 f t x = -1 := if_pos q
      have e2 : pgB f t x = true := decide_eq_true q
      have e3 : decide (x ≠ 0) = true := by simp; omega
      have e4 : decide (0 < x) = true := by simp; omega
      rw [e1, e2, e3, e4]
      simp at h1 h2 ⊢; omega
    · have e1 : pg1 f t x = x := if_neg q
      have e2 : pgB f t x = false := decide_eq_false q
      rw [e1, e2]
      simp at h1 h2 ⊢; omega
theorem pg_good {c : List Int} (h : Gd c) (f t : Int) : Gd (c.map (pg1 f t)) ∧ (∀ y, 0 < y → (y ∈ c.map (pg1 f t) ↔ y ∈ c ∧ ¬ (f ≤ y ∧ y < t))) := by
  have hg : ∀ {i : Nat} {y : Int}, (c.map (pg1 f t))[i]? = some y → 0 < y → c[i]? = some y := by
    intro i y hi hy
    rw [List.getElem?_map] at hi
    cases e : c[i]? with
    | none => rw [e] at hi; cases hi
    | some x =>
      rw [e] at hi
      have : pg1 f t x = y := Option.some.inj hi
      subst this
      rw [(pg1_pos hy).1]
  have hcl : ∀ z k, ¬ cl c z k = 0 → ¬ cl (c.map (pg1 f t)) z k = 0 := by
    intro z k q
    unfold cl at q ⊢
    rw [List.length_map]
    rw [List.getD_eq_getElem?_getD] at q ⊢
    rw [List.getElem?_map]
    cases e : c[ps c.length z k]? with
    | none => rw [e] at q; exact absurd rfl q
    | some x => rw [e] at q; exact pg1_nz q
  refine ⟨⟨⟨fun y hy => ?_, fun i j x hi hj h0 => h.dst i j x (hg hi h0) (hg hj h0) h0, fun i x hi h0 => ?_⟩, by rw [List.length_map]; exact h.p2, by rw [List.length_map, (pg_cnt f t c).2]; exact h.full⟩, fun y hy => ⟨fun q => ?_, fun q => ?_⟩⟩
  · obtain ⟨x, hx, rfl⟩ := List.mem_map.1 hy
    have := h.rng x hx
    unfold pg1; split <;> omega
  · obtain ⟨j, hj, h1, h2⟩ := h.pth i x (hg hi h0) h0
    exact ⟨j, by rw [List.length_map]; exact hj, by rw [List.length_map]; exact h1, fun k hk => hcl _ _ (h2 k hk)⟩
  · obtain ⟨x, hx, rfl⟩ := List.mem_map.1 q
    have := pg1_pos hy
    rw [this.1]; exact ⟨hx, this.2⟩
  · exact List.mem_map.2 ⟨y, q.1, by unfold pg1; rw [if_neg (by omega)]⟩
/-- no address is left, and as many cells. -/
structure Zr (n : Nat) (x : List Int) : Prop where
  gd : Gd x
  no : adr x = 0
  len : x.length = n
theorem zr_not {n : Nat} {x : List Int} (h : Zr n x) {a : Int} (ha : 0 < a) : a ∉ x := fun q => by
  have := h.no
  unfold adr at this
  rw [List.countP_eq_zero] at this
  exact this a q (by simpa using ha)
theorem zr_cyc {n : Nat} {x : List Int} (h : Zr n x) {a : Int} (ha : 1 ≤ a ∧ a ≤ 1600) : chE x a = 0 ∧ chE (adT x a) a = 0 ∧ Zr n (drT (adT x a) a) := by
  have hn := zr_not h (a := a) (by omega)
  have hc := ch_iff.2 ⟨h.gd, ha⟩
  have hf : fnd x a < 0 := by
    have := (fnd_mem h.gd.toGw (a := a) (by omega)).1
    apply Classical.byContradiction; intro q
    exact hn (this.1 (by omega))
  have e : adT x a = addT x a := by unfold adT; rw [if_neg (by simpa using hc), if_neg (by omega)]
  obtain ⟨g1, g2, g3, g4⟩ := add_good h.gd ha hn
  have hc2 : chE (adT x a) a = 0 := by rw [e]; exact ch_iff.2 ⟨g1, ha⟩
  have hin : a ∈ addT x a := (g2 a (by omega)).2 (.inl rfl)
  have hfm := fnd_mem g1.toGw (a := a) (by omega)
  have hge := hfm.1.2 hin
  obtain ⟨d1, d2, d3, d4⟩ := drop_at' g1 (by omega) (hfm.2.2.1 hge)
  have hlen : (addT x a).length = n := by
    obtain ⟨p1, p2, p3, p4, p5⟩ := put_good h.gd.toGw ha hn h.gd.bd.2.2.2
    have hl := putT_len x a
    have hb := h.gd.bd
    have := h.len
    unfold addT
    split
    · omega
    · have hfl := h.gd.full
      obtain ⟨n1, n2, n3, n4⟩ := adN_bd p1 (by rw [hl]; exact h.gd.p2) (by omega)
      obtain ⟨q1, q2, q3, q4, q5⟩ := bld_good (n := adN (putT x a)) (tgK_nodup (putT x a) 1600) tgK_rng n2
      have h0 := h.no
      have : adN (putT x a) = (putT x a).length := if_neg (by omega)
      rw [q5, this]; omega
  refine ⟨hc, hc2, ?_⟩
  have e2 : drT (adT x a) a = (addT x a).set (fnd (addT x a) a).toNat (-1) := by
    unfold drT drpT; rw [if_neg (by simpa using hc2), e, if_pos hge]
  rw [e2]
  have h0 := h.no
  exact ⟨d1, by omega, by rw [List.length_set]; exact hlen⟩
theorem zr_purge {c : List Int} (h : (ckS c).2 = 0) : Zr c.length (pgT c 1 1601) := by
  have hg := ck_iff.1 h
  have e : pgT c 1 1601 = c.map (pg1 1 1601) := by unfold pgT; rw [if_neg (by simpa using h)]
  rw [e]
  obtain ⟨g1, g2⟩ := pg_good hg 1 1601
  refine ⟨g1, ?_, by rw [List.length_map]⟩
  unfold adr
  rw [List.countP_eq_zero]
  intro x hx h0
  have h0 : 0 < x := by simpa using h0
  have := (g2 x h0).1 hx
  have := hg.rng x this.1
  omega
theorem zr_len {n : Nat} {x : List Int} (h : Zr n x) : (ckS x).2 = 0 ∧ lnN x = 0 := by
  have hc := ck_iff.2 h.gd
  refine ⟨hc, ?_⟩
  unfold lnN; rw [if_neg (by simpa using hc), h.no]; rfl
/-! Orders -/
theorem of_rev (l : List Int) : ofE l.reverse = ofE l := by
  have h : (0 ≤ idxF (fun a => !decide (1 ≤ a ∧ a ≤ 1600)) l.reverse) ↔ (0 ≤ idxF (fun a => !decide (1 ≤ a ∧ a ≤ 1600)) l) := by
    have key : ∀ l : List Int, (0 ≤ idxF (fun a => !decide (1 ≤ a ∧ a ≤ 1600)) l) ↔ ∃ x ∈ l, ¬ (1 ≤ x ∧ x ≤ 1600) := by
      intro l
      constructor
      · intro q
        obtain ⟨k, y, _, hy, hp, _⟩ := idxF_spec (p := fun a => !decide (1 ≤ a ∧ a ≤ 1600)) (l := l) (by omega)
        exact ⟨y, List.mem_of_getElem? hy, by simp at hp; omega⟩
      · rintro ⟨x, hx, hn⟩
        apply Classical.byContradiction
        intro q
        exact hn (idxO q x hx)
    rw [key, key]; simp
  unfold ofE
  rw [List.length_reverse]
  by_cases q : 4000 < l.length
  · rw [if_pos q, if_pos q]
  · rw [if_neg q, if_neg q]
    by_cases r : 0 ≤ idxF (fun a => !decide (1 ≤ a ∧ a ≤ 1600)) l
    · rw [if_pos r, if_pos (h.2 r)]
    · rw [if_neg r, if_neg (fun s => r (h.1 s))]
theorem of_lists {l : List Int} (h : ofE l = 0) : (ckS (ofT l.reverse)).2 = 0 ∧ lsT (ofT l) = lsT (ofT l.reverse) := by
  obtain ⟨_, _, a3, _, _, a6⟩ := of_good h
  obtain ⟨_, _, b3, _, _, b6⟩ := of_good (l := l.reverse) (by rw [of_rev]; exact h)
  refine ⟨b3, ?_⟩
  unfold lsT; rw [if_neg (by simpa using a3), if_neg (by simpa using b3)]
  exact tgK_congr fun y hy => by rw [a6 y hy, b6 y hy, List.mem_reverse]
def rvK (l : List Int) (i : Nat) : List Int := List.replicate (l.length - i) 0 ++ (l.take i).reverse
theorem rvK_len {l : List Int} {i : Nat} (h : i ≤ l.length) : (rvK l i).length = l.length := by unfold rvK; rw [List.length_append, List.length_replicate, List.length_reverse, List.length_take]; omega
theorem rvK_zero (l : List Int) : List.replicate l.length (0 : Int) = rvK l 0 := by simp [rvK]
theorem rvK_all {l : List Int} {i : Nat} (h : l.length ≤ i) : rvK l i = l.reverse := by unfold rvK; rw [List.take_of_length_le h, show l.length - i = 0 by omega]; simp
theorem rvK_set {l : List Int} {i : Nat} {y : Int} (hy : l[i]? = some y) {k : Nat} (hk : k = l.length - 1 - i) : (rvK l i).set k y = rvK l (i + 1) := by
  have hi := (List.getElem?_eq_some_iff.1 hy).1
  subst hk
  unfold rvK
  rw [take_snoc' l i y hy, List.reverse_append, show l.length - i = (l.length - 1 - i) + 1 by omega, show l.length - (i + 1) = l.length - 1 - i by omega, List.replicate_succ', List.append_assoc, List.set_append_right _ _ (by simp)]
  simp
theorem lsT_len (c : List Int) : (lsT c).length ≤ 1600 := by
  unfold lsT; split
  · simp
  · exact tgK_len c 1600
theorem jn_sym (c d : List Int) : jnE c d = 0 ↔ jnE d c = 0 := by rw [jn_0, jn_0]; exact and_comm
theorem jn_lists {c d : List Int} (h : jnE c d = 0) : lsT (jnT c d) = lsT (jnT d c) := by
  obtain ⟨_, _, _, _, a5, a6⟩ := jn_good h
  obtain ⟨_, _, _, _, b5, b6⟩ := jn_good ((jn_sym c d).1 h)
  unfold lsT; rw [if_neg (by simpa using a5), if_neg (by simpa using b5)]
  exact tgK_congr fun y hy => by rw [a6 y hy, b6 y hy]; exact or_comm
theorem hs_is {c : List Int} {a : Int} (h : Gd c) (ha : 1 ≤ a ∧ a ≤ 1600) : hsB c a = decide (a ∈ c) := by
  unfold hsB
  refine decide_eq_decide.2 ?_
  rw [(fnd_mem h.toGw (a := a) (by omega)).1]
  exact ⟨fun q => q.2, fun q => ⟨ch_iff.2 ⟨h, ha⟩, q⟩⟩
theorem jn_in {c d : List Int} {k : Nat} {y : Int} (h : jnE c d = 0) (hy : (lsT (jnT c d))[k]? = some y) : (1 ≤ y ∧ y ≤ 1600) ∧ (hsB c y = false → hsB d y = true) := by
  obtain ⟨_, hc, hd, _, a5, a6⟩ := jn_good h
  have hm := List.mem_of_getElem? hy
  unfold lsT at hm; rw [if_neg (by simpa using a5), tgK_mem] at hm
  have hr : 1 ≤ y ∧ y ≤ 1600 := by omega
  refine ⟨hr, fun q => ?_⟩
  rw [hs_is hc hr] at q
  rw [hs_is hd hr]
  have q : y ∉ c := by simpa using q
  simpa using ((a6 y (by omega)).1 hm.2.2).resolve_left q
theorem part_of {c : List Int} (h : (ckS c).2 = 0) : lnN c = ((adr c : Nat) : Int) ∧ pgN c 1 800 = ((c.countP (pgB 1 800) : Nat) : Int) ∧ ((rgT c 1 800).length : Int) = pgN c 1 800 ∧ (ckS (pgT c 1 800)).2 = 0 ∧
    ((lsT (pgT c 1 800)).length : Int) = lnN c - pgN c 1 800 ∧ (∀ y ∈ lsT (pgT c 1 800), 800 ≤ y) := by
  have hg := ck_iff.1 h
  have e1 : lnN c = ((adr c : Nat) : Int) := by unfold lnN; rw [if_neg (by simpa using h)]
  have e2 : pgN c 1 800 = ((c.countP (pgB 1 800) : Nat) : Int) := by unfold pgN; rw [if_neg (by simpa using h)]
  have e3 : pgT c 1 800 = c.map (pg1 1 800) := by unfold pgT; rw [if_neg (by simpa using h)]
  obtain ⟨g1, g2⟩ := pg_good hg 1 800
  have hk : (ckS (pgT c 1 800)).2 = 0 := by rw [e3]; exact ck_iff.2 g1
  have e4 : lsT (pgT c 1 800) = tgK (c.map (pg1 1 800)) 1600 := by unfold lsT; rw [if_neg (by simpa using hk), e3]
  have hcnt := (pg_cnt 1 800 c).1
  refine ⟨e1, e2, ?_, hk, ?_, fun y hy => ?_⟩
  · rw [e2]
    have e5 : rgT c 1 800 = fl (fun x => decide (x < 1 ∨ 800 ≤ x)) (tgK c 1600) := by unfold rgT lsT; rw [if_neg (by simpa using h)]
    rw [e5, ← srt_eq hg.rng hg.dst]
    have hp : (sortL (c.filter fun x => decide (0 < x))).Perm (c.filter fun x => decide (0 < x)) := List.mergeSort_perm _ _
    unfold fl
    rw [(hp.filter _).length_eq, List.filter_filter, ← List.countP_eq_length_filter]
    congr 1
    refine List.countP_congr fun x _ => ?_
    unfold pgB; simp; omega
  · rw [e4, ← adr_srt g1.rng g1.dst, e1, e2]; omega
  · rw [e4, tgK_mem] at hy
    have := (g2 y (by omega)).1 hy.2.2
    omega
/-! Own -/
theorem jn_self (c : List Int) : jnE c c = (ckS c).2 := by unfold jnE; by_cases h : (ckS c).2 = 0 <;> simp [h]
theorem all_self : ∀ (l : List Int) (c : List Int), Gd c → (∀ x ∈ l, 1 ≤ x ∧ x ∈ c) → allT c l = c
  | [], c, _, _ => rfl
  | a :: l, c, h, hx => by
    have ha := hx a (by simp)
    have e : allT c (a :: l) = allT (if fnd c a < 0 then addT c a else c) l := rfl
    have := (fnd_mem h.toGw (a := a) (by omega)).1.2 ha.2
    rw [e, if_neg (by omega)]
    exact all_self l c h fun x hq => hx x (List.mem_cons_of_mem _ hq)
theorem jn_same {c : List Int} (h : jnE c c = 0) : jnT c c = c := by
  obtain ⟨e, hc, _⟩ := jn_good h
  rw [e]
  exact all_self _ c hc fun x hx => by have := tgK_mem.1 hx; exact ⟨this.1, this.2.2⟩
/-! Sets -/
def acC (r : Int × Bool) : List Value := [.int .u16 r.1, .bool r.2]
theorem acC_len : ∀ a : Int × Bool, (acC a).length = 2 := fun _ => rfl
theorem acC_one : ∀ y : Int × Bool, ∀ u ∈ acC y, u.oneCell' = true := by intro y u hu; simp only [acC, List.mem_cons, List.not_mem_nil, or_false] at hu; rcases hu with rfl | rfl <;> rfl
theorem setB_at {l : List Bool} {k : Nat} {x y : Bool} (h : (l.set k x)[k]? = some y) : y = x := by
  have hk : k < l.length := by
    have := (List.getElem?_eq_some_iff.1 h).1
    simpa using this
  rw [List.getElem?_set_self hk] at h; exact (Option.some.inj h).symm
structure SR (x : List Int) (b : List Bool) (n : Int) : Prop where
  gd : Gd x
  len : b.length = 61
  mem : ∀ a : Nat, 1 ≤ a → a ≤ 60 → b[a]? = some (decide ((a : Int) ∈ x))
  top : ∀ y ∈ x, y ≤ 60
  num : n = ((adr x : Nat) : Int)
theorem sr_new : SR (List.replicate 8 0) (List.replicate 61 false) 0 := by
  refine ⟨gd_new, by simp, fun a h1 h2 => ?_, fun y hy => by have := List.eq_of_mem_replicate hy; omega, by rw [zer_adr]; rfl⟩
  rw [List.getElem?_replicate, if_pos (by omega)]
  have : (a : Int) ∉ List.replicate 8 (0 : Int) := zer_no (by omega)
  rw [decide_eq_false this]
theorem sr_bd {x : List Int} {b : List Bool} {n : Int} (h : SR x b n) : 0 ≤ n ∧ n ≤ 1600 ∧ (ckS x).2 = 0 ∧ lnN x = n ∧ lsT x = tgK x 1600 ∧ ((tgK x 1600).length : Int) = n := by
  have hc := ck_iff.2 h.gd
  have := adr_le h.gd.rng h.gd.dst
  have h2 := h.num
  refine ⟨by omega, by omega, hc, by unfold lnN; rw [if_neg (by simpa using hc), h2], by unfold lsT; rw [if_neg (by simpa using hc)], by rw [← adr_srt h.gd.rng h.gd.dst]; omega⟩
theorem sr_at {x : List Int} {b : List Bool} {n a : Int} {u : Bool} (h : SR x b n) (ha : 1 ≤ a ∧ a ≤ 60) (hu : b[a.toNat]? = some u) : u = decide (a ∈ x) := by
  have := h.mem a.toNat (by omega) (by omega)
  rw [hu, show ((a.toNat : Nat) : Int) = a by omega] at this
  exact Option.some.inj this
theorem sr_set {x x' : List Int} {b : List Bool} {n n' a : Int} {v : Bool} (h : SR x b n) (ha : 1 ≤ a ∧ a ≤ 60) (hg : Gd x') (hm : ∀ y, 0 < y → (y ∈ x' ↔ if y = a then v = true else y ∈ x)) (hn : n' = ((adr x' : Nat) : Int)) : SR x' (b.set a.toNat v) n' := by
  refine ⟨hg, by rw [List.length_set]; exact h.len, fun q h1 h2 => ?_, fun y hy => ?_, hn⟩
  · have hl := h.len
    by_cases e : a.toNat = q
    · subst e
      rw [List.getElem?_set_self (by omega)]
      have := hm a (by omega)
      rw [if_pos rfl] at this
      rw [show ((a.toNat : Nat) : Int) = a by omega]
      congr 1
      cases v <;> simp [this]
    · rw [List.getElem?_set_ne e, h.mem q h1 h2]
      have := hm (q : Int) (by omega)
      rw [if_neg (by omega)] at this
      simp [this]
  · apply Classical.byContradiction
    intro q
    have := (hm y (by omega)).1 hy
    rw [if_neg (by omega)] at this
    exact q (h.top y this)
theorem sr_add {x : List Int} {b : List Bool} {n a : Int} {u : Bool} (h : SR x b n) (ha : 1 ≤ a ∧ a ≤ 60) (hu : b[a.toNat]? = some u) : chE x a = 0 ∧ adB x a = !u ∧ SR (adT x a) (b.set a.toNat true) (if u then n else n + 1) := by
  have hc : chE x a = 0 := ch_iff.2 ⟨h.gd, by omega⟩
  have hu := sr_at h ha hu
  have hf := fnd_mem h.gd.toGw (a := a) (by omega)
  have hnum := h.num
  by_cases q : a ∈ x
  · have h0 := hf.1.2 q
    have e : adT x a = x := by unfold adT; rw [if_neg (by simpa using hc), if_pos h0]
    have hu : u = true := by rw [hu]; simpa using q
    subst hu
    refine ⟨hc, by unfold adB; simp; omega, ?_⟩
    rw [e, if_pos rfl]
    exact sr_set h ha h.gd (fun y hy => by split <;> rename_i r <;> simp [r, q]) hnum
  · have h0 : fnd x a < 0 := by
      apply Classical.byContradiction; intro r; exact q (hf.1.1 (by omega))
    have e : adT x a = addT x a := by unfold adT; rw [if_neg (by simpa using hc), if_neg (by omega)]
    have hu : u = false := by rw [hu]; simpa using q
    subst hu
    obtain ⟨g1, g2, g3, _⟩ := add_good h.gd (a := a) (by omega) q
    refine ⟨hc, by unfold adB; simp [hc]; omega, ?_⟩
    rw [e, if_neg (by simp)]
    exact sr_set h ha g1 (fun y hy => by rw [g2 y hy]; split <;> rename_i r <;> simp [r]) (by rw [g3]; omega)
theorem sr_drop {x : List Int} {b : List Bool} {n a : Int} {u : Bool} (h : SR x b n) (ha : 1 ≤ a ∧ a ≤ 60) (hu : b[a.toNat]? = some u) : chE x a = 0 ∧ hsB x a = u ∧ SR (drT x a) (b.set a.toNat false) (if u then n - 1 else n) := by
  have hc : chE x a = 0 := ch_iff.2 ⟨h.gd, by omega⟩
  have hu := sr_at h ha hu
  have hf := fnd_mem h.gd.toGw (a := a) (by omega)
  have hnum := h.num
  have hb : hsB x a = u := by rw [hs_is h.gd (by omega), hu]
  refine ⟨hc, hb, ?_⟩
  by_cases q : a ∈ x
  · have h0 := hf.1.2 q
    have e : drT x a = x.set (fnd x a).toNat (-1) := by unfold drT drpT; rw [if_neg (by simpa using hc), if_pos h0]
    have hu : u = true := by rw [hu]; simpa using q
    subst hu
    obtain ⟨d1, d2, d3, _⟩ := drop_at' h.gd (a := a) (by omega) (hf.2.2.1 h0)
    rw [e, if_pos rfl]
    exact sr_set h ha d1 (fun y hy => by rw [d2 y hy]; split <;> rename_i r <;> simp [r]) (by omega)
  · have h0 : ¬ 0 ≤ fnd x a := fun r => q (hf.1.1 r)
    have e : drT x a = x := by unfold drT drpT; rw [if_neg (by simpa using hc), if_neg h0]
    have hu : u = false := by rw [hu]; simpa using q
    subst hu
    rw [e, if_neg (by simp)]
    exact sr_set h ha h.gd (fun y hy => by split <;> rename_i r <;> simp [r, q]) hnum
theorem sr_nb {x : List Int} {b : List Bool} {n : Int} (h : SR x b n) : 0 ≤ n ∧ n ≤ 1600 := ⟨(sr_bd h).1, (sr_bd h).2.1⟩
theorem sr_cast {x : List Int} {b : List Bool} {k : Nat} {v w : Bool} {m m' : Int} (q : SR x (b.set k v) m) (hv : w = v) (hm : m' = m) : SR x (b.set k w) m' := by subst hv hm; exact q
theorem tgK_pre (x : List Int) (k : Nat) : ∀ d : Nat, tgK x k <+: tgK x (k + d)
  | 0 => List.prefix_refl _
  | d + 1 => by
    refine (tgK_pre x k d).trans ?_
    rw [← Nat.add_assoc]
    by_cases q : (((k + d : Nat) : Int) + 1) ∈ x
    · rw [← tgK_in q]; exact List.prefix_append _ _
    · rw [← tgK_out q]; exact List.prefix_refl _
theorem tg_at {x : List Int} {k : Nat} (hk : k < 1600) (h : ((k : Int) + 1) ∈ x) : (tgK x 1600)[(tgK x k).length]? = some ((k : Int) + 1) := by
  have h1 := tgK_in h
  have h2 := tgK_pre x (k + 1) (1600 - (k + 1))
  rw [show k + 1 + (1600 - (k + 1)) = 1600 by omega] at h2
  obtain ⟨r, hr⟩ := h2
  rw [← hr, ← h1, List.append_assoc, List.getElem?_append_right (Nat.le_refl _), Nat.sub_self]; rfl
end Go.Own.S
