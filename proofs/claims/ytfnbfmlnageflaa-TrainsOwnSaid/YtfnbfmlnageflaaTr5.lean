import Derived.Test.YtfnbfmlnageflaaTr4
namespace Go.Proofs.Ytfnbfmlnageflaa
open Go.RowKit Go.Own

set_option maxHeartbeats 400000 in
theorem check_any (lv yv : Value) (lo yo : List Int) (tr c : Int) (w : World) (hl : Ints w lv lo) (hy : Ints w yv yo) :
    Calls Try.prog 46 #[.agg #[lv, yv], .int .i64 tr, .int .i64 c] w fun e w' => e = .returned (.int .i64 (chkE lo yo tr c)) ∧ Ext w w' := by
  have HL := hid hl; have HY := hid hy; clear hl hy
  obtain ⟨e0, he0⟩ : ∃ e0, e0 = (chk lo yo).2.2 := ⟨_, rfl⟩
  have HE0 := hid he0
  have hC := fun (wx : World) (hE : Ext w wx) => (Check_any lv yv lo yo wx (HL.out.ext hE) (HY.out.ext hE)).mono (R' := fun e w' => e = .returned (.tuple #[.int .i64 (chk lo yo).1, .int .i64 (chk lo yo).2.1, .int .i64 e0]) ∧ Ext wx w') fun e w' ⟨h1, h2⟩ => ⟨by rw [h1, he0], h2⟩
  clear he0
  by_cases hne : (e0 != 0) = true
  · go_enter Try.func46, Try.ntmps46
    go_wp2_with fail
    refine (hC _ (Ext.alloc _ _)).mono ?_
    rintro e w1 ⟨rfl, hE⟩
    go_wp2_with fail
    go_ret
    have : e0 ≠ 0 := by simpa using hne
    exact ⟨retI (by unfold chkE; rw [← HE0.out, if_pos this]), (Ext.alloc _ _).tr hE⟩
  · have hne : (e0 != 0) = false := by simpa using hne
    have h0 : chkE lo yo tr c = if (tr ≠ 0 ∧ tr ≠ 1) ∨ c < 0 ∨ 24 ≤ c then 7 else 0 := by
      have : e0 = 0 := by simpa using hne
      unfold chkE; rw [← HE0.out, if_neg (by omega)]
    have H0 := hid h0; clear h0
    go_enter Try.func46, Try.ntmps46
    go_wp2_with fail
    refine (hC _ (Ext.alloc _ _)).mono ?_
    rintro e w1 ⟨rfl, hE⟩
    by_cases h1 : tr = 0 ∨ tr = 1
    · have e1 : (tr != 0) = true ∧ (tr != 1) = false ∨ (tr != 0) = false ∧ (tr != 1) = true := by rcases h1 with rfl | rfl <;> simp
      have H1 := hid h1; clear h1
      by_cases h2 : c < 0
      · rcases e1 with ⟨e1, e2⟩ | ⟨e1, e2⟩
        all_goals
          go_wp2_with fail
          go_ret
          exact ⟨retI (by rw [H0.out, if_pos (.inr (.inl h2))]), (Ext.alloc _ _).tr hE⟩
      by_cases h3 : 24 ≤ c
      · rcases e1 with ⟨e1, e2⟩ | ⟨e1, e2⟩
        all_goals
          go_wp2_with fail
          go_ret
          exact ⟨retI (by rw [H0.out, if_pos (.inr (.inr h3))]), (Ext.alloc _ _).tr hE⟩
      · rcases e1 with ⟨e1, e2⟩ | ⟨e1, e2⟩
        all_goals
          go_wp2_with fail
          go_ret
          exact ⟨retI (by rw [H0.out, if_neg (by have := H1.out; omega)]), (Ext.alloc _ _).tr hE⟩
    · have e1 : (tr != 0) = true := by simp; omega
      have e2 : (tr != 1) = true := by simp; omega
      have H1 := hid h1; clear h1
      go_wp2_with fail
      go_ret
      exact ⟨retI (by rw [H0.out, if_pos (.inl (by have := H1.out; omega))]), (Ext.alloc _ _).tr hE⟩

/-- Check at a world that has grown, its error under a name. -/
theorem Check_e (lv yv : Value) (lo yo : List Int) (w wx : World) (hl : Ints w lv lo) (hy : Ints w yv yo) (hE : Ext w wx) (e0 : Int) (he : e0 = (chk lo yo).2.2) :
    Calls Try.prog 24 #[.agg #[lv, yv]] wx fun e w' => e = .returned (.tuple #[.int .i64 (chk lo yo).1, .int .i64 (chk lo yo).2.1, .int .i64 e0]) ∧ Ext wx w' :=
  (Check_any lv yv lo yo wx (hl.ext hE) (hy.ext hE)).mono fun e w' ⟨h1, h2⟩ => ⟨by rw [h1, he], h2⟩

theorem ext2 (w : World) (o o' : Obj) : Ext w ((w.alloc o).alloc o') := (Ext.alloc _ _).tr (Ext.alloc _ _)

set_option maxHeartbeats 1000000 in
theorem Take_any (lv yv : Value) (lo yo : List Int) (w : World) (hl : Ints w lv lo) (hy : Ints w yv yo) (hm : lo.length ≤ 1000) (hm2 : yo.length ≤ 1000) :
    Calls Try.prog 19 #[.agg #[lv, yv]] w fun e w' => ∃ v, e = .returned (.tuple #[v, .int .i64 (takeS lo yo).car, .int .i64 (takeS lo yo).e]) ∧ TrF w' w.heap.size 3 v (takeS lo yo).lo (takeS lo yo).yo ∧ Ext w w' := by
  obtain ⟨a1, n1, rfl⟩ := hl.form
  obtain ⟨a2, n2, rfl⟩ := hy.form
  obtain ⟨i0, hi, hz0, hz1, hz2⟩ := info_parts infoI
  have HL := hid hl; have HY := hid hy; clear hl hy
  obtain ⟨e0, he0⟩ : ∃ e0, e0 = (chk lo yo).2.2 := ⟨_, rfl⟩
  have HE0 := hid he0; clear he0
  by_cases hne : (e0 != 0) = true
  · have hs : takeS lo yo = ⟨[], [], 0, e0⟩ := by
      have : e0 ≠ 0 := by simpa using hne
      unfold takeS; rw [← HE0.out, if_pos this]
    rw [hs]; clear hs
    go_enter Try.func19, Try.ntmps19
    go_wp2_with fail
    refine (Check_e _ _ lo yo w _ HL.out HY.out (ext2 _ _ _) e0 HE0.out).mono ?_
    rintro e w1 ⟨rfl, hE⟩
    have q := bcell hE
    have qs := hE.size
    simp only [World.size_alloc] at q qs
    obtain ⟨q1, q2⟩ := q
    go_wp2_with fail
    refine bodyPost_ret (v := .tuple #[.agg #[.slice none 0 0, .slice none 0 0], .int .i64 0, .int .i64 e0]) (by simp [results, Try.results19, go_sem, q1, q2]) rfl ⟨_, rfl, TrF.nil _ _ _, ?_⟩
    repeat (refine Below.setCell ?_ (by simp) _)
    exact (ext2 _ _ _).tr hE
  · have hne : (e0 != 0) = false := by simpa using hne
    have hz : e0 = 0 := by simpa using hne
    have HZ := hid hz; clear hz
    cases lo with
    | nil =>
      have hs : takeS [] yo = ⟨[], [], 0, 4⟩ := by unfold takeS; rw [← HE0.out, if_neg (by simp [HZ.out])]
      rw [hs]; clear hs
      go_enter Try.func19, Try.ntmps19
      go_wp2_with fail
      refine (Check_e _ _ [] yo w _ HL.out HY.out (ext2 _ _ _) e0 HE0.out).mono ?_
      rintro e w1 ⟨rfl, hE⟩
      have q := bcell hE
      have qs := hE.size
      simp only [World.size_alloc] at q qs
      obtain ⟨q1, q2⟩ := q
      go_wp2_with fail
      refine bodyPost_ret (v := .tuple #[.agg #[.slice none 0 0, .slice none 0 0], .int .i64 0, .int .i64 4]) (by simp [results, Try.results19, go_sem, q1, q2]) rfl ⟨_, rfl, TrF.nil _ _ _, ?_⟩
      repeat (refine Below.setCell ?_ (by simp) _)
      exact (ext2 _ _ _).tr hE
    | cons c r =>
      have hs : takeS (c :: r) yo = ⟨r, yo, c, 0⟩ := by unfold takeS; rw [← HE0.out, if_neg (by simp [HZ.out])]
      rw [hs]; clear hs
      have hl0 : (((c :: r).length : Int) == 0) = false := by simp; omega
      obtain ⟨N, hN⟩ : ∃ N, N = (c :: r).length := ⟨_, rfl⟩
      have hNp : 0 < N := by rw [hN]; simp
      rw [← hN] at hl0 HL ⊢
      have HN := hid hN; clear hN
      go_enter Try.func19, Try.ntmps19
      go_wp2_with fail
      refine (Check_e _ _ (c :: r) yo w _ HL.out HY.out (ext2 _ _ _) e0 HE0.out).mono ?_
      rintro e w1 ⟨rfl, hE⟩
      have q := bcell hE
      have qs := hE.size
      have hR : IsBlk w1 (w.heap.size + 1) 24 := by
        have := IsBlk.alloc (w.alloc (.cells #[Value.slice a1 N n1, Value.slice a2 yo.length n2] 24)) #[.slice none 0 0, .slice none 0 0] 24
        simp only [World.size_alloc] at this
        exact this.ext hE
      simp only [World.size_alloc] at q qs
      obtain ⟨q1, q2⟩ := q
      go_wp2_with fail
      refine (own_any _ _ (c :: r) yo w1 (HL.out.ext ((ext2 _ _ _).tr hE)) (HY.out.ext ((ext2 _ _ _).tr hE)) hm hm2).mono ?_
      rintro e w2 ⟨pv, rfl, hP, hE2⟩
      obtain ⟨b, u1, u2, rfl, hb, hblk, ho1, ho2⟩ := hP
      obtain ⟨g1, m1, rfl⟩ := ho1.form
      obtain ⟨g2, m2, rfl⟩ := ho2.form
      rw [← HN.out] at hblk ho1
      have hc0 := blk_cells hblk 0
      have hc1 := blk_cells hblk 1
      simp at hc0 hc1
      have hfz := blk_frozen ⟨_, hblk⟩
      have hbs : b < w2.heap.size := (Array.getElem?_eq_some_iff.1 hblk).1
      have HB := hid hblk; have HO1 := hid ho1; have HO2 := hid ho2
      clear hblk ho1 ho2
      obtain ⟨bb, off, x, rfl, hx, hcx⟩ := HO1.out.ints.at (k := 0) (by simp)
      have hx : x = c := by simp at hx; exact hx.symm
      rw [Nat.add_zero] at hcx
      subst hx
      go_wp2_with fail
      refine wp_region_mono 18 19 [none, none, none, none, none, none, none, none, none, none, none, none, none, some (.fre w1 3 r)] (by kernel_rfl) (by kernel_rfl) ?_
      repeat (refine Chk_cons ?_; first | refine Chk_mov rfl rfl (by first | (simp only [Region.wanted]; done) | (simp [Region.wanted, yielded]; done)) rfl (by simp only [Act.put, Act.eval, List.setIfInBounds_toArray, List.set_cons_succ, List.set_cons_zero, Array.getD_eq_getD_getElem?, List.getElem?_toArray, List.getElem?_cons_succ, List.getElem?_cons_zero, Option.getD_some]; rfl) ?_ | refine Chk_asg rfl rfl (by first | (simp only [Region.wanted]; done) | (simp [Region.wanted, yielded]; done)) rfl (by simp only [Act.put, Act.eval, List.setIfInBounds_toArray, List.set_cons_succ, List.set_cons_zero, Array.getD_eq_getD_getElem?, List.getElem?_toArray, List.getElem?_cons_succ, List.getElem?_cons_zero, Option.getD_some]; rfl) ?_ | refine Chk_mvk rfl rfl (by first | (simp only [Region.wanted]; done) | (simp [Region.wanted, yielded]; done)) rfl (fun w => by simp [go_sem]; rfl) (by simp only [Act.put, List.setIfInBounds_toArray, List.set_cons_succ, List.set_cons_zero]; rfl) ?_ | refine Chk_rdk rfl rfl (by first | (simp only [Region.wanted]; done) | (simp [Region.wanted, yielded]; done)) rfl (by kernel_rfl) (fun w hE hF => by have q := bcell hE; simp [go_sem, q.1, hc0, hbs, hcx, hNp, World.block_lt_of_cell? _ _ hcx]; rfl) (by simp only [Act.put, List.setIfInBounds_toArray, List.set_cons_succ, List.set_cons_zero]; rfl) ?_)
      refine Chk_subF rfl rfl rfl rfl Try.underlying22 hi hz1 HO1.out.fre 1 (x :: r).length (.inr rfl) (.inl ⟨rfl, rfl⟩) (by first | omega | (simp; done) | (simp; omega)) (by first | omega | (simp; done) | (simp; omega)) (by first | (simp; done) | (rw [List.take_of_length_le] <;> simp)) r.length (by first | (simp; done) | (simp; omega)) (fun b3 c3 a' hu3 hp => ?_)
      simp only [Act.put, List.setIfInBounds_toArray, List.set_cons_succ, List.set_cons_zero] at hp; subst hp
      repeat (refine Chk_cons ?_; first | refine Chk_mov rfl rfl (by first | (simp only [Region.wanted]; done) | (simp [Region.wanted, yielded]; done)) rfl (by simp only [Act.put, Act.eval, List.setIfInBounds_toArray, List.set_cons_succ, List.set_cons_zero, Array.getD_eq_getD_getElem?, List.getElem?_toArray, List.getElem?_cons_succ, List.getElem?_cons_zero, Option.getD_some]; rfl) ?_ | refine Chk_asg rfl rfl (by first | (simp only [Region.wanted]; done) | (simp [Region.wanted, yielded]; done)) rfl (by simp only [Act.put, Act.eval, List.setIfInBounds_toArray, List.set_cons_succ, List.set_cons_zero, Array.getD_eq_getD_getElem?, List.getElem?_toArray, List.getElem?_cons_succ, List.getElem?_cons_zero, Option.getD_some]; rfl) ?_ | refine Chk_mvk rfl rfl (by first | (simp only [Region.wanted]; done) | (simp [Region.wanted, yielded]; done)) rfl (fun w => by simp [go_sem]; rfl) (by simp only [Act.put, List.setIfInBounds_toArray, List.set_cons_succ, List.set_cons_zero]; rfl) ?_ | refine Chk_rdk rfl rfl (by first | (simp only [Region.wanted]; done) | (simp [Region.wanted, yielded]; done)) rfl (by kernel_rfl) (fun w hE hF => by have q := bcell hE; simp [go_sem, q.1, hc0, hbs]; rfl) (by simp only [Act.put, List.setIfInBounds_toArray, List.set_cons_succ, List.set_cons_zero]; rfl) ?_)
      refine Zed_eff rfl rfl (fun w3 hE3 hF3 => ?_)
      have hF3 := all_get hF3
      have p := bcell hE3
      have ps := hE3.size
      have HF3 := hid hF3
      clear hF3 hu3
      obtain ⟨p1, p2⟩ := p
      have hRb : w.heap.size + 1 < w2.heap.size := by have := hE2.size; omega
      have hRb1 : w.heap.size + 1 < w1.heap.size := by omega
      have hbR : b ≠ w.heap.size + 1 := by omega
      have hbR' : w.heap.size + 1 ≠ b := by omega
      have v := bcell hE2
      obtain ⟨v1, v2⟩ := v
      have hfz0 := hfz 0
      go_wp2_with fail
      refine Qo_normal ?_
      go_wp2_with fail
      have kb : IsBlk w3 b 70 := IsBlk.ext ⟨_, HB.out⟩ hE3
      have kR : IsBlk w3 (w.heap.size + 1) 24 := (hR.ext hE2).ext hE3
      refine bodyPost_ret (v := .tuple #[.agg #[.slice b3 r.length c3, .slice g2 yo.length m2], .int .i64 x, .int .i64 0]) (by simp [results, Try.results19, go_sem, p1, p2, v1, v2, q1, q2, hRb, hRb1, hbR, hbR', hbs]) rfl ⟨_, rfl, ⟨_, _, rfl, ?_, ?_⟩, ?_⟩
      · exact (((HF3.out.base (by omega)).setB kb rfl).setB (kR.set _ _) rfl).setB ((kR.set _ _).set _ _) rfl
      · exact ((((HO2.out.fre.ext hE3).base (by omega)).setB kb rfl).setB (kR.set _ _) rfl).setB ((kR.set _ _).set _ _) rfl
      · repeat (refine Below.setCell ?_ (by simp; try omega) _)
        exact (((ext2 _ _ _).tr hE).tr hE2).tr hE3
end Go.Proofs.Ytfnbfmlnageflaa
