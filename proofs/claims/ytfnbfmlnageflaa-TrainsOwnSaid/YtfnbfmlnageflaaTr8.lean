import Derived.Test.YtfnbfmlnageflaaTr7
namespace Go.Proofs.Ytfnbfmlnageflaa
open Go.RowKit Go.Own

def sameT (l1 y1 l2 y2 : List Int) : Bool := eqI l1 l2 && eqI y1 y2

set_option maxHeartbeats 500000 in
theorem Same_any (lv yv lv2 yv2 : Value) (lo yo lo2 yo2 : List Int) (w : World) (hl : Ints w lv lo) (hy : Ints w yv yo) (hl2 : Ints w lv2 lo2) (hy2 : Ints w yv2 yo2) :
    Calls Try.prog 28 #[.agg #[lv, yv], .agg #[lv2, yv2]] w fun e w' => e = .returned (.bool (sameT lo yo lo2 yo2)) ∧ Ext w w' := by
  have HL := hid hl; have HY := hid hy; have HL2 := hid hl2; have HY2 := hid hy2; clear hl hy hl2 hy2
  obtain ⟨b1, hb1⟩ : ∃ b1, b1 = eqI lo lo2 := ⟨_, rfl⟩
  have HB1 := hid hb1
  have C1 := hid (fun wx (hE : Ext w wx) => (Equal_any lv lv2 lo lo2 wx (HL.out.ext hE) (HL2.out.ext hE)).mono (R' := fun e w' => e = .returned (.bool b1) ∧ Ext wx w') (by rw [hb1]; exact fun _ _ h => h))
  clear hb1
  cases b1 with
  | false =>
    have hs : sameT lo yo lo2 yo2 = false := by unfold sameT; rw [← HB1.out]; rfl
    rw [hs]; clear hs
    go_enter Try.func28, Try.ntmps28
    go_wp2_with fail
    refine (C1.out _ (ext2 _ _ _)).mono ?_
    rintro e w1 ⟨rfl, hE⟩
    go_wp2_with fail
    go_ret
    exact ⟨rfl, (ext2 _ _ _).tr hE⟩
  | true =>
    have hs : sameT lo yo lo2 yo2 = eqI yo yo2 := by unfold sameT; rw [← HB1.out]; rfl
    rw [hs]; clear hs
    go_enter Try.func28, Try.ntmps28
    go_wp2_with fail
    refine (C1.out _ (ext2 _ _ _)).mono ?_
    rintro e w1 ⟨rfl, hE⟩
    have HR := hid (heap_ext hE (res_new _ _ _ _))
    obtain ⟨r0, r1, rf, rb⟩ := blk2 HR.out
    have HT := hid (heap_ext hE (heap_ext (Ext.alloc _ _) (heap_alloc_new w _)))
    obtain ⟨t0, t1, tf, tb⟩ := blk2 HT.out
    go_wp2_with fail
    refine (Equal_any _ _ yo yo2 _ (HY.out.ext ((ext2 _ _ _).tr hE)) (HY2.out.ext ((ext2 _ _ _).tr hE))).mono ?_
    rintro e w2 ⟨rfl, hE2⟩
    go_wp2_with fail
    go_ret
    exact ⟨rfl, ((ext2 _ _ _).tr hE).tr hE2⟩

set_option maxHeartbeats 500000 in
theorem Relink_any (lv yv : Value) (lo yo : List Int) (bf : Bool) (w : World) (hl : Ints w lv lo) (hy : Ints w yv yo) (hm : lo.length ≤ 1000) (hm2 : yo.length ≤ 1000) :
    Calls Try.prog 26 #[.agg #[lv, yv], .bool bf] w fun e w' => ∃ v, e = .returned (.tuple #[v, .int .i64 (relinkS lo yo bf).car, .int .i64 (relinkS lo yo bf).e]) ∧
      TrF w' w.heap.size 3 v (relinkS lo yo bf).lo (relinkS lo yo bf).yo ∧ Ext w w' := by
  have HL := hid hl; have HY := hid hy; clear hl hy
  obtain ⟨S, hS⟩ : ∃ S, S = takeS lo yo := ⟨_, rfl⟩
  have HS := hid hS
  obtain ⟨sl, sy, sc, se⟩ := S
  have C := hid (fun wx (hE : Ext w wx) => (Take_any lv yv lo yo wx (HL.out.ext hE) (HY.out.ext hE) hm hm2).mono (R' := fun e w' => ∃ v, e = .returned (.tuple #[v, .int .i64 sc, .int .i64 se]) ∧ TrF w' wx.heap.size 3 v sl sy ∧ Ext wx w') (by rw [← hS]; exact fun _ _ h => h))
  clear hS
  have hsy : sy.length ≤ 1000 := by
    have : sy = (takeS lo yo).yo := by rw [← HS.out]
    rw [this]; unfold takeS; split
    · simp
    · split <;> simp [hm2]
  by_cases hne : (se != 0) = true
  · have hs : relinkS lo yo bf = ⟨[], [], 0, se⟩ := by
      have : se ≠ 0 := by simpa using hne
      unfold relinkS; rw [← HS.out, if_pos this]
    rw [hs]; clear hs
    go_enter Try.func26, Try.ntmps26
    go_wp2_with fail
    refine (C.out _ (ext2 _ _ _)).mono ?_
    rintro e w1 ⟨v, rfl, ⟨u1, u2, rfl, h1, h2⟩, hE⟩
    obtain ⟨g1, m1, rfl⟩ := h1.form
    obtain ⟨g2, m2, rfl⟩ := h2.form
    clear h1 h2
    have HR := hid (heap_ext hE (res_new _ _ _ _))
    obtain ⟨r0, r1, rf, rb⟩ := blk2 HR.out
    go_wp2_with fail
    refine bodyPost_ret (v := .tuple #[.agg #[.slice none 0 0, .slice none 0 0], .int .i64 0, .int .i64 se]) (by simp [results, Try.results26, go_sem, (blk2 (set01 (p := .slice none 0 0) (q := .slice none 0 0) (set01 (p := .slice g1 sl.length m1) (q := .slice g2 sy.length m2) HR.out))).1, (blk2 (set01 (p := .slice none 0 0) (q := .slice none 0 0) (set01 (p := .slice g1 sl.length m1) (q := .slice g2 sy.length m2) HR.out))).2.1]) rfl ⟨_, rfl, TrF.nil _ _ _, ?_⟩
    repeat (refine Below.setCell ?_ (by simp; try omega) _)
    exact (ext2 _ _ _).tr hE
  · have hne : (se != 0) = false := by simpa using hne
    have hz : se = 0 := by simpa using hne
    have HZ := hid hz; clear hz
    have hs : relinkS lo yo bf = ⟨sl, putL sy sc bf, sc, 0⟩ := by unfold relinkS; rw [← HS.out, if_neg (by simp [HZ.out])]
    rw [hs]; clear hs
    go_enter Try.func26, Try.ntmps26
    go_wp2_with fail
    refine (C.out _ (ext2 _ _ _)).mono ?_
    rintro e w1 ⟨v, rfl, ⟨u1, u2, rfl, h1, h2⟩, hE⟩
    obtain ⟨g1, m1, rfl⟩ := h1.form
    obtain ⟨g2, m2, rfl⟩ := h2.form
    have HR := hid (heap_ext hE (res_new _ _ _ _))
    have HU1 := hid ((h1.setB (o := 0) (x := .slice g1 sl.length m1) ⟨_, HR.out⟩ rfl).setB (o := 1) (x := .slice g2 sy.length m2) (IsBlk.set ⟨_, HR.out⟩ _ _) rfl)
    have HU2 := hid ((h2.setB (o := 0) (x := .slice g1 sl.length m1) ⟨_, HR.out⟩ rfl).setB (o := 1) (x := .slice g2 sy.length m2) (IsBlk.set ⟨_, HR.out⟩ _ _) rfl)
    clear h1 h2
    obtain ⟨r0, r1, rf, rb⟩ := blk2 HR.out
    go_wp2_with fail
    refine (put_any _ sy sc bf _ HU2.out.1 (by omega)).mono ?_
    rintro e w2 ⟨nv, rfl, ho, hE2⟩
    obtain ⟨g, m, rfl⟩ := ho.form
    have HO := hid ho; clear ho
    have HR2 : Hid (w2.heap[w.heap.size + 1]? = some (.cells #[.slice g1 sl.length m1, .slice g2 sy.length m2] 24 (0, 0))) := by
      exact heap_ext hE2 (set01 HR.out)
    clear r0 r1 rf rb
    obtain ⟨r0, r1, rf, rb⟩ := blk2 HR2.out
    have hs1 := ((ext2 w _ _).tr hE).size
    have hs2 := hE2.size
    simp only [World.size_setCell] at hs2
    go_wp2_with fail
    refine bodyPost_ret (v := .tuple #[.agg #[.slice g1 sl.length m1, .slice g (putL sy sc bf).length m], .int .i64 sc, .int .i64 0]) (by simp [results, Try.results26, go_sem, (blk2 (set01 (p := .slice g1 sl.length m1) (q := .slice g (putL sy sc bf).length m) (set1 (q := .slice g (putL sy sc bf).length m) HR2.out))).1, (blk2 (set01 (p := .slice g1 sl.length m1) (q := .slice g (putL sy sc bf).length m) (set1 (q := .slice g (putL sy sc bf).length m) HR2.out))).2.1]) rfl ⟨_, rfl, ⟨_, _, rfl, ?_, ?_⟩, ?_⟩
    · have := (HU1.out.ext hE2).base (B' := w.heap.size) (by simp; omega)
      repeat (refine FreI.setB ?_ (T := 24) (by first | exact ⟨_, HR2.out⟩ | exact IsBlk.set ⟨_, HR2.out⟩ _ _ | exact IsBlk.set (IsBlk.set ⟨_, HR2.out⟩ _ _) _ _) rfl)
      exact this
    · have := (HO.out.fre).base (B' := w.heap.size) (by simp; omega)
      repeat (refine FreI.setB ?_ (T := 24) (by first | exact ⟨_, HR2.out⟩ | exact IsBlk.set ⟨_, HR2.out⟩ _ _ | exact IsBlk.set (IsBlk.set ⟨_, HR2.out⟩ _ _) _ _) rfl)
      exact this
    · repeat (refine Below.setCell ?_ (by simp; try omega) _)
      refine Below.trans ?_ (hE2.mono (by simp; omega))
      repeat (refine Below.setCell ?_ (by simp; try omega) _)
      exact (ext2 _ _ _).tr hE

set_option maxHeartbeats 500000 in
theorem Clear_any (lv yv : Value) (lo yo : List Int) (w : World) (hl : Ints w lv lo) (hy : Ints w yv yo) :
    Calls Try.prog 27 #[.agg #[lv, yv]] w fun e w' => ∃ v u, e = .returned (.tuple #[v, u, .int .i64 (clearS lo yo).e]) ∧ TrF w' w.heap.size 3 v [] (clearS lo yo).yo ∧ FreI w' w.heap.size 3 u (clearS lo yo).lo ∧ Ext w w' := by
  obtain ⟨a1, n1, rfl⟩ := hl.form
  obtain ⟨a2, n2, rfl⟩ := hy.form
  have HL := hid hl; have HY := hid hy; clear hl hy
  obtain ⟨e0, he0⟩ : ∃ e0, e0 = (chk lo yo).2.2 := ⟨_, rfl⟩
  have HE0 := hid he0; clear he0
  by_cases hne : (e0 != 0) = true
  · have hs : clearS lo yo = ⟨[], [], 0, e0⟩ := by
      have : e0 ≠ 0 := by simpa using hne
      unfold clearS; rw [← HE0.out, if_pos this]
    rw [hs]; clear hs
    go_enter Try.func27, Try.ntmps27
    go_wp2_with fail
    refine (Check_e _ _ lo yo w _ HL.out HY.out (ext2 _ _ _) e0 HE0.out).mono ?_
    rintro e w1 ⟨rfl, hE⟩
    have HR := hid (heap_ext hE (res_new _ _ _ _))
    obtain ⟨r0, r1, rf, rb⟩ := blk2 HR.out
    go_wp2_with fail
    refine bodyPost_ret (v := .tuple #[.agg #[.slice none 0 0, .slice none 0 0], .slice none 0 0, .int .i64 e0]) (by simp [results, Try.results27, go_sem, r0, r1, cell_setCell]) rfl ⟨_, _, rfl, TrF.nil _ _ _, FreI.nil _ _ _, ?_⟩
    repeat (refine Below.setCell ?_ (by simp; try omega) _)
    exact (ext2 _ _ _).tr hE
  · have hne : (e0 != 0) = false := by simpa using hne
    have hz : e0 = 0 := by simpa using hne
    have HZ := hid hz; clear hz
    have HK := hid (chk_ok_len (HE0.out.symm.trans HZ.out))
    have hs : clearS lo yo = ⟨lo, yo, 0, 0⟩ := by unfold clearS; rw [← HE0.out, if_neg (by simp [HZ.out])]
    rw [hs]; clear hs
    go_enter Try.func27, Try.ntmps27
    go_wp2_with fail
    refine (Check_e _ _ lo yo w _ HL.out HY.out (ext2 _ _ _) e0 HE0.out).mono ?_
    rintro e w1 ⟨rfl, hE⟩
    have HR := hid (heap_ext hE (res_new _ _ _ _))
    have HT := hid (heap_ext hE (heap_ext (Ext.alloc _ _) (heap_alloc_new w _)))
    obtain ⟨t0, t1, tf, tb⟩ := blk2 HT.out
    go_wp2_with fail
    have hE0 := (ext2 w _ _).tr hE
    have hs1 := hE0.size
    refine wp_region_mono 9 10 [none, none, some (.rows [yo]), some (.own w1 3 yo), none, none, none, some (.rows [lo]), some (.own w1 3 lo)] (by kernel_rfl) (by kernel_rfl) ?_
    repeat (refine Chk_cons ?_; first | refine Chk_mov rfl rfl (by first | (simp only [Region.wanted]; done) | (simp [Region.wanted, yielded]; done)) rfl (by simp only [Act.put, Act.eval, List.setIfInBounds_toArray, List.set_cons_succ, List.set_cons_zero, Array.getD_eq_getD_getElem?, List.getElem?_toArray, List.getElem?_cons_succ, List.getElem?_cons_zero, Option.getD_some]; rfl) ?_ | refine Chk_asg rfl rfl (by first | (simp only [Region.wanted]; done) | (simp [Region.wanted, yielded]; done)) rfl (by simp only [Act.put, Act.eval, List.setIfInBounds_toArray, List.set_cons_succ, List.set_cons_zero, Array.getD_eq_getD_getElem?, List.getElem?_toArray, List.getElem?_cons_succ, List.getElem?_cons_zero, Option.getD_some]; rfl) ?_ | refine Chk_mvk rfl rfl (by first | (simp only [Region.wanted]; done) | (simp [Region.wanted, yielded]; done)) rfl (fun w => by simp [go_sem]; rfl) (by simp only [Act.put, List.setIfInBounds_toArray, List.set_cons_succ, List.set_cons_zero]; rfl) ?_ | refine Chk_rdk rfl rfl (by first | (simp only [Region.wanted]; done) | (simp [Region.wanted, yielded]; done)) rfl (by kernel_rfl) (fun w hE hF => by have q := bcell hE; simp [go_sem, q.1, t0, t1, tb]; rfl) (by simp only [Act.put, List.setIfInBounds_toArray, List.set_cons_succ, List.set_cons_zero]; rfl) ?_)
    refine Chk_litR (el := 22) (cs := [.slice a2 yo.length n2]) rfl rfl rfl (by simp) (fun w hE hF => .cons (HY.out.ext (hE0.tr hE)) (.nil _)) (fun w => bsR1 rfl (by rfl) rfl w) 1 rfl (fun b1 c1 a' hu1 hp => ?_)
    simp only [Act.put, List.setIfInBounds_toArray, List.set_cons_succ, List.set_cons_zero] at hp; subst hp
    refine Chk_callf rfl Try.func50 (by kernel_rfl) rfl (by simp only [List.map_toArray, List.map_cons, List.map_nil, Act.eval, Array.getD_eq_getD_getElem?, List.getElem?_toArray, List.getElem?_cons_succ, List.getElem?_cons_zero, Option.getD_some] <;> rfl) rfl rfl rfl (fun wx hE hF => ?_) (fun u1 a' hu hp => ?_)
    · refine (joined_any _ _ wx (ancF_get hF (by kernel_rfl)) ?_).mono ?_
      · have := HK.out.2; simp; omega
      · rintro e w' ⟨r, rfl, h1, h2⟩
        exact ⟨r, rfl, h2, OwnI.base (by simpa using h1) (by have := hE.size; omega)⟩
    obtain ⟨_, _, hu⟩ := hu
    obtain ⟨d1, e1, rfl⟩ := OwnI.form hu
    simp only [Act.put, List.setIfInBounds_toArray, List.set_cons_succ, List.set_cons_zero] at hp; subst hp
    repeat (refine Chk_cons ?_; first | refine Chk_mov rfl rfl (by first | (simp only [Region.wanted]; done) | (simp [Region.wanted, yielded]; done)) rfl (by simp only [Act.put, Act.eval, List.setIfInBounds_toArray, List.set_cons_succ, List.set_cons_zero, Array.getD_eq_getD_getElem?, List.getElem?_toArray, List.getElem?_cons_succ, List.getElem?_cons_zero, Option.getD_some]; rfl) ?_ | refine Chk_asg rfl rfl (by first | (simp only [Region.wanted]; done) | (simp [Region.wanted, yielded]; done)) rfl (by simp only [Act.put, Act.eval, List.setIfInBounds_toArray, List.set_cons_succ, List.set_cons_zero, Array.getD_eq_getD_getElem?, List.getElem?_toArray, List.getElem?_cons_succ, List.getElem?_cons_zero, Option.getD_some]; rfl) ?_ | refine Chk_mvk rfl rfl (by first | (simp only [Region.wanted]; done) | (simp [Region.wanted, yielded]; done)) rfl (fun w => by simp [go_sem]; rfl) (by simp only [Act.put, List.setIfInBounds_toArray, List.set_cons_succ, List.set_cons_zero]; rfl) ?_ | refine Chk_rdk rfl rfl (by first | (simp only [Region.wanted]; done) | (simp [Region.wanted, yielded]; done)) rfl (by kernel_rfl) (fun w hE hF => by have q := bcell hE; simp [go_sem, q.1, t0, t1, tb]; rfl) (by simp only [Act.put, List.setIfInBounds_toArray, List.set_cons_succ, List.set_cons_zero]; rfl) ?_)
    refine Chk_litR (el := 22) (cs := [.slice a1 lo.length n1]) rfl rfl rfl (by simp) (fun w hE hF => .cons (HL.out.ext (hE0.tr hE)) (.nil _)) (fun w => bsR1 rfl (by rfl) rfl w) 1 rfl (fun b2 c2 a' hu2 hp => ?_)
    simp only [Act.put, List.setIfInBounds_toArray, List.set_cons_succ, List.set_cons_zero] at hp; subst hp
    refine Chk_callf rfl Try.func50 (by kernel_rfl) rfl (by simp only [List.map_toArray, List.map_cons, List.map_nil, Act.eval, Array.getD_eq_getD_getElem?, List.getElem?_toArray, List.getElem?_cons_succ, List.getElem?_cons_zero, Option.getD_some] <;> rfl) rfl rfl rfl (fun wx hE hF => ?_) (fun u1 a' hu hp => ?_)
    · refine (joined_any _ _ wx (ancF_get hF (by kernel_rfl)) ?_).mono ?_
      · have := HK.out.1; simp; omega
      · rintro e w' ⟨r, rfl, h1, h2⟩
        exact ⟨r, rfl, h2, OwnI.base (by simpa using h1) (by have := hE.size; omega)⟩
    obtain ⟨_, _, hu⟩ := hu
    obtain ⟨d2, e2, rfl⟩ := OwnI.form hu
    simp only [Act.put, List.setIfInBounds_toArray, List.set_cons_succ, List.set_cons_zero] at hp; subst hp
    refine Chk_eff rfl ?_
    refine Zed_eff rfl rfl (fun w3 hE3 hF3 => ?_)
    have HO2 := hid (all_get hF3 : OwnI w3 w1.heap.size 3 (.slice d2 lo.length e2) lo)
    have HO1 := hid (all_get (all_rest (all_rest hF3)) : OwnI w3 w1.heap.size 3 (.slice d1 yo.length e1) yo)
    have HR3 := hid (heap_ext hE3 HR.out)
    obtain ⟨r0, r1, rf, rb⟩ := blk2 HR3.out
    clear hF3
    go_wp2_with fail
    refine Qo_normal ?_
    go_wp2_with fail
    refine bodyPost_ret (v := .tuple #[.agg #[.slice none 0 0, .slice d1 yo.length e1], .slice d2 lo.length e2, .int .i64 0]) (by simp [results, Try.results27, go_sem, r0, r1, cell_setCell]) rfl ⟨_, _, rfl, ⟨_, _, rfl, FreI.nil _ _ _, ?_⟩, ?_, ?_⟩
    · have := (HO1.out.fre).base (B' := w.heap.size) (by omega)
      repeat (refine FreI.setB ?_ (T := 24) (by first | exact ⟨_, HR3.out⟩ | exact IsBlk.set ⟨_, HR3.out⟩ _ _ | exact IsBlk.set (IsBlk.set ⟨_, HR3.out⟩ _ _) _ _) rfl)
      exact this
    · have := (HO2.out.fre).base (B' := w.heap.size) (by omega)
      repeat (refine FreI.setB ?_ (T := 24) (by first | exact ⟨_, HR3.out⟩ | exact IsBlk.set ⟨_, HR3.out⟩ _ _ | exact IsBlk.set (IsBlk.set ⟨_, HR3.out⟩ _ _) _ _) rfl)
      exact this
    · repeat (refine Below.setCell ?_ (by simp; try omega) _)
      exact hE0.tr hE3
end Go.Proofs.Ytfnbfmlnageflaa
