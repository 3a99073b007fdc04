import Derived.Test.YtfnbfmlnageflaaTr5
import Derived.Test.YtfnbfmlnageflaaStep3
namespace Go.Proofs.Ytfnbfmlnageflaa
open Go.RowKit Go.Own

theorem check_e (lv yv : Value) (lo yo : List Int) (tr c : Int) (w wx : World) (hl : Ints w lv lo) (hy : Ints w yv yo) (hE : Ext w wx) (e0 : Int) (he : e0 = chkE lo yo tr c) :
    Calls Try.prog 46 #[.agg #[lv, yv], .int .i64 tr, .int .i64 c] wx fun e w' => e = .returned (.int .i64 e0) ∧ Ext wx w' :=
  (check_any lv yv lo yo tr c wx (hl.ext hE) (hy.ext hE)).mono fun e w' ⟨h1, h2⟩ => ⟨by rw [h1, he], h2⟩

set_option maxHeartbeats 500000 in
theorem place_any (lv yv : Value) (lo yo : List Int) (tr c : Int) (bf : Bool) (w : World) (hl : Ints w lv lo) (hy : Ints w yv yo) :
    Calls Try.prog 43 #[.agg #[lv, yv], .int .i64 tr, .int .i64 c, .bool bf] w fun e w' => ∃ v, e = .returned (.tuple #[v, .int .i64 (placeS lo yo tr c bf).e]) ∧
      TrF w' w.heap.size 3 v (placeS lo yo tr c bf).lo (placeS lo yo tr c bf).yo ∧ Ext w w' := by
  obtain ⟨a1, n1, rfl⟩ := hl.form
  obtain ⟨a2, n2, rfl⟩ := hy.form
  have HL := hid hl; have HY := hid hy; clear hl hy
  obtain ⟨e0, he0⟩ : ∃ e0, e0 = chkE lo yo tr c := ⟨_, rfl⟩
  have HE0 := hid he0; clear he0
  by_cases hne : (e0 != 0) = true
  · have hs : placeS lo yo tr c bf = ⟨[], [], 0, e0⟩ := by
      have : e0 ≠ 0 := by simpa using hne
      unfold placeS; rw [← HE0.out, if_pos this]
    rw [hs]; clear hs
    go_enter Try.func43, Try.ntmps43
    go_wp2_with fail
    refine (check_e _ _ lo yo _ c w _ HL.out HY.out (ext2 _ _ _) e0 HE0.out).mono ?_
    rintro e w1 ⟨rfl, hE⟩
    have q := bcell hE
    have qs := hE.size
    simp only [World.size_alloc] at q qs
    obtain ⟨q1, q2⟩ := q
    go_wp2_with fail
    refine bodyPost_ret (v := .tuple #[.agg #[.slice none 0 0, .slice none 0 0], .int .i64 e0]) (by simp [results, Try.results43, go_sem, q1, q2]) rfl ⟨_, rfl, TrF.nil _ _ _, ?_⟩
    repeat (refine Below.setCell ?_ (by simp; try omega) _)
    exact (ext2 _ _ _).tr hE
  · have hne : (e0 != 0) = false := by simpa using hne
    have hz : e0 = 0 := by simpa using hne
    have HZ := hid hz; clear hz
    have HK := hid (chkE_ok (HE0.out.symm.trans HZ.out))
    have hl24 := (chk_ok_len HK.out.1).1
    have hy24 := (chk_ok_len HK.out.1).2
    obtain ⟨f1, f2, f3, hf⟩ : ∃ f1 f2 f3, findT lo yo c = (f1, f2, f3) := ⟨_, _, _, rfl⟩
    have HF := hid hf; clear hf
    by_cases hf3 : (f3 == 0) = true
    · have hs : placeS lo yo tr c bf = ⟨[], [], 0, 8⟩ := by
        have : f3 = 0 := by simpa using hf3
        unfold placeS; rw [← HE0.out, if_neg (by simp [HZ.out]), HF.out, if_pos this]
      rw [hs]; clear hs
      go_enter Try.func43, Try.ntmps43
      go_wp2_with fail
      refine (check_e _ _ lo yo _ c w _ HL.out HY.out (ext2 _ _ _) e0 HE0.out).mono ?_
      rintro e w1 ⟨rfl, hE⟩
      have q := bcell hE
      have qs := hE.size
      have HR1 := hid (heap_ext hE (res_new _ _ _ _))
      simp only [World.size_alloc] at q qs
      obtain ⟨q1, q2⟩ := q
      go_wp2_with fail
      refine (own_any _ _ lo yo w1 (HL.out.ext ((ext2 _ _ _).tr hE)) (HY.out.ext ((ext2 _ _ _).tr hE)) (by omega) (by omega)).mono ?_
      rintro e w2 ⟨pv, rfl, hP, hE2⟩
      obtain ⟨b, u1, u2, rfl, hb, hblk, ho1, ho2⟩ := hP
      obtain ⟨g1, m1, rfl⟩ := ho1.form
      obtain ⟨g2, m2, rfl⟩ := ho2.form
      have hc0 := blk_cells hblk 0
      have hc1 := blk_cells hblk 1
      simp at hc0 hc1
      have hbs : b < w2.heap.size := (Array.getElem?_eq_some_iff.1 hblk).1
      have HB := hid hblk; have HO1 := hid ho1; have HO2 := hid ho2
      clear hblk ho1 ho2
      have v := bcell hE2
      obtain ⟨v1, v2⟩ := v
      go_wp2_with fail
      refine (find_any w2.heap.size _ _ lo yo c _ (HO1.out.ints.ext (Ext.alloc _ _)) (HO2.out.ints.ext (Ext.alloc _ _)) (by simp) (by simp) (by simp)).mono ?_
      rw [HF.out]
      rintro e w3 ⟨rfl, hE3⟩
      have x := bcell hE3
      simp only [World.size_alloc] at x
      obtain ⟨x1, x2⟩ := x
      have HR3 := hid (heap_ext hE3 (heap_ext (Ext.alloc _ _) (heap_ext hE2 HR1.out)))
      obtain ⟨r0, r1, rf, rb⟩ := blk2 HR3.out
      go_wp2_with fail
      refine bodyPost_ret (v := .tuple #[.agg #[.slice none 0 0, .slice none 0 0], .int .i64 8]) (by simp [results, Try.results43, go_sem, r0, r1]) rfl ⟨_, rfl, TrF.nil _ _ _, ?_⟩
      repeat (refine Below.setCell ?_ (by simp; try omega) _)
      exact ((((ext2 _ _ _).tr hE).tr hE2).tr (Ext.alloc _ _)).tr hE3
    · have hf3 : (f3 == 0) = false := by simpa using hf3
      have hf30 : f3 ≠ 0 := by simpa using hf3
      have HF3 := hid hf30; clear hf30
      rcases HK.out.2.1 with rfl | rfl
      · have hs : placeS lo yo 0 c bf = ⟨putL lo c bf, yo, 0, 0⟩ := by
          unfold placeS; rw [← HE0.out, if_neg (by simp [HZ.out]), HF.out, if_neg HF3.out, if_pos rfl]
        rw [hs]; clear hs
        go_enter Try.func43, Try.ntmps43
        go_wp2_with fail
        refine (check_e _ _ lo yo _ c w _ HL.out HY.out (ext2 _ _ _) e0 HE0.out).mono ?_
        rintro e w1 ⟨rfl, hE⟩
        have q := bcell hE
        have qs := hE.size
        have HR1 := hid (heap_ext hE (res_new _ _ _ _))
        simp only [World.size_alloc] at q qs
        obtain ⟨q1, q2⟩ := q
        go_wp2_with fail
        refine (own_any _ _ lo yo w1 (HL.out.ext ((ext2 _ _ _).tr hE)) (HY.out.ext ((ext2 _ _ _).tr hE)) (by omega) (by omega)).mono ?_
        rintro e w2 ⟨pv, rfl, hP, hE2⟩
        obtain ⟨b, u1, u2, rfl, hb, hblk, ho1, ho2⟩ := hP
        obtain ⟨g1, m1, rfl⟩ := ho1.form
        obtain ⟨g2, m2, rfl⟩ := ho2.form
        have hc0 := blk_cells hblk 0
        have hc1 := blk_cells hblk 1
        simp at hc0 hc1
        have hbs : b < w2.heap.size := (Array.getElem?_eq_some_iff.1 hblk).1
        have HB := hid hblk; have HO1 := hid ho1; have HO2 := hid ho2
        clear hblk ho1 ho2
        have v := bcell hE2
        obtain ⟨v1, v2⟩ := v
        go_wp2_with fail
        refine (find_any w2.heap.size _ _ lo yo c _ (HO1.out.ints.ext (Ext.alloc _ _)) (HO2.out.ints.ext (Ext.alloc _ _)) (by simp) (by simp) (by simp)).mono ?_
        rw [HF.out]
        rintro e w3 ⟨rfl, hE3⟩
        have x := bcell hE3
        simp only [World.size_alloc] at x
        obtain ⟨x1, x2⟩ := x
        have HR3 := hid (heap_ext hE3 (heap_ext (Ext.alloc _ _) (heap_ext hE2 HR1.out)))
        have HB3 := hid (heap_ext hE3 (heap_ext (Ext.alloc _ _) HB.out))
        obtain ⟨s0, s1, sf, sb⟩ := blk2 HB3.out
        clear q1 q2 v1 v2 x1 x2 hc0 hc1
        go_wp2_with fail
        refine (of_lo b w3).mono ?_
        rintro e w3' ⟨rfl, rfl⟩
        go_wp2_with fail
        refine (put_any _ lo c bf _ ((HO1.out.ints.ext (Ext.alloc _ _)).ext hE3) (by omega)).mono ?_
        rintro e w4 ⟨nv, rfl, ho, hE4⟩
        obtain ⟨g, m, rfl⟩ := ho.form
        have HO := hid ho; clear ho
        have hws := (((((ext2 _ _ _).tr hE).tr hE2).tr (Ext.alloc w2 _)).tr hE3).size
        clear s0 s1 sf sb
        have HB4 := hid (heap_ext hE4 HB3.out)
        have HR4 := hid (heap_ext hE4 HR3.out)
        obtain ⟨s0, s1, sf, sb⟩ := blk2 HB4.out
        obtain ⟨r0, r1, rf, rb⟩ := blk2 HR4.out
        have hbR : b ≠ w.heap.size + 1 := by omega
        have hbR' : w.heap.size + 1 ≠ b := by omega
        go_wp2_with fail
        refine bodyPost_ret (v := .tuple #[.agg #[.slice g _ m, .slice g2 _ m2], .int .i64 0]) (by simp [results, Try.results43, go_sem, r0, r1, s0, s1, hbR, hbR', cell_setCell]; exact ⟨rfl, rfl⟩) rfl ⟨_, rfl, ⟨_, _, rfl, ?_, ?_⟩, ?_⟩
        · exact ((((HO.out.fre.base (by omega)).setB ⟨_, HB4.out⟩ rfl).setB (IsBlk.set ⟨_, HR4.out⟩ _ _) rfl).setB ((IsBlk.set ⟨_, HR4.out⟩ _ _).set _ _) rfl)
        · exact (((((((HO2.out.fre.ext (Ext.alloc _ _)).ext hE3).ext hE4).base (by omega)).setB ⟨_, HB4.out⟩ rfl).setB (IsBlk.set ⟨_, HR4.out⟩ _ _) rfl).setB ((IsBlk.set ⟨_, HR4.out⟩ _ _).set _ _) rfl)
        · repeat (refine Below.setCell ?_ (by simp; try omega) _)
          exact (((((ext2 _ _ _).tr hE).tr hE2).tr (Ext.alloc _ _)).tr hE3).tr hE4
      · have hs : placeS lo yo 1 c bf = ⟨lo, putL yo c bf, 0, 0⟩ := by
          unfold placeS; rw [← HE0.out, if_neg (by simp [HZ.out]), HF.out, if_neg HF3.out, if_neg (by decide)]
        rw [hs]; clear hs
        go_enter Try.func43, Try.ntmps43
        go_wp2_with fail
        refine (check_e _ _ lo yo _ c w _ HL.out HY.out (ext2 _ _ _) e0 HE0.out).mono ?_
        rintro e w1 ⟨rfl, hE⟩
        have q := bcell hE
        have qs := hE.size
        have HR1 := hid (heap_ext hE (res_new _ _ _ _))
        simp only [World.size_alloc] at q qs
        obtain ⟨q1, q2⟩ := q
        go_wp2_with fail
        refine (own_any _ _ lo yo w1 (HL.out.ext ((ext2 _ _ _).tr hE)) (HY.out.ext ((ext2 _ _ _).tr hE)) (by omega) (by omega)).mono ?_
        rintro e w2 ⟨pv, rfl, hP, hE2⟩
        obtain ⟨b, u1, u2, rfl, hb, hblk, ho1, ho2⟩ := hP
        obtain ⟨g1, m1, rfl⟩ := ho1.form
        obtain ⟨g2, m2, rfl⟩ := ho2.form
        have hc0 := blk_cells hblk 0
        have hc1 := blk_cells hblk 1
        simp at hc0 hc1
        have hbs : b < w2.heap.size := (Array.getElem?_eq_some_iff.1 hblk).1
        have HB := hid hblk; have HO1 := hid ho1; have HO2 := hid ho2
        clear hblk ho1 ho2
        have v := bcell hE2
        obtain ⟨v1, v2⟩ := v
        go_wp2_with fail
        refine (find_any w2.heap.size _ _ lo yo c _ (HO1.out.ints.ext (Ext.alloc _ _)) (HO2.out.ints.ext (Ext.alloc _ _)) (by simp) (by simp) (by simp)).mono ?_
        rw [HF.out]
        rintro e w3 ⟨rfl, hE3⟩
        have x := bcell hE3
        simp only [World.size_alloc] at x
        obtain ⟨x1, x2⟩ := x
        have HR3 := hid (heap_ext hE3 (heap_ext (Ext.alloc _ _) (heap_ext hE2 HR1.out)))
        have HB3 := hid (heap_ext hE3 (heap_ext (Ext.alloc _ _) HB.out))
        obtain ⟨s0, s1, sf, sb⟩ := blk2 HB3.out
        clear q1 q2 v1 v2 x1 x2 hc0 hc1
        go_wp2_with fail
        refine (of_yo b 1 rfl w3).mono ?_
        rintro e w3' ⟨rfl, rfl⟩
        go_wp2_with fail
        refine (put_any _ yo c bf _ ((HO2.out.ints.ext (Ext.alloc _ _)).ext hE3) (by omega)).mono ?_
        rintro e w4 ⟨nv, rfl, ho, hE4⟩
        obtain ⟨g, m, rfl⟩ := ho.form
        have HO := hid ho; clear ho
        have hws := (((((ext2 _ _ _).tr hE).tr hE2).tr (Ext.alloc w2 _)).tr hE3).size
        clear s0 s1 sf sb
        have HB4 := hid (heap_ext hE4 HB3.out)
        have HR4 := hid (heap_ext hE4 HR3.out)
        obtain ⟨s0, s1, sf, sb⟩ := blk2 HB4.out
        obtain ⟨r0, r1, rf, rb⟩ := blk2 HR4.out
        have hbR : b ≠ w.heap.size + 1 := by omega
        have hbR' : w.heap.size + 1 ≠ b := by omega
        go_wp2_with fail
        refine bodyPost_ret (v := .tuple #[.agg #[.slice g1 _ m1, .slice g _ m], .int .i64 0]) (by simp [results, Try.results43, go_sem, r0, r1, s0, s1, hbR, hbR', cell_setCell]; exact ⟨rfl, rfl⟩) rfl ⟨_, rfl, ⟨_, _, rfl, ?_, ?_⟩, ?_⟩
        · exact (((((((HO1.out.fre.ext (Ext.alloc _ _)).ext hE3).ext hE4).base (by omega)).setB ⟨_, HB4.out⟩ rfl).setB (IsBlk.set ⟨_, HR4.out⟩ _ _) rfl).setB ((IsBlk.set ⟨_, HR4.out⟩ _ _).set _ _) rfl)
        · exact ((((HO.out.fre.base (by omega)).setB ⟨_, HB4.out⟩ rfl).setB (IsBlk.set ⟨_, HR4.out⟩ _ _) rfl).setB ((IsBlk.set ⟨_, HR4.out⟩ _ _).set _ _) rfl)
        · repeat (refine Below.setCell ?_ (by simp; try omega) _)
          exact (((((ext2 _ _ _).tr hE).tr hE2).tr (Ext.alloc _ _)).tr hE3).tr hE4

set_option maxHeartbeats 500000 in
theorem Append_any (lv yv : Value) (lo yo : List Int) (tr c : Int) (w : World) (hl : Ints w lv lo) (hy : Ints w yv yo) :
    Calls Try.prog 13 #[.agg #[lv, yv], .int .i64 tr, .int .i64 c] w fun e w' => ∃ v, e = .returned (.tuple #[v, .int .i64 (placeS lo yo tr c false).e]) ∧
      TrF w' w.heap.size 3 v (placeS lo yo tr c false).lo (placeS lo yo tr c false).yo ∧ Ext w w' := by
  have HL := hid hl; have HY := hid hy; clear hl hy
  go_enter Try.func13, Try.ntmps13
  go_wp2_with fail
  refine (place_any _ _ lo yo _ _ _ _ (HL.out.ext (ext2 _ _ _)) (HY.out.ext (ext2 _ _ _))).mono ?_
  rintro e w1 ⟨v, rfl, ⟨u1, u2, rfl, h1, h2⟩, hE⟩
  obtain ⟨g1, m1, rfl⟩ := h1.form
  obtain ⟨g2, m2, rfl⟩ := h2.form
  have HU1 := hid h1; have HU2 := hid h2; clear h1 h2
  have HR := hid (heap_ext hE (res_new _ _ _ _))
  obtain ⟨r0, r1, rf, rb⟩ := blk2 HR.out
  go_wp2_with fail
  refine bodyPost_ret (v := .tuple #[.agg #[.slice g1 (placeS lo yo tr c false).lo.length m1, .slice g2 (placeS lo yo tr c false).yo.length m2], .int .i64 (placeS lo yo tr c false).e]) (by simp [results, Try.results13, go_sem, r0, r1, cell_setCell]) rfl ⟨_, rfl, ⟨_, _, rfl, ?_, ?_⟩, ?_⟩
  · exact (((HU1.out.base (by simp; omega)).setB ⟨_, HR.out⟩ rfl).setB (IsBlk.set ⟨_, HR.out⟩ _ _) rfl)
  · exact (((HU2.out.base (by simp; omega)).setB ⟨_, HR.out⟩ rfl).setB (IsBlk.set ⟨_, HR.out⟩ _ _) rfl)
  · repeat (refine Below.setCell ?_ (by simp; try omega) _)
    exact (ext2 _ _ _).tr hE

set_option maxHeartbeats 500000 in
theorem Insert_any (lv yv : Value) (lo yo : List Int) (tr c : Int) (w : World) (hl : Ints w lv lo) (hy : Ints w yv yo) :
    Calls Try.prog 15 #[.agg #[lv, yv], .int .i64 tr, .int .i64 c] w fun e w' => ∃ v, e = .returned (.tuple #[v, .int .i64 (placeS lo yo tr c true).e]) ∧
      TrF w' w.heap.size 3 v (placeS lo yo tr c true).lo (placeS lo yo tr c true).yo ∧ Ext w w' := by
  have HL := hid hl; have HY := hid hy; clear hl hy
  go_enter Try.func15, Try.ntmps15
  go_wp2_with fail
  refine (place_any _ _ lo yo _ _ _ _ (HL.out.ext (ext2 _ _ _)) (HY.out.ext (ext2 _ _ _))).mono ?_
  rintro e w1 ⟨v, rfl, ⟨u1, u2, rfl, h1, h2⟩, hE⟩
  obtain ⟨g1, m1, rfl⟩ := h1.form
  obtain ⟨g2, m2, rfl⟩ := h2.form
  have HU1 := hid h1; have HU2 := hid h2; clear h1 h2
  have HR := hid (heap_ext hE (res_new _ _ _ _))
  obtain ⟨r0, r1, rf, rb⟩ := blk2 HR.out
  go_wp2_with fail
  refine bodyPost_ret (v := .tuple #[.agg #[.slice g1 (placeS lo yo tr c true).lo.length m1, .slice g2 (placeS lo yo tr c true).yo.length m2], .int .i64 (placeS lo yo tr c true).e]) (by simp [results, Try.results15, go_sem, r0, r1, cell_setCell]) rfl ⟨_, rfl, ⟨_, _, rfl, ?_, ?_⟩, ?_⟩
  · exact (((HU1.out.base (by simp; omega)).setB ⟨_, HR.out⟩ rfl).setB (IsBlk.set ⟨_, HR.out⟩ _ _) rfl)
  · exact (((HU2.out.base (by simp; omega)).setB ⟨_, HR.out⟩ rfl).setB (IsBlk.set ⟨_, HR.out⟩ _ _) rfl)
  · repeat (refine Below.setCell ?_ (by simp; try omega) _)
    exact (ext2 _ _ _).tr hE

end Go.Proofs.Ytfnbfmlnageflaa
