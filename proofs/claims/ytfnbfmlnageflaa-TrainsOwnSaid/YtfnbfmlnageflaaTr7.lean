import Derived.Test.YtfnbfmlnageflaaTr6
namespace Go.Proofs.Ytfnbfmlnageflaa
open Go.RowKit Go.Own

set_option maxHeartbeats 500000 in
theorem First_any (lv yv : Value) (lo yo : List Int) (w : World) (hl : Ints w lv lo) (hy : Ints w yv yo) (hm : lo.length ≤ 1000) (hm2 : yo.length ≤ 1000) :
    Calls Try.prog 18 #[.agg #[lv, yv]] w fun e w' => e = .returned (.tuple #[.int .i64 (takeS lo yo).car, .int .i64 (takeS lo yo).e]) ∧ Ext w w' := by
  have HL := hid hl; have HY := hid hy; clear hl hy
  go_enter Try.func18, Try.ntmps18
  go_wp2_with fail
  refine (Take_any _ _ lo yo _ (HL.out.ext (Ext.alloc _ _)) (HY.out.ext (Ext.alloc _ _)) hm hm2).mono ?_
  rintro e w1 ⟨v, rfl, ⟨u1, u2, rfl, h1, h2⟩, hE⟩
  clear h1 h2
  go_wp2_with fail
  go_ret2
  exact ⟨rfl, (Ext.alloc _ _).tr hE⟩

set_option maxHeartbeats 500000 in
theorem Turn_any (lv yv : Value) (lo yo : List Int) (w : World) (hl : Ints w lv lo) (hy : Ints w yv yo) :
    Calls Try.prog 34 #[.agg #[lv, yv]] w fun e w' => ∃ v, e = .returned (.tuple #[v, .int .i64 (turnS lo yo).e]) ∧ TrF w' w.heap.size 3 v (turnS lo yo).lo (turnS lo yo).yo ∧ Ext w w' := by
  obtain ⟨a1, n1, rfl⟩ := hl.form
  obtain ⟨a2, n2, rfl⟩ := hy.form
  have HL := hid hl; have HY := hid hy; clear hl hy
  obtain ⟨e0, he0⟩ : ∃ e0, e0 = (chk lo yo).2.2 := ⟨_, rfl⟩
  have HE0 := hid he0; clear he0
  by_cases hne : (e0 != 0) = true
  · have hs : turnS lo yo = ⟨[], [], 0, e0⟩ := by
      have : e0 ≠ 0 := by simpa using hne
      unfold turnS; rw [← HE0.out, if_pos this]
    rw [hs]; clear hs
    go_enter Try.func34, Try.ntmps34
    go_wp2_with fail
    refine (Check_e _ _ lo yo w _ HL.out HY.out (ext2 _ _ _) e0 HE0.out).mono ?_
    rintro e w1 ⟨rfl, hE⟩
    have HR := hid (heap_ext hE (res_new _ _ _ _))
    obtain ⟨r0, r1, rf, rb⟩ := blk2 HR.out
    have HT := hid (heap_ext hE (heap_ext (Ext.alloc _ _) (heap_alloc_new w _)))
    obtain ⟨t0, t1, tf, tb⟩ := blk2 HT.out
    go_wp2_with fail
    refine bodyPost_ret (v := .tuple #[.agg #[.slice none 0 0, .slice none 0 0], .int .i64 e0]) (by simp [results, Try.results34, go_sem, r0, r1]) rfl ⟨_, rfl, TrF.nil _ _ _, ?_⟩
    repeat (refine Below.setCell ?_ (by simp; try omega) _)
    exact (ext2 _ _ _).tr hE
  have hne : (e0 != 0) = false := by simpa using hne
  have hz : e0 = 0 := by simpa using hne
  have HZ := hid hz; clear hz
  have HK := hid (chk_ok_len (HE0.out.symm.trans HZ.out))
  by_cases hl0 : 0 < lo.length
  · have hs : turnS lo yo = ⟨[], [], 0, 9⟩ := by unfold turnS; rw [← HE0.out, if_neg (by simp [HZ.out]), if_pos hl0]
    rw [hs]; clear hs
    go_enter Try.func34, Try.ntmps34
    go_wp2_with fail
    refine (Check_e _ _ lo yo w _ HL.out HY.out (ext2 _ _ _) e0 HE0.out).mono ?_
    rintro e w1 ⟨rfl, hE⟩
    have HR := hid (heap_ext hE (res_new _ _ _ _))
    obtain ⟨r0, r1, rf, rb⟩ := blk2 HR.out
    have HT := hid (heap_ext hE (heap_ext (Ext.alloc _ _) (heap_alloc_new w _)))
    obtain ⟨t0, t1, tf, tb⟩ := blk2 HT.out
    go_wp2_with fail
    refine bodyPost_ret (v := .tuple #[.agg #[.slice none 0 0, .slice none 0 0], .int .i64 9]) (by simp [results, Try.results34, go_sem, r0, r1]) rfl ⟨_, rfl, TrF.nil _ _ _, ?_⟩
    repeat (refine Below.setCell ?_ (by simp; try omega) _)
    exact (ext2 _ _ _).tr hE
  · have hs : turnS lo yo = ⟨yo, [], 0, 0⟩ := by unfold turnS; rw [← HE0.out, if_neg (by simp [HZ.out]), if_neg hl0]
    rw [hs]; clear hs
    go_enter Try.func34, Try.ntmps34
    go_wp2_with fail
    refine (Check_e _ _ lo yo w _ HL.out HY.out (ext2 _ _ _) e0 HE0.out).mono ?_
    rintro e w1 ⟨rfl, hE⟩
    have HR := hid (heap_ext hE (res_new _ _ _ _))
    obtain ⟨r0, r1, rf, rb⟩ := blk2 HR.out
    have HT := hid (heap_ext hE (heap_ext (Ext.alloc _ _) (heap_alloc_new w _)))
    obtain ⟨t0, t1, tf, tb⟩ := blk2 HT.out
    go_wp2_with fail
    refine (joined_any _ [yo] _ ⟨[.slice a2 yo.length n2], by simpa using Sl.alloc w1 [.slice a2 yo.length n2] 22 (by simp), .cons (HY.out.ext (((ext2 _ _ _).tr hE).tr (Ext.alloc _ _))) (.nil _)⟩ (by have := HK.out.2; simp; omega)).mono ?_
    rintro e w2 ⟨r, rfl, ho, hE2⟩
    simp only [List.flatten_cons, List.flatten_nil, List.append_nil] at ho
    obtain ⟨g, m, rfl⟩ := ho.form
    have HO := hid ho; clear ho
    clear r0 r1 rf rb
    have HR2 := hid (heap_ext hE2 (heap_ext (Ext.alloc _ _) HR.out))
    obtain ⟨r0, r1, rf, rb⟩ := blk2 HR2.out
    go_wp2_with fail
    refine bodyPost_ret (v := .tuple #[.agg #[.slice g yo.length m, .slice none 0 0], .int .i64 0]) (by simp [results, Try.results34, go_sem, r0, r1, cell_setCell]) rfl ⟨_, rfl, ⟨_, _, rfl, ?_, FreI.nil _ _ _⟩, ?_⟩
    · have hs1 := ((ext2 w _ _).tr hE).size
      exact (((HO.out.fre.base (by simp; omega)).setB ⟨_, HR2.out⟩ rfl).setB (IsBlk.set ⟨_, HR2.out⟩ _ _) rfl)
    · repeat (refine Below.setCell ?_ (by simp; try omega) _)
      exact (((ext2 _ _ _).tr hE).tr (Ext.alloc _ _)).tr hE2

set_option maxHeartbeats 500000 in
theorem Find_any (lv yv : Value) (lo yo : List Int) (c : Int) (w : World) (hl : Ints w lv lo) (hy : Ints w yv yo) :
    Calls Try.prog 22 #[.agg #[lv, yv], .int .i64 c] w fun e w' => e = .returned (.tuple #[.int .i64 (findS lo yo c).1, .int .i64 (findS lo yo c).2.1, .int .i64 (findS lo yo c).2.2]) ∧ Ext w w' := by
  obtain ⟨a1, n1, rfl⟩ := hl.form
  obtain ⟨a2, n2, rfl⟩ := hy.form
  have HL := hid hl; have HY := hid hy; clear hl hy
  obtain ⟨e0, he0⟩ : ∃ e0, e0 = chkE lo yo 0 c := ⟨_, rfl⟩
  have HE0 := hid he0; clear he0
  by_cases hne : (e0 != 0) = true
  · have hs : findS lo yo c = (0, 0, e0) := by
      have : e0 ≠ 0 := by simpa using hne
      unfold findS; rw [← HE0.out, if_pos this]
    rw [hs]; clear hs
    go_enter Try.func22, Try.ntmps22
    go_wp2_with fail
    refine (check_e _ _ lo yo _ c w _ HL.out HY.out (Ext.alloc _ _) e0 HE0.out).mono ?_
    rintro e w1 ⟨rfl, hE⟩
    go_wp2_with fail
    go_ret3
    exact ⟨rfl, (Ext.alloc _ _).tr hE⟩
  · have hne : (e0 != 0) = false := by simpa using hne
    have hs : findS lo yo c = findT lo yo c := by
      have : e0 = 0 := by simpa using hne
      unfold findS; rw [← HE0.out, if_neg (by simp [this])]
    rw [hs]; clear hs
    go_enter Try.func22, Try.ntmps22
    go_wp2_with fail
    refine (check_e _ _ lo yo _ c w _ HL.out HY.out (Ext.alloc _ _) e0 HE0.out).mono ?_
    rintro e w1 ⟨rfl, hE⟩
    have HT := hid (heap_ext hE (heap_alloc_new w _))
    obtain ⟨t0, t1, tf, tb⟩ := blk2 HT.out
    go_wp2_with fail
    refine (find_any w1.heap.size _ _ lo yo c _ (HL.out.ext (((Ext.alloc _ _).tr hE).tr (Ext.alloc _ _))) (HY.out.ext (((Ext.alloc _ _).tr hE).tr (Ext.alloc _ _))) (by simp) (by simp) (by simp)).mono ?_
    rintro e w2 ⟨rfl, hE2⟩
    go_wp2_with fail
    go_ret3
    exact ⟨rfl, (((Ext.alloc _ _).tr hE).tr (Ext.alloc _ _)).tr hE2⟩

set_option maxHeartbeats 500000 in
theorem Cars_any (lv yv : Value) (lo yo : List Int) (tr : Int) (w : World) (hl : Ints w lv lo) (hy : Ints w yv yo) :
    Calls Try.prog 23 #[.agg #[lv, yv], .int .i64 tr] w fun e w' => ∃ v, e = .returned (.tuple #[v, .int .i64 (carsS lo yo tr).2]) ∧ FreI w' w.heap.size 3 v (carsS lo yo tr).1 ∧ Ext w w' := by
  obtain ⟨a1, n1, rfl⟩ := hl.form
  obtain ⟨a2, n2, rfl⟩ := hy.form
  have HL := hid hl; have HY := hid hy; clear hl hy
  obtain ⟨e0, he0⟩ : ∃ e0, e0 = chkE lo yo tr 0 := ⟨_, rfl⟩
  have HE0 := hid he0; clear he0
  by_cases hne : (e0 != 0) = true
  · have hs : carsS lo yo tr = ([], e0) := by
      have : e0 ≠ 0 := by simpa using hne
      unfold carsS; rw [← HE0.out, if_pos this]
    rw [hs]; clear hs
    go_enter Try.func23, Try.ntmps23
    go_wp2_with fail
    refine (check_e _ _ lo yo _ 0 w _ HL.out HY.out (Ext.alloc _ _) e0 HE0.out).mono ?_
    rintro e w1 ⟨rfl, hE⟩
    go_wp2_with fail
    go_ret2
    exact ⟨_, rfl, FreI.nil _ _ _, (Ext.alloc _ _).tr hE⟩
  · have hne : (e0 != 0) = false := by simpa using hne
    have hz : e0 = 0 := by simpa using hne
    have HZ := hid hz; clear hz
    have HK := hid (chkE_ok (HE0.out.symm.trans HZ.out))
    have hl24 := (chk_ok_len HK.out.1).1
    have hy24 := (chk_ok_len HK.out.1).2
    rcases HK.out.2.1 with rfl | rfl
    · have hs : carsS lo yo 0 = (lo, 0) := by unfold carsS; rw [← HE0.out, if_neg (by simp [HZ.out])]; rfl
      rw [hs]; clear hs
      go_enter Try.func23, Try.ntmps23
      go_wp2_with fail
      refine (check_e _ _ lo yo _ 0 w _ HL.out HY.out (Ext.alloc _ _) e0 HE0.out).mono ?_
      rintro e w1 ⟨rfl, hE⟩
      have HT := hid (heap_ext hE (heap_alloc_new w _))
      obtain ⟨t0, t1, tf, tb⟩ := blk2 HT.out
      go_wp2_with fail
      refine (own_any _ _ lo yo w1 (HL.out.ext ((Ext.alloc _ _).tr hE)) (HY.out.ext ((Ext.alloc _ _).tr hE)) (by omega) (by omega)).mono ?_
      rintro e w2 ⟨pv, rfl, hP, hE2⟩
      obtain ⟨b, u1, u2, rfl, hb, hblk, ho1, ho2⟩ := hP
      have HB := hid hblk; have HO1 := hid ho1; have HO2 := hid ho2
      clear hblk ho1 ho2
      obtain ⟨s0, s1, sf, sb⟩ := blk2 HB.out
      go_wp2_with fail
      refine (of_lo b w2).mono ?_
      rintro e w2' ⟨rfl, rfl⟩
      go_wp2_with fail
      go_ret2
      have hs1 := ((Ext.alloc w _).tr hE).size
      exact ⟨_, rfl, HO1.out.fre.base (by omega), ((Ext.alloc _ _).tr hE).tr hE2⟩
    · have hs : carsS lo yo 1 = (yo, 0) := by unfold carsS; rw [← HE0.out, if_neg (by simp [HZ.out])]; rfl
      rw [hs]; clear hs
      go_enter Try.func23, Try.ntmps23
      go_wp2_with fail
      refine (check_e _ _ lo yo _ 0 w _ HL.out HY.out (Ext.alloc _ _) e0 HE0.out).mono ?_
      rintro e w1 ⟨rfl, hE⟩
      have HT := hid (heap_ext hE (heap_alloc_new w _))
      obtain ⟨t0, t1, tf, tb⟩ := blk2 HT.out
      go_wp2_with fail
      refine (own_any _ _ lo yo w1 (HL.out.ext ((Ext.alloc _ _).tr hE)) (HY.out.ext ((Ext.alloc _ _).tr hE)) (by omega) (by omega)).mono ?_
      rintro e w2 ⟨pv, rfl, hP, hE2⟩
      obtain ⟨b, u1, u2, rfl, hb, hblk, ho1, ho2⟩ := hP
      have HB := hid hblk; have HO1 := hid ho1; have HO2 := hid ho2
      clear hblk ho1 ho2
      obtain ⟨s0, s1, sf, sb⟩ := blk2 HB.out
      go_wp2_with fail
      refine (of_yo b 1 rfl w2).mono ?_
      rintro e w2' ⟨rfl, rfl⟩
      go_wp2_with fail
      go_ret2
      have hs1 := ((Ext.alloc w _).tr hE).size
      exact ⟨_, rfl, HO2.out.fre.base (by omega), ((Ext.alloc _ _).tr hE).tr hE2⟩

set_option maxHeartbeats 500000 in
theorem Last_any (lv yv : Value) (lo yo : List Int) (tr : Int) (w : World) (hl : Ints w lv lo) (hy : Ints w yv yo) :
    Calls Try.prog 30 #[.agg #[lv, yv], .int .i64 tr] w fun e w' => e = .returned (.tuple #[.int .i64 (lastS lo yo tr).1, .int .i64 (lastS lo yo tr).2]) ∧ Ext w w' := by
  have HL := hid hl; have HY := hid hy; clear hl hy
  obtain ⟨L, hL⟩ : ∃ L, L = carsS lo yo tr := ⟨_, rfl⟩
  obtain ⟨zs, e0⟩ := L
  have HC := hid hL; clear hL
  have hcars := fun wx hE => (Cars_any lv yv lo yo tr wx (HL.out.ext hE) (HY.out.ext hE)).mono (R' := fun e w' => ∃ v, e = .returned (.tuple #[v, .int .i64 e0]) ∧ FreI w' wx.heap.size 3 v zs ∧ Ext wx w') (by rw [← HC.out]; exact fun _ _ h => h)
  have HCA := hid hcars; clear hcars
  by_cases hne : (e0 != 0) = true
  · have hs : lastS lo yo tr = (0, e0) := by
      have : e0 ≠ 0 := by simpa using hne
      unfold lastS; rw [← HC.out, if_pos this]
    rw [hs]; clear hs
    go_enter Try.func30, Try.ntmps30
    go_wp2_with fail
    refine (HCA.out _ (Ext.alloc _ _)).mono ?_
    rintro e w1 ⟨v, rfl, hf, hE⟩
    go_wp2_with fail
    go_ret2
    exact ⟨rfl, (Ext.alloc _ _).tr hE⟩
  have hne : (e0 != 0) = false := by simpa using hne
  have hz : e0 = 0 := by simpa using hne
  have HZ := hid hz; clear hz
  by_cases hl0 : zs.length = 0
  · have hs : lastS lo yo tr = (0, 4) := by
      obtain rfl := List.eq_nil_of_length_eq_zero hl0
      unfold lastS; rw [← HC.out, if_neg (by simp [HZ.out])]; rfl
    rw [hs]; clear hs
    go_enter Try.func30, Try.ntmps30
    go_wp2_with fail
    refine (HCA.out _ (Ext.alloc _ _)).mono ?_
    rintro e w1 ⟨v, rfl, hf, hE⟩
    obtain ⟨g, m, rfl⟩ := hf.form
    clear hf
    go_wp2_with fail
    go_ret2
    exact ⟨rfl, (Ext.alloc _ _).tr hE⟩
  · obtain ⟨x, hx⟩ : ∃ x, zs[zs.length - 1]? = some x := ⟨_, List.getElem?_eq_getElem (by omega)⟩
    have hs : lastS lo yo tr = (x, 0) := by
      unfold lastS; rw [← HC.out, if_neg (by simp [HZ.out])]
      simp only [List.getLast?_eq_getElem?, hx]
    rw [hs]; clear hs
    have HX := hid hx; clear hx
    have hl1 : ((zs.length : Int) == 0) = false := by simp; intro h; subst h; simp at hl0
    have hpos : 0 < zs.length := by omega
    clear hl0
    go_enter Try.func30, Try.ntmps30
    go_wp2_with fail
    refine (HCA.out _ (Ext.alloc _ _)).mono ?_
    rintro e w1 ⟨v, rfl, hf, hE⟩
    obtain ⟨g, m, rfl⟩ := hf.form
    have hcap := hf.1.cap.2
    obtain ⟨b, off, y, rfl, hy1, hc⟩ := hf.1.at (k := zs.length - 1) (by omega)
    have hyx : y = x := by rw [HX.out] at hy1; cases hy1; rfl
    subst hyx
    clear hy1 hf
    go_wp2_with fail
    go_ret2
    exact ⟨rfl, (Ext.alloc _ _).tr hE⟩

end Go.Proofs.Ytfnbfmlnageflaa
