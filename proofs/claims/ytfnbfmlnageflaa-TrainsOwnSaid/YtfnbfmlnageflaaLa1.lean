import Derived.Test.YtfnbfmlnageflaaRf2
namespace Go.Proofs.Ytfnbfmlnageflaa
open Go.RowKit Go.Own

theorem lit2 (w : World) (x y : Int) (e : TypeId) : Ints (w.alloc (.cells #[.int .i64 x, .int .i64 y] e)) (.slice (some ⟨w.heap.size, 0, none⟩) 2 2) [x, y] := by
  have := Sl.alloc w [.int .i64 x, .int .i64 y] e (by simp)
  exact this
theorem lit1 (w : World) (x : Int) (e : TypeId) : Ints (w.alloc (.cells #[.int .i64 x] e)) (.slice (some ⟨w.heap.size, 0, none⟩) 1 1) [x] := by
  have := Sl.alloc w [.int .i64 x] e (by simp)
  exact this
theorem lit3 (w : World) (x y z : Int) (e : TypeId) : Ints (w.alloc (.cells #[.int .i64 x, .int .i64 y, .int .i64 z] e)) (.slice (some ⟨w.heap.size, 0, none⟩) 3 3) [x, y, z] := by
  have := Sl.alloc w [.int .i64 x, .int .i64 y, .int .i64 z] e (by simp)
  exact this
theorem lit2' (w : World) (k : Nat) (x y : Int) (e : TypeId) (hk : w.heap.size = k) : Ints (w.alloc (.cells #[.int .i64 x, .int .i64 y] e)) (.slice (some ⟨k, 0, none⟩) 2 2) [x, y] := by
  subst hk; exact lit2 w x y e
theorem lit3' (w : World) (k : Nat) (x y z : Int) (e : TypeId) (hk : w.heap.size = k) : Ints (w.alloc (.cells #[.int .i64 x, .int .i64 y, .int .i64 z] e)) (.slice (some ⟨k, 0, none⟩) 3 3) [x, y, z] := by
  subst hk; exact lit3 w x y z e

theorem aw_append : placeS [3, 1] [5, 0] 1 7 false = ⟨[3, 1], [5, 0, 7], 0, 0⟩ := by rfl
theorem aw_insert : placeS [3, 1] [5, 0] 1 7 true = ⟨[3, 1], [5, 7, 0], 0, 0⟩ := by rfl
theorem aw_take : takeS [3, 1] [5, 0] = ⟨[1], [5, 0], 3, 0⟩ := by rfl
theorem aw_relink : relinkS [3, 1] [5, 0] true = ⟨[1], [5, 3, 0], 3, 0⟩ := by rfl
theorem aw_turn : turnS [3, 1] [5, 0] = ⟨[], [], 0, 9⟩ := by rfl
theorem aw_clear : clearS [3, 1] [5, 0] = ⟨[3, 1], [5, 0], 0, 0⟩ := by rfl
theorem aw_find : findS [3, 1] [5, 0] 0 = (1, 1, 0) := by rfl

set_option maxHeartbeats 4000000 in
theorem awake_any (w : World) : Calls Try.prog 12 #[] w fun e w' => e = .returned (.bool true) ∧ Ext w w' := by
  go_enter Try.func12, Try.ntmps12
  go_wp2_with fail
  refine (trained_any _ _ 2 2 2 2 _).mono ?_
  rintro e w1 ⟨rfl, hE⟩
  have HW := hid ((ext2 w _ _).tr hE)
  have HL := hid (((lit2 w 3 1 3).ext (Ext.alloc _ _)).ext hE)
  have HY := hid ((lit2' (w.alloc (.cells #[.int .i64 3, .int .i64 1] 3)) (w.heap.size + 1) 5 0 3 (by simp)).ext hE)
  clear hE
  go_wp2_with fail
  have C := fun W hW => Append_any _ _ [3, 1] [5, 0] 1 7 W (HL.out.ext hW) (HY.out.ext hW) 
  simp only [aw_append] at C
  refine (C _ (Ext.alloc _ _)).mono ?_
  clear C
  rintro e w2 ⟨v, rfl, ⟨u1, u2, rfl, h1, h2⟩, hE⟩
  obtain ⟨g1, m1, rfl⟩ := h1.form
  obtain ⟨g2, m2, rfl⟩ := h2.form
  replace HW := hid (HW.out.tr ((Ext.alloc _ _).tr hE))
  replace HL := hid (HL.out.ext ((Ext.alloc _ _).tr hE))
  replace HY := hid (HY.out.ext ((Ext.alloc _ _).tr hE))
  have BT := hid (heap_ext hE (heap_alloc_new w1 _))
  have HAppend1 := hid h1.1
  have HAppend2 := hid h2.1
  clear h1 h2
  clear hE
  obtain ⟨t0, t1, tf, tb⟩ := blk2 BT.out
  go_wp2_with fail
  clear t0 t1 tf tb
  have C := fun W hW => Insert_any _ _ [3, 1] [5, 0] 1 7 W (HL.out.ext hW) (HY.out.ext hW) 
  simp only [aw_insert] at C
  refine (C _ (Ext.alloc _ _)).mono ?_
  clear C
  rintro e w3 ⟨v, rfl, ⟨u1, u2, rfl, h1, h2⟩, hE⟩
  obtain ⟨g1, m1, rfl⟩ := h1.form
  obtain ⟨g2, m2, rfl⟩ := h2.form
  replace HW := hid (HW.out.tr ((Ext.alloc _ _).tr hE))
  replace HL := hid (HL.out.ext ((Ext.alloc _ _).tr hE))
  replace HY := hid (HY.out.ext ((Ext.alloc _ _).tr hE))
  replace HAppend1 := hid (HAppend1.out.ext ((Ext.alloc _ _).tr hE))
  replace HAppend2 := hid (HAppend2.out.ext ((Ext.alloc _ _).tr hE))
  replace BT := hid (heap_ext ((Ext.alloc _ _).tr hE) BT.out)
  have BA := hid (heap_ext hE (heap_alloc_new w2 _))
  have HInsert1 := hid h1.1
  have HInsert2 := hid h2.1
  clear h1 h2
  clear hE
  obtain ⟨t0, t1, tf, tb⟩ := blk2 BT.out
  go_wp2_with fail
  clear t0 t1 tf tb
  have C := fun W hW => First_any _ _ [3, 1] [5, 0]  W (HL.out.ext hW) (HY.out.ext hW) (by simp) (by simp)
  simp only [aw_take] at C
  refine (C _ (Ext.alloc _ _)).mono ?_
  clear C
  rintro e w4 ⟨rfl, hE⟩
  replace HW := hid (HW.out.tr ((Ext.alloc _ _).tr hE))
  replace HL := hid (HL.out.ext ((Ext.alloc _ _).tr hE))
  replace HY := hid (HY.out.ext ((Ext.alloc _ _).tr hE))
  replace HAppend1 := hid (HAppend1.out.ext ((Ext.alloc _ _).tr hE))
  replace HAppend2 := hid (HAppend2.out.ext ((Ext.alloc _ _).tr hE))
  replace HInsert1 := hid (HInsert1.out.ext ((Ext.alloc _ _).tr hE))
  replace HInsert2 := hid (HInsert2.out.ext ((Ext.alloc _ _).tr hE))
  replace BT := hid (heap_ext ((Ext.alloc _ _).tr hE) BT.out)
  replace BA := hid (heap_ext ((Ext.alloc _ _).tr hE) BA.out)
  have BB := hid (heap_ext hE (heap_alloc_new w3 _))
  clear hE
  obtain ⟨t0, t1, tf, tb⟩ := blk2 BT.out
  go_wp2_with fail
  clear t0 t1 tf tb
  have C := fun W hW => Take_any _ _ [3, 1] [5, 0]  W (HL.out.ext hW) (HY.out.ext hW) (by simp) (by simp)
  simp only [aw_take] at C
  refine (C _ (Ext.rfl' _)).mono ?_
  clear C
  rintro e w5 ⟨v, rfl, ⟨u1, u2, rfl, h1, h2⟩, hE⟩
  obtain ⟨g1, m1, rfl⟩ := h1.form
  obtain ⟨g2, m2, rfl⟩ := h2.form
  replace HW := hid (HW.out.tr hE)
  replace HL := hid (HL.out.ext hE)
  replace HY := hid (HY.out.ext hE)
  replace HAppend1 := hid (HAppend1.out.ext hE)
  replace HAppend2 := hid (HAppend2.out.ext hE)
  replace HInsert1 := hid (HInsert1.out.ext hE)
  replace HInsert2 := hid (HInsert2.out.ext hE)
  replace BT := hid (heap_ext hE BT.out)
  replace BA := hid (heap_ext hE BA.out)
  replace BB := hid (heap_ext hE BB.out)
  have HTake1 := hid h1.1
  have HTake2 := hid h2.1
  clear h1 h2
  clear hE
  obtain ⟨t0, t1, tf, tb⟩ := blk2 BT.out
  go_wp2_with fail
  clear t0 t1 tf tb
  have C := fun W hW => Relink_any _ _ [3, 1] [5, 0] true W (HL.out.ext hW) (HY.out.ext hW) (by simp) (by simp)
  simp only [aw_relink] at C
  refine (C _ (Ext.alloc _ _)).mono ?_
  clear C
  rintro e w6 ⟨v, rfl, ⟨u1, u2, rfl, h1, h2⟩, hE⟩
  obtain ⟨g1, m1, rfl⟩ := h1.form
  obtain ⟨g2, m2, rfl⟩ := h2.form
  replace HW := hid (HW.out.tr ((Ext.alloc _ _).tr hE))
  replace HL := hid (HL.out.ext ((Ext.alloc _ _).tr hE))
  replace HY := hid (HY.out.ext ((Ext.alloc _ _).tr hE))
  replace HAppend1 := hid (HAppend1.out.ext ((Ext.alloc _ _).tr hE))
  replace HAppend2 := hid (HAppend2.out.ext ((Ext.alloc _ _).tr hE))
  replace HInsert1 := hid (HInsert1.out.ext ((Ext.alloc _ _).tr hE))
  replace HInsert2 := hid (HInsert2.out.ext ((Ext.alloc _ _).tr hE))
  replace HTake1 := hid (HTake1.out.ext ((Ext.alloc _ _).tr hE))
  replace HTake2 := hid (HTake2.out.ext ((Ext.alloc _ _).tr hE))
  replace BT := hid (heap_ext ((Ext.alloc _ _).tr hE) BT.out)
  replace BA := hid (heap_ext ((Ext.alloc _ _).tr hE) BA.out)
  replace BB := hid (heap_ext ((Ext.alloc _ _).tr hE) BB.out)
  have BD := hid (heap_ext hE (heap_alloc_new w5 _))
  have HRelink1 := hid h1.1
  have HRelink2 := hid h2.1
  clear h1 h2
  clear hE
  obtain ⟨t0, t1, tf, tb⟩ := blk2 BT.out
  go_wp2_with fail
  clear t0 t1 tf tb
  have C := fun W hW => Turn_any _ _ [3, 1] [5, 0]  W (HL.out.ext hW) (HY.out.ext hW) 
  simp only [aw_turn] at C
  refine (C _ (Ext.alloc _ _)).mono ?_
  clear C
  rintro e w7 ⟨v, rfl, ⟨u1, u2, rfl, h1, h2⟩, hE⟩
  obtain ⟨g1, m1, rfl⟩ := h1.form
  obtain ⟨g2, m2, rfl⟩ := h2.form
  replace HW := hid (HW.out.tr ((Ext.alloc _ _).tr hE))
  replace HL := hid (HL.out.ext ((Ext.alloc _ _).tr hE))
  replace HY := hid (HY.out.ext ((Ext.alloc _ _).tr hE))
  replace HAppend1 := hid (HAppend1.out.ext ((Ext.alloc _ _).tr hE))
  replace HAppend2 := hid (HAppend2.out.ext ((Ext.alloc _ _).tr hE))
  replace HInsert1 := hid (HInsert1.out.ext ((Ext.alloc _ _).tr hE))
  replace HInsert2 := hid (HInsert2.out.ext ((Ext.alloc _ _).tr hE))
  replace HTake1 := hid (HTake1.out.ext ((Ext.alloc _ _).tr hE))
  replace HTake2 := hid (HTake2.out.ext ((Ext.alloc _ _).tr hE))
  replace HRelink1 := hid (HRelink1.out.ext ((Ext.alloc _ _).tr hE))
  replace HRelink2 := hid (HRelink2.out.ext ((Ext.alloc _ _).tr hE))
  replace BT := hid (heap_ext ((Ext.alloc _ _).tr hE) BT.out)
  replace BA := hid (heap_ext ((Ext.alloc _ _).tr hE) BA.out)
  replace BB := hid (heap_ext ((Ext.alloc _ _).tr hE) BB.out)
  replace BD := hid (heap_ext ((Ext.alloc _ _).tr hE) BD.out)
  have BJ := hid (heap_ext hE (heap_alloc_new w6 _))
  clear h1 h2
  clear hE
  obtain ⟨t0, t1, tf, tb⟩ := blk2 BT.out
  go_wp2_with fail
  clear t0 t1 tf tb
  have C := fun W hW => Clear_any _ _ [3, 1] [5, 0]  W (HL.out.ext hW) (HY.out.ext hW) 
  simp only [aw_clear] at C
  refine (C _ (Ext.alloc _ _)).mono ?_
  clear C
  rintro e w8 ⟨v, u, rfl, ⟨u1, u2, rfl, h1, h2⟩, h3, hE⟩
  obtain ⟨g1, m1, rfl⟩ := h1.form
  obtain ⟨g2, m2, rfl⟩ := h2.form
  obtain ⟨g3, m3, rfl⟩ := h3.form
  replace HW := hid (HW.out.tr ((Ext.alloc _ _).tr hE))
  replace HL := hid (HL.out.ext ((Ext.alloc _ _).tr hE))
  replace HY := hid (HY.out.ext ((Ext.alloc _ _).tr hE))
  replace HAppend1 := hid (HAppend1.out.ext ((Ext.alloc _ _).tr hE))
  replace HAppend2 := hid (HAppend2.out.ext ((Ext.alloc _ _).tr hE))
  replace HInsert1 := hid (HInsert1.out.ext ((Ext.alloc _ _).tr hE))
  replace HInsert2 := hid (HInsert2.out.ext ((Ext.alloc _ _).tr hE))
  replace HTake1 := hid (HTake1.out.ext ((Ext.alloc _ _).tr hE))
  replace HTake2 := hid (HTake2.out.ext ((Ext.alloc _ _).tr hE))
  replace HRelink1 := hid (HRelink1.out.ext ((Ext.alloc _ _).tr hE))
  replace HRelink2 := hid (HRelink2.out.ext ((Ext.alloc _ _).tr hE))
  replace BT := hid (heap_ext ((Ext.alloc _ _).tr hE) BT.out)
  replace BA := hid (heap_ext ((Ext.alloc _ _).tr hE) BA.out)
  replace BB := hid (heap_ext ((Ext.alloc _ _).tr hE) BB.out)
  replace BD := hid (heap_ext ((Ext.alloc _ _).tr hE) BD.out)
  replace BJ := hid (heap_ext ((Ext.alloc _ _).tr hE) BJ.out)
  have BN := hid (heap_ext hE (heap_alloc_new w7 _))
  have HClear1 := hid h1.1
  have HClear2 := hid h2.1
  have HClear3 := hid h3.1
  clear h1 h2 h3
  clear hE
  obtain ⟨t0, t1, tf, tb⟩ := blk2 BT.out
  go_wp2_with fail
  clear t0 t1 tf tb
  have C := fun W hW => Find_any _ _ [3, 1] [5, 0] 0 W (HL.out.ext hW) (HY.out.ext hW) 
  simp only [aw_find] at C
  refine (C _ (Ext.alloc _ _)).mono ?_
  clear C
  rintro e w9 ⟨rfl, hE⟩
  replace HW := hid (HW.out.tr ((Ext.alloc _ _).tr hE))
  replace HL := hid (HL.out.ext ((Ext.alloc _ _).tr hE))
  replace HY := hid (HY.out.ext ((Ext.alloc _ _).tr hE))
  replace HAppend1 := hid (HAppend1.out.ext ((Ext.alloc _ _).tr hE))
  replace HAppend2 := hid (HAppend2.out.ext ((Ext.alloc _ _).tr hE))
  replace HInsert1 := hid (HInsert1.out.ext ((Ext.alloc _ _).tr hE))
  replace HInsert2 := hid (HInsert2.out.ext ((Ext.alloc _ _).tr hE))
  replace HTake1 := hid (HTake1.out.ext ((Ext.alloc _ _).tr hE))
  replace HTake2 := hid (HTake2.out.ext ((Ext.alloc _ _).tr hE))
  replace HRelink1 := hid (HRelink1.out.ext ((Ext.alloc _ _).tr hE))
  replace HRelink2 := hid (HRelink2.out.ext ((Ext.alloc _ _).tr hE))
  replace HClear1 := hid (HClear1.out.ext ((Ext.alloc _ _).tr hE))
  replace HClear2 := hid (HClear2.out.ext ((Ext.alloc _ _).tr hE))
  replace HClear3 := hid (HClear3.out.ext ((Ext.alloc _ _).tr hE))
  replace BT := hid (heap_ext ((Ext.alloc _ _).tr hE) BT.out)
  replace BA := hid (heap_ext ((Ext.alloc _ _).tr hE) BA.out)
  replace BB := hid (heap_ext ((Ext.alloc _ _).tr hE) BB.out)
  replace BD := hid (heap_ext ((Ext.alloc _ _).tr hE) BD.out)
  replace BJ := hid (heap_ext ((Ext.alloc _ _).tr hE) BJ.out)
  replace BN := hid (heap_ext ((Ext.alloc _ _).tr hE) BN.out)
  have BV := hid (heap_ext hE (heap_alloc_new w8 _))
  clear hE
  obtain ⟨x0, y0, z0, v0⟩ := blk2 BA.out
  go_wp2_with fail
  clear x0 y0 z0 v0
  refine (are_any _ _ _ _ [3, 1] [5, 0, 7] _ (HAppend1.out.ext (ext2 _ _ _)) (HAppend2.out.ext (ext2 _ _ _)) ((lit2 _ 3 1 _).ext (Ext.alloc _ _)) (lit3' _ _ 5 0 7 _ (by simp))).mono ?_
  rintro e w10 ⟨rfl, hE⟩
  replace HW := hid (HW.out.tr ((ext2 _ _ _).tr hE))
  replace HL := hid (HL.out.ext ((ext2 _ _ _).tr hE))
  replace HY := hid (HY.out.ext ((ext2 _ _ _).tr hE))
  replace HAppend1 := hid (HAppend1.out.ext ((ext2 _ _ _).tr hE))
  replace HAppend2 := hid (HAppend2.out.ext ((ext2 _ _ _).tr hE))
  replace HInsert1 := hid (HInsert1.out.ext ((ext2 _ _ _).tr hE))
  replace HInsert2 := hid (HInsert2.out.ext ((ext2 _ _ _).tr hE))
  replace HTake1 := hid (HTake1.out.ext ((ext2 _ _ _).tr hE))
  replace HTake2 := hid (HTake2.out.ext ((ext2 _ _ _).tr hE))
  replace HRelink1 := hid (HRelink1.out.ext ((ext2 _ _ _).tr hE))
  replace HRelink2 := hid (HRelink2.out.ext ((ext2 _ _ _).tr hE))
  replace HClear1 := hid (HClear1.out.ext ((ext2 _ _ _).tr hE))
  replace HClear2 := hid (HClear2.out.ext ((ext2 _ _ _).tr hE))
  replace HClear3 := hid (HClear3.out.ext ((ext2 _ _ _).tr hE))
  replace BT := hid (heap_ext ((ext2 _ _ _).tr hE) BT.out)
  replace BA := hid (heap_ext ((ext2 _ _ _).tr hE) BA.out)
  replace BB := hid (heap_ext ((ext2 _ _ _).tr hE) BB.out)
  replace BD := hid (heap_ext ((ext2 _ _ _).tr hE) BD.out)
  replace BJ := hid (heap_ext ((ext2 _ _ _).tr hE) BJ.out)
  replace BN := hid (heap_ext ((ext2 _ _ _).tr hE) BN.out)
  replace BV := hid (heap_ext ((ext2 _ _ _).tr hE) BV.out)
  clear hE
  obtain ⟨x0, y0, z0, v0⟩ := blk2 BB.out
  go_wp2_with fail
  clear x0 y0 z0 v0
  refine (are_any _ _ _ _ [3, 1] [5, 7, 0] _ (HInsert1.out.ext (ext2 _ _ _)) (HInsert2.out.ext (ext2 _ _ _)) ((lit2 _ 3 1 _).ext (Ext.alloc _ _)) (lit3' _ _ 5 7 0 _ (by simp))).mono ?_
  rintro e w11 ⟨rfl, hE⟩
  replace HW := hid (HW.out.tr ((ext2 _ _ _).tr hE))
  replace HL := hid (HL.out.ext ((ext2 _ _ _).tr hE))
  replace HY := hid (HY.out.ext ((ext2 _ _ _).tr hE))
  replace HAppend1 := hid (HAppend1.out.ext ((ext2 _ _ _).tr hE))
  replace HAppend2 := hid (HAppend2.out.ext ((ext2 _ _ _).tr hE))
  replace HInsert1 := hid (HInsert1.out.ext ((ext2 _ _ _).tr hE))
  replace HInsert2 := hid (HInsert2.out.ext ((ext2 _ _ _).tr hE))
  replace HTake1 := hid (HTake1.out.ext ((ext2 _ _ _).tr hE))
  replace HTake2 := hid (HTake2.out.ext ((ext2 _ _ _).tr hE))
  replace HRelink1 := hid (HRelink1.out.ext ((ext2 _ _ _).tr hE))
  replace HRelink2 := hid (HRelink2.out.ext ((ext2 _ _ _).tr hE))
  replace HClear1 := hid (HClear1.out.ext ((ext2 _ _ _).tr hE))
  replace HClear2 := hid (HClear2.out.ext ((ext2 _ _ _).tr hE))
  replace HClear3 := hid (HClear3.out.ext ((ext2 _ _ _).tr hE))
  replace BT := hid (heap_ext ((ext2 _ _ _).tr hE) BT.out)
  replace BA := hid (heap_ext ((ext2 _ _ _).tr hE) BA.out)
  replace BB := hid (heap_ext ((ext2 _ _ _).tr hE) BB.out)
  replace BD := hid (heap_ext ((ext2 _ _ _).tr hE) BD.out)
  replace BJ := hid (heap_ext ((ext2 _ _ _).tr hE) BJ.out)
  replace BN := hid (heap_ext ((ext2 _ _ _).tr hE) BN.out)
  replace BV := hid (heap_ext ((ext2 _ _ _).tr hE) BV.out)
  clear hE
  obtain ⟨x0, y0, z0, v0⟩ := blk2 BD.out
  go_wp2_with fail
  clear x0 y0 z0 v0
  refine (are_any _ _ _ _ [1] [5, 0] _ (HTake1.out.ext (ext2 _ _ _)) (HTake2.out.ext (ext2 _ _ _)) ((lit1 _ 1 _).ext (Ext.alloc _ _)) (lit2' _ _ 5 0 _ (by simp))).mono ?_
  rintro e w12 ⟨rfl, hE⟩
  replace HW := hid (HW.out.tr ((ext2 _ _ _).tr hE))
  replace HL := hid (HL.out.ext ((ext2 _ _ _).tr hE))
  replace HY := hid (HY.out.ext ((ext2 _ _ _).tr hE))
  replace HAppend1 := hid (HAppend1.out.ext ((ext2 _ _ _).tr hE))
  replace HAppend2 := hid (HAppend2.out.ext ((ext2 _ _ _).tr hE))
  replace HInsert1 := hid (HInsert1.out.ext ((ext2 _ _ _).tr hE))
  replace HInsert2 := hid (HInsert2.out.ext ((ext2 _ _ _).tr hE))
  replace HTake1 := hid (HTake1.out.ext ((ext2 _ _ _).tr hE))
  replace HTake2 := hid (HTake2.out.ext ((ext2 _ _ _).tr hE))
  replace HRelink1 := hid (HRelink1.out.ext ((ext2 _ _ _).tr hE))
  replace HRelink2 := hid (HRelink2.out.ext ((ext2 _ _ _).tr hE))
  replace HClear1 := hid (HClear1.out.ext ((ext2 _ _ _).tr hE))
  replace HClear2 := hid (HClear2.out.ext ((ext2 _ _ _).tr hE))
  replace HClear3 := hid (HClear3.out.ext ((ext2 _ _ _).tr hE))
  replace BT := hid (heap_ext ((ext2 _ _ _).tr hE) BT.out)
  replace BA := hid (heap_ext ((ext2 _ _ _).tr hE) BA.out)
  replace BB := hid (heap_ext ((ext2 _ _ _).tr hE) BB.out)
  replace BD := hid (heap_ext ((ext2 _ _ _).tr hE) BD.out)
  replace BJ := hid (heap_ext ((ext2 _ _ _).tr hE) BJ.out)
  replace BN := hid (heap_ext ((ext2 _ _ _).tr hE) BN.out)
  replace BV := hid (heap_ext ((ext2 _ _ _).tr hE) BV.out)
  clear hE
  obtain ⟨x0, y0, z0, v0⟩ := blk2 BJ.out
  go_wp2_with fail
  clear x0 y0 z0 v0
  refine (are_any _ _ _ _ [1] [5, 3, 0] _ (HRelink1.out.ext (ext2 _ _ _)) (HRelink2.out.ext (ext2 _ _ _)) ((lit1 _ 1 _).ext (Ext.alloc _ _)) (lit3' _ _ 5 3 0 _ (by simp))).mono ?_
  rintro e w13 ⟨rfl, hE⟩
  replace HW := hid (HW.out.tr ((ext2 _ _ _).tr hE))
  replace HL := hid (HL.out.ext ((ext2 _ _ _).tr hE))
  replace HY := hid (HY.out.ext ((ext2 _ _ _).tr hE))
  replace HAppend1 := hid (HAppend1.out.ext ((ext2 _ _ _).tr hE))
  replace HAppend2 := hid (HAppend2.out.ext ((ext2 _ _ _).tr hE))
  replace HInsert1 := hid (HInsert1.out.ext ((ext2 _ _ _).tr hE))
  replace HInsert2 := hid (HInsert2.out.ext ((ext2 _ _ _).tr hE))
  replace HTake1 := hid (HTake1.out.ext ((ext2 _ _ _).tr hE))
  replace HTake2 := hid (HTake2.out.ext ((ext2 _ _ _).tr hE))
  replace HRelink1 := hid (HRelink1.out.ext ((ext2 _ _ _).tr hE))
  replace HRelink2 := hid (HRelink2.out.ext ((ext2 _ _ _).tr hE))
  replace HClear1 := hid (HClear1.out.ext ((ext2 _ _ _).tr hE))
  replace HClear2 := hid (HClear2.out.ext ((ext2 _ _ _).tr hE))
  replace HClear3 := hid (HClear3.out.ext ((ext2 _ _ _).tr hE))
  replace BT := hid (heap_ext ((ext2 _ _ _).tr hE) BT.out)
  replace BA := hid (heap_ext ((ext2 _ _ _).tr hE) BA.out)
  replace BB := hid (heap_ext ((ext2 _ _ _).tr hE) BB.out)
  replace BD := hid (heap_ext ((ext2 _ _ _).tr hE) BD.out)
  replace BJ := hid (heap_ext ((ext2 _ _ _).tr hE) BJ.out)
  replace BN := hid (heap_ext ((ext2 _ _ _).tr hE) BN.out)
  replace BV := hid (heap_ext ((ext2 _ _ _).tr hE) BV.out)
  clear hE
  obtain ⟨x0, y0, z0, v0⟩ := blk2 BV.out
  go_wp2_with fail
  clear x0 y0 z0 v0
  refine (are_any _ _ _ _ [] [5, 0] _ (HClear1.out.ext (Ext.alloc _ _)) (HClear2.out.ext (Ext.alloc _ _)) (Ints.nil _) (lit2 _ 5 0 _)).mono ?_
  rintro e w14 ⟨rfl, hE⟩
  replace HW := hid (HW.out.tr ((Ext.alloc _ _).tr hE))
  replace HL := hid (HL.out.ext ((Ext.alloc _ _).tr hE))
  replace HY := hid (HY.out.ext ((Ext.alloc _ _).tr hE))
  replace HAppend1 := hid (HAppend1.out.ext ((Ext.alloc _ _).tr hE))
  replace HAppend2 := hid (HAppend2.out.ext ((Ext.alloc _ _).tr hE))
  replace HInsert1 := hid (HInsert1.out.ext ((Ext.alloc _ _).tr hE))
  replace HInsert2 := hid (HInsert2.out.ext ((Ext.alloc _ _).tr hE))
  replace HTake1 := hid (HTake1.out.ext ((Ext.alloc _ _).tr hE))
  replace HTake2 := hid (HTake2.out.ext ((Ext.alloc _ _).tr hE))
  replace HRelink1 := hid (HRelink1.out.ext ((Ext.alloc _ _).tr hE))
  replace HRelink2 := hid (HRelink2.out.ext ((Ext.alloc _ _).tr hE))
  replace HClear1 := hid (HClear1.out.ext ((Ext.alloc _ _).tr hE))
  replace HClear2 := hid (HClear2.out.ext ((Ext.alloc _ _).tr hE))
  replace HClear3 := hid (HClear3.out.ext ((Ext.alloc _ _).tr hE))
  replace BT := hid (heap_ext ((Ext.alloc _ _).tr hE) BT.out)
  replace BA := hid (heap_ext ((Ext.alloc _ _).tr hE) BA.out)
  replace BB := hid (heap_ext ((Ext.alloc _ _).tr hE) BB.out)
  replace BD := hid (heap_ext ((Ext.alloc _ _).tr hE) BD.out)
  replace BJ := hid (heap_ext ((Ext.alloc _ _).tr hE) BJ.out)
  replace BN := hid (heap_ext ((Ext.alloc _ _).tr hE) BN.out)
  replace BV := hid (heap_ext ((Ext.alloc _ _).tr hE) BV.out)
  clear hE
  go_wp2_with fail
  refine (Ints_any _ _ [3, 1] [3, 1] _ (HClear3.out.ext (Ext.alloc _ _)) (lit2 _ 3 1 _)).mono ?_
  rintro e w15 ⟨rfl, hE⟩
  have hq : eqI [3, 1] [3, 1] = true := by rfl
  rw [hq]
  replace HW := hid (HW.out.tr ((Ext.alloc _ _).tr hE))
  clear hE
  go_wp2_with fail
  go_ret
  exact ⟨rfl, HW.out⟩
end Go.Proofs.Ytfnbfmlnageflaa
