import Derived.Test.YtodbfgfbkgpooaaDoorProg
import Derived.Test.YtodbfgfbkgpooaaDoorRa7
import Derived.Test.YtodbfgfbkgpooaaDoorPl12
namespace Go.Proofs.YtodbfgfbkgpooaaDoor
open Go.RowKit Go.Own


set_option maxHeartbeats 4000000 in
theorem RankExternal_c {lv : Value} {lo : List Int} {yv : Value} {yo : List Int} {gT0 : Nat} {w : World} (h_lv : Ro w NoX (il .i64 lv lo)) (h_yv : Ro w NoX (il .i64 yv yo)) (hG0 : Ro w NoX (bx 0 gT0 #[.int .i64 (-1), .int .i64 (-1)]))  :
    Calls Tryd.prog 10 #[.agg #[lv, yv]] w fun e w' => e = .returned (.bool true) ∧ St w NoX [] w' := by
  refine calls_in 70 Tryd.func10 rfl rfl (by simp) (fun A0 hsz0 hdf0 hargs => ?_)
  have l0_0 := hargs 0 (.agg #[lv, yv]) rfl
  clear hargs; replace hsz0 : SzN A0 70 := ⟨hsz0⟩
  have hS := St.nil w
  have bh_lv := SlN.le (sl_SlN h_lv.at)
  have bh_yv := SlN.le (sl_SlN h_yv.at)
  refine wp_seq_k (fun K1 hK1 => ?_)
  -- region 0
  refine region_in ?_
  refine W_boxS (zs := #[lv, yv]) hS rfl rfl rfl l0_0 (by rfl) (fun g2 w2 c2 hc2 hS2 => ?_)
  replace hS2 : St w NoX [c2] w2 := hS2
  refine W_v rfl rfl (V_asg rfl rfl) ?_
  refine W_end ?_
  refine gen_Q (fun A3 hA3 => ?_)
  have hsz3 : SzN A3 70 := by rw [hA3]; infer_instance
  have hdf3 : A3.defers = [] := by rw [hA3]; simp only [df_put]; exact hdf0
  have l1_3 := lookE hA3 1 (es rfl (et rfl))
  clear hA3 hsz0 hdf0 l0_0
  refine then_n (hK1 _ _ ?_)
  clear hK1
  refine wp_seq_k (fun K4 hK4 => ?_)
  refine wp_seq_k (fun K5 hK5 => ?_)
  -- region 1
  refine region_in ?_
  refine W_r rfl rfl (VR_ldA rfl l1_3 (hS2.obj 0 rfl hc2) Tryd.underlying24 rfl (by kernel_rfl)) ?_
  refine W_call rfl rfl rfl Tryd.func24 (by kernel_rfl) rfl (args1 (et rfl)) (good_c (hS2.roC h_lv) (hS2.roC h_yv) ) ?_
  rintro _ w6 ⟨rfl, hP6⟩
  refine ⟨_, rfl, ?_⟩
  have hS6 := hS2.join hP6
  replace hS6 : St w NoX [c2] w6 := hS6
  refine W_v rfl rfl (V_notd rfl (et rfl)) ?_
  refine W_end ?_
  refine gen_Q (fun A7 hA7 => ?_)
  have hsz7 : SzN A7 70 := by rw [hA7]; infer_instance
  have hdf7 : A7.defers = [] := by rw [hA7]; simp only [df_put]; exact hdf3
  have l1_7 := lookE hA7 1 (es rfl (es rfl (es rfl l1_3)))
  have l12_7 := lookE hA7 12 (et rfl)
  clear hA7 hsz3 hdf3 l1_3
  refine then_n (hK5 _ _ ?_)
  clear hK5
  refine cond_dec l12_7 (fun c8 => ?_) (fun c8 => ?_)
  · skip
    refine wp_seq_k (fun K9 hK9 => ?_)
    -- region 2
    refine region_in ?_
    refine W_call rfl rfl rfl Tryd.func12 (by kernel_rfl) rfl (args0) (awk_c (hS6.roC hG0) ) ?_
    rintro _ w10 ⟨rfl, hP10⟩
    refine ⟨_, rfl, ?_⟩
    have hS10 := hS6.join hP10
    replace hS10 : St w NoX [c2] w10 := hS10
    refine W_v rfl rfl (V_asg rfl (et rfl)) ?_
    refine W_end ?_
    refine gen_Q (fun A11 hA11 => ?_)
    have hsz11 : SzN A11 70 := by rw [hA11]; infer_instance
    have hdf11 : A11.defers = [] := by rw [hA11]; simp only [df_put]; exact hdf7
    have l2_11 := lookE hA11 2 (et rfl)
    clear hA11 hsz7 hdf7 l1_7 l12_7
    have hS12 : St w NoX [] w10 := hS10.sel [] (by decide) rfl
    refine then_n (hK9 _ _ ?_)
    clear hK9
    refine wp_ret ?_
    refine then_ret ?_
    refine ret_in (results_1 Tryd.results10 (rv_tmp l2_11)) hdf11 ?_
    -- leaf T
    exact ⟨rfl, hS12.fin0⟩
  · skip
    have hgd : ¬ (30 < lo.length ∨ 30 < yo.length) ∧ (chk lo yo).2.2 = 0 := by first | exact c8 | exact Classical.not_not.1 c8
    have hg := hgd.2
    have hG := (chk_iff lo yo).1 hg
    have hl : lo.length ≤ 30 ∧ yo.length ≤ 30 := by omega
    obtain ⟨hla, hlb⟩ := hl
    have hL := allT_len hg
    refine wp_skip ?_
    refine then_n (hK4 _ _ ?_)
    clear hK4
    refine wp_seq_k (fun K13 hK13 => ?_)
    -- region 3
    refine region_in ?_
    refine W_r rfl rfl (VR_ldA rfl l1_7 (hS6.obj 0 rfl hc2) Tryd.underlying24 rfl (by kernel_rfl)) ?_
    refine W_call rfl rfl rfl Tryd.func33 (by kernel_rfl) rfl (args1 (et rfl)) (kAll_c (hS6.roC h_lv) (hS6.roC h_yv) (hS6.roC hG0) ) ?_
    rintro _ w14 ⟨v_14, rfl, hP14⟩
    refine ⟨_, rfl, ?_⟩
    obtain ⟨c_14, hc_14, hP14⟩ := gen1 hP14
    have hS14 := hS6.join hP14
    replace hS14 : St w NoX [c_14, c2] w14 := hS14
    refine W_v rfl rfl (V_mov rfl (et rfl)) ?_
    refine W_v rfl rfl (V_ext (v := v_14) rfl (et rfl) rfl) ?_
    refine W_v rfl rfl (V_ext (v := .int .i64 ((chk lo yo).2.2)) rfl (es rfl (et rfl)) rfl) ?_
    refine W_v rfl rfl (V_asg rfl (es rfl (et rfl))) ?_
    refine W_v rfl rfl (V_asg rfl (es rfl (et rfl))) ?_
    refine W_end ?_
    refine gen_Q (fun A15 hA15 => ?_)
    have hsz15 : SzN A15 70 := by rw [hA15]; infer_instance
    have hdf15 : A15.defers = [] := by rw [hA15]; simp only [df_put]; exact hdf7
    have l1_15 := lookE hA15 1 (es rfl (es rfl (es rfl (es rfl (es rfl (es rfl (es rfl l1_7)))))))
    have l3_15 := lookE hA15 3 (es rfl (et rfl))
    have l4_15 := lookE hA15 4 (et rfl)
    clear hA15 hsz7 hdf7 l1_7 l12_7
    refine then_n (hK13 _ _ ?_)
    clear hK13
    refine wp_seq_k (fun K16 hK16 => ?_)
    refine wp_seq_k (fun K17 hK17 => ?_)
    -- region 4
    refine region_in ?_
    refine W_v rfl rfl (V_mov rfl l4_15) ?_
    refine W_v rfl rfl (V_neq rfl (et rfl) rfl) ?_
    refine W_sure (c' := false) rfl rfl (V_mov rfl (et rfl)) (by rw [decide_eq_false_iff_not]; rw [hg]; simp) ?_
    refine W_v rfl (wanted_t rfl rfl (et rfl) (ez rfl)) (V_mov rfl (es rfl (es rfl (es rfl l3_15)))) ?_
    refine W_v rfl (wanted_t rfl rfl (es rfl (et rfl)) (ez rfl)) (V_lenS rfl (et rfl) (ow_at (hS14.chq 0 rfl hc_14)) Tryd.underlying53) ?_
    refine W_v rfl (wanted_t rfl rfl (es rfl (es rfl (et rfl))) (ez rfl)) (V_neq rfl (et rfl) rfl) ?_
    refine W_v rfl rfl (V_pickF rfl (es rfl (es rfl (es rfl (et rfl)))) (et rfl)) ?_
    refine W_end ?_
    refine gen_Q (fun A18 hA18 => ?_)
    have hsz18 : SzN A18 70 := by rw [hA18]; infer_instance
    have hdf18 : A18.defers = [] := by rw [hA18]; simp only [df_put]; exact hdf15
    have l1_18 := lookE hA18 1 (es rfl (es rfl (es rfl (es rfl (es rfl (es rfl (es rfl l1_15)))))))
    have l3_18 := lookE hA18 3 (es rfl (es rfl (es rfl (es rfl (es rfl (es rfl (es rfl l3_15)))))))
    have l25_18 := lookE hA18 25 (et rfl)
    clear hA18 hsz15 hdf15 l1_15 l3_15 l4_15
    refine then_n (hK17 _ _ ?_)
    clear hK17
    refine cond_not l25_18 (by rw [decide_eq_false_iff_not]; rw [hL]; simp) ?_
    refine wp_skip ?_
    refine then_n (hK16 _ _ ?_)
    clear hK16
    refine wp_seq_k (fun K19 hK19 => ?_)
    refine wp_seq_k (fun K20 hK20 => ?_)
    -- region 6
    refine region_in ?_
    refine W_v rfl rfl (V_asg rfl rfl) ?_
    refine W_end ?_
    refine gen_Q (fun A21 hA21 => ?_)
    have hsz21 : SzN A21 70 := by rw [hA21]; infer_instance
    have hdf21 : A21.defers = [] := by rw [hA21]; simp only [df_put]; exact hdf18
    have l1_21 := lookE hA21 1 (es rfl l1_18)
    have l3_21 := lookE hA21 3 (es rfl l3_18)
    have l5_21 := lookE hA21 5 (et rfl)
    clear hA21 hsz18 hdf18 l1_18 l3_18 l25_18
    refine then_n (hK20 _ _ ?_)
    clear hK20
    refine wp_block ?_
    -- loop 7
    refine loopX (fun mz A' w' => SzN A' 70 ∧ A'.defers = [] ∧ (∃ (a : Nat), (mz = 24 - a) ∧ (a ≤ 24) ∧ (EV A' (.tmp 5) = .int .i64 (a : Int)) ∧ (EV A' (.tmp 1) = EV A21 (.tmp 1)) ∧ (EV A' (.tmp 3) = EV A21 (.tmp 3)) ∧ (St w NoX [ro 2 rkC v_14 (allT lo yo), bx g2 24 #[lv, yv]] w'))) (24 - 0) ⟨hsz21, hdf21, 0, rfl, (by omega), ((l5_21).trans (by first | rfl | (simp; done) | (congr 1; omega))), rfl, rfl, (by subst hc_14 hc2; exact hS14)⟩ ?_
    clear hS14 hc_14 hc2
    rintro n22 A22 w22 ⟨hsz22, hdf22, a, hm22, ha, l5_22, u1_22, u3_22, hS22⟩
    have l1_22 := u1_22.trans l1_21
    have l3_22 := u3_22.trans l3_21
    obtain ⟨c_22, c2_22, hc_22, hc2_22, hS22⟩ := gen2 hS22
    refine wp_seq_k (fun K23 hK23 => ?_)
    refine wp_seq_k (fun K24 hK24 => ?_)
    -- region 7
    refine region_in ?_
    refine W_v rfl rfl (V_mov rfl l5_22) ?_
    refine W_v rfl rfl (V_lss rfl (et rfl) rfl) ?_
    refine W_end ?_
    refine gen_Q (fun A25 hA25 => ?_)
    have hsz25 : SzN A25 70 := by rw [hA25]; infer_instance
    have hdf25 : A25.defers = [] := by rw [hA25]; simp only [df_put]; exact hdf22
    have l1_25 := lookE hA25 1 (es rfl (es rfl l1_22))
    have l3_25 := lookE hA25 3 (es rfl (es rfl l3_22))
    have l5_25 := lookE hA25 5 (es rfl (es rfl l5_22))
    have l27_25 := lookE hA25 27 (et rfl)
    clear hA25 hsz22 hdf22 l5_22 l1_22 l3_22
    refine then_n (hK24 _ _ ?_)
    clear hK24
    refine cond_dec l27_25 (fun c26 => ?_) (fun c26 => ?_)
    · skip
      refine wp_skip ?_
      refine then_n (hK23 _ _ ?_)
      clear hK23
      refine wp_seq_k (fun K27 hK27 => ?_)
      refine wp_block ?_
      refine wp_seq_k (fun K28 hK28 => ?_)
      -- region 9
      refine region_in ?_
      refine W_v rfl rfl (V_asg rfl rfl) ?_
      refine W_end ?_
      refine gen_Q (fun A29 hA29 => ?_)
      have hsz29 : SzN A29 70 := by rw [hA29]; infer_instance
      have hdf29 : A29.defers = [] := by rw [hA29]; simp only [df_put]; exact hdf25
      have l1_29 := lookE hA29 1 (es rfl l1_25)
      have l3_29 := lookE hA29 3 (es rfl l3_25)
      have l5_29 := lookE hA29 5 (es rfl l5_25)
      have l6_29 := lookE hA29 6 (et rfl)
      clear hA29 hsz25 hdf25 l1_25 l3_25 l5_25 l27_25
      refine then_n (hK28 _ _ ?_)
      clear hK28
      refine wp_block ?_
      -- loop 10
      refine loopX (fun mz A' w' => SzN A' 70 ∧ A'.defers = [] ∧ (∃ (b : Nat), (mz = 25 - b) ∧ (b ≤ 25) ∧ (EV A' (.tmp 6) = .int .i64 ((b : Int) - 1)) ∧ (EV A' (.tmp 1) = EV A29 (.tmp 1)) ∧ (EV A' (.tmp 3) = EV A29 (.tmp 3)) ∧ (EV A' (.tmp 5) = EV A29 (.tmp 5)) ∧ (St w NoX [ro 2 rkC v_14 (allT lo yo), bx g2 24 #[lv, yv]] w'))) (25 - 0) ⟨hsz29, hdf29, 0, rfl, (by omega), ((l6_29).trans (by first | rfl | (simp; done) | (congr 1; omega))), rfl, rfl, rfl, (by subst hc_22 hc2_22; exact hS22)⟩ ?_
      clear hS22 hc_22 hc2_22
      rintro n30 A30 w30 ⟨hsz30, hdf30, b, hm30, hb, l6_30, u1_30, u3_30, u5_30, hS30⟩
      have l1_30 := u1_30.trans l1_29
      have l3_30 := u3_30.trans l3_29
      have l5_30 := u5_30.trans l5_29
      obtain ⟨c_30, c2_30, hc_30, hc2_30, hS30⟩ := gen2 hS30
      refine wp_seq_k (fun K31 hK31 => ?_)
      refine wp_seq_k (fun K32 hK32 => ?_)
      -- region 10
      refine region_in ?_
      refine W_v rfl rfl (V_mov rfl l6_30) ?_
      refine W_v rfl rfl (V_lss rfl (et rfl) rfl) ?_
      refine W_end ?_
      refine gen_Q (fun A33 hA33 => ?_)
      have hsz33 : SzN A33 70 := by rw [hA33]; infer_instance
      have hdf33 : A33.defers = [] := by rw [hA33]; simp only [df_put]; exact hdf30
      have l1_33 := lookE hA33 1 (es rfl (es rfl l1_30))
      have l3_33 := lookE hA33 3 (es rfl (es rfl l3_30))
      have l5_33 := lookE hA33 5 (es rfl (es rfl l5_30))
      have l6_33 := lookE hA33 6 (es rfl (es rfl l6_30))
      have l31_33 := lookE hA33 31 (et rfl)
      clear hA33 hsz30 hdf30 l6_30 l1_30 l3_30 l5_30
      refine then_n (hK32 _ _ ?_)
      clear hK32
      refine cond_dec l31_33 (fun c34 => ?_) (fun c34 => ?_)
      · skip
        refine wp_skip ?_
        refine then_n (hK31 _ _ ?_)
        clear hK31
        refine wp_seq_k (fun K35 hK35 => ?_)
        refine wp_block ?_
        refine wp_seq_k (fun K36 hK36 => ?_)
        -- region 12
        refine region_in ?_
        refine W_r rfl rfl (VR_ldA rfl l1_33 (hS30.obj 1 rfl hc2_30) Tryd.underlying24 rfl (by kernel_rfl)) ?_
        refine W_v rfl rfl (V_mov rfl (es rfl l6_33)) ?_
        refine W_v rfl rfl (V_mov rfl (es rfl (es rfl l5_33))) ?_
        refine W_call rfl rfl rfl Tryd.func20 (by kernel_rfl) rfl (args3 (es rfl (es rfl (et rfl))) (es rfl (et rfl)) (et rfl)) (kExt_c (a := ((b : Int) - 1)) (b := (a : Int)) (hS30.roC h_lv) (hS30.roC h_yv) (hS30.roC hG0) ) ?_
        rintro _ w37 ⟨rfl, hP37⟩
        refine ⟨_, rfl, ?_⟩
        have hS37 := hS30.join hP37
        replace hS37 : St w NoX [c_30, c2_30] w37 := hS37
        refine W_v rfl rfl (V_mov rfl (et rfl)) ?_
        refine W_v rfl rfl (V_ext (v := .bool ((exB lo yo ((b : Int) - 1) (a : Int)))) rfl (et rfl) rfl) ?_
        refine W_v rfl rfl (V_ext (v := .int .i64 ((exE lo yo ((b : Int) - 1) (a : Int)))) rfl (es rfl (et rfl)) rfl) ?_
        refine W_v rfl rfl (V_asg rfl (es rfl (et rfl))) ?_
        refine W_v rfl rfl (V_asg rfl (es rfl (et rfl))) ?_
        refine W_end ?_
        refine gen_Q (fun A38 hA38 => ?_)
        have hsz38 : SzN A38 70 := by rw [hA38]; infer_instance
        have hdf38 : A38.defers = [] := by rw [hA38]; simp only [df_put]; exact hdf33
        have l1_38 := lookE hA38 1 (es rfl (es rfl (es rfl (es rfl (es rfl (es rfl (es rfl (es rfl (es rfl l1_33)))))))))
        have l3_38 := lookE hA38 3 (es rfl (es rfl (es rfl (es rfl (es rfl (es rfl (es rfl (es rfl (es rfl l3_33)))))))))
        have l5_38 := lookE hA38 5 (es rfl (es rfl (es rfl (es rfl (es rfl (es rfl (es rfl (es rfl (es rfl l5_33)))))))))
        have l6_38 := lookE hA38 6 (es rfl (es rfl (es rfl (es rfl (es rfl (es rfl (es rfl (es rfl (es rfl l6_33)))))))))
        have l7_38 := lookE hA38 7 (es rfl (et rfl))
        have l8_38 := lookE hA38 8 (et rfl)
        clear hA38 hsz33 hdf33 l1_33 l3_33 l5_33 l6_33 l31_33
        refine then_n (hK36 _ _ ?_)
        clear hK36
        refine wp_seq_k (fun K39 hK39 => ?_)
        -- region 13
        refine region_in ?_
        refine W_v rfl rfl (V_asg rfl rfl) ?_
        refine W_end ?_
        refine gen_Q (fun A40 hA40 => ?_)
        have hsz40 : SzN A40 70 := by rw [hA40]; infer_instance
        have hdf40 : A40.defers = [] := by rw [hA40]; simp only [df_put]; exact hdf38
        have l1_40 := lookE hA40 1 (es rfl l1_38)
        have l3_40 := lookE hA40 3 (es rfl l3_38)
        have l5_40 := lookE hA40 5 (es rfl l5_38)
        have l6_40 := lookE hA40 6 (es rfl l6_38)
        have l7_40 := lookE hA40 7 (es rfl l7_38)
        have l8_40 := lookE hA40 8 (es rfl l8_38)
        have l9_40 := lookE hA40 9 (et rfl)
        clear hA40 hsz38 hdf38 l1_38 l3_38 l5_38 l6_38 l7_38 l8_38
        refine then_n (hK39 _ _ ?_)
        clear hK39
        refine wp_seq_k (fun K41 hK41 => ?_)
        refine wp_seq_k (fun K42 hK42 => ?_)
        -- region 14
        refine region_in ?_
        refine W_v rfl rfl (V_mov rfl l6_40) ?_
        refine W_v rfl rfl (V_geq rfl (et rfl) rfl) ?_
        refine W_end ?_
        refine gen_Q (fun A43 hA43 => ?_)
        have hsz43 : SzN A43 70 := by rw [hA43]; infer_instance
        have hdf43 : A43.defers = [] := by rw [hA43]; simp only [df_put]; exact hdf40
        have l1_43 := lookE hA43 1 (es rfl (es rfl l1_40))
        have l3_43 := lookE hA43 3 (es rfl (es rfl l3_40))
        have l5_43 := lookE hA43 5 (es rfl (es rfl l5_40))
        have l6_43 := lookE hA43 6 (es rfl (es rfl l6_40))
        have l7_43 := lookE hA43 7 (es rfl (es rfl l7_40))
        have l8_43 := lookE hA43 8 (es rfl (es rfl l8_40))
        have l9_43 := lookE hA43 9 (es rfl (es rfl l9_40))
        have l42_43 := lookE hA43 42 (et rfl)
        clear hA43 hsz40 hdf40 l1_40 l3_40 l5_40 l6_40 l7_40 l8_40 l9_40
        refine then_n (hK42 _ _ ?_)
        clear hK42
        refine cond_dec l42_43 (fun c44 => ?_) (fun c44 => ?_)
        · skip
          -- region 15
          refine region_in ?_
          refine W_v rfl rfl (V_mov rfl l3_43) ?_
          refine W_v rfl rfl (V_mov rfl (es rfl l6_43)) ?_
          have k45 : (b - 1) < (allT lo yo).length := by first | omega | (simp only [List.length_cons, List.length_nil]; omega)
          obtain ⟨y45, hy45⟩ := get_some (xs := (allT lo yo)) (k := (b - 1)) k45
          obtain ⟨B45, O45, C45, hv45⟩ := (SlN.blk (ow_at (hS37.chq 0 rfl hc_30)) (by first | omega | (simp only [List.length_cons, List.length_nil]; omega)))
          refine W_v rfl rfl (V_ixS (off := O45 + (b - 1) * 2) 2 ((b - 1)) rfl (es rfl (et rfl)) (et rfl) hv45 (by omega) k45 Tryd.underlying53 (by kernel_rfl) rfl) ?_
          refine W_v rfl rfl (V_fa (off' := O45 + (b - 1) * 2 + 0) rfl (et rfl) Tryd.underlying50 rfl (by decide) rfl) ?_
          refine W_r rfl rfl (VR_ldC (v := .int .i64 (y45.1)) rfl (et rfl) (SlN.row rkC_len (ow_at (hS37.chq 0 rfl hc_30)) hv45 hy45 rfl 0 _ rfl) Tryd.underlying3 rfl) ?_
          refine W_v rfl rfl (V_asg rfl (et rfl)) ?_
          refine W_end ?_
          refine gen_Q (fun A46 hA46 => ?_)
          have hsz46 : SzN A46 70 := by rw [hA46]; infer_instance
          have hdf46 : A46.defers = [] := by rw [hA46]; simp only [df_put]; exact hdf43
          have l1_46 := lookE hA46 1 (es rfl (es rfl (es rfl (es rfl (es rfl (es rfl l1_43))))))
          have l3_46 := lookE hA46 3 (es rfl (es rfl (es rfl (es rfl (es rfl (es rfl l3_43))))))
          have l5_46 := lookE hA46 5 (es rfl (es rfl (es rfl (es rfl (es rfl (es rfl l5_43))))))
          have l6_46 := lookE hA46 6 (es rfl (es rfl (es rfl (es rfl (es rfl (es rfl l6_43))))))
          have l7_46 := lookE hA46 7 (es rfl (es rfl (es rfl (es rfl (es rfl (es rfl l7_43))))))
          have l8_46 := lookE hA46 8 (es rfl (es rfl (es rfl (es rfl (es rfl (es rfl l8_43))))))
          have l9_46 := lookE hA46 9 (et rfl)
          clear hA46 hsz43 hdf43 l1_43 l3_43 l5_43 l6_43 l7_43 l8_43 l9_43 l42_43
          refine then_n (hK41 _ _ ?_)
          clear hK41
          refine wp_seq_k (fun K47 hK47 => ?_)
          -- region 16
          refine region_in ?_
          refine W_v rfl rfl (V_mov rfl l8_46) ?_
          refine W_v rfl rfl (V_neq rfl (et rfl) rfl) ?_
          refine W_sure (c' := false) rfl rfl (V_mov rfl (et rfl)) (by rw [decide_eq_false_iff_not]; rw [ex_in hg (by omega) (by omega)]; simp) ?_
          refine W_v rfl (wanted_t rfl rfl (et rfl) (ez rfl)) (V_mov rfl (es rfl (es rfl (es rfl l7_46)))) ?_
          refine W_v rfl (wanted_t rfl rfl (es rfl (et rfl)) (ez rfl)) (V_mov rfl (es rfl (es rfl (es rfl (es rfl l3_46))))) ?_
          refine W_v rfl (wanted_t rfl rfl (es rfl (es rfl (et rfl))) (ez rfl)) (V_mov rfl (es rfl (es rfl (es rfl (es rfl (es rfl l5_46)))))) ?_
          have k48 : a < (allT lo yo).length := by first | omega | (simp only [List.length_cons, List.length_nil]; omega)
          obtain ⟨y48, hy48⟩ := get_some (xs := (allT lo yo)) (k := a) k48
          refine W_v rfl (wanted_t rfl rfl (es rfl (es rfl (es rfl (et rfl)))) (ez rfl)) (V_ixS (off := O45 + a * 2) 2 (a) rfl (es rfl (et rfl)) (et rfl) hv45 (by omega) k48 Tryd.underlying53 (by kernel_rfl) rfl) ?_
          refine W_v rfl (wanted_t rfl rfl (es rfl (es rfl (es rfl (es rfl (et rfl))))) (ez rfl)) (V_fa (off' := O45 + a * 2 + 0) rfl (et rfl) Tryd.underlying50 rfl (by decide) rfl) ?_
          refine W_r rfl (wanted_t rfl rfl (es rfl (es rfl (es rfl (es rfl (es rfl (et rfl)))))) (ez rfl)) (VR_ldC (v := .int .i64 (y48.1)) rfl (et rfl) (SlN.row rkC_len (ow_at (hS37.chq 0 rfl hc_30)) hv45 hy48 rfl 0 _ rfl) Tryd.underlying3 rfl) ?_
          refine W_v rfl (wanted_t rfl rfl (es rfl (es rfl (es rfl (es rfl (es rfl (es rfl (et rfl))))))) (ez rfl)) (V_geq rfl (et rfl) rfl) ?_
          refine W_split rfl (wanted_t rfl rfl (es rfl (es rfl (es rfl (es rfl (es rfl (es rfl (es rfl (et rfl)))))))) (ez rfl)) (V_mov rfl (et rfl)) (fun c49 => ?_) (fun c49 => ?_)
          · skip
            refine W_v rfl (wanted_t rfl rfl (et rfl) (ez rfl)) (V_mov rfl (es rfl (es rfl (es rfl (es rfl (es rfl (es rfl (es rfl (es rfl (es rfl (es rfl (es rfl l9_46)))))))))))) ?_
            refine W_v rfl (wanted_t rfl rfl (es rfl (et rfl)) (ez rfl)) (V_mov rfl (es rfl (es rfl (es rfl (es rfl (es rfl (es rfl (es rfl (es rfl (es rfl (es rfl (es rfl (es rfl l3_46))))))))))))) ?_
            refine W_v rfl (wanted_t rfl rfl (es rfl (es rfl (et rfl))) (ez rfl)) (V_mov rfl (es rfl (es rfl (es rfl (es rfl (es rfl (es rfl (es rfl (es rfl (es rfl (es rfl (es rfl (es rfl (es rfl l5_46)))))))))))))) ?_
            refine W_v rfl (wanted_t rfl rfl (es rfl (es rfl (es rfl (et rfl)))) (ez rfl)) (V_ixS (off := O45 + a * 2) 2 (a) rfl (es rfl (et rfl)) (et rfl) hv45 (by omega) k48 Tryd.underlying53 (by kernel_rfl) rfl) ?_
            refine W_v rfl (wanted_t rfl rfl (es rfl (es rfl (es rfl (es rfl (et rfl))))) (ez rfl)) (V_fa (off' := O45 + a * 2 + 0) rfl (et rfl) Tryd.underlying50 rfl (by decide) rfl) ?_
            refine W_r rfl (wanted_t rfl rfl (es rfl (es rfl (es rfl (es rfl (es rfl (et rfl)))))) (ez rfl)) (VR_ldC (v := .int .i64 (y48.1)) rfl (et rfl) (SlN.row rkC_len (ow_at (hS37.chq 0 rfl hc_30)) hv45 hy48 rfl 0 _ rfl) Tryd.underlying3 rfl) ?_
            refine W_v rfl (wanted_t rfl rfl (es rfl (es rfl (es rfl (es rfl (es rfl (es rfl (et rfl))))))) (ez rfl)) (V_neq rfl (es rfl (es rfl (es rfl (es rfl (es rfl (et rfl)))))) (et rfl)) ?_
            refine W_v rfl (wanted_t rfl rfl (es rfl (es rfl (es rfl (es rfl (es rfl (es rfl (es rfl (es rfl (es rfl (es rfl (es rfl (es rfl (es rfl (es rfl (es rfl (et rfl)))))))))))))))) (ez rfl)) (V_pickT rfl (es rfl (es rfl (es rfl (es rfl (es rfl (es rfl (es rfl (et rfl)))))))) (et rfl)) ?_
            refine W_v rfl (wanted_t rfl rfl (es rfl (es rfl (es rfl (es rfl (es rfl (es rfl (es rfl (es rfl (es rfl (es rfl (es rfl (es rfl (es rfl (es rfl (es rfl (es rfl (et rfl))))))))))))))))) (ez rfl)) (V_neB rfl (es rfl (es rfl (es rfl (es rfl (es rfl (es rfl (es rfl (es rfl (es rfl (es rfl (es rfl (es rfl (es rfl (es rfl (es rfl (et rfl)))))))))))))))) (et rfl) Tryd.underlying4) ?_
            refine W_v rfl rfl (V_pickF rfl (es rfl (es rfl (es rfl (es rfl (es rfl (es rfl (es rfl (es rfl (es rfl (es rfl (es rfl (es rfl (es rfl (es rfl (es rfl (es rfl (es rfl (et rfl)))))))))))))))))) (et rfl)) ?_
            refine W_end ?_
            refine gen_Q (fun A51 hA51 => ?_)
            have hsz51 : SzN A51 70 := by rw [hA51]; infer_instance
            have hdf51 : A51.defers = [] := by rw [hA51]; simp only [df_put]; exact hdf46
            have l1_51 := lookE hA51 1 (es rfl (es rfl (es rfl (es rfl (es rfl (es rfl (es rfl (es rfl (es rfl (es rfl (es rfl (es rfl (es rfl (es rfl (es rfl (es rfl (es rfl (es rfl (es rfl (es rfl (es rfl l1_46)))))))))))))))))))))
            have l3_51 := lookE hA51 3 (es rfl (es rfl (es rfl (es rfl (es rfl (es rfl (es rfl (es rfl (es rfl (es rfl (es rfl (es rfl (es rfl (es rfl (es rfl (es rfl (es rfl (es rfl (es rfl (es rfl (es rfl l3_46)))))))))))))))))))))
            have l5_51 := lookE hA51 5 (es rfl (es rfl (es rfl (es rfl (es rfl (es rfl (es rfl (es rfl (es rfl (es rfl (es rfl (es rfl (es rfl (es rfl (es rfl (es rfl (es rfl (es rfl (es rfl (es rfl (es rfl l5_46)))))))))))))))))))))
            have l6_51 := lookE hA51 6 (es rfl (es rfl (es rfl (es rfl (es rfl (es rfl (es rfl (es rfl (es rfl (es rfl (es rfl (es rfl (es rfl (es rfl (es rfl (es rfl (es rfl (es rfl (es rfl (es rfl (es rfl l6_46)))))))))))))))))))))
            have l51_51 := lookE hA51 51 (es rfl (es rfl (es rfl (es rfl (es rfl (es rfl (es rfl (es rfl (es rfl (es rfl (es rfl (es rfl (es rfl (es rfl (es rfl (es rfl (es rfl (et rfl))))))))))))))))))
            have l52_51 := lookE hA51 52 (es rfl (es rfl (es rfl (es rfl (es rfl (es rfl (es rfl (es rfl (es rfl (es rfl (es rfl (es rfl (es rfl (es rfl (es rfl (es rfl (et rfl)))))))))))))))))
            have l53_51 := lookE hA51 53 (es rfl (es rfl (es rfl (es rfl (es rfl (es rfl (es rfl (es rfl (es rfl (es rfl (es rfl (es rfl (es rfl (es rfl (es rfl (et rfl))))))))))))))))
            have l54_51 := lookE hA51 54 (es rfl (es rfl (es rfl (es rfl (es rfl (es rfl (es rfl (es rfl (es rfl (es rfl (es rfl (es rfl (es rfl (es rfl (et rfl)))))))))))))))
            have l55_51 := lookE hA51 55 (es rfl (es rfl (es rfl (es rfl (es rfl (es rfl (es rfl (es rfl (es rfl (es rfl (es rfl (es rfl (es rfl (et rfl))))))))))))))
            have l56_51 := lookE hA51 56 (es rfl (es rfl (es rfl (es rfl (es rfl (es rfl (es rfl (es rfl (es rfl (es rfl (es rfl (es rfl (et rfl)))))))))))))
            have l57_51 := lookE hA51 57 (es rfl (es rfl (es rfl (es rfl (es rfl (es rfl (es rfl (es rfl (es rfl (es rfl (es rfl (et rfl))))))))))))
            have l58_51 := lookE hA51 58 (es rfl (es rfl (es rfl (es rfl (es rfl (es rfl (es rfl (es rfl (es rfl (es rfl (et rfl)))))))))))
            have l59_51 := lookE hA51 59 (es rfl (es rfl (es rfl (es rfl (es rfl (es rfl (es rfl (es rfl (es rfl (et rfl))))))))))
            have l60_51 := lookE hA51 60 (es rfl (es rfl (es rfl (es rfl (es rfl (es rfl (es rfl (es rfl (et rfl)))))))))
            have l61_51 := lookE hA51 61 (es rfl (es rfl (es rfl (es rfl (es rfl (es rfl (es rfl (et rfl))))))))
            have l62_51 := lookE hA51 62 (es rfl (es rfl (es rfl (es rfl (es rfl (es rfl (et rfl)))))))
            have l63_51 := lookE hA51 63 (es rfl (es rfl (es rfl (es rfl (es rfl (et rfl))))))
            have l64_51 := lookE hA51 64 (es rfl (es rfl (es rfl (es rfl (et rfl)))))
            have l65_51 := lookE hA51 65 (es rfl (es rfl (es rfl (et rfl))))
            have l66_51 := lookE hA51 66 (es rfl (es rfl (et rfl)))
            have l67_51 := lookE hA51 67 (es rfl (et rfl))
            have l68_51 := lookE hA51 68 (et rfl)
            clear hA51 hsz46 hdf46 l1_46 l3_46 l5_46 l6_46 l7_46 l8_46 l9_46
            refine then_n (hK47 _ _ ?_)
            clear hK47
            refine cond_not l68_51 (by rw [decide_eq_false_iff_not]; rw [ex_is (y := y48) hg (by omega) (by omega) (by unfold exX; rw [if_pos (by omega), rkR_ok (rk_in0 hg (by omega)), all_rowc hg (show ((b : Int) - 1) = ((b - 1 : Nat) : Int) by omega) (by omega) hy45]) (all_row' hg (by omega) hy48)]; simp; try omega) ?_
            refine wp_skip ?_
            refine inb_n ?_
            refine then_n (hK35 _ _ ?_)
            clear hK35
            -- region 11
            refine region_in ?_
            refine W_v rfl rfl (V_mov rfl l6_51) ?_
            refine W_v rfl rfl (V_add rfl (et rfl) rfl (by omega) (by omega)) ?_
            refine W_v rfl rfl (V_asg rfl (et rfl)) ?_
            refine W_end ?_
            refine gen_Q (fun A52 hA52 => ?_)
            have hsz52 : SzN A52 70 := by rw [hA52]; infer_instance
            have hdf52 : A52.defers = [] := by rw [hA52]; simp only [df_put]; exact hdf51
            have l1_52 := lookE hA52 1 (es rfl (es rfl (es rfl l1_51)))
            have l3_52 := lookE hA52 3 (es rfl (es rfl (es rfl l3_51)))
            have l5_52 := lookE hA52 5 (es rfl (es rfl (es rfl l5_51)))
            have l6_52 := lookE hA52 6 (et rfl)
            have l51_52 := lookE hA52 51 (es rfl (es rfl (es rfl l51_51)))
            have l52_52 := lookE hA52 52 (es rfl (es rfl (es rfl l52_51)))
            have l53_52 := lookE hA52 53 (es rfl (es rfl (es rfl l53_51)))
            have l54_52 := lookE hA52 54 (es rfl (es rfl (es rfl l54_51)))
            have l55_52 := lookE hA52 55 (es rfl (es rfl (es rfl l55_51)))
            have l56_52 := lookE hA52 56 (es rfl (es rfl (es rfl l56_51)))
            have l57_52 := lookE hA52 57 (es rfl (es rfl (es rfl l57_51)))
            have l58_52 := lookE hA52 58 (es rfl (es rfl (es rfl l58_51)))
            have l59_52 := lookE hA52 59 (es rfl (es rfl (es rfl l59_51)))
            have l60_52 := lookE hA52 60 (es rfl (es rfl (es rfl l60_51)))
            have l61_52 := lookE hA52 61 (es rfl (es rfl (es rfl l61_51)))
            have l62_52 := lookE hA52 62 (es rfl (es rfl (es rfl l62_51)))
            have l63_52 := lookE hA52 63 (es rfl (es rfl (es rfl l63_51)))
            have l64_52 := lookE hA52 64 (es rfl (es rfl (es rfl l64_51)))
            have l65_52 := lookE hA52 65 (es rfl (es rfl (es rfl l65_51)))
            have l66_52 := lookE hA52 66 (es rfl (es rfl (es rfl l66_51)))
            have l67_52 := lookE hA52 67 (es rfl (es rfl (es rfl l67_51)))
            clear hA52 hsz51 hdf51 l1_51 l3_51 l5_51 l6_51 l51_51 l52_51 l53_51 l54_51 l55_51 l56_51 l57_51 l58_51 l59_51 l60_51 l61_51 l62_51 l63_51 l64_51 l65_51 l66_51 l67_51 l68_51
            refine then_n ⟨25 - (b + 1), by simp only [hm30]; omega, hsz52, hdf52, (b + 1), rfl, (by omega), ((l6_52).trans (by first | rfl | (simp; done) | (congr 1; omega))), ((l1_52).trans l1_29.symm), ((l3_52).trans l3_29.symm), ((l5_52).trans l5_29.symm), (by subst hc_30 hc2_30; exact hS37)⟩
          · skip
            refine W_off rfl (wanted_f rfl rfl (et rfl) (ez rfl) rfl) ?_
            refine W_off rfl (wanted_f rfl rfl (es rfl (et rfl)) (ez rfl) rfl) ?_
            refine W_off rfl (wanted_f rfl rfl (es rfl (es rfl (et rfl))) (ez rfl) rfl) ?_
            refine W_off rfl (wanted_f rfl rfl (es rfl (es rfl (es rfl (et rfl)))) (ez rfl) rfl) ?_
            refine W_off rfl (wanted_f rfl rfl (es rfl (es rfl (es rfl (es rfl (et rfl))))) (ez rfl) rfl) ?_
            refine W_off rfl (wanted_f rfl rfl (es rfl (es rfl (es rfl (es rfl (es rfl (et rfl)))))) (ez rfl) rfl) ?_
            refine W_off rfl (wanted_f rfl rfl (es rfl (es rfl (es rfl (es rfl (es rfl (es rfl (et rfl))))))) (ez rfl) rfl) ?_
            refine W_v rfl (wanted_t rfl rfl (es rfl (es rfl (es rfl (es rfl (es rfl (es rfl (es rfl (es rfl (es rfl (es rfl (es rfl (es rfl (es rfl (es rfl (es rfl (et rfl)))))))))))))))) (ez rfl)) (V_pickF rfl (es rfl (es rfl (es rfl (es rfl (es rfl (es rfl (es rfl (et rfl)))))))) rfl) ?_
            refine W_v rfl (wanted_t rfl rfl (es rfl (es rfl (es rfl (es rfl (es rfl (es rfl (es rfl (es rfl (es rfl (es rfl (es rfl (es rfl (es rfl (es rfl (es rfl (es rfl (et rfl))))))))))))))))) (ez rfl)) (V_neB rfl (es rfl (es rfl (es rfl (es rfl (es rfl (es rfl (es rfl (es rfl (es rfl (es rfl (es rfl (es rfl (es rfl (es rfl (es rfl (et rfl)))))))))))))))) (et rfl) Tryd.underlying4) ?_
            refine W_v rfl rfl (V_pickF rfl (es rfl (es rfl (es rfl (es rfl (es rfl (es rfl (es rfl (es rfl (es rfl (es rfl (es rfl (es rfl (es rfl (es rfl (es rfl (es rfl (es rfl (et rfl)))))))))))))))))) (et rfl)) ?_
            refine W_end ?_
            refine gen_Q (fun A53 hA53 => ?_)
            have hsz53 : SzN A53 70 := by rw [hA53]; infer_instance
            have hdf53 : A53.defers = [] := by rw [hA53]; simp only [df_put]; exact hdf46
            have l1_53 := lookE hA53 1 (es rfl (es rfl (es rfl (es rfl (es rfl (es rfl (es rfl (es rfl (es rfl (es rfl (es rfl (es rfl (es rfl (es rfl (es rfl (es rfl (es rfl (es rfl (es rfl (es rfl (es rfl l1_46)))))))))))))))))))))
            have l3_53 := lookE hA53 3 (es rfl (es rfl (es rfl (es rfl (es rfl (es rfl (es rfl (es rfl (es rfl (es rfl (es rfl (es rfl (es rfl (es rfl (es rfl (es rfl (es rfl (es rfl (es rfl (es rfl (es rfl l3_46)))))))))))))))))))))
            have l5_53 := lookE hA53 5 (es rfl (es rfl (es rfl (es rfl (es rfl (es rfl (es rfl (es rfl (es rfl (es rfl (es rfl (es rfl (es rfl (es rfl (es rfl (es rfl (es rfl (es rfl (es rfl (es rfl (es rfl l5_46)))))))))))))))))))))
            have l6_53 := lookE hA53 6 (es rfl (es rfl (es rfl (es rfl (es rfl (es rfl (es rfl (es rfl (es rfl (es rfl (es rfl (es rfl (es rfl (es rfl (es rfl (es rfl (es rfl (es rfl (es rfl (es rfl (es rfl l6_46)))))))))))))))))))))
            have l51_53 := lookE hA53 51 (es rfl (es rfl (es rfl (es rfl (es rfl (es rfl (es rfl (es rfl (es rfl (es rfl (es rfl (es rfl (es rfl (es rfl (es rfl (es rfl (es rfl (et rfl))))))))))))))))))
            have l52_53 := lookE hA53 52 (es rfl (es rfl (es rfl (es rfl (es rfl (es rfl (es rfl (es rfl (es rfl (es rfl (es rfl (es rfl (es rfl (es rfl (es rfl (es rfl (et rfl)))))))))))))))))
            have l53_53 := lookE hA53 53 (es rfl (es rfl (es rfl (es rfl (es rfl (es rfl (es rfl (es rfl (es rfl (es rfl (es rfl (es rfl (es rfl (es rfl (es rfl (et rfl))))))))))))))))
            have l54_53 := lookE hA53 54 (es rfl (es rfl (es rfl (es rfl (es rfl (es rfl (es rfl (es rfl (es rfl (es rfl (es rfl (es rfl (es rfl (es rfl (et rfl)))))))))))))))
            have l55_53 := lookE hA53 55 (es rfl (es rfl (es rfl (es rfl (es rfl (es rfl (es rfl (es rfl (es rfl (es rfl (es rfl (es rfl (es rfl (et rfl))))))))))))))
            have l56_53 := lookE hA53 56 (es rfl (es rfl (es rfl (es rfl (es rfl (es rfl (es rfl (es rfl (es rfl (es rfl (es rfl (es rfl (et rfl)))))))))))))
            have l57_53 := lookE hA53 57 (es rfl (es rfl (es rfl (es rfl (es rfl (es rfl (es rfl (es rfl (es rfl (es rfl (es rfl (et rfl))))))))))))
            have l58_53 := lookE hA53 58 (es rfl (es rfl (es rfl (es rfl (es rfl (es rfl (es rfl (es rfl (es rfl (es rfl (et rfl)))))))))))
            have l59_53 := lookE hA53 59 (es rfl (es rfl (es rfl (es rfl (es rfl (es rfl (es rfl (es rfl (es rfl (et rfl))))))))))
            have l60_53 := lookE hA53 60 (es rfl (es rfl (es rfl (es rfl (es rfl (es rfl (es rfl (es rfl (et rfl)))))))))
            have l61_53 := lookE hA53 61 (es rfl (es rfl (es rfl (es rfl (es rfl (es rfl (es rfl (et rfl))))))))
            have l62_53 := lookE hA53 62 (es rfl (es rfl (es rfl (es rfl (es rfl (es rfl (et rfl)))))))
            have l63_53 := lookE hA53 63 (es rfl (es rfl (es rfl (es rfl (es rfl (et rfl))))))
            have l64_53 := lookE hA53 64 (es rfl (es rfl (es rfl (es rfl (et rfl)))))
            have l65_53 := lookE hA53 65 (es rfl (es rfl (es rfl (et rfl))))
            have l66_53 := lookE hA53 66 (es rfl (es rfl (et rfl)))
            have l67_53 := lookE hA53 67 (es rfl (et rfl))
            have l68_53 := lookE hA53 68 (et rfl)
            clear hA53 hsz46 hdf46 l1_46 l3_46 l5_46 l6_46 l7_46 l8_46 l9_46
            refine then_n (hK47 _ _ ?_)
            clear hK47
            refine cond_not l68_53 (by rw [decide_eq_false_iff_not]; rw [ex_is (y := y48) hg (by omega) (by omega) (by unfold exX; rw [if_pos (by omega), rkR_ok (rk_in0 hg (by omega)), all_rowc hg (show ((b : Int) - 1) = ((b - 1 : Nat) : Int) by omega) (by omega) hy45]) (all_row' hg (by omega) hy48)]; simp; try omega) ?_
            refine wp_skip ?_
            refine inb_n ?_
            refine then_n (hK35 _ _ ?_)
            clear hK35
            -- region 11
            refine region_in ?_
            refine W_v rfl rfl (V_mov rfl l6_53) ?_
            refine W_v rfl rfl (V_add rfl (et rfl) rfl (by omega) (by omega)) ?_
            refine W_v rfl rfl (V_asg rfl (et rfl)) ?_
            refine W_end ?_
            refine gen_Q (fun A54 hA54 => ?_)
            have hsz54 : SzN A54 70 := by rw [hA54]; infer_instance
            have hdf54 : A54.defers = [] := by rw [hA54]; simp only [df_put]; exact hdf53
            have l1_54 := lookE hA54 1 (es rfl (es rfl (es rfl l1_53)))
            have l3_54 := lookE hA54 3 (es rfl (es rfl (es rfl l3_53)))
            have l5_54 := lookE hA54 5 (es rfl (es rfl (es rfl l5_53)))
            have l6_54 := lookE hA54 6 (et rfl)
            have l51_54 := lookE hA54 51 (es rfl (es rfl (es rfl l51_53)))
            have l52_54 := lookE hA54 52 (es rfl (es rfl (es rfl l52_53)))
            have l53_54 := lookE hA54 53 (es rfl (es rfl (es rfl l53_53)))
            have l54_54 := lookE hA54 54 (es rfl (es rfl (es rfl l54_53)))
            have l55_54 := lookE hA54 55 (es rfl (es rfl (es rfl l55_53)))
            have l56_54 := lookE hA54 56 (es rfl (es rfl (es rfl l56_53)))
            have l57_54 := lookE hA54 57 (es rfl (es rfl (es rfl l57_53)))
            have l58_54 := lookE hA54 58 (es rfl (es rfl (es rfl l58_53)))
            have l59_54 := lookE hA54 59 (es rfl (es rfl (es rfl l59_53)))
            have l60_54 := lookE hA54 60 (es rfl (es rfl (es rfl l60_53)))
            have l61_54 := lookE hA54 61 (es rfl (es rfl (es rfl l61_53)))
            have l62_54 := lookE hA54 62 (es rfl (es rfl (es rfl l62_53)))
            have l63_54 := lookE hA54 63 (es rfl (es rfl (es rfl l63_53)))
            have l64_54 := lookE hA54 64 (es rfl (es rfl (es rfl l64_53)))
            have l65_54 := lookE hA54 65 (es rfl (es rfl (es rfl l65_53)))
            have l66_54 := lookE hA54 66 (es rfl (es rfl (es rfl l66_53)))
            have l67_54 := lookE hA54 67 (es rfl (es rfl (es rfl l67_53)))
            clear hA54 hsz53 hdf53 l1_53 l3_53 l5_53 l6_53 l51_53 l52_53 l53_53 l54_53 l55_53 l56_53 l57_53 l58_53 l59_53 l60_53 l61_53 l62_53 l63_53 l64_53 l65_53 l66_53 l67_53 l68_53
            refine then_n ⟨25 - (b + 1), by simp only [hm30]; omega, hsz54, hdf54, (b + 1), rfl, (by omega), ((l6_54).trans (by first | rfl | (simp; done) | (congr 1; omega))), ((l1_54).trans l1_29.symm), ((l3_54).trans l3_29.symm), ((l5_54).trans l5_29.symm), (by subst hc_30 hc2_30; exact hS37)⟩
        · skip
          refine wp_skip ?_
          refine then_n (hK41 _ _ ?_)
          clear hK41
          refine wp_seq_k (fun K55 hK55 => ?_)
          -- region 16
          refine region_in ?_
          refine W_v rfl rfl (V_mov rfl l8_43) ?_
          refine W_v rfl rfl (V_neq rfl (et rfl) rfl) ?_
          refine W_sure (c' := false) rfl rfl (V_mov rfl (et rfl)) (by rw [decide_eq_false_iff_not]; rw [ex_in hg (by omega) (by omega)]; simp) ?_
          refine W_v rfl (wanted_t rfl rfl (et rfl) (ez rfl)) (V_mov rfl (es rfl (es rfl (es rfl l7_43)))) ?_
          refine W_v rfl (wanted_t rfl rfl (es rfl (et rfl)) (ez rfl)) (V_mov rfl (es rfl (es rfl (es rfl (es rfl l3_43))))) ?_
          refine W_v rfl (wanted_t rfl rfl (es rfl (es rfl (et rfl))) (ez rfl)) (V_mov rfl (es rfl (es rfl (es rfl (es rfl (es rfl l5_43)))))) ?_
          have k56 : a < (allT lo yo).length := by first | omega | (simp only [List.length_cons, List.length_nil]; omega)
          obtain ⟨y56, hy56⟩ := get_some (xs := (allT lo yo)) (k := a) k56
          obtain ⟨B56, O56, C56, hv56⟩ := (SlN.blk (ow_at (hS37.chq 0 rfl hc_30)) (by first | omega | (simp only [List.length_cons, List.length_nil]; omega)))
          refine W_v rfl (wanted_t rfl rfl (es rfl (es rfl (es rfl (et rfl)))) (ez rfl)) (V_ixS (off := O56 + a * 2) 2 (a) rfl (es rfl (et rfl)) (et rfl) hv56 (by omega) k56 Tryd.underlying53 (by kernel_rfl) rfl) ?_
          refine W_v rfl (wanted_t rfl rfl (es rfl (es rfl (es rfl (es rfl (et rfl))))) (ez rfl)) (V_fa (off' := O56 + a * 2 + 0) rfl (et rfl) Tryd.underlying50 rfl (by decide) rfl) ?_
          refine W_r rfl (wanted_t rfl rfl (es rfl (es rfl (es rfl (es rfl (es rfl (et rfl)))))) (ez rfl)) (VR_ldC (v := .int .i64 (y56.1)) rfl (et rfl) (SlN.row rkC_len (ow_at (hS37.chq 0 rfl hc_30)) hv56 hy56 rfl 0 _ rfl) Tryd.underlying3 rfl) ?_
          refine W_v rfl (wanted_t rfl rfl (es rfl (es rfl (es rfl (es rfl (es rfl (es rfl (et rfl))))))) (ez rfl)) (V_geq rfl (et rfl) rfl) ?_
          refine W_split rfl (wanted_t rfl rfl (es rfl (es rfl (es rfl (es rfl (es rfl (es rfl (es rfl (et rfl)))))))) (ez rfl)) (V_mov rfl (et rfl)) (fun c57 => ?_) (fun c57 => ?_)
          · skip
            refine W_v rfl (wanted_t rfl rfl (et rfl) (ez rfl)) (V_mov rfl (es rfl (es rfl (es rfl (es rfl (es rfl (es rfl (es rfl (es rfl (es rfl (es rfl (es rfl l9_43)))))))))))) ?_
            refine W_v rfl (wanted_t rfl rfl (es rfl (et rfl)) (ez rfl)) (V_mov rfl (es rfl (es rfl (es rfl (es rfl (es rfl (es rfl (es rfl (es rfl (es rfl (es rfl (es rfl (es rfl l3_43))))))))))))) ?_
            refine W_v rfl (wanted_t rfl rfl (es rfl (es rfl (et rfl))) (ez rfl)) (V_mov rfl (es rfl (es rfl (es rfl (es rfl (es rfl (es rfl (es rfl (es rfl (es rfl (es rfl (es rfl (es rfl (es rfl l5_43)))))))))))))) ?_
            refine W_v rfl (wanted_t rfl rfl (es rfl (es rfl (es rfl (et rfl)))) (ez rfl)) (V_ixS (off := O56 + a * 2) 2 (a) rfl (es rfl (et rfl)) (et rfl) hv56 (by omega) k56 Tryd.underlying53 (by kernel_rfl) rfl) ?_
            refine W_v rfl (wanted_t rfl rfl (es rfl (es rfl (es rfl (es rfl (et rfl))))) (ez rfl)) (V_fa (off' := O56 + a * 2 + 0) rfl (et rfl) Tryd.underlying50 rfl (by decide) rfl) ?_
            refine W_r rfl (wanted_t rfl rfl (es rfl (es rfl (es rfl (es rfl (es rfl (et rfl)))))) (ez rfl)) (VR_ldC (v := .int .i64 (y56.1)) rfl (et rfl) (SlN.row rkC_len (ow_at (hS37.chq 0 rfl hc_30)) hv56 hy56 rfl 0 _ rfl) Tryd.underlying3 rfl) ?_
            refine W_v rfl (wanted_t rfl rfl (es rfl (es rfl (es rfl (es rfl (es rfl (es rfl (et rfl))))))) (ez rfl)) (V_neq rfl (es rfl (es rfl (es rfl (es rfl (es rfl (et rfl)))))) (et rfl)) ?_
            refine W_v rfl (wanted_t rfl rfl (es rfl (es rfl (es rfl (es rfl (es rfl (es rfl (es rfl (es rfl (es rfl (es rfl (es rfl (es rfl (es rfl (es rfl (es rfl (et rfl)))))))))))))))) (ez rfl)) (V_pickT rfl (es rfl (es rfl (es rfl (es rfl (es rfl (es rfl (es rfl (et rfl)))))))) (et rfl)) ?_
            refine W_v rfl (wanted_t rfl rfl (es rfl (es rfl (es rfl (es rfl (es rfl (es rfl (es rfl (es rfl (es rfl (es rfl (es rfl (es rfl (es rfl (es rfl (es rfl (es rfl (et rfl))))))))))))))))) (ez rfl)) (V_neB rfl (es rfl (es rfl (es rfl (es rfl (es rfl (es rfl (es rfl (es rfl (es rfl (es rfl (es rfl (es rfl (es rfl (es rfl (es rfl (et rfl)))))))))))))))) (et rfl) Tryd.underlying4) ?_
            refine W_v rfl rfl (V_pickF rfl (es rfl (es rfl (es rfl (es rfl (es rfl (es rfl (es rfl (es rfl (es rfl (es rfl (es rfl (es rfl (es rfl (es rfl (es rfl (es rfl (es rfl (et rfl)))))))))))))))))) (et rfl)) ?_
            refine W_end ?_
            refine gen_Q (fun A59 hA59 => ?_)
            have hsz59 : SzN A59 70 := by rw [hA59]; infer_instance
            have hdf59 : A59.defers = [] := by rw [hA59]; simp only [df_put]; exact hdf43
            have l1_59 := lookE hA59 1 (es rfl (es rfl (es rfl (es rfl (es rfl (es rfl (es rfl (es rfl (es rfl (es rfl (es rfl (es rfl (es rfl (es rfl (es rfl (es rfl (es rfl (es rfl (es rfl (es rfl (es rfl l1_43)))))))))))))))))))))
            have l3_59 := lookE hA59 3 (es rfl (es rfl (es rfl (es rfl (es rfl (es rfl (es rfl (es rfl (es rfl (es rfl (es rfl (es rfl (es rfl (es rfl (es rfl (es rfl (es rfl (es rfl (es rfl (es rfl (es rfl l3_43)))))))))))))))))))))
            have l5_59 := lookE hA59 5 (es rfl (es rfl (es rfl (es rfl (es rfl (es rfl (es rfl (es rfl (es rfl (es rfl (es rfl (es rfl (es rfl (es rfl (es rfl (es rfl (es rfl (es rfl (es rfl (es rfl (es rfl l5_43)))))))))))))))))))))
            have l6_59 := lookE hA59 6 (es rfl (es rfl (es rfl (es rfl (es rfl (es rfl (es rfl (es rfl (es rfl (es rfl (es rfl (es rfl (es rfl (es rfl (es rfl (es rfl (es rfl (es rfl (es rfl (es rfl (es rfl l6_43)))))))))))))))))))))
            have l51_59 := lookE hA59 51 (es rfl (es rfl (es rfl (es rfl (es rfl (es rfl (es rfl (es rfl (es rfl (es rfl (es rfl (es rfl (es rfl (es rfl (es rfl (es rfl (es rfl (et rfl))))))))))))))))))
            have l52_59 := lookE hA59 52 (es rfl (es rfl (es rfl (es rfl (es rfl (es rfl (es rfl (es rfl (es rfl (es rfl (es rfl (es rfl (es rfl (es rfl (es rfl (es rfl (et rfl)))))))))))))))))
            have l53_59 := lookE hA59 53 (es rfl (es rfl (es rfl (es rfl (es rfl (es rfl (es rfl (es rfl (es rfl (es rfl (es rfl (es rfl (es rfl (es rfl (es rfl (et rfl))))))))))))))))
            have l54_59 := lookE hA59 54 (es rfl (es rfl (es rfl (es rfl (es rfl (es rfl (es rfl (es rfl (es rfl (es rfl (es rfl (es rfl (es rfl (es rfl (et rfl)))))))))))))))
            have l55_59 := lookE hA59 55 (es rfl (es rfl (es rfl (es rfl (es rfl (es rfl (es rfl (es rfl (es rfl (es rfl (es rfl (es rfl (es rfl (et rfl))))))))))))))
            have l56_59 := lookE hA59 56 (es rfl (es rfl (es rfl (es rfl (es rfl (es rfl (es rfl (es rfl (es rfl (es rfl (es rfl (es rfl (et rfl)))))))))))))
            have l57_59 := lookE hA59 57 (es rfl (es rfl (es rfl (es rfl (es rfl (es rfl (es rfl (es rfl (es rfl (es rfl (es rfl (et rfl))))))))))))
            have l58_59 := lookE hA59 58 (es rfl (es rfl (es rfl (es rfl (es rfl (es rfl (es rfl (es rfl (es rfl (es rfl (et rfl)))))))))))
            have l59_59 := lookE hA59 59 (es rfl (es rfl (es rfl (es rfl (es rfl (es rfl (es rfl (es rfl (es rfl (et rfl))))))))))
            have l60_59 := lookE hA59 60 (es rfl (es rfl (es rfl (es rfl (es rfl (es rfl (es rfl (es rfl (et rfl)))))))))
            have l61_59 := lookE hA59 61 (es rfl (es rfl (es rfl (es rfl (es rfl (es rfl (es rfl (et rfl))))))))
            have l62_59 := lookE hA59 62 (es rfl (es rfl (es rfl (es rfl (es rfl (es rfl (et rfl)))))))
            have l63_59 := lookE hA59 63 (es rfl (es rfl (es rfl (es rfl (es rfl (et rfl))))))
            have l64_59 := lookE hA59 64 (es rfl (es rfl (es rfl (es rfl (et rfl)))))
            have l65_59 := lookE hA59 65 (es rfl (es rfl (es rfl (et rfl))))
            have l66_59 := lookE hA59 66 (es rfl (es rfl (et rfl)))
            have l67_59 := lookE hA59 67 (es rfl (et rfl))
            have l68_59 := lookE hA59 68 (et rfl)
            clear hA59 hsz43 hdf43 l1_43 l3_43 l5_43 l6_43 l7_43 l8_43 l9_43 l42_43
            refine then_n (hK55 _ _ ?_)
            clear hK55
            refine cond_not l68_59 (by rw [decide_eq_false_iff_not]; rw [ex_is (y := y56) hg (by omega) (by omega) (by unfold exX; rw [if_neg (by omega)]) (all_row' hg (by omega) hy56)]; simp; try omega) ?_
            refine wp_skip ?_
            refine inb_n ?_
            refine then_n (hK35 _ _ ?_)
            clear hK35
            -- region 11
            refine region_in ?_
            refine W_v rfl rfl (V_mov rfl l6_59) ?_
            refine W_v rfl rfl (V_add rfl (et rfl) rfl (by omega) (by omega)) ?_
            refine W_v rfl rfl (V_asg rfl (et rfl)) ?_
            refine W_end ?_
            refine gen_Q (fun A60 hA60 => ?_)
            have hsz60 : SzN A60 70 := by rw [hA60]; infer_instance
            have hdf60 : A60.defers = [] := by rw [hA60]; simp only [df_put]; exact hdf59
            have l1_60 := lookE hA60 1 (es rfl (es rfl (es rfl l1_59)))
            have l3_60 := lookE hA60 3 (es rfl (es rfl (es rfl l3_59)))
            have l5_60 := lookE hA60 5 (es rfl (es rfl (es rfl l5_59)))
            have l6_60 := lookE hA60 6 (et rfl)
            have l51_60 := lookE hA60 51 (es rfl (es rfl (es rfl l51_59)))
            have l52_60 := lookE hA60 52 (es rfl (es rfl (es rfl l52_59)))
            have l53_60 := lookE hA60 53 (es rfl (es rfl (es rfl l53_59)))
            have l54_60 := lookE hA60 54 (es rfl (es rfl (es rfl l54_59)))
            have l55_60 := lookE hA60 55 (es rfl (es rfl (es rfl l55_59)))
            have l56_60 := lookE hA60 56 (es rfl (es rfl (es rfl l56_59)))
            have l57_60 := lookE hA60 57 (es rfl (es rfl (es rfl l57_59)))
            have l58_60 := lookE hA60 58 (es rfl (es rfl (es rfl l58_59)))
            have l59_60 := lookE hA60 59 (es rfl (es rfl (es rfl l59_59)))
            have l60_60 := lookE hA60 60 (es rfl (es rfl (es rfl l60_59)))
            have l61_60 := lookE hA60 61 (es rfl (es rfl (es rfl l61_59)))
            have l62_60 := lookE hA60 62 (es rfl (es rfl (es rfl l62_59)))
            have l63_60 := lookE hA60 63 (es rfl (es rfl (es rfl l63_59)))
            have l64_60 := lookE hA60 64 (es rfl (es rfl (es rfl l64_59)))
            have l65_60 := lookE hA60 65 (es rfl (es rfl (es rfl l65_59)))
            have l66_60 := lookE hA60 66 (es rfl (es rfl (es rfl l66_59)))
            have l67_60 := lookE hA60 67 (es rfl (es rfl (es rfl l67_59)))
            clear hA60 hsz59 hdf59 l1_59 l3_59 l5_59 l6_59 l51_59 l52_59 l53_59 l54_59 l55_59 l56_59 l57_59 l58_59 l59_59 l60_59 l61_59 l62_59 l63_59 l64_59 l65_59 l66_59 l67_59 l68_59
            refine then_n ⟨25 - (b + 1), by simp only [hm30]; omega, hsz60, hdf60, (b + 1), rfl, (by omega), ((l6_60).trans (by first | rfl | (simp; done) | (congr 1; omega))), ((l1_60).trans l1_29.symm), ((l3_60).trans l3_29.symm), ((l5_60).trans l5_29.symm), (by subst hc_30 hc2_30; exact hS37)⟩
          · skip
            refine W_off rfl (wanted_f rfl rfl (et rfl) (ez rfl) rfl) ?_
            refine W_off rfl (wanted_f rfl rfl (es rfl (et rfl)) (ez rfl) rfl) ?_
            refine W_off rfl (wanted_f rfl rfl (es rfl (es rfl (et rfl))) (ez rfl) rfl) ?_
            refine W_off rfl (wanted_f rfl rfl (es rfl (es rfl (es rfl (et rfl)))) (ez rfl) rfl) ?_
            refine W_off rfl (wanted_f rfl rfl (es rfl (es rfl (es rfl (es rfl (et rfl))))) (ez rfl) rfl) ?_
            refine W_off rfl (wanted_f rfl rfl (es rfl (es rfl (es rfl (es rfl (es rfl (et rfl)))))) (ez rfl) rfl) ?_
            refine W_off rfl (wanted_f rfl rfl (es rfl (es rfl (es rfl (es rfl (es rfl (es rfl (et rfl))))))) (ez rfl) rfl) ?_
            refine W_v rfl (wanted_t rfl rfl (es rfl (es rfl (es rfl (es rfl (es rfl (es rfl (es rfl (es rfl (es rfl (es rfl (es rfl (es rfl (es rfl (es rfl (es rfl (et rfl)))))))))))))))) (ez rfl)) (V_pickF rfl (es rfl (es rfl (es rfl (es rfl (es rfl (es rfl (es rfl (et rfl)))))))) rfl) ?_
            refine W_v rfl (wanted_t rfl rfl (es rfl (es rfl (es rfl (es rfl (es rfl (es rfl (es rfl (es rfl (es rfl (es rfl (es rfl (es rfl (es rfl (es rfl (es rfl (es rfl (et rfl))))))))))))))))) (ez rfl)) (V_neB rfl (es rfl (es rfl (es rfl (es rfl (es rfl (es rfl (es rfl (es rfl (es rfl (es rfl (es rfl (es rfl (es rfl (es rfl (es rfl (et rfl)))))))))))))))) (et rfl) Tryd.underlying4) ?_
            refine W_v rfl rfl (V_pickF rfl (es rfl (es rfl (es rfl (es rfl (es rfl (es rfl (es rfl (es rfl (es rfl (es rfl (es rfl (es rfl (es rfl (es rfl (es rfl (es rfl (es rfl (et rfl)))))))))))))))))) (et rfl)) ?_
            refine W_end ?_
            refine gen_Q (fun A61 hA61 => ?_)
            have hsz61 : SzN A61 70 := by rw [hA61]; infer_instance
            have hdf61 : A61.defers = [] := by rw [hA61]; simp only [df_put]; exact hdf43
            have l1_61 := lookE hA61 1 (es rfl (es rfl (es rfl (es rfl (es rfl (es rfl (es rfl (es rfl (es rfl (es rfl (es rfl (es rfl (es rfl (es rfl (es rfl (es rfl (es rfl (es rfl (es rfl (es rfl (es rfl l1_43)))))))))))))))))))))
            have l3_61 := lookE hA61 3 (es rfl (es rfl (es rfl (es rfl (es rfl (es rfl (es rfl (es rfl (es rfl (es rfl (es rfl (es rfl (es rfl (es rfl (es rfl (es rfl (es rfl (es rfl (es rfl (es rfl (es rfl l3_43)))))))))))))))))))))
            have l5_61 := lookE hA61 5 (es rfl (es rfl (es rfl (es rfl (es rfl (es rfl (es rfl (es rfl (es rfl (es rfl (es rfl (es rfl (es rfl (es rfl (es rfl (es rfl (es rfl (es rfl (es rfl (es rfl (es rfl l5_43)))))))))))))))))))))
            have l6_61 := lookE hA61 6 (es rfl (es rfl (es rfl (es rfl (es rfl (es rfl (es rfl (es rfl (es rfl (es rfl (es rfl (es rfl (es rfl (es rfl (es rfl (es rfl (es rfl (es rfl (es rfl (es rfl (es rfl l6_43)))))))))))))))))))))
            have l51_61 := lookE hA61 51 (es rfl (es rfl (es rfl (es rfl (es rfl (es rfl (es rfl (es rfl (es rfl (es rfl (es rfl (es rfl (es rfl (es rfl (es rfl (es rfl (es rfl (et rfl))))))))))))))))))
            have l52_61 := lookE hA61 52 (es rfl (es rfl (es rfl (es rfl (es rfl (es rfl (es rfl (es rfl (es rfl (es rfl (es rfl (es rfl (es rfl (es rfl (es rfl (es rfl (et rfl)))))))))))))))))
            have l53_61 := lookE hA61 53 (es rfl (es rfl (es rfl (es rfl (es rfl (es rfl (es rfl (es rfl (es rfl (es rfl (es rfl (es rfl (es rfl (es rfl (es rfl (et rfl))))))))))))))))
            have l54_61 := lookE hA61 54 (es rfl (es rfl (es rfl (es rfl (es rfl (es rfl (es rfl (es rfl (es rfl (es rfl (es rfl (es rfl (es rfl (es rfl (et rfl)))))))))))))))
            have l55_61 := lookE hA61 55 (es rfl (es rfl (es rfl (es rfl (es rfl (es rfl (es rfl (es rfl (es rfl (es rfl (es rfl (es rfl (es rfl (et rfl))))))))))))))
            have l56_61 := lookE hA61 56 (es rfl (es rfl (es rfl (es rfl (es rfl (es rfl (es rfl (es rfl (es rfl (es rfl (es rfl (es rfl (et rfl)))))))))))))
            have l57_61 := lookE hA61 57 (es rfl (es rfl (es rfl (es rfl (es rfl (es rfl (es rfl (es rfl (es rfl (es rfl (es rfl (et rfl))))))))))))
            have l58_61 := lookE hA61 58 (es rfl (es rfl (es rfl (es rfl (es rfl (es rfl (es rfl (es rfl (es rfl (es rfl (et rfl)))))))))))
            have l59_61 := lookE hA61 59 (es rfl (es rfl (es rfl (es rfl (es rfl (es rfl (es rfl (es rfl (es rfl (et rfl))))))))))
            have l60_61 := lookE hA61 60 (es rfl (es rfl (es rfl (es rfl (es rfl (es rfl (es rfl (es rfl (et rfl)))))))))
            have l61_61 := lookE hA61 61 (es rfl (es rfl (es rfl (es rfl (es rfl (es rfl (es rfl (et rfl))))))))
            have l62_61 := lookE hA61 62 (es rfl (es rfl (es rfl (es rfl (es rfl (es rfl (et rfl)))))))
            have l63_61 := lookE hA61 63 (es rfl (es rfl (es rfl (es rfl (es rfl (et rfl))))))
            have l64_61 := lookE hA61 64 (es rfl (es rfl (es rfl (es rfl (et rfl)))))
            have l65_61 := lookE hA61 65 (es rfl (es rfl (es rfl (et rfl))))
            have l66_61 := lookE hA61 66 (es rfl (es rfl (et rfl)))
            have l67_61 := lookE hA61 67 (es rfl (et rfl))
            have l68_61 := lookE hA61 68 (et rfl)
            clear hA61 hsz43 hdf43 l1_43 l3_43 l5_43 l6_43 l7_43 l8_43 l9_43 l42_43
            refine then_n (hK55 _ _ ?_)
            clear hK55
            refine cond_not l68_61 (by rw [decide_eq_false_iff_not]; rw [ex_is (y := y56) hg (by omega) (by omega) (by unfold exX; rw [if_neg (by omega)]) (all_row' hg (by omega) hy56)]; simp; try omega) ?_
            refine wp_skip ?_
            refine inb_n ?_
            refine then_n (hK35 _ _ ?_)
            clear hK35
            -- region 11
            refine region_in ?_
            refine W_v rfl rfl (V_mov rfl l6_61) ?_
            refine W_v rfl rfl (V_add rfl (et rfl) rfl (by omega) (by omega)) ?_
            refine W_v rfl rfl (V_asg rfl (et rfl)) ?_
            refine W_end ?_
            refine gen_Q (fun A62 hA62 => ?_)
            have hsz62 : SzN A62 70 := by rw [hA62]; infer_instance
            have hdf62 : A62.defers = [] := by rw [hA62]; simp only [df_put]; exact hdf61
            have l1_62 := lookE hA62 1 (es rfl (es rfl (es rfl l1_61)))
            have l3_62 := lookE hA62 3 (es rfl (es rfl (es rfl l3_61)))
            have l5_62 := lookE hA62 5 (es rfl (es rfl (es rfl l5_61)))
            have l6_62 := lookE hA62 6 (et rfl)
            have l51_62 := lookE hA62 51 (es rfl (es rfl (es rfl l51_61)))
            have l52_62 := lookE hA62 52 (es rfl (es rfl (es rfl l52_61)))
            have l53_62 := lookE hA62 53 (es rfl (es rfl (es rfl l53_61)))
            have l54_62 := lookE hA62 54 (es rfl (es rfl (es rfl l54_61)))
            have l55_62 := lookE hA62 55 (es rfl (es rfl (es rfl l55_61)))
            have l56_62 := lookE hA62 56 (es rfl (es rfl (es rfl l56_61)))
            have l57_62 := lookE hA62 57 (es rfl (es rfl (es rfl l57_61)))
            have l58_62 := lookE hA62 58 (es rfl (es rfl (es rfl l58_61)))
            have l59_62 := lookE hA62 59 (es rfl (es rfl (es rfl l59_61)))
            have l60_62 := lookE hA62 60 (es rfl (es rfl (es rfl l60_61)))
            have l61_62 := lookE hA62 61 (es rfl (es rfl (es rfl l61_61)))
            have l62_62 := lookE hA62 62 (es rfl (es rfl (es rfl l62_61)))
            have l63_62 := lookE hA62 63 (es rfl (es rfl (es rfl l63_61)))
            have l64_62 := lookE hA62 64 (es rfl (es rfl (es rfl l64_61)))
            have l65_62 := lookE hA62 65 (es rfl (es rfl (es rfl l65_61)))
            have l66_62 := lookE hA62 66 (es rfl (es rfl (es rfl l66_61)))
            have l67_62 := lookE hA62 67 (es rfl (es rfl (es rfl l67_61)))
            clear hA62 hsz61 hdf61 l1_61 l3_61 l5_61 l6_61 l51_61 l52_61 l53_61 l54_61 l55_61 l56_61 l57_61 l58_61 l59_61 l60_61 l61_61 l62_61 l63_61 l64_61 l65_61 l66_61 l67_61 l68_61
            refine then_n ⟨25 - (b + 1), by simp only [hm30]; omega, hsz62, hdf62, (b + 1), rfl, (by omega), ((l6_62).trans (by first | rfl | (simp; done) | (congr 1; omega))), ((l1_62).trans l1_29.symm), ((l3_62).trans l3_29.symm), ((l5_62).trans l5_29.symm), (by subst hc_30 hc2_30; exact hS37)⟩
      · skip
        refine wp_exit ?_
        refine then_exit ?_
        refine then_exit ?_
        refine inb_hit ?_
        refine inb_n ?_
        refine then_n (hK27 _ _ ?_)
        clear hK27
        -- region 8
        refine region_in ?_
        refine W_v rfl rfl (V_mov rfl l5_33) ?_
        refine W_v rfl rfl (V_add rfl (et rfl) rfl (by omega) (by omega)) ?_
        refine W_v rfl rfl (V_asg rfl (et rfl)) ?_
        refine W_end ?_
        refine gen_Q (fun A63 hA63 => ?_)
        have hsz63 : SzN A63 70 := by rw [hA63]; infer_instance
        have hdf63 : A63.defers = [] := by rw [hA63]; simp only [df_put]; exact hdf33
        have l1_63 := lookE hA63 1 (es rfl (es rfl (es rfl l1_33)))
        have l3_63 := lookE hA63 3 (es rfl (es rfl (es rfl l3_33)))
        have l5_63 := lookE hA63 5 (et rfl)
        clear hA63 hsz33 hdf33 l1_33 l3_33 l5_33 l6_33 l31_33
        refine then_n ⟨24 - (a + 1), by simp only [hm22]; omega, hsz63, hdf63, (a + 1), rfl, (by omega), ((l5_63).trans (by first | rfl | (simp; done) | (congr 1; omega))), ((l1_63).trans l1_21.symm), ((l3_63).trans l3_21.symm), (by subst hc_30 hc2_30; exact hS30)⟩
    · skip
      refine wp_exit ?_
      refine then_exit ?_
      refine then_exit ?_
      refine inb_hit ?_
      refine then_n (hK19 _ _ ?_)
      clear hK19
      refine wp_seq_k (fun K64 hK64 => ?_)
      -- region 18
      refine region_in ?_
      refine W_call rfl rfl rfl Tryd.func12 (by kernel_rfl) rfl (args0) (awk_c (hS22.roC hG0) ) ?_
      rintro _ w65 ⟨rfl, hP65⟩
      refine ⟨_, rfl, ?_⟩
      have hS65 := hS22.join hP65
      replace hS65 : St w NoX [c_22, c2_22] w65 := hS65
      refine W_v rfl rfl (V_asg rfl (et rfl)) ?_
      refine W_end ?_
      refine gen_Q (fun A66 hA66 => ?_)
      have hsz66 : SzN A66 70 := by rw [hA66]; infer_instance
      have hdf66 : A66.defers = [] := by rw [hA66]; simp only [df_put]; exact hdf25
      have l2_66 := lookE hA66 2 (et rfl)
      clear hA66 hsz25 hdf25 l1_25 l3_25 l5_25 l27_25
      have hS67 : St w NoX [] w65 := hS65.sel [] (by decide) rfl
      refine then_n (hK64 _ _ ?_)
      clear hK64
      refine wp_ret ?_
      refine ret_in (results_1 Tryd.results10 (rv_tmp l2_66)) hdf66 ?_
      -- leaf FF
      exact ⟨rfl, hS67.fin0⟩

end Go.Proofs.YtodbfgfbkgpooaaDoor