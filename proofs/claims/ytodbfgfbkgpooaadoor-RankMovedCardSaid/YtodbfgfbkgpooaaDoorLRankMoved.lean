import Derived.Test.YtodbfgfbkgpooaaDoorProg
import Derived.Test.YtodbfgfbkgpooaaDoorRa7
import Derived.Test.YtodbfgfbkgpooaaDoorPl12
namespace Go.Proofs.YtodbfgfbkgpooaaDoor
open Go.RowKit Go.Own


set_option maxHeartbeats 4000000 in
theorem RankMoved_c {lv : Value} {lo : List Int} {yv : Value} {yo : List Int} {lv2 : Value} {lo2 : List Int} {yv2 : Value} {yo2 : List Int} {gT0 : Nat} {w : World} (h_lv : Ro w NoX (il .i64 lv lo)) (h_yv : Ro w NoX (il .i64 yv yo)) (h_lv2 : Ro w NoX (il .i64 lv2 lo2)) (h_yv2 : Ro w NoX (il .i64 yv2 yo2)) (hG0 : Ro w NoX (bx 0 gT0 #[.int .i64 (-1), .int .i64 (-1)]))  :
    Calls Tryd.prog 7 #[.agg #[lv, yv], .agg #[lv2, yv2]] w fun e w' => e = .returned (.bool true) ∧ St w NoX [] w' := by
  refine calls_in 94 Tryd.func7 rfl rfl (by simp) (fun A0 hsz0 hdf0 hargs => ?_)
  have l0_0 := hargs 0 (.agg #[lv, yv]) rfl
  have l1_0 := hargs 1 (.agg #[lv2, yv2]) rfl
  clear hargs; replace hsz0 : SzN A0 94 := ⟨hsz0⟩
  have hS := St.nil w
  have bh_lv := SlN.le (sl_SlN h_lv.at)
  have bh_yv := SlN.le (sl_SlN h_yv.at)
  have bh_lv2 := SlN.le (sl_SlN h_lv2.at)
  have bh_yv2 := SlN.le (sl_SlN h_yv2.at)
  refine wp_seq_k (fun K1 hK1 => ?_)
  -- region 0
  refine region_in ?_
  refine W_boxS (zs := #[lv, yv]) hS rfl rfl rfl l0_0 (by rfl) (fun g2 w2 c2 hc2 hS2 => ?_)
  replace hS2 : St w NoX [c2] w2 := hS2
  refine W_boxS (zs := #[lv2, yv2]) hS2 rfl rfl rfl (es rfl l1_0) (by rfl) (fun g3 w3 c3 hc3 hS3 => ?_)
  replace hS3 : St w NoX [c3, c2] w3 := hS3
  refine W_v rfl rfl (V_asg rfl rfl) ?_
  refine W_end ?_
  refine gen_Q (fun A4 hA4 => ?_)
  have hsz4 : SzN A4 94 := by rw [hA4]; infer_instance
  have hdf4 : A4.defers = [] := by rw [hA4]; simp only [df_put]; exact hdf0
  have l2_4 := lookE hA4 2 (es rfl (es rfl (et rfl)))
  have l3_4 := lookE hA4 3 (es rfl (et rfl))
  clear hA4 hsz0 hdf0 l0_0 l1_0
  refine then_n (hK1 _ _ ?_)
  clear hK1
  refine wp_seq_k (fun K5 hK5 => ?_)
  refine wp_seq_k (fun K6 hK6 => ?_)
  -- region 1
  refine region_in ?_
  refine W_r rfl rfl (VR_ldA rfl l2_4 (hS3.obj 1 rfl hc2) Tryd.underlying24 rfl (by kernel_rfl)) ?_
  refine W_call rfl rfl rfl Tryd.func24 (by kernel_rfl) rfl (args1 (et rfl)) (good_c (hS3.roC h_lv) (hS3.roC h_yv) ) ?_
  rintro _ w7 ⟨rfl, hP7⟩
  refine ⟨_, rfl, ?_⟩
  have hS7 := hS3.join hP7
  replace hS7 : St w NoX [c3, c2] w7 := hS7
  refine W_v rfl rfl (V_notd rfl (et rfl)) ?_
  refine W_split rfl rfl (V_mov rfl (et rfl)) (fun c8 => ?_) (fun c8 => ?_)
  · skip
    refine W_off rfl (wanted_f rfl rfl (et rfl) (ez rfl) rfl) ?_
    refine W_off rfl (wanted_f rfl rfl (es rfl (et rfl)) (ez rfl) rfl) ?_
    refine W_off rfl (wanted_f rfl rfl (es rfl (es rfl (et rfl))) (ez rfl) rfl) ?_
    refine W_v rfl rfl (V_pickT rfl (es rfl (es rfl (es rfl (et rfl)))) rfl) ?_
    refine W_end ?_
    refine gen_Q (fun A9 hA9 => ?_)
    have hsz9 : SzN A9 94 := by rw [hA9]; infer_instance
    have hdf9 : A9.defers = [] := by rw [hA9]; simp only [df_put]; exact hdf4
    have l2_9 := lookE hA9 2 (es rfl (es rfl (es rfl (es rfl (es rfl (es rfl (es rfl (es rfl l2_4))))))))
    have l3_9 := lookE hA9 3 (es rfl (es rfl (es rfl (es rfl (es rfl (es rfl (es rfl (es rfl l3_4))))))))
    have l22_9 := lookE hA9 22 (et rfl)
    clear hA9 hsz4 hdf4 l2_4 l3_4
    refine then_n (hK6 _ _ ?_)
    clear hK6
    refine cond_t l22_9 ?_
    refine wp_seq_k (fun K10 hK10 => ?_)
    -- region 2
    refine region_in ?_
    refine W_call rfl rfl rfl Tryd.func12 (by kernel_rfl) rfl (args0) (awk_c (hS7.roC hG0) ) ?_
    rintro _ w11 ⟨rfl, hP11⟩
    refine ⟨_, rfl, ?_⟩
    have hS11 := hS7.join hP11
    replace hS11 : St w NoX [c3, c2] w11 := hS11
    refine W_v rfl rfl (V_asg rfl (et rfl)) ?_
    refine W_end ?_
    refine gen_Q (fun A12 hA12 => ?_)
    have hsz12 : SzN A12 94 := by rw [hA12]; infer_instance
    have hdf12 : A12.defers = [] := by rw [hA12]; simp only [df_put]; exact hdf9
    have l4_12 := lookE hA12 4 (et rfl)
    clear hA12 hsz9 hdf9 l2_9 l3_9 l22_9
    have hS13 : St w NoX [] w11 := hS11.sel [] (by decide) rfl
    refine then_n (hK10 _ _ ?_)
    clear hK10
    refine wp_ret ?_
    refine then_ret ?_
    refine ret_in (results_1 Tryd.results7 (rv_tmp l4_12)) hdf12 ?_
    -- leaf T
    exact ⟨rfl, hS13.fin0⟩
  · skip
    have hgd : ¬ (30 < lo.length ∨ 30 < yo.length) ∧ (chk lo yo).2.2 = 0 := by first | exact c8 | exact Classical.not_not.1 c8
    have hg := hgd.2
    have hG := (chk_iff lo yo).1 hg
    have hl : lo.length ≤ 30 ∧ yo.length ≤ 30 := by omega
    obtain ⟨hla, hlb⟩ := hl
    refine W_r rfl (wanted_t rfl rfl (et rfl) (ez rfl)) (VR_ldA rfl (es rfl (es rfl (es rfl (es rfl l3_4)))) (hS7.obj 0 rfl hc3) Tryd.underlying24 rfl (by kernel_rfl)) ?_
    refine W_call rfl (wanted_t rfl rfl (es rfl (et rfl)) (ez rfl)) rfl Tryd.func24 (by kernel_rfl) rfl (args1 (et rfl)) (good_c (hS7.roC h_lv2) (hS7.roC h_yv2) ) ?_
    rintro _ w14 ⟨rfl, hP14⟩
    refine ⟨_, rfl, ?_⟩
    have hS14 := hS7.join hP14
    replace hS14 : St w NoX [c3, c2] w14 := hS14
    refine W_v rfl (wanted_t rfl rfl (es rfl (es rfl (et rfl))) (ez rfl)) (V_notd rfl (et rfl)) ?_
    refine W_v rfl rfl (V_pickF rfl (es rfl (es rfl (es rfl (et rfl)))) (et rfl)) ?_
    refine W_end ?_
    refine gen_Q (fun A15 hA15 => ?_)
    have hsz15 : SzN A15 94 := by rw [hA15]; infer_instance
    have hdf15 : A15.defers = [] := by rw [hA15]; simp only [df_put]; exact hdf4
    have l2_15 := lookE hA15 2 (es rfl (es rfl (es rfl (es rfl (es rfl (es rfl (es rfl (es rfl l2_4))))))))
    have l3_15 := lookE hA15 3 (es rfl (es rfl (es rfl (es rfl (es rfl (es rfl (es rfl (es rfl l3_4))))))))
    have l22_15 := lookE hA15 22 (et rfl)
    clear hA15 hsz4 hdf4 l2_4 l3_4
    refine then_n (hK6 _ _ ?_)
    clear hK6
    refine cond_dec l22_15 (fun c16 => ?_) (fun c16 => ?_)
    · skip
      refine wp_seq_k (fun K17 hK17 => ?_)
      -- region 2
      refine region_in ?_
      refine W_call rfl rfl rfl Tryd.func12 (by kernel_rfl) rfl (args0) (awk_c (hS14.roC hG0) ) ?_
      rintro _ w18 ⟨rfl, hP18⟩
      refine ⟨_, rfl, ?_⟩
      have hS18 := hS14.join hP18
      replace hS18 : St w NoX [c3, c2] w18 := hS18
      refine W_v rfl rfl (V_asg rfl (et rfl)) ?_
      refine W_end ?_
      refine gen_Q (fun A19 hA19 => ?_)
      have hsz19 : SzN A19 94 := by rw [hA19]; infer_instance
      have hdf19 : A19.defers = [] := by rw [hA19]; simp only [df_put]; exact hdf15
      have l4_19 := lookE hA19 4 (et rfl)
      clear hA19 hsz15 hdf15 l2_15 l3_15 l22_15
      have hS20 : St w NoX [] w18 := hS18.sel [] (by decide) rfl
      refine then_n (hK17 _ _ ?_)
      clear hK17
      refine wp_ret ?_
      refine then_ret ?_
      refine ret_in (results_1 Tryd.results7 (rv_tmp l4_19)) hdf19 ?_
      -- leaf FT
      exact ⟨rfl, hS20.fin0⟩
    · skip
      have hgd2 : ¬ (30 < lo2.length ∨ 30 < yo2.length) ∧ (chk lo2 yo2).2.2 = 0 := by first | exact c16 | exact Classical.not_not.1 c16
      have hg2 := hgd2.2
      have hG2 := (chk_iff lo2 yo2).1 hg2
      have hl2 : lo2.length ≤ 30 ∧ yo2.length ≤ 30 := by omega
      obtain ⟨hla2, hlb2⟩ := hl2
      have hm := mv_ok hg hg2
      have hmk24 := mvK_len lo yo lo2 yo2 24
      have hml : (mvT lo yo lo2 yo2).length ≤ 24 := by rw [hm.2]; exact hmk24
      have hm2 := mv_ok hg2 hg
      refine wp_skip ?_
      refine then_n (hK5 _ _ ?_)
      clear hK5
      refine wp_seq_k (fun K21 hK21 => ?_)
      -- region 3
      refine region_in ?_
      refine W_r rfl rfl (VR_ldA rfl l2_15 (hS14.obj 1 rfl hc2) Tryd.underlying24 rfl (by kernel_rfl)) ?_
      refine W_r rfl rfl (VR_ldA rfl (es rfl l3_15) (hS14.obj 0 rfl hc3) Tryd.underlying24 rfl (by kernel_rfl)) ?_
      refine W_call rfl rfl rfl Tryd.func22 (by kernel_rfl) rfl (args2 (es rfl (et rfl)) (et rfl)) (kMv_c (hS14.roC h_lv) (hS14.roC h_yv) (hS14.roC h_lv2) (hS14.roC h_yv2) (hS14.roC hG0) ) ?_
      rintro _ w22 ⟨v_22, rfl, hP22⟩
      refine ⟨_, rfl, ?_⟩
      obtain ⟨c_22, hc_22, hP22⟩ := gen1 hP22
      have hS22 := hS14.join hP22
      replace hS22 : St w NoX [c_22, c3, c2] w22 := hS22
      refine W_v rfl rfl (V_mov rfl (et rfl)) ?_
      refine W_v rfl rfl (V_ext (v := v_22) rfl (et rfl) rfl) ?_
      refine W_v rfl rfl (V_ext (v := .int .i64 ((mvE lo yo lo2 yo2))) rfl (es rfl (et rfl)) rfl) ?_
      refine W_v rfl rfl (V_asg rfl (es rfl (et rfl))) ?_
      refine W_v rfl rfl (V_asg rfl (es rfl (et rfl))) ?_
      refine W_end ?_
      refine gen_Q (fun A23 hA23 => ?_)
      have hsz23 : SzN A23 94 := by rw [hA23]; infer_instance
      have hdf23 : A23.defers = [] := by rw [hA23]; simp only [df_put]; exact hdf15
      have l2_23 := lookE hA23 2 (es rfl (es rfl (es rfl (es rfl (es rfl (es rfl (es rfl (es rfl l2_15))))))))
      have l3_23 := lookE hA23 3 (es rfl (es rfl (es rfl (es rfl (es rfl (es rfl (es rfl (es rfl l3_15))))))))
      have l5_23 := lookE hA23 5 (es rfl (et rfl))
      have l6_23 := lookE hA23 6 (et rfl)
      clear hA23 hsz15 hdf15 l2_15 l3_15 l22_15
      refine then_n (hK21 _ _ ?_)
      clear hK21
      refine wp_seq_k (fun K24 hK24 => ?_)
      -- region 4
      refine region_in ?_
      refine W_r rfl rfl (VR_ldA rfl l3_23 (hS22.obj 1 rfl hc3) Tryd.underlying24 rfl (by kernel_rfl)) ?_
      refine W_r rfl rfl (VR_ldA rfl (es rfl l2_23) (hS22.obj 2 rfl hc2) Tryd.underlying24 rfl (by kernel_rfl)) ?_
      refine W_call rfl rfl rfl Tryd.func22 (by kernel_rfl) rfl (args2 (es rfl (et rfl)) (et rfl)) (kMv_c (hS22.roC h_lv2) (hS22.roC h_yv2) (hS22.roC h_lv) (hS22.roC h_yv) (hS22.roC hG0) ) ?_
      rintro _ w25 ⟨v_25, rfl, hP25⟩
      refine ⟨_, rfl, ?_⟩
      obtain ⟨c_25, hc_25, hP25⟩ := gen1 hP25
      have hS25 := hS22.join hP25
      replace hS25 : St w NoX [c_25, c_22, c3, c2] w25 := hS25
      refine W_v rfl rfl (V_mov rfl (et rfl)) ?_
      refine W_v rfl rfl (V_ext (v := v_25) rfl (et rfl) rfl) ?_
      refine W_v rfl rfl (V_ext (v := .int .i64 ((mvE lo2 yo2 lo yo))) rfl (es rfl (et rfl)) rfl) ?_
      refine W_v rfl rfl (V_asg rfl (es rfl (et rfl))) ?_
      refine W_v rfl rfl (V_asg rfl (es rfl (et rfl))) ?_
      refine W_end ?_
      refine gen_Q (fun A26 hA26 => ?_)
      have hsz26 : SzN A26 94 := by rw [hA26]; infer_instance
      have hdf26 : A26.defers = [] := by rw [hA26]; simp only [df_put]; exact hdf23
      have l2_26 := lookE hA26 2 (es rfl (es rfl (es rfl (es rfl (es rfl (es rfl (es rfl (es rfl l2_23))))))))
      have l3_26 := lookE hA26 3 (es rfl (es rfl (es rfl (es rfl (es rfl (es rfl (es rfl (es rfl l3_23))))))))
      have l5_26 := lookE hA26 5 (es rfl (es rfl (es rfl (es rfl (es rfl (es rfl (es rfl (es rfl l5_23))))))))
      have l6_26 := lookE hA26 6 (es rfl (es rfl (es rfl (es rfl (es rfl (es rfl (es rfl (es rfl l6_23))))))))
      have l7_26 := lookE hA26 7 (es rfl (et rfl))
      have l8_26 := lookE hA26 8 (et rfl)
      clear hA26 hsz23 hdf23 l2_23 l3_23 l5_23 l6_23
      refine then_n (hK24 _ _ ?_)
      clear hK24
      refine wp_seq_k (fun K27 hK27 => ?_)
      refine wp_seq_k (fun K28 hK28 => ?_)
      -- region 5
      refine region_in ?_
      refine W_v rfl rfl (V_mov rfl l6_26) ?_
      refine W_v rfl rfl (V_neq rfl (et rfl) rfl) ?_
      refine W_sure (c' := false) rfl rfl (V_mov rfl (et rfl)) (by rw [decide_eq_false_iff_not]; rw [hm.1]; simp) ?_
      refine W_v rfl (wanted_t rfl rfl (et rfl) (ez rfl)) (V_mov rfl (es rfl (es rfl (es rfl l8_26)))) ?_
      refine W_v rfl (wanted_t rfl rfl (es rfl (et rfl)) (ez rfl)) (V_neq rfl (et rfl) rfl) ?_
      refine W_v rfl rfl (V_pickF rfl (es rfl (es rfl (et rfl))) (et rfl)) ?_
      refine W_sure (c' := false) rfl rfl (V_mov rfl (et rfl)) (by rw [decide_eq_false_iff_not]; rw [hm2.1]; simp) ?_
      refine W_v rfl (wanted_t rfl rfl (et rfl) (ez rfl)) (V_mov rfl (es rfl (es rfl (es rfl (es rfl (es rfl (es rfl (es rfl l5_26)))))))) ?_
      refine W_v rfl (wanted_t rfl rfl (es rfl (et rfl)) (ez rfl)) (V_mov rfl (es rfl (es rfl (es rfl (es rfl (es rfl (es rfl (es rfl (es rfl l7_26))))))))) ?_
      refine W_call rfl (wanted_t rfl rfl (es rfl (es rfl (et rfl))) (ez rfl)) rfl Tryd.func17 (by kernel_rfl) rfl (args2 (es rfl (et rfl)) (et rfl)) (lift0 (Ints_c (hS25.chC 1 rfl hc_22).own.ints (hS25.chC 0 rfl hc_25).own.ints)) ?_
      rintro _ w29 ⟨rfl, hP29⟩
      refine ⟨_, rfl, ?_⟩
      have hS29 := hS25.join hP29
      replace hS29 : St w NoX [c_25, c_22, c3, c2] w29 := hS29
      refine W_v rfl (wanted_t rfl rfl (es rfl (es rfl (es rfl (et rfl)))) (ez rfl)) (V_notd rfl (et rfl)) ?_
      refine W_v rfl rfl (V_pickF rfl (es rfl (es rfl (es rfl (es rfl (et rfl))))) (et rfl)) ?_
      refine W_end ?_
      refine gen_Q (fun A30 hA30 => ?_)
      have hsz30 : SzN A30 94 := by rw [hA30]; infer_instance
      have hdf30 : A30.defers = [] := by rw [hA30]; simp only [df_put]; exact hdf26
      have l2_30 := lookE hA30 2 (es rfl (es rfl (es rfl (es rfl (es rfl (es rfl (es rfl (es rfl (es rfl (es rfl (es rfl (es rfl l2_26))))))))))))
      have l3_30 := lookE hA30 3 (es rfl (es rfl (es rfl (es rfl (es rfl (es rfl (es rfl (es rfl (es rfl (es rfl (es rfl (es rfl l3_26))))))))))))
      have l5_30 := lookE hA30 5 (es rfl (es rfl (es rfl (es rfl (es rfl (es rfl (es rfl (es rfl (es rfl (es rfl (es rfl (es rfl l5_26))))))))))))
      have l47_30 := lookE hA30 47 (et rfl)
      clear hA30 hsz26 hdf26 l2_26 l3_26 l5_26 l6_26 l7_26 l8_26
      have hS31 : St w NoX [c_22, c3, c2] w29 := hS29.sel [1, 2, 3] (by decide) rfl
      refine then_n (hK28 _ _ ?_)
      clear hK28
      refine cond_not l47_30 (by rw [decide_eq_false_iff_not]; rw [hm.2, hm2.2, mvK_comm]; simp) ?_
      refine wp_skip ?_
      refine then_n (hK27 _ _ ?_)
      clear hK27
      refine wp_seq_k (fun K32 hK32 => ?_)
      -- region 7
      refine region_in ?_
      refine W_v rfl rfl (V_asg rfl rfl) ?_
      refine W_end ?_
      refine gen_Q (fun A33 hA33 => ?_)
      have hsz33 : SzN A33 94 := by rw [hA33]; infer_instance
      have hdf33 : A33.defers = [] := by rw [hA33]; simp only [df_put]; exact hdf30
      have l2_33 := lookE hA33 2 (es rfl l2_30)
      have l3_33 := lookE hA33 3 (es rfl l3_30)
      have l5_33 := lookE hA33 5 (es rfl l5_30)
      have l9_33 := lookE hA33 9 (et rfl)
      clear hA33 hsz30 hdf30 l2_30 l3_30 l5_30 l47_30
      refine then_n (hK32 _ _ ?_)
      clear hK32
      refine wp_seq_k (fun K34 hK34 => ?_)
      refine wp_seq_k (fun K35 hK35 => ?_)
      -- region 8
      refine region_in ?_
      refine W_v rfl rfl (V_asg rfl rfl) ?_
      refine W_end ?_
      refine gen_Q (fun A36 hA36 => ?_)
      have hsz36 : SzN A36 94 := by rw [hA36]; infer_instance
      have hdf36 : A36.defers = [] := by rw [hA36]; simp only [df_put]; exact hdf33
      have l2_36 := lookE hA36 2 (es rfl l2_33)
      have l3_36 := lookE hA36 3 (es rfl l3_33)
      have l5_36 := lookE hA36 5 (es rfl l5_33)
      have l9_36 := lookE hA36 9 (es rfl l9_33)
      have l10_36 := lookE hA36 10 (et rfl)
      clear hA36 hsz33 hdf33 l2_33 l3_33 l5_33 l9_33
      refine then_n (hK35 _ _ ?_)
      clear hK35
      refine wp_block ?_
      -- loop 9
      refine loopX (fun mz A' w' => SzN A' 94 ∧ A'.defers = [] ∧ (∃ (k : Nat), (mz = 24 - k) ∧ (k ≤ 24) ∧ ((mvK lo yo lo2 yo2 k).length ≤ k) ∧ (EV A' (.tmp 10) = .int .i64 (k : Int)) ∧ (EV A' (.tmp 9) = .int .i64 ((mvK lo yo lo2 yo2 k).length : Int)) ∧ (EV A' (.tmp 2) = EV A36 (.tmp 2)) ∧ (EV A' (.tmp 3) = EV A36 (.tmp 3)) ∧ (EV A' (.tmp 5) = EV A36 (.tmp 5)) ∧ (St w NoX [io .i64 v_22 (mvT lo yo lo2 yo2), bx g3 24 #[lv2, yv2], bx g2 24 #[lv, yv]] w'))) (24 - 0) ⟨hsz36, hdf36, 0, rfl, (by omega), (mvK_len _ _ _ _ _), ((l10_36).trans (by first | rfl | (simp; done) | (congr 1; omega))), ((l9_36).trans (by first | rfl | (simp; done) | (congr 1; omega))), rfl, rfl, rfl, (by subst hc_22 hc3 hc2; exact hS31)⟩ ?_
      clear hS31 hc_22 hc3 hc2
      rintro n37 A37 w37 ⟨hsz37, hdf37, k, hm37, hk, hmk, l10_37, l9_37, u2_37, u3_37, u5_37, hS37⟩
      have l2_37 := u2_37.trans l2_36
      have l3_37 := u3_37.trans l3_36
      have l5_37 := u5_37.trans l5_36
      obtain ⟨c_37, c3_37, c2_37, hc_37, hc3_37, hc2_37, hS37⟩ := gen3 hS37
      refine wp_seq_k (fun K38 hK38 => ?_)
      refine wp_seq_k (fun K39 hK39 => ?_)
      -- region 9
      refine region_in ?_
      refine W_v rfl rfl (V_mov rfl l10_37) ?_
      refine W_v rfl rfl (V_lss rfl (et rfl) rfl) ?_
      refine W_end ?_
      refine gen_Q (fun A40 hA40 => ?_)
      have hsz40 : SzN A40 94 := by rw [hA40]; infer_instance
      have hdf40 : A40.defers = [] := by rw [hA40]; simp only [df_put]; exact hdf37
      have l2_40 := lookE hA40 2 (es rfl (es rfl l2_37))
      have l3_40 := lookE hA40 3 (es rfl (es rfl l3_37))
      have l5_40 := lookE hA40 5 (es rfl (es rfl l5_37))
      have l9_40 := lookE hA40 9 (es rfl (es rfl l9_37))
      have l10_40 := lookE hA40 10 (es rfl (es rfl l10_37))
      have l49_40 := lookE hA40 49 (et rfl)
      clear hA40 hsz37 hdf37 l10_37 l9_37 l2_37 l3_37 l5_37
      refine then_n (hK39 _ _ ?_)
      clear hK39
      refine cond_dec l49_40 (fun c41 => ?_) (fun c41 => ?_)
      · skip
        refine wp_skip ?_
        refine then_n (hK38 _ _ ?_)
        clear hK38
        refine wp_seq_k (fun K42 hK42 => ?_)
        refine wp_block ?_
        refine wp_seq_k (fun K43 hK43 => ?_)
        -- region 11
        refine region_in ?_
        refine W_r rfl rfl (VR_ldA rfl l2_40 (hS37.obj 2 rfl hc2_37) Tryd.underlying24 rfl (by kernel_rfl)) ?_
        refine W_v rfl rfl (V_mov rfl (es rfl l10_40)) ?_
        refine W_call rfl rfl rfl Tryd.func31 (by kernel_rfl) rfl (args2 (es rfl (et rfl)) (et rfl)) (kOf_c (c := (k : Int)) (hS37.roC h_lv) (hS37.roC h_yv) (hS37.roC hG0) ) ?_
        rintro _ w44 ⟨rfl, hP44⟩
        refine ⟨_, rfl, ?_⟩
        have hS44 := hS37.join hP44
        replace hS44 : St w NoX [c_37, c3_37, c2_37] w44 := hS44
        refine W_v rfl rfl (V_mov rfl (et rfl)) ?_
        refine W_v rfl rfl (V_ext (v := .agg #[.int .i64 ((rkR lo yo (k : Int)).1), .int .i64 ((rkR lo yo (k : Int)).2)]) rfl (et rfl) rfl) ?_
        refine W_v rfl rfl (V_ext (v := .int .i64 ((rkE lo yo (k : Int)))) rfl (es rfl (et rfl)) rfl) ?_
        refine W_allocS (z := .agg #[.int .i64 0, .int .i64 0]) (zs := #[.int .i64 0, .int .i64 0]) hS44 rfl rfl rfl (by kernel_rfl) (by rfl) (fun g45 w45 c45 hc45 hS45 => ?_)
        replace hS45 : St w NoX [c45, c_37, c3_37, c2_37] w45 := hS45
        refine W_stAS 0 hS45 rfl hc45 rfl rfl rfl (et rfl) (es rfl (es rfl (et rfl))) (by first | (rw [List.all_toArray] <;> rfl) | (simp only [List.all_toArray, List.all_cons, List.all_nil] <;> rfl)) (by rfl) (by kernel_rfl) (fun w46 c46 hc46 hS46 => ?_)
        replace hS46 : St w NoX [c46, c_37, c3_37, c2_37] w46 := hS46
        refine W_v rfl rfl (V_asg rfl (es rfl (et rfl))) ?_
        refine W_end ?_
        refine gen_Q (fun A47 hA47 => ?_)
        have hsz47 : SzN A47 94 := by rw [hA47]; infer_instance
        have hdf47 : A47.defers = [] := by rw [hA47]; simp only [df_put]; exact hdf40
        have l2_47 := lookE hA47 2 (es rfl (es rfl (es rfl (es rfl (es rfl (es rfl (es rfl (es rfl l2_40))))))))
        have l3_47 := lookE hA47 3 (es rfl (es rfl (es rfl (es rfl (es rfl (es rfl (es rfl (es rfl l3_40))))))))
        have l5_47 := lookE hA47 5 (es rfl (es rfl (es rfl (es rfl (es rfl (es rfl (es rfl (es rfl l5_40))))))))
        have l9_47 := lookE hA47 9 (es rfl (es rfl (es rfl (es rfl (es rfl (es rfl (es rfl (es rfl l9_40))))))))
        have l10_47 := lookE hA47 10 (es rfl (es rfl (es rfl (es rfl (es rfl (es rfl (es rfl (es rfl l10_40))))))))
        have l11_47 := lookE hA47 11 (es rfl (et rfl))
        have l12_47 := lookE hA47 12 (et rfl)
        clear hA47 hsz40 hdf40 l2_40 l3_40 l5_40 l9_40 l10_40 l49_40
        refine then_n (hK43 _ _ ?_)
        clear hK43
        refine wp_seq_k (fun K48 hK48 => ?_)
        -- region 12
        refine region_in ?_
        refine W_r rfl rfl (VR_ldA rfl l3_47 (hS46.obj 2 rfl hc3_37) Tryd.underlying24 rfl (by kernel_rfl)) ?_
        refine W_v rfl rfl (V_mov rfl (es rfl l10_47)) ?_
        refine W_call rfl rfl rfl Tryd.func31 (by kernel_rfl) rfl (args2 (es rfl (et rfl)) (et rfl)) (kOf_c (c := (k : Int)) (hS46.roC h_lv2) (hS46.roC h_yv2) (hS46.roC hG0) ) ?_
        rintro _ w49 ⟨rfl, hP49⟩
        refine ⟨_, rfl, ?_⟩
        have hS49 := hS46.join hP49
        replace hS49 : St w NoX [c46, c_37, c3_37, c2_37] w49 := hS49
        refine W_v rfl rfl (V_mov rfl (et rfl)) ?_
        refine W_v rfl rfl (V_ext (v := .agg #[.int .i64 ((rkR lo2 yo2 (k : Int)).1), .int .i64 ((rkR lo2 yo2 (k : Int)).2)]) rfl (et rfl) rfl) ?_
        refine W_v rfl rfl (V_ext (v := .int .i64 ((rkE lo2 yo2 (k : Int)))) rfl (es rfl (et rfl)) rfl) ?_
        refine W_allocS (z := .agg #[.int .i64 0, .int .i64 0]) (zs := #[.int .i64 0, .int .i64 0]) hS49 rfl rfl rfl (by kernel_rfl) (by rfl) (fun g50 w50 c50 hc50 hS50 => ?_)
        replace hS50 : St w NoX [c50, c46, c_37, c3_37, c2_37] w50 := hS50
        refine W_stAS 0 hS50 rfl hc50 rfl rfl rfl (et rfl) (es rfl (es rfl (et rfl))) (by first | (rw [List.all_toArray] <;> rfl) | (simp only [List.all_toArray, List.all_cons, List.all_nil] <;> rfl)) (by rfl) (by kernel_rfl) (fun w51 c51 hc51 hS51 => ?_)
        replace hS51 : St w NoX [c51, c46, c_37, c3_37, c2_37] w51 := hS51
        refine W_v rfl rfl (V_asg rfl (es rfl (et rfl))) ?_
        refine W_end ?_
        refine gen_Q (fun A52 hA52 => ?_)
        have hsz52 : SzN A52 94 := by rw [hA52]; infer_instance
        have hdf52 : A52.defers = [] := by rw [hA52]; simp only [df_put]; exact hdf47
        have l2_52 := lookE hA52 2 (es rfl (es rfl (es rfl (es rfl (es rfl (es rfl (es rfl (es rfl l2_47))))))))
        have l3_52 := lookE hA52 3 (es rfl (es rfl (es rfl (es rfl (es rfl (es rfl (es rfl (es rfl l3_47))))))))
        have l5_52 := lookE hA52 5 (es rfl (es rfl (es rfl (es rfl (es rfl (es rfl (es rfl (es rfl l5_47))))))))
        have l9_52 := lookE hA52 9 (es rfl (es rfl (es rfl (es rfl (es rfl (es rfl (es rfl (es rfl l9_47))))))))
        have l10_52 := lookE hA52 10 (es rfl (es rfl (es rfl (es rfl (es rfl (es rfl (es rfl (es rfl l10_47))))))))
        have l11_52 := lookE hA52 11 (es rfl (es rfl (es rfl (es rfl (es rfl (es rfl (es rfl (es rfl l11_47))))))))
        have l12_52 := lookE hA52 12 (es rfl (es rfl (es rfl (es rfl (es rfl (es rfl (es rfl (es rfl l12_47))))))))
        have l13_52 := lookE hA52 13 (es rfl (et rfl))
        have l14_52 := lookE hA52 14 (et rfl)
        clear hA52 hsz47 hdf47 l2_47 l3_47 l5_47 l9_47 l10_47 l11_47 l12_47
        refine then_n (hK48 _ _ ?_)
        clear hK48
        refine wp_seq_k (fun K53 hK53 => ?_)
        refine wp_seq_k (fun K54 hK54 => ?_)
        -- region 13
        refine region_in ?_
        refine W_v rfl rfl (V_mov rfl l12_52) ?_
        refine W_v rfl rfl (V_neq rfl (et rfl) rfl) ?_
        refine W_sure (c' := false) rfl rfl (V_mov rfl (et rfl)) (by rw [decide_eq_false_iff_not]; rw [rk_in0 hg (by omega)]; simp) ?_
        refine W_v rfl (wanted_t rfl rfl (et rfl) (ez rfl)) (V_mov rfl (es rfl (es rfl (es rfl l14_52)))) ?_
        refine W_v rfl (wanted_t rfl rfl (es rfl (et rfl)) (ez rfl)) (V_neq rfl (et rfl) rfl) ?_
        refine W_v rfl rfl (V_pickF rfl (es rfl (es rfl (et rfl))) (et rfl)) ?_
        refine W_end ?_
        refine gen_Q (fun A55 hA55 => ?_)
        have hsz55 : SzN A55 94 := by rw [hA55]; infer_instance
        have hdf55 : A55.defers = [] := by rw [hA55]; simp only [df_put]; exact hdf52
        have l2_55 := lookE hA55 2 (es rfl (es rfl (es rfl (es rfl (es rfl (es rfl l2_52))))))
        have l3_55 := lookE hA55 3 (es rfl (es rfl (es rfl (es rfl (es rfl (es rfl l3_52))))))
        have l5_55 := lookE hA55 5 (es rfl (es rfl (es rfl (es rfl (es rfl (es rfl l5_52))))))
        have l9_55 := lookE hA55 9 (es rfl (es rfl (es rfl (es rfl (es rfl (es rfl l9_52))))))
        have l10_55 := lookE hA55 10 (es rfl (es rfl (es rfl (es rfl (es rfl (es rfl l10_52))))))
        have l11_55 := lookE hA55 11 (es rfl (es rfl (es rfl (es rfl (es rfl (es rfl l11_52))))))
        have l13_55 := lookE hA55 13 (es rfl (es rfl (es rfl (es rfl (es rfl (es rfl l13_52))))))
        have l67_55 := lookE hA55 67 (es rfl (es rfl (et rfl)))
        have l68_55 := lookE hA55 68 (es rfl (et rfl))
        have l69_55 := lookE hA55 69 (et rfl)
        clear hA55 hsz52 hdf52 l2_52 l3_52 l5_52 l9_52 l10_52 l11_52 l12_52 l13_52 l14_52
        refine then_n (hK54 _ _ ?_)
        clear hK54
        refine cond_not l69_55 (by rw [decide_eq_false_iff_not]; rw [rk_in0 hg2 (by omega)]; simp) ?_
        refine wp_skip ?_
        refine then_n (hK53 _ _ ?_)
        clear hK53
        refine wp_seq_k (fun K56 hK56 => ?_)
        refine wp_seq_k (fun K57 hK57 => ?_)
        -- region 15
        refine region_in ?_
        refine W_r rfl rfl (VR_ldA rfl l11_55 (hS51.obj 1 rfl hc46) Tryd.underlying50 rfl (by kernel_rfl)) ?_
        refine W_r rfl rfl (VR_ldA rfl (es rfl l13_55) (hS51.obj 0 rfl hc51) Tryd.underlying50 rfl (by kernel_rfl)) ?_
        refine W_v rfl rfl (V_eqSt2 rfl (es rfl (et rfl)) (et rfl) (by kernel_rfl)) ?_
        refine W_end ?_
        refine gen_Q (fun A58 hA58 => ?_)
        have hsz58 : SzN A58 94 := by rw [hA58]; infer_instance
        have hdf58 : A58.defers = [] := by rw [hA58]; simp only [df_put]; exact hdf55
        have l2_58 := lookE hA58 2 (es rfl (es rfl (es rfl l2_55)))
        have l3_58 := lookE hA58 3 (es rfl (es rfl (es rfl l3_55)))
        have l5_58 := lookE hA58 5 (es rfl (es rfl (es rfl l5_55)))
        have l9_58 := lookE hA58 9 (es rfl (es rfl (es rfl l9_55)))
        have l10_58 := lookE hA58 10 (es rfl (es rfl (es rfl l10_55)))
        have l67_58 := lookE hA58 67 (es rfl (es rfl (es rfl l67_55)))
        have l68_58 := lookE hA58 68 (es rfl (es rfl (es rfl l68_55)))
        have l72_58 := lookE hA58 72 (et rfl)
        clear hA58 hsz55 hdf55 l2_55 l3_55 l5_55 l9_55 l10_55 l11_55 l13_55 l67_55 l68_55 l69_55
        have hS59 : St w NoX [c_37, c3_37, c2_37] w51 := hS51.sel [2, 3, 4] (by decide) rfl
        refine then_n (hK57 _ _ ?_)
        clear hK57
        refine cond_dec l72_58 (fun c60 => ?_) (fun c60 => ?_)
        · skip
          refine wp_exit ?_
          refine then_exit ?_
          refine inb_hit ?_
          refine then_n (hK42 _ _ ?_)
          clear hK42
          -- region 10
          refine region_in ?_
          refine W_v rfl rfl (V_mov rfl l10_58) ?_
          refine W_v rfl rfl (V_add rfl (et rfl) rfl (by omega) (by omega)) ?_
          refine W_v rfl rfl (V_asg rfl (et rfl)) ?_
          refine W_end ?_
          refine gen_Q (fun A61 hA61 => ?_)
          have hsz61 : SzN A61 94 := by rw [hA61]; infer_instance
          have hdf61 : A61.defers = [] := by rw [hA61]; simp only [df_put]; exact hdf58
          have l2_61 := lookE hA61 2 (es rfl (es rfl (es rfl l2_58)))
          have l3_61 := lookE hA61 3 (es rfl (es rfl (es rfl l3_58)))
          have l5_61 := lookE hA61 5 (es rfl (es rfl (es rfl l5_58)))
          have l9_61 := lookE hA61 9 (es rfl (es rfl (es rfl l9_58)))
          have l10_61 := lookE hA61 10 (et rfl)
          have l67_61 := lookE hA61 67 (es rfl (es rfl (es rfl l67_58)))
          have l68_61 := lookE hA61 68 (es rfl (es rfl (es rfl l68_58)))
          clear hA61 hsz58 hdf58 l2_58 l3_58 l5_58 l9_58 l10_58 l67_58 l68_58 l72_58
          refine then_n ⟨24 - (k + 1), by simp only [hm37]; omega, hsz61, hdf61, (k + 1), rfl, (by omega), (mvK_len _ _ _ _ _), ((l10_61).trans (by first | rfl | (simp; done) | (congr 1; omega))), ((l9_61).trans ((by rw [mvK_skip (mvY c60 hg hg2 (by omega))]))), ((l2_61).trans l2_36.symm), ((l3_61).trans l3_36.symm), ((l5_61).trans l5_36.symm), (by subst hc_37 hc3_37 hc2_37; exact hS59)⟩
        · skip
          have hlt : (mvK lo yo lo2 yo2 k).length < (mvT lo yo lo2 yo2).length := by have h := (List.getElem?_eq_some_iff.1 (mvK_at (by omega) (mvN c60 hg hg2 (by omega)))).1; rw [hm.2]; exact h
          refine wp_skip ?_
          refine then_n (hK56 _ _ ?_)
          clear hK56
          refine wp_seq_k (fun K62 hK62 => ?_)
          refine wp_seq_k (fun K63 hK63 => ?_)
          -- region 16
          refine region_in ?_
          refine W_v rfl rfl (V_mov rfl l9_58) ?_
          refine W_v rfl rfl (V_mov rfl (es rfl l5_58)) ?_
          refine W_v rfl rfl (V_lenS rfl (et rfl) (ow_at (hS59.chq 0 rfl hc_37)) Tryd.underlying22) ?_
          refine W_v rfl rfl (V_geq rfl (es rfl (es rfl (et rfl))) (et rfl)) ?_
          refine W_sure (c' := false) rfl rfl (V_mov rfl (et rfl)) (by rw [decide_eq_false_iff_not]; have h := (List.getElem?_eq_some_iff.1 (mvK_at (by omega) (mvN c60 hg hg2 (by omega)))).1; rw [hm.2]; omega) ?_
          refine W_v rfl (wanted_t rfl rfl (et rfl) (ez rfl)) (V_mov rfl (es rfl (es rfl (es rfl (es rfl (es rfl l5_58)))))) ?_
          refine W_v rfl (wanted_t rfl rfl (es rfl (et rfl)) (ez rfl)) (V_mov rfl (es rfl (es rfl (es rfl (es rfl (es rfl (es rfl l9_58))))))) ?_
          have k64 : (mvK lo yo lo2 yo2 k).length < (mvT lo yo lo2 yo2).length := by first | omega | (simp only [List.length_cons, List.length_nil]; omega)
          obtain ⟨y64, hy64⟩ := get_some (xs := (mvT lo yo lo2 yo2)) (k := (mvK lo yo lo2 yo2 k).length) k64
          obtain ⟨B64, O64, C64, hv64⟩ := (SlN.blk (ow_at (hS59.chq 0 rfl hc_37)) (by first | omega | (simp only [List.length_cons, List.length_nil]; omega)))
          refine W_v rfl (wanted_t rfl rfl (es rfl (es rfl (et rfl))) (ez rfl)) (V_ixS (off := O64 + ((mvK lo yo lo2 yo2 k).length)) 1 ((mvK lo yo lo2 yo2 k).length) rfl (es rfl (et rfl)) (et rfl) hv64 (by omega) k64 Tryd.underlying22 (by kernel_rfl) (congrArg _ (Nat.mul_one _))) ?_
          refine W_r rfl (wanted_t rfl rfl (es rfl (es rfl (es rfl (et rfl)))) (ez rfl)) (VR_ldC rfl (et rfl) ((ow_at (hS59.chq 0 rfl hc_37)).cell hv64 (map_get hy64)) Tryd.underlying3 rfl) ?_
          refine W_v rfl (wanted_t rfl rfl (es rfl (es rfl (es rfl (es rfl (et rfl))))) (ez rfl)) (V_mov rfl (es rfl (es rfl (es rfl (es rfl (es rfl (es rfl (es rfl (es rfl (es rfl l10_58)))))))))) ?_
          refine W_v rfl (wanted_t rfl rfl (es rfl (es rfl (es rfl (es rfl (es rfl (et rfl)))))) (ez rfl)) (V_neq rfl (es rfl (et rfl)) (et rfl)) ?_
          refine W_v rfl rfl (V_pickF rfl (es rfl (es rfl (es rfl (es rfl (es rfl (es rfl (et rfl))))))) (et rfl)) ?_
          refine W_end ?_
          refine gen_Q (fun A65 hA65 => ?_)
          have hsz65 : SzN A65 94 := by rw [hA65]; infer_instance
          have hdf65 : A65.defers = [] := by rw [hA65]; simp only [df_put]; exact hdf58
          have l2_65 := lookE hA65 2 (es rfl (es rfl (es rfl (es rfl (es rfl (es rfl (es rfl (es rfl (es rfl (es rfl (es rfl (es rfl l2_58))))))))))))
          have l3_65 := lookE hA65 3 (es rfl (es rfl (es rfl (es rfl (es rfl (es rfl (es rfl (es rfl (es rfl (es rfl (es rfl (es rfl l3_58))))))))))))
          have l5_65 := lookE hA65 5 (es rfl (es rfl (es rfl (es rfl (es rfl (es rfl (es rfl (es rfl (es rfl (es rfl (es rfl (es rfl l5_58))))))))))))
          have l9_65 := lookE hA65 9 (es rfl (es rfl (es rfl (es rfl (es rfl (es rfl (es rfl (es rfl (es rfl (es rfl (es rfl (es rfl l9_58))))))))))))
          have l10_65 := lookE hA65 10 (es rfl (es rfl (es rfl (es rfl (es rfl (es rfl (es rfl (es rfl (es rfl (es rfl (es rfl (es rfl l10_58))))))))))))
          have l67_65 := lookE hA65 67 (es rfl (es rfl (es rfl (es rfl (es rfl (es rfl (es rfl (es rfl (es rfl (es rfl (es rfl (es rfl l67_58))))))))))))
          have l68_65 := lookE hA65 68 (es rfl (es rfl (es rfl (es rfl (es rfl (es rfl (es rfl (es rfl (es rfl (es rfl (es rfl (es rfl l68_58))))))))))))
          have l78_65 := lookE hA65 78 (es rfl (es rfl (es rfl (es rfl (es rfl (es rfl (et rfl)))))))
          have l79_65 := lookE hA65 79 (es rfl (es rfl (es rfl (es rfl (es rfl (et rfl))))))
          have l80_65 := lookE hA65 80 (es rfl (es rfl (es rfl (es rfl (et rfl)))))
          have l81_65 := lookE hA65 81 (es rfl (es rfl (es rfl (et rfl))))
          have l82_65 := lookE hA65 82 (es rfl (es rfl (et rfl)))
          have l83_65 := lookE hA65 83 (es rfl (et rfl))
          have l84_65 := lookE hA65 84 (et rfl)
          clear hA65 hsz58 hdf58 l2_58 l3_58 l5_58 l9_58 l10_58 l67_58 l68_58 l72_58
          refine then_n (hK63 _ _ ?_)
          clear hK63
          refine cond_not l84_65 (by rw [decide_eq_false_iff_not]; exact fun h => h (Option.some.inj (((congrArg (·[(mvK lo yo lo2 yo2 k).length]?) hm.2).symm.trans hy64).symm.trans (mvK_at (by omega) (mvN c60 hg hg2 (by omega)))))) ?_
          refine wp_skip ?_
          refine then_n (hK62 _ _ ?_)
          clear hK62
          -- region 18
          refine region_in ?_
          refine W_v rfl rfl (V_mov rfl l9_65) ?_
          refine W_v rfl rfl (V_add rfl (et rfl) rfl (by omega) (by omega)) ?_
          refine W_v rfl rfl (V_asg rfl (et rfl)) ?_
          refine W_end ?_
          refine gen_Q (fun A66 hA66 => ?_)
          have hsz66 : SzN A66 94 := by rw [hA66]; infer_instance
          have hdf66 : A66.defers = [] := by rw [hA66]; simp only [df_put]; exact hdf65
          have l2_66 := lookE hA66 2 (es rfl (es rfl (es rfl l2_65)))
          have l3_66 := lookE hA66 3 (es rfl (es rfl (es rfl l3_65)))
          have l5_66 := lookE hA66 5 (es rfl (es rfl (es rfl l5_65)))
          have l9_66 := lookE hA66 9 (et rfl)
          have l10_66 := lookE hA66 10 (es rfl (es rfl (es rfl l10_65)))
          have l67_66 := lookE hA66 67 (es rfl (es rfl (es rfl l67_65)))
          have l68_66 := lookE hA66 68 (es rfl (es rfl (es rfl l68_65)))
          have l78_66 := lookE hA66 78 (es rfl (es rfl (es rfl l78_65)))
          have l79_66 := lookE hA66 79 (es rfl (es rfl (es rfl l79_65)))
          have l80_66 := lookE hA66 80 (es rfl (es rfl (es rfl l80_65)))
          have l81_66 := lookE hA66 81 (es rfl (es rfl (es rfl l81_65)))
          have l82_66 := lookE hA66 82 (es rfl (es rfl (es rfl l82_65)))
          have l83_66 := lookE hA66 83 (es rfl (es rfl (es rfl l83_65)))
          clear hA66 hsz65 hdf65 l2_65 l3_65 l5_65 l9_65 l10_65 l67_65 l68_65 l78_65 l79_65 l80_65 l81_65 l82_65 l83_65 l84_65
          refine inb_n ?_
          refine then_n (hK42 _ _ ?_)
          clear hK42
          -- region 10
          refine region_in ?_
          refine W_v rfl rfl (V_mov rfl l10_66) ?_
          refine W_v rfl rfl (V_add rfl (et rfl) rfl (by omega) (by omega)) ?_
          refine W_v rfl rfl (V_asg rfl (et rfl)) ?_
          refine W_end ?_
          refine gen_Q (fun A67 hA67 => ?_)
          have hsz67 : SzN A67 94 := by rw [hA67]; infer_instance
          have hdf67 : A67.defers = [] := by rw [hA67]; simp only [df_put]; exact hdf66
          have l2_67 := lookE hA67 2 (es rfl (es rfl (es rfl l2_66)))
          have l3_67 := lookE hA67 3 (es rfl (es rfl (es rfl l3_66)))
          have l5_67 := lookE hA67 5 (es rfl (es rfl (es rfl l5_66)))
          have l9_67 := lookE hA67 9 (es rfl (es rfl (es rfl l9_66)))
          have l10_67 := lookE hA67 10 (et rfl)
          have l67_67 := lookE hA67 67 (es rfl (es rfl (es rfl l67_66)))
          have l68_67 := lookE hA67 68 (es rfl (es rfl (es rfl l68_66)))
          have l78_67 := lookE hA67 78 (es rfl (es rfl (es rfl l78_66)))
          have l79_67 := lookE hA67 79 (es rfl (es rfl (es rfl l79_66)))
          have l80_67 := lookE hA67 80 (es rfl (es rfl (es rfl l80_66)))
          have l81_67 := lookE hA67 81 (es rfl (es rfl (es rfl l81_66)))
          have l82_67 := lookE hA67 82 (es rfl (es rfl (es rfl l82_66)))
          have l83_67 := lookE hA67 83 (es rfl (es rfl (es rfl l83_66)))
          clear hA67 hsz66 hdf66 l2_66 l3_66 l5_66 l9_66 l10_66 l67_66 l68_66 l78_66 l79_66 l80_66 l81_66 l82_66 l83_66
          refine then_n ⟨24 - (k + 1), by simp only [hm37]; omega, hsz67, hdf67, (k + 1), rfl, (by omega), (mvK_len _ _ _ _ _), ((l10_67).trans (by first | rfl | (simp; done) | (congr 1; omega))), ((l9_67).trans ((by rw [← mvK_hit (mvN c60 hg hg2 (by omega)), List.length_append]; try simp))), ((l2_67).trans l2_36.symm), ((l3_67).trans l3_36.symm), ((l5_67).trans l5_36.symm), (by subst hc_37 hc3_37 hc2_37; exact hS59)⟩
      · skip
        refine wp_exit ?_
        refine then_exit ?_
        refine then_exit ?_
        refine inb_hit ?_
        refine then_n (hK34 _ _ ?_)
        clear hK34
        refine wp_seq_k (fun K68 hK68 => ?_)
        -- region 19
        refine region_in ?_
        refine W_v rfl rfl (V_mov rfl l9_40) ?_
        refine W_v rfl rfl (V_mov rfl (es rfl l5_40)) ?_
        refine W_v rfl rfl (V_lenS rfl (et rfl) (ow_at (hS37.chq 0 rfl hc_37)) Tryd.underlying22) ?_
        refine W_v rfl rfl (V_eql rfl (es rfl (es rfl (et rfl))) (et rfl)) ?_
        refine W_sure (c' := true) rfl rfl (V_mov rfl (et rfl)) (by rw [decide_eq_true_eq]; rw [show k = 24 by omega, hm.2]) ?_
        refine W_call rfl (wanted_t rfl rfl (et rfl) (ez rfl)) rfl Tryd.func12 (by kernel_rfl) rfl (args0) (awk_c (hS37.roC hG0) ) ?_
        rintro _ w69 ⟨rfl, hP69⟩
        refine ⟨_, rfl, ?_⟩
        have hS69 := hS37.join hP69
        replace hS69 : St w NoX [c_37, c3_37, c2_37] w69 := hS69
        refine W_v rfl rfl (V_pickT rfl (es rfl (et rfl)) (et rfl)) ?_
        refine W_v rfl rfl (V_asg rfl (et rfl)) ?_
        refine W_end ?_
        refine gen_Q (fun A70 hA70 => ?_)
        have hsz70 : SzN A70 94 := by rw [hA70]; infer_instance
        have hdf70 : A70.defers = [] := by rw [hA70]; simp only [df_put]; exact hdf40
        have l4_70 := lookE hA70 4 (et rfl)
        clear hA70 hsz40 hdf40 l2_40 l3_40 l5_40 l9_40 l10_40 l49_40
        have hS71 : St w NoX [] w69 := hS69.sel [] (by decide) rfl
        refine then_n (hK68 _ _ ?_)
        clear hK68
        refine wp_ret ?_
        refine ret_in (results_1 Tryd.results7 (rv_tmp l4_70)) hdf70 ?_
        -- leaf FFF
        exact ⟨rfl, hS71.fin0⟩

end Go.Proofs.YtodbfgfbkgpooaaDoor