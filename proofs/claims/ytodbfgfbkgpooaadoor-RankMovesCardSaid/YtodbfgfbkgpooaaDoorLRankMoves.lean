import Derived.Test.YtodbfgfbkgpooaaDoorProg
import Derived.Test.YtodbfgfbkgpooaaDoorRa7
namespace Go.Proofs.YtodbfgfbkgpooaaDoor
open Go.RowKit Go.Own


set_option maxHeartbeats 4000000 in
theorem RankMoves_c {lv : Value} {lo : List Int} {yv : Value} {yo : List Int} {lv2 : Value} {lo2 : List Int} {yv2 : Value} {yo2 : List Int} {gT0 : Nat} {w : World} (h_lv : Ro w NoX (il .i64 lv lo)) (h_yv : Ro w NoX (il .i64 yv yo)) (h_lv2 : Ro w NoX (il .i64 lv2 lo2)) (h_yv2 : Ro w NoX (il .i64 yv2 yo2)) (hG0 : Ro w NoX (bx 0 gT0 #[.int .i64 (-1), .int .i64 (-1)]))  :
    Calls Tryd.prog 4 #[.agg #[lv, yv], .agg #[lv2, yv2]] w fun e w' => e = .returned (.bool true) ∧ St w NoX [] w' := by
  refine calls_in 39 Tryd.func4 rfl rfl (by simp) (fun A0 hsz0 hdf0 hargs => ?_)
  have l0_0 := hargs 0 (.agg #[lv, yv]) rfl
  have l1_0 := hargs 1 (.agg #[lv2, yv2]) rfl
  clear hargs; replace hsz0 : SzN A0 39 := ⟨hsz0⟩
  have hS := St.nil w
  have bh_lv := SlN.le (sl_SlN h_lv.at)
  have bh_yv := SlN.le (sl_SlN h_yv.at)
  have bh_lv2 := SlN.le (sl_SlN h_lv2.at)
  have bh_yv2 := SlN.le (sl_SlN h_yv2.at)
  refine wp_seq_k (fun K1 hK1 => ?_)
  -- region 0
  refine region_in ?_
  refine W_boxS (zs := #[lv, yv]) hS rfl rfl rfl l0_0 (by rfl) (fun g2 w2 c2 hc2 hS2 => ?_)
  replace hS2 : St w NoX [c2] w2 := hS2
  refine W_boxS (zs := #[lv2, yv2]) hS2 rfl rfl rfl (es rfl l1_0) (by rfl) (fun g3 w3 c3 hc3 hS3 => ?_)
  replace hS3 : St w NoX [c3, c2] w3 := hS3
  refine W_v rfl rfl (V_asg rfl rfl) ?_
  refine W_end ?_
  refine gen_Q (fun A4 hA4 => ?_)
  have hsz4 : SzN A4 39 := by rw [hA4]; infer_instance
  have hdf4 : A4.defers = [] := by rw [hA4]; simp only [df_put]; exact hdf0
  have l2_4 := lookE hA4 2 (es rfl (es rfl (et rfl)))
  have l3_4 := lookE hA4 3 (es rfl (et rfl))
  clear hA4 hsz0 hdf0 l0_0 l1_0
  refine then_n (hK1 _ _ ?_)
  clear hK1
  refine wp_seq_k (fun K5 hK5 => ?_)
  refine wp_seq_k (fun K6 hK6 => ?_)
  -- region 1
  refine region_in ?_
  refine W_r rfl rfl (VR_ldA rfl l2_4 (hS3.obj 1 rfl hc2) Tryd.underlying24 rfl (by kernel_rfl)) ?_
  refine W_call rfl rfl rfl Tryd.func11 (by kernel_rfl) rfl (args1 (et rfl)) (lift0 (Far_c (hS3.roC h_lv).ints (hS3.roC h_yv).ints)) ?_
  rintro _ w7 ⟨rfl, hP7⟩
  refine ⟨_, rfl, ?_⟩
  have hS7 := hS3.join hP7
  replace hS7 : St w NoX [c3, c2] w7 := hS7
  refine W_split rfl rfl (V_mov rfl (et rfl)) (fun c8 => ?_) (fun c8 => ?_)
  · skip
    refine W_off rfl (wanted_f rfl rfl (et rfl) (ez rfl) rfl) ?_
    refine W_off rfl (wanted_f rfl rfl (es rfl (et rfl)) (ez rfl) rfl) ?_
    refine W_v rfl rfl (V_pickT rfl (es rfl (es rfl (et rfl))) rfl) ?_
    refine W_end ?_
    refine gen_Q (fun A9 hA9 => ?_)
    have hsz9 : SzN A9 39 := by rw [hA9]; infer_instance
    have hdf9 : A9.defers = [] := by rw [hA9]; simp only [df_put]; exact hdf4
    have l2_9 := lookE hA9 2 (es rfl (es rfl (es rfl (es rfl (es rfl (es rfl l2_4))))))
    have l3_9 := lookE hA9 3 (es rfl (es rfl (es rfl (es rfl (es rfl (es rfl l3_4))))))
    have l14_9 := lookE hA9 14 (et rfl)
    clear hA9 hsz4 hdf4 l2_4 l3_4
    refine then_n (hK6 _ _ ?_)
    clear hK6
    refine cond_t l14_9 ?_
    refine wp_seq_k (fun K10 hK10 => ?_)
    -- region 2
    refine region_in ?_
    refine W_call rfl rfl rfl Tryd.func12 (by kernel_rfl) rfl (args0) (awk_c (hS7.roC hG0) ) ?_
    rintro _ w11 ⟨rfl, hP11⟩
    refine ⟨_, rfl, ?_⟩
    have hS11 := hS7.join hP11
    replace hS11 : St w NoX [c3, c2] w11 := hS11
    refine W_v rfl rfl (V_asg rfl (et rfl)) ?_
    refine W_end ?_
    refine gen_Q (fun A12 hA12 => ?_)
    have hsz12 : SzN A12 39 := by rw [hA12]; infer_instance
    have hdf12 : A12.defers = [] := by rw [hA12]; simp only [df_put]; exact hdf9
    have l4_12 := lookE hA12 4 (et rfl)
    clear hA12 hsz9 hdf9 l2_9 l3_9 l14_9
    have hS13 : St w NoX [] w11 := hS11.sel [] (by decide) rfl
    refine then_n (hK10 _ _ ?_)
    clear hK10
    refine wp_ret ?_
    refine then_ret ?_
    refine ret_in (results_1 Tryd.results4 (rv_tmp l4_12)) hdf12 ?_
    -- leaf T
    exact ⟨rfl, hS13.fin0⟩
  · skip
    refine W_r rfl (wanted_t rfl rfl (et rfl) (ez rfl)) (VR_ldA rfl (es rfl (es rfl (es rfl l3_4))) (hS7.obj 0 rfl hc3) Tryd.underlying24 rfl (by kernel_rfl)) ?_
    refine W_call rfl (wanted_t rfl rfl (es rfl (et rfl)) (ez rfl)) rfl Tryd.func11 (by kernel_rfl) rfl (args1 (et rfl)) (lift0 (Far_c (hS7.roC h_lv2).ints (hS7.roC h_yv2).ints)) ?_
    rintro _ w14 ⟨rfl, hP14⟩
    refine ⟨_, rfl, ?_⟩
    have hS14 := hS7.join hP14
    replace hS14 : St w NoX [c3, c2] w14 := hS14
    refine W_v rfl rfl (V_pickF rfl (es rfl (es rfl (et rfl))) (et rfl)) ?_
    refine W_end ?_
    refine gen_Q (fun A15 hA15 => ?_)
    have hsz15 : SzN A15 39 := by rw [hA15]; infer_instance
    have hdf15 : A15.defers = [] := by rw [hA15]; simp only [df_put]; exact hdf4
    have l2_15 := lookE hA15 2 (es rfl (es rfl (es rfl (es rfl (es rfl (es rfl l2_4))))))
    have l3_15 := lookE hA15 3 (es rfl (es rfl (es rfl (es rfl (es rfl (es rfl l3_4))))))
    have l14_15 := lookE hA15 14 (et rfl)
    clear hA15 hsz4 hdf4 l2_4 l3_4
    refine then_n (hK6 _ _ ?_)
    clear hK6
    refine cond_dec l14_15 (fun c16 => ?_) (fun c16 => ?_)
    · skip
      refine wp_seq_k (fun K17 hK17 => ?_)
      -- region 2
      refine region_in ?_
      refine W_call rfl rfl rfl Tryd.func12 (by kernel_rfl) rfl (args0) (awk_c (hS14.roC hG0) ) ?_
      rintro _ w18 ⟨rfl, hP18⟩
      refine ⟨_, rfl, ?_⟩
      have hS18 := hS14.join hP18
      replace hS18 : St w NoX [c3, c2] w18 := hS18
      refine W_v rfl rfl (V_asg rfl (et rfl)) ?_
      refine W_end ?_
      refine gen_Q (fun A19 hA19 => ?_)
      have hsz19 : SzN A19 39 := by rw [hA19]; infer_instance
      have hdf19 : A19.defers = [] := by rw [hA19]; simp only [df_put]; exact hdf15
      have l4_19 := lookE hA19 4 (et rfl)
      clear hA19 hsz15 hdf15 l2_15 l3_15 l14_15
      have hS20 : St w NoX [] w18 := hS18.sel [] (by decide) rfl
      refine then_n (hK17 _ _ ?_)
      clear hK17
      refine wp_ret ?_
      refine then_ret ?_
      refine ret_in (results_1 Tryd.results4 (rv_tmp l4_19)) hdf19 ?_
      -- leaf FT
      exact ⟨rfl, hS20.fin0⟩
    · skip
      refine wp_skip ?_
      refine then_n (hK5 _ _ ?_)
      clear hK5
      refine wp_seq_k (fun K21 hK21 => ?_)
      -- region 3
      refine region_in ?_
      refine W_r rfl rfl (VR_ldA rfl l2_15 (hS14.obj 1 rfl hc2) Tryd.underlying24 rfl (by kernel_rfl)) ?_
      refine W_r rfl rfl (VR_ldA rfl (es rfl l3_15) (hS14.obj 0 rfl hc3) Tryd.underlying24 rfl (by kernel_rfl)) ?_
      refine W_call rfl rfl rfl Tryd.func22 (by kernel_rfl) rfl (args2 (es rfl (et rfl)) (et rfl)) (kMv_c (hS14.roC h_lv) (hS14.roC h_yv) (hS14.roC h_lv2) (hS14.roC h_yv2) (hS14.roC hG0) ) ?_
      rintro _ w22 ⟨v_22, rfl, hP22⟩
      refine ⟨_, rfl, ?_⟩
      obtain ⟨c_22, hc_22, hP22⟩ := gen1 hP22
      have hS22 := hS14.join hP22
      replace hS22 : St w NoX [c_22, c3, c2] w22 := hS22
      refine W_v rfl rfl (V_mov rfl (et rfl)) ?_
      refine W_v rfl rfl (V_ext (v := v_22) rfl (et rfl) rfl) ?_
      refine W_v rfl rfl (V_ext (v := .int .i64 ((mvE lo yo lo2 yo2))) rfl (es rfl (et rfl)) rfl) ?_
      refine W_v rfl rfl (V_asg rfl (es rfl (et rfl))) ?_
      refine W_v rfl rfl (V_asg rfl (es rfl (et rfl))) ?_
      refine W_end ?_
      refine gen_Q (fun A23 hA23 => ?_)
      have hsz23 : SzN A23 39 := by rw [hA23]; infer_instance
      have hdf23 : A23.defers = [] := by rw [hA23]; simp only [df_put]; exact hdf15
      have l2_23 := lookE hA23 2 (es rfl (es rfl (es rfl (es rfl (es rfl (es rfl (es rfl (es rfl l2_15))))))))
      have l3_23 := lookE hA23 3 (es rfl (es rfl (es rfl (es rfl (es rfl (es rfl (es rfl (es rfl l3_15))))))))
      have l5_23 := lookE hA23 5 (es rfl (et rfl))
      have l6_23 := lookE hA23 6 (et rfl)
      clear hA23 hsz15 hdf15 l2_15 l3_15 l14_15
      refine then_n (hK21 _ _ ?_)
      clear hK21
      refine wp_seq_k (fun K24 hK24 => ?_)
      -- region 4
      refine region_in ?_
      refine W_r rfl rfl (VR_ldA rfl l2_23 (hS22.obj 2 rfl hc2) Tryd.underlying24 rfl (by kernel_rfl)) ?_
      refine W_r rfl rfl (VR_ldA rfl (es rfl l3_23) (hS22.obj 1 rfl hc3) Tryd.underlying24 rfl (by kernel_rfl)) ?_
      refine W_call rfl rfl rfl Tryd.func23 (by kernel_rfl) rfl (args2 (es rfl (et rfl)) (et rfl)) (qMv_c (hS22.roC h_lv) (hS22.roC h_yv) (hS22.roC h_lv2) (hS22.roC h_yv2) (by first | omega | (simp; done) | (simp; omega)) (by first | omega | (simp; done) | (simp; omega)) (by first | omega | (simp; done) | (simp; omega)) (by first | omega | (simp; done) | (simp; omega))) ?_
      rintro _ w25 ⟨v_25, rfl, hP25⟩
      refine ⟨_, rfl, ?_⟩
      obtain ⟨c_25, hc_25, hP25⟩ := gen1 hP25
      have hS25 := hS22.join hP25
      replace hS25 : St w NoX [c_25, c_22, c3, c2] w25 := hS25
      refine W_v rfl rfl (V_mov rfl (et rfl)) ?_
      refine W_v rfl rfl (V_ext (v := v_25) rfl (et rfl) rfl) ?_
      refine W_v rfl rfl (V_ext (v := .int .i64 ((mvE lo yo lo2 yo2))) rfl (es rfl (et rfl)) rfl) ?_
      refine W_v rfl rfl (V_asg rfl (es rfl (et rfl))) ?_
      refine W_v rfl rfl (V_asg rfl (es rfl (et rfl))) ?_
      refine W_end ?_
      refine gen_Q (fun A26 hA26 => ?_)
      have hsz26 : SzN A26 39 := by rw [hA26]; infer_instance
      have hdf26 : A26.defers = [] := by rw [hA26]; simp only [df_put]; exact hdf23
      have l5_26 := lookE hA26 5 (es rfl (es rfl (es rfl (es rfl (es rfl (es rfl (es rfl (es rfl l5_23))))))))
      have l6_26 := lookE hA26 6 (es rfl (es rfl (es rfl (es rfl (es rfl (es rfl (es rfl (es rfl l6_23))))))))
      have l7_26 := lookE hA26 7 (es rfl (et rfl))
      have l8_26 := lookE hA26 8 (et rfl)
      clear hA26 hsz23 hdf23 l2_23 l3_23 l5_23 l6_23
      have hS27 : St w NoX [c_25, c_22] w25 := hS25.sel [0, 1] (by decide) rfl
      refine then_n (hK24 _ _ ?_)
      clear hK24
      refine wp_seq_k (fun K28 hK28 => ?_)
      -- region 5
      refine region_in ?_
      refine W_v rfl rfl (V_mov rfl l5_26) ?_
      refine W_v rfl rfl (V_mov rfl (es rfl l7_26)) ?_
      refine W_call rfl rfl rfl Tryd.func17 (by kernel_rfl) rfl (args2 (es rfl (et rfl)) (et rfl)) (lift0 (Ints_c (hS27.chC 1 rfl hc_22).own.ints (hS27.chC 0 rfl hc_25).own.ints)) ?_
      rintro _ w29 ⟨rfl, hP29⟩
      refine ⟨_, rfl, ?_⟩
      have hS29 := hS27.join hP29
      replace hS29 : St w NoX [c_25, c_22] w29 := hS29
      refine W_sure (c' := true) rfl rfl (V_mov rfl (et rfl)) (by simp) ?_
      refine W_v rfl (wanted_t rfl rfl (et rfl) (ez rfl)) (V_mov rfl (es rfl (es rfl (es rfl (es rfl l6_26))))) ?_
      refine W_v rfl (wanted_t rfl rfl (es rfl (et rfl)) (ez rfl)) (V_mov rfl (es rfl (es rfl (es rfl (es rfl (es rfl l8_26)))))) ?_
      refine W_v rfl (wanted_t rfl rfl (es rfl (es rfl (et rfl))) (ez rfl)) (V_eql rfl (es rfl (et rfl)) (et rfl)) ?_
      refine W_v rfl rfl (V_pickT rfl (es rfl (es rfl (es rfl (et rfl)))) (et rfl)) ?_
      refine W_sure (c' := true) rfl rfl (V_mov rfl (et rfl)) (by simp) ?_
      refine W_call rfl (wanted_t rfl rfl (et rfl) (ez rfl)) rfl Tryd.func12 (by kernel_rfl) rfl (args0) (awk_c (hS29.roC hG0) ) ?_
      rintro _ w30 ⟨rfl, hP30⟩
      refine ⟨_, rfl, ?_⟩
      have hS30 := hS29.join hP30
      replace hS30 : St w NoX [c_25, c_22] w30 := hS30
      refine W_v rfl rfl (V_pickT rfl (es rfl (et rfl)) (et rfl)) ?_
      refine W_v rfl rfl (V_asg rfl (et rfl)) ?_
      refine W_end ?_
      refine gen_Q (fun A31 hA31 => ?_)
      have hsz31 : SzN A31 39 := by rw [hA31]; infer_instance
      have hdf31 : A31.defers = [] := by rw [hA31]; simp only [df_put]; exact hdf26
      have l4_31 := lookE hA31 4 (et rfl)
      clear hA31 hsz26 hdf26 l5_26 l6_26 l7_26 l8_26
      have hS32 : St w NoX [] w30 := hS30.sel [] (by decide) rfl
      refine then_n (hK28 _ _ ?_)
      clear hK28
      refine wp_ret ?_
      refine ret_in (results_1 Tryd.results4 (rv_tmp l4_31)) hdf31 ?_
      -- leaf FF
      exact ⟨rfl, hS32.fin0⟩

end Go.Proofs.YtodbfgfbkgpooaaDoor