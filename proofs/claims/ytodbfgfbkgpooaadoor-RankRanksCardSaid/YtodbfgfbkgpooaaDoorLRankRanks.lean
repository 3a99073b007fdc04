import Derived.Test.YtodbfgfbkgpooaaDoorProg
import Derived.Test.YtodbfgfbkgpooaaDoorRa7
namespace Go.Proofs.YtodbfgfbkgpooaaDoor
open Go.RowKit Go.Own


set_option maxHeartbeats 4000000 in
theorem RankRanks_c {lv : Value} {lo : List Int} {yv : Value} {yo : List Int} {c : Int} {gT0 : Nat} {w : World} (h_lv : Ro w NoX (il .i64 lv lo)) (h_yv : Ro w NoX (il .i64 yv yo)) (hG0 : Ro w NoX (bx 0 gT0 #[.int .i64 (-1), .int .i64 (-1)]))  :
    Calls Tryd.prog 8 #[.agg #[lv, yv], .int .i64 c] w fun e w' => e = .returned (.bool true) ∧ St w NoX [] w' := by
  refine calls_in 83 Tryd.func8 rfl rfl (by simp) (fun A0 hsz0 hdf0 hargs => ?_)
  have l0_0 := hargs 0 (.agg #[lv, yv]) rfl
  have l1_0 := hargs 1 (.int .i64 c) rfl
  clear hargs; replace hsz0 : SzN A0 83 := ⟨hsz0⟩
  have hS := St.nil w
  have bh_lv := SlN.le (sl_SlN h_lv.at)
  have bh_yv := SlN.le (sl_SlN h_yv.at)
  refine wp_seq_k (fun K1 hK1 => ?_)
  -- region 0
  refine region_in ?_
  refine W_boxS (zs := #[lv, yv]) hS rfl rfl rfl l0_0 (by rfl) (fun g2 w2 c2 hc2 hS2 => ?_)
  replace hS2 : St w NoX [c2] w2 := hS2
  refine W_v rfl rfl (V_asg rfl rfl) ?_
  refine W_end ?_
  refine gen_Q (fun A3 hA3 => ?_)
  have hsz3 : SzN A3 83 := by rw [hA3]; infer_instance
  have hdf3 : A3.defers = [] := by rw [hA3]; simp only [df_put]; exact hdf0
  have l1_3 := lookE hA3 1 (es rfl (es rfl l1_0))
  have l2_3 := lookE hA3 2 (es rfl (et rfl))
  clear hA3 hsz0 hdf0 l0_0 l1_0
  refine then_n (hK1 _ _ ?_)
  clear hK1
  refine wp_seq_k (fun K4 hK4 => ?_)
  refine wp_seq_k (fun K5 hK5 => ?_)
  -- region 1
  refine region_in ?_
  refine W_r rfl rfl (VR_ldA rfl l2_3 (hS2.obj 0 rfl hc2) Tryd.underlying24 rfl (by kernel_rfl)) ?_
  refine W_call rfl rfl rfl Tryd.func11 (by kernel_rfl) rfl (args1 (et rfl)) (lift0 (Far_c (hS2.roC h_lv).ints (hS2.roC h_yv).ints)) ?_
  rintro _ w6 ⟨rfl, hP6⟩
  refine ⟨_, rfl, ?_⟩
  have hS6 := hS2.join hP6
  replace hS6 : St w NoX [c2] w6 := hS6
  refine W_end ?_
  refine gen_Q (fun A7 hA7 => ?_)
  have hsz7 : SzN A7 83 := by rw [hA7]; infer_instance
  have hdf7 : A7.defers = [] := by rw [hA7]; simp only [df_put]; exact hdf3
  have l1_7 := lookE hA7 1 (es rfl (es rfl l1_3))
  have l2_7 := lookE hA7 2 (es rfl (es rfl l2_3))
  have l18_7 := lookE hA7 18 (et rfl)
  clear hA7 hsz3 hdf3 l1_3 l2_3
  refine then_n (hK5 _ _ ?_)
  clear hK5
  refine cond_dec l18_7 (fun c8 => ?_) (fun c8 => ?_)
  · skip
    refine wp_seq_k (fun K9 hK9 => ?_)
    -- region 2
    refine region_in ?_
    refine W_call rfl rfl rfl Tryd.func12 (by kernel_rfl) rfl (args0) (awk_c (hS6.roC hG0) ) ?_
    rintro _ w10 ⟨rfl, hP10⟩
    refine ⟨_, rfl, ?_⟩
    have hS10 := hS6.join hP10
    replace hS10 : St w NoX [c2] w10 := hS10
    refine W_v rfl rfl (V_asg rfl (et rfl)) ?_
    refine W_end ?_
    refine gen_Q (fun A11 hA11 => ?_)
    have hsz11 : SzN A11 83 := by rw [hA11]; infer_instance
    have hdf11 : A11.defers = [] := by rw [hA11]; simp only [df_put]; exact hdf7
    have l4_11 := lookE hA11 4 (et rfl)
    clear hA11 hsz7 hdf7 l1_7 l2_7 l18_7
    have hS12 : St w NoX [] w10 := hS10.sel [] (by decide) rfl
    refine then_n (hK9 _ _ ?_)
    clear hK9
    refine wp_ret ?_
    refine then_ret ?_
    refine ret_in (results_1 Tryd.results8 (rv_tmp l4_11)) hdf11 ?_
    -- leaf T
    exact ⟨rfl, hS12.fin0⟩
  · skip
    refine wp_skip ?_
    refine then_n (hK4 _ _ ?_)
    clear hK4
    refine wp_seq_k (fun K13 hK13 => ?_)
    -- region 3
    refine region_in ?_
    refine W_r rfl rfl (VR_ldA rfl l2_7 (hS6.obj 0 rfl hc2) Tryd.underlying24 rfl (by kernel_rfl)) ?_
    refine W_v rfl rfl (V_mov rfl (es rfl l1_7)) ?_
    refine W_call rfl rfl rfl Tryd.func31 (by kernel_rfl) rfl (args2 (es rfl (et rfl)) (et rfl)) (kOf_c (c := c) (hS6.roC h_lv) (hS6.roC h_yv) (hS6.roC hG0) ) ?_
    rintro _ w14 ⟨rfl, hP14⟩
    refine ⟨_, rfl, ?_⟩
    have hS14 := hS6.join hP14
    replace hS14 : St w NoX [c2] w14 := hS14
    refine W_v rfl rfl (V_mov rfl (et rfl)) ?_
    refine W_v rfl rfl (V_ext (v := .agg #[.int .i64 ((rkR lo yo c).1), .int .i64 ((rkR lo yo c).2)]) rfl (et rfl) rfl) ?_
    refine W_v rfl rfl (V_ext (v := .int .i64 ((rkE lo yo c))) rfl (es rfl (et rfl)) rfl) ?_
    refine W_allocS (z := .agg #[.int .i64 0, .int .i64 0]) (zs := #[.int .i64 0, .int .i64 0]) hS14 rfl rfl rfl (by kernel_rfl) (by rfl) (fun g15 w15 c15 hc15 hS15 => ?_)
    replace hS15 : St w NoX [c15, c2] w15 := hS15
    refine W_stAS 0 hS15 rfl hc15 rfl rfl rfl (et rfl) (es rfl (es rfl (et rfl))) (by simp only [List.all_toArray, List.all_cons, List.all_nil] <;> rfl) (by rfl) (by kernel_rfl) (fun w16 c16 hc16 hS16 => ?_)
    replace hS16 : St w NoX [c16, c2] w16 := hS16
    refine W_v rfl rfl (V_asg rfl (es rfl (et rfl))) ?_
    refine W_end ?_
    refine gen_Q (fun A17 hA17 => ?_)
    have hsz17 : SzN A17 83 := by rw [hA17]; infer_instance
    have hdf17 : A17.defers = [] := by rw [hA17]; simp only [df_put]; exact hdf7
    have l1_17 := lookE hA17 1 (es rfl (es rfl (es rfl (es rfl (es rfl (es rfl (es rfl (es rfl l1_7))))))))
    have l2_17 := lookE hA17 2 (es rfl (es rfl (es rfl (es rfl (es rfl (es rfl (es rfl (es rfl l2_7))))))))
    have l5_17 := lookE hA17 5 (es rfl (et rfl))
    have l6_17 := lookE hA17 6 (et rfl)
    clear hA17 hsz7 hdf7 l1_7 l2_7 l18_7
    refine then_n (hK13 _ _ ?_)
    clear hK13
    refine wp_seq_k (fun K18 hK18 => ?_)
    -- region 4
    refine region_in ?_
    refine W_r rfl rfl (VR_ldA rfl l2_17 (hS16.obj 1 rfl hc2) Tryd.underlying24 rfl (by kernel_rfl)) ?_
    refine W_v rfl rfl (V_mov rfl (es rfl l1_17)) ?_
    refine W_call rfl rfl rfl Tryd.func32 (by kernel_rfl) rfl (args2 (es rfl (et rfl)) (et rfl)) (qOf_c (c := c) (hS16.roC h_lv) (hS16.roC h_yv) (by first | omega | (simp; done) | (simp; omega)) (by first | omega | (simp; done) | (simp; omega))) ?_
    rintro _ w19 ⟨rfl, hP19⟩
    refine ⟨_, rfl, ?_⟩
    have hS19 := hS16.join hP19
    replace hS19 : St w NoX [c16, c2] w19 := hS19
    refine W_v rfl rfl (V_mov rfl (et rfl)) ?_
    refine W_v rfl rfl (V_ext (v := .agg #[.int .i64 ((rkR lo yo c).1), .int .i64 ((rkR lo yo c).2)]) rfl (et rfl) rfl) ?_
    refine W_v rfl rfl (V_ext (v := .int .i64 ((rkE lo yo c))) rfl (es rfl (et rfl)) rfl) ?_
    refine W_allocS (z := .agg #[.int .i64 0, .int .i64 0]) (zs := #[.int .i64 0, .int .i64 0]) hS19 rfl rfl rfl (by kernel_rfl) (by rfl) (fun g20 w20 c20 hc20 hS20 => ?_)
    replace hS20 : St w NoX [c20, c16, c2] w20 := hS20
    refine W_stAS 0 hS20 rfl hc20 rfl rfl rfl (et rfl) (es rfl (es rfl (et rfl))) (by simp only [List.all_toArray, List.all_cons, List.all_nil] <;> rfl) (by rfl) (by kernel_rfl) (fun w21 c21 hc21 hS21 => ?_)
    replace hS21 : St w NoX [c21, c16, c2] w21 := hS21
    refine W_v rfl rfl (V_asg rfl (es rfl (et rfl))) ?_
    refine W_end ?_
    refine gen_Q (fun A22 hA22 => ?_)
    have hsz22 : SzN A22 83 := by rw [hA22]; infer_instance
    have hdf22 : A22.defers = [] := by rw [hA22]; simp only [df_put]; exact hdf17
    have l2_22 := lookE hA22 2 (es rfl (es rfl (es rfl (es rfl (es rfl (es rfl (es rfl (es rfl l2_17))))))))
    have l5_22 := lookE hA22 5 (es rfl (es rfl (es rfl (es rfl (es rfl (es rfl (es rfl (es rfl l5_17))))))))
    have l6_22 := lookE hA22 6 (es rfl (es rfl (es rfl (es rfl (es rfl (es rfl (es rfl (es rfl l6_17))))))))
    have l7_22 := lookE hA22 7 (es rfl (et rfl))
    have l8_22 := lookE hA22 8 (et rfl)
    clear hA22 hsz17 hdf17 l1_17 l2_17 l5_17 l6_17
    refine then_n (hK18 _ _ ?_)
    clear hK18
    refine wp_seq_k (fun K23 hK23 => ?_)
    -- region 5
    refine region_in ?_
    refine W_r rfl rfl (VR_ldA rfl l2_22 (hS21.obj 2 rfl hc2) Tryd.underlying24 rfl (by kernel_rfl)) ?_
    refine W_call rfl rfl rfl Tryd.func33 (by kernel_rfl) rfl (args1 (et rfl)) (kAll_c (hS21.roC h_lv) (hS21.roC h_yv) (hS21.roC hG0) ) ?_
    rintro _ w24 ⟨v_24, rfl, hP24⟩
    refine ⟨_, rfl, ?_⟩
    obtain ⟨c_24, hc_24, hP24⟩ := gen1 hP24
    have hS24 := hS21.join hP24
    replace hS24 : St w NoX [c_24, c21, c16, c2] w24 := hS24
    refine W_v rfl rfl (V_mov rfl (et rfl)) ?_
    refine W_v rfl rfl (V_ext (v := v_24) rfl (et rfl) rfl) ?_
    refine W_v rfl rfl (V_ext (v := .int .i64 ((chk lo yo).2.2)) rfl (es rfl (et rfl)) rfl) ?_
    refine W_v rfl rfl (V_asg rfl (es rfl (et rfl))) ?_
    refine W_v rfl rfl (V_asg rfl (es rfl (et rfl))) ?_
    refine W_end ?_
    refine gen_Q (fun A25 hA25 => ?_)
    have hsz25 : SzN A25 83 := by rw [hA25]; infer_instance
    have hdf25 : A25.defers = [] := by rw [hA25]; simp only [df_put]; exact hdf22
    have l2_25 := lookE hA25 2 (es rfl (es rfl (es rfl (es rfl (es rfl (es rfl (es rfl l2_22)))))))
    have l5_25 := lookE hA25 5 (es rfl (es rfl (es rfl (es rfl (es rfl (es rfl (es rfl l5_22)))))))
    have l6_25 := lookE hA25 6 (es rfl (es rfl (es rfl (es rfl (es rfl (es rfl (es rfl l6_22)))))))
    have l7_25 := lookE hA25 7 (es rfl (es rfl (es rfl (es rfl (es rfl (es rfl (es rfl l7_22)))))))
    have l8_25 := lookE hA25 8 (es rfl (es rfl (es rfl (es rfl (es rfl (es rfl (es rfl l8_22)))))))
    have l9_25 := lookE hA25 9 (es rfl (et rfl))
    have l10_25 := lookE hA25 10 (et rfl)
    clear hA25 hsz22 hdf22 l2_22 l5_22 l6_22 l7_22 l8_22
    refine then_n (hK23 _ _ ?_)
    clear hK23
    refine wp_seq_k (fun K26 hK26 => ?_)
    -- region 6
    refine region_in ?_
    refine W_r rfl rfl (VR_ldA rfl l2_25 (hS24.obj 3 rfl hc2) Tryd.underlying24 rfl (by kernel_rfl)) ?_
    refine W_call rfl rfl rfl Tryd.func34 (by kernel_rfl) rfl (args1 (et rfl)) (qAll_c (hS24.roC h_lv) (hS24.roC h_yv) (by first | omega | (simp; done) | (simp; omega)) (by first | omega | (simp; done) | (simp; omega))) ?_
    rintro _ w27 ⟨v_27, rfl, hP27⟩
    refine ⟨_, rfl, ?_⟩
    obtain ⟨c_27, hc_27, hP27⟩ := gen1 hP27
    have hS27 := hS24.join hP27
    replace hS27 : St w NoX [c_27, c_24, c21, c16, c2] w27 := hS27
    refine W_v rfl rfl (V_mov rfl (et rfl)) ?_
    refine W_v rfl rfl (V_ext (v := v_27) rfl (et rfl) rfl) ?_
    refine W_v rfl rfl (V_ext (v := .int .i64 ((chk lo yo).2.2)) rfl (es rfl (et rfl)) rfl) ?_
    refine W_v rfl rfl (V_asg rfl (es rfl (et rfl))) ?_
    refine W_v rfl rfl (V_asg rfl (es rfl (et rfl))) ?_
    refine W_end ?_
    refine gen_Q (fun A28 hA28 => ?_)
    have hsz28 : SzN A28 83 := by rw [hA28]; infer_instance
    have hdf28 : A28.defers = [] := by rw [hA28]; simp only [df_put]; exact hdf25
    have l2_28 := lookE hA28 2 (es rfl (es rfl (es rfl (es rfl (es rfl (es rfl (es rfl l2_25)))))))
    have l5_28 := lookE hA28 5 (es rfl (es rfl (es rfl (es rfl (es rfl (es rfl (es rfl l5_25)))))))
    have l6_28 := lookE hA28 6 (es rfl (es rfl (es rfl (es rfl (es rfl (es rfl (es rfl l6_25)))))))
    have l7_28 := lookE hA28 7 (es rfl (es rfl (es rfl (es rfl (es rfl (es rfl (es rfl l7_25)))))))
    have l8_28 := lookE hA28 8 (es rfl (es rfl (es rfl (es rfl (es rfl (es rfl (es rfl l8_25)))))))
    have l9_28 := lookE hA28 9 (es rfl (es rfl (es rfl (es rfl (es rfl (es rfl (es rfl l9_25)))))))
    have l10_28 := lookE hA28 10 (es rfl (es rfl (es rfl (es rfl (es rfl (es rfl (es rfl l10_25)))))))
    have l11_28 := lookE hA28 11 (es rfl (et rfl))
    have l12_28 := lookE hA28 12 (et rfl)
    clear hA28 hsz25 hdf25 l2_25 l5_25 l6_25 l7_25 l8_25 l9_25 l10_25
    refine then_n (hK26 _ _ ?_)
    clear hK26
    refine wp_seq_k (fun K29 hK29 => ?_)
    -- region 7
    refine region_in ?_
    refine W_r rfl rfl (VR_ldA rfl l2_28 (hS27.obj 4 rfl hc2) Tryd.underlying24 rfl (by kernel_rfl)) ?_
    refine W_call rfl rfl rfl Tryd.func26 (by kernel_rfl) rfl (args1 (et rfl)) (kOrd_c (hS27.roC h_lv) (hS27.roC h_yv) (hS27.roC hG0) ) ?_
    rintro _ w30 ⟨v_30, rfl, hP30⟩
    refine ⟨_, rfl, ?_⟩
    obtain ⟨c_30, hc_30, hP30⟩ := gen1 hP30
    have hS30 := hS27.join hP30
    replace hS30 : St w NoX [c_30, c_27, c_24, c21, c16, c2] w30 := hS30
    refine W_v rfl rfl (V_mov rfl (et rfl)) ?_
    refine W_v rfl rfl (V_ext (v := v_30) rfl (et rfl) rfl) ?_
    refine W_v rfl rfl (V_ext (v := .int .i64 ((chk lo yo).2.2)) rfl (es rfl (et rfl)) rfl) ?_
    refine W_v rfl rfl (V_asg rfl (es rfl (et rfl))) ?_
    refine W_v rfl rfl (V_asg rfl (es rfl (et rfl))) ?_
    refine W_end ?_
    refine gen_Q (fun A31 hA31 => ?_)
    have hsz31 : SzN A31 83 := by rw [hA31]; infer_instance
    have hdf31 : A31.defers = [] := by rw [hA31]; simp only [df_put]; exact hdf28
    have l2_31 := lookE hA31 2 (es rfl (es rfl (es rfl (es rfl (es rfl (es rfl (es rfl l2_28)))))))
    have l5_31 := lookE hA31 5 (es rfl (es rfl (es rfl (es rfl (es rfl (es rfl (es rfl l5_28)))))))
    have l6_31 := lookE hA31 6 (es rfl (es rfl (es rfl (es rfl (es rfl (es rfl (es rfl l6_28)))))))
    have l7_31 := lookE hA31 7 (es rfl (es rfl (es rfl (es rfl (es rfl (es rfl (es rfl l7_28)))))))
    have l8_31 := lookE hA31 8 (es rfl (es rfl (es rfl (es rfl (es rfl (es rfl (es rfl l8_28)))))))
    have l9_31 := lookE hA31 9 (es rfl (es rfl (es rfl (es rfl (es rfl (es rfl (es rfl l9_28)))))))
    have l10_31 := lookE hA31 10 (es rfl (es rfl (es rfl (es rfl (es rfl (es rfl (es rfl l10_28)))))))
    have l11_31 := lookE hA31 11 (es rfl (es rfl (es rfl (es rfl (es rfl (es rfl (es rfl l11_28)))))))
    have l12_31 := lookE hA31 12 (es rfl (es rfl (es rfl (es rfl (es rfl (es rfl (es rfl l12_28)))))))
    have l13_31 := lookE hA31 13 (es rfl (et rfl))
    have l14_31 := lookE hA31 14 (et rfl)
    clear hA31 hsz28 hdf28 l2_28 l5_28 l6_28 l7_28 l8_28 l9_28 l10_28 l11_28 l12_28
    refine then_n (hK29 _ _ ?_)
    clear hK29
    refine wp_seq_k (fun K32 hK32 => ?_)
    -- region 8
    refine region_in ?_
    refine W_r rfl rfl (VR_ldA rfl l2_31 (hS30.obj 5 rfl hc2) Tryd.underlying24 rfl (by kernel_rfl)) ?_
    refine W_call rfl rfl rfl Tryd.func35 (by kernel_rfl) rfl (args1 (et rfl)) (qOrd_c (hS30.roC h_lv) (hS30.roC h_yv) (by first | omega | (simp; done) | (simp; omega)) (by first | omega | (simp; done) | (simp; omega))) ?_
    rintro _ w33 ⟨v_33, rfl, hP33⟩
    refine ⟨_, rfl, ?_⟩
    obtain ⟨c_33, hc_33, hP33⟩ := gen1 hP33
    have hS33 := hS30.join hP33
    replace hS33 : St w NoX [c_33, c_30, c_27, c_24, c21, c16, c2] w33 := hS33
    refine W_v rfl rfl (V_mov rfl (et rfl)) ?_
    refine W_v rfl rfl (V_ext (v := v_33) rfl (et rfl) rfl) ?_
    refine W_v rfl rfl (V_ext (v := .int .i64 ((chk lo yo).2.2)) rfl (es rfl (et rfl)) rfl) ?_
    refine W_v rfl rfl (V_asg rfl (es rfl (et rfl))) ?_
    refine W_v rfl rfl (V_asg rfl (es rfl (et rfl))) ?_
    refine W_end ?_
    refine gen_Q (fun A34 hA34 => ?_)
    have hsz34 : SzN A34 83 := by rw [hA34]; infer_instance
    have hdf34 : A34.defers = [] := by rw [hA34]; simp only [df_put]; exact hdf31
    have l5_34 := lookE hA34 5 (es rfl (es rfl (es rfl (es rfl (es rfl (es rfl (es rfl l5_31)))))))
    have l6_34 := lookE hA34 6 (es rfl (es rfl (es rfl (es rfl (es rfl (es rfl (es rfl l6_31)))))))
    have l7_34 := lookE hA34 7 (es rfl (es rfl (es rfl (es rfl (es rfl (es rfl (es rfl l7_31)))))))
    have l8_34 := lookE hA34 8 (es rfl (es rfl (es rfl (es rfl (es rfl (es rfl (es rfl l8_31)))))))
    have l9_34 := lookE hA34 9 (es rfl (es rfl (es rfl (es rfl (es rfl (es rfl (es rfl l9_31)))))))
    have l10_34 := lookE hA34 10 (es rfl (es rfl (es rfl (es rfl (es rfl (es rfl (es rfl l10_31)))))))
    have l11_34 := lookE hA34 11 (es rfl (es rfl (es rfl (es rfl (es rfl (es rfl (es rfl l11_31)))))))
    have l12_34 := lookE hA34 12 (es rfl (es rfl (es rfl (es rfl (es rfl (es rfl (es rfl l12_31)))))))
    have l13_34 := lookE hA34 13 (es rfl (es rfl (es rfl (es rfl (es rfl (es rfl (es rfl l13_31)))))))
    have l14_34 := lookE hA34 14 (es rfl (es rfl (es rfl (es rfl (es rfl (es rfl (es rfl l14_31)))))))
    have l15_34 := lookE hA34 15 (es rfl (et rfl))
    have l16_34 := lookE hA34 16 (et rfl)
    clear hA34 hsz31 hdf31 l2_31 l5_31 l6_31 l7_31 l8_31 l9_31 l10_31 l11_31 l12_31 l13_31 l14_31
    have hS35 : St w NoX [c_33, c_30, c_27, c_24, c21, c16] w33 := hS33.sel [0, 1, 2, 3, 4, 5] (by decide) rfl
    refine then_n (hK32 _ _ ?_)
    clear hK32
    refine wp_seq_k (fun K36 hK36 => ?_)
    -- region 9
    refine region_in ?_
    refine W_r rfl rfl (VR_ldA rfl l5_34 (hS35.obj 5 rfl hc16) Tryd.underlying50 rfl (by kernel_rfl)) ?_
    refine W_r rfl rfl (VR_ldA rfl (es rfl l7_34) (hS35.obj 4 rfl hc21) Tryd.underlying50 rfl (by kernel_rfl)) ?_
    refine W_v rfl rfl (V_eqSt2 rfl (es rfl (et rfl)) (et rfl) (by kernel_rfl)) ?_
    refine W_sure (c' := true) rfl rfl (V_mov rfl (et rfl)) (by simp) ?_
    refine W_v rfl (wanted_t rfl rfl (et rfl) (ez rfl)) (V_mov rfl (es rfl (es rfl (es rfl (es rfl l6_34))))) ?_
    refine W_v rfl (wanted_t rfl rfl (es rfl (et rfl)) (ez rfl)) (V_mov rfl (es rfl (es rfl (es rfl (es rfl (es rfl l8_34)))))) ?_
    refine W_v rfl (wanted_t rfl rfl (es rfl (es rfl (et rfl))) (ez rfl)) (V_eql rfl (es rfl (et rfl)) (et rfl)) ?_
    refine W_v rfl rfl (V_pickT rfl (es rfl (es rfl (es rfl (et rfl)))) (et rfl)) ?_
    refine W_sure (c' := true) rfl rfl (V_mov rfl (et rfl)) (by simp) ?_
    refine W_v rfl (wanted_t rfl rfl (et rfl) (ez rfl)) (V_mov rfl (es rfl (es rfl (es rfl (es rfl (es rfl (es rfl (es rfl (es rfl (es rfl l9_34)))))))))) ?_
    refine W_v rfl (wanted_t rfl rfl (es rfl (et rfl)) (ez rfl)) (V_mov rfl (es rfl (es rfl (es rfl (es rfl (es rfl (es rfl (es rfl (es rfl (es rfl (es rfl l11_34))))))))))) ?_
    refine W_call rfl (wanted_t rfl rfl (es rfl (es rfl (et rfl))) (ez rfl)) rfl Tryd.func36 (by kernel_rfl) rfl (args2 (es rfl (et rfl)) (et rfl)) (qSm_c (hS35.chC 3 rfl hc_24).own (hS35.chC 2 rfl hc_27).own ) ?_
    rintro _ w37 ⟨rfl, hP37⟩
    refine ⟨_, rfl, ?_⟩
    have hS37 := hS35.join hP37
    replace hS37 : St w NoX [c_33, c_30, c_27, c_24, c21, c16] w37 := hS37
    refine W_v rfl rfl (V_pickT rfl (es rfl (es rfl (es rfl (et rfl)))) (et rfl)) ?_
    refine W_sure (c' := true) rfl rfl (V_mov rfl (et rfl)) (by simp) ?_
    refine W_v rfl (wanted_t rfl rfl (et rfl) (ez rfl)) (V_mov rfl (es rfl (es rfl (es rfl (es rfl (es rfl (es rfl (es rfl (es rfl (es rfl (es rfl (es rfl (es rfl (es rfl (es rfl l10_34))))))))))))))) ?_
    refine W_v rfl (wanted_t rfl rfl (es rfl (et rfl)) (ez rfl)) (V_mov rfl (es rfl (es rfl (es rfl (es rfl (es rfl (es rfl (es rfl (es rfl (es rfl (es rfl (es rfl (es rfl (es rfl (es rfl (es rfl l12_34)))))))))))))))) ?_
    refine W_v rfl (wanted_t rfl rfl (es rfl (es rfl (et rfl))) (ez rfl)) (V_eql rfl (es rfl (et rfl)) (et rfl)) ?_
    refine W_v rfl rfl (V_pickT rfl (es rfl (es rfl (es rfl (et rfl)))) (et rfl)) ?_
    refine W_sure (c' := true) rfl rfl (V_mov rfl (et rfl)) (by simp) ?_
    refine W_v rfl (wanted_t rfl rfl (et rfl) (ez rfl)) (V_mov rfl (es rfl (es rfl (es rfl (es rfl (es rfl (es rfl (es rfl (es rfl (es rfl (es rfl (es rfl (es rfl (es rfl (es rfl (es rfl (es rfl (es rfl (es rfl (es rfl l13_34)))))))))))))))))))) ?_
    refine W_v rfl (wanted_t rfl rfl (es rfl (et rfl)) (ez rfl)) (V_mov rfl (es rfl (es rfl (es rfl (es rfl (es rfl (es rfl (es rfl (es rfl (es rfl (es rfl (es rfl (es rfl (es rfl (es rfl (es rfl (es rfl (es rfl (es rfl (es rfl (es rfl l15_34))))))))))))))))))))) ?_
    refine W_call rfl (wanted_t rfl rfl (es rfl (es rfl (et rfl))) (ez rfl)) rfl Tryd.func17 (by kernel_rfl) rfl (args2 (es rfl (et rfl)) (et rfl)) (lift0 (Ints_c (hS37.chC 1 rfl hc_30).own.ints (hS37.chC 0 rfl hc_33).own.ints)) ?_
    rintro _ w38 ⟨rfl, hP38⟩
    refine ⟨_, rfl, ?_⟩
    have hS38 := hS37.join hP38
    replace hS38 : St w NoX [c_33, c_30, c_27, c_24, c21, c16] w38 := hS38
    refine W_v rfl rfl (V_pickT rfl (es rfl (es rfl (es rfl (et rfl)))) (et rfl)) ?_
    refine W_sure (c' := true) rfl rfl (V_mov rfl (et rfl)) (by simp) ?_
    refine W_v rfl (wanted_t rfl rfl (et rfl) (ez rfl)) (V_mov rfl (es rfl (es rfl (es rfl (es rfl (es rfl (es rfl (es rfl (es rfl (es rfl (es rfl (es rfl (es rfl (es rfl (es rfl (es rfl (es rfl (es rfl (es rfl (es rfl (es rfl (es rfl (es rfl (es rfl (es rfl l14_34))))))))))))))))))))))))) ?_
    refine W_v rfl (wanted_t rfl rfl (es rfl (et rfl)) (ez rfl)) (V_mov rfl (es rfl (es rfl (es rfl (es rfl (es rfl (es rfl (es rfl (es rfl (es rfl (es rfl (es rfl (es rfl (es rfl (es rfl (es rfl (es rfl (es rfl (es rfl (es rfl (es rfl (es rfl (es rfl (es rfl (es rfl (es rfl l16_34)))))))))))))))))))))))))) ?_
    refine W_v rfl (wanted_t rfl rfl (es rfl (es rfl (et rfl))) (ez rfl)) (V_eql rfl (es rfl (et rfl)) (et rfl)) ?_
    refine W_v rfl rfl (V_pickT rfl (es rfl (es rfl (es rfl (et rfl)))) (et rfl)) ?_
    refine W_sure (c' := true) rfl rfl (V_mov rfl (et rfl)) (by simp) ?_
    refine W_call rfl (wanted_t rfl rfl (et rfl) (ez rfl)) rfl Tryd.func12 (by kernel_rfl) rfl (args0) (awk_c (hS38.roC hG0) ) ?_
    rintro _ w39 ⟨rfl, hP39⟩
    refine ⟨_, rfl, ?_⟩
    have hS39 := hS38.join hP39
    replace hS39 : St w NoX [c_33, c_30, c_27, c_24, c21, c16] w39 := hS39
    refine W_v rfl rfl (V_pickT rfl (es rfl (et rfl)) (et rfl)) ?_
    refine W_v rfl rfl (V_asg rfl (et rfl)) ?_
    refine W_end ?_
    refine gen_Q (fun A40 hA40 => ?_)
    have hsz40 : SzN A40 83 := by rw [hA40]; infer_instance
    have hdf40 : A40.defers = [] := by rw [hA40]; simp only [df_put]; exact hdf34
    have l4_40 := lookE hA40 4 (et rfl)
    clear hA40 hsz34 hdf34 l5_34 l6_34 l7_34 l8_34 l9_34 l10_34 l11_34 l12_34 l13_34 l14_34 l15_34 l16_34
    have hS41 : St w NoX [] w39 := hS39.sel [] (by decide) rfl
    refine then_n (hK36 _ _ ?_)
    clear hK36
    refine wp_ret ?_
    refine ret_in (results_1 Tryd.results8 (rv_tmp l4_40)) hdf40 ?_
    -- leaf F
    exact ⟨rfl, hS41.fin0⟩

end Go.Proofs.YtodbfgfbkgpooaaDoor