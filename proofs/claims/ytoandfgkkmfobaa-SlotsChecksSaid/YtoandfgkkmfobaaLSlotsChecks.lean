import Derived.Test.YtoandfgkkmfobaaProg
import Derived.Test.YtoandfgkkmfobaaSl6
namespace Go.Proofs.Ytoandfgkkmfobaa
open Go.RowKit Go.Own Go.Own.R Go.Own.S


set_option maxHeartbeats 4000000 in
theorem SlotsChecks_c {cv : Value} {c : List Int} {f : Int} {t : Int} {w : World} (h_cv : Ro w NoX (il .i64 cv c))  :
    Calls Try.prog 6 #[.agg #[cv], .int .i64 f, .int .i64 t] w fun e w' => e = .returned (.bool true) ∧ St w NoX [] w' := by
  refine calls_in 111 Try.func6 rfl rfl (by simp) (fun A0 hsz0 hdf0 hargs => ?_)
  have l0_0 := hargs 0 (.agg #[cv]) rfl
  have l1_0 := hargs 1 (.int .i64 f) rfl
  have l2_0 := hargs 2 (.int .i64 t) rfl
  clear hargs; replace hsz0 : SzN A0 111 := ⟨hsz0⟩
  have hS := St.nil w
  have bh_cv := SlN.le (sl_SlN h_cv.at)
  refine wp_seq_k (fun K1 hK1 => ?_)
  -- region 0
  refine region_in ?_
  refine W_boxS (zs := #[cv]) hS rfl rfl rfl l0_0 (by rfl) (fun g2 w2 c2 hc2 hS2 => ?_)
  replace hS2 : St w NoX [c2] w2 := hS2
  refine W_v rfl rfl (V_asg rfl rfl) ?_
  refine W_end ?_
  refine gen_Q (fun A3 hA3 => ?_)
  have hsz3 : SzN A3 111 := by rw [hA3]; infer_instance
  have hdf3 : A3.defers = [] := by rw [hA3]; simp only [df_put]; exact hdf0
  have l1_3 := lookE hA3 1 (es rfl (es rfl l1_0))
  have l2_3 := lookE hA3 2 (es rfl (es rfl l2_0))
  have l3_3 := lookE hA3 3 (es rfl (et rfl))
  clear hA3 hsz0 hdf0 l0_0 l1_0 l2_0
  refine then_n (hK1 _ _ ?_)
  clear hK1
  refine wp_seq_k (fun K4 hK4 => ?_)
  refine wp_seq_k (fun K5 hK5 => ?_)
  -- region 1
  refine region_in ?_
  refine W_r rfl rfl (VR_ldA rfl l3_3 (hS2.obj 0 rfl hc2) Try.underlying24 rfl (by kernel_rfl)) ?_
  refine W_call rfl rfl rfl Try.func11 (by kernel_rfl) rfl (args1 (et rfl)) (far_c (hS2.roC h_cv) ) ?_
  rintro _ w6 ⟨rfl, hP6⟩
  refine ⟨_, rfl, ?_⟩
  have hS6 := hS2.join hP6
  replace hS6 : St w NoX [c2] w6 := hS6
  refine W_end ?_
  refine gen_Q (fun A7 hA7 => ?_)
  have hsz7 : SzN A7 111 := by rw [hA7]; infer_instance
  have hdf7 : A7.defers = [] := by rw [hA7]; simp only [df_put]; exact hdf3
  have l1_7 := lookE hA7 1 (es rfl (es rfl l1_3))
  have l2_7 := lookE hA7 2 (es rfl (es rfl l2_3))
  have l3_7 := lookE hA7 3 (es rfl (es rfl l3_3))
  have l20_7 := lookE hA7 20 (et rfl)
  clear hA7 hsz3 hdf3 l1_3 l2_3 l3_3
  refine then_n (hK5 _ _ ?_)
  clear hK5
  refine cond_dec l20_7 (fun c8 => ?_) (fun c8 => ?_)
  · skip
    refine wp_seq_k (fun K9 hK9 => ?_)
    -- region 2
    refine region_in ?_
    refine W_call rfl rfl rfl Try.func12 (by kernel_rfl) rfl (args0) (awake_c  ) ?_
    rintro _ w10 ⟨rfl, hP10⟩
    refine ⟨_, rfl, ?_⟩
    have hS10 := hS6.join hP10
    replace hS10 : St w NoX [c2] w10 := hS10
    refine W_v rfl rfl (V_asg rfl (et rfl)) ?_
    refine W_end ?_
    refine gen_Q (fun A11 hA11 => ?_)
    have hsz11 : SzN A11 111 := by rw [hA11]; infer_instance
    have hdf11 : A11.defers = [] := by rw [hA11]; simp only [df_put]; exact hdf7
    have l6_11 := lookE hA11 6 (et rfl)
    clear hA11 hsz7 hdf7 l1_7 l2_7 l3_7 l20_7
    have hS12 : St w NoX [] w10 := hS10.sel [] (by decide) rfl
    refine then_n (hK9 _ _ ?_)
    clear hK9
    refine wp_ret ?_
    refine then_ret ?_
    refine ret_in (results_1 Try.results6 (rv_tmp l6_11)) hdf11 ?_
    -- leaf T
    exact ⟨rfl, hS12.fin0⟩
  · skip
    refine wp_skip ?_
    refine then_n (hK4 _ _ ?_)
    clear hK4
    refine wp_seq_k (fun K13 hK13 => ?_)
    -- region 3
    refine region_in ?_
    refine W_r rfl rfl (VR_ldA rfl l3_7 (hS6.obj 0 rfl hc2) Try.underlying24 rfl (by kernel_rfl)) ?_
    refine W_call rfl rfl rfl Try.func26 (by kernel_rfl) rfl (args1 (et rfl)) (kCk_c (hS6.roC h_cv) ) ?_
    rintro _ w14 ⟨rfl, hP14⟩
    refine ⟨_, rfl, ?_⟩
    have hS14 := hS6.join hP14
    replace hS14 : St w NoX [c2] w14 := hS14
    refine W_v rfl rfl (V_mov rfl (et rfl)) ?_
    refine W_v rfl rfl (V_ext (v := .int .i64 ((ckS c).1)) rfl (et rfl) rfl) ?_
    refine W_v rfl rfl (V_ext (v := .int .i64 ((ckS c).2)) rfl (es rfl (et rfl)) rfl) ?_
    refine W_v rfl rfl (V_asg rfl (es rfl (et rfl))) ?_
    refine W_v rfl rfl (V_asg rfl (es rfl (et rfl))) ?_
    refine W_end ?_
    refine gen_Q (fun A15 hA15 => ?_)
    have hsz15 : SzN A15 111 := by rw [hA15]; infer_instance
    have hdf15 : A15.defers = [] := by rw [hA15]; simp only [df_put]; exact hdf7
    have l1_15 := lookE hA15 1 (es rfl (es rfl (es rfl (es rfl (es rfl (es rfl (es rfl l1_7)))))))
    have l2_15 := lookE hA15 2 (es rfl (es rfl (es rfl (es rfl (es rfl (es rfl (es rfl l2_7)))))))
    have l3_15 := lookE hA15 3 (es rfl (es rfl (es rfl (es rfl (es rfl (es rfl (es rfl l3_7)))))))
    have l7_15 := lookE hA15 7 (es rfl (et rfl))
    have l8_15 := lookE hA15 8 (et rfl)
    clear hA15 hsz7 hdf7 l1_7 l2_7 l3_7 l20_7
    refine then_n (hK13 _ _ ?_)
    clear hK13
    refine wp_seq_k (fun K16 hK16 => ?_)
    -- region 4
    refine region_in ?_
    refine W_r rfl rfl (VR_ldA rfl l3_15 (hS14.obj 0 rfl hc2) Try.underlying24 rfl (by kernel_rfl)) ?_
    refine W_call rfl rfl rfl Try.func27 (by kernel_rfl) rfl (args1 (et rfl)) (qCk_c (hS14.roC h_cv) ) ?_
    rintro _ w17 ⟨rfl, hP17⟩
    refine ⟨_, rfl, ?_⟩
    have hS17 := hS14.join hP17
    replace hS17 : St w NoX [c2] w17 := hS17
    refine W_v rfl rfl (V_mov rfl (et rfl)) ?_
    refine W_v rfl rfl (V_ext (v := .int .i64 ((ckS c).1)) rfl (et rfl) rfl) ?_
    refine W_v rfl rfl (V_ext (v := .int .i64 ((ckS c).2)) rfl (es rfl (et rfl)) rfl) ?_
    refine W_v rfl rfl (V_asg rfl (es rfl (et rfl))) ?_
    refine W_v rfl rfl (V_asg rfl (es rfl (et rfl))) ?_
    refine W_end ?_
    refine gen_Q (fun A18 hA18 => ?_)
    have hsz18 : SzN A18 111 := by rw [hA18]; infer_instance
    have hdf18 : A18.defers = [] := by rw [hA18]; simp only [df_put]; exact hdf15
    have l1_18 := lookE hA18 1 (es rfl (es rfl (es rfl (es rfl (es rfl (es rfl (es rfl l1_15)))))))
    have l2_18 := lookE hA18 2 (es rfl (es rfl (es rfl (es rfl (es rfl (es rfl (es rfl l2_15)))))))
    have l3_18 := lookE hA18 3 (es rfl (es rfl (es rfl (es rfl (es rfl (es rfl (es rfl l3_15)))))))
    have l7_18 := lookE hA18 7 (es rfl (es rfl (es rfl (es rfl (es rfl (es rfl (es rfl l7_15)))))))
    have l8_18 := lookE hA18 8 (es rfl (es rfl (es rfl (es rfl (es rfl (es rfl (es rfl l8_15)))))))
    have l9_18 := lookE hA18 9 (es rfl (et rfl))
    have l10_18 := lookE hA18 10 (et rfl)
    clear hA18 hsz15 hdf15 l1_15 l2_15 l3_15 l7_15 l8_15
    refine then_n (hK16 _ _ ?_)
    clear hK16
    refine wp_seq_k (fun K19 hK19 => ?_)
    -- region 5
    refine region_in ?_
    refine W_r rfl rfl (VR_ldA rfl l3_18 (hS17.obj 0 rfl hc2) Try.underlying24 rfl (by kernel_rfl)) ?_
    refine W_call rfl rfl rfl Try.func28 (by kernel_rfl) rfl (args1 (et rfl)) (kLen_c (hS17.roC h_cv) ) ?_
    rintro _ w20 ⟨rfl, hP20⟩
    refine ⟨_, rfl, ?_⟩
    have hS20 := hS17.join hP20
    replace hS20 : St w NoX [c2] w20 := hS20
    refine W_v rfl rfl (V_mov rfl (et rfl)) ?_
    refine W_v rfl rfl (V_ext (v := .int .i64 ((lnN c))) rfl (et rfl) rfl) ?_
    refine W_v rfl rfl (V_ext (v := .int .i64 ((ckS c).2)) rfl (es rfl (et rfl)) rfl) ?_
    refine W_v rfl rfl (V_asg rfl (es rfl (et rfl))) ?_
    refine W_v rfl rfl (V_asg rfl (es rfl (et rfl))) ?_
    refine W_end ?_
    refine gen_Q (fun A21 hA21 => ?_)
    have hsz21 : SzN A21 111 := by rw [hA21]; infer_instance
    have hdf21 : A21.defers = [] := by rw [hA21]; simp only [df_put]; exact hdf18
    have l1_21 := lookE hA21 1 (es rfl (es rfl (es rfl (es rfl (es rfl (es rfl (es rfl l1_18)))))))
    have l2_21 := lookE hA21 2 (es rfl (es rfl (es rfl (es rfl (es rfl (es rfl (es rfl l2_18)))))))
    have l3_21 := lookE hA21 3 (es rfl (es rfl (es rfl (es rfl (es rfl (es rfl (es rfl l3_18)))))))
    have l7_21 := lookE hA21 7 (es rfl (es rfl (es rfl (es rfl (es rfl (es rfl (es rfl l7_18)))))))
    have l8_21 := lookE hA21 8 (es rfl (es rfl (es rfl (es rfl (es rfl (es rfl (es rfl l8_18)))))))
    have l9_21 := lookE hA21 9 (es rfl (es rfl (es rfl (es rfl (es rfl (es rfl (es rfl l9_18)))))))
    have l10_21 := lookE hA21 10 (es rfl (es rfl (es rfl (es rfl (es rfl (es rfl (es rfl l10_18)))))))
    have l11_21 := lookE hA21 11 (es rfl (et rfl))
    have l12_21 := lookE hA21 12 (et rfl)
    clear hA21 hsz18 hdf18 l1_18 l2_18 l3_18 l7_18 l8_18 l9_18 l10_18
    refine then_n (hK19 _ _ ?_)
    clear hK19
    refine wp_seq_k (fun K22 hK22 => ?_)
    -- region 6
    refine region_in ?_
    refine W_r rfl rfl (VR_ldA rfl l3_21 (hS20.obj 0 rfl hc2) Try.underlying24 rfl (by kernel_rfl)) ?_
    refine W_call rfl rfl rfl Try.func29 (by kernel_rfl) rfl (args1 (et rfl)) (qLen_c (hS20.roC h_cv) ) ?_
    rintro _ w23 ⟨rfl, hP23⟩
    refine ⟨_, rfl, ?_⟩
    have hS23 := hS20.join hP23
    replace hS23 : St w NoX [c2] w23 := hS23
    refine W_v rfl rfl (V_mov rfl (et rfl)) ?_
    refine W_v rfl rfl (V_ext (v := .int .i64 ((lnN c))) rfl (et rfl) rfl) ?_
    refine W_v rfl rfl (V_ext (v := .int .i64 ((ckS c).2)) rfl (es rfl (et rfl)) rfl) ?_
    refine W_v rfl rfl (V_asg rfl (es rfl (et rfl))) ?_
    refine W_v rfl rfl (V_asg rfl (es rfl (et rfl))) ?_
    refine W_end ?_
    refine gen_Q (fun A24 hA24 => ?_)
    have hsz24 : SzN A24 111 := by rw [hA24]; infer_instance
    have hdf24 : A24.defers = [] := by rw [hA24]; simp only [df_put]; exact hdf21
    have l1_24 := lookE hA24 1 (es rfl (es rfl (es rfl (es rfl (es rfl (es rfl (es rfl l1_21)))))))
    have l2_24 := lookE hA24 2 (es rfl (es rfl (es rfl (es rfl (es rfl (es rfl (es rfl l2_21)))))))
    have l3_24 := lookE hA24 3 (es rfl (es rfl (es rfl (es rfl (es rfl (es rfl (es rfl l3_21)))))))
    have l7_24 := lookE hA24 7 (es rfl (es rfl (es rfl (es rfl (es rfl (es rfl (es rfl l7_21)))))))
    have l8_24 := lookE hA24 8 (es rfl (es rfl (es rfl (es rfl (es rfl (es rfl (es rfl l8_21)))))))
    have l9_24 := lookE hA24 9 (es rfl (es rfl (es rfl (es rfl (es rfl (es rfl (es rfl l9_21)))))))
    have l10_24 := lookE hA24 10 (es rfl (es rfl (es rfl (es rfl (es rfl (es rfl (es rfl l10_21)))))))
    have l11_24 := lookE hA24 11 (es rfl (es rfl (es rfl (es rfl (es rfl (es rfl (es rfl l11_21)))))))
    have l12_24 := lookE hA24 12 (es rfl (es rfl (es rfl (es rfl (es rfl (es rfl (es rfl l12_21)))))))
    have l13_24 := lookE hA24 13 (es rfl (et rfl))
    have l14_24 := lookE hA24 14 (et rfl)
    clear hA24 hsz21 hdf21 l1_21 l2_21 l3_21 l7_21 l8_21 l9_21 l10_21 l11_21 l12_21
    refine then_n (hK22 _ _ ?_)
    clear hK22
    refine wp_seq_k (fun K25 hK25 => ?_)
    refine wp_seq_k (fun K26 hK26 => ?_)
    -- region 7
    refine region_in ?_
    refine W_v rfl rfl (V_mov rfl l7_24) ?_
    refine W_v rfl rfl (V_mov rfl (es rfl l9_24)) ?_
    refine W_v rfl rfl (V_neq rfl (es rfl (et rfl)) (et rfl)) ?_
    refine W_sure (c' := false) rfl rfl (V_mov rfl (et rfl)) (by simp) ?_
    refine W_v rfl (wanted_t rfl rfl (et rfl) (ez rfl)) (V_mov rfl (es rfl (es rfl (es rfl (es rfl l8_24))))) ?_
    refine W_v rfl (wanted_t rfl rfl (es rfl (et rfl)) (ez rfl)) (V_mov rfl (es rfl (es rfl (es rfl (es rfl (es rfl l10_24)))))) ?_
    refine W_v rfl (wanted_t rfl rfl (es rfl (es rfl (et rfl))) (ez rfl)) (V_neq rfl (es rfl (et rfl)) (et rfl)) ?_
    refine W_v rfl rfl (V_pickF rfl (es rfl (es rfl (es rfl (et rfl)))) (et rfl)) ?_
    refine W_sure (c' := false) rfl rfl (V_mov rfl (et rfl)) (by simp) ?_
    refine W_v rfl (wanted_t rfl rfl (et rfl) (ez rfl)) (V_mov rfl (es rfl (es rfl (es rfl (es rfl (es rfl (es rfl (es rfl (es rfl (es rfl l11_24)))))))))) ?_
    refine W_v rfl (wanted_t rfl rfl (es rfl (et rfl)) (ez rfl)) (V_mov rfl (es rfl (es rfl (es rfl (es rfl (es rfl (es rfl (es rfl (es rfl (es rfl (es rfl l13_24))))))))))) ?_
    refine W_v rfl (wanted_t rfl rfl (es rfl (es rfl (et rfl))) (ez rfl)) (V_neq rfl (es rfl (et rfl)) (et rfl)) ?_
    refine W_v rfl rfl (V_pickF rfl (es rfl (es rfl (es rfl (et rfl)))) (et rfl)) ?_
    refine W_sure (c' := false) rfl rfl (V_mov rfl (et rfl)) (by simp) ?_
    refine W_v rfl (wanted_t rfl rfl (et rfl) (ez rfl)) (V_mov rfl (es rfl (es rfl (es rfl (es rfl (es rfl (es rfl (es rfl (es rfl (es rfl (es rfl (es rfl (es rfl (es rfl (es rfl l12_24))))))))))))))) ?_
    refine W_v rfl (wanted_t rfl rfl (es rfl (et rfl)) (ez rfl)) (V_mov rfl (es rfl (es rfl (es rfl (es rfl (es rfl (es rfl (es rfl (es rfl (es rfl (es rfl (es rfl (es rfl (es rfl (es rfl (es rfl l14_24)))))))))))))))) ?_
    refine W_v rfl (wanted_t rfl rfl (es rfl (es rfl (et rfl))) (ez rfl)) (V_neq rfl (es rfl (et rfl)) (et rfl)) ?_
    refine W_v rfl rfl (V_pickF rfl (es rfl (es rfl (es rfl (et rfl)))) (et rfl)) ?_
    refine W_sure (c' := false) rfl rfl (V_mov rfl (et rfl)) (by simp) ?_
    refine W_call rfl (wanted_t rfl rfl (et rfl) (ez rfl)) rfl Try.func30 (by kernel_rfl) rfl (args0) (knew_c  ) ?_
    rintro _ w27 ⟨v_27, rfl, hP27⟩
    refine ⟨_, rfl, ?_⟩
    obtain ⟨c_27, hc_27, hP27⟩ := gen1 hP27
    have hS27 := hS23.join hP27
    replace hS27 : St w NoX [c_27, c2] w27 := hS27
    refine W_call rfl (wanted_t rfl rfl (es rfl (et rfl)) (ez rfl)) rfl Try.func31 (by kernel_rfl) rfl (args0) (qnew_c  ) ?_
    rintro _ w28 ⟨v_28, rfl, hP28⟩
    refine ⟨_, rfl, ?_⟩
    obtain ⟨c_28, hc_28, hP28⟩ := gen1 hP28
    have hS28 := hS27.join hP28
    replace hS28 : St w NoX [c_28, c_27, c2] w28 := hS28
    refine W_call rfl (wanted_t rfl rfl (es rfl (es rfl (et rfl))) (ez rfl)) rfl Try.func17 (by kernel_rfl) rfl (args2 (es rfl (et rfl)) (et rfl)) (same_c (hS28.chC 1 rfl hc_27).own (hS28.chC 0 rfl hc_28).own ) ?_
    rintro _ w29 ⟨rfl, hP29⟩
    refine ⟨_, rfl, ?_⟩
    have hS29 := hS28.join hP29
    replace hS29 : St w NoX [c_28, c_27, c2] w29 := hS29
    refine W_v rfl (wanted_t rfl rfl (es rfl (es rfl (es rfl (et rfl)))) (ez rfl)) (V_notd rfl (et rfl)) ?_
    refine W_v rfl rfl (V_pickF rfl (es rfl (es rfl (es rfl (es rfl (et rfl))))) (et rfl)) ?_
    refine W_end ?_
    refine gen_Q (fun A30 hA30 => ?_)
    have hsz30 : SzN A30 111 := by rw [hA30]; infer_instance
    have hdf30 : A30.defers = [] := by rw [hA30]; simp only [df_put]; exact hdf24
    have l1_30 := lookE hA30 1 (es rfl (es rfl (es rfl (es rfl (es rfl (es rfl (es rfl (es rfl (es rfl (es rfl (es rfl (es rfl (es rfl (es rfl (es rfl (es rfl (es rfl (es rfl (es rfl (es rfl (es rfl (es rfl (es rfl (es rfl l1_24))))))))))))))))))))))))
    have l2_30 := lookE hA30 2 (es rfl (es rfl (es rfl (es rfl (es rfl (es rfl (es rfl (es rfl (es rfl (es rfl (es rfl (es rfl (es rfl (es rfl (es rfl (es rfl (es rfl (es rfl (es rfl (es rfl (es rfl (es rfl (es rfl (es rfl l2_24))))))))))))))))))))))))
    have l3_30 := lookE hA30 3 (es rfl (es rfl (es rfl (es rfl (es rfl (es rfl (es rfl (es rfl (es rfl (es rfl (es rfl (es rfl (es rfl (es rfl (es rfl (es rfl (es rfl (es rfl (es rfl (es rfl (es rfl (es rfl (es rfl (es rfl l3_24))))))))))))))))))))))))
    have l65_30 := lookE hA30 65 (et rfl)
    clear hA30 hsz24 hdf24 l1_24 l2_24 l3_24 l7_24 l8_24 l9_24 l10_24 l11_24 l12_24 l13_24 l14_24
    have hS31 : St w NoX [c2] w29 := hS29.sel [2] (by decide) rfl
    refine then_n (hK26 _ _ ?_)
    clear hK26
    refine cond_not l65_30 (by simp) ?_
    refine wp_skip ?_
    refine then_n (hK25 _ _ ?_)
    clear hK25
    refine wp_seq_k (fun K32 hK32 => ?_)
    -- region 9
    refine region_in ?_
    refine W_r rfl rfl (VR_ldA rfl l3_30 (hS31.obj 0 rfl hc2) Try.underlying24 rfl (by kernel_rfl)) ?_
    refine W_call rfl rfl rfl Try.func32 (by kernel_rfl) rfl (args1 (et rfl)) (kList_c (hS31.roC h_cv) ) ?_
    rintro _ w33 ⟨v_33, rfl, hP33⟩
    refine ⟨_, rfl, ?_⟩
    obtain ⟨c_33, hc_33, hP33⟩ := gen1 hP33
    have hS33 := hS31.join hP33
    replace hS33 : St w NoX [c_33, c2] w33 := hS33
    refine W_v rfl rfl (V_mov rfl (et rfl)) ?_
    refine W_v rfl rfl (V_ext (v := v_33) rfl (et rfl) rfl) ?_
    refine W_v rfl rfl (V_ext (v := .int .i64 ((ckS c).2)) rfl (es rfl (et rfl)) rfl) ?_
    refine W_v rfl rfl (V_asg rfl (es rfl (et rfl))) ?_
    refine W_v rfl rfl (V_asg rfl (es rfl (et rfl))) ?_
    refine W_end ?_
    refine gen_Q (fun A34 hA34 => ?_)
    have hsz34 : SzN A34 111 := by rw [hA34]; infer_instance
    have hdf34 : A34.defers = [] := by rw [hA34]; simp only [df_put]; exact hdf30
    have l1_34 := lookE hA34 1 (es rfl (es rfl (es rfl (es rfl (es rfl (es rfl (es rfl l1_30)))))))
    have l2_34 := lookE hA34 2 (es rfl (es rfl (es rfl (es rfl (es rfl (es rfl (es rfl l2_30)))))))
    have l3_34 := lookE hA34 3 (es rfl (es rfl (es rfl (es rfl (es rfl (es rfl (es rfl l3_30)))))))
    have l8_34 := lookE hA34 8 (et rfl)
    have l15_34 := lookE hA34 15 (es rfl (et rfl))
    clear hA34 hsz30 hdf30 l1_30 l2_30 l3_30 l65_30
    refine then_n (hK32 _ _ ?_)
    clear hK32
    refine wp_seq_k (fun K35 hK35 => ?_)
    -- region 10
    refine region_in ?_
    refine W_r rfl rfl (VR_ldA rfl l3_34 (hS33.obj 1 rfl hc2) Try.underlying24 rfl (by kernel_rfl)) ?_
    refine W_call rfl rfl rfl Try.func33 (by kernel_rfl) rfl (args1 (et rfl)) (qList_c (hS33.roC h_cv) ) ?_
    rintro _ w36 ⟨v_36, rfl, hP36⟩
    refine ⟨_, rfl, ?_⟩
    obtain ⟨c_36, hc_36, hP36⟩ := gen1 hP36
    have hS36 := hS33.join hP36
    replace hS36 : St w NoX [c_36, c_33, c2] w36 := hS36
    refine W_v rfl rfl (V_mov rfl (et rfl)) ?_
    refine W_v rfl rfl (V_ext (v := v_36) rfl (et rfl) rfl) ?_
    refine W_v rfl rfl (V_ext (v := .int .i64 ((ckS c).2)) rfl (es rfl (et rfl)) rfl) ?_
    refine W_v rfl rfl (V_asg rfl (es rfl (et rfl))) ?_
    refine W_v rfl rfl (V_asg rfl (es rfl (et rfl))) ?_
    refine W_end ?_
    refine gen_Q (fun A37 hA37 => ?_)
    have hsz37 : SzN A37 111 := by rw [hA37]; infer_instance
    have hdf37 : A37.defers = [] := by rw [hA37]; simp only [df_put]; exact hdf34
    have l1_37 := lookE hA37 1 (es rfl (es rfl (es rfl (es rfl (es rfl (es rfl (es rfl l1_34)))))))
    have l2_37 := lookE hA37 2 (es rfl (es rfl (es rfl (es rfl (es rfl (es rfl (es rfl l2_34)))))))
    have l3_37 := lookE hA37 3 (es rfl (es rfl (es rfl (es rfl (es rfl (es rfl (es rfl l3_34)))))))
    have l8_37 := lookE hA37 8 (es rfl (es rfl (es rfl (es rfl (es rfl (es rfl (es rfl l8_34)))))))
    have l10_37 := lookE hA37 10 (et rfl)
    have l15_37 := lookE hA37 15 (es rfl (es rfl (es rfl (es rfl (es rfl (es rfl (es rfl l15_34)))))))
    have l16_37 := lookE hA37 16 (es rfl (et rfl))
    clear hA37 hsz34 hdf34 l1_34 l2_34 l3_34 l8_34 l15_34
    refine then_n (hK35 _ _ ?_)
    clear hK35
    refine wp_seq_k (fun K38 hK38 => ?_)
    -- region 11
    refine region_in ?_
    refine W_r rfl rfl (VR_ldA rfl l3_37 (hS36.obj 2 rfl hc2) Try.underlying24 rfl (by kernel_rfl)) ?_
    refine W_v rfl rfl (V_mov rfl (es rfl l1_37)) ?_
    refine W_v rfl rfl (V_mov rfl (es rfl (es rfl l2_37))) ?_
    refine W_call rfl rfl rfl Try.func34 (by kernel_rfl) rfl (args3 (es rfl (es rfl (et rfl))) (es rfl (et rfl)) (et rfl)) (kRange_c (f := f) (t := t) (hS36.roC h_cv) ) ?_
    rintro _ w39 ⟨v_39, rfl, hP39⟩
    refine ⟨_, rfl, ?_⟩
    obtain ⟨c_39, hc_39, hP39⟩ := gen1 hP39
    have hS39 := hS36.join hP39
    replace hS39 : St w NoX [c_39, c_36, c_33, c2] w39 := hS39
    refine W_v rfl rfl (V_mov rfl (et rfl)) ?_
    refine W_v rfl rfl (V_ext (v := v_39) rfl (et rfl) rfl) ?_
    refine W_v rfl rfl (V_ext (v := .int .i64 ((ckS c).2)) rfl (es rfl (et rfl)) rfl) ?_
    refine W_v rfl rfl (V_asg rfl (es rfl (et rfl))) ?_
    refine W_v rfl rfl (V_asg rfl (es rfl (et rfl))) ?_
    refine W_end ?_
    refine gen_Q (fun A40 hA40 => ?_)
    have hsz40 : SzN A40 111 := by rw [hA40]; infer_instance
    have hdf40 : A40.defers = [] := by rw [hA40]; simp only [df_put]; exact hdf37
    have l1_40 := lookE hA40 1 (es rfl (es rfl (es rfl (es rfl (es rfl (es rfl (es rfl (es rfl (es rfl l1_37)))))))))
    have l2_40 := lookE hA40 2 (es rfl (es rfl (es rfl (es rfl (es rfl (es rfl (es rfl (es rfl (es rfl l2_37)))))))))
    have l3_40 := lookE hA40 3 (es rfl (es rfl (es rfl (es rfl (es rfl (es rfl (es rfl (es rfl (es rfl l3_37)))))))))
    have l8_40 := lookE hA40 8 (es rfl (es rfl (es rfl (es rfl (es rfl (es rfl (es rfl (es rfl (es rfl l8_37)))))))))
    have l10_40 := lookE hA40 10 (es rfl (es rfl (es rfl (es rfl (es rfl (es rfl (es rfl (es rfl (es rfl l10_37)))))))))
    have l12_40 := lookE hA40 12 (et rfl)
    have l15_40 := lookE hA40 15 (es rfl (es rfl (es rfl (es rfl (es rfl (es rfl (es rfl (es rfl (es rfl l15_37)))))))))
    have l16_40 := lookE hA40 16 (es rfl (es rfl (es rfl (es rfl (es rfl (es rfl (es rfl (es rfl (es rfl l16_37)))))))))
    have l17_40 := lookE hA40 17 (es rfl (et rfl))
    clear hA40 hsz37 hdf37 l1_37 l2_37 l3_37 l8_37 l10_37 l15_37 l16_37
    refine then_n (hK38 _ _ ?_)
    clear hK38
    refine wp_seq_k (fun K41 hK41 => ?_)
    -- region 12
    refine region_in ?_
    refine W_r rfl rfl (VR_ldA rfl l3_40 (hS39.obj 3 rfl hc2) Try.underlying24 rfl (by kernel_rfl)) ?_
    refine W_v rfl rfl (V_mov rfl (es rfl l1_40)) ?_
    refine W_v rfl rfl (V_mov rfl (es rfl (es rfl l2_40))) ?_
    refine W_call rfl rfl rfl Try.func35 (by kernel_rfl) rfl (args3 (es rfl (es rfl (et rfl))) (es rfl (et rfl)) (et rfl)) (qRange_c (f := f) (t := t) (hS39.roC h_cv) ) ?_
    rintro _ w42 ⟨v_42, rfl, hP42⟩
    refine ⟨_, rfl, ?_⟩
    obtain ⟨c_42, hc_42, hP42⟩ := gen1 hP42
    have hS42 := hS39.join hP42
    replace hS42 : St w NoX [c_42, c_39, c_36, c_33, c2] w42 := hS42
    refine W_v rfl rfl (V_mov rfl (et rfl)) ?_
    refine W_v rfl rfl (V_ext (v := v_42) rfl (et rfl) rfl) ?_
    refine W_v rfl rfl (V_ext (v := .int .i64 ((ckS c).2)) rfl (es rfl (et rfl)) rfl) ?_
    refine W_v rfl rfl (V_asg rfl (es rfl (et rfl))) ?_
    refine W_v rfl rfl (V_asg rfl (es rfl (et rfl))) ?_
    refine W_end ?_
    refine gen_Q (fun A43 hA43 => ?_)
    have hsz43 : SzN A43 111 := by rw [hA43]; infer_instance
    have hdf43 : A43.defers = [] := by rw [hA43]; simp only [df_put]; exact hdf40
    have l8_43 := lookE hA43 8 (es rfl (es rfl (es rfl (es rfl (es rfl (es rfl (es rfl (es rfl (es rfl l8_40)))))))))
    have l10_43 := lookE hA43 10 (es rfl (es rfl (es rfl (es rfl (es rfl (es rfl (es rfl (es rfl (es rfl l10_40)))))))))
    have l12_43 := lookE hA43 12 (es rfl (es rfl (es rfl (es rfl (es rfl (es rfl (es rfl (es rfl (es rfl l12_40)))))))))
    have l14_43 := lookE hA43 14 (et rfl)
    have l15_43 := lookE hA43 15 (es rfl (es rfl (es rfl (es rfl (es rfl (es rfl (es rfl (es rfl (es rfl l15_40)))))))))
    have l16_43 := lookE hA43 16 (es rfl (es rfl (es rfl (es rfl (es rfl (es rfl (es rfl (es rfl (es rfl l16_40)))))))))
    have l17_43 := lookE hA43 17 (es rfl (es rfl (es rfl (es rfl (es rfl (es rfl (es rfl (es rfl (es rfl l17_40)))))))))
    have l18_43 := lookE hA43 18 (es rfl (et rfl))
    clear hA43 hsz40 hdf40 l1_40 l2_40 l3_40 l8_40 l10_40 l12_40 l15_40 l16_40 l17_40
    have hS44 : St w NoX [c_42, c_39, c_36, c_33] w42 := hS42.sel [0, 1, 2, 3] (by decide) rfl
    refine then_n (hK41 _ _ ?_)
    clear hK41
    refine wp_seq_k (fun K45 hK45 => ?_)
    -- region 13
    refine region_in ?_
    refine W_v rfl rfl (V_mov rfl l15_43) ?_
    refine W_v rfl rfl (V_mov rfl (es rfl l16_43)) ?_
    refine W_call rfl rfl rfl Try.func36 (by kernel_rfl) rfl (args2 (es rfl (et rfl)) (et rfl)) (qInts_c (hS44.chC 3 rfl hc_33).own (hS44.chC 2 rfl hc_36).own ) ?_
    rintro _ w46 ⟨rfl, hP46⟩
    refine ⟨_, rfl, ?_⟩
    have hS46 := hS44.join hP46
    replace hS46 : St w NoX [c_42, c_39, c_36, c_33] w46 := hS46
    refine W_sure (c' := true) rfl rfl (V_mov rfl (et rfl)) (by simp) ?_
    refine W_v rfl (wanted_t rfl rfl (et rfl) (ez rfl)) (V_mov rfl (es rfl (es rfl (es rfl (es rfl l8_43))))) ?_
    refine W_v rfl (wanted_t rfl rfl (es rfl (et rfl)) (ez rfl)) (V_mov rfl (es rfl (es rfl (es rfl (es rfl (es rfl l10_43)))))) ?_
    refine W_v rfl (wanted_t rfl rfl (es rfl (es rfl (et rfl))) (ez rfl)) (V_eql rfl (es rfl (et rfl)) (et rfl)) ?_
    refine W_v rfl rfl (V_pickT rfl (es rfl (es rfl (es rfl (et rfl)))) (et rfl)) ?_
    refine W_sure (c' := true) rfl rfl (V_mov rfl (et rfl)) (by simp) ?_
    refine W_v rfl (wanted_t rfl rfl (et rfl) (ez rfl)) (V_mov rfl (es rfl (es rfl (es rfl (es rfl (es rfl (es rfl (es rfl (es rfl (es rfl l17_43)))))))))) ?_
    refine W_v rfl (wanted_t rfl rfl (es rfl (et rfl)) (ez rfl)) (V_mov rfl (es rfl (es rfl (es rfl (es rfl (es rfl (es rfl (es rfl (es rfl (es rfl (es rfl l18_43))))))))))) ?_
    refine W_call rfl (wanted_t rfl rfl (es rfl (es rfl (et rfl))) (ez rfl)) rfl Try.func36 (by kernel_rfl) rfl (args2 (es rfl (et rfl)) (et rfl)) (qInts_c (hS46.chC 1 rfl hc_39).own (hS46.chC 0 rfl hc_42).own ) ?_
    rintro _ w47 ⟨rfl, hP47⟩
    refine ⟨_, rfl, ?_⟩
    have hS47 := hS46.join hP47
    replace hS47 : St w NoX [c_42, c_39, c_36, c_33] w47 := hS47
    refine W_v rfl rfl (V_pickT rfl (es rfl (es rfl (es rfl (et rfl)))) (et rfl)) ?_
    refine W_sure (c' := true) rfl rfl (V_mov rfl (et rfl)) (by simp) ?_
    refine W_v rfl (wanted_t rfl rfl (et rfl) (ez rfl)) (V_mov rfl (es rfl (es rfl (es rfl (es rfl (es rfl (es rfl (es rfl (es rfl (es rfl (es rfl (es rfl (es rfl (es rfl (es rfl l12_43))))))))))))))) ?_
    refine W_v rfl (wanted_t rfl rfl (es rfl (et rfl)) (ez rfl)) (V_mov rfl (es rfl (es rfl (es rfl (es rfl (es rfl (es rfl (es rfl (es rfl (es rfl (es rfl (es rfl (es rfl (es rfl (es rfl (es rfl l14_43)))))))))))))))) ?_
    refine W_v rfl (wanted_t rfl rfl (es rfl (es rfl (et rfl))) (ez rfl)) (V_eql rfl (es rfl (et rfl)) (et rfl)) ?_
    refine W_v rfl rfl (V_pickT rfl (es rfl (es rfl (es rfl (et rfl)))) (et rfl)) ?_
    refine W_sure (c' := true) rfl rfl (V_mov rfl (et rfl)) (by simp) ?_
    refine W_call rfl (wanted_t rfl rfl (et rfl) (ez rfl)) rfl Try.func12 (by kernel_rfl) rfl (args0) (awake_c  ) ?_
    rintro _ w48 ⟨rfl, hP48⟩
    refine ⟨_, rfl, ?_⟩
    have hS48 := hS47.join hP48
    replace hS48 : St w NoX [c_42, c_39, c_36, c_33] w48 := hS48
    refine W_v rfl rfl (V_pickT rfl (es rfl (et rfl)) (et rfl)) ?_
    refine W_v rfl rfl (V_asg rfl (et rfl)) ?_
    refine W_end ?_
    refine gen_Q (fun A49 hA49 => ?_)
    have hsz49 : SzN A49 111 := by rw [hA49]; infer_instance
    have hdf49 : A49.defers = [] := by rw [hA49]; simp only [df_put]; exact hdf43
    have l6_49 := lookE hA49 6 (et rfl)
    clear hA49 hsz43 hdf43 l8_43 l10_43 l12_43 l14_43 l15_43 l16_43 l17_43 l18_43
    have hS50 : St w NoX [] w48 := hS48.sel [] (by decide) rfl
    refine then_n (hK45 _ _ ?_)
    clear hK45
    refine wp_ret ?_
    refine ret_in (results_1 Try.results6 (rv_tmp l6_49)) hdf49 ?_
    -- leaf F
    exact ⟨rfl, hS50.fin0⟩

end Go.Proofs.Ytoandfgkkmfobaa