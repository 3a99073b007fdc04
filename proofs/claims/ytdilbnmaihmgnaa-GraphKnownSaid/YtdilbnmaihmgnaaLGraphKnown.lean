import Derived.Test.YtdilbnmaihmgnaaProg
import Derived.Test.YtdilbnmaihmgnaaGh10
namespace Go.Proofs.Ytdilbnmaihmgnaa
open Go.RowKit Go.Own Go.Own.R Go.Own.G Go.Own.Gr


set_option maxHeartbeats 4000000 in
theorem GraphKnown_c  {w : World}   :
    Calls Try.prog 5 #[] w fun e w' => e = .returned (.bool true) ∧ St w NoX [] w' := by
  refine calls_in 103 Try.func5 rfl rfl (by simp) (fun A0 hsz0 hdf0 hargs => ?_)
  clear hargs; replace hsz0 : SzN A0 103 := ⟨hsz0⟩
  have hS := St.nil w
  refine wp_seq_k (fun K1 hK1 => ?_)
  -- region 0
  refine region_in ?_
  refine W_v rfl rfl (V_asg rfl rfl) ?_
  refine W_end ?_
  refine gen_Q (fun A2 hA2 => ?_)
  have hsz2 : SzN A2 103 := by rw [hA2]; infer_instance
  have hdf2 : A2.defers = [] := by rw [hA2]; simp only [df_put]; exact hdf0
  clear hA2 hsz0 hdf0
  refine then_n (hK1 _ _ ?_)
  clear hK1
  refine wp_seq_k (fun K3 hK3 => ?_)
  -- region 1
  refine region_in ?_
  refine W_call rfl rfl rfl Try.func23 (by kernel_rfl) rfl (args0) (ex_c  ) ?_
  rintro _ w4 ⟨hv_4, H_4, qv_4, rfl, hH_4, hP4⟩
  refine ⟨_, rfl, ?_⟩
  obtain ⟨cR_4, cP_4, cQ_4, cG_4, hcR_4, hcP_4, hcQ_4, hcG_4, hP4⟩ := gen4 hP4
  have hS4 := hS.join hP4
  replace hS4 : St w NoX [cR_4, cP_4, cQ_4, cG_4] w4 := hS4
  have hm4 : H_4.map ab = [([0, 2], [0]), ([], [])] := by simp only [hH_4] <;> decide +kernel
  have hsm4 : SM (H_4.map ab) := by rw [hm4]; unfold SM; decide
  refine W_allocS (z := .agg #[.slice none 0 0, .slice none 0 0]) (zs := #[.slice none 0 0, .slice none 0 0]) hS4 rfl rfl rfl (by kernel_rfl) (by rfl) (fun g5 w5 c5 hc5 hS5 => ?_)
  replace hS5 : St w NoX [c5, cR_4, cP_4, cQ_4, cG_4] w5 := hS5
  refine W_stAS 0 hS5 rfl hc5 rfl rfl rfl (et rfl) (es rfl (et rfl)) (by simp only [List.all_toArray, List.all_cons, List.all_nil, SlN_one (ow_at (hS5.chq 1 rfl hcR_4)), SlN_one (ow_at (hS5.chq 4 rfl hcG_4))] <;> rfl) (by rfl) (by kernel_rfl) (fun w6 c6 hc6 hS6 => ?_)
  replace hS6 : St w NoX [c6, cR_4, cP_4, cQ_4, cG_4] w6 := hS6
  refine W_end ?_
  refine gen_Q (fun A7 hA7 => ?_)
  have hsz7 : SzN A7 103 := by rw [hA7]; infer_instance
  have hdf7 : A7.defers = [] := by rw [hA7]; simp only [df_put]; exact hdf2
  have l1_7 := lookE hA7 1 (et rfl)
  clear hA7 hsz2 hdf2
  refine then_n (hK3 _ _ ?_)
  clear hK3
  refine wp_seq_k (fun K8 hK8 => ?_)
  -- region 2
  refine region_in ?_
  refine W_r rfl rfl (VR_ldA rfl l1_7 (hS6.obj 0 rfl hc6) Try.underlying25 rfl (by kernel_rfl)) ?_
  refine W_call rfl rfl rfl Try.func24 (by kernel_rfl) rfl (args2 (et rfl) rfl) (kClear_c (a := 0) (hS6.chC 1 rfl hcR_4).own (nst_of (hS6.chC 2 rfl hcP_4) (hS6.chC 3 rfl hcQ_4)) (hS6.chC 4 rfl hcG_4).own (by first | with_reducible assumption)) ?_
  rintro _ w9 ⟨hv_9, H_9, qv_9, rfl, hH_9, hP9⟩
  refine ⟨_, rfl, ?_⟩
  obtain ⟨cR_9, cP_9, cQ_9, cG_9, hcR_9, hcP_9, hcQ_9, hcG_9, hP9⟩ := gen4 hP9
  have hS9 := hS6.join hP9
  replace hS9 : St w NoX [cR_9, cP_9, cQ_9, cG_9, c6, cR_4, cP_4, cQ_4, cG_4] w9 := hS9
  have hm9 : H_9.map ab = [([0, 2], [0]), ([], [])] := by simp only [hH_9, hm4] <;> decide +kernel
  have hsm9 : SM (H_9.map ab) := by rw [hm9]; unfold SM; decide
  refine W_v rfl rfl (V_mov rfl (et rfl)) ?_
  refine W_v rfl rfl (V_ext (v := .agg #[hv_9, qv_9]) rfl (et rfl) rfl) ?_
  refine W_v rfl rfl (V_ext (v := .int .i64 ((ckd (H_4.map ab) [1, 2] [0]))) rfl (es rfl (et rfl)) rfl) ?_
  refine W_allocS (z := .agg #[.slice none 0 0, .slice none 0 0]) (zs := #[.slice none 0 0, .slice none 0 0]) hS9 rfl rfl rfl (by kernel_rfl) (by rfl) (fun g10 w10 c10 hc10 hS10 => ?_)
  replace hS10 : St w NoX [c10, cR_9, cP_9, cQ_9, cG_9, c6, cR_4, cP_4, cQ_4, cG_4] w10 := hS10
  refine W_stAS 0 hS10 rfl hc10 rfl rfl rfl (et rfl) (es rfl (es rfl (et rfl))) (by simp only [List.all_toArray, List.all_cons, List.all_nil, SlN_one (ow_at (hS10.chq 1 rfl hcR_9)), SlN_one (ow_at (hS10.chq 4 rfl hcG_9))] <;> rfl) (by rfl) (by kernel_rfl) (fun w11 c11 hc11 hS11 => ?_)
  replace hS11 : St w NoX [c11, cR_9, cP_9, cQ_9, cG_9, c6, cR_4, cP_4, cQ_4, cG_4] w11 := hS11
  refine W_v rfl rfl (V_asg rfl (es rfl (et rfl))) ?_
  refine W_end ?_
  refine gen_Q (fun A12 hA12 => ?_)
  have hsz12 : SzN A12 103 := by rw [hA12]; infer_instance
  have hdf12 : A12.defers = [] := by rw [hA12]; simp only [df_put]; exact hdf7
  have l1_12 := lookE hA12 1 (es rfl (es rfl (es rfl (es rfl (es rfl (es rfl (es rfl l1_7)))))))
  have l2_12 := lookE hA12 2 (es rfl (et rfl))
  clear hA12 hsz7 hdf7 l1_7
  refine then_n (hK8 _ _ ?_)
  clear hK8
  refine wp_seq_k (fun K13 hK13 => ?_)
  -- region 3
  refine region_in ?_
  refine W_r rfl rfl (VR_ldA rfl l2_12 (hS11.obj 0 rfl hc11) Try.underlying25 rfl (by kernel_rfl)) ?_
  refine W_call rfl rfl rfl Try.func24 (by kernel_rfl) rfl (args2 (et rfl) rfl) (kClear_c (a := 1) (hS11.chC 1 rfl hcR_9).own (nst_of (hS11.chC 2 rfl hcP_9) (hS11.chC 3 rfl hcQ_9)) (hS11.chC 4 rfl hcG_9).own (by first | with_reducible assumption)) ?_
  rintro _ w14 ⟨hv_14, H_14, qv_14, rfl, hH_14, hP14⟩
  refine ⟨_, rfl, ?_⟩
  obtain ⟨cR_14, cP_14, cQ_14, cG_14, hcR_14, hcP_14, hcQ_14, hcG_14, hP14⟩ := gen4 hP14
  have hS14 := hS11.join hP14
  replace hS14 : St w NoX [cR_14, cP_14, cQ_14, cG_14, c11, cR_9, cP_9, cQ_9, cG_9, c6, cR_4, cP_4, cQ_4, cG_4] w14 := hS14
  have hm14 : H_14.map ab = [([0, 2], [0]), ([], [])] := by simp only [hH_14, hm4, hm9] <;> decide +kernel
  have hsm14 : SM (H_14.map ab) := by rw [hm14]; unfold SM; decide
  refine W_v rfl rfl (V_mov rfl (et rfl)) ?_
  refine W_v rfl rfl (V_ext (v := .agg #[hv_14, qv_14]) rfl (et rfl) rfl) ?_
  refine W_v rfl rfl (V_ext (v := .int .i64 ((ckd (H_9.map ab) (clR (H_4.map ab) [1, 2] 0) [1]))) rfl (es rfl (et rfl)) rfl) ?_
  refine W_stAS 4 hS14 rfl hc11 rfl rfl rfl (es rfl (es rfl (es rfl (es rfl (es rfl l2_12))))) (es rfl (et rfl)) (by simp only [List.all_toArray, List.all_cons, List.all_nil, SlN_one (ow_at (hS14.chq 0 rfl hcR_14)), SlN_one (ow_at (hS14.chq 3 rfl hcG_14))] <;> rfl) (by rfl) (by kernel_rfl) (fun w15 c15 hc15 hS15 => ?_)
  replace hS15 : St w NoX [cR_14, cP_14, cQ_14, cG_14, c15, cR_9, cP_9, cQ_9, cG_9, c6, cR_4, cP_4, cQ_4, cG_4] w15 := hS15
  refine W_end ?_
  refine gen_Q (fun A16 hA16 => ?_)
  have hsz16 : SzN A16 103 := by rw [hA16]; infer_instance
  have hdf16 : A16.defers = [] := by rw [hA16]; simp only [df_put]; exact hdf12
  have l1_16 := lookE hA16 1 (es rfl (es rfl (es rfl (es rfl (es rfl l1_12)))))
  have l2_16 := lookE hA16 2 (es rfl (es rfl (es rfl (es rfl (es rfl l2_12)))))
  clear hA16 hsz12 hdf12 l1_12 l2_12
  have hS17 : St w NoX [cR_14, cP_14, cQ_14, cG_14, c15, c6, cR_4, cP_4, cQ_4, cG_4] w15 := hS15.sel [0, 1, 2, 3, 4, 9, 10, 11, 12, 13] (by decide) rfl
  refine then_n (hK13 _ _ ?_)
  clear hK13
  refine wp_seq_k (fun K18 hK18 => ?_)
  -- region 4
  refine region_in ?_
  refine W_r rfl rfl (VR_ldA rfl l2_16 (hS17.obj 4 rfl hc15) Try.underlying25 rfl (by kernel_rfl)) ?_
  refine W_call rfl rfl rfl Try.func17 (by kernel_rfl) rfl (args1 (et rfl)) (kLv_c (hS17.chC 0 rfl hcR_14).own (nst_of (hS17.chC 1 rfl hcP_14) (hS17.chC 2 rfl hcQ_14)) (hS17.chC 3 rfl hcG_14).own (by first | with_reducible assumption)) ?_
  rintro _ w19 ⟨v_19, rfl, hP19⟩
  refine ⟨_, rfl, ?_⟩
  obtain ⟨c_19, hc_19, hP19⟩ := gen1 hP19
  have hS19 := hS17.join hP19
  replace hS19 : St w NoX [c_19, cR_14, cP_14, cQ_14, cG_14, c15, c6, cR_4, cP_4, cQ_4, cG_4] w19 := hS19
  refine W_v rfl rfl (V_mov rfl (et rfl)) ?_
  refine W_v rfl rfl (V_ext (v := v_19) rfl (et rfl) rfl) ?_
  refine W_v rfl rfl (V_ext (v := .int .i64 ((ckG (H_14.map ab) (clR (H_9.map ab) (clR (H_4.map ab) [1, 2] 0) 1)).2)) rfl (es rfl (et rfl)) rfl) ?_
  refine W_v rfl rfl (V_asg rfl (es rfl (et rfl))) ?_
  refine W_v rfl rfl (V_asg rfl (es rfl (et rfl))) ?_
  refine W_end ?_
  refine gen_Q (fun A20 hA20 => ?_)
  have hsz20 : SzN A20 103 := by rw [hA20]; infer_instance
  have hdf20 : A20.defers = [] := by rw [hA20]; simp only [df_put]; exact hdf16
  have l1_20 := lookE hA20 1 (es rfl (es rfl (es rfl (es rfl (es rfl (es rfl (es rfl l1_16)))))))
  have l4_20 := lookE hA20 4 (es rfl (et rfl))
  have l5_20 := lookE hA20 5 (et rfl)
  clear hA20 hsz16 hdf16 l1_16 l2_16
  have hS21 : St w NoX [c_19, c6, cR_4, cP_4, cQ_4, cG_4] w19 := hS19.sel [0, 6, 7, 8, 9, 10] (by decide) rfl
  refine then_n (hK18 _ _ ?_)
  clear hK18
  refine wp_seq_k (fun K22 hK22 => ?_)
  -- region 5
  refine region_in ?_
  refine W_r rfl rfl (VR_ldA rfl l1_20 (hS21.obj 1 rfl hc6) Try.underlying25 rfl (by kernel_rfl)) ?_
  refine W_call rfl rfl rfl Try.func25 (by kernel_rfl) rfl (args4 (et rfl) rfl rfl rfl) (kLoad_c (a := 1) (b := 0) (f := 0) (hS21.chC 2 rfl hcR_4).own (nst_of (hS21.chC 3 rfl hcP_4) (hS21.chC 4 rfl hcQ_4)) (hS21.chC 5 rfl hcG_4).own (by first | with_reducible assumption)) ?_
  rintro _ w23 ⟨hv_23, H_23, qv_23, rfl, hH_23, hP23⟩
  refine ⟨_, rfl, ?_⟩
  obtain ⟨cR_23, cP_23, cQ_23, cG_23, hcR_23, hcP_23, hcQ_23, hcG_23, hP23⟩ := gen4 hP23
  have hS23 := hS21.join hP23
  replace hS23 : St w NoX [cR_23, cP_23, cQ_23, cG_23, c_19, c6, cR_4, cP_4, cQ_4, cG_4] w23 := hS23
  have hm23 : H_23.map ab = [([0, 2], [0]), ([], [])] := by simp only [hH_23, hm4, hm9, hm14] <;> decide +kernel
  have hsm23 : SM (H_23.map ab) := by rw [hm23]; unfold SM; decide
  refine W_v rfl rfl (V_mov rfl (et rfl)) ?_
  refine W_v rfl rfl (V_ext (v := .agg #[hv_23, qv_23]) rfl (et rfl) rfl) ?_
  refine W_v rfl rfl (V_ext (v := .int .i64 ((ptE (H_4.map ab) [1, 2] [1, 0] 0 0))) rfl (es rfl (et rfl)) rfl) ?_
  refine W_allocS (z := .agg #[.slice none 0 0, .slice none 0 0]) (zs := #[.slice none 0 0, .slice none 0 0]) hS23 rfl rfl rfl (by kernel_rfl) (by rfl) (fun g24 w24 c24 hc24 hS24 => ?_)
  replace hS24 : St w NoX [c24, cR_23, cP_23, cQ_23, cG_23, c_19, c6, cR_4, cP_4, cQ_4, cG_4] w24 := hS24
  refine W_stAS 0 hS24 rfl hc24 rfl rfl rfl (et rfl) (es rfl (es rfl (et rfl))) (by simp only [List.all_toArray, List.all_cons, List.all_nil, SlN_one (ow_at (hS24.chq 1 rfl hcR_23)), SlN_one (ow_at (hS24.chq 4 rfl hcG_23))] <;> rfl) (by rfl) (by kernel_rfl) (fun w25 c25 hc25 hS25 => ?_)
  replace hS25 : St w NoX [c25, cR_23, cP_23, cQ_23, cG_23, c_19, c6, cR_4, cP_4, cQ_4, cG_4] w25 := hS25
  refine W_v rfl rfl (V_asg rfl (es rfl (et rfl))) ?_
  refine W_end ?_
  refine gen_Q (fun A26 hA26 => ?_)
  have hsz26 : SzN A26 103 := by rw [hA26]; infer_instance
  have hdf26 : A26.defers = [] := by rw [hA26]; simp only [df_put]; exact hdf20
  have l1_26 := lookE hA26 1 (es rfl (es rfl (es rfl (es rfl (es rfl (es rfl (es rfl l1_20)))))))
  have l4_26 := lookE hA26 4 (es rfl (es rfl (es rfl (es rfl (es rfl (es rfl (es rfl l4_20)))))))
  have l5_26 := lookE hA26 5 (es rfl (es rfl (es rfl (es rfl (es rfl (es rfl (es rfl l5_20)))))))
  have l6_26 := lookE hA26 6 (es rfl (et rfl))
  have l7_26 := lookE hA26 7 (et rfl)
  clear hA26 hsz20 hdf20 l1_20 l4_20 l5_20
  refine then_n (hK22 _ _ ?_)
  clear hK22
  refine wp_seq_k (fun K27 hK27 => ?_)
  -- region 6
  refine region_in ?_
  refine W_r rfl rfl (VR_ldA rfl l6_26 (hS25.obj 0 rfl hc25) Try.underlying25 rfl (by kernel_rfl)) ?_
  refine W_call rfl rfl rfl Try.func17 (by kernel_rfl) rfl (args1 (et rfl)) (kLv_c (hS25.chC 1 rfl hcR_23).own (nst_of (hS25.chC 2 rfl hcP_23) (hS25.chC 3 rfl hcQ_23)) (hS25.chC 4 rfl hcG_23).own (by first | with_reducible assumption)) ?_
  rintro _ w28 ⟨v_28, rfl, hP28⟩
  refine ⟨_, rfl, ?_⟩
  obtain ⟨c_28, hc_28, hP28⟩ := gen1 hP28
  have hS28 := hS25.join hP28
  replace hS28 : St w NoX [c_28, c25, cR_23, cP_23, cQ_23, cG_23, c_19, c6, cR_4, cP_4, cQ_4, cG_4] w28 := hS28
  refine W_v rfl rfl (V_mov rfl (et rfl)) ?_
  refine W_v rfl rfl (V_ext (v := v_28) rfl (et rfl) rfl) ?_
  refine W_v rfl rfl (V_ext (v := .int .i64 ((ckG (H_23.map ab) (ldR (H_4.map ab) [1, 2] 1 0 0)).2)) rfl (es rfl (et rfl)) rfl) ?_
  refine W_v rfl rfl (V_asg rfl (es rfl (et rfl))) ?_
  refine W_v rfl rfl (V_asg rfl (es rfl (et rfl))) ?_
  refine W_end ?_
  refine gen_Q (fun A29 hA29 => ?_)
  have hsz29 : SzN A29 103 := by rw [hA29]; infer_instance
  have hdf29 : A29.defers = [] := by rw [hA29]; simp only [df_put]; exact hdf26
  have l1_29 := lookE hA29 1 (es rfl (es rfl (es rfl (es rfl (es rfl (es rfl (es rfl l1_26)))))))
  have l4_29 := lookE hA29 4 (es rfl (es rfl (es rfl (es rfl (es rfl (es rfl (es rfl l4_26)))))))
  have l5_29 := lookE hA29 5 (es rfl (es rfl (es rfl (es rfl (es rfl (es rfl (es rfl l5_26)))))))
  have l7_29 := lookE hA29 7 (es rfl (es rfl (es rfl (es rfl (es rfl (es rfl (es rfl l7_26)))))))
  have l8_29 := lookE hA29 8 (es rfl (et rfl))
  have l9_29 := lookE hA29 9 (et rfl)
  clear hA29 hsz26 hdf26 l1_26 l4_26 l5_26 l6_26 l7_26
  have hS30 : St w NoX [c_28, c_19, c6, cR_4, cP_4, cQ_4, cG_4] w28 := hS28.sel [0, 6, 7, 8, 9, 10, 11] (by decide) rfl
  refine then_n (hK27 _ _ ?_)
  clear hK27
  refine wp_seq_k (fun K31 hK31 => ?_)
  -- region 7
  refine region_in ?_
  refine W_r rfl rfl (VR_ldA rfl l1_29 (hS30.obj 2 rfl hc6) Try.underlying25 rfl (by kernel_rfl)) ?_
  refine W_call rfl rfl rfl Try.func26 (by kernel_rfl) rfl (args3 (et rfl) rfl rfl) (kRd_c (a := 2) (f := 0) (hS30.chC 3 rfl hcR_4).own (nst_of (hS30.chC 4 rfl hcP_4) (hS30.chC 5 rfl hcQ_4)) (hS30.chC 6 rfl hcG_4).own ) ?_
  rintro _ w32 ⟨rfl, hP32⟩
  refine ⟨_, rfl, ?_⟩
  have hS32 := hS30.join hP32
  replace hS32 : St w NoX [c_28, c_19, c6, cR_4, cP_4, cQ_4, cG_4] w32 := hS32
  refine W_v rfl rfl (V_mov rfl (et rfl)) ?_
  refine W_v rfl rfl (V_ext (v := .int .u64 ((rdV (H_4.map ab) [1, 2] 2 0))) rfl (et rfl) rfl) ?_
  refine W_v rfl rfl (V_ext (v := .int .i64 ((rwE (H_4.map ab) [1, 2] [2] 2 0))) rfl (es rfl (et rfl)) rfl) ?_
  refine W_v rfl rfl (V_asg rfl (es rfl (et rfl))) ?_
  refine W_v rfl rfl (V_asg rfl (es rfl (et rfl))) ?_
  refine W_end ?_
  refine gen_Q (fun A33 hA33 => ?_)
  have hsz33 : SzN A33 103 := by rw [hA33]; infer_instance
  have hdf33 : A33.defers = [] := by rw [hA33]; simp only [df_put]; exact hdf29
  have l1_33 := lookE hA33 1 (es rfl (es rfl (es rfl (es rfl (es rfl (es rfl (es rfl l1_29)))))))
  have l4_33 := lookE hA33 4 (es rfl (es rfl (es rfl (es rfl (es rfl (es rfl (es rfl l4_29)))))))
  have l5_33 := lookE hA33 5 (es rfl (es rfl (es rfl (es rfl (es rfl (es rfl (es rfl l5_29)))))))
  have l7_33 := lookE hA33 7 (es rfl (es rfl (es rfl (es rfl (es rfl (es rfl (es rfl l7_29)))))))
  have l8_33 := lookE hA33 8 (es rfl (es rfl (es rfl (es rfl (es rfl (es rfl (es rfl l8_29)))))))
  have l9_33 := lookE hA33 9 (es rfl (es rfl (es rfl (es rfl (es rfl (es rfl (es rfl l9_29)))))))
  have l11_33 := lookE hA33 11 (et rfl)
  clear hA33 hsz29 hdf29 l1_29 l4_29 l5_29 l7_29 l8_29 l9_29
  refine then_n (hK31 _ _ ?_)
  clear hK31
  refine wp_seq_k (fun K34 hK34 => ?_)
  -- region 8
  refine region_in ?_
  refine W_r rfl rfl (VR_ldA rfl l1_33 (hS32.obj 2 rfl hc6) Try.underlying25 rfl (by kernel_rfl)) ?_
  refine W_call rfl rfl rfl Try.func27 (by kernel_rfl) rfl (args4 (et rfl) rfl rfl rfl) (kStore_c (a := 1) (f := 0) (b := 0) (hS32.chC 3 rfl hcR_4).own (nst_of (hS32.chC 4 rfl hcP_4) (hS32.chC 5 rfl hcQ_4)) (hS32.chC 6 rfl hcG_4).own (by first | with_reducible assumption)) ?_
  rintro _ w35 ⟨hv_35, H_35, qv_35, rfl, hH_35, hP35⟩
  refine ⟨_, rfl, ?_⟩
  obtain ⟨cR_35, cP_35, cQ_35, cG_35, hcR_35, hcP_35, hcQ_35, hcG_35, hP35⟩ := gen4 hP35
  have hS35 := hS32.join hP35
  replace hS35 : St w NoX [cR_35, cP_35, cQ_35, cG_35, c_28, c_19, c6, cR_4, cP_4, cQ_4, cG_4] w35 := hS35
  have hm35 : H_35.map ab = [] := by simp only [hH_35, hm4, hm9, hm14, hm23] <;> decide +kernel
  have hsm35 : SM (H_35.map ab) := by rw [hm35]; unfold SM; decide
  refine W_v rfl rfl (V_mov rfl (et rfl)) ?_
  refine W_v rfl rfl (V_ext (v := .agg #[hv_35, qv_35]) rfl (et rfl) rfl) ?_
  refine W_v rfl rfl (V_ext (v := .int .i64 ((ptE (H_4.map ab) [1, 2] [1, 0] 1 0))) rfl (es rfl (et rfl)) rfl) ?_
  refine W_allocS (z := .agg #[.slice none 0 0, .slice none 0 0]) (zs := #[.slice none 0 0, .slice none 0 0]) hS35 rfl rfl rfl (by kernel_rfl) (by rfl) (fun g36 w36 c36 hc36 hS36 => ?_)
  replace hS36 : St w NoX [c36, cR_35, cP_35, cQ_35, cG_35, c_28, c_19, c6, cR_4, cP_4, cQ_4, cG_4] w36 := hS36
  refine W_stAS 0 hS36 rfl hc36 rfl rfl rfl (et rfl) (es rfl (es rfl (et rfl))) (by simp only [List.all_toArray, List.all_cons, List.all_nil, SlN_one (ow_at (hS36.chq 1 rfl hcR_35)), SlN_one (ow_at (hS36.chq 4 rfl hcG_35))] <;> rfl) (by rfl) (by kernel_rfl) (fun w37 c37 hc37 hS37 => ?_)
  replace hS37 : St w NoX [c37, cR_35, cP_35, cQ_35, cG_35, c_28, c_19, c6, cR_4, cP_4, cQ_4, cG_4] w37 := hS37
  refine W_v rfl rfl (V_asg rfl (es rfl (et rfl))) ?_
  refine W_end ?_
  refine gen_Q (fun A38 hA38 => ?_)
  have hsz38 : SzN A38 103 := by rw [hA38]; infer_instance
  have hdf38 : A38.defers = [] := by rw [hA38]; simp only [df_put]; exact hdf33
  have l1_38 := lookE hA38 1 (es rfl (es rfl (es rfl (es rfl (es rfl (es rfl (es rfl l1_33)))))))
  have l4_38 := lookE hA38 4 (es rfl (es rfl (es rfl (es rfl (es rfl (es rfl (es rfl l4_33)))))))
  have l5_38 := lookE hA38 5 (es rfl (es rfl (es rfl (es rfl (es rfl (es rfl (es rfl l5_33)))))))
  have l7_38 := lookE hA38 7 (es rfl (es rfl (es rfl (es rfl (es rfl (es rfl (es rfl l7_33)))))))
  have l8_38 := lookE hA38 8 (es rfl (es rfl (es rfl (es rfl (es rfl (es rfl (es rfl l8_33)))))))
  have l9_38 := lookE hA38 9 (es rfl (es rfl (es rfl (es rfl (es rfl (es rfl (es rfl l9_33)))))))
  have l11_38 := lookE hA38 11 (es rfl (es rfl (es rfl (es rfl (es rfl (es rfl (es rfl l11_33)))))))
  have l13_38 := lookE hA38 13 (et rfl)
  clear hA38 hsz33 hdf33 l1_33 l4_33 l5_33 l7_33 l8_33 l9_33 l11_33
  have hS39 : St w NoX [c_28, c_19, c6, cR_4, cP_4, cQ_4, cG_4] w37 := hS37.sel [5, 6, 7, 8, 9, 10, 11] (by decide) rfl
  refine then_n (hK34 _ _ ?_)
  clear hK34
  refine wp_seq_k (fun K40 hK40 => ?_)
  -- region 9
  refine region_in ?_
  refine W_r rfl rfl (VR_ldA rfl l1_38 (hS39.obj 2 rfl hc6) Try.underlying25 rfl (by kernel_rfl)) ?_
  refine W_call rfl rfl rfl Try.func28 (by kernel_rfl) rfl (args4 (et rfl) rfl rfl rfl) (kAlloc_c (a := 0) (p := 16) (r := 16) (hS39.chC 3 rfl hcR_4).own (nst_of (hS39.chC 4 rfl hcP_4) (hS39.chC 5 rfl hcQ_4)) (hS39.chC 6 rfl hcG_4).own (by first | with_reducible assumption)) ?_
  rintro _ w41 ⟨hv_41, H_41, qv_41, rfl, hH_41, hP41⟩
  refine ⟨_, rfl, ?_⟩
  obtain ⟨cR_41, cP_41, cQ_41, cG_41, hcR_41, hcP_41, hcQ_41, hcG_41, hP41⟩ := gen4 hP41
  have hS41 := hS39.join hP41
  replace hS41 : St w NoX [cR_41, cP_41, cQ_41, cG_41, c_28, c_19, c6, cR_4, cP_4, cQ_4, cG_4] w41 := hS41
  have hm41 : H_41.map ab = [] := by simp only [hH_41, hm4, hm9, hm14, hm23, hm35] <;> decide +kernel
  have hsm41 : SM (H_41.map ab) := by rw [hm41]; unfold SM; decide
  refine W_v rfl rfl (V_mov rfl (et rfl)) ?_
  refine W_v rfl rfl (V_ext (v := .agg #[hv_41, qv_41]) rfl (et rfl) rfl) ?_
  refine W_v rfl rfl (V_ext (v := .int .i64 ((alE (H_4.map ab) [1, 2] 0 16 16))) rfl (es rfl (et rfl)) rfl) ?_
  refine W_allocS (z := .agg #[.slice none 0 0, .slice none 0 0]) (zs := #[.slice none 0 0, .slice none 0 0]) hS41 rfl rfl rfl (by kernel_rfl) (by rfl) (fun g42 w42 c42 hc42 hS42 => ?_)
  replace hS42 : St w NoX [c42, cR_41, cP_41, cQ_41, cG_41, c_28, c_19, c6, cR_4, cP_4, cQ_4, cG_4] w42 := hS42
  refine W_stAS 0 hS42 rfl hc42 rfl rfl rfl (et rfl) (es rfl (es rfl (et rfl))) (by simp only [List.all_toArray, List.all_cons, List.all_nil, SlN_one (ow_at (hS42.chq 1 rfl hcR_41)), SlN_one (ow_at (hS42.chq 4 rfl hcG_41))] <;> rfl) (by rfl) (by kernel_rfl) (fun w43 c43 hc43 hS43 => ?_)
  replace hS43 : St w NoX [c43, cR_41, cP_41, cQ_41, cG_41, c_28, c_19, c6, cR_4, cP_4, cQ_4, cG_4] w43 := hS43
  refine W_v rfl rfl (V_asg rfl (es rfl (et rfl))) ?_
  refine W_end ?_
  refine gen_Q (fun A44 hA44 => ?_)
  have hsz44 : SzN A44 103 := by rw [hA44]; infer_instance
  have hdf44 : A44.defers = [] := by rw [hA44]; simp only [df_put]; exact hdf38
  have l1_44 := lookE hA44 1 (es rfl (es rfl (es rfl (es rfl (es rfl (es rfl (es rfl l1_38)))))))
  have l4_44 := lookE hA44 4 (es rfl (es rfl (es rfl (es rfl (es rfl (es rfl (es rfl l4_38)))))))
  have l5_44 := lookE hA44 5 (es rfl (es rfl (es rfl (es rfl (es rfl (es rfl (es rfl l5_38)))))))
  have l7_44 := lookE hA44 7 (es rfl (es rfl (es rfl (es rfl (es rfl (es rfl (es rfl l7_38)))))))
  have l8_44 := lookE hA44 8 (es rfl (es rfl (es rfl (es rfl (es rfl (es rfl (es rfl l8_38)))))))
  have l9_44 := lookE hA44 9 (es rfl (es rfl (es rfl (es rfl (es rfl (es rfl (es rfl l9_38)))))))
  have l11_44 := lookE hA44 11 (es rfl (es rfl (es rfl (es rfl (es rfl (es rfl (es rfl l11_38)))))))
  have l13_44 := lookE hA44 13 (es rfl (es rfl (es rfl (es rfl (es rfl (es rfl (es rfl l13_38)))))))
  have l15_44 := lookE hA44 15 (et rfl)
  clear hA44 hsz38 hdf38 l1_38 l4_38 l5_38 l7_38 l8_38 l9_38 l11_38 l13_38
  have hS45 : St w NoX [c_28, c_19, c6, cR_4, cP_4, cQ_4, cG_4] w43 := hS43.sel [5, 6, 7, 8, 9, 10, 11] (by decide) rfl
  refine then_n (hK40 _ _ ?_)
  clear hK40
  refine wp_seq_k (fun K46 hK46 => ?_)
  -- region 10
  refine region_in ?_
  refine W_r rfl rfl (VR_ldA rfl l1_44 (hS45.obj 2 rfl hc6) Try.underlying25 rfl (by kernel_rfl)) ?_
  refine W_call rfl rfl rfl Try.func28 (by kernel_rfl) rfl (args4 (et rfl) rfl rfl rfl) (kAlloc_c (a := 0) (p := (-1)) (r := 40) (hS45.chC 3 rfl hcR_4).own (nst_of (hS45.chC 4 rfl hcP_4) (hS45.chC 5 rfl hcQ_4)) (hS45.chC 6 rfl hcG_4).own (by first | with_reducible assumption)) ?_
  rintro _ w47 ⟨hv_47, H_47, qv_47, rfl, hH_47, hP47⟩
  refine ⟨_, rfl, ?_⟩
  obtain ⟨cR_47, cP_47, cQ_47, cG_47, hcR_47, hcP_47, hcQ_47, hcG_47, hP47⟩ := gen4 hP47
  have hS47 := hS45.join hP47
  replace hS47 : St w NoX [cR_47, cP_47, cQ_47, cG_47, c_28, c_19, c6, cR_4, cP_4, cQ_4, cG_4] w47 := hS47
  have hm47 : H_47.map ab = [] := by simp only [hH_47, hm4, hm9, hm14, hm23, hm35, hm41] <;> decide +kernel
  have hsm47 : SM (H_47.map ab) := by rw [hm47]; unfold SM; decide
  refine W_v rfl rfl (V_mov rfl (et rfl)) ?_
  refine W_v rfl rfl (V_ext (v := .agg #[hv_47, qv_47]) rfl (et rfl) rfl) ?_
  refine W_v rfl rfl (V_ext (v := .int .i64 ((alE (H_4.map ab) [1, 2] 0 (-1) 40))) rfl (es rfl (et rfl)) rfl) ?_
  refine W_allocS (z := .agg #[.slice none 0 0, .slice none 0 0]) (zs := #[.slice none 0 0, .slice none 0 0]) hS47 rfl rfl rfl (by kernel_rfl) (by rfl) (fun g48 w48 c48 hc48 hS48 => ?_)
  replace hS48 : St w NoX [c48, cR_47, cP_47, cQ_47, cG_47, c_28, c_19, c6, cR_4, cP_4, cQ_4, cG_4] w48 := hS48
  refine W_stAS 0 hS48 rfl hc48 rfl rfl rfl (et rfl) (es rfl (es rfl (et rfl))) (by simp only [List.all_toArray, List.all_cons, List.all_nil, SlN_one (ow_at (hS48.chq 1 rfl hcR_47)), SlN_one (ow_at (hS48.chq 4 rfl hcG_47))] <;> rfl) (by rfl) (by kernel_rfl) (fun w49 c49 hc49 hS49 => ?_)
  replace hS49 : St w NoX [c49, cR_47, cP_47, cQ_47, cG_47, c_28, c_19, c6, cR_4, cP_4, cQ_4, cG_4] w49 := hS49
  refine W_v rfl rfl (V_asg rfl (es rfl (et rfl))) ?_
  refine W_end ?_
  refine gen_Q (fun A50 hA50 => ?_)
  have hsz50 : SzN A50 103 := by rw [hA50]; infer_instance
  have hdf50 : A50.defers = [] := by rw [hA50]; simp only [df_put]; exact hdf44
  have l4_50 := lookE hA50 4 (es rfl (es rfl (es rfl (es rfl (es rfl (es rfl (es rfl l4_44)))))))
  have l5_50 := lookE hA50 5 (es rfl (es rfl (es rfl (es rfl (es rfl (es rfl (es rfl l5_44)))))))
  have l7_50 := lookE hA50 7 (es rfl (es rfl (es rfl (es rfl (es rfl (es rfl (es rfl l7_44)))))))
  have l8_50 := lookE hA50 8 (es rfl (es rfl (es rfl (es rfl (es rfl (es rfl (es rfl l8_44)))))))
  have l9_50 := lookE hA50 9 (es rfl (es rfl (es rfl (es rfl (es rfl (es rfl (es rfl l9_44)))))))
  have l11_50 := lookE hA50 11 (es rfl (es rfl (es rfl (es rfl (es rfl (es rfl (es rfl l11_44)))))))
  have l13_50 := lookE hA50 13 (es rfl (es rfl (es rfl (es rfl (es rfl (es rfl (es rfl l13_44)))))))
  have l15_50 := lookE hA50 15 (es rfl (es rfl (es rfl (es rfl (es rfl (es rfl (es rfl l15_44)))))))
  have l17_50 := lookE hA50 17 (et rfl)
  clear hA50 hsz44 hdf44 l1_44 l4_44 l5_44 l7_44 l8_44 l9_44 l11_44 l13_44 l15_44
  have hS51 : St w NoX [c_28, c_19] w49 := hS49.sel [5, 6] (by decide) rfl
  refine then_n (hK46 _ _ ?_)
  clear hK46
  refine wp_seq_k (fun K52 hK52 => ?_)
  -- region 11
  refine region_in ?_
  refine W_v rfl rfl (V_mov rfl l4_50) ?_
  refine W_v rfl rfl (V_lenS rfl (et rfl) (ow_at (hS51.chq 1 rfl hc_19)) Try.underlying23) ?_
  refine W_v rfl rfl (V_eql rfl (et rfl) rfl) ?_
  refine W_sure (c' := true) rfl rfl (V_mov rfl (et rfl)) (by (try simp only [hm4, hm9, hm14, hm23, hm35, hm41, hm47]) <;> decide +kernel) ?_
  refine W_v rfl (wanted_t rfl rfl (et rfl) (ez rfl)) (V_mov rfl (es rfl (es rfl (es rfl (es rfl l5_50))))) ?_
  refine W_v rfl (wanted_t rfl rfl (es rfl (et rfl)) (ez rfl)) (V_eql rfl (et rfl) rfl) ?_
  refine W_v rfl rfl (V_pickT rfl (es rfl (es rfl (et rfl))) (et rfl)) ?_
  refine W_sure (c' := true) rfl rfl (V_mov rfl (et rfl)) (by (try simp only [hm4, hm9, hm14, hm23, hm35, hm41, hm47]) <;> decide +kernel) ?_
  refine W_v rfl (wanted_t rfl rfl (et rfl) (ez rfl)) (V_mov rfl (es rfl (es rfl (es rfl (es rfl (es rfl (es rfl (es rfl (es rfl l7_50))))))))) ?_
  refine W_v rfl (wanted_t rfl rfl (es rfl (et rfl)) (ez rfl)) (V_eql rfl (et rfl) rfl) ?_
  refine W_v rfl rfl (V_pickT rfl (es rfl (es rfl (et rfl))) (et rfl)) ?_
  refine W_sure (c' := true) rfl rfl (V_mov rfl (et rfl)) (by (try simp only [hm4, hm9, hm14, hm23, hm35, hm41, hm47]) <;> decide +kernel) ?_
  refine W_v rfl (wanted_t rfl rfl (et rfl) (ez rfl)) (V_mov rfl (es rfl (es rfl (es rfl (es rfl (es rfl (es rfl (es rfl (es rfl (es rfl (es rfl (es rfl (es rfl l8_50))))))))))))) ?_
  have hll53 : [1, 2].length = 2 := rfl
  refine W_litS (vs := [.int .i64 1, .int .i64 2]) (xs := ([1, 2].map (Value.int .i64))) 1 hS51 rfl (wanted_t rfl rfl (es rfl (et rfl)) (ez rfl)) rfl (parts2 rfl rfl) rfl Try.underlying23 (by kernel_rfl) (by decide) (by intro v hv; simp only [List.mem_cons, List.not_mem_nil, or_false] at hv; rcases hv with rfl | rfl <;> rfl) (by rfl) (fun g53 w53 c53 hc53 hS53 => ?_)
  replace hc53 : c53 = io .i64 (.slice (some ⟨g53, 0, none⟩) 2 2) [1, 2] := hc53
  replace hS53 : St w NoX [c53, c_28, c_19] w53 := hS53
  refine W_call rfl (wanted_t rfl rfl (es rfl (es rfl (et rfl))) (ez rfl)) rfl Try.func21 (by kernel_rfl) rfl (args2 (es rfl (et rfl)) (et rfl)) (qInts_c (hS53.chC 1 rfl hc_28).own (hS53.chC 0 rfl hc53).own ) ?_
  rintro _ w54 ⟨rfl, hP54⟩
  refine ⟨_, rfl, ?_⟩
  have hS54 := hS53.join hP54
  replace hS54 : St w NoX [c53, c_28, c_19] w54 := hS54
  refine W_v rfl rfl (V_pickT rfl (es rfl (es rfl (es rfl (et rfl)))) (et rfl)) ?_
  refine W_sure (c' := true) rfl rfl (V_mov rfl (et rfl)) (by (try simp only [hm4, hm9, hm14, hm23, hm35, hm41, hm47]) <;> decide +kernel) ?_
  refine W_v rfl (wanted_t rfl rfl (et rfl) (ez rfl)) (V_mov rfl (es rfl (es rfl (es rfl (es rfl (es rfl (es rfl (es rfl (es rfl (es rfl (es rfl (es rfl (es rfl (es rfl (es rfl (es rfl (es rfl (es rfl l9_50)))))))))))))))))) ?_
  refine W_v rfl (wanted_t rfl rfl (es rfl (et rfl)) (ez rfl)) (V_eql rfl (et rfl) rfl) ?_
  refine W_v rfl rfl (V_pickT rfl (es rfl (es rfl (et rfl))) (et rfl)) ?_
  refine W_sure (c' := true) rfl rfl (V_mov rfl (et rfl)) (by (try simp only [hm4, hm9, hm14, hm23, hm35, hm41, hm47]) <;> decide +kernel) ?_
  refine W_v rfl (wanted_t rfl rfl (et rfl) (ez rfl)) (V_mov rfl (es rfl (es rfl (es rfl (es rfl (es rfl (es rfl (es rfl (es rfl (es rfl (es rfl (es rfl (es rfl (es rfl (es rfl (es rfl (es rfl (es rfl (es rfl (es rfl (es rfl (es rfl l11_50)))))))))))))))))))))) ?_
  refine W_v rfl (wanted_t rfl rfl (es rfl (et rfl)) (ez rfl)) (V_eql rfl (et rfl) rfl) ?_
  refine W_v rfl rfl (V_pickT rfl (es rfl (es rfl (et rfl))) (et rfl)) ?_
  refine W_sure (c' := true) rfl rfl (V_mov rfl (et rfl)) (by (try simp only [hm4, hm9, hm14, hm23, hm35, hm41, hm47]) <;> decide +kernel) ?_
  refine W_v rfl (wanted_t rfl rfl (et rfl) (ez rfl)) (V_mov rfl (es rfl (es rfl (es rfl (es rfl (es rfl (es rfl (es rfl (es rfl (es rfl (es rfl (es rfl (es rfl (es rfl (es rfl (es rfl (es rfl (es rfl (es rfl (es rfl (es rfl (es rfl (es rfl (es rfl (es rfl (es rfl l13_50)))))))))))))))))))))))))) ?_
  refine W_v rfl (wanted_t rfl rfl (es rfl (et rfl)) (ez rfl)) (V_eql rfl (et rfl) rfl) ?_
  refine W_v rfl rfl (V_pickT rfl (es rfl (es rfl (et rfl))) (et rfl)) ?_
  refine W_sure (c' := true) rfl rfl (V_mov rfl (et rfl)) (by (try simp only [hm4, hm9, hm14, hm23, hm35, hm41, hm47]) <;> decide +kernel) ?_
  refine W_v rfl (wanted_t rfl rfl (et rfl) (ez rfl)) (V_mov rfl (es rfl (es rfl (es rfl (es rfl (es rfl (es rfl (es rfl (es rfl (es rfl (es rfl (es rfl (es rfl (es rfl (es rfl (es rfl (es rfl (es rfl (es rfl (es rfl (es rfl (es rfl (es rfl (es rfl (es rfl (es rfl (es rfl (es rfl (es rfl (es rfl l15_50)))))))))))))))))))))))))))))) ?_
  refine W_v rfl (wanted_t rfl rfl (es rfl (et rfl)) (ez rfl)) (V_eql rfl (et rfl) rfl) ?_
  refine W_v rfl rfl (V_pickT rfl (es rfl (es rfl (et rfl))) (et rfl)) ?_
  refine W_sure (c' := true) rfl rfl (V_mov rfl (et rfl)) (by (try simp only [hm4, hm9, hm14, hm23, hm35, hm41, hm47]) <;> decide +kernel) ?_
  refine W_v rfl (wanted_t rfl rfl (et rfl) (ez rfl)) (V_mov rfl (es rfl (es rfl (es rfl (es rfl (es rfl (es rfl (es rfl (es rfl (es rfl (es rfl (es rfl (es rfl (es rfl (es rfl (es rfl (es rfl (es rfl (es rfl (es rfl (es rfl (es rfl (es rfl (es rfl (es rfl (es rfl (es rfl (es rfl (es rfl (es rfl (es rfl (es rfl (es rfl (es rfl l17_50)))))))))))))))))))))))))))))))))) ?_
  refine W_v rfl (wanted_t rfl rfl (es rfl (et rfl)) (ez rfl)) (V_eql rfl (et rfl) rfl) ?_
  refine W_v rfl rfl (V_pickT rfl (es rfl (es rfl (et rfl))) (et rfl)) ?_
  refine W_sure (c' := true) rfl rfl (V_mov rfl (et rfl)) (by (try simp only [hm4, hm9, hm14, hm23, hm35, hm41, hm47]) <;> decide +kernel) ?_
  refine W_call rfl (wanted_t rfl rfl (et rfl) (ez rfl)) rfl Try.func11 (by kernel_rfl) rfl (args0) (shown_c  ) ?_
  rintro _ w55 ⟨rfl, hP55⟩
  refine ⟨_, rfl, ?_⟩
  have hS55 := hS54.join hP55
  replace hS55 : St w NoX [c53, c_28, c_19] w55 := hS55
  refine W_v rfl rfl (V_pickT rfl (es rfl (et rfl)) (et rfl)) ?_
  refine W_v rfl rfl (V_asg rfl (et rfl)) ?_
  refine W_end ?_
  refine gen_Q (fun A56 hA56 => ?_)
  have hsz56 : SzN A56 103 := by rw [hA56]; infer_instance
  have hdf56 : A56.defers = [] := by rw [hA56]; simp only [df_put]; exact hdf50
  have l0_56 := lookE hA56 0 (et rfl)
  clear hA56 hsz50 hdf50 l4_50 l5_50 l7_50 l8_50 l9_50 l11_50 l13_50 l15_50 l17_50
  have hS57 : St w NoX [] w55 := hS55.sel [] (by decide) rfl
  refine then_n (hK52 _ _ ?_)
  clear hK52
  refine wp_ret ?_
  refine ret_in (results_1 Try.results5 (rv_tmp l0_56)) hdf56 ?_
  -- leaf 
  exact ⟨rfl, hS57.fin0⟩

end Go.Proofs.Ytdilbnmaihmgnaa