import Derived.Test.YtodbfgfbkgpooaaDoorProg
import Derived.Test.YtodbfgfbkgpooaaDoorRa6
namespace Go.Proofs.YtodbfgfbkgpooaaDoor
open Go.RowKit Go.Own


set_option maxHeartbeats 4000000 in
theorem smp_c  {w : World}   :
    Calls Tryd.prog 37 #[] w fun e w' => ∃ v1 v2, e = .returned (.agg #[v1, v2]) ∧ St w NoX [io .i64 (v1) [3, 1], io .i64 (v2) [5, 0]] w' := by
  refine calls_in 4 Tryd.func37 rfl rfl (by simp) (fun A0 hsz0 hdf0 hargs => ?_)
  clear hargs; replace hsz0 : SzN A0 4 := ⟨hsz0⟩
  have hS := St.nil w
  refine wp_seq_k (fun K1 hK1 => ?_)
  -- region 0
  refine region_in ?_
  refine W_allocS (z := .agg #[.slice none 0 0, .slice none 0 0]) (zs := #[.slice none 0 0, .slice none 0 0]) hS rfl rfl rfl (by kernel_rfl) (by rfl) (fun g2 w2 c2 hc2 hS2 => ?_)
  replace hS2 : St w NoX [c2] w2 := hS2
  refine W_end ?_
  refine gen_Q (fun A3 hA3 => ?_)
  have hsz3 : SzN A3 4 := by rw [hA3]; infer_instance
  have hdf3 : A3.defers = [] := by rw [hA3]; simp only [df_put]; exact hdf0
  have l0_3 := lookE hA3 0 (et rfl)
  clear hA3 hsz0 hdf0
  refine then_n (hK1 _ _ ?_)
  clear hK1
  refine wp_seq_k (fun K4 hK4 => ?_)
  -- region 1
  refine region_in ?_
  have hll5 : [3, 1].length = 2 := rfl
  refine W_litS (vs := [.int .i64 3, .int .i64 1]) (xs := ([3, 1].map (Value.int .i64))) 1 hS2 rfl rfl rfl (parts2 rfl rfl) rfl Tryd.underlying22 (by kernel_rfl) (by decide) (by intro v hv; simp only [List.mem_cons, List.not_mem_nil, or_false] at hv; rcases hv with rfl | rfl <;> rfl) (by rfl) (fun g5 w5 c5 hc5 hS5 => ?_)
  replace hc5 : c5 = io .i64 (.slice (some ⟨g5, 0, none⟩) 2 2) [3, 1] := hc5
  replace hS5 : St w NoX [c5, c2] w5 := hS5
  have hll6 : [5, 0].length = 2 := rfl
  refine W_litS (vs := [.int .i64 5, .int .i64 0]) (xs := ([5, 0].map (Value.int .i64))) 1 hS5 rfl rfl rfl (parts2 rfl rfl) rfl Tryd.underlying22 (by kernel_rfl) (by decide) (by intro v hv; simp only [List.mem_cons, List.not_mem_nil, or_false] at hv; rcases hv with rfl | rfl <;> rfl) (by rfl) (fun g6 w6 c6 hc6 hS6 => ?_)
  replace hc6 : c6 = io .i64 (.slice (some ⟨g6, 0, none⟩) 2 2) [5, 0] := hc6
  replace hS6 : St w NoX [c6, c5, c2] w6 := hS6
  refine W_v rfl rfl (V_bldS (n := 2) (z := .agg #[.slice none 0 0, .slice none 0 0]) rfl (parts2 (es rfl (et rfl)) (et rfl)) (by kernel_rfl) (by simp only [List.all_cons, List.all_nil, SlN_one (ow_at (hS6.chq 1 rfl hc5)), SlN_one (ow_at (hS6.chq 0 rfl hc6)), Bool.and_true] <;> rfl) (by kernel_rfl) (by simp only [List.foldl_cons, List.foldl_nil, Value.cells, List.setIfInBounds_toArray, List.set_cons_succ, List.set_cons_zero] <;> rfl)) ?_
  refine W_stAS 2 hS6 rfl hc2 rfl rfl rfl (es rfl (es rfl (es rfl l0_3))) (et rfl) (by simp only [List.all_toArray, List.all_cons, List.all_nil, SlN_one (ow_at (hS6.chq 1 rfl hc5)), SlN_one (ow_at (hS6.chq 0 rfl hc6))] <;> rfl) (by rfl) (by kernel_rfl) (fun w7 c7 hc7 hS7 => ?_)
  replace hS7 : St w NoX [c6, c5, c7] w7 := hS7
  refine W_end ?_
  refine gen_Q (fun A8 hA8 => ?_)
  have hsz8 : SzN A8 4 := by rw [hA8]; infer_instance
  have hdf8 : A8.defers = [] := by rw [hA8]; simp only [df_put]; exact hdf3
  have l0_8 := lookE hA8 0 (es rfl (es rfl (es rfl l0_3)))
  clear hA8 hsz3 hdf3 l0_3
  refine then_n (hK4 _ _ ?_)
  clear hK4
  refine wp_ret ?_
  refine ret_in (results_1 Tryd.results37 (rv_cellA l0_8 (hS7.obj 2 rfl hc7) Tryd.underlying24 rfl (by kernel_rfl))) hdf8 ?_
  -- leaf 
  exact ⟨_, _, rfl, (hS7.fin2 1 rfl (hc5) 0 rfl (hc6) (by decide))⟩

set_option maxHeartbeats 4000000 in
theorem awk_c {gT0 : Nat} {w : World} (hG0 : Ro w NoX (bx 0 gT0 #[.int .i64 (-1), .int .i64 (-1)]))  :
    Calls Tryd.prog 12 #[] w fun e w' => e = .returned (.bool true) ∧ St w NoX [] w' := by
  refine calls_in 164 Tryd.func12 rfl rfl (by simp) (fun A0 hsz0 hdf0 hargs => ?_)
  clear hargs; replace hsz0 : SzN A0 164 := ⟨hsz0⟩
  have hS := St.nil w
  refine wp_seq_k (fun K1 hK1 => ?_)
  -- region 0
  refine region_in ?_
  refine W_v rfl rfl (V_asg rfl rfl) ?_
  refine W_end ?_
  refine gen_Q (fun A2 hA2 => ?_)
  have hsz2 : SzN A2 164 := by rw [hA2]; infer_instance
  have hdf2 : A2.defers = [] := by rw [hA2]; simp only [df_put]; exact hdf0
  clear hA2 hsz0 hdf0
  refine then_n (hK1 _ _ ?_)
  clear hK1
  refine wp_seq_k (fun K3 hK3 => ?_)
  -- region 1
  refine region_in ?_
  refine W_call rfl rfl rfl Tryd.func37 (by kernel_rfl) rfl (args0) (smp_c  ) ?_
  rintro _ w4 ⟨v1_4, v2_4, rfl, hP4⟩
  refine ⟨_, rfl, ?_⟩
  obtain ⟨c1_4, c2_4, hc1_4, hc2_4, hP4⟩ := gen2 hP4
  have hS4 := hS.join hP4
  replace hS4 : St w NoX [c1_4, c2_4] w4 := hS4
  refine W_allocS (z := .agg #[.slice none 0 0, .slice none 0 0]) (zs := #[.slice none 0 0, .slice none 0 0]) hS4 rfl rfl rfl (by kernel_rfl) (by rfl) (fun g5 w5 c5 hc5 hS5 => ?_)
  replace hS5 : St w NoX [c5, c1_4, c2_4] w5 := hS5
  refine W_stAS 0 hS5 rfl hc5 rfl rfl rfl (et rfl) (es rfl (et rfl)) (by simp only [List.all_toArray, List.all_cons, List.all_nil, SlN_one (ow_at (hS5.chq 1 rfl hc1_4)), SlN_one (ow_at (hS5.chq 2 rfl hc2_4))] <;> rfl) (by rfl) (by kernel_rfl) (fun w6 c6 hc6 hS6 => ?_)
  replace hS6 : St w NoX [c6, c1_4, c2_4] w6 := hS6
  refine W_end ?_
  refine gen_Q (fun A7 hA7 => ?_)
  have hsz7 : SzN A7 164 := by rw [hA7]; infer_instance
  have hdf7 : A7.defers = [] := by rw [hA7]; simp only [df_put]; exact hdf2
  have l1_7 := lookE hA7 1 (et rfl)
  clear hA7 hsz2 hdf2
  refine then_n (hK3 _ _ ?_)
  clear hK3
  refine wp_seq_k (fun K8 hK8 => ?_)
  -- region 2
  refine region_in ?_
  refine W_r rfl rfl (VR_ldA rfl l1_7 (hS6.obj 0 rfl hc6) Tryd.underlying24 rfl (by kernel_rfl)) ?_
  refine W_call rfl rfl rfl Tryd.func31 (by kernel_rfl) rfl (args2 (et rfl) rfl) (kOf_c (c := 1) (hS6.chC 1 rfl hc1_4).own (hS6.chC 2 rfl hc2_4).own (hS6.roC hG0) ) ?_
  rintro _ w9 ⟨rfl, hP9⟩
  refine ⟨_, rfl, ?_⟩
  have hS9 := hS6.join hP9
  replace hS9 : St w NoX [c6, c1_4, c2_4] w9 := hS9
  refine W_v rfl rfl (V_mov rfl (et rfl)) ?_
  refine W_v rfl rfl (V_ext (v := .agg #[.int .i64 ((rkR [3, 1] [5, 0] 1).1), .int .i64 ((rkR [3, 1] [5, 0] 1).2)]) rfl (et rfl) rfl) ?_
  refine W_v rfl rfl (V_ext (v := .int .i64 ((rkE [3, 1] [5, 0] 1))) rfl (es rfl (et rfl)) rfl) ?_
  refine W_allocS (z := .agg #[.int .i64 0, .int .i64 0]) (zs := #[.int .i64 0, .int .i64 0]) hS9 rfl rfl rfl (by kernel_rfl) (by rfl) (fun g10 w10 c10 hc10 hS10 => ?_)
  replace hS10 : St w NoX [c10, c6, c1_4, c2_4] w10 := hS10
  refine W_stAS 0 hS10 rfl hc10 rfl rfl rfl (et rfl) (es rfl (es rfl (et rfl))) (by first | (rw [List.all_toArray] <;> rfl) | (simp only [List.all_toArray, List.all_cons, List.all_nil] <;> rfl)) (by rfl) (by kernel_rfl) (fun w11 c11 hc11 hS11 => ?_)
  replace hS11 : St w NoX [c11, c6, c1_4, c2_4] w11 := hS11
  refine W_v rfl rfl (V_asg rfl (es rfl (et rfl))) ?_
  refine W_end ?_
  refine gen_Q (fun A12 hA12 => ?_)
  have hsz12 : SzN A12 164 := by rw [hA12]; infer_instance
  have hdf12 : A12.defers = [] := by rw [hA12]; simp only [df_put]; exact hdf7
  have l1_12 := lookE hA12 1 (es rfl (es rfl (es rfl (es rfl (es rfl (es rfl (es rfl l1_7)))))))
  have l2_12 := lookE hA12 2 (es rfl (et rfl))
  have l3_12 := lookE hA12 3 (et rfl)
  clear hA12 hsz7 hdf7 l1_7
  refine then_n (hK8 _ _ ?_)
  clear hK8
  refine wp_seq_k (fun K13 hK13 => ?_)
  -- region 3
  refine region_in ?_
  refine W_r rfl rfl (VR_ldA rfl l1_12 (hS11.obj 1 rfl hc6) Tryd.underlying24 rfl (by kernel_rfl)) ?_
  refine W_call rfl rfl rfl Tryd.func31 (by kernel_rfl) rfl (args2 (et rfl) rfl) (kOf_c (c := 9) (hS11.chC 2 rfl hc1_4).own (hS11.chC 3 rfl hc2_4).own (hS11.roC hG0) ) ?_
  rintro _ w14 ⟨rfl, hP14⟩
  refine ⟨_, rfl, ?_⟩
  have hS14 := hS11.join hP14
  replace hS14 : St w NoX [c11, c6, c1_4, c2_4] w14 := hS14
  refine W_v rfl rfl (V_mov rfl (et rfl)) ?_
  refine W_v rfl rfl (V_ext (v := .agg #[.int .i64 ((rkR [3, 1] [5, 0] 9).1), .int .i64 ((rkR [3, 1] [5, 0] 9).2)]) rfl (et rfl) rfl) ?_
  refine W_v rfl rfl (V_ext (v := .int .i64 ((rkE [3, 1] [5, 0] 9))) rfl (es rfl (et rfl)) rfl) ?_
  refine W_allocS (z := .agg #[.int .i64 0, .int .i64 0]) (zs := #[.int .i64 0, .int .i64 0]) hS14 rfl rfl rfl (by kernel_rfl) (by rfl) (fun g15 w15 c15 hc15 hS15 => ?_)
  replace hS15 : St w NoX [c15, c11, c6, c1_4, c2_4] w15 := hS15
  refine W_stAS 0 hS15 rfl hc15 rfl rfl rfl (et rfl) (es rfl (es rfl (et rfl))) (by first | (rw [List.all_toArray] <;> rfl) | (simp only [List.all_toArray, List.all_cons, List.all_nil] <;> rfl)) (by rfl) (by kernel_rfl) (fun w16 c16 hc16 hS16 => ?_)
  replace hS16 : St w NoX [c16, c11, c6, c1_4, c2_4] w16 := hS16
  refine W_v rfl rfl (V_asg rfl (es rfl (et rfl))) ?_
  refine W_end ?_
  refine gen_Q (fun A17 hA17 => ?_)
  have hsz17 : SzN A17 164 := by rw [hA17]; infer_instance
  have hdf17 : A17.defers = [] := by rw [hA17]; simp only [df_put]; exact hdf12
  have l1_17 := lookE hA17 1 (es rfl (es rfl (es rfl (es rfl (es rfl (es rfl (es rfl l1_12)))))))
  have l2_17 := lookE hA17 2 (es rfl (es rfl (es rfl (es rfl (es rfl (es rfl (es rfl l2_12)))))))
  have l3_17 := lookE hA17 3 (es rfl (es rfl (es rfl (es rfl (es rfl (es rfl (es rfl l3_12)))))))
  have l4_17 := lookE hA17 4 (es rfl (et rfl))
  have l5_17 := lookE hA17 5 (et rfl)
  clear hA17 hsz12 hdf12 l1_12 l2_12 l3_12
  refine then_n (hK13 _ _ ?_)
  clear hK13
  refine wp_seq_k (fun K18 hK18 => ?_)
  -- region 4
  refine region_in ?_
  refine W_r rfl rfl (VR_ldA rfl l1_17 (hS16.obj 2 rfl hc6) Tryd.underlying24 rfl (by kernel_rfl)) ?_
  refine W_call rfl rfl rfl Tryd.func26 (by kernel_rfl) rfl (args1 (et rfl)) (kOrd_c (hS16.chC 3 rfl hc1_4).own (hS16.chC 4 rfl hc2_4).own (hS16.roC hG0) ) ?_
  rintro _ w19 ⟨v_19, rfl, hP19⟩
  refine ⟨_, rfl, ?_⟩
  obtain ⟨c_19, hc_19, hP19⟩ := gen1 hP19
  have hS19 := hS16.join hP19
  replace hS19 : St w NoX [c_19, c16, c11, c6, c1_4, c2_4] w19 := hS19
  refine W_v rfl rfl (V_mov rfl (et rfl)) ?_
  refine W_v rfl rfl (V_ext (v := v_19) rfl (et rfl) rfl) ?_
  refine W_v rfl rfl (V_ext (v := .int .i64 ((chk [3, 1] [5, 0]).2.2)) rfl (es rfl (et rfl)) rfl) ?_
  refine W_v rfl rfl (V_asg rfl (es rfl (et rfl))) ?_
  refine W_v rfl rfl (V_asg rfl (es rfl (et rfl))) ?_
  refine W_end ?_
  refine gen_Q (fun A20 hA20 => ?_)
  have hsz20 : SzN A20 164 := by rw [hA20]; infer_instance
  have hdf20 : A20.defers = [] := by rw [hA20]; simp only [df_put]; exact hdf17
  have l1_20 := lookE hA20 1 (es rfl (es rfl (es rfl (es rfl (es rfl (es rfl (es rfl l1_17)))))))
  have l2_20 := lookE hA20 2 (es rfl (es rfl (es rfl (es rfl (es rfl (es rfl (es rfl l2_17)))))))
  have l3_20 := lookE hA20 3 (es rfl (es rfl (es rfl (es rfl (es rfl (es rfl (es rfl l3_17)))))))
  have l4_20 := lookE hA20 4 (es rfl (es rfl (es rfl (es rfl (es rfl (es rfl (es rfl l4_17)))))))
  have l5_20 := lookE hA20 5 (es rfl (es rfl (es rfl (es rfl (es rfl (es rfl (es rfl l5_17)))))))
  have l6_20 := lookE hA20 6 (es rfl (et rfl))
  have l7_20 := lookE hA20 7 (et rfl)
  clear hA20 hsz17 hdf17 l1_17 l2_17 l3_17 l4_17 l5_17
  refine then_n (hK18 _ _ ?_)
  clear hK18
  refine wp_seq_k (fun K21 hK21 => ?_)
  -- region 5
  refine region_in ?_
  refine W_r rfl rfl (VR_ldA rfl l1_20 (hS19.obj 3 rfl hc6) Tryd.underlying24 rfl (by kernel_rfl)) ?_
  refine W_call rfl rfl rfl Tryd.func13 (by kernel_rfl) rfl (args3 (et rfl) rfl rfl) (kCmp_c (a := 5) (b := 1) (hS19.chC 4 rfl hc1_4).own (hS19.chC 5 rfl hc2_4).own (hS19.roC hG0) ) ?_
  rintro _ w22 ⟨rfl, hP22⟩
  refine ⟨_, rfl, ?_⟩
  have hS22 := hS19.join hP22
  replace hS22 : St w NoX [c_19, c16, c11, c6, c1_4, c2_4] w22 := hS22
  refine W_v rfl rfl (V_mov rfl (et rfl)) ?_
  refine W_v rfl rfl (V_ext (v := .int .i64 ((cmN [3, 1] [5, 0] 5 1))) rfl (et rfl) rfl) ?_
  refine W_v rfl rfl (V_ext (v := .int .i64 ((cmE [3, 1] [5, 0] 5 1))) rfl (es rfl (et rfl)) rfl) ?_
  refine W_v rfl rfl (V_asg rfl (es rfl (et rfl))) ?_
  refine W_v rfl rfl (V_asg rfl (es rfl (et rfl))) ?_
  refine W_end ?_
  refine gen_Q (fun A23 hA23 => ?_)
  have hsz23 : SzN A23 164 := by rw [hA23]; infer_instance
  have hdf23 : A23.defers = [] := by rw [hA23]; simp only [df_put]; exact hdf20
  have l1_23 := lookE hA23 1 (es rfl (es rfl (es rfl (es rfl (es rfl (es rfl (es rfl l1_20)))))))
  have l2_23 := lookE hA23 2 (es rfl (es rfl (es rfl (es rfl (es rfl (es rfl (es rfl l2_20)))))))
  have l3_23 := lookE hA23 3 (es rfl (es rfl (es rfl (es rfl (es rfl (es rfl (es rfl l3_20)))))))
  have l4_23 := lookE hA23 4 (es rfl (es rfl (es rfl (es rfl (es rfl (es rfl (es rfl l4_20)))))))
  have l5_23 := lookE hA23 5 (es rfl (es rfl (es rfl (es rfl (es rfl (es rfl (es rfl l5_20)))))))
  have l6_23 := lookE hA23 6 (es rfl (es rfl (es rfl (es rfl (es rfl (es rfl (es rfl l6_20)))))))
  have l7_23 := lookE hA23 7 (es rfl (es rfl (es rfl (es rfl (es rfl (es rfl (es rfl l7_20)))))))
  have l8_23 := lookE hA23 8 (es rfl (et rfl))
  have l9_23 := lookE hA23 9 (et rfl)
  clear hA23 hsz20 hdf20 l1_20 l2_20 l3_20 l4_20 l5_20 l6_20 l7_20
  refine then_n (hK21 _ _ ?_)
  clear hK21
  refine wp_seq_k (fun K24 hK24 => ?_)
  -- region 6
  refine region_in ?_
  refine W_r rfl rfl (VR_ldA rfl l1_23 (hS22.obj 3 rfl hc6) Tryd.underlying24 rfl (by kernel_rfl)) ?_
  refine W_call rfl rfl rfl Tryd.func15 (by kernel_rfl) rfl (args2 (et rfl) rfl) (kOld_c (c := 5) (hS22.chC 4 rfl hc1_4).own (hS22.chC 5 rfl hc2_4).own (hS22.roC hG0) ) ?_
  rintro _ w25 ⟨v_25, rfl, hP25⟩
  refine ⟨_, rfl, ?_⟩
  obtain ⟨c_25, hc_25, hP25⟩ := gen1 hP25
  have hS25 := hS22.join hP25
  replace hS25 : St w NoX [c_25, c_19, c16, c11, c6, c1_4, c2_4] w25 := hS25
  refine W_v rfl rfl (V_mov rfl (et rfl)) ?_
  refine W_v rfl rfl (V_ext (v := v_25) rfl (et rfl) rfl) ?_
  refine W_v rfl rfl (V_ext (v := .int .i64 ((plE [3, 1] [5, 0] 5))) rfl (es rfl (et rfl)) rfl) ?_
  refine W_v rfl rfl (V_asg rfl (es rfl (et rfl))) ?_
  refine W_v rfl rfl (V_asg rfl (es rfl (et rfl))) ?_
  refine W_end ?_
  refine gen_Q (fun A26 hA26 => ?_)
  have hsz26 : SzN A26 164 := by rw [hA26]; infer_instance
  have hdf26 : A26.defers = [] := by rw [hA26]; simp only [df_put]; exact hdf23
  have l1_26 := lookE hA26 1 (es rfl (es rfl (es rfl (es rfl (es rfl (es rfl (es rfl l1_23)))))))
  have l2_26 := lookE hA26 2 (es rfl (es rfl (es rfl (es rfl (es rfl (es rfl (es rfl l2_23)))))))
  have l3_26 := lookE hA26 3 (es rfl (es rfl (es rfl (es rfl (es rfl (es rfl (es rfl l3_23)))))))
  have l4_26 := lookE hA26 4 (es rfl (es rfl (es rfl (es rfl (es rfl (es rfl (es rfl l4_23)))))))
  have l5_26 := lookE hA26 5 (es rfl (es rfl (es rfl (es rfl (es rfl (es rfl (es rfl l5_23)))))))
  have l6_26 := lookE hA26 6 (es rfl (es rfl (es rfl (es rfl (es rfl (es rfl (es rfl l6_23)))))))
  have l7_26 := lookE hA26 7 (es rfl (es rfl (es rfl (es rfl (es rfl (es rfl (es rfl l7_23)))))))
  have l8_26 := lookE hA26 8 (es rfl (es rfl (es rfl (es rfl (es rfl (es rfl (es rfl l8_23)))))))
  have l9_26 := lookE hA26 9 (es rfl (es rfl (es rfl (es rfl (es rfl (es rfl (es rfl l9_23)))))))
  have l10_26 := lookE hA26 10 (es rfl (et rfl))
  have l11_26 := lookE hA26 11 (et rfl)
  clear hA26 hsz23 hdf23 l1_23 l2_23 l3_23 l4_23 l5_23 l6_23 l7_23 l8_23 l9_23
  refine then_n (hK24 _ _ ?_)
  clear hK24
  refine wp_seq_k (fun K27 hK27 => ?_)
  -- region 7
  refine region_in ?_
  refine W_r rfl rfl (VR_ldA rfl l1_26 (hS25.obj 4 rfl hc6) Tryd.underlying24 rfl (by kernel_rfl)) ?_
  refine W_call rfl rfl rfl Tryd.func18 (by kernel_rfl) rfl (args2 (et rfl) rfl) (kWt_c (c := 0) (hS25.chC 5 rfl hc1_4).own (hS25.chC 6 rfl hc2_4).own (hS25.roC hG0) ) ?_
  rintro _ w28 ⟨rfl, hP28⟩
  refine ⟨_, rfl, ?_⟩
  have hS28 := hS25.join hP28
  replace hS28 : St w NoX [c_25, c_19, c16, c11, c6, c1_4, c2_4] w28 := hS28
  refine W_v rfl rfl (V_mov rfl (et rfl)) ?_
  refine W_v rfl rfl (V_ext (v := .int .i64 ((plN [3, 1] [5, 0] 0))) rfl (et rfl) rfl) ?_
  refine W_v rfl rfl (V_ext (v := .int .i64 ((plE [3, 1] [5, 0] 0))) rfl (es rfl (et rfl)) rfl) ?_
  refine W_v rfl rfl (V_asg rfl (es rfl (et rfl))) ?_
  refine W_v rfl rfl (V_asg rfl (es rfl (et rfl))) ?_
  refine W_end ?_
  refine gen_Q (fun A29 hA29 => ?_)
  have hsz29 : SzN A29 164 := by rw [hA29]; infer_instance
  have hdf29 : A29.defers = [] := by rw [hA29]; simp only [df_put]; exact hdf26
  have l1_29 := lookE hA29 1 (es rfl (es rfl (es rfl (es rfl (es rfl (es rfl (es rfl l1_26)))))))
  have l2_29 := lookE hA29 2 (es rfl (es rfl (es rfl (es rfl (es rfl (es rfl (es rfl l2_26)))))))
  have l3_29 := lookE hA29 3 (es rfl (es rfl (es rfl (es rfl (es rfl (es rfl (es rfl l3_26)))))))
  have l4_29 := lookE hA29 4 (es rfl (es rfl (es rfl (es rfl (es rfl (es rfl (es rfl l4_26)))))))
  have l5_29 := lookE hA29 5 (es rfl (es rfl (es rfl (es rfl (es rfl (es rfl (es rfl l5_26)))))))
  have l6_29 := lookE hA29 6 (es rfl (es rfl (es rfl (es rfl (es rfl (es rfl (es rfl l6_26)))))))
  have l7_29 := lookE hA29 7 (es rfl (es rfl (es rfl (es rfl (es rfl (es rfl (es rfl l7_26)))))))
  have l8_29 := lookE hA29 8 (es rfl (es rfl (es rfl (es rfl (es rfl (es rfl (es rfl l8_26)))))))
  have l9_29 := lookE hA29 9 (es rfl (es rfl (es rfl (es rfl (es rfl (es rfl (es rfl l9_26)))))))
  have l10_29 := lookE hA29 10 (es rfl (es rfl (es rfl (es rfl (es rfl (es rfl (es rfl l10_26)))))))
  have l11_29 := lookE hA29 11 (es rfl (es rfl (es rfl (es rfl (es rfl (es rfl (es rfl l11_26)))))))
  have l12_29 := lookE hA29 12 (es rfl (et rfl))
  have l13_29 := lookE hA29 13 (et rfl)
  clear hA29 hsz26 hdf26 l1_26 l2_26 l3_26 l4_26 l5_26 l6_26 l7_26 l8_26 l9_26 l10_26 l11_26
  refine then_n (hK27 _ _ ?_)
  clear hK27
  refine wp_seq_k (fun K30 hK30 => ?_)
  -- region 8
  refine region_in ?_
  refine W_r rfl rfl (VR_ldA rfl l1_29 (hS28.obj 4 rfl hc6) Tryd.underlying24 rfl (by kernel_rfl)) ?_
  refine W_call rfl rfl rfl Tryd.func20 (by kernel_rfl) rfl (args3 (et rfl) rfl rfl) (kExt_c (a := 5) (b := 3) (hS28.chC 5 rfl hc1_4).own (hS28.chC 6 rfl hc2_4).own (hS28.roC hG0) ) ?_
  rintro _ w31 ⟨rfl, hP31⟩
  refine ⟨_, rfl, ?_⟩
  have hS31 := hS28.join hP31
  replace hS31 : St w NoX [c_25, c_19, c16, c11, c6, c1_4, c2_4] w31 := hS31
  refine W_v rfl rfl (V_mov rfl (et rfl)) ?_
  refine W_v rfl rfl (V_ext (v := .bool ((exB [3, 1] [5, 0] 5 3))) rfl (et rfl) rfl) ?_
  refine W_v rfl rfl (V_ext (v := .int .i64 ((exE [3, 1] [5, 0] 5 3))) rfl (es rfl (et rfl)) rfl) ?_
  refine W_v rfl rfl (V_asg rfl (es rfl (et rfl))) ?_
  refine W_v rfl rfl (V_asg rfl (es rfl (et rfl))) ?_
  refine W_end ?_
  refine gen_Q (fun A32 hA32 => ?_)
  have hsz32 : SzN A32 164 := by rw [hA32]; infer_instance
  have hdf32 : A32.defers = [] := by rw [hA32]; simp only [df_put]; exact hdf29
  have l1_32 := lookE hA32 1 (es rfl (es rfl (es rfl (es rfl (es rfl (es rfl (es rfl l1_29)))))))
  have l2_32 := lookE hA32 2 (es rfl (es rfl (es rfl (es rfl (es rfl (es rfl (es rfl l2_29)))))))
  have l3_32 := lookE hA32 3 (es rfl (es rfl (es rfl (es rfl (es rfl (es rfl (es rfl l3_29)))))))
  have l4_32 := lookE hA32 4 (es rfl (es rfl (es rfl (es rfl (es rfl (es rfl (es rfl l4_29)))))))
  have l5_32 := lookE hA32 5 (es rfl (es rfl (es rfl (es rfl (es rfl (es rfl (es rfl l5_29)))))))
  have l6_32 := lookE hA32 6 (es rfl (es rfl (es rfl (es rfl (es rfl (es rfl (es rfl l6_29)))))))
  have l7_32 := lookE hA32 7 (es rfl (es rfl (es rfl (es rfl (es rfl (es rfl (es rfl l7_29)))))))
  have l8_32 := lookE hA32 8 (es rfl (es rfl (es rfl (es rfl (es rfl (es rfl (es rfl l8_29)))))))
  have l9_32 := lookE hA32 9 (es rfl (es rfl (es rfl (es rfl (es rfl (es rfl (es rfl l9_29)))))))
  have l10_32 := lookE hA32 10 (es rfl (es rfl (es rfl (es rfl (es rfl (es rfl (es rfl l10_29)))))))
  have l11_32 := lookE hA32 11 (es rfl (es rfl (es rfl (es rfl (es rfl (es rfl (es rfl l11_29)))))))
  have l12_32 := lookE hA32 12 (es rfl (es rfl (es rfl (es rfl (es rfl (es rfl (es rfl l12_29)))))))
  have l13_32 := lookE hA32 13 (es rfl (es rfl (es rfl (es rfl (es rfl (es rfl (es rfl l13_29)))))))
  have l14_32 := lookE hA32 14 (es rfl (et rfl))
  have l15_32 := lookE hA32 15 (et rfl)
  clear hA32 hsz29 hdf29 l1_29 l2_29 l3_29 l4_29 l5_29 l6_29 l7_29 l8_29 l9_29 l10_29 l11_29 l12_29 l13_29
  refine then_n (hK30 _ _ ?_)
  clear hK30
  refine wp_seq_k (fun K33 hK33 => ?_)
  -- region 9
  refine region_in ?_
  refine W_r rfl rfl (VR_ldA rfl l1_32 (hS31.obj 4 rfl hc6) Tryd.underlying24 rfl (by kernel_rfl)) ?_
  refine W_call rfl rfl rfl Tryd.func20 (by kernel_rfl) rfl (args3 (et rfl) rfl rfl) (kExt_c (a := 1) (b := 3) (hS31.chC 5 rfl hc1_4).own (hS31.chC 6 rfl hc2_4).own (hS31.roC hG0) ) ?_
  rintro _ w34 ⟨rfl, hP34⟩
  refine ⟨_, rfl, ?_⟩
  have hS34 := hS31.join hP34
  replace hS34 : St w NoX [c_25, c_19, c16, c11, c6, c1_4, c2_4] w34 := hS34
  refine W_v rfl rfl (V_mov rfl (et rfl)) ?_
  refine W_v rfl rfl (V_ext (v := .bool ((exB [3, 1] [5, 0] 1 3))) rfl (et rfl) rfl) ?_
  refine W_v rfl rfl (V_ext (v := .int .i64 ((exE [3, 1] [5, 0] 1 3))) rfl (es rfl (et rfl)) rfl) ?_
  refine W_v rfl rfl (V_asg rfl (es rfl (et rfl))) ?_
  refine W_v rfl rfl (V_asg rfl (es rfl (et rfl))) ?_
  refine W_end ?_
  refine gen_Q (fun A35 hA35 => ?_)
  have hsz35 : SzN A35 164 := by rw [hA35]; infer_instance
  have hdf35 : A35.defers = [] := by rw [hA35]; simp only [df_put]; exact hdf32
  have l1_35 := lookE hA35 1 (es rfl (es rfl (es rfl (es rfl (es rfl (es rfl (es rfl l1_32)))))))
  have l2_35 := lookE hA35 2 (es rfl (es rfl (es rfl (es rfl (es rfl (es rfl (es rfl l2_32)))))))
  have l3_35 := lookE hA35 3 (es rfl (es rfl (es rfl (es rfl (es rfl (es rfl (es rfl l3_32)))))))
  have l4_35 := lookE hA35 4 (es rfl (es rfl (es rfl (es rfl (es rfl (es rfl (es rfl l4_32)))))))
  have l5_35 := lookE hA35 5 (es rfl (es rfl (es rfl (es rfl (es rfl (es rfl (es rfl l5_32)))))))
  have l6_35 := lookE hA35 6 (es rfl (es rfl (es rfl (es rfl (es rfl (es rfl (es rfl l6_32)))))))
  have l7_35 := lookE hA35 7 (es rfl (es rfl (es rfl (es rfl (es rfl (es rfl (es rfl l7_32)))))))
  have l8_35 := lookE hA35 8 (es rfl (es rfl (es rfl (es rfl (es rfl (es rfl (es rfl l8_32)))))))
  have l9_35 := lookE hA35 9 (es rfl (es rfl (es rfl (es rfl (es rfl (es rfl (es rfl l9_32)))))))
  have l10_35 := lookE hA35 10 (es rfl (es rfl (es rfl (es rfl (es rfl (es rfl (es rfl l10_32)))))))
  have l11_35 := lookE hA35 11 (es rfl (es rfl (es rfl (es rfl (es rfl (es rfl (es rfl l11_32)))))))
  have l12_35 := lookE hA35 12 (es rfl (es rfl (es rfl (es rfl (es rfl (es rfl (es rfl l12_32)))))))
  have l13_35 := lookE hA35 13 (es rfl (es rfl (es rfl (es rfl (es rfl (es rfl (es rfl l13_32)))))))
  have l14_35 := lookE hA35 14 (es rfl (es rfl (es rfl (es rfl (es rfl (es rfl (es rfl l14_32)))))))
  have l15_35 := lookE hA35 15 (es rfl (es rfl (es rfl (es rfl (es rfl (es rfl (es rfl l15_32)))))))
  have l16_35 := lookE hA35 16 (es rfl (et rfl))
  have l17_35 := lookE hA35 17 (et rfl)
  clear hA35 hsz32 hdf32 l1_32 l2_32 l3_32 l4_32 l5_32 l6_32 l7_32 l8_32 l9_32 l10_32 l11_32 l12_32 l13_32 l14_32 l15_32
  refine then_n (hK33 _ _ ?_)
  clear hK33
  refine wp_seq_k (fun K36 hK36 => ?_)
  -- region 10
  refine region_in ?_
  refine W_r rfl rfl (VR_ldA rfl l1_35 (hS34.obj 4 rfl hc6) Tryd.underlying24 rfl (by kernel_rfl)) ?_
  refine W_call rfl rfl rfl Tryd.func20 (by kernel_rfl) rfl (args3 (et rfl) rfl rfl) (kExt_c (a := (-1)) (b := 3) (hS34.chC 5 rfl hc1_4).own (hS34.chC 6 rfl hc2_4).own (hS34.roC hG0) ) ?_
  rintro _ w37 ⟨rfl, hP37⟩
  refine ⟨_, rfl, ?_⟩
  have hS37 := hS34.join hP37
  replace hS37 : St w NoX [c_25, c_19, c16, c11, c6, c1_4, c2_4] w37 := hS37
  refine W_v rfl rfl (V_mov rfl (et rfl)) ?_
  refine W_v rfl rfl (V_ext (v := .bool ((exB [3, 1] [5, 0] (-1) 3))) rfl (et rfl) rfl) ?_
  refine W_v rfl rfl (V_ext (v := .int .i64 ((exE [3, 1] [5, 0] (-1) 3))) rfl (es rfl (et rfl)) rfl) ?_
  refine W_v rfl rfl (V_asg rfl (es rfl (et rfl))) ?_
  refine W_v rfl rfl (V_asg rfl (es rfl (et rfl))) ?_
  refine W_end ?_
  refine gen_Q (fun A38 hA38 => ?_)
  have hsz38 : SzN A38 164 := by rw [hA38]; infer_instance
  have hdf38 : A38.defers = [] := by rw [hA38]; simp only [df_put]; exact hdf35
  have l1_38 := lookE hA38 1 (es rfl (es rfl (es rfl (es rfl (es rfl (es rfl (es rfl l1_35)))))))
  have l2_38 := lookE hA38 2 (es rfl (es rfl (es rfl (es rfl (es rfl (es rfl (es rfl l2_35)))))))
  have l3_38 := lookE hA38 3 (es rfl (es rfl (es rfl (es rfl (es rfl (es rfl (es rfl l3_35)))))))
  have l4_38 := lookE hA38 4 (es rfl (es rfl (es rfl (es rfl (es rfl (es rfl (es rfl l4_35)))))))
  have l5_38 := lookE hA38 5 (es rfl (es rfl (es rfl (es rfl (es rfl (es rfl (es rfl l5_35)))))))
  have l6_38 := lookE hA38 6 (es rfl (es rfl (es rfl (es rfl (es rfl (es rfl (es rfl l6_35)))))))
  have l7_38 := lookE hA38 7 (es rfl (es rfl (es rfl (es rfl (es rfl (es rfl (es rfl l7_35)))))))
  have l8_38 := lookE hA38 8 (es rfl (es rfl (es rfl (es rfl (es rfl (es rfl (es rfl l8_35)))))))
  have l9_38 := lookE hA38 9 (es rfl (es rfl (es rfl (es rfl (es rfl (es rfl (es rfl l9_35)))))))
  have l10_38 := lookE hA38 10 (es rfl (es rfl (es rfl (es rfl (es rfl (es rfl (es rfl l10_35)))))))
  have l11_38 := lookE hA38 11 (es rfl (es rfl (es rfl (es rfl (es rfl (es rfl (es rfl l11_35)))))))
  have l12_38 := lookE hA38 12 (es rfl (es rfl (es rfl (es rfl (es rfl (es rfl (es rfl l12_35)))))))
  have l13_38 := lookE hA38 13 (es rfl (es rfl (es rfl (es rfl (es rfl (es rfl (es rfl l13_35)))))))
  have l14_38 := lookE hA38 14 (es rfl (es rfl (es rfl (es rfl (es rfl (es rfl (es rfl l14_35)))))))
  have l15_38 := lookE hA38 15 (es rfl (es rfl (es rfl (es rfl (es rfl (es rfl (es rfl l15_35)))))))
  have l16_38 := lookE hA38 16 (es rfl (es rfl (es rfl (es rfl (es rfl (es rfl (es rfl l16_35)))))))
  have l17_38 := lookE hA38 17 (es rfl (es rfl (es rfl (es rfl (es rfl (es rfl (es rfl l17_35)))))))
  have l18_38 := lookE hA38 18 (es rfl (et rfl))
  have l19_38 := lookE hA38 19 (et rfl)
  clear hA38 hsz35 hdf35 l1_35 l2_35 l3_35 l4_35 l5_35 l6_35 l7_35 l8_35 l9_35 l10_35 l11_35 l12_35 l13_35 l14_35 l15_35 l16_35 l17_35
  refine then_n (hK36 _ _ ?_)
  clear hK36
  refine wp_seq_k (fun K39 hK39 => ?_)
  -- region 11
  refine region_in ?_
  refine W_r rfl rfl (VR_ldA rfl l1_38 (hS37.obj 4 rfl hc6) Tryd.underlying24 rfl (by kernel_rfl)) ?_
  refine W_call rfl rfl rfl Tryd.func25 (by kernel_rfl) rfl (args1 (et rfl)) (lift2 (rTake_c (hS37.chC 5 rfl hc1_4).own.ints (hS37.chC 6 rfl hc2_4).own.ints (by first | omega | (simp; done) | (simp; omega)) (by first | omega | (simp; done) | (simp; omega)))) ?_
  rintro _ w40 ⟨v1_40, v2_40, rfl, hP40⟩
  refine ⟨_, rfl, ?_⟩
  obtain ⟨ct_40, hct_40, hP40⟩ := gen1 hP40
  have hS40 := hS37.join hP40
  replace hS40 : St w NoX [ct_40, c_25, c_19, c16, c11, c6, c1_4, c2_4] w40 := hS40
  refine W_v rfl rfl (V_mov rfl (et rfl)) ?_
  refine W_v rfl rfl (V_ext (v := .agg #[v1_40, v2_40]) rfl (et rfl) rfl) ?_
  refine W_v rfl rfl (V_ext (v := .int .i64 ((takeS [3, 1] [5, 0]).car)) rfl (es rfl (et rfl)) rfl) ?_
  refine W_v rfl rfl (V_ext (v := .int .i64 ((takeS [3, 1] [5, 0]).e)) rfl (es rfl (es rfl (et rfl))) rfl) ?_
  refine W_allocS (z := .agg #[.slice none 0 0, .slice none 0 0]) (zs := #[.slice none 0 0, .slice none 0 0]) hS40 rfl rfl rfl (by kernel_rfl) (by rfl) (fun g41 w41 c41 hc41 hS41 => ?_)
  replace hS41 : St w NoX [c41, ct_40, c_25, c_19, c16, c11, c6, c1_4, c2_4] w41 := hS41
  refine W_stAS 0 hS41 rfl hc41 rfl rfl rfl (et rfl) (es rfl (es rfl (es rfl (et rfl)))) (by simp only [List.all_toArray, List.all_cons, List.all_nil, SlN_one (sl_SlN (at_fst (hS41.chq 1 rfl hct_40))), SlN_one (sl_SlN (at_snd (hS41.chq 1 rfl hct_40)))] <;> rfl) (by rfl) (by kernel_rfl) (fun w42 c42 hc42 hS42 => ?_)
  replace hS42 : St w NoX [c42, ct_40, c_25, c_19, c16, c11, c6, c1_4, c2_4] w42 := hS42
  refine W_v rfl rfl (V_asg rfl (es rfl (es rfl (et rfl)))) ?_
  refine W_v rfl rfl (V_asg rfl (es rfl (es rfl (et rfl)))) ?_
  refine W_end ?_
  refine gen_Q (fun A43 hA43 => ?_)
  have hsz43 : SzN A43 164 := by rw [hA43]; infer_instance
  have hdf43 : A43.defers = [] := by rw [hA43]; simp only [df_put]; exact hdf38
  have l1_43 := lookE hA43 1 (es rfl (es rfl (es rfl (es rfl (es rfl (es rfl (es rfl (es rfl (es rfl l1_38)))))))))
  have l2_43 := lookE hA43 2 (es rfl (es rfl (es rfl (es rfl (es rfl (es rfl (es rfl (es rfl (es rfl l2_38)))))))))
  have l3_43 := lookE hA43 3 (es rfl (es rfl (es rfl (es rfl (es rfl (es rfl (es rfl (es rfl (es rfl l3_38)))))))))
  have l4_43 := lookE hA43 4 (es rfl (es rfl (es rfl (es rfl (es rfl (es rfl (es rfl (es rfl (es rfl l4_38)))))))))
  have l5_43 := lookE hA43 5 (es rfl (es rfl (es rfl (es rfl (es rfl (es rfl (es rfl (es rfl (es rfl l5_38)))))))))
  have l6_43 := lookE hA43 6 (es rfl (es rfl (es rfl (es rfl (es rfl (es rfl (es rfl (es rfl (es rfl l6_38)))))))))
  have l7_43 := lookE hA43 7 (es rfl (es rfl (es rfl (es rfl (es rfl (es rfl (es rfl (es rfl (es rfl l7_38)))))))))
  have l8_43 := lookE hA43 8 (es rfl (es rfl (es rfl (es rfl (es rfl (es rfl (es rfl (es rfl (es rfl l8_38)))))))))
  have l9_43 := lookE hA43 9 (es rfl (es rfl (es rfl (es rfl (es rfl (es rfl (es rfl (es rfl (es rfl l9_38)))))))))
  have l10_43 := lookE hA43 10 (es rfl (es rfl (es rfl (es rfl (es rfl (es rfl (es rfl (es rfl (es rfl l10_38)))))))))
  have l11_43 := lookE hA43 11 (es rfl (es rfl (es rfl (es rfl (es rfl (es rfl (es rfl (es rfl (es rfl l11_38)))))))))
  have l12_43 := lookE hA43 12 (es rfl (es rfl (es rfl (es rfl (es rfl (es rfl (es rfl (es rfl (es rfl l12_38)))))))))
  have l13_43 := lookE hA43 13 (es rfl (es rfl (es rfl (es rfl (es rfl (es rfl (es rfl (es rfl (es rfl l13_38)))))))))
  have l14_43 := lookE hA43 14 (es rfl (es rfl (es rfl (es rfl (es rfl (es rfl (es rfl (es rfl (es rfl l14_38)))))))))
  have l15_43 := lookE hA43 15 (es rfl (es rfl (es rfl (es rfl (es rfl (es rfl (es rfl (es rfl (es rfl l15_38)))))))))
  have l16_43 := lookE hA43 16 (es rfl (es rfl (es rfl (es rfl (es rfl (es rfl (es rfl (es rfl (es rfl l16_38)))))))))
  have l17_43 := lookE hA43 17 (es rfl (es rfl (es rfl (es rfl (es rfl (es rfl (es rfl (es rfl (es rfl l17_38)))))))))
  have l18_43 := lookE hA43 18 (es rfl (es rfl (es rfl (es rfl (es rfl (es rfl (es rfl (es rfl (es rfl l18_38)))))))))
  have l19_43 := lookE hA43 19 (es rfl (es rfl (es rfl (es rfl (es rfl (es rfl (es rfl (es rfl (es rfl l19_38)))))))))
  have l20_43 := lookE hA43 20 (es rfl (es rfl (et rfl)))
  clear hA43 hsz38 hdf38 l1_38 l2_38 l3_38 l4_38 l5_38 l6_38 l7_38 l8_38 l9_38 l10_38 l11_38 l12_38 l13_38 l14_38 l15_38 l16_38 l17_38 l18_38 l19_38
  refine then_n (hK39 _ _ ?_)
  clear hK39
  refine wp_seq_k (fun K44 hK44 => ?_)
  -- region 12
  refine region_in ?_
  refine W_r rfl rfl (VR_ldA rfl l1_43 (hS42.obj 6 rfl hc6) Tryd.underlying24 rfl (by kernel_rfl)) ?_
  refine W_r rfl rfl (VR_ldA rfl (es rfl l20_43) (hS42.obj 0 rfl hc42) Tryd.underlying24 rfl (by kernel_rfl)) ?_
  refine W_call rfl rfl rfl Tryd.func22 (by kernel_rfl) rfl (args2 (es rfl (et rfl)) (et rfl)) (kMv_c (hS42.chC 7 rfl hc1_4).own (hS42.chC 8 rfl hc2_4).own ((hS42.chC 1 rfl hct_40).fst) ((hS42.chC 1 rfl hct_40).snd) (hS42.roC hG0) ) ?_
  rintro _ w45 ⟨v_45, rfl, hP45⟩
  refine ⟨_, rfl, ?_⟩
  obtain ⟨c_45, hc_45, hP45⟩ := gen1 hP45
  have hS45 := hS42.join hP45
  replace hS45 : St w NoX [c_45, c42, ct_40, c_25, c_19, c16, c11, c6, c1_4, c2_4] w45 := hS45
  refine W_v rfl rfl (V_mov rfl (et rfl)) ?_
  refine W_v rfl rfl (V_ext (v := v_45) rfl (et rfl) rfl) ?_
  refine W_v rfl rfl (V_ext (v := .int .i64 ((mvE [3, 1] [5, 0] ((takeS [3, 1] [5, 0]).lo) ((takeS [3, 1] [5, 0]).yo)))) rfl (es rfl (et rfl)) rfl) ?_
  refine W_v rfl rfl (V_asg rfl (es rfl (et rfl))) ?_
  refine W_v rfl rfl (V_asg rfl (es rfl (et rfl))) ?_
  refine W_end ?_
  refine gen_Q (fun A46 hA46 => ?_)
  have hsz46 : SzN A46 164 := by rw [hA46]; infer_instance
  have hdf46 : A46.defers = [] := by rw [hA46]; simp only [df_put]; exact hdf43
  have l2_46 := lookE hA46 2 (es rfl (es rfl (es rfl (es rfl (es rfl (es rfl (es rfl (es rfl l2_43))))))))
  have l3_46 := lookE hA46 3 (es rfl (es rfl (es rfl (es rfl (es rfl (es rfl (es rfl (es rfl l3_43))))))))
  have l4_46 := lookE hA46 4 (es rfl (es rfl (es rfl (es rfl (es rfl (es rfl (es rfl (es rfl l4_43))))))))
  have l5_46 := lookE hA46 5 (es rfl (es rfl (es rfl (es rfl (es rfl (es rfl (es rfl (es rfl l5_43))))))))
  have l6_46 := lookE hA46 6 (es rfl (es rfl (es rfl (es rfl (es rfl (es rfl (es rfl (es rfl l6_43))))))))
  have l7_46 := lookE hA46 7 (es rfl (es rfl (es rfl (es rfl (es rfl (es rfl (es rfl (es rfl l7_43))))))))
  have l8_46 := lookE hA46 8 (es rfl (es rfl (es rfl (es rfl (es rfl (es rfl (es rfl (es rfl l8_43))))))))
  have l9_46 := lookE hA46 9 (es rfl (es rfl (es rfl (es rfl (es rfl (es rfl (es rfl (es rfl l9_43))))))))
  have l10_46 := lookE hA46 10 (es rfl (es rfl (es rfl (es rfl (es rfl (es rfl (es rfl (es rfl l10_43))))))))
  have l11_46 := lookE hA46 11 (es rfl (es rfl (es rfl (es rfl (es rfl (es rfl (es rfl (es rfl l11_43))))))))
  have l12_46 := lookE hA46 12 (es rfl (es rfl (es rfl (es rfl (es rfl (es rfl (es rfl (es rfl l12_43))))))))
  have l13_46 := lookE hA46 13 (es rfl (es rfl (es rfl (es rfl (es rfl (es rfl (es rfl (es rfl l13_43))))))))
  have l14_46 := lookE hA46 14 (es rfl (es rfl (es rfl (es rfl (es rfl (es rfl (es rfl (es rfl l14_43))))))))
  have l15_46 := lookE hA46 15 (es rfl (es rfl (es rfl (es rfl (es rfl (es rfl (es rfl (es rfl l15_43))))))))
  have l16_46 := lookE hA46 16 (es rfl (es rfl (es rfl (es rfl (es rfl (es rfl (es rfl (es rfl l16_43))))))))
  have l17_46 := lookE hA46 17 (es rfl (es rfl (es rfl (es rfl (es rfl (es rfl (es rfl (es rfl l17_43))))))))
  have l18_46 := lookE hA46 18 (es rfl (es rfl (es rfl (es rfl (es rfl (es rfl (es rfl (es rfl l18_43))))))))
  have l19_46 := lookE hA46 19 (es rfl (es rfl (es rfl (es rfl (es rfl (es rfl (es rfl (es rfl l19_43))))))))
  have l23_46 := lookE hA46 23 (es rfl (et rfl))
  have l24_46 := lookE hA46 24 (et rfl)
  clear hA46 hsz43 hdf43 l1_43 l2_43 l3_43 l4_43 l5_43 l6_43 l7_43 l8_43 l9_43 l10_43 l11_43 l12_43 l13_43 l14_43 l15_43 l16_43 l17_43 l18_43 l19_43 l20_43
  have hS47 : St w NoX [c_45, c_25, c_19, c16, c11] w45 := hS45.sel [0, 3, 4, 5, 6] (by decide) rfl
  refine then_n (hK44 _ _ ?_)
  clear hK44
  refine wp_seq_k (fun K48 hK48 => ?_)
  -- region 13
  refine region_in ?_
  refine W_r rfl rfl (VR_ldA rfl l2_46 (hS47.obj 4 rfl hc11) Tryd.underlying50 rfl (by kernel_rfl)) ?_
  refine W_v rfl rfl (V_bldS (n := 2) (z := .agg #[.int .i64 0, .int .i64 0]) rfl (parts2 rfl rfl) (by kernel_rfl) (by simp only [List.all_cons, List.all_nil, Bool.and_true] <;> rfl) (by kernel_rfl) (by simp only [List.foldl_cons, List.foldl_nil, Value.cells, List.setIfInBounds_toArray, List.set_cons_succ, List.set_cons_zero] <;> rfl)) ?_
  refine W_v rfl rfl (V_eqSt2 rfl (es rfl (et rfl)) (et rfl) (by kernel_rfl)) ?_
  refine W_sure (c' := true) rfl rfl (V_mov rfl (et rfl)) (by decide +kernel) ?_
  refine W_v rfl (wanted_t rfl rfl (et rfl) (ez rfl)) (V_mov rfl (es rfl (es rfl (es rfl (es rfl l3_46))))) ?_
  refine W_v rfl (wanted_t rfl rfl (es rfl (et rfl)) (ez rfl)) (V_eql rfl (et rfl) rfl) ?_
  refine W_v rfl rfl (V_pickT rfl (es rfl (es rfl (et rfl))) (et rfl)) ?_
  refine W_sure (c' := true) rfl rfl (V_mov rfl (et rfl)) (by decide +kernel) ?_
  refine W_r rfl (wanted_t rfl rfl (et rfl) (ez rfl)) (VR_ldA rfl (es rfl (es rfl (es rfl (es rfl (es rfl (es rfl (es rfl (es rfl l4_46)))))))) (hS47.obj 3 rfl hc16) Tryd.underlying50 rfl (by kernel_rfl)) ?_
  refine W_v rfl (wanted_t rfl rfl (es rfl (et rfl)) (ez rfl)) (V_bldS (n := 2) (z := .agg #[.int .i64 0, .int .i64 0]) rfl (parts2 rfl rfl) (by kernel_rfl) (by simp only [List.all_cons, List.all_nil, Bool.and_true] <;> rfl) (by kernel_rfl) (by simp only [List.foldl_cons, List.foldl_nil, Value.cells, List.setIfInBounds_toArray, List.set_cons_succ, List.set_cons_zero] <;> rfl)) ?_
  refine W_v rfl (wanted_t rfl rfl (es rfl (es rfl (et rfl))) (ez rfl)) (V_eqSt2 rfl (es rfl (et rfl)) (et rfl) (by kernel_rfl)) ?_
  refine W_v rfl rfl (V_pickT rfl (es rfl (es rfl (es rfl (et rfl)))) (et rfl)) ?_
  refine W_sure (c' := true) rfl rfl (V_mov rfl (et rfl)) (by decide +kernel) ?_
  refine W_v rfl (wanted_t rfl rfl (et rfl) (ez rfl)) (V_mov rfl (es rfl (es rfl (es rfl (es rfl (es rfl (es rfl (es rfl (es rfl (es rfl (es rfl (es rfl (es rfl (es rfl l5_46)))))))))))))) ?_
  refine W_v rfl (wanted_t rfl rfl (es rfl (et rfl)) (ez rfl)) (V_eql rfl (et rfl) rfl) ?_
  refine W_v rfl rfl (V_pickT rfl (es rfl (es rfl (et rfl))) (et rfl)) ?_
  refine W_sure (c' := true) rfl rfl (V_mov rfl (et rfl)) (by decide +kernel) ?_
  refine W_v rfl (wanted_t rfl rfl (et rfl) (ez rfl)) (V_mov rfl (es rfl (es rfl (es rfl (es rfl (es rfl (es rfl (es rfl (es rfl (es rfl (es rfl (es rfl (es rfl (es rfl (es rfl (es rfl (es rfl (es rfl l6_46)))))))))))))))))) ?_
  have hll49 : [3, 1, 5, 0].length = 4 := rfl
  refine W_litS (vs := [.int .i64 3, .int .i64 1, .int .i64 5, .int .i64 0]) (xs := ([3, 1, 5, 0].map (Value.int .i64))) 1 hS47 rfl (wanted_t rfl rfl (es rfl (et rfl)) (ez rfl)) rfl (parts4 rfl rfl rfl rfl) rfl Tryd.underlying22 (by kernel_rfl) (by decide) (by intro v hv; simp only [List.mem_cons, List.not_mem_nil, or_false] at hv; rcases hv with rfl | rfl | rfl | rfl <;> rfl) (by rfl) (fun g49 w49 c49 hc49 hS49 => ?_)
  replace hc49 : c49 = io .i64 (.slice (some ⟨g49, 0, none⟩) 4 4) [3, 1, 5, 0] := hc49
  replace hS49 : St w NoX [c49, c_45, c_25, c_19, c16, c11] w49 := hS49
  refine W_call rfl (wanted_t rfl rfl (es rfl (es rfl (et rfl))) (ez rfl)) rfl Tryd.func17 (by kernel_rfl) rfl (args2 (es rfl (et rfl)) (et rfl)) (lift0 (Ints_c (hS49.chC 3 rfl hc_19).own.ints (hS49.chC 0 rfl hc49).own.ints)) ?_
  rintro _ w50 ⟨rfl, hP50⟩
  refine ⟨_, rfl, ?_⟩
  have hS50 := hS49.join hP50
  replace hS50 : St w NoX [c49, c_45, c_25, c_19, c16, c11] w50 := hS50
  refine W_v rfl rfl (V_pickT rfl (es rfl (es rfl (es rfl (et rfl)))) (et rfl)) ?_
  refine W_sure (c' := true) rfl rfl (V_mov rfl (et rfl)) (by decide +kernel) ?_
  refine W_v rfl (wanted_t rfl rfl (et rfl) (ez rfl)) (V_mov rfl (es rfl (es rfl (es rfl (es rfl (es rfl (es rfl (es rfl (es rfl (es rfl (es rfl (es rfl (es rfl (es rfl (es rfl (es rfl (es rfl (es rfl (es rfl (es rfl (es rfl (es rfl (es rfl l7_46))))))))))))))))))))))) ?_
  refine W_v rfl (wanted_t rfl rfl (es rfl (et rfl)) (ez rfl)) (V_eql rfl (et rfl) rfl) ?_
  refine W_v rfl rfl (V_pickT rfl (es rfl (es rfl (et rfl))) (et rfl)) ?_
  refine W_sure (c' := true) rfl rfl (V_mov rfl (et rfl)) (by decide +kernel) ?_
  refine W_v rfl (wanted_t rfl rfl (et rfl) (ez rfl)) (V_mov rfl (es rfl (es rfl (es rfl (es rfl (es rfl (es rfl (es rfl (es rfl (es rfl (es rfl (es rfl (es rfl (es rfl (es rfl (es rfl (es rfl (es rfl (es rfl (es rfl (es rfl (es rfl (es rfl (es rfl (es rfl (es rfl (es rfl l8_46))))))))))))))))))))))))))) ?_
  refine W_v rfl (wanted_t rfl rfl (es rfl (et rfl)) (ez rfl)) (V_eql rfl (et rfl) rfl) ?_
  refine W_v rfl rfl (V_pickT rfl (es rfl (es rfl (et rfl))) (et rfl)) ?_
  refine W_sure (c' := true) rfl rfl (V_mov rfl (et rfl)) (by decide +kernel) ?_
  refine W_v rfl (wanted_t rfl rfl (et rfl) (ez rfl)) (V_mov rfl (es rfl (es rfl (es rfl (es rfl (es rfl (es rfl (es rfl (es rfl (es rfl (es rfl (es rfl (es rfl (es rfl (es rfl (es rfl (es rfl (es rfl (es rfl (es rfl (es rfl (es rfl (es rfl (es rfl (es rfl (es rfl (es rfl (es rfl (es rfl (es rfl (es rfl l9_46))))))))))))))))))))))))))))))) ?_
  refine W_v rfl (wanted_t rfl rfl (es rfl (et rfl)) (ez rfl)) (V_eql rfl (et rfl) rfl) ?_
  refine W_v rfl rfl (V_pickT rfl (es rfl (es rfl (et rfl))) (et rfl)) ?_
  refine W_sure (c' := true) rfl rfl (V_mov rfl (et rfl)) (by decide +kernel) ?_
  refine W_v rfl (wanted_t rfl rfl (et rfl) (ez rfl)) (V_mov rfl (es rfl (es rfl (es rfl (es rfl (es rfl (es rfl (es rfl (es rfl (es rfl (es rfl (es rfl (es rfl (es rfl (es rfl (es rfl (es rfl (es rfl (es rfl (es rfl (es rfl (es rfl (es rfl (es rfl (es rfl (es rfl (es rfl (es rfl (es rfl (es rfl (es rfl (es rfl (es rfl (es rfl (es rfl l10_46))))))))))))))))))))))))))))))))))) ?_
  have hll51 : [3, 1].length = 2 := rfl
  refine W_litS (vs := [.int .i64 3, .int .i64 1]) (xs := ([3, 1].map (Value.int .i64))) 1 hS50 rfl (wanted_t rfl rfl (es rfl (et rfl)) (ez rfl)) rfl (parts2 rfl rfl) rfl Tryd.underlying22 (by kernel_rfl) (by decide) (by intro v hv; simp only [List.mem_cons, List.not_mem_nil, or_false] at hv; rcases hv with rfl | rfl <;> rfl) (by rfl) (fun g51 w51 c51 hc51 hS51 => ?_)
  replace hc51 : c51 = io .i64 (.slice (some ⟨g51, 0, none⟩) 2 2) [3, 1] := hc51
  replace hS51 : St w NoX [c51, c49, c_45, c_25, c_19, c16, c11] w51 := hS51
  refine W_call rfl (wanted_t rfl rfl (es rfl (es rfl (et rfl))) (ez rfl)) rfl Tryd.func17 (by kernel_rfl) rfl (args2 (es rfl (et rfl)) (et rfl)) (lift0 (Ints_c (hS51.chC 3 rfl hc_25).own.ints (hS51.chC 0 rfl hc51).own.ints)) ?_
  rintro _ w52 ⟨rfl, hP52⟩
  refine ⟨_, rfl, ?_⟩
  have hS52 := hS51.join hP52
  replace hS52 : St w NoX [c51, c49, c_45, c_25, c_19, c16, c11] w52 := hS52
  refine W_v rfl rfl (V_pickT rfl (es rfl (es rfl (es rfl (et rfl)))) (et rfl)) ?_
  refine W_sure (c' := true) rfl rfl (V_mov rfl (et rfl)) (by decide +kernel) ?_
  refine W_v rfl (wanted_t rfl rfl (et rfl) (ez rfl)) (V_mov rfl (es rfl (es rfl (es rfl (es rfl (es rfl (es rfl (es rfl (es rfl (es rfl (es rfl (es rfl (es rfl (es rfl (es rfl (es rfl (es rfl (es rfl (es rfl (es rfl (es rfl (es rfl (es rfl (es rfl (es rfl (es rfl (es rfl (es rfl (es rfl (es rfl (es rfl (es rfl (es rfl (es rfl (es rfl (es rfl (es rfl (es rfl (es rfl (es rfl l11_46)))))))))))))))))))))))))))))))))))))))) ?_
  refine W_v rfl (wanted_t rfl rfl (es rfl (et rfl)) (ez rfl)) (V_eql rfl (et rfl) rfl) ?_
  refine W_v rfl rfl (V_pickT rfl (es rfl (es rfl (et rfl))) (et rfl)) ?_
  refine W_sure (c' := true) rfl rfl (V_mov rfl (et rfl)) (by decide +kernel) ?_
  refine W_v rfl (wanted_t rfl rfl (et rfl) (ez rfl)) (V_mov rfl (es rfl (es rfl (es rfl (es rfl (es rfl (es rfl (es rfl (es rfl (es rfl (es rfl (es rfl (es rfl (es rfl (es rfl (es rfl (es rfl (es rfl (es rfl (es rfl (es rfl (es rfl (es rfl (es rfl (es rfl (es rfl (es rfl (es rfl (es rfl (es rfl (es rfl (es rfl (es rfl (es rfl (es rfl (es rfl (es rfl (es rfl (es rfl (es rfl (es rfl (es rfl (es rfl (es rfl l12_46)))))))))))))))))))))))))))))))))))))))))))) ?_
  refine W_v rfl (wanted_t rfl rfl (es rfl (et rfl)) (ez rfl)) (V_eql rfl (et rfl) rfl) ?_
  refine W_v rfl rfl (V_pickT rfl (es rfl (es rfl (et rfl))) (et rfl)) ?_
  refine W_sure (c' := true) rfl rfl (V_mov rfl (et rfl)) (by decide +kernel) ?_
  refine W_v rfl (wanted_t rfl rfl (et rfl) (ez rfl)) (V_mov rfl (es rfl (es rfl (es rfl (es rfl (es rfl (es rfl (es rfl (es rfl (es rfl (es rfl (es rfl (es rfl (es rfl (es rfl (es rfl (es rfl (es rfl (es rfl (es rfl (es rfl (es rfl (es rfl (es rfl (es rfl (es rfl (es rfl (es rfl (es rfl (es rfl (es rfl (es rfl (es rfl (es rfl (es rfl (es rfl (es rfl (es rfl (es rfl (es rfl (es rfl (es rfl (es rfl (es rfl (es rfl (es rfl (es rfl (es rfl l13_46)))))))))))))))))))))))))))))))))))))))))))))))) ?_
  refine W_v rfl (wanted_t rfl rfl (es rfl (et rfl)) (ez rfl)) (V_eql rfl (et rfl) rfl) ?_
  refine W_v rfl rfl (V_pickT rfl (es rfl (es rfl (et rfl))) (et rfl)) ?_
  refine W_sure (c' := true) rfl rfl (V_mov rfl (et rfl)) (by decide +kernel) ?_
  refine W_v rfl (wanted_t rfl rfl (et rfl) (ez rfl)) (V_mov rfl (es rfl (es rfl (es rfl (es rfl (es rfl (es rfl (es rfl (es rfl (es rfl (es rfl (es rfl (es rfl (es rfl (es rfl (es rfl (es rfl (es rfl (es rfl (es rfl (es rfl (es rfl (es rfl (es rfl (es rfl (es rfl (es rfl (es rfl (es rfl (es rfl (es rfl (es rfl (es rfl (es rfl (es rfl (es rfl (es rfl (es rfl (es rfl (es rfl (es rfl (es rfl (es rfl (es rfl (es rfl (es rfl (es rfl (es rfl (es rfl (es rfl (es rfl (es rfl l14_46)))))))))))))))))))))))))))))))))))))))))))))))))))) ?_
  refine W_v rfl rfl (V_pickT rfl (es rfl (et rfl)) (et rfl)) ?_
  refine W_sure (c' := true) rfl rfl (V_mov rfl (et rfl)) (by decide +kernel) ?_
  refine W_v rfl (wanted_t rfl rfl (et rfl) (ez rfl)) (V_mov rfl (es rfl (es rfl (es rfl (es rfl (es rfl (es rfl (es rfl (es rfl (es rfl (es rfl (es rfl (es rfl (es rfl (es rfl (es rfl (es rfl (es rfl (es rfl (es rfl (es rfl (es rfl (es rfl (es rfl (es rfl (es rfl (es rfl (es rfl (es rfl (es rfl (es rfl (es rfl (es rfl (es rfl (es rfl (es rfl (es rfl (es rfl (es rfl (es rfl (es rfl (es rfl (es rfl (es rfl (es rfl (es rfl (es rfl (es rfl (es rfl (es rfl (es rfl (es rfl (es rfl (es rfl (es rfl l15_46))))))))))))))))))))))))))))))))))))))))))))))))))))))) ?_
  refine W_v rfl (wanted_t rfl rfl (es rfl (et rfl)) (ez rfl)) (V_eql rfl (et rfl) rfl) ?_
  refine W_v rfl rfl (V_pickT rfl (es rfl (es rfl (et rfl))) (et rfl)) ?_
  refine W_sure (c' := true) rfl rfl (V_mov rfl (et rfl)) (by decide +kernel) ?_
  refine W_v rfl (wanted_t rfl rfl (et rfl) (ez rfl)) (V_mov rfl (es rfl (es rfl (es rfl (es rfl (es rfl (es rfl (es rfl (es rfl (es rfl (es rfl (es rfl (es rfl (es rfl (es rfl (es rfl (es rfl (es rfl (es rfl (es rfl (es rfl (es rfl (es rfl (es rfl (es rfl (es rfl (es rfl (es rfl (es rfl (es rfl (es rfl (es rfl (es rfl (es rfl (es rfl (es rfl (es rfl (es rfl (es rfl (es rfl (es rfl (es rfl (es rfl (es rfl (es rfl (es rfl (es rfl (es rfl (es rfl (es rfl (es rfl (es rfl (es rfl (es rfl (es rfl (es rfl (es rfl (es rfl (es rfl l16_46))))))))))))))))))))))))))))))))))))))))))))))))))))))))))) ?_
  refine W_v rfl (wanted_t rfl rfl (es rfl (et rfl)) (ez rfl)) (V_not rfl (et rfl)) ?_
  refine W_v rfl rfl (V_pickT rfl (es rfl (es rfl (et rfl))) (et rfl)) ?_
  refine W_sure (c' := true) rfl rfl (V_mov rfl (et rfl)) (by decide +kernel) ?_
  refine W_v rfl (wanted_t rfl rfl (et rfl) (ez rfl)) (V_mov rfl (es rfl (es rfl (es rfl (es rfl (es rfl (es rfl (es rfl (es rfl (es rfl (es rfl (es rfl (es rfl (es rfl (es rfl (es rfl (es rfl (es rfl (es rfl (es rfl (es rfl (es rfl (es rfl (es rfl (es rfl (es rfl (es rfl (es rfl (es rfl (es rfl (es rfl (es rfl (es rfl (es rfl (es rfl (es rfl (es rfl (es rfl (es rfl (es rfl (es rfl (es rfl (es rfl (es rfl (es rfl (es rfl (es rfl (es rfl (es rfl (es rfl (es rfl (es rfl (es rfl (es rfl (es rfl (es rfl (es rfl (es rfl (es rfl (es rfl (es rfl (es rfl (es rfl l17_46))))))))))))))))))))))))))))))))))))))))))))))))))))))))))))))) ?_
  refine W_v rfl (wanted_t rfl rfl (es rfl (et rfl)) (ez rfl)) (V_eql rfl (et rfl) rfl) ?_
  refine W_v rfl rfl (V_pickT rfl (es rfl (es rfl (et rfl))) (et rfl)) ?_
  refine W_sure (c' := true) rfl rfl (V_mov rfl (et rfl)) (by decide +kernel) ?_
  refine W_v rfl (wanted_t rfl rfl (et rfl) (ez rfl)) (V_mov rfl (es rfl (es rfl (es rfl (es rfl (es rfl (es rfl (es rfl (es rfl (es rfl (es rfl (es rfl (es rfl (es rfl (es rfl (es rfl (es rfl (es rfl (es rfl (es rfl (es rfl (es rfl (es rfl (es rfl (es rfl (es rfl (es rfl (es rfl (es rfl (es rfl (es rfl (es rfl (es rfl (es rfl (es rfl (es rfl (es rfl (es rfl (es rfl (es rfl (es rfl (es rfl (es rfl (es rfl (es rfl (es rfl (es rfl (es rfl (es rfl (es rfl (es rfl (es rfl (es rfl (es rfl (es rfl (es rfl (es rfl (es rfl (es rfl (es rfl (es rfl (es rfl (es rfl (es rfl (es rfl (es rfl (es rfl l18_46))))))))))))))))))))))))))))))))))))))))))))))))))))))))))))))))))) ?_
  refine W_v rfl rfl (V_pickT rfl (es rfl (et rfl)) (et rfl)) ?_
  refine W_sure (c' := true) rfl rfl (V_mov rfl (et rfl)) (by decide +kernel) ?_
  refine W_v rfl (wanted_t rfl rfl (et rfl) (ez rfl)) (V_mov rfl (es rfl (es rfl (es rfl (es rfl (es rfl (es rfl (es rfl (es rfl (es rfl (es rfl (es rfl (es rfl (es rfl (es rfl (es rfl (es rfl (es rfl (es rfl (es rfl (es rfl (es rfl (es rfl (es rfl (es rfl (es rfl (es rfl (es rfl (es rfl (es rfl (es rfl (es rfl (es rfl (es rfl (es rfl (es rfl (es rfl (es rfl (es rfl (es rfl (es rfl (es rfl (es rfl (es rfl (es rfl (es rfl (es rfl (es rfl (es rfl (es rfl (es rfl (es rfl (es rfl (es rfl (es rfl (es rfl (es rfl (es rfl (es rfl (es rfl (es rfl (es rfl (es rfl (es rfl (es rfl (es rfl (es rfl (es rfl (es rfl (es rfl l19_46)))))))))))))))))))))))))))))))))))))))))))))))))))))))))))))))))))))) ?_
  refine W_v rfl (wanted_t rfl rfl (es rfl (et rfl)) (ez rfl)) (V_eql rfl (et rfl) rfl) ?_
  refine W_v rfl rfl (V_pickT rfl (es rfl (es rfl (et rfl))) (et rfl)) ?_
  refine W_sure (c' := true) rfl rfl (V_mov rfl (et rfl)) (by decide +kernel) ?_
  refine W_v rfl (wanted_t rfl rfl (et rfl) (ez rfl)) (V_mov rfl (es rfl (es rfl (es rfl (es rfl (es rfl (es rfl (es rfl (es rfl (es rfl (es rfl (es rfl (es rfl (es rfl (es rfl (es rfl (es rfl (es rfl (es rfl (es rfl (es rfl (es rfl (es rfl (es rfl (es rfl (es rfl (es rfl (es rfl (es rfl (es rfl (es rfl (es rfl (es rfl (es rfl (es rfl (es rfl (es rfl (es rfl (es rfl (es rfl (es rfl (es rfl (es rfl (es rfl (es rfl (es rfl (es rfl (es rfl (es rfl (es rfl (es rfl (es rfl (es rfl (es rfl (es rfl (es rfl (es rfl (es rfl (es rfl (es rfl (es rfl (es rfl (es rfl (es rfl (es rfl (es rfl (es rfl (es rfl (es rfl (es rfl (es rfl (es rfl (es rfl (es rfl l23_46)))))))))))))))))))))))))))))))))))))))))))))))))))))))))))))))))))))))))) ?_
  have hll53 : [1, 3].length = 2 := rfl
  refine W_litS (vs := [.int .i64 1, .int .i64 3]) (xs := ([1, 3].map (Value.int .i64))) 1 hS52 rfl (wanted_t rfl rfl (es rfl (et rfl)) (ez rfl)) rfl (parts2 rfl rfl) rfl Tryd.underlying22 (by kernel_rfl) (by decide) (by intro v hv; simp only [List.mem_cons, List.not_mem_nil, or_false] at hv; rcases hv with rfl | rfl <;> rfl) (by rfl) (fun g53 w53 c53 hc53 hS53 => ?_)
  replace hc53 : c53 = io .i64 (.slice (some ⟨g53, 0, none⟩) 2 2) [1, 3] := hc53
  replace hS53 : St w NoX [c53, c51, c49, c_45, c_25, c_19, c16, c11] w53 := hS53
  refine W_call rfl (wanted_t rfl rfl (es rfl (es rfl (et rfl))) (ez rfl)) rfl Tryd.func17 (by kernel_rfl) rfl (args2 (es rfl (et rfl)) (et rfl)) (lift0 (Ints_c (hS53.chC 3 rfl hc_45).own.ints (hS53.chC 0 rfl hc53).own.ints)) ?_
  rintro _ w54 ⟨rfl, hP54⟩
  refine ⟨_, rfl, ?_⟩
  have hS54 := hS53.join hP54
  replace hS54 : St w NoX [c53, c51, c49, c_45, c_25, c_19, c16, c11] w54 := hS54
  refine W_v rfl rfl (V_pickT rfl (es rfl (es rfl (es rfl (et rfl)))) (et rfl)) ?_
  refine W_sure (c' := true) rfl rfl (V_mov rfl (et rfl)) (by decide +kernel) ?_
  refine W_v rfl (wanted_t rfl rfl (et rfl) (ez rfl)) (V_mov rfl (es rfl (es rfl (es rfl (es rfl (es rfl (es rfl (es rfl (es rfl (es rfl (es rfl (es rfl (es rfl (es rfl (es rfl (es rfl (es rfl (es rfl (es rfl (es rfl (es rfl (es rfl (es rfl (es rfl (es rfl (es rfl (es rfl (es rfl (es rfl (es rfl (es rfl (es rfl (es rfl (es rfl (es rfl (es rfl (es rfl (es rfl (es rfl (es rfl (es rfl (es rfl (es rfl (es rfl (es rfl (es rfl (es rfl (es rfl (es rfl (es rfl (es rfl (es rfl (es rfl (es rfl (es rfl (es rfl (es rfl (es rfl (es rfl (es rfl (es rfl (es rfl (es rfl (es rfl (es rfl (es rfl (es rfl (es rfl (es rfl (es rfl (es rfl (es rfl (es rfl (es rfl (es rfl (es rfl (es rfl (es rfl (es rfl l24_46))))))))))))))))))))))))))))))))))))))))))))))))))))))))))))))))))))))))))))))) ?_
  refine W_v rfl (wanted_t rfl rfl (es rfl (et rfl)) (ez rfl)) (V_eql rfl (et rfl) rfl) ?_
  refine W_v rfl rfl (V_pickT rfl (es rfl (es rfl (et rfl))) (et rfl)) ?_
  refine W_v rfl rfl (V_asg rfl (et rfl)) ?_
  refine W_end ?_
  refine gen_Q (fun A55 hA55 => ?_)
  have hsz55 : SzN A55 164 := by rw [hA55]; infer_instance
  have hdf55 : A55.defers = [] := by rw [hA55]; simp only [df_put]; exact hdf46
  have l0_55 := lookE hA55 0 (et rfl)
  clear hA55 hsz46 hdf46 l2_46 l3_46 l4_46 l5_46 l6_46 l7_46 l8_46 l9_46 l10_46 l11_46 l12_46 l13_46 l14_46 l15_46 l16_46 l17_46 l18_46 l19_46 l23_46 l24_46
  have hS56 : St w NoX [] w54 := hS54.sel [] (by decide) rfl
  refine then_n (hK48 _ _ ?_)
  clear hK48
  refine wp_ret ?_
  refine ret_in (results_1 Tryd.results12 (rv_tmp l0_55)) hdf55 ?_
  -- leaf 
  rw [show true = decide ((mvE [3, 1] [5, 0] ((takeS [3, 1] [5, 0]).lo) ((takeS [3, 1] [5, 0]).yo)) = 0) by decide +kernel]
  exact ⟨rfl, hS56.fin0⟩

set_option maxHeartbeats 4000000 in
theorem good_c {lv : Value} {lo : List Int} {yv : Value} {yo : List Int} {w : World} (h_lv : Ro w NoX (il .i64 lv lo)) (h_yv : Ro w NoX (il .i64 yv yo))  :
    Calls Tryd.prog 24 #[.agg #[lv, yv]] w fun e w' => e = .returned (.bool (decide (¬ (30 < lo.length ∨ 30 < yo.length) ∧ (chk lo yo).2.2 = 0))) ∧ St w NoX [] w' := by
  refine calls_in 19 Tryd.func24 rfl rfl (by simp) (fun A0 hsz0 hdf0 hargs => ?_)
  have l0_0 := hargs 0 (.agg #[lv, yv]) rfl
  clear hargs; replace hsz0 : SzN A0 19 := ⟨hsz0⟩
  have hS := St.nil w
  have bh_lv := SlN.le (sl_SlN h_lv.at)
  have bh_yv := SlN.le (sl_SlN h_yv.at)
  refine wp_seq_k (fun K1 hK1 => ?_)
  -- region 0
  refine region_in ?_
  refine W_boxS (zs := #[lv, yv]) hS rfl rfl rfl l0_0 (by rfl) (fun g2 w2 c2 hc2 hS2 => ?_)
  replace hS2 : St w NoX [c2] w2 := hS2
  refine W_v rfl rfl (V_asg rfl rfl) ?_
  refine W_end ?_
  refine gen_Q (fun A3 hA3 => ?_)
  have hsz3 : SzN A3 19 := by rw [hA3]; infer_instance
  have hdf3 : A3.defers = [] := by rw [hA3]; simp only [df_put]; exact hdf0
  have l1_3 := lookE hA3 1 (es rfl (et rfl))
  clear hA3 hsz0 hdf0 l0_0
  refine then_n (hK1 _ _ ?_)
  clear hK1
  refine wp_seq_k (fun K4 hK4 => ?_)
  -- region 1
  refine region_in ?_
  refine W_r rfl rfl (VR_ldA rfl l1_3 (hS2.obj 0 rfl hc2) Tryd.underlying24 rfl (by kernel_rfl)) ?_
  refine W_call rfl rfl rfl Tryd.func43 (by kernel_rfl) rfl (args1 (et rfl)) (lift0 (rCheck_c (hS2.roC h_lv).ints (hS2.roC h_yv).ints)) ?_
  rintro _ w5 ⟨rfl, hP5⟩
  refine ⟨_, rfl, ?_⟩
  have hS5 := hS2.join hP5
  replace hS5 : St w NoX [c2] w5 := hS5
  refine W_v rfl rfl (V_mov rfl (et rfl)) ?_
  refine W_v rfl rfl (V_ext (v := .int .i64 ((chk lo yo).1)) rfl (et rfl) rfl) ?_
  refine W_v rfl rfl (V_ext (v := .int .i64 ((chk lo yo).2.1)) rfl (es rfl (et rfl)) rfl) ?_
  refine W_v rfl rfl (V_ext (v := .int .i64 ((chk lo yo).2.2)) rfl (es rfl (es rfl (et rfl))) rfl) ?_
  refine W_v rfl rfl (V_asg rfl (es rfl (es rfl (et rfl)))) ?_
  refine W_v rfl rfl (V_asg rfl (es rfl (es rfl (et rfl)))) ?_
  refine W_v rfl rfl (V_asg rfl (es rfl (es rfl (et rfl)))) ?_
  refine W_end ?_
  refine gen_Q (fun A6 hA6 => ?_)
  have hsz6 : SzN A6 19 := by rw [hA6]; infer_instance
  have hdf6 : A6.defers = [] := by rw [hA6]; simp only [df_put]; exact hdf3
  have l1_6 := lookE hA6 1 (es rfl (es rfl (es rfl (es rfl (es rfl (es rfl (es rfl (es rfl (es rfl l1_3)))))))))
  have l5_6 := lookE hA6 5 (et rfl)
  clear hA6 hsz3 hdf3 l1_3
  refine then_n (hK4 _ _ ?_)
  clear hK4
  refine wp_seq_k (fun K7 hK7 => ?_)
  -- region 2
  refine region_in ?_
  refine W_r rfl rfl (VR_ldA rfl l1_6 (hS5.obj 0 rfl hc2) Tryd.underlying24 rfl (by kernel_rfl)) ?_
  refine W_call rfl rfl rfl Tryd.func11 (by kernel_rfl) rfl (args1 (et rfl)) (lift0 (Far_c (hS5.roC h_lv).ints (hS5.roC h_yv).ints)) ?_
  rintro _ w8 ⟨rfl, hP8⟩
  refine ⟨_, rfl, ?_⟩
  have hS8 := hS5.join hP8
  replace hS8 : St w NoX [c2] w8 := hS8
  refine W_v rfl rfl (V_notd rfl (et rfl)) ?_
  refine W_split rfl rfl (V_mov rfl (et rfl)) (fun c9 => ?_) (fun c9 => ?_)
  · skip
    refine W_v rfl (wanted_t rfl rfl (et rfl) (ez rfl)) (V_mov rfl (es rfl (es rfl (es rfl (es rfl l5_6))))) ?_
    refine W_v rfl (wanted_t rfl rfl (es rfl (et rfl)) (ez rfl)) (V_eql rfl (et rfl) rfl) ?_
    refine W_v rfl rfl (V_pickT rfl (es rfl (es rfl (et rfl))) (et rfl)) ?_
    refine W_v rfl rfl (V_asg rfl (et rfl)) ?_
    refine W_end ?_
    refine gen_Q (fun A10 hA10 => ?_)
    have hsz10 : SzN A10 19 := by rw [hA10]; infer_instance
    have hdf10 : A10.defers = [] := by rw [hA10]; simp only [df_put]; exact hdf6
    have l2_10 := lookE hA10 2 (et rfl)
    clear hA10 hsz6 hdf6 l1_6 l5_6
    have hS11 : St w NoX [] w8 := hS8.sel [] (by decide) rfl
    refine then_n (hK7 _ _ ?_)
    clear hK7
    refine wp_ret ?_
    refine ret_in (results_1 Tryd.results24 (rv_tmp l2_10)) hdf10 ?_
    -- leaf T
    rw [show (decide (¬ (30 < lo.length ∨ 30 < yo.length) ∧ (chk lo yo).2.2 = 0)) = decide ((chk lo yo).2.2 = 0) by exact decide_eq_decide.2 ⟨fun h => h.2, fun h => ⟨by assumption, h⟩⟩]
    exact ⟨rfl, hS11.fin0⟩
  · skip
    refine W_off rfl (wanted_f rfl rfl (et rfl) (ez rfl) rfl) ?_
    refine W_off rfl (wanted_f rfl rfl (es rfl (et rfl)) (ez rfl) rfl) ?_
    refine W_v rfl rfl (V_pickF rfl (es rfl (es rfl (et rfl))) rfl) ?_
    refine W_v rfl rfl (V_asg rfl (et rfl)) ?_
    refine W_end ?_
    refine gen_Q (fun A12 hA12 => ?_)
    have hsz12 : SzN A12 19 := by rw [hA12]; infer_instance
    have hdf12 : A12.defers = [] := by rw [hA12]; simp only [df_put]; exact hdf6
    have l2_12 := lookE hA12 2 (et rfl)
    clear hA12 hsz6 hdf6 l1_6 l5_6
    have hS13 : St w NoX [] w8 := hS8.sel [] (by decide) rfl
    refine then_n (hK7 _ _ ?_)
    clear hK7
    refine wp_ret ?_
    refine ret_in (results_1 Tryd.results24 (rv_tmp l2_12)) hdf12 ?_
    -- leaf F
    rw [show (decide (¬ (30 < lo.length ∨ 30 < yo.length) ∧ (chk lo yo).2.2 = 0)) = false by exact decide_eq_false (fun h => c9 h.1)]
    exact ⟨rfl, hS13.fin0⟩

end Go.Proofs.YtodbfgfbkgpooaaDoor