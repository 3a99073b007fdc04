import Derived.Test.YtbnijekjaafoaaaProg
import Derived.Test.YtbnijekjaafoaaaRt6
namespace Go.Proofs.Ytbnijekjaafoaaa
open Go.RowKit Go.Own Go.Own.R


set_option maxHeartbeats 4000000 in
theorem RootsKnown_c  {w : World}   :
    Calls Try.prog 8 #[] w fun e w' => e = .returned (.bool true) ∧ St w NoX [] w' := by
  refine calls_in 121 Try.func8 rfl rfl (by simp) (fun A0 hsz0 hdf0 hargs => ?_)
  clear hargs; replace hsz0 : SzN A0 121 := ⟨hsz0⟩
  have hS := St.nil w
  refine wp_seq_k (fun K1 hK1 => ?_)
  -- region 0
  refine region_in ?_
  refine W_v rfl rfl (V_asg rfl rfl) ?_
  refine W_end ?_
  refine gen_Q (fun A2 hA2 => ?_)
  have hsz2 : SzN A2 121 := by rw [hA2]; infer_instance
  have hdf2 : A2.defers = [] := by rw [hA2]; simp only [df_put]; exact hdf0
  clear hA2 hsz0 hdf0
  refine then_n (hK1 _ _ ?_)
  clear hK1
  refine wp_seq_k (fun K3 hK3 => ?_)
  -- region 1
  refine region_in ?_
  have hll4 : [5, 0, 9, 5].length = 4 := rfl
  refine W_litS (vs := [.int .i64 5, .int .i64 0, .int .i64 9, .int .i64 5]) (xs := ([5, 0, 9, 5].map (Value.int .i64))) 1 hS rfl rfl rfl (parts4 rfl rfl rfl rfl) rfl Try.underlying22 (by kernel_rfl) (by decide) (by intro v hv; simp only [List.mem_cons, List.not_mem_nil, or_false] at hv; rcases hv with rfl | rfl | rfl | rfl <;> rfl) (by rfl) (fun g4 w4 c4 hc4 hS4 => ?_)
  replace hc4 : c4 = io .i64 (.slice (some ⟨g4, 0, none⟩) 4 4) [5, 0, 9, 5] := hc4
  replace hS4 : St w NoX [c4] w4 := hS4
  refine W_v rfl rfl (V_asg rfl (et rfl)) ?_
  refine W_end ?_
  refine gen_Q (fun A5 hA5 => ?_)
  have hsz5 : SzN A5 121 := by rw [hA5]; infer_instance
  have hdf5 : A5.defers = [] := by rw [hA5]; simp only [df_put]; exact hdf2
  have l1_5 := lookE hA5 1 (et rfl)
  clear hA5 hsz2 hdf2
  refine then_n (hK3 _ _ ?_)
  clear hK3
  refine wp_seq_k (fun K6 hK6 => ?_)
  -- region 2
  refine region_in ?_
  refine W_v rfl rfl (V_mov rfl l1_5) ?_
  refine W_call rfl rfl rfl Try.func13 (by kernel_rfl) rfl (args3 (et rfl) rfl rfl) (kIn_c (f := 0) (t := 10) (hS4.chC 0 rfl hc4).own ) ?_
  rintro _ w7 ⟨rfl, hP7⟩
  refine ⟨_, rfl, ?_⟩
  have hS7 := hS4.join hP7
  replace hS7 : St w NoX [c4] w7 := hS7
  refine W_v rfl rfl (V_mov rfl (et rfl)) ?_
  refine W_v rfl rfl (V_ext (v := .int .i64 ((inI [5, 0, 9, 5] 0 10))) rfl (et rfl) rfl) ?_
  refine W_v rfl rfl (V_ext (v := .int .i64 ((inN [5, 0, 9, 5] 0 10))) rfl (es rfl (et rfl)) rfl) ?_
  refine W_v rfl rfl (V_ext (v := .int .i64 ((inE [5, 0, 9, 5] 0 10))) rfl (es rfl (es rfl (et rfl))) rfl) ?_
  refine W_v rfl rfl (V_asg rfl (es rfl (es rfl (et rfl)))) ?_
  refine W_v rfl rfl (V_asg rfl (es rfl (es rfl (et rfl)))) ?_
  refine W_v rfl rfl (V_asg rfl (es rfl (es rfl (et rfl)))) ?_
  refine W_end ?_
  refine gen_Q (fun A8 hA8 => ?_)
  have hsz8 : SzN A8 121 := by rw [hA8]; infer_instance
  have hdf8 : A8.defers = [] := by rw [hA8]; simp only [df_put]; exact hdf5
  have l1_8 := lookE hA8 1 (es rfl (es rfl (es rfl (es rfl (es rfl (es rfl (es rfl (es rfl (es rfl l1_5)))))))))
  have l2_8 := lookE hA8 2 (es rfl (es rfl (et rfl)))
  have l3_8 := lookE hA8 3 (es rfl (et rfl))
  have l4_8 := lookE hA8 4 (et rfl)
  clear hA8 hsz5 hdf5 l1_5
  refine then_n (hK6 _ _ ?_)
  clear hK6
  refine wp_seq_k (fun K9 hK9 => ?_)
  -- region 3
  refine region_in ?_
  refine W_v rfl rfl (V_mov rfl l1_8) ?_
  refine W_v rfl rfl (V_bldS (n := 2) (z := .agg #[.int .i64 0, .int .i64 0]) rfl (parts2 rfl rfl) (by kernel_rfl) (by simp only [List.all_cons, List.all_nil, Bool.and_true] <;> rfl) (by kernel_rfl) (by simp only [List.foldl_cons, List.foldl_nil, Value.cells, List.setIfInBounds_toArray, List.set_cons_succ, List.set_cons_zero] <;> rfl)) ?_
  have hll10 : [(5, 5)].length = 1 := rfl
  refine W_litS (vs := [.agg #[.int .i64 5, .int .i64 5]]) (xs := ([(5, 5)].flatMap mvC)) 2 hS7 rfl rfl rfl (parts1 (et rfl)) rfl Try.underlying33 (by kernel_rfl) (by decide) (by intro v hv; simp only [List.mem_cons, List.not_mem_nil, or_false] at hv; rcases hv with rfl <;> rfl) (by rfl) (fun g10 w10 c10 hc10 hS10 => ?_)
  replace hc10 : c10 = ro 2 mvC (.slice (some ⟨g10, 0, none⟩) 1 1) [(5, 5)] := hc10
  replace hS10 : St w NoX [c10, c4] w10 := hS10
  refine W_call rfl rfl rfl Try.func20 (by kernel_rfl) rfl (args2 (es rfl (es rfl (et rfl))) (et rfl)) (kFw_c (hS10.chC 1 rfl hc4).own (hS10.chC 0 rfl hc10).own ) ?_
  rintro _ w11 ⟨v_11, rfl, hP11⟩
  refine ⟨_, rfl, ?_⟩
  obtain ⟨c_11, hc_11, hP11⟩ := gen1 hP11
  have hS11 := hS10.join hP11
  replace hS11 : St w NoX [c_11, c10, c4] w11 := hS11
  refine W_v rfl rfl (V_mov rfl (et rfl)) ?_
  refine W_v rfl rfl (V_ext (v := v_11) rfl (et rfl) rfl) ?_
  refine W_v rfl rfl (V_ext (v := .int .i64 ((fwN [5, 0, 9, 5] [(5, 5)]))) rfl (es rfl (et rfl)) rfl) ?_
  refine W_v rfl rfl (V_ext (v := .int .i64 ((fwE [5, 0, 9, 5] [(5, 5)]))) rfl (es rfl (es rfl (et rfl))) rfl) ?_
  refine W_v rfl rfl (V_asg rfl (es rfl (es rfl (et rfl)))) ?_
  refine W_v rfl rfl (V_asg rfl (es rfl (es rfl (et rfl)))) ?_
  refine W_v rfl rfl (V_asg rfl (es rfl (es rfl (et rfl)))) ?_
  refine W_end ?_
  refine gen_Q (fun A12 hA12 => ?_)
  have hsz12 : SzN A12 121 := by rw [hA12]; infer_instance
  have hdf12 : A12.defers = [] := by rw [hA12]; simp only [df_put]; exact hdf8
  have l1_12 := lookE hA12 1 (es rfl (es rfl (es rfl (es rfl (es rfl (es rfl (es rfl (es rfl (es rfl (es rfl (es rfl l1_8)))))))))))
  have l2_12 := lookE hA12 2 (es rfl (es rfl (es rfl (es rfl (es rfl (es rfl (es rfl (es rfl (es rfl (es rfl (es rfl l2_8)))))))))))
  have l3_12 := lookE hA12 3 (es rfl (es rfl (es rfl (es rfl (es rfl (es rfl (es rfl (es rfl (es rfl (es rfl (es rfl l3_8)))))))))))
  have l4_12 := lookE hA12 4 (es rfl (es rfl (es rfl (es rfl (es rfl (es rfl (es rfl (es rfl (es rfl (es rfl (es rfl l4_8)))))))))))
  have l5_12 := lookE hA12 5 (es rfl (es rfl (et rfl)))
  have l6_12 := lookE hA12 6 (es rfl (et rfl))
  have l7_12 := lookE hA12 7 (et rfl)
  clear hA12 hsz8 hdf8 l1_8 l2_8 l3_8 l4_8
  have hS13 : St w NoX [c_11, c4] w11 := hS11.sel [0, 2] (by decide) rfl
  refine then_n (hK9 _ _ ?_)
  clear hK9
  refine wp_seq_k (fun K14 hK14 => ?_)
  -- region 4
  refine region_in ?_
  refine W_v rfl rfl (V_mov rfl l1_12) ?_
  refine W_v rfl rfl (V_bldS (n := 2) (z := .agg #[.int .i64 0, .int .i64 0]) rfl (parts2 rfl rfl) (by kernel_rfl) (by simp only [List.all_cons, List.all_nil, Bool.and_true] <;> rfl) (by kernel_rfl) (by simp only [List.foldl_cons, List.foldl_nil, Value.cells, List.setIfInBounds_toArray, List.set_cons_succ, List.set_cons_zero] <;> rfl)) ?_
  have hll15 : [(4, 6)].length = 1 := rfl
  refine W_litS (vs := [.agg #[.int .i64 4, .int .i64 6]]) (xs := ([(4, 6)].flatMap mvC)) 2 hS13 rfl rfl rfl (parts1 (et rfl)) rfl Try.underlying33 (by kernel_rfl) (by decide) (by intro v hv; simp only [List.mem_cons, List.not_mem_nil, or_false] at hv; rcases hv with rfl <;> rfl) (by rfl) (fun g15 w15 c15 hc15 hS15 => ?_)
  replace hc15 : c15 = ro 2 mvC (.slice (some ⟨g15, 0, none⟩) 1 1) [(4, 6)] := hc15
  replace hS15 : St w NoX [c15, c_11, c4] w15 := hS15
  refine W_call rfl rfl rfl Try.func20 (by kernel_rfl) rfl (args2 (es rfl (es rfl (et rfl))) (et rfl)) (kFw_c (hS15.chC 2 rfl hc4).own (hS15.chC 0 rfl hc15).own ) ?_
  rintro _ w16 ⟨v_16, rfl, hP16⟩
  refine ⟨_, rfl, ?_⟩
  obtain ⟨c_16, hc_16, hP16⟩ := gen1 hP16
  have hS16 := hS15.join hP16
  replace hS16 : St w NoX [c_16, c15, c_11, c4] w16 := hS16
  refine W_v rfl rfl (V_mov rfl (et rfl)) ?_
  refine W_v rfl rfl (V_ext (v := v_16) rfl (et rfl) rfl) ?_
  refine W_v rfl rfl (V_ext (v := .int .i64 ((fwN [5, 0, 9, 5] [(4, 6)]))) rfl (es rfl (et rfl)) rfl) ?_
  refine W_v rfl rfl (V_ext (v := .int .i64 ((fwE [5, 0, 9, 5] [(4, 6)]))) rfl (es rfl (es rfl (et rfl))) rfl) ?_
  refine W_v rfl rfl (V_asg rfl (es rfl (es rfl (et rfl)))) ?_
  refine W_v rfl rfl (V_asg rfl (es rfl (es rfl (et rfl)))) ?_
  refine W_v rfl rfl (V_asg rfl (es rfl (es rfl (et rfl)))) ?_
  refine W_end ?_
  refine gen_Q (fun A17 hA17 => ?_)
  have hsz17 : SzN A17 121 := by rw [hA17]; infer_instance
  have hdf17 : A17.defers = [] := by rw [hA17]; simp only [df_put]; exact hdf12
  have l1_17 := lookE hA17 1 (es rfl (es rfl (es rfl (es rfl (es rfl (es rfl (es rfl (es rfl (es rfl (es rfl (es rfl l1_12)))))))))))
  have l2_17 := lookE hA17 2 (es rfl (es rfl (es rfl (es rfl (es rfl (es rfl (es rfl (es rfl (es rfl (es rfl (es rfl l2_12)))))))))))
  have l3_17 := lookE hA17 3 (es rfl (es rfl (es rfl (es rfl (es rfl (es rfl (es rfl (es rfl (es rfl (es rfl (es rfl l3_12)))))))))))
  have l4_17 := lookE hA17 4 (es rfl (es rfl (es rfl (es rfl (es rfl (es rfl (es rfl (es rfl (es rfl (es rfl (es rfl l4_12)))))))))))
  have l5_17 := lookE hA17 5 (es rfl (es rfl (es rfl (es rfl (es rfl (es rfl (es rfl (es rfl (es rfl (es rfl (es rfl l5_12)))))))))))
  have l6_17 := lookE hA17 6 (es rfl (es rfl (es rfl (es rfl (es rfl (es rfl (es rfl (es rfl (es rfl (es rfl (es rfl l6_12)))))))))))
  have l7_17 := lookE hA17 7 (es rfl (es rfl (es rfl (es rfl (es rfl (es rfl (es rfl (es rfl (es rfl (es rfl (es rfl l7_12)))))))))))
  have l8_17 := lookE hA17 8 (es rfl (es rfl (et rfl)))
  have l9_17 := lookE hA17 9 (es rfl (et rfl))
  have l10_17 := lookE hA17 10 (et rfl)
  clear hA17 hsz12 hdf12 l1_12 l2_12 l3_12 l4_12 l5_12 l6_12 l7_12
  have hS18 : St w NoX [c_16, c_11, c4] w16 := hS16.sel [0, 2, 3] (by decide) rfl
  refine then_n (hK14 _ _ ?_)
  clear hK14
  refine wp_seq_k (fun K19 hK19 => ?_)
  -- region 5
  refine region_in ?_
  refine W_v rfl rfl (V_bldS (n := 2) (z := .agg #[.int .i64 0, .int .i64 0]) rfl (parts1 rfl) (by kernel_rfl) (by simp only [List.all_cons, List.all_nil, Bool.and_true] <;> rfl) (by kernel_rfl) (by simp only [List.foldl_cons, List.foldl_nil, Value.cells, List.setIfInBounds_toArray, List.set_cons_succ, List.set_cons_zero] <;> rfl)) ?_
  have hll20 : [(0, 7)].length = 1 := rfl
  refine W_litS (vs := [.agg #[.int .i64 0, .int .i64 7]]) (xs := ([(0, 7)].flatMap mvC)) 2 hS18 rfl rfl rfl (parts1 (et rfl)) rfl Try.underlying33 (by kernel_rfl) (by decide) (by intro v hv; simp only [List.mem_cons, List.not_mem_nil, or_false] at hv; rcases hv with rfl <;> rfl) (by rfl) (fun g20 w20 c20 hc20 hS20 => ?_)
  replace hc20 : c20 = ro 2 mvC (.slice (some ⟨g20, 0, none⟩) 1 1) [(0, 7)] := hc20
  replace hS20 : St w NoX [c20, c_16, c_11, c4] w20 := hS20
  refine W_call rfl rfl rfl Try.func18 (by kernel_rfl) rfl (args1 (et rfl)) (kMs_c (hS20.chC 0 rfl hc20).own ) ?_
  rintro _ w21 ⟨rfl, hP21⟩
  refine ⟨_, rfl, ?_⟩
  have hS21 := hS20.join hP21
  replace hS21 : St w NoX [c20, c_16, c_11, c4] w21 := hS21
  refine W_v rfl rfl (V_mov rfl (et rfl)) ?_
  refine W_v rfl rfl (V_ext (v := .int .i64 ((mvR [(0, 7)]).1)) rfl (et rfl) rfl) ?_
  refine W_v rfl rfl (V_ext (v := .int .i64 ((mvR [(0, 7)]).2)) rfl (es rfl (et rfl)) rfl) ?_
  refine W_v rfl rfl (V_asg rfl (es rfl (et rfl))) ?_
  refine W_v rfl rfl (V_asg rfl (es rfl (et rfl))) ?_
  refine W_end ?_
  refine gen_Q (fun A22 hA22 => ?_)
  have hsz22 : SzN A22 121 := by rw [hA22]; infer_instance
  have hdf22 : A22.defers = [] := by rw [hA22]; simp only [df_put]; exact hdf17
  have l1_22 := lookE hA22 1 (es rfl (es rfl (es rfl (es rfl (es rfl (es rfl (es rfl (es rfl l1_17))))))))
  have l2_22 := lookE hA22 2 (es rfl (es rfl (es rfl (es rfl (es rfl (es rfl (es rfl (es rfl l2_17))))))))
  have l3_22 := lookE hA22 3 (es rfl (es rfl (es rfl (es rfl (es rfl (es rfl (es rfl (es rfl l3_17))))))))
  have l4_22 := lookE hA22 4 (es rfl (es rfl (es rfl (es rfl (es rfl (es rfl (es rfl (es rfl l4_17))))))))
  have l5_22 := lookE hA22 5 (es rfl (es rfl (es rfl (es rfl (es rfl (es rfl (es rfl (es rfl l5_17))))))))
  have l6_22 := lookE hA22 6 (es rfl (es rfl (es rfl (es rfl (es rfl (es rfl (es rfl (es rfl l6_17))))))))
  have l7_22 := lookE hA22 7 (es rfl (es rfl (es rfl (es rfl (es rfl (es rfl (es rfl (es rfl l7_17))))))))
  have l8_22 := lookE hA22 8 (es rfl (es rfl (es rfl (es rfl (es rfl (es rfl (es rfl (es rfl l8_17))))))))
  have l9_22 := lookE hA22 9 (es rfl (es rfl (es rfl (es rfl (es rfl (es rfl (es rfl (es rfl l9_17))))))))
  have l10_22 := lookE hA22 10 (es rfl (es rfl (es rfl (es rfl (es rfl (es rfl (es rfl (es rfl l10_17))))))))
  have l11_22 := lookE hA22 11 (es rfl (et rfl))
  have l12_22 := lookE hA22 12 (et rfl)
  clear hA22 hsz17 hdf17 l1_17 l2_17 l3_17 l4_17 l5_17 l6_17 l7_17 l8_17 l9_17 l10_17
  have hS23 : St w NoX [c_16, c_11, c4] w21 := hS21.sel [1, 2, 3] (by decide) rfl
  refine then_n (hK19 _ _ ?_)
  clear hK19
  refine wp_seq_k (fun K24 hK24 => ?_)
  -- region 6
  refine region_in ?_
  refine W_v rfl rfl (V_mov rfl l1_22) ?_
  refine W_call rfl rfl rfl Try.func24 (by kernel_rfl) rfl (args3 (et rfl) rfl rfl) (kSt_c (a := 1) (x := 9) (hS23.chC 2 rfl hc4).own ) ?_
  rintro _ w25 ⟨v_25, rfl, hP25⟩
  refine ⟨_, rfl, ?_⟩
  obtain ⟨c_25, hc_25, hP25⟩ := gen1 hP25
  have hS25 := hS23.join hP25
  replace hS25 : St w NoX [c_25, c_16, c_11, c4] w25 := hS25
  refine W_v rfl rfl (V_mov rfl (et rfl)) ?_
  refine W_v rfl rfl (V_ext (v := v_25) rfl (et rfl) rfl) ?_
  refine W_v rfl rfl (V_ext (v := .int .i64 ((stE [5, 0, 9, 5] 1 9))) rfl (es rfl (et rfl)) rfl) ?_
  refine W_v rfl rfl (V_asg rfl (es rfl (et rfl))) ?_
  refine W_v rfl rfl (V_asg rfl (es rfl (et rfl))) ?_
  refine W_end ?_
  refine gen_Q (fun A26 hA26 => ?_)
  have hsz26 : SzN A26 121 := by rw [hA26]; infer_instance
  have hdf26 : A26.defers = [] := by rw [hA26]; simp only [df_put]; exact hdf22
  have l1_26 := lookE hA26 1 (es rfl (es rfl (es rfl (es rfl (es rfl (es rfl (es rfl l1_22)))))))
  have l2_26 := lookE hA26 2 (es rfl (es rfl (es rfl (es rfl (es rfl (es rfl (es rfl l2_22)))))))
  have l3_26 := lookE hA26 3 (es rfl (es rfl (es rfl (es rfl (es rfl (es rfl (es rfl l3_22)))))))
  have l4_26 := lookE hA26 4 (es rfl (es rfl (es rfl (es rfl (es rfl (es rfl (es rfl l4_22)))))))
  have l5_26 := lookE hA26 5 (es rfl (es rfl (es rfl (es rfl (es rfl (es rfl (es rfl l5_22)))))))
  have l6_26 := lookE hA26 6 (es rfl (es rfl (es rfl (es rfl (es rfl (es rfl (es rfl l6_22)))))))
  have l7_26 := lookE hA26 7 (es rfl (es rfl (es rfl (es rfl (es rfl (es rfl (es rfl l7_22)))))))
  have l8_26 := lookE hA26 8 (es rfl (es rfl (es rfl (es rfl (es rfl (es rfl (es rfl l8_22)))))))
  have l9_26 := lookE hA26 9 (es rfl (es rfl (es rfl (es rfl (es rfl (es rfl (es rfl l9_22)))))))
  have l10_26 := lookE hA26 10 (es rfl (es rfl (es rfl (es rfl (es rfl (es rfl (es rfl l10_22)))))))
  have l11_26 := lookE hA26 11 (es rfl (es rfl (es rfl (es rfl (es rfl (es rfl (es rfl l11_22)))))))
  have l12_26 := lookE hA26 12 (es rfl (es rfl (es rfl (es rfl (es rfl (es rfl (es rfl l12_22)))))))
  have l13_26 := lookE hA26 13 (es rfl (et rfl))
  have l14_26 := lookE hA26 14 (et rfl)
  clear hA26 hsz22 hdf22 l1_22 l2_22 l3_22 l4_22 l5_22 l6_22 l7_22 l8_22 l9_22 l10_22 l11_22 l12_22
  refine then_n (hK24 _ _ ?_)
  clear hK24
  refine wp_seq_k (fun K27 hK27 => ?_)
  -- region 7
  refine region_in ?_
  refine W_v rfl rfl (V_mov rfl l1_26) ?_
  refine W_call rfl rfl rfl Try.func25 (by kernel_rfl) rfl (args3 (et rfl) rfl rfl) (kMv_c (a := 0) (b := 1) (hS25.chC 3 rfl hc4).own ) ?_
  rintro _ w28 ⟨v_28, rfl, hP28⟩
  refine ⟨_, rfl, ?_⟩
  obtain ⟨c_28, hc_28, hP28⟩ := gen1 hP28
  have hS28 := hS25.join hP28
  replace hS28 : St w NoX [c_28, c_25, c_16, c_11, c4] w28 := hS28
  refine W_v rfl rfl (V_mov rfl (et rfl)) ?_
  refine W_v rfl rfl (V_ext (v := v_28) rfl (et rfl) rfl) ?_
  refine W_v rfl rfl (V_ext (v := .int .i64 ((nmE [5, 0, 9, 5] [0, 1]))) rfl (es rfl (et rfl)) rfl) ?_
  refine W_v rfl rfl (V_asg rfl (es rfl (et rfl))) ?_
  refine W_v rfl rfl (V_asg rfl (es rfl (et rfl))) ?_
  refine W_end ?_
  refine gen_Q (fun A29 hA29 => ?_)
  have hsz29 : SzN A29 121 := by rw [hA29]; infer_instance
  have hdf29 : A29.defers = [] := by rw [hA29]; simp only [df_put]; exact hdf26
  have l1_29 := lookE hA29 1 (es rfl (es rfl (es rfl (es rfl (es rfl (es rfl (es rfl l1_26)))))))
  have l2_29 := lookE hA29 2 (es rfl (es rfl (es rfl (es rfl (es rfl (es rfl (es rfl l2_26)))))))
  have l3_29 := lookE hA29 3 (es rfl (es rfl (es rfl (es rfl (es rfl (es rfl (es rfl l3_26)))))))
  have l4_29 := lookE hA29 4 (es rfl (es rfl (es rfl (es rfl (es rfl (es rfl (es rfl l4_26)))))))
  have l5_29 := lookE hA29 5 (es rfl (es rfl (es rfl (es rfl (es rfl (es rfl (es rfl l5_26)))))))
  have l6_29 := lookE hA29 6 (es rfl (es rfl (es rfl (es rfl (es rfl (es rfl (es rfl l6_26)))))))
  have l7_29 := lookE hA29 7 (es rfl (es rfl (es rfl (es rfl (es rfl (es rfl (es rfl l7_26)))))))
  have l8_29 := lookE hA29 8 (es rfl (es rfl (es rfl (es rfl (es rfl (es rfl (es rfl l8_26)))))))
  have l9_29 := lookE hA29 9 (es rfl (es rfl (es rfl (es rfl (es rfl (es rfl (es rfl l9_26)))))))
  have l10_29 := lookE hA29 10 (es rfl (es rfl (es rfl (es rfl (es rfl (es rfl (es rfl l10_26)))))))
  have l11_29 := lookE hA29 11 (es rfl (es rfl (es rfl (es rfl (es rfl (es rfl (es rfl l11_26)))))))
  have l12_29 := lookE hA29 12 (es rfl (es rfl (es rfl (es rfl (es rfl (es rfl (es rfl l12_26)))))))
  have l13_29 := lookE hA29 13 (es rfl (es rfl (es rfl (es rfl (es rfl (es rfl (es rfl l13_26)))))))
  have l14_29 := lookE hA29 14 (es rfl (es rfl (es rfl (es rfl (es rfl (es rfl (es rfl l14_26)))))))
  have l15_29 := lookE hA29 15 (es rfl (et rfl))
  have l16_29 := lookE hA29 16 (et rfl)
  clear hA29 hsz26 hdf26 l1_26 l2_26 l3_26 l4_26 l5_26 l6_26 l7_26 l8_26 l9_26 l10_26 l11_26 l12_26 l13_26 l14_26
  refine then_n (hK27 _ _ ?_)
  clear hK27
  refine wp_seq_k (fun K30 hK30 => ?_)
  -- region 8
  refine region_in ?_
  refine W_v rfl rfl (V_mov rfl l2_29) ?_
  refine W_v rfl rfl (V_eql rfl (et rfl) rfl) ?_
  refine W_sure (c' := true) rfl rfl (V_mov rfl (et rfl)) (by decide +kernel) ?_
  refine W_v rfl (wanted_t rfl rfl (et rfl) (ez rfl)) (V_mov rfl (es rfl (es rfl (es rfl l3_29)))) ?_
  refine W_v rfl (wanted_t rfl rfl (es rfl (et rfl)) (ez rfl)) (V_eql rfl (et rfl) rfl) ?_
  refine W_v rfl rfl (V_pickT rfl (es rfl (es rfl (et rfl))) (et rfl)) ?_
  refine W_sure (c' := true) rfl rfl (V_mov rfl (et rfl)) (by decide +kernel) ?_
  refine W_v rfl (wanted_t rfl rfl (et rfl) (ez rfl)) (V_mov rfl (es rfl (es rfl (es rfl (es rfl (es rfl (es rfl (es rfl l4_29)))))))) ?_
  refine W_v rfl (wanted_t rfl rfl (es rfl (et rfl)) (ez rfl)) (V_eql rfl (et rfl) rfl) ?_
  refine W_v rfl rfl (V_pickT rfl (es rfl (es rfl (et rfl))) (et rfl)) ?_
  refine W_sure (c' := true) rfl rfl (V_mov rfl (et rfl)) (by decide +kernel) ?_
  refine W_v rfl (wanted_t rfl rfl (et rfl) (ez rfl)) (V_mov rfl (es rfl (es rfl (es rfl (es rfl (es rfl (es rfl (es rfl (es rfl (es rfl (es rfl (es rfl l5_29)))))))))))) ?_
  refine W_v rfl (wanted_t rfl rfl (es rfl (et rfl)) (ez rfl)) (V_mov rfl (es rfl (es rfl (es rfl (es rfl (es rfl (es rfl (es rfl (es rfl (es rfl (es rfl (es rfl (es rfl l1_29))))))))))))) ?_
  refine W_call rfl (wanted_t rfl rfl (es rfl (es rfl (et rfl))) (ez rfl)) rfl Try.func17 (by kernel_rfl) rfl (args2 (es rfl (et rfl)) (et rfl)) (qInts_c (hS28.chC 3 rfl hc_11).own (hS28.chC 4 rfl hc4).own ) ?_
  rintro _ w31 ⟨rfl, hP31⟩
  refine ⟨_, rfl, ?_⟩
  have hS31 := hS28.join hP31
  replace hS31 : St w NoX [c_28, c_25, c_16, c_11, c4] w31 := hS31
  refine W_v rfl rfl (V_pickT rfl (es rfl (es rfl (es rfl (et rfl)))) (et rfl)) ?_
  refine W_sure (c' := true) rfl rfl (V_mov rfl (et rfl)) (by decide +kernel) ?_
  refine W_v rfl (wanted_t rfl rfl (et rfl) (ez rfl)) (V_mov rfl (es rfl (es rfl (es rfl (es rfl (es rfl (es rfl (es rfl (es rfl (es rfl (es rfl (es rfl (es rfl (es rfl (es rfl (es rfl (es rfl l6_29))))))))))))))))) ?_
  refine W_v rfl (wanted_t rfl rfl (es rfl (et rfl)) (ez rfl)) (V_eql rfl (et rfl) rfl) ?_
  refine W_v rfl rfl (V_pickT rfl (es rfl (es rfl (et rfl))) (et rfl)) ?_
  refine W_sure (c' := true) rfl rfl (V_mov rfl (et rfl)) (by decide +kernel) ?_
  refine W_v rfl (wanted_t rfl rfl (et rfl) (ez rfl)) (V_mov rfl (es rfl (es rfl (es rfl (es rfl (es rfl (es rfl (es rfl (es rfl (es rfl (es rfl (es rfl (es rfl (es rfl (es rfl (es rfl (es rfl (es rfl (es rfl (es rfl (es rfl l7_29))))))))))))))))))))) ?_
  refine W_v rfl (wanted_t rfl rfl (es rfl (et rfl)) (ez rfl)) (V_eql rfl (et rfl) rfl) ?_
  refine W_v rfl rfl (V_pickT rfl (es rfl (es rfl (et rfl))) (et rfl)) ?_
  refine W_sure (c' := true) rfl rfl (V_mov rfl (et rfl)) (by decide +kernel) ?_
  refine W_v rfl (wanted_t rfl rfl (et rfl) (ez rfl)) (V_mov rfl (es rfl (es rfl (es rfl (es rfl (es rfl (es rfl (es rfl (es rfl (es rfl (es rfl (es rfl (es rfl (es rfl (es rfl (es rfl (es rfl (es rfl (es rfl (es rfl (es rfl (es rfl (es rfl (es rfl (es rfl l8_29))))))))))))))))))))))))) ?_
  refine W_v rfl (wanted_t rfl rfl (es rfl (et rfl)) (ez rfl)) (V_mov rfl (es rfl (es rfl (es rfl (es rfl (es rfl (es rfl (es rfl (es rfl (es rfl (es rfl (es rfl (es rfl (es rfl (es rfl (es rfl (es rfl (es rfl (es rfl (es rfl (es rfl (es rfl (es rfl (es rfl (es rfl (es rfl l1_29)))))))))))))))))))))))))) ?_
  refine W_call rfl (wanted_t rfl rfl (es rfl (es rfl (et rfl))) (ez rfl)) rfl Try.func17 (by kernel_rfl) rfl (args2 (es rfl (et rfl)) (et rfl)) (qInts_c (hS31.chC 2 rfl hc_16).own (hS31.chC 4 rfl hc4).own ) ?_
  rintro _ w32 ⟨rfl, hP32⟩
  refine ⟨_, rfl, ?_⟩
  have hS32 := hS31.join hP32
  replace hS32 : St w NoX [c_28, c_25, c_16, c_11, c4] w32 := hS32
  refine W_v rfl rfl (V_pickT rfl (es rfl (es rfl (es rfl (et rfl)))) (et rfl)) ?_
  refine W_sure (c' := true) rfl rfl (V_mov rfl (et rfl)) (by decide +kernel) ?_
  refine W_v rfl (wanted_t rfl rfl (et rfl) (ez rfl)) (V_mov rfl (es rfl (es rfl (es rfl (es rfl (es rfl (es rfl (es rfl (es rfl (es rfl (es rfl (es rfl (es rfl (es rfl (es rfl (es rfl (es rfl (es rfl (es rfl (es rfl (es rfl (es rfl (es rfl (es rfl (es rfl (es rfl (es rfl (es rfl (es rfl (es rfl l9_29)))))))))))))))))))))))))))))) ?_
  refine W_v rfl (wanted_t rfl rfl (es rfl (et rfl)) (ez rfl)) (V_eql rfl (et rfl) rfl) ?_
  refine W_v rfl rfl (V_pickT rfl (es rfl (es rfl (et rfl))) (et rfl)) ?_
  refine W_sure (c' := true) rfl rfl (V_mov rfl (et rfl)) (by decide +kernel) ?_
  refine W_v rfl (wanted_t rfl rfl (et rfl) (ez rfl)) (V_mov rfl (es rfl (es rfl (es rfl (es rfl (es rfl (es rfl (es rfl (es rfl (es rfl (es rfl (es rfl (es rfl (es rfl (es rfl (es rfl (es rfl (es rfl (es rfl (es rfl (es rfl (es rfl (es rfl (es rfl (es rfl (es rfl (es rfl (es rfl (es rfl (es rfl (es rfl (es rfl (es rfl (es rfl l10_29)))))))))))))))))))))))))))))))))) ?_
  refine W_v rfl (wanted_t rfl rfl (es rfl (et rfl)) (ez rfl)) (V_eql rfl (et rfl) rfl) ?_
  refine W_v rfl rfl (V_pickT rfl (es rfl (es rfl (et rfl))) (et rfl)) ?_
  refine W_sure (c' := true) rfl rfl (V_mov rfl (et rfl)) (by decide +kernel) ?_
  refine W_v rfl (wanted_t rfl rfl (et rfl) (ez rfl)) (V_mov rfl (es rfl (es rfl (es rfl (es rfl (es rfl (es rfl (es rfl (es rfl (es rfl (es rfl (es rfl (es rfl (es rfl (es rfl (es rfl (es rfl (es rfl (es rfl (es rfl (es rfl (es rfl (es rfl (es rfl (es rfl (es rfl (es rfl (es rfl (es rfl (es rfl (es rfl (es rfl (es rfl (es rfl (es rfl (es rfl (es rfl (es rfl l11_29)))))))))))))))))))))))))))))))))))))) ?_
  refine W_v rfl (wanted_t rfl rfl (es rfl (et rfl)) (ez rfl)) (V_eql rfl (et rfl) rfl) ?_
  refine W_v rfl rfl (V_pickT rfl (es rfl (es rfl (et rfl))) (et rfl)) ?_
  refine W_sure (c' := true) rfl rfl (V_mov rfl (et rfl)) (by decide +kernel) ?_
  refine W_v rfl (wanted_t rfl rfl (et rfl) (ez rfl)) (V_mov rfl (es rfl (es rfl (es rfl (es rfl (es rfl (es rfl (es rfl (es rfl (es rfl (es rfl (es rfl (es rfl (es rfl (es rfl (es rfl (es rfl (es rfl (es rfl (es rfl (es rfl (es rfl (es rfl (es rfl (es rfl (es rfl (es rfl (es rfl (es rfl (es rfl (es rfl (es rfl (es rfl (es rfl (es rfl (es rfl (es rfl (es rfl (es rfl (es rfl (es rfl (es rfl l12_29)))))))))))))))))))))))))))))))))))))))))) ?_
  refine W_v rfl (wanted_t rfl rfl (es rfl (et rfl)) (ez rfl)) (V_eql rfl (et rfl) rfl) ?_
  refine W_v rfl rfl (V_pickT rfl (es rfl (es rfl (et rfl))) (et rfl)) ?_
  refine W_sure (c' := true) rfl rfl (V_mov rfl (et rfl)) (by decide +kernel) ?_
  refine W_v rfl (wanted_t rfl rfl (et rfl) (ez rfl)) (V_mov rfl (es rfl (es rfl (es rfl (es rfl (es rfl (es rfl (es rfl (es rfl (es rfl (es rfl (es rfl (es rfl (es rfl (es rfl (es rfl (es rfl (es rfl (es rfl (es rfl (es rfl (es rfl (es rfl (es rfl (es rfl (es rfl (es rfl (es rfl (es rfl (es rfl (es rfl (es rfl (es rfl (es rfl (es rfl (es rfl (es rfl (es rfl (es rfl (es rfl (es rfl (es rfl (es rfl (es rfl (es rfl (es rfl l13_29)))))))))))))))))))))))))))))))))))))))))))))) ?_
  have hll33 : [5, 9, 9, 5].length = 4 := rfl
  refine W_litS (vs := [.int .i64 5, .int .i64 9, .int .i64 9, .int .i64 5]) (xs := ([5, 9, 9, 5].map (Value.int .i64))) 1 hS32 rfl (wanted_t rfl rfl (es rfl (et rfl)) (ez rfl)) rfl (parts4 rfl rfl rfl rfl) rfl Try.underlying22 (by kernel_rfl) (by decide) (by intro v hv; simp only [List.mem_cons, List.not_mem_nil, or_false] at hv; rcases hv with rfl | rfl | rfl | rfl <;> rfl) (by rfl) (fun g33 w33 c33 hc33 hS33 => ?_)
  replace hc33 : c33 = io .i64 (.slice (some ⟨g33, 0, none⟩) 4 4) [5, 9, 9, 5] := hc33
  replace hS33 : St w NoX [c33, c_28, c_25, c_16, c_11, c4] w33 := hS33
  refine W_call rfl (wanted_t rfl rfl (es rfl (es rfl (et rfl))) (ez rfl)) rfl Try.func17 (by kernel_rfl) rfl (args2 (es rfl (et rfl)) (et rfl)) (qInts_c (hS33.chC 2 rfl hc_25).own (hS33.chC 0 rfl hc33).own ) ?_
  rintro _ w34 ⟨rfl, hP34⟩
  refine ⟨_, rfl, ?_⟩
  have hS34 := hS33.join hP34
  replace hS34 : St w NoX [c33, c_28, c_25, c_16, c_11, c4] w34 := hS34
  refine W_v rfl rfl (V_pickT rfl (es rfl (es rfl (es rfl (et rfl)))) (et rfl)) ?_
  refine W_sure (c' := true) rfl rfl (V_mov rfl (et rfl)) (by decide +kernel) ?_
  refine W_v rfl (wanted_t rfl rfl (et rfl) (ez rfl)) (V_mov rfl (es rfl (es rfl (es rfl (es rfl (es rfl (es rfl (es rfl (es rfl (es rfl (es rfl (es rfl (es rfl (es rfl (es rfl (es rfl (es rfl (es rfl (es rfl (es rfl (es rfl (es rfl (es rfl (es rfl (es rfl (es rfl (es rfl (es rfl (es rfl (es rfl (es rfl (es rfl (es rfl (es rfl (es rfl (es rfl (es rfl (es rfl (es rfl (es rfl (es rfl (es rfl (es rfl (es rfl (es rfl (es rfl (es rfl (es rfl (es rfl (es rfl (es rfl l14_29))))))))))))))))))))))))))))))))))))))))))))))))))) ?_
  refine W_v rfl (wanted_t rfl rfl (es rfl (et rfl)) (ez rfl)) (V_eql rfl (et rfl) rfl) ?_
  refine W_v rfl rfl (V_pickT rfl (es rfl (es rfl (et rfl))) (et rfl)) ?_
  refine W_sure (c' := true) rfl rfl (V_mov rfl (et rfl)) (by decide +kernel) ?_
  refine W_v rfl (wanted_t rfl rfl (et rfl) (ez rfl)) (V_mov rfl (es rfl (es rfl (es rfl (es rfl (es rfl (es rfl (es rfl (es rfl (es rfl (es rfl (es rfl (es rfl (es rfl (es rfl (es rfl (es rfl (es rfl (es rfl (es rfl (es rfl (es rfl (es rfl (es rfl (es rfl (es rfl (es rfl (es rfl (es rfl (es rfl (es rfl (es rfl (es rfl (es rfl (es rfl (es rfl (es rfl (es rfl (es rfl (es rfl (es rfl (es rfl (es rfl (es rfl (es rfl (es rfl (es rfl (es rfl (es rfl (es rfl (es rfl (es rfl (es rfl (es rfl (es rfl l15_29))))))))))))))))))))))))))))))))))))))))))))))))))))))) ?_
  have hll35 : [0, 0, 9, 5].length = 4 := rfl
  refine W_litS (vs := [.int .i64 0, .int .i64 0, .int .i64 9, .int .i64 5]) (xs := ([0, 0, 9, 5].map (Value.int .i64))) 1 hS34 rfl (wanted_t rfl rfl (es rfl (et rfl)) (ez rfl)) rfl (parts4 rfl rfl rfl rfl) rfl Try.underlying22 (by kernel_rfl) (by decide) (by intro v hv; simp only [List.mem_cons, List.not_mem_nil, or_false] at hv; rcases hv with rfl | rfl | rfl | rfl <;> rfl) (by rfl) (fun g35 w35 c35 hc35 hS35 => ?_)
  replace hc35 : c35 = io .i64 (.slice (some ⟨g35, 0, none⟩) 4 4) [0, 0, 9, 5] := hc35
  replace hS35 : St w NoX [c35, c33, c_28, c_25, c_16, c_11, c4] w35 := hS35
  refine W_call rfl (wanted_t rfl rfl (es rfl (es rfl (et rfl))) (ez rfl)) rfl Try.func17 (by kernel_rfl) rfl (args2 (es rfl (et rfl)) (et rfl)) (qInts_c (hS35.chC 2 rfl hc_28).own (hS35.chC 0 rfl hc35).own ) ?_
  rintro _ w36 ⟨rfl, hP36⟩
  refine ⟨_, rfl, ?_⟩
  have hS36 := hS35.join hP36
  replace hS36 : St w NoX [c35, c33, c_28, c_25, c_16, c_11, c4] w36 := hS36
  refine W_v rfl rfl (V_pickT rfl (es rfl (es rfl (es rfl (et rfl)))) (et rfl)) ?_
  refine W_sure (c' := true) rfl rfl (V_mov rfl (et rfl)) (by decide +kernel) ?_
  refine W_v rfl (wanted_t rfl rfl (et rfl) (ez rfl)) (V_mov rfl (es rfl (es rfl (es rfl (es rfl (es rfl (es rfl (es rfl (es rfl (es rfl (es rfl (es rfl (es rfl (es rfl (es rfl (es rfl (es rfl (es rfl (es rfl (es rfl (es rfl (es rfl (es rfl (es rfl (es rfl (es rfl (es rfl (es rfl (es rfl (es rfl (es rfl (es rfl (es rfl (es rfl (es rfl (es rfl (es rfl (es rfl (es rfl (es rfl (es rfl (es rfl (es rfl (es rfl (es rfl (es rfl (es rfl (es rfl (es rfl (es rfl (es rfl (es rfl (es rfl (es rfl (es rfl (es rfl (es rfl (es rfl (es rfl (es rfl l16_29)))))))))))))))))))))))))))))))))))))))))))))))))))))))))))) ?_
  refine W_v rfl (wanted_t rfl rfl (es rfl (et rfl)) (ez rfl)) (V_eql rfl (et rfl) rfl) ?_
  refine W_v rfl rfl (V_pickT rfl (es rfl (es rfl (et rfl))) (et rfl)) ?_
  refine W_sure (c' := true) rfl rfl (V_mov rfl (et rfl)) (by decide +kernel) ?_
  refine W_call rfl (wanted_t rfl rfl (et rfl) (ez rfl)) rfl Try.func12 (by kernel_rfl) rfl (args0) (shw_c  ) ?_
  rintro _ w37 ⟨rfl, hP37⟩
  refine ⟨_, rfl, ?_⟩
  have hS37 := hS36.join hP37
  replace hS37 : St w NoX [c35, c33, c_28, c_25, c_16, c_11, c4] w37 := hS37
  refine W_v rfl rfl (V_pickT rfl (es rfl (et rfl)) (et rfl)) ?_
  refine W_v rfl rfl (V_asg rfl (et rfl)) ?_
  refine W_end ?_
  refine gen_Q (fun A38 hA38 => ?_)
  have hsz38 : SzN A38 121 := by rw [hA38]; infer_instance
  have hdf38 : A38.defers = [] := by rw [hA38]; simp only [df_put]; exact hdf29
  have l0_38 := lookE hA38 0 (et rfl)
  clear hA38 hsz29 hdf29 l1_29 l2_29 l3_29 l4_29 l5_29 l6_29 l7_29 l8_29 l9_29 l10_29 l11_29 l12_29 l13_29 l14_29 l15_29 l16_29
  have hS39 : St w NoX [] w37 := hS37.sel [] (by decide) rfl
  refine then_n (hK30 _ _ ?_)
  clear hK30
  refine wp_ret ?_
  refine ret_in (results_1 Try.results8 (rv_tmp l0_38)) hdf38 ?_
  -- leaf 
  exact ⟨rfl, hS39.fin0⟩

end Go.Proofs.Ytbnijekjaafoaaa