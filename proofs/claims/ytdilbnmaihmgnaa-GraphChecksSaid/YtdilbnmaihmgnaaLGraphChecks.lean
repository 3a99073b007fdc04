import Derived.Test.YtdilbnmaihmgnaaProg
import Derived.Test.YtdilbnmaihmgnaaGh10
namespace Go.Proofs.Ytdilbnmaihmgnaa
open Go.RowKit Go.Own Go.Own.R Go.Own.G Go.Own.Gr


set_option maxHeartbeats 4000000 in
theorem GraphChecks_c {ov : Value} {O : List Ob} {rv : Value} {rs : List Int} {n : Int} {w : World} (h_ov : Ro w NoX (rl 2 obC ov O)) (n_ov : Ro w NoX (nst O)) (h_rv : Ro w NoX (il .i64 rv rs)) (hbulk : ∀ o ∈ (O.map ab), o.1.length ≤ 17592186044416 ∧ o.2.length ≤ 17592186044416) :
    Calls Try.prog 3 #[.agg #[ov, rv], .int .i64 n] w fun e w' => e = .returned (.bool true) ∧ St w NoX [] w' := by
  refine calls_in 98 Try.func3 rfl rfl (by simp) (fun A0 hsz0 hdf0 hargs => ?_)
  have l0_0 := hargs 0 (.agg #[ov, rv]) rfl
  have l1_0 := hargs 1 (.int .i64 n) rfl
  clear hargs; replace hsz0 : SzN A0 98 := ⟨hsz0⟩
  have hS := St.nil w
  have bh_ov := SlN.le (sl_SlN h_ov.at)
  have bh_rv := SlN.le (sl_SlN h_rv.at)
  refine wp_seq_k (fun K1 hK1 => ?_)
  -- region 0
  refine region_in ?_
  refine W_boxS (zs := #[ov, rv]) hS rfl rfl rfl l0_0 (by rfl) (fun g2 w2 c2 hc2 hS2 => ?_)
  replace hS2 : St w NoX [c2] w2 := hS2
  refine W_v rfl rfl (V_asg rfl rfl) ?_
  refine W_end ?_
  refine gen_Q (fun A3 hA3 => ?_)
  have hsz3 : SzN A3 98 := by rw [hA3]; infer_instance
  have hdf3 : A3.defers = [] := by rw [hA3]; simp only [df_put]; exact hdf0
  have l1_3 := lookE hA3 1 (es rfl (es rfl l1_0))
  have l2_3 := lookE hA3 2 (es rfl (et rfl))
  clear hA3 hsz0 hdf0 l0_0 l1_0
  refine then_n (hK1 _ _ ?_)
  clear hK1
  refine wp_seq_k (fun K4 hK4 => ?_)
  refine wp_seq_k (fun K5 hK5 => ?_)
  -- region 1
  refine region_in ?_
  refine W_r rfl rfl (VR_ldA rfl l2_3 (hS2.obj 0 rfl hc2) Try.underlying25 rfl (by kernel_rfl)) ?_
  refine W_call rfl rfl rfl Try.func10 (by kernel_rfl) rfl (args1 (et rfl)) (far_c (hS2.roC h_ov) (hS2.roC n_ov) (hS2.roC h_rv) (by first | with_reducible assumption)) ?_
  rintro _ w6 ⟨rfl, hP6⟩
  refine ⟨_, rfl, ?_⟩
  have hS6 := hS2.join hP6
  replace hS6 : St w NoX [c2] w6 := hS6
  refine W_end ?_
  refine gen_Q (fun A7 hA7 => ?_)
  have hsz7 : SzN A7 98 := by rw [hA7]; infer_instance
  have hdf7 : A7.defers = [] := by rw [hA7]; simp only [df_put]; exact hdf3
  have l1_7 := lookE hA7 1 (es rfl (es rfl l1_3))
  have l2_7 := lookE hA7 2 (es rfl (es rfl l2_3))
  have l16_7 := lookE hA7 16 (et rfl)
  clear hA7 hsz3 hdf3 l1_3 l2_3
  refine then_n (hK5 _ _ ?_)
  clear hK5
  refine cond_b l16_7 (fun c8 => ?_) (fun c8 => ?_)
  · skip
    refine wp_seq_k (fun K9 hK9 => ?_)
    -- region 2
    refine region_in ?_
    refine W_call rfl rfl rfl Try.func11 (by kernel_rfl) rfl (args0) (shown_c  ) ?_
    rintro _ w10 ⟨rfl, hP10⟩
    refine ⟨_, rfl, ?_⟩
    have hS10 := hS6.join hP10
    replace hS10 : St w NoX [c2] w10 := hS10
    refine W_v rfl rfl (V_asg rfl (et rfl)) ?_
    refine W_end ?_
    refine gen_Q (fun A11 hA11 => ?_)
    have hsz11 : SzN A11 98 := by rw [hA11]; infer_instance
    have hdf11 : A11.defers = [] := by rw [hA11]; simp only [df_put]; exact hdf7
    have l4_11 := lookE hA11 4 (et rfl)
    clear hA11 hsz7 hdf7 l1_7 l2_7 l16_7
    have hS12 : St w NoX [] w10 := hS10.sel [] (by decide) rfl
    refine then_n (hK9 _ _ ?_)
    clear hK9
    refine wp_ret ?_
    refine then_ret ?_
    refine ret_in (results_1 Try.results3 (rv_tmp l4_11)) hdf11 ?_
    -- leaf T
    exact ⟨rfl, hS12.fin0⟩
  · skip
    have hfar := far_no c8
    have hsm := hfar.2.2.2.1
    have hfr := hfar.1
    have hfo := hfar.2.1
    rw [List.length_map] at hfo
    refine wp_skip ?_
    refine then_n (hK4 _ _ ?_)
    clear hK4
    refine wp_seq_k (fun K13 hK13 => ?_)
    -- region 3
    refine region_in ?_
    refine W_v rfl rfl (V_mov rfl l1_7) ?_
    refine W_call rfl rfl rfl Try.func12 (by kernel_rfl) rfl (args1 (et rfl)) (kNw_c (n := n)  ) ?_
    rintro _ w14 ⟨hv_14, H_14, qv_14, rfl, hH_14, hP14⟩
    refine ⟨_, rfl, ?_⟩
    obtain ⟨cR_14, cP_14, cQ_14, cG_14, hcR_14, hcP_14, hcQ_14, hcG_14, hP14⟩ := gen4 hP14
    have hS14 := hS6.join hP14
    replace hS14 : St w NoX [cR_14, cP_14, cQ_14, cG_14, c2] w14 := hS14
    refine W_v rfl rfl (V_mov rfl (et rfl)) ?_
    refine W_v rfl rfl (V_ext (v := .agg #[hv_14, qv_14]) rfl (et rfl) rfl) ?_
    refine W_v rfl rfl (V_ext (v := .int .i64 ((nwE n))) rfl (es rfl (et rfl)) rfl) ?_
    refine W_allocS (z := .agg #[.slice none 0 0, .slice none 0 0]) (zs := #[.slice none 0 0, .slice none 0 0]) hS14 rfl rfl rfl (by kernel_rfl) (by rfl) (fun g15 w15 c15 hc15 hS15 => ?_)
    replace hS15 : St w NoX [c15, cR_14, cP_14, cQ_14, cG_14, c2] w15 := hS15
    refine W_stAS 0 hS15 rfl hc15 rfl rfl rfl (et rfl) (es rfl (es rfl (et rfl))) (by simp only [List.all_toArray, List.all_cons, List.all_nil, SlN_one (ow_at (hS15.chq 1 rfl hcR_14)), SlN_one (ow_at (hS15.chq 4 rfl hcG_14))] <;> rfl) (by rfl) (by kernel_rfl) (fun w16 c16 hc16 hS16 => ?_)
    replace hS16 : St w NoX [c16, cR_14, cP_14, cQ_14, cG_14, c2] w16 := hS16
    refine W_v rfl rfl (V_asg rfl (es rfl (et rfl))) ?_
    refine W_end ?_
    refine gen_Q (fun A17 hA17 => ?_)
    have hsz17 : SzN A17 98 := by rw [hA17]; infer_instance
    have hdf17 : A17.defers = [] := by rw [hA17]; simp only [df_put]; exact hdf7
    have l1_17 := lookE hA17 1 (es rfl (es rfl (es rfl (es rfl (es rfl (es rfl (es rfl l1_7)))))))
    have l2_17 := lookE hA17 2 (es rfl (es rfl (es rfl (es rfl (es rfl (es rfl (es rfl l2_7)))))))
    have l5_17 := lookE hA17 5 (es rfl (et rfl))
    have l6_17 := lookE hA17 6 (et rfl)
    clear hA17 hsz7 hdf7 l1_7 l2_7 l16_7
    refine then_n (hK13 _ _ ?_)
    clear hK13
    refine wp_seq_k (fun K18 hK18 => ?_)
    -- region 4
    refine region_in ?_
    refine W_v rfl rfl (V_mov rfl l1_17) ?_
    refine W_call rfl rfl rfl Try.func13 (by kernel_rfl) rfl (args1 (et rfl)) (qNw_c (n := n)  ) ?_
    rintro _ w19 ⟨hv_19, H_19, qv_19, rfl, hH_19, hP19⟩
    refine ⟨_, rfl, ?_⟩
    obtain ⟨cR_19, cP_19, cQ_19, cG_19, hcR_19, hcP_19, hcQ_19, hcG_19, hP19⟩ := gen4 hP19
    have hS19 := hS16.join hP19
    replace hS19 : St w NoX [cR_19, cP_19, cQ_19, cG_19, c16, cR_14, cP_14, cQ_14, cG_14, c2] w19 := hS19
    refine W_v rfl rfl (V_mov rfl (et rfl)) ?_
    refine W_v rfl rfl (V_ext (v := .agg #[hv_19, qv_19]) rfl (et rfl) rfl) ?_
    refine W_v rfl rfl (V_ext (v := .int .i64 ((nwE n))) rfl (es rfl (et rfl)) rfl) ?_
    refine W_allocS (z := .agg #[.slice none 0 0, .slice none 0 0]) (zs := #[.slice none 0 0, .slice none 0 0]) hS19 rfl rfl rfl (by kernel_rfl) (by rfl) (fun g20 w20 c20 hc20 hS20 => ?_)
    replace hS20 : St w NoX [c20, cR_19, cP_19, cQ_19, cG_19, c16, cR_14, cP_14, cQ_14, cG_14, c2] w20 := hS20
    refine W_stAS 0 hS20 rfl hc20 rfl rfl rfl (et rfl) (es rfl (es rfl (et rfl))) (by simp only [List.all_toArray, List.all_cons, List.all_nil, SlN_one (ow_at (hS20.chq 1 rfl hcR_19)), SlN_one (ow_at (hS20.chq 4 rfl hcG_19))] <;> rfl) (by rfl) (by kernel_rfl) (fun w21 c21 hc21 hS21 => ?_)
    replace hS21 : St w NoX [c21, cR_19, cP_19, cQ_19, cG_19, c16, cR_14, cP_14, cQ_14, cG_14, c2] w21 := hS21
    refine W_v rfl rfl (V_asg rfl (es rfl (et rfl))) ?_
    refine W_end ?_
    refine gen_Q (fun A22 hA22 => ?_)
    have hsz22 : SzN A22 98 := by rw [hA22]; infer_instance
    have hdf22 : A22.defers = [] := by rw [hA22]; simp only [df_put]; exact hdf17
    have l2_22 := lookE hA22 2 (es rfl (es rfl (es rfl (es rfl (es rfl (es rfl (es rfl l2_17)))))))
    have l5_22 := lookE hA22 5 (es rfl (es rfl (es rfl (es rfl (es rfl (es rfl (es rfl l5_17)))))))
    have l6_22 := lookE hA22 6 (es rfl (es rfl (es rfl (es rfl (es rfl (es rfl (es rfl l6_17)))))))
    have l7_22 := lookE hA22 7 (es rfl (et rfl))
    have l8_22 := lookE hA22 8 (et rfl)
    clear hA22 hsz17 hdf17 l1_17 l2_17 l5_17 l6_17
    refine then_n (hK18 _ _ ?_)
    clear hK18
    refine wp_seq_k (fun K23 hK23 => ?_)
    -- region 5
    refine region_in ?_
    refine W_r rfl rfl (VR_ldA rfl l2_22 (hS21.obj 10 rfl hc2) Try.underlying25 rfl (by kernel_rfl)) ?_
    refine W_call rfl rfl rfl Try.func14 (by kernel_rfl) rfl (args1 (et rfl)) (kCk_c (hS21.roC h_ov) (hS21.roC n_ov) (hS21.roC h_rv) ) ?_
    rintro _ w24 ⟨rfl, hP24⟩
    refine ⟨_, rfl, ?_⟩
    have hS24 := hS21.join hP24
    replace hS24 : St w NoX [c21, cR_19, cP_19, cQ_19, cG_19, c16, cR_14, cP_14, cQ_14, cG_14, c2] w24 := hS24
    refine W_v rfl rfl (V_mov rfl (et rfl)) ?_
    refine W_v rfl rfl (V_ext (v := .int .i64 ((ckG (O.map ab) rs).1)) rfl (et rfl) rfl) ?_
    refine W_v rfl rfl (V_ext (v := .int .i64 ((ckG (O.map ab) rs).2)) rfl (es rfl (et rfl)) rfl) ?_
    refine W_v rfl rfl (V_asg rfl (es rfl (et rfl))) ?_
    refine W_v rfl rfl (V_asg rfl (es rfl (et rfl))) ?_
    refine W_end ?_
    refine gen_Q (fun A25 hA25 => ?_)
    have hsz25 : SzN A25 98 := by rw [hA25]; infer_instance
    have hdf25 : A25.defers = [] := by rw [hA25]; simp only [df_put]; exact hdf22
    have l2_25 := lookE hA25 2 (es rfl (es rfl (es rfl (es rfl (es rfl (es rfl (es rfl l2_22)))))))
    have l5_25 := lookE hA25 5 (es rfl (es rfl (es rfl (es rfl (es rfl (es rfl (es rfl l5_22)))))))
    have l6_25 := lookE hA25 6 (es rfl (es rfl (es rfl (es rfl (es rfl (es rfl (es rfl l6_22)))))))
    have l7_25 := lookE hA25 7 (es rfl (es rfl (es rfl (es rfl (es rfl (es rfl (es rfl l7_22)))))))
    have l8_25 := lookE hA25 8 (es rfl (es rfl (es rfl (es rfl (es rfl (es rfl (es rfl l8_22)))))))
    have l9_25 := lookE hA25 9 (es rfl (et rfl))
    have l10_25 := lookE hA25 10 (et rfl)
    clear hA25 hsz22 hdf22 l2_22 l5_22 l6_22 l7_22 l8_22
    refine then_n (hK23 _ _ ?_)
    clear hK23
    refine wp_seq_k (fun K26 hK26 => ?_)
    -- region 6
    refine region_in ?_
    refine W_r rfl rfl (VR_ldA rfl l2_25 (hS24.obj 10 rfl hc2) Try.underlying25 rfl (by kernel_rfl)) ?_
    refine W_call rfl rfl rfl Try.func15 (by kernel_rfl) rfl (args1 (et rfl)) (qCk_c (hS24.roC h_ov) (hS24.roC n_ov) (hS24.roC h_rv) ) ?_
    rintro _ w27 ⟨rfl, hP27⟩
    refine ⟨_, rfl, ?_⟩
    have hS27 := hS24.join hP27
    replace hS27 : St w NoX [c21, cR_19, cP_19, cQ_19, cG_19, c16, cR_14, cP_14, cQ_14, cG_14, c2] w27 := hS27
    refine W_v rfl rfl (V_mov rfl (et rfl)) ?_
    refine W_v rfl rfl (V_ext (v := .int .i64 ((ckG (O.map ab) rs).1)) rfl (et rfl) rfl) ?_
    refine W_v rfl rfl (V_ext (v := .int .i64 ((ckG (O.map ab) rs).2)) rfl (es rfl (et rfl)) rfl) ?_
    refine W_v rfl rfl (V_asg rfl (es rfl (et rfl))) ?_
    refine W_v rfl rfl (V_asg rfl (es rfl (et rfl))) ?_
    refine W_end ?_
    refine gen_Q (fun A28 hA28 => ?_)
    have hsz28 : SzN A28 98 := by rw [hA28]; infer_instance
    have hdf28 : A28.defers = [] := by rw [hA28]; simp only [df_put]; exact hdf25
    have l2_28 := lookE hA28 2 (es rfl (es rfl (es rfl (es rfl (es rfl (es rfl (es rfl l2_25)))))))
    have l5_28 := lookE hA28 5 (es rfl (es rfl (es rfl (es rfl (es rfl (es rfl (es rfl l5_25)))))))
    have l6_28 := lookE hA28 6 (es rfl (es rfl (es rfl (es rfl (es rfl (es rfl (es rfl l6_25)))))))
    have l7_28 := lookE hA28 7 (es rfl (es rfl (es rfl (es rfl (es rfl (es rfl (es rfl l7_25)))))))
    have l8_28 := lookE hA28 8 (es rfl (es rfl (es rfl (es rfl (es rfl (es rfl (es rfl l8_25)))))))
    have l9_28 := lookE hA28 9 (es rfl (es rfl (es rfl (es rfl (es rfl (es rfl (es rfl l9_25)))))))
    have l10_28 := lookE hA28 10 (es rfl (es rfl (es rfl (es rfl (es rfl (es rfl (es rfl l10_25)))))))
    have l11_28 := lookE hA28 11 (es rfl (et rfl))
    have l12_28 := lookE hA28 12 (et rfl)
    clear hA28 hsz25 hdf25 l2_25 l5_25 l6_25 l7_25 l8_25 l9_25 l10_25
    refine then_n (hK26 _ _ ?_)
    clear hK26
    refine wp_seq_k (fun K29 hK29 => ?_)
    refine wp_seq_k (fun K30 hK30 => ?_)
    -- region 7
    refine region_in ?_
    refine W_r rfl rfl (VR_ldA rfl l5_28 (hS27.obj 5 rfl hc16) Try.underlying25 rfl (by kernel_rfl)) ?_
    refine W_r rfl rfl (VR_ldA rfl (es rfl l7_28) (hS27.obj 0 rfl hc21) Try.underlying25 rfl (by kernel_rfl)) ?_
    refine W_call rfl rfl rfl Try.func16 (by kernel_rfl) rfl (args2 (es rfl (et rfl)) (et rfl)) (qsm_c (hS27.chC 6 rfl hcR_14).own (nst_of (hS27.chC 7 rfl hcP_14) (hS27.chC 8 rfl hcQ_14)) (hS27.chC 9 rfl hcG_14).own (hS27.chC 1 rfl hcR_19).own (nst_of (hS27.chC 2 rfl hcP_19) (hS27.chC 3 rfl hcQ_19)) (hS27.chC 4 rfl hcG_19).own ) ?_
    rintro _ w31 ⟨rfl, hP31⟩
    refine ⟨_, rfl, ?_⟩
    have hS31 := hS27.join hP31
    replace hS31 : St w NoX [c21, cR_19, cP_19, cQ_19, cG_19, c16, cR_14, cP_14, cQ_14, cG_14, c2] w31 := hS31
    refine W_v rfl rfl (V_not rfl (et rfl)) ?_
    refine W_sure (c' := false) rfl rfl (V_mov rfl (et rfl)) (by simp only [hH_14, hH_19]; rw [sm_same rfl rfl]; rfl) ?_
    refine W_v rfl (wanted_t rfl rfl (et rfl) (ez rfl)) (V_mov rfl (es rfl (es rfl (es rfl (es rfl (es rfl l6_28)))))) ?_
    refine W_v rfl (wanted_t rfl rfl (es rfl (et rfl)) (ez rfl)) (V_mov rfl (es rfl (es rfl (es rfl (es rfl (es rfl (es rfl l8_28))))))) ?_
    refine W_v rfl (wanted_t rfl rfl (es rfl (es rfl (et rfl))) (ez rfl)) (V_neq rfl (es rfl (et rfl)) (et rfl)) ?_
    refine W_v rfl rfl (V_pickF rfl (es rfl (es rfl (es rfl (et rfl)))) (et rfl)) ?_
    refine W_sure (c' := false) rfl rfl (V_mov rfl (et rfl)) (by simp) ?_
    refine W_v rfl (wanted_t rfl rfl (et rfl) (ez rfl)) (V_mov rfl (es rfl (es rfl (es rfl (es rfl (es rfl (es rfl (es rfl (es rfl (es rfl (es rfl l9_28))))))))))) ?_
    refine W_v rfl (wanted_t rfl rfl (es rfl (et rfl)) (ez rfl)) (V_mov rfl (es rfl (es rfl (es rfl (es rfl (es rfl (es rfl (es rfl (es rfl (es rfl (es rfl (es rfl l11_28)))))))))))) ?_
    refine W_v rfl (wanted_t rfl rfl (es rfl (es rfl (et rfl))) (ez rfl)) (V_neq rfl (es rfl (et rfl)) (et rfl)) ?_
    refine W_v rfl rfl (V_pickF rfl (es rfl (es rfl (es rfl (et rfl)))) (et rfl)) ?_
    refine W_sure (c' := false) rfl rfl (V_mov rfl (et rfl)) (by simp) ?_
    refine W_v rfl (wanted_t rfl rfl (et rfl) (ez rfl)) (V_mov rfl (es rfl (es rfl (es rfl (es rfl (es rfl (es rfl (es rfl (es rfl (es rfl (es rfl (es rfl (es rfl (es rfl (es rfl (es rfl l10_28)))))))))))))))) ?_
    refine W_v rfl (wanted_t rfl rfl (es rfl (et rfl)) (ez rfl)) (V_mov rfl (es rfl (es rfl (es rfl (es rfl (es rfl (es rfl (es rfl (es rfl (es rfl (es rfl (es rfl (es rfl (es rfl (es rfl (es rfl (es rfl l12_28))))))))))))))))) ?_
    refine W_v rfl (wanted_t rfl rfl (es rfl (es rfl (et rfl))) (ez rfl)) (V_neq rfl (es rfl (et rfl)) (et rfl)) ?_
    refine W_v rfl rfl (V_pickF rfl (es rfl (es rfl (es rfl (et rfl)))) (et rfl)) ?_
    refine W_end ?_
    refine gen_Q (fun A32 hA32 => ?_)
    have hsz32 : SzN A32 98 := by rw [hA32]; infer_instance
    have hdf32 : A32.defers = [] := by rw [hA32]; simp only [df_put]; exact hdf28
    have l2_32 := lookE hA32 2 (es rfl (es rfl (es rfl (es rfl (es rfl (es rfl (es rfl (es rfl (es rfl (es rfl (es rfl (es rfl (es rfl (es rfl (es rfl (es rfl (es rfl (es rfl (es rfl l2_28)))))))))))))))))))
    have l56_32 := lookE hA32 56 (et rfl)
    clear hA32 hsz28 hdf28 l2_28 l5_28 l6_28 l7_28 l8_28 l9_28 l10_28 l11_28 l12_28
    have hS33 : St w NoX [c2] w31 := hS31.sel [10] (by decide) rfl
    refine then_n (hK30 _ _ ?_)
    clear hK30
    refine cond_not l56_32 (by simp) ?_
    refine wp_skip ?_
    refine then_n (hK29 _ _ ?_)
    clear hK29
    refine wp_seq_k (fun K34 hK34 => ?_)
    -- region 9
    refine region_in ?_
    refine W_r rfl rfl (VR_ldA rfl l2_32 (hS33.obj 0 rfl hc2) Try.underlying25 rfl (by kernel_rfl)) ?_
    refine W_call rfl rfl rfl Try.func17 (by kernel_rfl) rfl (args1 (et rfl)) (kLv_c (hS33.roC h_ov) (hS33.roC n_ov) (hS33.roC h_rv) (by first | with_reducible assumption)) ?_
    rintro _ w35 ⟨v_35, rfl, hP35⟩
    refine ⟨_, rfl, ?_⟩
    obtain ⟨c_35, hc_35, hP35⟩ := gen1 hP35
    have hS35 := hS33.join hP35
    replace hS35 : St w NoX [c_35, c2] w35 := hS35
    refine W_v rfl rfl (V_mov rfl (et rfl)) ?_
    refine W_v rfl rfl (V_ext (v := v_35) rfl (et rfl) rfl) ?_
    refine W_v rfl rfl (V_ext (v := .int .i64 ((ckG (O.map ab) rs).2)) rfl (es rfl (et rfl)) rfl) ?_
    refine W_v rfl rfl (V_asg rfl (es rfl (et rfl))) ?_
    refine W_v rfl rfl (V_asg rfl (es rfl (et rfl))) ?_
    refine W_end ?_
    refine gen_Q (fun A36 hA36 => ?_)
    have hsz36 : SzN A36 98 := by rw [hA36]; infer_instance
    have hdf36 : A36.defers = [] := by rw [hA36]; simp only [df_put]; exact hdf32
    have l2_36 := lookE hA36 2 (es rfl (es rfl (es rfl (es rfl (es rfl (es rfl (es rfl l2_32)))))))
    have l6_36 := lookE hA36 6 (et rfl)
    have l13_36 := lookE hA36 13 (es rfl (et rfl))
    clear hA36 hsz32 hdf32 l2_32 l56_32
    refine then_n (hK34 _ _ ?_)
    clear hK34
    refine wp_seq_k (fun K37 hK37 => ?_)
    -- region 10
    refine region_in ?_
    refine W_r rfl rfl (VR_ldA rfl l2_36 (hS35.obj 1 rfl hc2) Try.underlying25 rfl (by kernel_rfl)) ?_
    refine W_call rfl rfl rfl Try.func18 (by kernel_rfl) rfl (args1 (et rfl)) (qLv_c (hS35.roC h_ov) (hS35.roC n_ov) (hS35.roC h_rv) (by first | with_reducible assumption)) ?_
    rintro _ w38 ⟨v_38, rfl, hP38⟩
    refine ⟨_, rfl, ?_⟩
    obtain ⟨c_38, hc_38, hP38⟩ := gen1 hP38
    have hS38 := hS35.join hP38
    replace hS38 : St w NoX [c_38, c_35, c2] w38 := hS38
    refine W_v rfl rfl (V_mov rfl (et rfl)) ?_
    refine W_v rfl rfl (V_ext (v := v_38) rfl (et rfl) rfl) ?_
    refine W_v rfl rfl (V_ext (v := .int .i64 ((ckG (O.map ab) rs).2)) rfl (es rfl (et rfl)) rfl) ?_
    refine W_v rfl rfl (V_asg rfl (es rfl (et rfl))) ?_
    refine W_v rfl rfl (V_asg rfl (es rfl (et rfl))) ?_
    refine W_end ?_
    refine gen_Q (fun A39 hA39 => ?_)
    have hsz39 : SzN A39 98 := by rw [hA39]; infer_instance
    have hdf39 : A39.defers = [] := by rw [hA39]; simp only [df_put]; exact hdf36
    have l2_39 := lookE hA39 2 (es rfl (es rfl (es rfl (es rfl (es rfl (es rfl (es rfl l2_36)))))))
    have l6_39 := lookE hA39 6 (es rfl (es rfl (es rfl (es rfl (es rfl (es rfl (es rfl l6_36)))))))
    have l8_39 := lookE hA39 8 (et rfl)
    have l13_39 := lookE hA39 13 (es rfl (es rfl (es rfl (es rfl (es rfl (es rfl (es rfl l13_36)))))))
    have l14_39 := lookE hA39 14 (es rfl (et rfl))
    clear hA39 hsz36 hdf36 l2_36 l6_36 l13_36
    refine then_n (hK37 _ _ ?_)
    clear hK37
    refine wp_seq_k (fun K40 hK40 => ?_)
    -- region 11
    refine region_in ?_
    refine W_r rfl rfl (VR_ldA rfl l2_39 (hS38.obj 2 rfl hc2) Try.underlying25 rfl (by kernel_rfl)) ?_
    refine W_call rfl rfl rfl Try.func19 (by kernel_rfl) rfl (args1 (et rfl)) (kWd_c (hS38.roC h_ov) (hS38.roC n_ov) (hS38.roC h_rv) (by first | with_reducible assumption)) ?_
    rintro _ w41 ⟨rfl, hP41⟩
    refine ⟨_, rfl, ?_⟩
    have hS41 := hS38.join hP41
    replace hS41 : St w NoX [c_38, c_35, c2] w41 := hS41
    refine W_v rfl rfl (V_mov rfl (et rfl)) ?_
    refine W_v rfl rfl (V_ext (v := .int .i64 ((wdN (O.map ab) rs))) rfl (et rfl) rfl) ?_
    refine W_v rfl rfl (V_ext (v := .int .i64 ((ckG (O.map ab) rs).2)) rfl (es rfl (et rfl)) rfl) ?_
    refine W_v rfl rfl (V_asg rfl (es rfl (et rfl))) ?_
    refine W_v rfl rfl (V_asg rfl (es rfl (et rfl))) ?_
    refine W_end ?_
    refine gen_Q (fun A42 hA42 => ?_)
    have hsz42 : SzN A42 98 := by rw [hA42]; infer_instance
    have hdf42 : A42.defers = [] := by rw [hA42]; simp only [df_put]; exact hdf39
    have l2_42 := lookE hA42 2 (es rfl (es rfl (es rfl (es rfl (es rfl (es rfl (es rfl l2_39)))))))
    have l6_42 := lookE hA42 6 (es rfl (es rfl (es rfl (es rfl (es rfl (es rfl (es rfl l6_39)))))))
    have l8_42 := lookE hA42 8 (es rfl (es rfl (es rfl (es rfl (es rfl (es rfl (es rfl l8_39)))))))
    have l9_42 := lookE hA42 9 (es rfl (et rfl))
    have l10_42 := lookE hA42 10 (et rfl)
    have l13_42 := lookE hA42 13 (es rfl (es rfl (es rfl (es rfl (es rfl (es rfl (es rfl l13_39)))))))
    have l14_42 := lookE hA42 14 (es rfl (es rfl (es rfl (es rfl (es rfl (es rfl (es rfl l14_39)))))))
    clear hA42 hsz39 hdf39 l2_39 l6_39 l8_39 l13_39 l14_39
    refine then_n (hK40 _ _ ?_)
    clear hK40
    refine wp_seq_k (fun K43 hK43 => ?_)
    -- region 12
    refine region_in ?_
    refine W_r rfl rfl (VR_ldA rfl l2_42 (hS41.obj 2 rfl hc2) Try.underlying25 rfl (by kernel_rfl)) ?_
    refine W_call rfl rfl rfl Try.func20 (by kernel_rfl) rfl (args1 (et rfl)) (qWd_c (hS41.roC h_ov) (hS41.roC n_ov) (hS41.roC h_rv) (by first | with_reducible assumption)) ?_
    rintro _ w44 ⟨rfl, hP44⟩
    refine ⟨_, rfl, ?_⟩
    have hS44 := hS41.join hP44
    replace hS44 : St w NoX [c_38, c_35, c2] w44 := hS44
    refine W_v rfl rfl (V_mov rfl (et rfl)) ?_
    refine W_v rfl rfl (V_ext (v := .int .i64 ((wdN (O.map ab) rs))) rfl (et rfl) rfl) ?_
    refine W_v rfl rfl (V_ext (v := .int .i64 ((ckG (O.map ab) rs).2)) rfl (es rfl (et rfl)) rfl) ?_
    refine W_v rfl rfl (V_asg rfl (es rfl (et rfl))) ?_
    refine W_v rfl rfl (V_asg rfl (es rfl (et rfl))) ?_
    refine W_end ?_
    refine gen_Q (fun A45 hA45 => ?_)
    have hsz45 : SzN A45 98 := by rw [hA45]; infer_instance
    have hdf45 : A45.defers = [] := by rw [hA45]; simp only [df_put]; exact hdf42
    have l6_45 := lookE hA45 6 (es rfl (es rfl (es rfl (es rfl (es rfl (es rfl (es rfl l6_42)))))))
    have l8_45 := lookE hA45 8 (es rfl (es rfl (es rfl (es rfl (es rfl (es rfl (es rfl l8_42)))))))
    have l9_45 := lookE hA45 9 (es rfl (es rfl (es rfl (es rfl (es rfl (es rfl (es rfl l9_42)))))))
    have l10_45 := lookE hA45 10 (es rfl (es rfl (es rfl (es rfl (es rfl (es rfl (es rfl l10_42)))))))
    have l11_45 := lookE hA45 11 (es rfl (et rfl))
    have l12_45 := lookE hA45 12 (et rfl)
    have l13_45 := lookE hA45 13 (es rfl (es rfl (es rfl (es rfl (es rfl (es rfl (es rfl l13_42)))))))
    have l14_45 := lookE hA45 14 (es rfl (es rfl (es rfl (es rfl (es rfl (es rfl (es rfl l14_42)))))))
    clear hA45 hsz42 hdf42 l2_42 l6_42 l8_42 l9_42 l10_42 l13_42 l14_42
    have hS46 : St w NoX [c_38, c_35] w44 := hS44.sel [0, 1] (by decide) rfl
    refine then_n (hK43 _ _ ?_)
    clear hK43
    refine wp_seq_k (fun K47 hK47 => ?_)
    -- region 13
    refine region_in ?_
    refine W_v rfl rfl (V_mov rfl l13_45) ?_
    refine W_v rfl rfl (V_mov rfl (es rfl l14_45)) ?_
    refine W_call rfl rfl rfl Try.func21 (by kernel_rfl) rfl (args2 (es rfl (et rfl)) (et rfl)) (qInts_c (hS46.chC 1 rfl hc_35).own (hS46.chC 0 rfl hc_38).own ) ?_
    rintro _ w48 ⟨rfl, hP48⟩
    refine ⟨_, rfl, ?_⟩
    have hS48 := hS46.join hP48
    replace hS48 : St w NoX [c_38, c_35] w48 := hS48
    refine W_sure (c' := true) rfl rfl (V_mov rfl (et rfl)) (by simp) ?_
    refine W_v rfl (wanted_t rfl rfl (et rfl) (ez rfl)) (V_mov rfl (es rfl (es rfl (es rfl (es rfl l6_45))))) ?_
    refine W_v rfl (wanted_t rfl rfl (es rfl (et rfl)) (ez rfl)) (V_mov rfl (es rfl (es rfl (es rfl (es rfl (es rfl l8_45)))))) ?_
    refine W_v rfl (wanted_t rfl rfl (es rfl (es rfl (et rfl))) (ez rfl)) (V_eql rfl (es rfl (et rfl)) (et rfl)) ?_
    refine W_v rfl rfl (V_pickT rfl (es rfl (es rfl (es rfl (et rfl)))) (et rfl)) ?_
    refine W_sure (c' := true) rfl rfl (V_mov rfl (et rfl)) (by simp) ?_
    refine W_v rfl (wanted_t rfl rfl (et rfl) (ez rfl)) (V_mov rfl (es rfl (es rfl (es rfl (es rfl (es rfl (es rfl (es rfl (es rfl (es rfl l9_45)))))))))) ?_
    refine W_v rfl (wanted_t rfl rfl (es rfl (et rfl)) (ez rfl)) (V_mov rfl (es rfl (es rfl (es rfl (es rfl (es rfl (es rfl (es rfl (es rfl (es rfl (es rfl l11_45))))))))))) ?_
    refine W_v rfl (wanted_t rfl rfl (es rfl (es rfl (et rfl))) (ez rfl)) (V_eql rfl (es rfl (et rfl)) (et rfl)) ?_
    refine W_v rfl rfl (V_pickT rfl (es rfl (es rfl (es rfl (et rfl)))) (et rfl)) ?_
    refine W_sure (c' := true) rfl rfl (V_mov rfl (et rfl)) (by simp) ?_
    refine W_v rfl (wanted_t rfl rfl (et rfl) (ez rfl)) (V_mov rfl (es rfl (es rfl (es rfl (es rfl (es rfl (es rfl (es rfl (es rfl (es rfl (es rfl (es rfl (es rfl (es rfl (es rfl l10_45))))))))))))))) ?_
    refine W_v rfl (wanted_t rfl rfl (es rfl (et rfl)) (ez rfl)) (V_mov rfl (es rfl (es rfl (es rfl (es rfl (es rfl (es rfl (es rfl (es rfl (es rfl (es rfl (es rfl (es rfl (es rfl (es rfl (es rfl l12_45)))))))))))))))) ?_
    refine W_v rfl (wanted_t rfl rfl (es rfl (es rfl (et rfl))) (ez rfl)) (V_eql rfl (es rfl (et rfl)) (et rfl)) ?_
    refine W_v rfl rfl (V_pickT rfl (es rfl (es rfl (es rfl (et rfl)))) (et rfl)) ?_
    refine W_sure (c' := true) rfl rfl (V_mov rfl (et rfl)) (by simp) ?_
    refine W_call rfl (wanted_t rfl rfl (et rfl) (ez rfl)) rfl Try.func11 (by kernel_rfl) rfl (args0) (shown_c  ) ?_
    rintro _ w49 ⟨rfl, hP49⟩
    refine ⟨_, rfl, ?_⟩
    have hS49 := hS48.join hP49
    replace hS49 : St w NoX [c_38, c_35] w49 := hS49
    refine W_v rfl rfl (V_pickT rfl (es rfl (et rfl)) (et rfl)) ?_
    refine W_v rfl rfl (V_asg rfl (et rfl)) ?_
    refine W_end ?_
    refine gen_Q (fun A50 hA50 => ?_)
    have hsz50 : SzN A50 98 := by rw [hA50]; infer_instance
    have hdf50 : A50.defers = [] := by rw [hA50]; simp only [df_put]; exact hdf45
    have l4_50 := lookE hA50 4 (et rfl)
    clear hA50 hsz45 hdf45 l6_45 l8_45 l9_45 l10_45 l11_45 l12_45 l13_45 l14_45
    have hS51 : St w NoX [] w49 := hS49.sel [] (by decide) rfl
    refine then_n (hK47 _ _ ?_)
    clear hK47
    refine wp_ret ?_
    refine ret_in (results_1 Try.results3 (rv_tmp l4_50)) hdf50 ?_
    -- leaf F
    exact ⟨rfl, hS51.fin0⟩

end Go.Proofs.Ytdilbnmaihmgnaa