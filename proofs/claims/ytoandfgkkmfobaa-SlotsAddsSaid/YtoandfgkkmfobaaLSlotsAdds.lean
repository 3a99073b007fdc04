import Derived.Test.YtoandfgkkmfobaaProg
import Derived.Test.YtoandfgkkmfobaaSl6
namespace Go.Proofs.Ytoandfgkkmfobaa
open Go.RowKit Go.Own Go.Own.R Go.Own.S


set_option maxHeartbeats 4000000 in
theorem SlotsAdds_c {cv : Value} {c : List Int} {a : Int} {w : World} (h_cv : Ro w NoX (il .i64 cv c))  :
    Calls Try.prog 3 #[.agg #[cv], .int .i64 a] w fun e w' => e = .returned (.bool true) ∧ St w NoX [] w' := by
  refine calls_in 98 Try.func3 rfl rfl (by simp) (fun A0 hsz0 hdf0 hargs => ?_)
  have l0_0 := hargs 0 (.agg #[cv]) rfl
  have l1_0 := hargs 1 (.int .i64 a) rfl
  clear hargs; replace hsz0 : SzN A0 98 := ⟨hsz0⟩
  have hS := St.nil w
  have bh_cv := SlN.le (sl_SlN h_cv.at)
  refine wp_seq_k (fun K1 hK1 => ?_)
  -- region 0
  refine region_in ?_
  refine W_boxS (zs := #[cv]) hS rfl rfl rfl l0_0 (by rfl) (fun g2 w2 c2 hc2 hS2 => ?_)
  replace hS2 : St w NoX [c2] w2 := hS2
  refine W_v rfl rfl (V_asg rfl rfl) ?_
  refine W_end ?_
  refine gen_Q (fun A3 hA3 => ?_)
  have hsz3 : SzN A3 98 := by rw [hA3]; infer_instance
  have hdf3 : A3.defers = [] := by rw [hA3]; simp only [df_put]; exact hdf0
  have l1_3 := lookE hA3 1 (es rfl (es rfl l1_0))
  have l2_3 := lookE hA3 2 (es rfl (et rfl))
  clear hA3 hsz0 hdf0 l0_0 l1_0
  refine then_n (hK1 _ _ ?_)
  clear hK1
  refine wp_seq_k (fun K4 hK4 => ?_)
  refine wp_seq_k (fun K5 hK5 => ?_)
  -- region 1
  refine region_in ?_
  refine W_r rfl rfl (VR_ldA rfl l2_3 (hS2.obj 0 rfl hc2) Try.underlying24 rfl (by kernel_rfl)) ?_
  refine W_call rfl rfl rfl Try.func11 (by kernel_rfl) rfl (args1 (et rfl)) (far_c (hS2.roC h_cv) ) ?_
  rintro _ w6 ⟨rfl, hP6⟩
  refine ⟨_, rfl, ?_⟩
  have hS6 := hS2.join hP6
  replace hS6 : St w NoX [c2] w6 := hS6
  refine W_end ?_
  refine gen_Q (fun A7 hA7 => ?_)
  have hsz7 : SzN A7 98 := by rw [hA7]; infer_instance
  have hdf7 : A7.defers = [] := by rw [hA7]; simp only [df_put]; exact hdf3
  have l1_7 := lookE hA7 1 (es rfl (es rfl l1_3))
  have l2_7 := lookE hA7 2 (es rfl (es rfl l2_3))
  have l16_7 := lookE hA7 16 (et rfl)
  clear hA7 hsz3 hdf3 l1_3 l2_3
  refine then_n (hK5 _ _ ?_)
  clear hK5
  refine cond_dec l16_7 (fun c8 => ?_) (fun c8 => ?_)
  · skip
    refine wp_seq_k (fun K9 hK9 => ?_)
    -- region 2
    refine region_in ?_
    refine W_call rfl rfl rfl Try.func12 (by kernel_rfl) rfl (args0) (awake_c  ) ?_
    rintro _ w10 ⟨rfl, hP10⟩
    refine ⟨_, rfl, ?_⟩
    have hS10 := hS6.join hP10
    replace hS10 : St w NoX [c2] w10 := hS10
    refine W_v rfl rfl (V_asg rfl (et rfl)) ?_
    refine W_end ?_
    refine gen_Q (fun A11 hA11 => ?_)
    have hsz11 : SzN A11 98 := by rw [hA11]; infer_instance
    have hdf11 : A11.defers = [] := by rw [hA11]; simp only [df_put]; exact hdf7
    have l4_11 := lookE hA11 4 (et rfl)
    clear hA11 hsz7 hdf7 l1_7 l2_7 l16_7
    have hS12 : St w NoX [] w10 := hS10.sel [] (by decide) rfl
    refine then_n (hK9 _ _ ?_)
    clear hK9
    refine wp_ret ?_
    refine then_ret ?_
    refine ret_in (results_1 Try.results3 (rv_tmp l4_11)) hdf11 ?_
    -- leaf T
    exact ⟨rfl, hS12.fin0⟩
  · skip
    refine wp_skip ?_
    refine then_n (hK4 _ _ ?_)
    clear hK4
    refine wp_seq_k (fun K13 hK13 => ?_)
    -- region 3
    refine region_in ?_
    refine W_r rfl rfl (VR_ldA rfl l2_7 (hS6.obj 0 rfl hc2) Try.underlying24 rfl (by kernel_rfl)) ?_
    refine W_v rfl rfl (V_mov rfl (es rfl l1_7)) ?_
    refine W_call rfl rfl rfl Try.func13 (by kernel_rfl) rfl (args2 (es rfl (et rfl)) (et rfl)) (kHas_c (a := a) (hS6.roC h_cv) ) ?_
    rintro _ w14 ⟨rfl, hP14⟩
    refine ⟨_, rfl, ?_⟩
    have hS14 := hS6.join hP14
    replace hS14 : St w NoX [c2] w14 := hS14
    refine W_v rfl rfl (V_mov rfl (et rfl)) ?_
    refine W_v rfl rfl (V_ext (v := .bool ((hsB c a))) rfl (et rfl) rfl) ?_
    refine W_v rfl rfl (V_ext (v := .int .i64 ((chE c a))) rfl (es rfl (et rfl)) rfl) ?_
    refine W_v rfl rfl (V_asg rfl (es rfl (et rfl))) ?_
    refine W_v rfl rfl (V_asg rfl (es rfl (et rfl))) ?_
    refine W_end ?_
    refine gen_Q (fun A15 hA15 => ?_)
    have hsz15 : SzN A15 98 := by rw [hA15]; infer_instance
    have hdf15 : A15.defers = [] := by rw [hA15]; simp only [df_put]; exact hdf7
    have l1_15 := lookE hA15 1 (es rfl (es rfl (es rfl (es rfl (es rfl (es rfl (es rfl (es rfl l1_7))))))))
    have l2_15 := lookE hA15 2 (es rfl (es rfl (es rfl (es rfl (es rfl (es rfl (es rfl (es rfl l2_7))))))))
    have l5_15 := lookE hA15 5 (es rfl (et rfl))
    have l6_15 := lookE hA15 6 (et rfl)
    clear hA15 hsz7 hdf7 l1_7 l2_7 l16_7
    refine then_n (hK13 _ _ ?_)
    clear hK13
    refine wp_seq_k (fun K16 hK16 => ?_)
    -- region 4
    refine region_in ?_
    refine W_r rfl rfl (VR_ldA rfl l2_15 (hS14.obj 0 rfl hc2) Try.underlying24 rfl (by kernel_rfl)) ?_
    refine W_v rfl rfl (V_mov rfl (es rfl l1_15)) ?_
    refine W_call rfl rfl rfl Try.func14 (by kernel_rfl) rfl (args2 (es rfl (et rfl)) (et rfl)) (qHas_c (a := a) (hS14.roC h_cv) ) ?_
    rintro _ w17 ⟨rfl, hP17⟩
    refine ⟨_, rfl, ?_⟩
    have hS17 := hS14.join hP17
    replace hS17 : St w NoX [c2] w17 := hS17
    refine W_v rfl rfl (V_mov rfl (et rfl)) ?_
    refine W_v rfl rfl (V_ext (v := .bool ((hsB c a))) rfl (et rfl) rfl) ?_
    refine W_v rfl rfl (V_ext (v := .int .i64 ((chE c a))) rfl (es rfl (et rfl)) rfl) ?_
    refine W_v rfl rfl (V_asg rfl (es rfl (et rfl))) ?_
    refine W_v rfl rfl (V_asg rfl (es rfl (et rfl))) ?_
    refine W_end ?_
    refine gen_Q (fun A18 hA18 => ?_)
    have hsz18 : SzN A18 98 := by rw [hA18]; infer_instance
    have hdf18 : A18.defers = [] := by rw [hA18]; simp only [df_put]; exact hdf15
    have l1_18 := lookE hA18 1 (es rfl (es rfl (es rfl (es rfl (es rfl (es rfl (es rfl (es rfl l1_15))))))))
    have l2_18 := lookE hA18 2 (es rfl (es rfl (es rfl (es rfl (es rfl (es rfl (es rfl (es rfl l2_15))))))))
    have l5_18 := lookE hA18 5 (es rfl (es rfl (es rfl (es rfl (es rfl (es rfl (es rfl (es rfl l5_15))))))))
    have l6_18 := lookE hA18 6 (es rfl (es rfl (es rfl (es rfl (es rfl (es rfl (es rfl (es rfl l6_15))))))))
    have l7_18 := lookE hA18 7 (es rfl (et rfl))
    have l8_18 := lookE hA18 8 (et rfl)
    clear hA18 hsz15 hdf15 l1_15 l2_15 l5_15 l6_15
    refine then_n (hK16 _ _ ?_)
    clear hK16
    refine wp_seq_k (fun K19 hK19 => ?_)
    -- region 5
    refine region_in ?_
    refine W_r rfl rfl (VR_ldA rfl l2_18 (hS17.obj 0 rfl hc2) Try.underlying24 rfl (by kernel_rfl)) ?_
    refine W_v rfl rfl (V_mov rfl (es rfl l1_18)) ?_
    refine W_call rfl rfl rfl Try.func15 (by kernel_rfl) rfl (args2 (es rfl (et rfl)) (et rfl)) (kAdd_c (a := a) (hS17.roC h_cv) ) ?_
    rintro _ w20 ⟨v_20, rfl, hP20⟩
    refine ⟨_, rfl, ?_⟩
    obtain ⟨c_20, hc_20, hP20⟩ := gen1 hP20
    have hS20 := hS17.join hP20
    replace hS20 : St w NoX [c_20, c2] w20 := hS20
    refine W_v rfl rfl (V_mov rfl (et rfl)) ?_
    refine W_v rfl rfl (V_ext (v := .agg #[v_20]) rfl (et rfl) rfl) ?_
    refine W_v rfl rfl (V_ext (v := .bool ((adB c a))) rfl (es rfl (et rfl)) rfl) ?_
    refine W_v rfl rfl (V_ext (v := .int .i64 ((chE c a))) rfl (es rfl (es rfl (et rfl))) rfl) ?_
    refine W_allocS (z := .agg #[.slice none 0 0]) (zs := #[.slice none 0 0]) hS20 rfl rfl rfl (by kernel_rfl) (by rfl) (fun g21 w21 c21 hc21 hS21 => ?_)
    replace hS21 : St w NoX [c21, c_20, c2] w21 := hS21
    refine W_stAS 0 hS21 rfl hc21 rfl rfl rfl (et rfl) (es rfl (es rfl (es rfl (et rfl)))) (by simp only [List.all_toArray, List.all_cons, List.all_nil, SlN_one (ow_at (hS21.chq 1 rfl hc_20))] <;> rfl) (by rfl) (by kernel_rfl) (fun w22 c22 hc22 hS22 => ?_)
    replace hS22 : St w NoX [c22, c_20, c2] w22 := hS22
    refine W_v rfl rfl (V_asg rfl (es rfl (es rfl (et rfl)))) ?_
    refine W_v rfl rfl (V_asg rfl (es rfl (es rfl (et rfl)))) ?_
    refine W_end ?_
    refine gen_Q (fun A23 hA23 => ?_)
    have hsz23 : SzN A23 98 := by rw [hA23]; infer_instance
    have hdf23 : A23.defers = [] := by rw [hA23]; simp only [df_put]; exact hdf18
    have l1_23 := lookE hA23 1 (es rfl (es rfl (es rfl (es rfl (es rfl (es rfl (es rfl (es rfl (es rfl (es rfl l1_18))))))))))
    have l2_23 := lookE hA23 2 (es rfl (es rfl (es rfl (es rfl (es rfl (es rfl (es rfl (es rfl (es rfl (es rfl l2_18))))))))))
    have l5_23 := lookE hA23 5 (es rfl (es rfl (es rfl (es rfl (es rfl (es rfl (es rfl (es rfl (es rfl (es rfl l5_18))))))))))
    have l6_23 := lookE hA23 6 (es rfl (es rfl (es rfl (es rfl (es rfl (es rfl (es rfl (es rfl (es rfl (es rfl l6_18))))))))))
    have l7_23 := lookE hA23 7 (es rfl (es rfl (es rfl (es rfl (es rfl (es rfl (es rfl (es rfl (es rfl (es rfl l7_18))))))))))
    have l8_23 := lookE hA23 8 (es rfl (es rfl (es rfl (es rfl (es rfl (es rfl (es rfl (es rfl (es rfl (es rfl l8_18))))))))))
    have l9_23 := lookE hA23 9 (es rfl (es rfl (et rfl)))
    have l10_23 := lookE hA23 10 (es rfl (et rfl))
    have l11_23 := lookE hA23 11 (et rfl)
    clear hA23 hsz18 hdf18 l1_18 l2_18 l5_18 l6_18 l7_18 l8_18
    refine then_n (hK19 _ _ ?_)
    clear hK19
    refine wp_seq_k (fun K24 hK24 => ?_)
    -- region 6
    refine region_in ?_
    refine W_r rfl rfl (VR_ldA rfl l2_23 (hS22.obj 2 rfl hc2) Try.underlying24 rfl (by kernel_rfl)) ?_
    refine W_v rfl rfl (V_mov rfl (es rfl l1_23)) ?_
    refine W_call rfl rfl rfl Try.func16 (by kernel_rfl) rfl (args2 (es rfl (et rfl)) (et rfl)) (qAdd_c (a := a) (hS22.roC h_cv) ) ?_
    rintro _ w25 ⟨v_25, rfl, hP25⟩
    refine ⟨_, rfl, ?_⟩
    obtain ⟨c_25, hc_25, hP25⟩ := gen1 hP25
    have hS25 := hS22.join hP25
    replace hS25 : St w NoX [c_25, c22, c_20, c2] w25 := hS25
    refine W_v rfl rfl (V_mov rfl (et rfl)) ?_
    refine W_v rfl rfl (V_ext (v := .agg #[v_25]) rfl (et rfl) rfl) ?_
    refine W_v rfl rfl (V_ext (v := .bool ((adB c a))) rfl (es rfl (et rfl)) rfl) ?_
    refine W_v rfl rfl (V_ext (v := .int .i64 ((chE c a))) rfl (es rfl (es rfl (et rfl))) rfl) ?_
    refine W_allocS (z := .agg #[.slice none 0 0]) (zs := #[.slice none 0 0]) hS25 rfl rfl rfl (by kernel_rfl) (by rfl) (fun g26 w26 c26 hc26 hS26 => ?_)
    replace hS26 : St w NoX [c26, c_25, c22, c_20, c2] w26 := hS26
    refine W_stAS 0 hS26 rfl hc26 rfl rfl rfl (et rfl) (es rfl (es rfl (es rfl (et rfl)))) (by simp only [List.all_toArray, List.all_cons, List.all_nil, SlN_one (ow_at (hS26.chq 1 rfl hc_25))] <;> rfl) (by rfl) (by kernel_rfl) (fun w27 c27 hc27 hS27 => ?_)
    replace hS27 : St w NoX [c27, c_25, c22, c_20, c2] w27 := hS27
    refine W_v rfl rfl (V_asg rfl (es rfl (es rfl (et rfl)))) ?_
    refine W_v rfl rfl (V_asg rfl (es rfl (es rfl (et rfl)))) ?_
    refine W_end ?_
    refine gen_Q (fun A28 hA28 => ?_)
    have hsz28 : SzN A28 98 := by rw [hA28]; infer_instance
    have hdf28 : A28.defers = [] := by rw [hA28]; simp only [df_put]; exact hdf23
    have l1_28 := lookE hA28 1 (es rfl (es rfl (es rfl (es rfl (es rfl (es rfl (es rfl (es rfl (es rfl (es rfl l1_23))))))))))
    have l2_28 := lookE hA28 2 (es rfl (es rfl (es rfl (es rfl (es rfl (es rfl (es rfl (es rfl (es rfl (es rfl l2_23))))))))))
    have l5_28 := lookE hA28 5 (es rfl (es rfl (es rfl (es rfl (es rfl (es rfl (es rfl (es rfl (es rfl (es rfl l5_23))))))))))
    have l6_28 := lookE hA28 6 (es rfl (es rfl (es rfl (es rfl (es rfl (es rfl (es rfl (es rfl (es rfl (es rfl l6_23))))))))))
    have l7_28 := lookE hA28 7 (es rfl (es rfl (es rfl (es rfl (es rfl (es rfl (es rfl (es rfl (es rfl (es rfl l7_23))))))))))
    have l8_28 := lookE hA28 8 (es rfl (es rfl (es rfl (es rfl (es rfl (es rfl (es rfl (es rfl (es rfl (es rfl l8_23))))))))))
    have l9_28 := lookE hA28 9 (es rfl (es rfl (es rfl (es rfl (es rfl (es rfl (es rfl (es rfl (es rfl (es rfl l9_23))))))))))
    have l10_28 := lookE hA28 10 (es rfl (es rfl (es rfl (es rfl (es rfl (es rfl (es rfl (es rfl (es rfl (es rfl l10_23))))))))))
    have l11_28 := lookE hA28 11 (es rfl (es rfl (es rfl (es rfl (es rfl (es rfl (es rfl (es rfl (es rfl (es rfl l11_23))))))))))
    have l12_28 := lookE hA28 12 (es rfl (es rfl (et rfl)))
    have l13_28 := lookE hA28 13 (es rfl (et rfl))
    have l14_28 := lookE hA28 14 (et rfl)
    clear hA28 hsz23 hdf23 l1_23 l2_23 l5_23 l6_23 l7_23 l8_23 l9_23 l10_23 l11_23
    refine then_n (hK24 _ _ ?_)
    clear hK24
    refine wp_seq_k (fun K29 hK29 => ?_)
    refine wp_seq_k (fun K30 hK30 => ?_)
    -- region 7
    refine region_in ?_
    refine W_v rfl rfl (V_mov rfl l5_28) ?_
    refine W_v rfl rfl (V_mov rfl (es rfl l7_28)) ?_
    refine W_v rfl rfl (V_neB rfl (es rfl (et rfl)) (et rfl) Try.underlying4) ?_
    refine W_sure (c' := false) rfl rfl (V_mov rfl (et rfl)) (by simp) ?_
    refine W_v rfl (wanted_t rfl rfl (et rfl) (ez rfl)) (V_mov rfl (es rfl (es rfl (es rfl (es rfl l6_28))))) ?_
    refine W_v rfl (wanted_t rfl rfl (es rfl (et rfl)) (ez rfl)) (V_mov rfl (es rfl (es rfl (es rfl (es rfl (es rfl l8_28)))))) ?_
    refine W_v rfl (wanted_t rfl rfl (es rfl (es rfl (et rfl))) (ez rfl)) (V_neq rfl (es rfl (et rfl)) (et rfl)) ?_
    refine W_v rfl rfl (V_pickF rfl (es rfl (es rfl (es rfl (et rfl)))) (et rfl)) ?_
    refine W_sure (c' := false) rfl rfl (V_mov rfl (et rfl)) (by simp) ?_
    refine W_r rfl (wanted_t rfl rfl (et rfl) (ez rfl)) (VR_ldA rfl (es rfl (es rfl (es rfl (es rfl (es rfl (es rfl (es rfl (es rfl (es rfl l9_28))))))))) (hS27.obj 2 rfl hc22) Try.underlying24 rfl (by kernel_rfl)) ?_
    refine W_r rfl (wanted_t rfl rfl (es rfl (et rfl)) (ez rfl)) (VR_ldA rfl (es rfl (es rfl (es rfl (es rfl (es rfl (es rfl (es rfl (es rfl (es rfl (es rfl l12_28)))))))))) (hS27.obj 0 rfl hc27) Try.underlying24 rfl (by kernel_rfl)) ?_
    refine W_call rfl (wanted_t rfl rfl (es rfl (es rfl (et rfl))) (ez rfl)) rfl Try.func17 (by kernel_rfl) rfl (args2 (es rfl (et rfl)) (et rfl)) (same_c (hS27.chC 3 rfl hc_20).own (hS27.chC 1 rfl hc_25).own ) ?_
    rintro _ w31 ⟨rfl, hP31⟩
    refine ⟨_, rfl, ?_⟩
    have hS31 := hS27.join hP31
    replace hS31 : St w NoX [c27, c_25, c22, c_20, c2] w31 := hS31
    refine W_v rfl (wanted_t rfl rfl (es rfl (es rfl (es rfl (et rfl)))) (ez rfl)) (V_notd rfl (et rfl)) ?_
    refine W_v rfl rfl (V_pickF rfl (es rfl (es rfl (es rfl (es rfl (et rfl))))) (et rfl)) ?_
    refine W_sure (c' := false) rfl rfl (V_mov rfl (et rfl)) (by simp) ?_
    refine W_v rfl (wanted_t rfl rfl (et rfl) (ez rfl)) (V_mov rfl (es rfl (es rfl (es rfl (es rfl (es rfl (es rfl (es rfl (es rfl (es rfl (es rfl (es rfl (es rfl (es rfl (es rfl (es rfl l10_28)))))))))))))))) ?_
    refine W_v rfl (wanted_t rfl rfl (es rfl (et rfl)) (ez rfl)) (V_mov rfl (es rfl (es rfl (es rfl (es rfl (es rfl (es rfl (es rfl (es rfl (es rfl (es rfl (es rfl (es rfl (es rfl (es rfl (es rfl (es rfl l13_28))))))))))))))))) ?_
    refine W_v rfl (wanted_t rfl rfl (es rfl (es rfl (et rfl))) (ez rfl)) (V_neB rfl (es rfl (et rfl)) (et rfl) Try.underlying4) ?_
    refine W_v rfl rfl (V_pickF rfl (es rfl (es rfl (es rfl (et rfl)))) (et rfl)) ?_
    refine W_sure (c' := false) rfl rfl (V_mov rfl (et rfl)) (by simp) ?_
    refine W_v rfl (wanted_t rfl rfl (et rfl) (ez rfl)) (V_mov rfl (es rfl (es rfl (es rfl (es rfl (es rfl (es rfl (es rfl (es rfl (es rfl (es rfl (es rfl (es rfl (es rfl (es rfl (es rfl (es rfl (es rfl (es rfl (es rfl (es rfl l11_28))))))))))))))))))))) ?_
    refine W_v rfl (wanted_t rfl rfl (es rfl (et rfl)) (ez rfl)) (V_mov rfl (es rfl (es rfl (es rfl (es rfl (es rfl (es rfl (es rfl (es rfl (es rfl (es rfl (es rfl (es rfl (es rfl (es rfl (es rfl (es rfl (es rfl (es rfl (es rfl (es rfl (es rfl l14_28)))))))))))))))))))))) ?_
    refine W_v rfl (wanted_t rfl rfl (es rfl (es rfl (et rfl))) (ez rfl)) (V_neq rfl (es rfl (et rfl)) (et rfl)) ?_
    refine W_v rfl rfl (V_pickF rfl (es rfl (es rfl (es rfl (et rfl)))) (et rfl)) ?_
    refine W_end ?_
    refine gen_Q (fun A32 hA32 => ?_)
    have hsz32 : SzN A32 98 := by rw [hA32]; infer_instance
    have hdf32 : A32.defers = [] := by rw [hA32]; simp only [df_put]; exact hdf28
    have l1_32 := lookE hA32 1 (es rfl (es rfl (es rfl (es rfl (es rfl (es rfl (es rfl (es rfl (es rfl (es rfl (es rfl (es rfl (es rfl (es rfl (es rfl (es rfl (es rfl (es rfl (es rfl (es rfl (es rfl (es rfl (es rfl (es rfl l1_28))))))))))))))))))))))))
    have l2_32 := lookE hA32 2 (es rfl (es rfl (es rfl (es rfl (es rfl (es rfl (es rfl (es rfl (es rfl (es rfl (es rfl (es rfl (es rfl (es rfl (es rfl (es rfl (es rfl (es rfl (es rfl (es rfl (es rfl (es rfl (es rfl (es rfl l2_28))))))))))))))))))))))))
    have l9_32 := lookE hA32 9 (es rfl (es rfl (es rfl (es rfl (es rfl (es rfl (es rfl (es rfl (es rfl (es rfl (es rfl (es rfl (es rfl (es rfl (es rfl (es rfl (es rfl (es rfl (es rfl (es rfl (es rfl (es rfl (es rfl (es rfl l9_28))))))))))))))))))))))))
    have l12_32 := lookE hA32 12 (es rfl (es rfl (es rfl (es rfl (es rfl (es rfl (es rfl (es rfl (es rfl (es rfl (es rfl (es rfl (es rfl (es rfl (es rfl (es rfl (es rfl (es rfl (es rfl (es rfl (es rfl (es rfl (es rfl (es rfl l12_28))))))))))))))))))))))))
    have l67_32 := lookE hA32 67 (et rfl)
    clear hA32 hsz28 hdf28 l1_28 l2_28 l5_28 l6_28 l7_28 l8_28 l9_28 l10_28 l11_28 l12_28 l13_28 l14_28
    refine then_n (hK30 _ _ ?_)
    clear hK30
    refine cond_not l67_32 (by simp) ?_
    refine wp_skip ?_
    refine then_n (hK29 _ _ ?_)
    clear hK29
    refine wp_seq_k (fun K33 hK33 => ?_)
    -- region 9
    refine region_in ?_
    refine W_r rfl rfl (VR_ldA rfl l2_32 (hS31.obj 4 rfl hc2) Try.underlying24 rfl (by kernel_rfl)) ?_
    refine W_v rfl rfl (V_mov rfl (es rfl l1_32)) ?_
    refine W_call rfl rfl rfl Try.func18 (by kernel_rfl) rfl (args2 (es rfl (et rfl)) (et rfl)) (kDrop_c (a := a) (hS31.roC h_cv) ) ?_
    rintro _ w34 ⟨v_34, rfl, hP34⟩
    refine ⟨_, rfl, ?_⟩
    obtain ⟨c_34, hc_34, hP34⟩ := gen1 hP34
    have hS34 := hS31.join hP34
    replace hS34 : St w NoX [c_34, c27, c_25, c22, c_20, c2] w34 := hS34
    refine W_v rfl rfl (V_mov rfl (et rfl)) ?_
    refine W_v rfl rfl (V_ext (v := .agg #[v_34]) rfl (et rfl) rfl) ?_
    refine W_v rfl rfl (V_ext (v := .bool ((hsB c a))) rfl (es rfl (et rfl)) rfl) ?_
    refine W_v rfl rfl (V_ext (v := .int .i64 ((chE c a))) rfl (es rfl (es rfl (et rfl))) rfl) ?_
    refine W_stAS 3 hS34 rfl hc22 rfl rfl rfl (es rfl (es rfl (es rfl (es rfl (es rfl (es rfl (es rfl l9_32))))))) (es rfl (es rfl (et rfl))) (by simp only [List.all_toArray, List.all_cons, List.all_nil, SlN_one (ow_at (hS34.chq 0 rfl hc_34))] <;> rfl) (by rfl) (by kernel_rfl) (fun w35 c35 hc35 hS35 => ?_)
    replace hS35 : St w NoX [c_34, c27, c_25, c35, c_20, c2] w35 := hS35
    refine W_v rfl rfl (V_asg rfl (es rfl (et rfl))) ?_
    refine W_v rfl rfl (V_asg rfl (es rfl (et rfl))) ?_
    refine W_end ?_
    refine gen_Q (fun A36 hA36 => ?_)
    have hsz36 : SzN A36 98 := by rw [hA36]; infer_instance
    have hdf36 : A36.defers = [] := by rw [hA36]; simp only [df_put]; exact hdf32
    have l1_36 := lookE hA36 1 (es rfl (es rfl (es rfl (es rfl (es rfl (es rfl (es rfl (es rfl (es rfl l1_32)))))))))
    have l2_36 := lookE hA36 2 (es rfl (es rfl (es rfl (es rfl (es rfl (es rfl (es rfl (es rfl (es rfl l2_32)))))))))
    have l9_36 := lookE hA36 9 (es rfl (es rfl (es rfl (es rfl (es rfl (es rfl (es rfl (es rfl (es rfl l9_32)))))))))
    have l10_36 := lookE hA36 10 (es rfl (et rfl))
    have l11_36 := lookE hA36 11 (et rfl)
    have l12_36 := lookE hA36 12 (es rfl (es rfl (es rfl (es rfl (es rfl (es rfl (es rfl (es rfl (es rfl l12_32)))))))))
    clear hA36 hsz32 hdf32 l1_32 l2_32 l9_32 l12_32 l67_32
    have hS37 : St w NoX [c_34, c27, c_25, c35, c2] w35 := hS35.sel [0, 1, 2, 3, 5] (by decide) rfl
    refine then_n (hK33 _ _ ?_)
    clear hK33
    refine wp_seq_k (fun K38 hK38 => ?_)
    -- region 10
    refine region_in ?_
    refine W_r rfl rfl (VR_ldA rfl l2_36 (hS37.obj 4 rfl hc2) Try.underlying24 rfl (by kernel_rfl)) ?_
    refine W_v rfl rfl (V_mov rfl (es rfl l1_36)) ?_
    refine W_call rfl rfl rfl Try.func19 (by kernel_rfl) rfl (args2 (es rfl (et rfl)) (et rfl)) (qDrop_c (a := a) (hS37.roC h_cv) ) ?_
    rintro _ w39 ⟨v_39, rfl, hP39⟩
    refine ⟨_, rfl, ?_⟩
    obtain ⟨c_39, hc_39, hP39⟩ := gen1 hP39
    have hS39 := hS37.join hP39
    replace hS39 : St w NoX [c_39, c_34, c27, c_25, c35, c2] w39 := hS39
    refine W_v rfl rfl (V_mov rfl (et rfl)) ?_
    refine W_v rfl rfl (V_ext (v := .agg #[v_39]) rfl (et rfl) rfl) ?_
    refine W_v rfl rfl (V_ext (v := .bool ((hsB c a))) rfl (es rfl (et rfl)) rfl) ?_
    refine W_v rfl rfl (V_ext (v := .int .i64 ((chE c a))) rfl (es rfl (es rfl (et rfl))) rfl) ?_
    refine W_stAS 2 hS39 rfl hc27 rfl rfl rfl (es rfl (es rfl (es rfl (es rfl (es rfl (es rfl (es rfl l12_36))))))) (es rfl (es rfl (et rfl))) (by simp only [List.all_toArray, List.all_cons, List.all_nil, SlN_one (ow_at (hS39.chq 0 rfl hc_39))] <;> rfl) (by rfl) (by kernel_rfl) (fun w40 c40 hc40 hS40 => ?_)
    replace hS40 : St w NoX [c_39, c_34, c40, c_25, c35, c2] w40 := hS40
    refine W_v rfl rfl (V_asg rfl (es rfl (et rfl))) ?_
    refine W_v rfl rfl (V_asg rfl (es rfl (et rfl))) ?_
    refine W_end ?_
    refine gen_Q (fun A41 hA41 => ?_)
    have hsz41 : SzN A41 98 := by rw [hA41]; infer_instance
    have hdf41 : A41.defers = [] := by rw [hA41]; simp only [df_put]; exact hdf36
    have l9_41 := lookE hA41 9 (es rfl (es rfl (es rfl (es rfl (es rfl (es rfl (es rfl (es rfl (es rfl l9_36)))))))))
    have l10_41 := lookE hA41 10 (es rfl (es rfl (es rfl (es rfl (es rfl (es rfl (es rfl (es rfl (es rfl l10_36)))))))))
    have l11_41 := lookE hA41 11 (es rfl (es rfl (es rfl (es rfl (es rfl (es rfl (es rfl (es rfl (es rfl l11_36)))))))))
    have l12_41 := lookE hA41 12 (es rfl (es rfl (es rfl (es rfl (es rfl (es rfl (es rfl (es rfl (es rfl l12_36)))))))))
    have l13_41 := lookE hA41 13 (es rfl (et rfl))
    have l14_41 := lookE hA41 14 (et rfl)
    clear hA41 hsz36 hdf36 l1_36 l2_36 l9_36 l10_36 l11_36 l12_36
    have hS42 : St w NoX [c_39, c_34, c40, c35] w40 := hS40.sel [0, 1, 2, 4] (by decide) rfl
    refine then_n (hK38 _ _ ?_)
    clear hK38
    refine wp_seq_k (fun K43 hK43 => ?_)
    -- region 11
    refine region_in ?_
    refine W_r rfl rfl (VR_ldA rfl l9_41 (hS42.obj 3 rfl hc35) Try.underlying24 rfl (by kernel_rfl)) ?_
    refine W_r rfl rfl (VR_ldA rfl (es rfl l12_41) (hS42.obj 2 rfl hc40) Try.underlying24 rfl (by kernel_rfl)) ?_
    refine W_call rfl rfl rfl Try.func17 (by kernel_rfl) rfl (args2 (es rfl (et rfl)) (et rfl)) (same_c (hS42.chC 1 rfl hc_34).own (hS42.chC 0 rfl hc_39).own ) ?_
    rintro _ w44 ⟨rfl, hP44⟩
    refine ⟨_, rfl, ?_⟩
    have hS44 := hS42.join hP44
    replace hS44 : St w NoX [c_39, c_34, c40, c35] w44 := hS44
    refine W_sure (c' := true) rfl rfl (V_mov rfl (et rfl)) (by simp) ?_
    refine W_v rfl (wanted_t rfl rfl (et rfl) (ez rfl)) (V_mov rfl (es rfl (es rfl (es rfl (es rfl l10_41))))) ?_
    refine W_v rfl (wanted_t rfl rfl (es rfl (et rfl)) (ez rfl)) (V_mov rfl (es rfl (es rfl (es rfl (es rfl (es rfl l13_41)))))) ?_
    refine W_v rfl (wanted_t rfl rfl (es rfl (es rfl (et rfl))) (ez rfl)) (V_eqB rfl (es rfl (et rfl)) (et rfl) Try.underlying4) ?_
    refine W_v rfl rfl (V_pickT rfl (es rfl (es rfl (es rfl (et rfl)))) (et rfl)) ?_
    refine W_sure (c' := true) rfl rfl (V_mov rfl (et rfl)) (by simp) ?_
    refine W_v rfl (wanted_t rfl rfl (et rfl) (ez rfl)) (V_mov rfl (es rfl (es rfl (es rfl (es rfl (es rfl (es rfl (es rfl (es rfl (es rfl l11_41)))))))))) ?_
    refine W_v rfl (wanted_t rfl rfl (es rfl (et rfl)) (ez rfl)) (V_mov rfl (es rfl (es rfl (es rfl (es rfl (es rfl (es rfl (es rfl (es rfl (es rfl (es rfl l14_41))))))))))) ?_
    refine W_v rfl (wanted_t rfl rfl (es rfl (es rfl (et rfl))) (ez rfl)) (V_eql rfl (es rfl (et rfl)) (et rfl)) ?_
    refine W_v rfl rfl (V_pickT rfl (es rfl (es rfl (es rfl (et rfl)))) (et rfl)) ?_
    refine W_sure (c' := true) rfl rfl (V_mov rfl (et rfl)) (by simp) ?_
    refine W_call rfl (wanted_t rfl rfl (et rfl) (ez rfl)) rfl Try.func12 (by kernel_rfl) rfl (args0) (awake_c  ) ?_
    rintro _ w45 ⟨rfl, hP45⟩
    refine ⟨_, rfl, ?_⟩
    have hS45 := hS44.join hP45
    replace hS45 : St w NoX [c_39, c_34, c40, c35] w45 := hS45
    refine W_v rfl rfl (V_pickT rfl (es rfl (et rfl)) (et rfl)) ?_
    refine W_v rfl rfl (V_asg rfl (et rfl)) ?_
    refine W_end ?_
    refine gen_Q (fun A46 hA46 => ?_)
    have hsz46 : SzN A46 98 := by rw [hA46]; infer_instance
    have hdf46 : A46.defers = [] := by rw [hA46]; simp only [df_put]; exact hdf41
    have l4_46 := lookE hA46 4 (et rfl)
    clear hA46 hsz41 hdf41 l9_41 l10_41 l11_41 l12_41 l13_41 l14_41
    have hS47 : St w NoX [] w45 := hS45.sel [] (by decide) rfl
    refine then_n (hK43 _ _ ?_)
    clear hK43
    refine wp_ret ?_
    refine ret_in (results_1 Try.results3 (rv_tmp l4_46)) hdf46 ?_
    -- leaf F
    exact ⟨rfl, hS47.fin0⟩

end Go.Proofs.Ytoandfgkkmfobaa