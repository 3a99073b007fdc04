import Derived.Test.YtoandfgkkmfobaaProg
import Derived.Test.YtoandfgkkmfobaaSl6
namespace Go.Proofs.Ytoandfgkkmfobaa
open Go.RowKit Go.Own Go.Own.R Go.Own.S


set_option maxHeartbeats 4000000 in
theorem SlotsPurges_c {cv : Value} {c : List Int} {f : Int} {t : Int} {w : World} (h_cv : Ro w NoX (il .i64 cv c))  :
    Calls Try.prog 5 #[.agg #[cv], .int .i64 f, .int .i64 t] w fun e w' => e = .returned (.bool true) ∧ St w NoX [] w' := by
  refine calls_in 48 Try.func5 rfl rfl (by simp) (fun A0 hsz0 hdf0 hargs => ?_)
  have l0_0 := hargs 0 (.agg #[cv]) rfl
  have l1_0 := hargs 1 (.int .i64 f) rfl
  have l2_0 := hargs 2 (.int .i64 t) rfl
  clear hargs; replace hsz0 : SzN A0 48 := ⟨hsz0⟩
  have hS := St.nil w
  have bh_cv := SlN.le (sl_SlN h_cv.at)
  refine wp_seq_k (fun K1 hK1 => ?_)
  -- region 0
  refine region_in ?_
  refine W_boxS (zs := #[cv]) hS rfl rfl rfl l0_0 (by rfl) (fun g2 w2 c2 hc2 hS2 => ?_)
  replace hS2 : St w NoX [c2] w2 := hS2
  refine W_v rfl rfl (V_asg rfl rfl) ?_
  refine W_end ?_
  refine gen_Q (fun A3 hA3 => ?_)
  have hsz3 : SzN A3 48 := by rw [hA3]; infer_instance
  have hdf3 : A3.defers = [] := by rw [hA3]; simp only [df_put]; exact hdf0
  have l1_3 := lookE hA3 1 (es rfl (es rfl l1_0))
  have l2_3 := lookE hA3 2 (es rfl (es rfl l2_0))
  have l3_3 := lookE hA3 3 (es rfl (et rfl))
  clear hA3 hsz0 hdf0 l0_0 l1_0 l2_0
  refine then_n (hK1 _ _ ?_)
  clear hK1
  refine wp_seq_k (fun K4 hK4 => ?_)
  refine wp_seq_k (fun K5 hK5 => ?_)
  -- region 1
  refine region_in ?_
  refine W_r rfl rfl (VR_ldA rfl l3_3 (hS2.obj 0 rfl hc2) Try.underlying24 rfl (by kernel_rfl)) ?_
  refine W_call rfl rfl rfl Try.func11 (by kernel_rfl) rfl (args1 (et rfl)) (far_c (hS2.roC h_cv) ) ?_
  rintro _ w6 ⟨rfl, hP6⟩
  refine ⟨_, rfl, ?_⟩
  have hS6 := hS2.join hP6
  replace hS6 : St w NoX [c2] w6 := hS6
  refine W_end ?_
  refine gen_Q (fun A7 hA7 => ?_)
  have hsz7 : SzN A7 48 := by rw [hA7]; infer_instance
  have hdf7 : A7.defers = [] := by rw [hA7]; simp only [df_put]; exact hdf3
  have l1_7 := lookE hA7 1 (es rfl (es rfl l1_3))
  have l2_7 := lookE hA7 2 (es rfl (es rfl l2_3))
  have l3_7 := lookE hA7 3 (es rfl (es rfl l3_3))
  have l14_7 := lookE hA7 14 (et rfl)
  clear hA7 hsz3 hdf3 l1_3 l2_3 l3_3
  refine then_n (hK5 _ _ ?_)
  clear hK5
  refine cond_dec l14_7 (fun c8 => ?_) (fun c8 => ?_)
  · skip
    refine wp_seq_k (fun K9 hK9 => ?_)
    -- region 2
    refine region_in ?_
    refine W_call rfl rfl rfl Try.func12 (by kernel_rfl) rfl (args0) (awake_c  ) ?_
    rintro _ w10 ⟨rfl, hP10⟩
    refine ⟨_, rfl, ?_⟩
    have hS10 := hS6.join hP10
    replace hS10 : St w NoX [c2] w10 := hS10
    refine W_v rfl rfl (V_asg rfl (et rfl)) ?_
    refine W_end ?_
    refine gen_Q (fun A11 hA11 => ?_)
    have hsz11 : SzN A11 48 := by rw [hA11]; infer_instance
    have hdf11 : A11.defers = [] := by rw [hA11]; simp only [df_put]; exact hdf7
    have l6_11 := lookE hA11 6 (et rfl)
    clear hA11 hsz7 hdf7 l1_7 l2_7 l3_7 l14_7
    have hS12 : St w NoX [] w10 := hS10.sel [] (by decide) rfl
    refine then_n (hK9 _ _ ?_)
    clear hK9
    refine wp_ret ?_
    refine then_ret ?_
    refine ret_in (results_1 Try.results5 (rv_tmp l6_11)) hdf11 ?_
    -- leaf T
    exact ⟨rfl, hS12.fin0⟩
  · skip
    refine wp_skip ?_
    refine then_n (hK4 _ _ ?_)
    clear hK4
    refine wp_seq_k (fun K13 hK13 => ?_)
    -- region 3
    refine region_in ?_
    refine W_r rfl rfl (VR_ldA rfl l3_7 (hS6.obj 0 rfl hc2) Try.underlying24 rfl (by kernel_rfl)) ?_
    refine W_v rfl rfl (V_mov rfl (es rfl l1_7)) ?_
    refine W_v rfl rfl (V_mov rfl (es rfl (es rfl l2_7))) ?_
    refine W_call rfl rfl rfl Try.func24 (by kernel_rfl) rfl (args3 (es rfl (es rfl (et rfl))) (es rfl (et rfl)) (et rfl)) (kPurge_c (f := f) (t := t) (hS6.roC h_cv) ) ?_
    rintro _ w14 ⟨v_14, rfl, hP14⟩
    refine ⟨_, rfl, ?_⟩
    obtain ⟨c_14, hc_14, hP14⟩ := gen1 hP14
    have hS14 := hS6.join hP14
    replace hS14 : St w NoX [c_14, c2] w14 := hS14
    refine W_v rfl rfl (V_mov rfl (et rfl)) ?_
    refine W_v rfl rfl (V_ext (v := .agg #[v_14]) rfl (et rfl) rfl) ?_
    refine W_v rfl rfl (V_ext (v := .int .i64 ((pgN c f t))) rfl (es rfl (et rfl)) rfl) ?_
    refine W_v rfl rfl (V_ext (v := .int .i64 ((ckS c).2)) rfl (es rfl (es rfl (et rfl))) rfl) ?_
    refine W_allocS (z := .agg #[.slice none 0 0]) (zs := #[.slice none 0 0]) hS14 rfl rfl rfl (by kernel_rfl) (by rfl) (fun g15 w15 c15 hc15 hS15 => ?_)
    replace hS15 : St w NoX [c15, c_14, c2] w15 := hS15
    refine W_stAS 0 hS15 rfl hc15 rfl rfl rfl (et rfl) (es rfl (es rfl (es rfl (et rfl)))) (by simp only [List.all_toArray, List.all_cons, List.all_nil, SlN_one (ow_at (hS15.chq 1 rfl hc_14))] <;> rfl) (by rfl) (by kernel_rfl) (fun w16 c16 hc16 hS16 => ?_)
    replace hS16 : St w NoX [c16, c_14, c2] w16 := hS16
    refine W_v rfl rfl (V_asg rfl (es rfl (es rfl (et rfl)))) ?_
    refine W_v rfl rfl (V_asg rfl (es rfl (es rfl (et rfl)))) ?_
    refine W_end ?_
    refine gen_Q (fun A17 hA17 => ?_)
    have hsz17 : SzN A17 48 := by rw [hA17]; infer_instance
    have hdf17 : A17.defers = [] := by rw [hA17]; simp only [df_put]; exact hdf7
    have l1_17 := lookE hA17 1 (es rfl (es rfl (es rfl (es rfl (es rfl (es rfl (es rfl (es rfl (es rfl (es rfl (es rfl l1_7)))))))))))
    have l2_17 := lookE hA17 2 (es rfl (es rfl (es rfl (es rfl (es rfl (es rfl (es rfl (es rfl (es rfl (es rfl (es rfl l2_7)))))))))))
    have l3_17 := lookE hA17 3 (es rfl (es rfl (es rfl (es rfl (es rfl (es rfl (es rfl (es rfl (es rfl (es rfl (es rfl l3_7)))))))))))
    have l7_17 := lookE hA17 7 (es rfl (es rfl (et rfl)))
    have l8_17 := lookE hA17 8 (es rfl (et rfl))
    have l9_17 := lookE hA17 9 (et rfl)
    clear hA17 hsz7 hdf7 l1_7 l2_7 l3_7 l14_7
    refine then_n (hK13 _ _ ?_)
    clear hK13
    refine wp_seq_k (fun K18 hK18 => ?_)
    -- region 4
    refine region_in ?_
    refine W_r rfl rfl (VR_ldA rfl l3_17 (hS16.obj 2 rfl hc2) Try.underlying24 rfl (by kernel_rfl)) ?_
    refine W_v rfl rfl (V_mov rfl (es rfl l1_17)) ?_
    refine W_v rfl rfl (V_mov rfl (es rfl (es rfl l2_17))) ?_
    refine W_call rfl rfl rfl Try.func25 (by kernel_rfl) rfl (args3 (es rfl (es rfl (et rfl))) (es rfl (et rfl)) (et rfl)) (qPurge_c (f := f) (t := t) (hS16.roC h_cv) ) ?_
    rintro _ w19 ⟨v_19, rfl, hP19⟩
    refine ⟨_, rfl, ?_⟩
    obtain ⟨c_19, hc_19, hP19⟩ := gen1 hP19
    have hS19 := hS16.join hP19
    replace hS19 : St w NoX [c_19, c16, c_14, c2] w19 := hS19
    refine W_v rfl rfl (V_mov rfl (et rfl)) ?_
    refine W_v rfl rfl (V_ext (v := .agg #[v_19]) rfl (et rfl) rfl) ?_
    refine W_v rfl rfl (V_ext (v := .int .i64 ((pgN c f t))) rfl (es rfl (et rfl)) rfl) ?_
    refine W_v rfl rfl (V_ext (v := .int .i64 ((ckS c).2)) rfl (es rfl (es rfl (et rfl))) rfl) ?_
    refine W_allocS (z := .agg #[.slice none 0 0]) (zs := #[.slice none 0 0]) hS19 rfl rfl rfl (by kernel_rfl) (by rfl) (fun g20 w20 c20 hc20 hS20 => ?_)
    replace hS20 : St w NoX [c20, c_19, c16, c_14, c2] w20 := hS20
    refine W_stAS 0 hS20 rfl hc20 rfl rfl rfl (et rfl) (es rfl (es rfl (es rfl (et rfl)))) (by simp only [List.all_toArray, List.all_cons, List.all_nil, SlN_one (ow_at (hS20.chq 1 rfl hc_19))] <;> rfl) (by rfl) (by kernel_rfl) (fun w21 c21 hc21 hS21 => ?_)
    replace hS21 : St w NoX [c21, c_19, c16, c_14, c2] w21 := hS21
    refine W_v rfl rfl (V_asg rfl (es rfl (es rfl (et rfl)))) ?_
    refine W_v rfl rfl (V_asg rfl (es rfl (es rfl (et rfl)))) ?_
    refine W_end ?_
    refine gen_Q (fun A22 hA22 => ?_)
    have hsz22 : SzN A22 48 := by rw [hA22]; infer_instance
    have hdf22 : A22.defers = [] := by rw [hA22]; simp only [df_put]; exact hdf17
    have l7_22 := lookE hA22 7 (es rfl (es rfl (es rfl (es rfl (es rfl (es rfl (es rfl (es rfl (es rfl (es rfl (es rfl l7_17)))))))))))
    have l8_22 := lookE hA22 8 (es rfl (es rfl (es rfl (es rfl (es rfl (es rfl (es rfl (es rfl (es rfl (es rfl (es rfl l8_17)))))))))))
    have l9_22 := lookE hA22 9 (es rfl (es rfl (es rfl (es rfl (es rfl (es rfl (es rfl (es rfl (es rfl (es rfl (es rfl l9_17)))))))))))
    have l10_22 := lookE hA22 10 (es rfl (es rfl (et rfl)))
    have l11_22 := lookE hA22 11 (es rfl (et rfl))
    have l12_22 := lookE hA22 12 (et rfl)
    clear hA22 hsz17 hdf17 l1_17 l2_17 l3_17 l7_17 l8_17 l9_17
    have hS23 : St w NoX [c21, c_19, c16, c_14] w21 := hS21.sel [0, 1, 2, 3] (by decide) rfl
    refine then_n (hK18 _ _ ?_)
    clear hK18
    refine wp_seq_k (fun K24 hK24 => ?_)
    -- region 5
    refine region_in ?_
    refine W_r rfl rfl (VR_ldA rfl l7_22 (hS23.obj 2 rfl hc16) Try.underlying24 rfl (by kernel_rfl)) ?_
    refine W_r rfl rfl (VR_ldA rfl (es rfl l10_22) (hS23.obj 0 rfl hc21) Try.underlying24 rfl (by kernel_rfl)) ?_
    refine W_call rfl rfl rfl Try.func17 (by kernel_rfl) rfl (args2 (es rfl (et rfl)) (et rfl)) (same_c (hS23.chC 3 rfl hc_14).own (hS23.chC 1 rfl hc_19).own ) ?_
    rintro _ w25 ⟨rfl, hP25⟩
    refine ⟨_, rfl, ?_⟩
    have hS25 := hS23.join hP25
    replace hS25 : St w NoX [c21, c_19, c16, c_14] w25 := hS25
    refine W_sure (c' := true) rfl rfl (V_mov rfl (et rfl)) (by simp) ?_
    refine W_v rfl (wanted_t rfl rfl (et rfl) (ez rfl)) (V_mov rfl (es rfl (es rfl (es rfl (es rfl l8_22))))) ?_
    refine W_v rfl (wanted_t rfl rfl (es rfl (et rfl)) (ez rfl)) (V_mov rfl (es rfl (es rfl (es rfl (es rfl (es rfl l11_22)))))) ?_
    refine W_v rfl (wanted_t rfl rfl (es rfl (es rfl (et rfl))) (ez rfl)) (V_eql rfl (es rfl (et rfl)) (et rfl)) ?_
    refine W_v rfl rfl (V_pickT rfl (es rfl (es rfl (es rfl (et rfl)))) (et rfl)) ?_
    refine W_sure (c' := true) rfl rfl (V_mov rfl (et rfl)) (by simp) ?_
    refine W_v rfl (wanted_t rfl rfl (et rfl) (ez rfl)) (V_mov rfl (es rfl (es rfl (es rfl (es rfl (es rfl (es rfl (es rfl (es rfl (es rfl l9_22)))))))))) ?_
    refine W_v rfl (wanted_t rfl rfl (es rfl (et rfl)) (ez rfl)) (V_mov rfl (es rfl (es rfl (es rfl (es rfl (es rfl (es rfl (es rfl (es rfl (es rfl (es rfl l12_22))))))))))) ?_
    refine W_v rfl (wanted_t rfl rfl (es rfl (es rfl (et rfl))) (ez rfl)) (V_eql rfl (es rfl (et rfl)) (et rfl)) ?_
    refine W_v rfl rfl (V_pickT rfl (es rfl (es rfl (es rfl (et rfl)))) (et rfl)) ?_
    refine W_sure (c' := true) rfl rfl (V_mov rfl (et rfl)) (by simp) ?_
    refine W_call rfl (wanted_t rfl rfl (et rfl) (ez rfl)) rfl Try.func12 (by kernel_rfl) rfl (args0) (awake_c  ) ?_
    rintro _ w26 ⟨rfl, hP26⟩
    refine ⟨_, rfl, ?_⟩
    have hS26 := hS25.join hP26
    replace hS26 : St w NoX [c21, c_19, c16, c_14] w26 := hS26
    refine W_v rfl rfl (V_pickT rfl (es rfl (et rfl)) (et rfl)) ?_
    refine W_v rfl rfl (V_asg rfl (et rfl)) ?_
    refine W_end ?_
    refine gen_Q (fun A27 hA27 => ?_)
    have hsz27 : SzN A27 48 := by rw [hA27]; infer_instance
    have hdf27 : A27.defers = [] := by rw [hA27]; simp only [df_put]; exact hdf22
    have l6_27 := lookE hA27 6 (et rfl)
    clear hA27 hsz22 hdf22 l7_22 l8_22 l9_22 l10_22 l11_22 l12_22
    have hS28 : St w NoX [] w26 := hS26.sel [] (by decide) rfl
    refine then_n (hK24 _ _ ?_)
    clear hK24
    refine wp_ret ?_
    refine ret_in (results_1 Try.results5 (rv_tmp l6_27)) hdf27 ?_
    -- leaf F
    exact ⟨rfl, hS28.fin0⟩

end Go.Proofs.Ytoandfgkkmfobaa