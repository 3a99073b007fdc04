import Derived.Test.YtbnijekjaafoaaaProg
import Derived.Test.YtbnijekjaafoaaaRt6
namespace Go.Proofs.Ytbnijekjaafoaaa
open Go.RowKit Go.Own Go.Own.R


set_option maxHeartbeats 4000000 in
theorem RootsMoves_c {rv : Value} {l : List Int} {mv : Value} {ms : List (Int × Int)} {w : World} (h_rv : Ro w NoX (il .i64 rv l)) (h_mv : Ro w NoX (rl 2 mvC mv ms))  :
    Calls Try.prog 4 #[rv, mv] w fun e w' => e = .returned (.bool true) ∧ St w NoX [] w' := by
  refine calls_in 69 Try.func4 rfl rfl (by simp) (fun A0 hsz0 hdf0 hargs => ?_)
  have l0_0 := hargs 0 (rv) rfl
  have l1_0 := hargs 1 (mv) rfl
  clear hargs; replace hsz0 : SzN A0 69 := ⟨hsz0⟩
  have hS := St.nil w
  have bh_rv := SlN.le (sl_SlN h_rv.at)
  have bh_mv := SlN.le (sl_SlN h_mv.at)
  refine wp_seq_k (fun K1 hK1 => ?_)
  -- region 0
  refine region_in ?_
  refine W_v rfl rfl (V_asg rfl rfl) ?_
  refine W_end ?_
  refine gen_Q (fun A2 hA2 => ?_)
  have hsz2 : SzN A2 69 := by rw [hA2]; infer_instance
  have hdf2 : A2.defers = [] := by rw [hA2]; simp only [df_put]; exact hdf0
  have l0_2 := lookE hA2 0 (es rfl l0_0)
  have l1_2 := lookE hA2 1 (es rfl l1_0)
  clear hA2 hsz0 hdf0 l0_0 l1_0
  refine then_n (hK1 _ _ ?_)
  clear hK1
  refine wp_seq_k (fun K3 hK3 => ?_)
  refine wp_seq_k (fun K4 hK4 => ?_)
  -- region 1
  refine region_in ?_
  refine W_v rfl rfl (V_mov rfl l0_2) ?_
  refine W_v rfl rfl (V_mov rfl (es rfl l1_2)) ?_
  refine W_call rfl rfl rfl Try.func11 (by kernel_rfl) rfl (args2 (es rfl (et rfl)) (et rfl)) (far_c (hS.roC h_rv) (hS.roC h_mv) ) ?_
  rintro _ w5 ⟨rfl, hP5⟩
  refine ⟨_, rfl, ?_⟩
  have hS5 := hS.join hP5
  replace hS5 : St w NoX [] w5 := hS5
  refine W_end ?_
  refine gen_Q (fun A6 hA6 => ?_)
  have hsz6 : SzN A6 69 := by rw [hA6]; infer_instance
  have hdf6 : A6.defers = [] := by rw [hA6]; simp only [df_put]; exact hdf2
  have l0_6 := lookE hA6 0 (es rfl (es rfl (es rfl l0_2)))
  have l1_6 := lookE hA6 1 (es rfl (es rfl (es rfl l1_2)))
  have l17_6 := lookE hA6 17 (et rfl)
  clear hA6 hsz2 hdf2 l0_2 l1_2
  refine then_n (hK4 _ _ ?_)
  clear hK4
  refine cond_dec l17_6 (fun c7 => ?_) (fun c7 => ?_)
  · skip
    refine wp_seq_k (fun K8 hK8 => ?_)
    -- region 2
    refine region_in ?_
    refine W_call rfl rfl rfl Try.func12 (by kernel_rfl) rfl (args0) (shw_c  ) ?_
    rintro _ w9 ⟨rfl, hP9⟩
    refine ⟨_, rfl, ?_⟩
    have hS9 := hS5.join hP9
    replace hS9 : St w NoX [] w9 := hS9
    refine W_v rfl rfl (V_asg rfl (et rfl)) ?_
    refine W_end ?_
    refine gen_Q (fun A10 hA10 => ?_)
    have hsz10 : SzN A10 69 := by rw [hA10]; infer_instance
    have hdf10 : A10.defers = [] := by rw [hA10]; simp only [df_put]; exact hdf6
    have l4_10 := lookE hA10 4 (et rfl)
    clear hA10 hsz6 hdf6 l0_6 l1_6 l17_6
    refine then_n (hK8 _ _ ?_)
    clear hK8
    refine wp_ret ?_
    refine then_ret ?_
    refine ret_in (results_1 Try.results4 (rv_tmp l4_10)) hdf10 ?_
    -- leaf T
    exact ⟨rfl, hS9.fin0⟩
  · skip
    refine wp_skip ?_
    refine then_n (hK3 _ _ ?_)
    clear hK3
    refine wp_seq_k (fun K11 hK11 => ?_)
    -- region 3
    refine region_in ?_
    refine W_v rfl rfl (V_mov rfl l1_6) ?_
    refine W_call rfl rfl rfl Try.func18 (by kernel_rfl) rfl (args1 (et rfl)) (kMs_c (hS5.roC h_mv) ) ?_
    rintro _ w12 ⟨rfl, hP12⟩
    refine ⟨_, rfl, ?_⟩
    have hS12 := hS5.join hP12
    replace hS12 : St w NoX [] w12 := hS12
    refine W_v rfl rfl (V_mov rfl (et rfl)) ?_
    refine W_v rfl rfl (V_ext (v := .int .i64 ((mvR ms).1)) rfl (et rfl) rfl) ?_
    refine W_v rfl rfl (V_ext (v := .int .i64 ((mvR ms).2)) rfl (es rfl (et rfl)) rfl) ?_
    refine W_v rfl rfl (V_asg rfl (es rfl (et rfl))) ?_
    refine W_v rfl rfl (V_asg rfl (es rfl (et rfl))) ?_
    refine W_end ?_
    refine gen_Q (fun A13 hA13 => ?_)
    have hsz13 : SzN A13 69 := by rw [hA13]; infer_instance
    have hdf13 : A13.defers = [] := by rw [hA13]; simp only [df_put]; exact hdf6
    have l0_13 := lookE hA13 0 (es rfl (es rfl (es rfl (es rfl (es rfl (es rfl (es rfl l0_6)))))))
    have l1_13 := lookE hA13 1 (es rfl (es rfl (es rfl (es rfl (es rfl (es rfl (es rfl l1_6)))))))
    have l5_13 := lookE hA13 5 (es rfl (et rfl))
    have l6_13 := lookE hA13 6 (et rfl)
    clear hA13 hsz6 hdf6 l0_6 l1_6 l17_6
    refine then_n (hK11 _ _ ?_)
    clear hK11
    refine wp_seq_k (fun K14 hK14 => ?_)
    -- region 4
    refine region_in ?_
    refine W_v rfl rfl (V_mov rfl l1_13) ?_
    refine W_call rfl rfl rfl Try.func19 (by kernel_rfl) rfl (args1 (et rfl)) (qMs_c (hS12.roC h_mv) ) ?_
    rintro _ w15 ⟨rfl, hP15⟩
    refine ⟨_, rfl, ?_⟩
    have hS15 := hS12.join hP15
    replace hS15 : St w NoX [] w15 := hS15
    refine W_v rfl rfl (V_mov rfl (et rfl)) ?_
    refine W_v rfl rfl (V_ext (v := .int .i64 ((mvR ms).1)) rfl (et rfl) rfl) ?_
    refine W_v rfl rfl (V_ext (v := .int .i64 ((mvR ms).2)) rfl (es rfl (et rfl)) rfl) ?_
    refine W_v rfl rfl (V_asg rfl (es rfl (et rfl))) ?_
    refine W_v rfl rfl (V_asg rfl (es rfl (et rfl))) ?_
    refine W_end ?_
    refine gen_Q (fun A16 hA16 => ?_)
    have hsz16 : SzN A16 69 := by rw [hA16]; infer_instance
    have hdf16 : A16.defers = [] := by rw [hA16]; simp only [df_put]; exact hdf13
    have l0_16 := lookE hA16 0 (es rfl (es rfl (es rfl (es rfl (es rfl (es rfl (es rfl l0_13)))))))
    have l1_16 := lookE hA16 1 (es rfl (es rfl (es rfl (es rfl (es rfl (es rfl (es rfl l1_13)))))))
    have l5_16 := lookE hA16 5 (es rfl (es rfl (es rfl (es rfl (es rfl (es rfl (es rfl l5_13)))))))
    have l6_16 := lookE hA16 6 (es rfl (es rfl (es rfl (es rfl (es rfl (es rfl (es rfl l6_13)))))))
    have l7_16 := lookE hA16 7 (es rfl (et rfl))
    have l8_16 := lookE hA16 8 (et rfl)
    clear hA16 hsz13 hdf13 l0_13 l1_13 l5_13 l6_13
    refine then_n (hK14 _ _ ?_)
    clear hK14
    refine wp_seq_k (fun K17 hK17 => ?_)
    -- region 5
    refine region_in ?_
    refine W_v rfl rfl (V_mov rfl l0_16) ?_
    refine W_v rfl rfl (V_mov rfl (es rfl l1_16)) ?_
    refine W_call rfl rfl rfl Try.func20 (by kernel_rfl) rfl (args2 (es rfl (et rfl)) (et rfl)) (kFw_c (hS15.roC h_rv) (hS15.roC h_mv) ) ?_
    rintro _ w18 ⟨v_18, rfl, hP18⟩
    refine ⟨_, rfl, ?_⟩
    obtain ⟨c_18, hc_18, hP18⟩ := gen1 hP18
    have hS18 := hS15.join hP18
    replace hS18 : St w NoX [c_18] w18 := hS18
    refine W_v rfl rfl (V_mov rfl (et rfl)) ?_
    refine W_v rfl rfl (V_ext (v := v_18) rfl (et rfl) rfl) ?_
    refine W_v rfl rfl (V_ext (v := .int .i64 ((fwN l ms))) rfl (es rfl (et rfl)) rfl) ?_
    refine W_v rfl rfl (V_ext (v := .int .i64 ((fwE l ms))) rfl (es rfl (es rfl (et rfl))) rfl) ?_
    refine W_v rfl rfl (V_asg rfl (es rfl (es rfl (et rfl)))) ?_
    refine W_v rfl rfl (V_asg rfl (es rfl (es rfl (et rfl)))) ?_
    refine W_v rfl rfl (V_asg rfl (es rfl (es rfl (et rfl)))) ?_
    refine W_end ?_
    refine gen_Q (fun A19 hA19 => ?_)
    have hsz19 : SzN A19 69 := by rw [hA19]; infer_instance
    have hdf19 : A19.defers = [] := by rw [hA19]; simp only [df_put]; exact hdf16
    have l0_19 := lookE hA19 0 (es rfl (es rfl (es rfl (es rfl (es rfl (es rfl (es rfl (es rfl (es rfl (es rfl l0_16))))))))))
    have l1_19 := lookE hA19 1 (es rfl (es rfl (es rfl (es rfl (es rfl (es rfl (es rfl (es rfl (es rfl (es rfl l1_16))))))))))
    have l5_19 := lookE hA19 5 (es rfl (es rfl (es rfl (es rfl (es rfl (es rfl (es rfl (es rfl (es rfl (es rfl l5_16))))))))))
    have l6_19 := lookE hA19 6 (es rfl (es rfl (es rfl (es rfl (es rfl (es rfl (es rfl (es rfl (es rfl (es rfl l6_16))))))))))
    have l7_19 := lookE hA19 7 (es rfl (es rfl (es rfl (es rfl (es rfl (es rfl (es rfl (es rfl (es rfl (es rfl l7_16))))))))))
    have l8_19 := lookE hA19 8 (es rfl (es rfl (es rfl (es rfl (es rfl (es rfl (es rfl (es rfl (es rfl (es rfl l8_16))))))))))
    have l9_19 := lookE hA19 9 (es rfl (es rfl (et rfl)))
    have l10_19 := lookE hA19 10 (es rfl (et rfl))
    have l11_19 := lookE hA19 11 (et rfl)
    clear hA19 hsz16 hdf16 l0_16 l1_16 l5_16 l6_16 l7_16 l8_16
    refine then_n (hK17 _ _ ?_)
    clear hK17
    refine wp_seq_k (fun K20 hK20 => ?_)
    -- region 6
    refine region_in ?_
    refine W_v rfl rfl (V_mov rfl l0_19) ?_
    refine W_v rfl rfl (V_mov rfl (es rfl l1_19)) ?_
    refine W_call rfl rfl rfl Try.func21 (by kernel_rfl) rfl (args2 (es rfl (et rfl)) (et rfl)) (qFw_c (hS18.roC h_rv) (hS18.roC h_mv) ) ?_
    rintro _ w21 ⟨v_21, rfl, hP21⟩
    refine ⟨_, rfl, ?_⟩
    obtain ⟨c_21, hc_21, hP21⟩ := gen1 hP21
    have hS21 := hS18.join hP21
    replace hS21 : St w NoX [c_21, c_18] w21 := hS21
    refine W_v rfl rfl (V_mov rfl (et rfl)) ?_
    refine W_v rfl rfl (V_ext (v := v_21) rfl (et rfl) rfl) ?_
    refine W_v rfl rfl (V_ext (v := .int .i64 ((fwN l ms))) rfl (es rfl (et rfl)) rfl) ?_
    refine W_v rfl rfl (V_ext (v := .int .i64 ((fwE l ms))) rfl (es rfl (es rfl (et rfl))) rfl) ?_
    refine W_v rfl rfl (V_asg rfl (es rfl (es rfl (et rfl)))) ?_
    refine W_v rfl rfl (V_asg rfl (es rfl (es rfl (et rfl)))) ?_
    refine W_v rfl rfl (V_asg rfl (es rfl (es rfl (et rfl)))) ?_
    refine W_end ?_
    refine gen_Q (fun A22 hA22 => ?_)
    have hsz22 : SzN A22 69 := by rw [hA22]; infer_instance
    have hdf22 : A22.defers = [] := by rw [hA22]; simp only [df_put]; exact hdf19
    have l5_22 := lookE hA22 5 (es rfl (es rfl (es rfl (es rfl (es rfl (es rfl (es rfl (es rfl (es rfl (es rfl l5_19))))))))))
    have l6_22 := lookE hA22 6 (es rfl (es rfl (es rfl (es rfl (es rfl (es rfl (es rfl (es rfl (es rfl (es rfl l6_19))))))))))
    have l7_22 := lookE hA22 7 (es rfl (es rfl (es rfl (es rfl (es rfl (es rfl (es rfl (es rfl (es rfl (es rfl l7_19))))))))))
    have l8_22 := lookE hA22 8 (es rfl (es rfl (es rfl (es rfl (es rfl (es rfl (es rfl (es rfl (es rfl (es rfl l8_19))))))))))
    have l9_22 := lookE hA22 9 (es rfl (es rfl (es rfl (es rfl (es rfl (es rfl (es rfl (es rfl (es rfl (es rfl l9_19))))))))))
    have l10_22 := lookE hA22 10 (es rfl (es rfl (es rfl (es rfl (es rfl (es rfl (es rfl (es rfl (es rfl (es rfl l10_19))))))))))
    have l11_22 := lookE hA22 11 (es rfl (es rfl (es rfl (es rfl (es rfl (es rfl (es rfl (es rfl (es rfl (es rfl l11_19))))))))))
    have l12_22 := lookE hA22 12 (es rfl (es rfl (et rfl)))
    have l13_22 := lookE hA22 13 (es rfl (et rfl))
    have l14_22 := lookE hA22 14 (et rfl)
    clear hA22 hsz19 hdf19 l0_19 l1_19 l5_19 l6_19 l7_19 l8_19 l9_19 l10_19 l11_19
    refine then_n (hK20 _ _ ?_)
    clear hK20
    refine wp_seq_k (fun K23 hK23 => ?_)
    -- region 7
    refine region_in ?_
    refine W_v rfl rfl (V_mov rfl l5_22) ?_
    refine W_v rfl rfl (V_mov rfl (es rfl l7_22)) ?_
    refine W_v rfl rfl (V_eql rfl (es rfl (et rfl)) (et rfl)) ?_
    refine W_sure (c' := true) rfl rfl (V_mov rfl (et rfl)) (by simp) ?_
    refine W_v rfl (wanted_t rfl rfl (et rfl) (ez rfl)) (V_mov rfl (es rfl (es rfl (es rfl (es rfl l6_22))))) ?_
    refine W_v rfl (wanted_t rfl rfl (es rfl (et rfl)) (ez rfl)) (V_mov rfl (es rfl (es rfl (es rfl (es rfl (es rfl l8_22)))))) ?_
    refine W_v rfl (wanted_t rfl rfl (es rfl (es rfl (et rfl))) (ez rfl)) (V_eql rfl (es rfl (et rfl)) (et rfl)) ?_
    refine W_v rfl rfl (V_pickT rfl (es rfl (es rfl (es rfl (et rfl)))) (et rfl)) ?_
    refine W_sure (c' := true) rfl rfl (V_mov rfl (et rfl)) (by simp) ?_
    refine W_v rfl (wanted_t rfl rfl (et rfl) (ez rfl)) (V_mov rfl (es rfl (es rfl (es rfl (es rfl (es rfl (es rfl (es rfl (es rfl (es rfl l9_22)))))))))) ?_
    refine W_v rfl (wanted_t rfl rfl (es rfl (et rfl)) (ez rfl)) (V_mov rfl (es rfl (es rfl (es rfl (es rfl (es rfl (es rfl (es rfl (es rfl (es rfl (es rfl l12_22))))))))))) ?_
    refine W_call rfl (wanted_t rfl rfl (es rfl (es rfl (et rfl))) (ez rfl)) rfl Try.func17 (by kernel_rfl) rfl (args2 (es rfl (et rfl)) (et rfl)) (qInts_c (hS21.chC 1 rfl hc_18).own (hS21.chC 0 rfl hc_21).own ) ?_
    rintro _ w24 ⟨rfl, hP24⟩
    refine ⟨_, rfl, ?_⟩
    have hS24 := hS21.join hP24
    replace hS24 : St w NoX [c_21, c_18] w24 := hS24
    refine W_v rfl rfl (V_pickT rfl (es rfl (es rfl (es rfl (et rfl)))) (et rfl)) ?_
    refine W_sure (c' := true) rfl rfl (V_mov rfl (et rfl)) (by simp) ?_
    refine W_v rfl (wanted_t rfl rfl (et rfl) (ez rfl)) (V_mov rfl (es rfl (es rfl (es rfl (es rfl (es rfl (es rfl (es rfl (es rfl (es rfl (es rfl (es rfl (es rfl (es rfl (es rfl l10_22))))))))))))))) ?_
    refine W_v rfl (wanted_t rfl rfl (es rfl (et rfl)) (ez rfl)) (V_mov rfl (es rfl (es rfl (es rfl (es rfl (es rfl (es rfl (es rfl (es rfl (es rfl (es rfl (es rfl (es rfl (es rfl (es rfl (es rfl l13_22)))))))))))))))) ?_
    refine W_v rfl (wanted_t rfl rfl (es rfl (es rfl (et rfl))) (ez rfl)) (V_eql rfl (es rfl (et rfl)) (et rfl)) ?_
    refine W_v rfl rfl (V_pickT rfl (es rfl (es rfl (es rfl (et rfl)))) (et rfl)) ?_
    refine W_sure (c' := true) rfl rfl (V_mov rfl (et rfl)) (by simp) ?_
    refine W_v rfl (wanted_t rfl rfl (et rfl) (ez rfl)) (V_mov rfl (es rfl (es rfl (es rfl (es rfl (es rfl (es rfl (es rfl (es rfl (es rfl (es rfl (es rfl (es rfl (es rfl (es rfl (es rfl (es rfl (es rfl (es rfl (es rfl l11_22)))))))))))))))))))) ?_
    refine W_v rfl (wanted_t rfl rfl (es rfl (et rfl)) (ez rfl)) (V_mov rfl (es rfl (es rfl (es rfl (es rfl (es rfl (es rfl (es rfl (es rfl (es rfl (es rfl (es rfl (es rfl (es rfl (es rfl (es rfl (es rfl (es rfl (es rfl (es rfl (es rfl l14_22))))))))))))))))))))) ?_
    refine W_v rfl (wanted_t rfl rfl (es rfl (es rfl (et rfl))) (ez rfl)) (V_eql rfl (es rfl (et rfl)) (et rfl)) ?_
    refine W_v rfl rfl (V_pickT rfl (es rfl (es rfl (es rfl (et rfl)))) (et rfl)) ?_
    refine W_sure (c' := true) rfl rfl (V_mov rfl (et rfl)) (by simp) ?_
    refine W_call rfl (wanted_t rfl rfl (et rfl) (ez rfl)) rfl Try.func12 (by kernel_rfl) rfl (args0) (shw_c  ) ?_
    rintro _ w25 ⟨rfl, hP25⟩
    refine ⟨_, rfl, ?_⟩
    have hS25 := hS24.join hP25
    replace hS25 : St w NoX [c_21, c_18] w25 := hS25
    refine W_v rfl rfl (V_pickT rfl (es rfl (et rfl)) (et rfl)) ?_
    refine W_v rfl rfl (V_asg rfl (et rfl)) ?_
    refine W_end ?_
    refine gen_Q (fun A26 hA26 => ?_)
    have hsz26 : SzN A26 69 := by rw [hA26]; infer_instance
    have hdf26 : A26.defers = [] := by rw [hA26]; simp only [df_put]; exact hdf22
    have l4_26 := lookE hA26 4 (et rfl)
    clear hA26 hsz22 hdf22 l5_22 l6_22 l7_22 l8_22 l9_22 l10_22 l11_22 l12_22 l13_22 l14_22
    have hS27 : St w NoX [] w25 := hS25.sel [] (by decide) rfl
    refine then_n (hK23 _ _ ?_)
    clear hK23
    refine wp_ret ?_
    refine ret_in (results_1 Try.results4 (rv_tmp l4_26)) hdf26 ?_
    -- leaf F
    exact ⟨rfl, hS27.fin0⟩

end Go.Proofs.Ytbnijekjaafoaaa