import Derived.Test.YtnfgeekaeegolaaProg
import Derived.Test.YtnfgeekaeegolaaRd4
import Derived.Test.YtnfgeekaeegolaaRe6
namespace Go.Proofs.Ytnfgeekaeegolaa
open Go.RowKit Go.Own Go.Own.R Go.Own.S Go.Own.F


set_option maxHeartbeats 4000000 in
theorem ReferrersMerges_c {cv : Value} {l : List (Int × Int)} {dv : Value} {m : List (Int × Int)} {w : World} (h_cv : Ro w NoX (rl 2 rcC cv l)) (h_dv : Ro w NoX (rl 2 rcC dv m))  :
    Calls Try.prog 8 #[cv, dv] w fun e w' => e = .returned (.bool true) ∧ St w NoX [] w' := by
  refine calls_in 39 Try.func8 rfl rfl (by simp) (fun A0 hsz0 hdf0 hargs => ?_)
  have l0_0 := hargs 0 (cv) rfl
  have l1_0 := hargs 1 (dv) rfl
  clear hargs; replace hsz0 : SzN A0 39 := ⟨hsz0⟩
  have hS := St.nil w
  have bh_cv := SlN.le (sl_SlN h_cv.at)
  have bh_dv := SlN.le (sl_SlN h_dv.at)
  refine wp_seq_k (fun K1 hK1 => ?_)
  refine region_in ?_
  refine W_v rfl rfl (V_asg rfl rfl) ?_
  refine W_end ?_
  refine gen_Q (fun A2 hA2 => ?_)
  have hsz2 := szq hA2
  have hdf2 : A2.defers = [] := by rw [hA2]; simp only [df_put]; exact hdf0
  have l0_2 := lookE hA2 0 (es rfl l0_0)
  have l1_2 := lookE hA2 1 (es rfl l1_0)
  clear hA2 hsz0 hdf0 l0_0 l1_0
  refine then_n (hK1 _ _ ?_)
  clear hK1
  refine wp_seq_k (fun K3 hK3 => ?_)
  refine wp_seq_k (fun K4 hK4 => ?_)
  refine region_in ?_
  refine W_v rfl rfl (V_mov rfl l0_2) ?_
  refine W_call rfl rfl rfl Try.func24 (by kernel_rfl) rfl (args1 (et rfl)) (qlong_c (hS.roC h_cv) ) ?_
  rintro _ w5 ⟨rfl, hP5⟩
  refine ⟨_, rfl, ?_⟩
  have hS5 := hS.join hP5
  replace hS5 : St w NoX [] w5 := hS5
  refine W_split rfl rfl (V_mov rfl (et rfl)) (fun c6 => ?_) (fun c6 => ?_)
  · skip
    refine W_off rfl (wanted_f rfl rfl (et rfl) (ez rfl) rfl) ?_
    refine W_off rfl (wanted_f rfl rfl (es rfl (et rfl)) (ez rfl) rfl) ?_
    refine W_v rfl rfl (V_pickT rfl (e2 rfl (et rfl)) rfl) ?_
    refine W_end ?_
    refine gen_Q (fun A7 hA7 => ?_)
    have hsz7 := szq hA7
    have hdf7 : A7.defers = [] := by rw [hA7]; simp only [df_put]; exact hdf2
    have l0_7 := lookE hA7 0 (e5 rfl (es rfl l0_2))
    have l1_7 := lookE hA7 1 (e5 rfl (es rfl l1_2))
    have l14_7 := lookE hA7 14 (et rfl)
    clear hA7 hsz2 hdf2 l0_2 l1_2
    refine then_n (hK4 _ _ ?_)
    clear hK4
    refine cond_t l14_7 ?_
    refine wp_seq_k (fun K8 hK8 => ?_)
    refine region_in ?_
    refine W_call rfl rfl rfl Try.func12 (by kernel_rfl) rfl (args0) (awk_c  ) ?_
    rintro _ w9 ⟨rfl, hP9⟩
    refine ⟨_, rfl, ?_⟩
    have hS9 := hS5.join hP9
    replace hS9 : St w NoX [] w9 := hS9
    refine W_v rfl rfl (V_asg rfl (et rfl)) ?_
    refine W_end ?_
    refine gen_Q (fun A10 hA10 => ?_)
    have hsz10 := szq hA10
    have hdf10 : A10.defers = [] := by rw [hA10]; simp only [df_put]; exact hdf7
    have l4_10 := lookE hA10 4 (et rfl)
    clear hA10 hsz7 hdf7 l0_7 l1_7 l14_7
    refine then_n (hK8 _ _ ?_)
    clear hK8
    refine wp_ret ?_
    refine then_ret ?_
    refine ret_in (results_1 Try.results8 (rv_tmp l4_10)) hdf10 ?_
    -- leaf T
    exact ⟨rfl, hS9.fin0⟩
  · skip
    refine W_v rfl (wanted_t rfl rfl (et rfl) (ez rfl)) (V_mov rfl (e2 rfl (es rfl l1_2))) ?_
    refine W_call rfl (wanted_t rfl rfl (es rfl (et rfl)) (ez rfl)) rfl Try.func24 (by kernel_rfl) rfl (args1 (et rfl)) (qlong_c (hS5.roC h_dv) ) ?_
    rintro _ w11 ⟨rfl, hP11⟩
    refine ⟨_, rfl, ?_⟩
    have hS11 := hS5.join hP11
    replace hS11 : St w NoX [] w11 := hS11
    refine W_v rfl rfl (V_pickF rfl (e2 rfl (et rfl)) (et rfl)) ?_
    refine W_end ?_
    refine gen_Q (fun A12 hA12 => ?_)
    have hsz12 := szq hA12
    have hdf12 : A12.defers = [] := by rw [hA12]; simp only [df_put]; exact hdf2
    have l0_12 := lookE hA12 0 (e5 rfl (es rfl l0_2))
    have l1_12 := lookE hA12 1 (e5 rfl (es rfl l1_2))
    have l14_12 := lookE hA12 14 (et rfl)
    clear hA12 hsz2 hdf2 l0_2 l1_2
    refine then_n (hK4 _ _ ?_)
    clear hK4
    refine cond_dec l14_12 (fun c13 => ?_) (fun c13 => ?_)
    · skip
      refine wp_seq_k (fun K14 hK14 => ?_)
      refine region_in ?_
      refine W_call rfl rfl rfl Try.func12 (by kernel_rfl) rfl (args0) (awk_c  ) ?_
      rintro _ w15 ⟨rfl, hP15⟩
      refine ⟨_, rfl, ?_⟩
      have hS15 := hS11.join hP15
      replace hS15 : St w NoX [] w15 := hS15
      refine W_v rfl rfl (V_asg rfl (et rfl)) ?_
      refine W_end ?_
      refine gen_Q (fun A16 hA16 => ?_)
      have hsz16 := szq hA16
      have hdf16 : A16.defers = [] := by rw [hA16]; simp only [df_put]; exact hdf12
      have l4_16 := lookE hA16 4 (et rfl)
      clear hA16 hsz12 hdf12 l0_12 l1_12 l14_12
      refine then_n (hK14 _ _ ?_)
      clear hK14
      refine wp_ret ?_
      refine then_ret ?_
      refine ret_in (results_1 Try.results8 (rv_tmp l4_16)) hdf16 ?_
      -- leaf FT
      exact ⟨rfl, hS15.fin0⟩
    · skip
      refine wp_skip ?_
      refine then_n (hK3 _ _ ?_)
      clear hK3
      refine wp_seq_k (fun K17 hK17 => ?_)
      refine region_in ?_
      refine W_v rfl rfl (V_mov rfl l0_12) ?_
      refine W_v rfl rfl (V_mov rfl (es rfl l1_12)) ?_
      refine W_call rfl rfl rfl Try.func33 (by kernel_rfl) rfl (args2 (es rfl (et rfl)) (et rfl)) (kmg_c (hS11.roC h_cv) (hS11.roC h_dv) ) ?_
      rintro _ w18 ⟨v_18, rfl, hP18⟩
      refine ⟨_, rfl, ?_⟩
      obtain ⟨c_18, hc_18, hP18⟩ := gen1 hP18
      have hS18 := hS11.join hP18
      replace hS18 : St w NoX [c_18] w18 := hS18
      refine W_v rfl rfl (V_mov rfl (et rfl)) ?_
      refine W_v rfl rfl (V_ext (v := v_18) rfl (et rfl) rfl) ?_
      refine W_v rfl rfl (V_ext (v := .int .i64 ((mgE l m))) rfl (es rfl (et rfl)) rfl) ?_
      refine W_v rfl rfl (V_asg rfl (es rfl (et rfl))) ?_
      refine W_v rfl rfl (V_asg rfl (es rfl (et rfl))) ?_
      refine W_end ?_
      refine gen_Q (fun A19 hA19 => ?_)
      have hsz19 := szq hA19
      have hdf19 : A19.defers = [] := by rw [hA19]; simp only [df_put]; exact hdf12
      have l0_19 := lookE hA19 0 (e7 rfl (es rfl l0_12))
      have l1_19 := lookE hA19 1 (e7 rfl (es rfl l1_12))
      have l5_19 := lookE hA19 5 (es rfl (et rfl))
      have l6_19 := lookE hA19 6 (et rfl)
      clear hA19 hsz12 hdf12 l0_12 l1_12 l14_12
      refine then_n (hK17 _ _ ?_)
      clear hK17
      refine wp_seq_k (fun K20 hK20 => ?_)
      refine region_in ?_
      refine W_v rfl rfl (V_mov rfl l0_19) ?_
      refine W_v rfl rfl (V_mov rfl (es rfl l1_19)) ?_
      refine W_call rfl rfl rfl Try.func22 (by kernel_rfl) rfl (args2 (es rfl (et rfl)) (et rfl)) (qmg_c (hS18.roC h_cv) (hS18.roC h_dv) ) ?_
      rintro _ w21 ⟨v_21, rfl, hP21⟩
      refine ⟨_, rfl, ?_⟩
      obtain ⟨c_21, hc_21, hP21⟩ := gen1 hP21
      have hS21 := hS18.join hP21
      replace hS21 : St w NoX [c_21, c_18] w21 := hS21
      refine W_v rfl rfl (V_mov rfl (et rfl)) ?_
      refine W_v rfl rfl (V_ext (v := v_21) rfl (et rfl) rfl) ?_
      refine W_v rfl rfl (V_ext (v := .int .i64 ((mgE l m))) rfl (es rfl (et rfl)) rfl) ?_
      refine W_v rfl rfl (V_asg rfl (es rfl (et rfl))) ?_
      refine W_v rfl rfl (V_asg rfl (es rfl (et rfl))) ?_
      refine W_end ?_
      refine gen_Q (fun A22 hA22 => ?_)
      have hsz22 := szq hA22
      have hdf22 : A22.defers = [] := by rw [hA22]; simp only [df_put]; exact hdf19
      have l5_22 := lookE hA22 5 (e7 rfl (es rfl l5_19))
      have l6_22 := lookE hA22 6 (e7 rfl (es rfl l6_19))
      have l7_22 := lookE hA22 7 (es rfl (et rfl))
      have l8_22 := lookE hA22 8 (et rfl)
      clear hA22 hsz19 hdf19 l0_19 l1_19 l5_19 l6_19
      refine then_n (hK20 _ _ ?_)
      clear hK20
      refine wp_seq_k (fun K23 hK23 => ?_)
      refine region_in ?_
      refine W_v rfl rfl (V_mov rfl l5_22) ?_
      refine W_v rfl rfl (V_mov rfl (es rfl l7_22)) ?_
      refine W_call rfl rfl rfl Try.func17 (by kernel_rfl) rfl (args2 (es rfl (et rfl)) (et rfl)) (qSm9_c (hS21.chC 1 rfl hc_18).own (hS21.chC 0 rfl hc_21).own ) ?_
      rintro _ w24 ⟨rfl, hP24⟩
      refine ⟨_, rfl, ?_⟩
      have hS24 := hS21.join hP24
      replace hS24 : St w NoX [c_21, c_18] w24 := hS24
      refine W_sure (c' := true) rfl rfl (V_mov rfl (et rfl)) (by simp) ?_
      refine W_v rfl (wanted_t rfl rfl (et rfl) (ez rfl)) (V_mov rfl (e3 rfl (es rfl l6_22))) ?_
      refine W_v rfl (wanted_t rfl rfl (es rfl (et rfl)) (ez rfl)) (V_mov rfl (e4 rfl (es rfl l8_22))) ?_
      refine W_v rfl (wanted_t rfl rfl (e2 rfl (et rfl)) (ez rfl)) (V_eql rfl (es rfl (et rfl)) (et rfl)) ?_
      refine W_v rfl rfl (V_pickT rfl (e3 rfl (et rfl)) (et rfl)) ?_
      refine W_sure (c' := true) rfl rfl (V_mov rfl (et rfl)) (by simp) ?_
      refine W_call rfl (wanted_t rfl rfl (et rfl) (ez rfl)) rfl Try.func12 (by kernel_rfl) rfl (args0) (awk_c  ) ?_
      rintro _ w25 ⟨rfl, hP25⟩
      refine ⟨_, rfl, ?_⟩
      have hS25 := hS24.join hP25
      replace hS25 : St w NoX [c_21, c_18] w25 := hS25
      refine W_v rfl rfl (V_pickT rfl (es rfl (et rfl)) (et rfl)) ?_
      refine W_v rfl rfl (V_asg rfl (et rfl)) ?_
      refine W_end ?_
      refine gen_Q (fun A26 hA26 => ?_)
      have hsz26 := szq hA26
      have hdf26 : A26.defers = [] := by rw [hA26]; simp only [df_put]; exact hdf22
      have l4_26 := lookE hA26 4 (et rfl)
      clear hA26 hsz22 hdf22 l5_22 l6_22 l7_22 l8_22
      have hS27 : St w NoX [] w25 := hS25.sel [] (by decide) rfl
      refine then_n (hK23 _ _ ?_)
      clear hK23
      refine wp_ret ?_
      refine ret_in (results_1 Try.results8 (rv_tmp l4_26)) hdf26 ?_
      -- leaf FF
      exact ⟨rfl, hS27.fin0⟩

end Go.Proofs.Ytnfgeekaeegolaa