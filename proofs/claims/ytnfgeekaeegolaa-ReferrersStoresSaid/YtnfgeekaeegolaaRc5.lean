import Derived.Test.YtnfgeekaeegolaaProg
import Derived.Test.YtnfgeekaeegolaaRc4
namespace Go.Proofs.Ytnfgeekaeegolaa
open Go.RowKit Go.Own Go.Own.R Go.Own.S Go.Own.F


set_option maxHeartbeats 4000000 in
theorem kho_c {wv : Value} {ws : List Int} {cv : Value} {c : List Int} {t : Int} {w : World} (h_wv : Ro w NoX (il .u64 wv ws)) (h_cv : Ro w NoX (il .i64 cv c)) (hu : ∀ x ∈ ws, 0 ≤ x ∧ x ≤ 18446744073709551615) :
    Calls Try.prog 18 #[wv, .agg #[cv], .int .i64 t] w fun e w' => ∃ v, e = .returned (.tuple #[v, .int .i64 (hoE ws c t)]) ∧ St w NoX [io .i64 (v) (hoT ws c t)] w' := by
  refine calls_in 25 Try.func18 rfl rfl (by simp) (fun A0 hsz0 hdf0 hargs => ?_)
  have l0_0 := hargs 0 (wv) rfl
  have l1_0 := hargs 1 (.agg #[cv]) rfl
  have l2_0 := hargs 2 (.int .i64 t) rfl
  clear hargs; replace hsz0 : SzN A0 25 := ⟨hsz0⟩
  have hS := St.nil w
  have bh_wv := SlN.le (sl_SlN h_wv.at)
  have bh_cv := SlN.le (sl_SlN h_cv.at)
  refine wp_seq_k (fun K1 hK1 => ?_)
  refine region_in ?_
  refine W_boxS (zs := #[cv]) hS rfl rfl rfl l1_0 (by rfl) (fun g2 w2 c2 hc2 hS2 => ?_)
  replace hS2 : St w NoX [c2] w2 := hS2
  refine W_v rfl rfl (V_asg rfl rfl) ?_
  refine W_v rfl rfl (V_asg rfl rfl) ?_
  refine W_end ?_
  refine gen_Q (fun A3 hA3 => ?_)
  have hsz3 := szq hA3
  have hdf3 : A3.defers = [] := by rw [hA3]; simp only [df_put]; exact hdf0
  have l0_3 := lookE hA3 0 (e2 rfl (es rfl l0_0))
  have l2_3 := lookE hA3 2 (e2 rfl (es rfl l2_0))
  have l4_3 := lookE hA3 4 (e2 rfl (et rfl))
  clear hA3 hsz0 hdf0 l0_0 l1_0 l2_0
  refine then_n (hK1 _ _ ?_)
  clear hK1
  refine wp_seq_k (fun K4 hK4 => ?_)
  refine region_in ?_
  refine W_v rfl rfl (V_mov rfl l0_3) ?_
  refine W_r rfl rfl (VR_ldA rfl (es rfl l4_3) (hS2.obj 0 rfl hc2) Try.underlying25 rfl (by kernel_rfl)) ?_
  refine W_call rfl rfl rfl Try.func37 (by kernel_rfl) rfl (args2 (es rfl (et rfl)) (et rfl)) (khm_c (hS2.roC h_wv) (hS2.roC h_cv) (by with_reducible assumption)) ?_
  rintro _ w5 ⟨v_5, K_5, rfl, hm_5, hP5⟩
  refine ⟨_, rfl, ?_⟩
  obtain ⟨c_5, cm_5, hc_5, hcm_5, hP5⟩ := gen2 hP5
  have hS5 := hS2.join hP5
  replace hS5 : St w NoX [c_5, cm_5, c2] w5 := hS5
  refine W_v rfl rfl (V_mov rfl (et rfl)) ?_
  refine W_v rfl rfl (V_ext (v := v_5) rfl (et rfl) rfl) ?_
  refine W_v rfl rfl (V_ext (v := .int .i64 ((slE ws c))) rfl (es rfl (et rfl)) rfl) ?_
  refine W_v rfl rfl (V_asg rfl (es rfl (et rfl))) ?_
  refine W_v rfl rfl (V_asg rfl (es rfl (et rfl))) ?_
  refine W_end ?_
  refine gen_Q (fun A6 hA6 => ?_)
  have hsz6 := szq hA6
  have hdf6 : A6.defers = [] := by rw [hA6]; simp only [df_put]; exact hdf3
  have l2_6 := lookE hA6 2 (e7 rfl (es rfl l2_3))
  have l8_6 := lookE hA6 8 (es rfl (et rfl))
  have l9_6 := lookE hA6 9 (et rfl)
  clear hA6 hsz3 hdf3 l0_3 l2_3 l4_3
  have hS7 : St w NoX [c_5, cm_5] w5 := hS5.sel [0, 1] (by decide) rfl
  refine then_n (hK4 _ _ ?_)
  clear hK4
  refine wp_seq_k (fun K8 hK8 => ?_)
  refine wp_seq_k (fun K9 hK9 => ?_)
  refine region_in ?_
  refine W_v rfl rfl (V_mov rfl l9_6) ?_
  refine W_v rfl rfl (V_neq rfl (et rfl) rfl) ?_
  refine W_end ?_
  refine gen_Q (fun A10 hA10 => ?_)
  have hsz10 := szq hA10
  have hdf10 : A10.defers = [] := by rw [hA10]; simp only [df_put]; exact hdf6
  have l2_10 := lookE hA10 2 (es rfl (es rfl l2_6))
  have l8_10 := lookE hA10 8 (es rfl (es rfl l8_6))
  have l9_10 := lookE hA10 9 (es rfl (es rfl l9_6))
  have l17_10 := lookE hA10 17 (et rfl)
  clear hA10 hsz6 hdf6 l2_6 l8_6 l9_6
  refine then_n (hK9 _ _ ?_)
  clear hK9
  refine cond_dec l17_10 (fun c11 => ?_) (fun c11 => ?_)
  · skip
    refine wp_seq_k (fun K12 hK12 => ?_)
    refine region_in ?_
    refine W_v rfl rfl (V_mov rfl l9_10) ?_
    refine W_v rfl rfl (V_asg rfl rfl) ?_
    refine W_v rfl rfl (V_asg rfl (es rfl (et rfl))) ?_
    refine W_end ?_
    refine gen_Q (fun A13 hA13 => ?_)
    have hsz13 := szq hA13
    have hdf13 : A13.defers = [] := by rw [hA13]; simp only [df_put]; exact hdf10
    have l6_13 := lookE hA13 6 (es rfl (et rfl))
    have l7_13 := lookE hA13 7 (et rfl)
    clear hA13 hsz10 hdf10 l2_10 l8_10 l9_10 l17_10
    have hS14 : St w NoX [] w5 := hS7.sel [] (by decide) rfl
    refine then_n (hK12 _ _ ?_)
    clear hK12
    refine wp_ret ?_
    refine then_ret ?_
    refine ret_in (results_2 Try.results18 (rv_tmp l6_13) (rv_tmp l7_13)) hdf13 ?_
    -- leaf T
    obtain ⟨c15, hc15, hS15⟩ := hS14.pnil (s := 1)
    have he : hoE ws c t = _ := hoE_err (by omega)
    have ht : hoT ws c t = [] := hoT_err (by rw [he]; omega)
    rw [he]
    exact ⟨_, rfl, (hS15.fin1 0 rfl (hc15.trans (by rw [show hoT ws c t = [] by rw [ht]] <;> rfl)))⟩
  · skip
    refine wp_skip ?_
    refine then_n (hK8 _ _ ?_)
    clear hK8
    refine wp_seq_k (fun K16 hK16 => ?_)
    refine wp_seq_k (fun K17 hK17 => ?_)
    refine region_in ?_
    refine W_v rfl rfl (V_mov rfl l2_10) ?_
    refine W_call rfl rfl rfl Try.func41 (by kernel_rfl) rfl (args1 (et rfl)) (kkn_c (a := t)  ) ?_
    rintro _ w18 ⟨rfl, hP18⟩
    refine ⟨_, rfl, ?_⟩
    have hS18 := hS7.join hP18
    replace hS18 : St w NoX [c_5, cm_5] w18 := hS18
    refine W_v rfl rfl (V_notd rfl (et rfl)) ?_
    refine W_end ?_
    refine gen_Q (fun A19 hA19 => ?_)
    have hsz19 := szq hA19
    have hdf19 : A19.defers = [] := by rw [hA19]; simp only [df_put]; exact hdf10
    have l2_19 := lookE hA19 2 (e2 rfl (es rfl l2_10))
    have l8_19 := lookE hA19 8 (e2 rfl (es rfl l8_10))
    have l21_19 := lookE hA19 21 (et rfl)
    clear hA19 hsz10 hdf10 l2_10 l8_10 l9_10 l17_10
    refine then_n (hK17 _ _ ?_)
    clear hK17
    refine cond_dec l21_19 (fun c20 => ?_) (fun c20 => ?_)
    · skip
      refine wp_seq_k (fun K21 hK21 => ?_)
      refine region_in ?_
      refine W_v rfl rfl (V_asg rfl rfl) ?_
      refine W_v rfl rfl (V_asg rfl rfl) ?_
      refine W_end ?_
      refine gen_Q (fun A22 hA22 => ?_)
      have hsz22 := szq hA22
      have hdf22 : A22.defers = [] := by rw [hA22]; simp only [df_put]; exact hdf19
      have l6_22 := lookE hA22 6 (es rfl (et rfl))
      have l7_22 := lookE hA22 7 (et rfl)
      clear hA22 hsz19 hdf19 l2_19 l8_19 l21_19
      have hS23 : St w NoX [] w18 := hS18.sel [] (by decide) rfl
      refine then_n (hK21 _ _ ?_)
      clear hK21
      refine wp_ret ?_
      refine then_ret ?_
      refine ret_in (results_2 Try.results18 (rv_tmp l6_22) (rv_tmp l7_22)) hdf22 ?_
      -- leaf FT
      obtain ⟨c24, hc24, hS24⟩ := hS23.pnil (s := 1)
      have he : hoE ws c t = _ := hoE_unk (by omega) (by omega)
      have ht : hoT ws c t = [] := hoT_err (by rw [he]; omega)
      rw [he]
      exact ⟨_, rfl, (hS24.fin1 0 rfl (hc24.trans (by rw [show hoT ws c t = [] by rw [ht]] <;> rfl)))⟩
    · skip
      refine wp_skip ?_
      refine then_n (hK16 _ _ ?_)
      clear hK16
      refine wp_seq_k (fun K25 hK25 => ?_)
      refine region_in ?_
      refine W_v rfl rfl (V_mov rfl l8_19) ?_
      refine W_v rfl rfl (V_mov rfl (es rfl l2_19)) ?_
      refine W_r rfl rfl (VR_lookK rfl (es rfl (et rfl)) (et rfl) (hS18.chq 0 rfl hc_5) Try.underlying64 Try.underlying3 (by kernel_rfl)) ?_
      have hS27 : St w NoX [cm_5, c_5] w18 := hS18.sel [1, 0] (by decide) rfl
      obtain ⟨c26, cm26, hc26, hcm26, hS26⟩ := hS27.kout t hcm_5
      replace hS26 : St w NoX [c26, cm26, c_5] w18 := hS26
      refine W_v rfl rfl (V_asg rfl (et rfl)) ?_
      refine W_v rfl rfl (V_asg rfl rfl) ?_
      refine W_end ?_
      refine gen_Q (fun A28 hA28 => ?_)
      have hsz28 := szq hA28
      have hdf28 : A28.defers = [] := by rw [hA28]; simp only [df_put]; exact hdf19
      have l6_28 := lookE hA28 6 (es rfl (et rfl))
      have l7_28 := lookE hA28 7 (et rfl)
      clear hA28 hsz19 hdf19 l2_19 l8_19 l21_19
      have hS29 : St w NoX [c26] w18 := hS26.sel [0] (by decide) rfl
      refine then_n (hK25 _ _ ?_)
      clear hK25
      refine wp_ret ?_
      refine ret_in (results_2 Try.results18 (rv_tmp l6_28) (rv_tmp l7_28)) hdf28 ?_
      -- leaf FF
      have he : hoE ws c t = 0 := hoE_ok (by omega) (by omega)
      have hq := HM.sl (by assumption) t (by omega)
      rw [he]
      exact ⟨_, rfl, (hS29.fin1 0 rfl (hc26.trans (congrArg (io .i64 _) (by rw [hoT_ok (by omega) (by omega)]; exact hq))))⟩

set_option maxHeartbeats 4000000 in
theorem kof_c {wv : Value} {ws : List Int} {cv : Value} {c : List Int} {t : Int} {w : World} (h_wv : Ro w NoX (il .u64 wv ws)) (h_cv : Ro w NoX (il .i64 cv c)) (hu : ∀ x ∈ ws, 0 ≤ x ∧ x ≤ 18446744073709551615) :
    Calls Try.prog 15 #[wv, .agg #[cv], .int .i64 t] w fun e w' => e = .returned (.tuple #[.int .i64 ((hoT ws c t).length : Int), .int .i64 (hoE ws c t)]) ∧ St w NoX [] w' := by
  refine calls_in 20 Try.func15 rfl rfl (by simp) (fun A0 hsz0 hdf0 hargs => ?_)
  have l0_0 := hargs 0 (wv) rfl
  have l1_0 := hargs 1 (.agg #[cv]) rfl
  have l2_0 := hargs 2 (.int .i64 t) rfl
  clear hargs; replace hsz0 : SzN A0 20 := ⟨hsz0⟩
  have hS := St.nil w
  have bh_wv := SlN.le (sl_SlN h_wv.at)
  have bh_cv := SlN.le (sl_SlN h_cv.at)
  refine wp_seq_k (fun K1 hK1 => ?_)
  refine region_in ?_
  refine W_boxS (zs := #[cv]) hS rfl rfl rfl l1_0 (by rfl) (fun g2 w2 c2 hc2 hS2 => ?_)
  replace hS2 : St w NoX [c2] w2 := hS2
  refine W_v rfl rfl (V_asg rfl rfl) ?_
  refine W_v rfl rfl (V_asg rfl rfl) ?_
  refine W_end ?_
  refine gen_Q (fun A3 hA3 => ?_)
  have hsz3 := szq hA3
  have hdf3 : A3.defers = [] := by rw [hA3]; simp only [df_put]; exact hdf0
  have l0_3 := lookE hA3 0 (e2 rfl (es rfl l0_0))
  have l2_3 := lookE hA3 2 (e2 rfl (es rfl l2_0))
  have l4_3 := lookE hA3 4 (e2 rfl (et rfl))
  clear hA3 hsz0 hdf0 l0_0 l1_0 l2_0
  refine then_n (hK1 _ _ ?_)
  clear hK1
  refine wp_seq_k (fun K4 hK4 => ?_)
  refine region_in ?_
  refine W_v rfl rfl (V_mov rfl l0_3) ?_
  refine W_r rfl rfl (VR_ldA rfl (es rfl l4_3) (hS2.obj 0 rfl hc2) Try.underlying25 rfl (by kernel_rfl)) ?_
  refine W_v rfl rfl (V_mov rfl (es rfl (es rfl l2_3))) ?_
  refine W_call rfl rfl rfl Try.func18 (by kernel_rfl) rfl (args3 (e2 rfl (et rfl)) (es rfl (et rfl)) (et rfl)) (kho_c (t := t) (hS2.roC h_wv) (hS2.roC h_cv) (by with_reducible assumption)) ?_
  rintro _ w5 ⟨v_5, rfl, hP5⟩
  refine ⟨_, rfl, ?_⟩
  obtain ⟨c_5, hc_5, hP5⟩ := gen1 hP5
  have hS5 := hS2.join hP5
  replace hS5 : St w NoX [c_5, c2] w5 := hS5
  refine W_v rfl rfl (V_mov rfl (et rfl)) ?_
  refine W_v rfl rfl (V_ext (v := v_5) rfl (et rfl) rfl) ?_
  refine W_v rfl rfl (V_ext (v := .int .i64 ((hoE ws c t))) rfl (es rfl (et rfl)) rfl) ?_
  refine W_v rfl rfl (V_asg rfl (es rfl (et rfl))) ?_
  refine W_v rfl rfl (V_asg rfl (es rfl (et rfl))) ?_
  refine W_end ?_
  refine gen_Q (fun A6 hA6 => ?_)
  have hsz6 := szq hA6
  have hdf6 : A6.defers = [] := by rw [hA6]; simp only [df_put]; exact hdf3
  have l8_6 := lookE hA6 8 (es rfl (et rfl))
  have l9_6 := lookE hA6 9 (et rfl)
  clear hA6 hsz3 hdf3 l0_3 l2_3 l4_3
  have hS7 : St w NoX [c_5] w5 := hS5.sel [0] (by decide) rfl
  refine then_n (hK4 _ _ ?_)
  clear hK4
  refine wp_seq_k (fun K8 hK8 => ?_)
  refine region_in ?_
  refine W_v rfl rfl (V_mov rfl l8_6) ?_
  refine W_v rfl rfl (V_lenS rfl (et rfl) (ow_at (hS7.chq 0 rfl hc_5)) Try.underlying23) ?_
  refine W_v rfl rfl (V_mov rfl (es rfl (es rfl l9_6))) ?_
  refine W_v rfl rfl (V_asg rfl (es rfl (et rfl))) ?_
  refine W_v rfl rfl (V_asg rfl (es rfl (et rfl))) ?_
  refine W_end ?_
  refine gen_Q (fun A9 hA9 => ?_)
  have hsz9 := szq hA9
  have hdf9 : A9.defers = [] := by rw [hA9]; simp only [df_put]; exact hdf6
  have l6_9 := lookE hA9 6 (es rfl (et rfl))
  have l7_9 := lookE hA9 7 (et rfl)
  clear hA9 hsz6 hdf6 l8_6 l9_6
  have hS10 : St w NoX [] w5 := hS7.sel [] (by decide) rfl
  refine then_n (hK8 _ _ ?_)
  clear hK8
  refine wp_ret ?_
  refine ret_in (results_2 Try.results15 (rv_tmp l6_9) (rv_tmp l7_9)) hdf9 ?_
  -- leaf 
  exact ⟨rfl, hS10.fin0⟩

end Go.Proofs.Ytnfgeekaeegolaa