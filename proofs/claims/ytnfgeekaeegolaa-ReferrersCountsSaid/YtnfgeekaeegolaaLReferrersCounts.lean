import Derived.Test.YtnfgeekaeegolaaProg
import Derived.Test.YtnfgeekaeegolaaRd4
namespace Go.Proofs.Ytnfgeekaeegolaa
open Go.RowKit Go.Own Go.Own.R Go.Own.S Go.Own.F


set_option maxHeartbeats 4000000 in
theorem ReferrersCounts_c {wv : Value} {ws : List Int} {cv : Value} {c : List Int} {t : Int} {w : World} (h_wv : Ro w NoX (il .u64 wv ws)) (h_cv : Ro w NoX (il .i64 cv c)) (hu : ∀ x ∈ ws, 0 ≤ x ∧ x ≤ 18446744073709551615) :
    Calls Try.prog 3 #[wv, .agg #[cv], .int .i64 t] w fun e w' => e = .returned (.bool true) ∧ St w NoX [] w' := by
  refine calls_in 91 Try.func3 rfl rfl (by simp) (fun A0 hsz0 hdf0 hargs => ?_)
  have l0_0 := hargs 0 (wv) rfl
  have l1_0 := hargs 1 (.agg #[cv]) rfl
  have l2_0 := hargs 2 (.int .i64 t) rfl
  clear hargs; replace hsz0 : SzN A0 91 := ⟨hsz0⟩
  have hS := St.nil w
  have bh_wv := SlN.le (sl_SlN h_wv.at)
  have bh_cv := SlN.le (sl_SlN h_cv.at)
  refine wp_seq_k (fun K1 hK1 => ?_)
  refine region_in ?_
  refine W_boxS (zs := #[cv]) hS rfl rfl rfl l1_0 (by rfl) (fun g2 w2 c2 hc2 hS2 => ?_)
  replace hS2 : St w NoX [c2] w2 := hS2
  refine W_v rfl rfl (V_asg rfl rfl) ?_
  refine W_end ?_
  refine gen_Q (fun A3 hA3 => ?_)
  have hsz3 := szq hA3
  have hdf3 : A3.defers = [] := by rw [hA3]; simp only [df_put]; exact hdf0
  have l0_3 := lookE hA3 0 (es rfl (es rfl l0_0))
  have l2_3 := lookE hA3 2 (es rfl (es rfl l2_0))
  have l4_3 := lookE hA3 4 (es rfl (et rfl))
  clear hA3 hsz0 hdf0 l0_0 l1_0 l2_0
  refine then_n (hK1 _ _ ?_)
  clear hK1
  refine wp_seq_k (fun K4 hK4 => ?_)
  refine wp_seq_k (fun K5 hK5 => ?_)
  refine region_in ?_
  refine W_v rfl rfl (V_mov rfl l0_3) ?_
  refine W_r rfl rfl (VR_ldA rfl (es rfl l4_3) (hS2.obj 0 rfl hc2) Try.underlying25 rfl (by kernel_rfl)) ?_
  refine W_call rfl rfl rfl Try.func11 (by kernel_rfl) rfl (args2 (es rfl (et rfl)) (et rfl)) (far9_c (hS2.roC h_wv) (hS2.roC h_cv) ) ?_
  rintro _ w6 ⟨rfl, hP6⟩
  refine ⟨_, rfl, ?_⟩
  have hS6 := hS2.join hP6
  replace hS6 : St w NoX [c2] w6 := hS6
  refine W_end ?_
  refine gen_Q (fun A7 hA7 => ?_)
  have hsz7 := szq hA7
  have hdf7 : A7.defers = [] := by rw [hA7]; simp only [df_put]; exact hdf3
  have l0_7 := lookE hA7 0 (e2 rfl (es rfl l0_3))
  have l2_7 := lookE hA7 2 (e2 rfl (es rfl l2_3))
  have l4_7 := lookE hA7 4 (e2 rfl (es rfl l4_3))
  have l19_7 := lookE hA7 19 (et rfl)
  clear hA7 hsz3 hdf3 l0_3 l2_3 l4_3
  refine then_n (hK5 _ _ ?_)
  clear hK5
  refine cond_dec l19_7 (fun c8 => ?_) (fun c8 => ?_)
  · skip
    refine wp_seq_k (fun K9 hK9 => ?_)
    refine region_in ?_
    refine W_call rfl rfl rfl Try.func12 (by kernel_rfl) rfl (args0) (awk_c  ) ?_
    rintro _ w10 ⟨rfl, hP10⟩
    refine ⟨_, rfl, ?_⟩
    have hS10 := hS6.join hP10
    replace hS10 : St w NoX [c2] w10 := hS10
    refine W_v rfl rfl (V_asg rfl (et rfl)) ?_
    refine W_end ?_
    refine gen_Q (fun A11 hA11 => ?_)
    have hsz11 := szq hA11
    have hdf11 : A11.defers = [] := by rw [hA11]; simp only [df_put]; exact hdf7
    have l6_11 := lookE hA11 6 (et rfl)
    clear hA11 hsz7 hdf7 l0_7 l2_7 l4_7 l19_7
    have hS12 : St w NoX [] w10 := hS10.sel [] (by decide) rfl
    refine then_n (hK9 _ _ ?_)
    clear hK9
    refine wp_ret ?_
    refine then_ret ?_
    refine ret_in (results_1 Try.results3 (rv_tmp l6_11)) hdf11 ?_
    -- leaf T
    exact ⟨rfl, hS12.fin0⟩
  · skip
    refine wp_skip ?_
    refine then_n (hK4 _ _ ?_)
    clear hK4
    refine wp_seq_k (fun K13 hK13 => ?_)
    refine region_in ?_
    refine W_v rfl rfl (V_mov rfl l0_7) ?_
    refine W_r rfl rfl (VR_ldA rfl (es rfl l4_7) (hS6.obj 0 rfl hc2) Try.underlying25 rfl (by kernel_rfl)) ?_
    refine W_call rfl rfl rfl Try.func13 (by kernel_rfl) rfl (args2 (es rfl (et rfl)) (et rfl)) (kct_c (hS6.roC h_wv) (hS6.roC h_cv) (by with_reducible assumption)) ?_
    rintro _ w14 ⟨v_14, rfl, hP14⟩
    refine ⟨_, rfl, ?_⟩
    obtain ⟨c_14, hc_14, hP14⟩ := gen1 hP14
    have hS14 := hS6.join hP14
    replace hS14 : St w NoX [c_14, c2] w14 := hS14
    refine W_v rfl rfl (V_mov rfl (et rfl)) ?_
    refine W_v rfl rfl (V_ext (v := v_14) rfl (et rfl) rfl) ?_
    refine W_v rfl rfl (V_ext (v := .int .i64 ((slE ws c))) rfl (es rfl (et rfl)) rfl) ?_
    refine W_v rfl rfl (V_asg rfl (es rfl (et rfl))) ?_
    refine W_v rfl rfl (V_asg rfl (es rfl (et rfl))) ?_
    refine W_end ?_
    refine gen_Q (fun A15 hA15 => ?_)
    have hsz15 := szq hA15
    have hdf15 : A15.defers = [] := by rw [hA15]; simp only [df_put]; exact hdf7
    have l0_15 := lookE hA15 0 (e7 rfl (es rfl l0_7))
    have l2_15 := lookE hA15 2 (e7 rfl (es rfl l2_7))
    have l4_15 := lookE hA15 4 (e7 rfl (es rfl l4_7))
    have l7_15 := lookE hA15 7 (es rfl (et rfl))
    have l8_15 := lookE hA15 8 (et rfl)
    clear hA15 hsz7 hdf7 l0_7 l2_7 l4_7 l19_7
    refine then_n (hK13 _ _ ?_)
    clear hK13
    refine wp_seq_k (fun K16 hK16 => ?_)
    refine region_in ?_
    refine W_v rfl rfl (V_mov rfl l0_15) ?_
    refine W_r rfl rfl (VR_ldA rfl (es rfl l4_15) (hS14.obj 1 rfl hc2) Try.underlying25 rfl (by kernel_rfl)) ?_
    refine W_call rfl rfl rfl Try.func14 (by kernel_rfl) rfl (args2 (es rfl (et rfl)) (et rfl)) (qct_c (hS14.roC h_wv) (hS14.roC h_cv) (by with_reducible assumption)) ?_
    rintro _ w17 ⟨v_17, rfl, hP17⟩
    refine ⟨_, rfl, ?_⟩
    obtain ⟨c_17, hc_17, hP17⟩ := gen1 hP17
    have hS17 := hS14.join hP17
    replace hS17 : St w NoX [c_17, c_14, c2] w17 := hS17
    refine W_v rfl rfl (V_mov rfl (et rfl)) ?_
    refine W_v rfl rfl (V_ext (v := v_17) rfl (et rfl) rfl) ?_
    refine W_v rfl rfl (V_ext (v := .int .i64 ((slE ws c))) rfl (es rfl (et rfl)) rfl) ?_
    refine W_v rfl rfl (V_asg rfl (es rfl (et rfl))) ?_
    refine W_v rfl rfl (V_asg rfl (es rfl (et rfl))) ?_
    refine W_end ?_
    refine gen_Q (fun A18 hA18 => ?_)
    have hsz18 := szq hA18
    have hdf18 : A18.defers = [] := by rw [hA18]; simp only [df_put]; exact hdf15
    have l0_18 := lookE hA18 0 (e7 rfl (es rfl l0_15))
    have l2_18 := lookE hA18 2 (e7 rfl (es rfl l2_15))
    have l4_18 := lookE hA18 4 (e7 rfl (es rfl l4_15))
    have l7_18 := lookE hA18 7 (e7 rfl (es rfl l7_15))
    have l8_18 := lookE hA18 8 (e7 rfl (es rfl l8_15))
    have l9_18 := lookE hA18 9 (es rfl (et rfl))
    have l10_18 := lookE hA18 10 (et rfl)
    clear hA18 hsz15 hdf15 l0_15 l2_15 l4_15 l7_15 l8_15
    refine then_n (hK16 _ _ ?_)
    clear hK16
    refine wp_seq_k (fun K19 hK19 => ?_)
    refine region_in ?_
    refine W_v rfl rfl (V_mov rfl l0_18) ?_
    refine W_r rfl rfl (VR_ldA rfl (es rfl l4_18) (hS17.obj 2 rfl hc2) Try.underlying25 rfl (by kernel_rfl)) ?_
    refine W_v rfl rfl (V_mov rfl (es rfl (es rfl l2_18))) ?_
    refine W_call rfl rfl rfl Try.func15 (by kernel_rfl) rfl (args3 (e2 rfl (et rfl)) (es rfl (et rfl)) (et rfl)) (kof_c (t := t) (hS17.roC h_wv) (hS17.roC h_cv) (by with_reducible assumption)) ?_
    rintro _ w20 ⟨rfl, hP20⟩
    refine ⟨_, rfl, ?_⟩
    have hS20 := hS17.join hP20
    replace hS20 : St w NoX [c_17, c_14, c2] w20 := hS20
    refine W_v rfl rfl (V_mov rfl (et rfl)) ?_
    refine W_v rfl rfl (V_ext (v := .int .i64 (((hoT ws c t).length : Int))) rfl (et rfl) rfl) ?_
    refine W_v rfl rfl (V_ext (v := .int .i64 ((hoE ws c t))) rfl (es rfl (et rfl)) rfl) ?_
    refine W_v rfl rfl (V_asg rfl (es rfl (et rfl))) ?_
    refine W_v rfl rfl (V_asg rfl (es rfl (et rfl))) ?_
    refine W_end ?_
    refine gen_Q (fun A21 hA21 => ?_)
    have hsz21 := szq hA21
    have hdf21 : A21.defers = [] := by rw [hA21]; simp only [df_put]; exact hdf18
    have l0_21 := lookE hA21 0 (e8 rfl (es rfl l0_18))
    have l2_21 := lookE hA21 2 (e8 rfl (es rfl l2_18))
    have l4_21 := lookE hA21 4 (e8 rfl (es rfl l4_18))
    have l7_21 := lookE hA21 7 (e8 rfl (es rfl l7_18))
    have l8_21 := lookE hA21 8 (e8 rfl (es rfl l8_18))
    have l9_21 := lookE hA21 9 (e8 rfl (es rfl l9_18))
    have l10_21 := lookE hA21 10 (e8 rfl (es rfl l10_18))
    have l11_21 := lookE hA21 11 (es rfl (et rfl))
    have l12_21 := lookE hA21 12 (et rfl)
    clear hA21 hsz18 hdf18 l0_18 l2_18 l4_18 l7_18 l8_18 l9_18 l10_18
    refine then_n (hK19 _ _ ?_)
    clear hK19
    refine wp_seq_k (fun K22 hK22 => ?_)
    refine region_in ?_
    refine W_v rfl rfl (V_mov rfl l0_21) ?_
    refine W_r rfl rfl (VR_ldA rfl (es rfl l4_21) (hS20.obj 2 rfl hc2) Try.underlying25 rfl (by kernel_rfl)) ?_
    refine W_v rfl rfl (V_mov rfl (es rfl (es rfl l2_21))) ?_
    refine W_call rfl rfl rfl Try.func16 (by kernel_rfl) rfl (args3 (e2 rfl (et rfl)) (es rfl (et rfl)) (et rfl)) (qof_c (t := t) (hS20.roC h_wv) (hS20.roC h_cv) (by with_reducible assumption)) ?_
    rintro _ w23 ⟨rfl, hP23⟩
    refine ⟨_, rfl, ?_⟩
    have hS23 := hS20.join hP23
    replace hS23 : St w NoX [c_17, c_14, c2] w23 := hS23
    refine W_v rfl rfl (V_mov rfl (et rfl)) ?_
    refine W_v rfl rfl (V_ext (v := .int .i64 (((hoT ws c t).length : Int))) rfl (et rfl) rfl) ?_
    refine W_v rfl rfl (V_ext (v := .int .i64 ((hoE ws c t))) rfl (es rfl (et rfl)) rfl) ?_
    refine W_v rfl rfl (V_asg rfl (es rfl (et rfl))) ?_
    refine W_v rfl rfl (V_asg rfl (es rfl (et rfl))) ?_
    refine W_end ?_
    refine gen_Q (fun A24 hA24 => ?_)
    have hsz24 := szq hA24
    have hdf24 : A24.defers = [] := by rw [hA24]; simp only [df_put]; exact hdf21
    have l0_24 := lookE hA24 0 (e8 rfl (es rfl l0_21))
    have l2_24 := lookE hA24 2 (e8 rfl (es rfl l2_21))
    have l4_24 := lookE hA24 4 (e8 rfl (es rfl l4_21))
    have l7_24 := lookE hA24 7 (e8 rfl (es rfl l7_21))
    have l8_24 := lookE hA24 8 (e8 rfl (es rfl l8_21))
    have l9_24 := lookE hA24 9 (e8 rfl (es rfl l9_21))
    have l10_24 := lookE hA24 10 (e8 rfl (es rfl l10_21))
    have l11_24 := lookE hA24 11 (e8 rfl (es rfl l11_21))
    have l12_24 := lookE hA24 12 (e8 rfl (es rfl l12_21))
    have l13_24 := lookE hA24 13 (es rfl (et rfl))
    have l14_24 := lookE hA24 14 (et rfl)
    clear hA24 hsz21 hdf21 l0_21 l2_21 l4_21 l7_21 l8_21 l9_21 l10_21 l11_21 l12_21
    refine then_n (hK22 _ _ ?_)
    clear hK22
    refine wp_seq_k (fun K25 hK25 => ?_)
    refine wp_seq_k (fun K26 hK26 => ?_)
    refine region_in ?_
    refine W_v rfl rfl (V_mov rfl l7_24) ?_
    refine W_v rfl rfl (V_mov rfl (es rfl l9_24)) ?_
    refine W_call rfl rfl rfl Try.func17 (by kernel_rfl) rfl (args2 (es rfl (et rfl)) (et rfl)) (qSm9_c (hS23.chC 1 rfl hc_14).own (hS23.chC 0 rfl hc_17).own ) ?_
    rintro _ w27 ⟨rfl, hP27⟩
    refine ⟨_, rfl, ?_⟩
    have hS27 := hS23.join hP27
    replace hS27 : St w NoX [c_17, c_14, c2] w27 := hS27
    refine W_v rfl rfl (V_notd rfl (et rfl)) ?_
    refine W_sure (c' := false) rfl rfl (V_mov rfl (et rfl)) (by simp) ?_
    refine W_v rfl (wanted_t rfl rfl (et rfl) (ez rfl)) (V_mov rfl (e4 rfl (es rfl l8_24))) ?_
    refine W_v rfl (wanted_t rfl rfl (es rfl (et rfl)) (ez rfl)) (V_mov rfl (e5 rfl (es rfl l10_24))) ?_
    refine W_v rfl (wanted_t rfl rfl (e2 rfl (et rfl)) (ez rfl)) (V_neq rfl (es rfl (et rfl)) (et rfl)) ?_
    refine W_v rfl rfl (V_pickF rfl (e3 rfl (et rfl)) (et rfl)) ?_
    refine W_sure (c' := false) rfl rfl (V_mov rfl (et rfl)) (by simp) ?_
    refine W_v rfl (wanted_t rfl rfl (et rfl) (ez rfl)) (V_mov rfl (e9 rfl (es rfl l11_24))) ?_
    refine W_v rfl (wanted_t rfl rfl (es rfl (et rfl)) (ez rfl)) (V_mov rfl (e10 rfl (es rfl l13_24))) ?_
    refine W_v rfl (wanted_t rfl rfl (e2 rfl (et rfl)) (ez rfl)) (V_neq rfl (es rfl (et rfl)) (et rfl)) ?_
    refine W_v rfl rfl (V_pickF rfl (e3 rfl (et rfl)) (et rfl)) ?_
    refine W_sure (c' := false) rfl rfl (V_mov rfl (et rfl)) (by simp) ?_
    refine W_v rfl (wanted_t rfl rfl (et rfl) (ez rfl)) (V_mov rfl (e14 rfl (es rfl l12_24))) ?_
    refine W_v rfl (wanted_t rfl rfl (es rfl (et rfl)) (ez rfl)) (V_mov rfl (e15 rfl (es rfl l14_24))) ?_
    refine W_v rfl (wanted_t rfl rfl (e2 rfl (et rfl)) (ez rfl)) (V_neq rfl (es rfl (et rfl)) (et rfl)) ?_
    refine W_v rfl rfl (V_pickF rfl (e3 rfl (et rfl)) (et rfl)) ?_
    refine W_end ?_
    refine gen_Q (fun A28 hA28 => ?_)
    have hsz28 := szq hA28
    have hdf28 : A28.defers = [] := by rw [hA28]; simp only [df_put]; exact hdf24
    have l0_28 := lookE hA28 0 (e18 rfl (es rfl l0_24))
    have l2_28 := lookE hA28 2 (e18 rfl (es rfl l2_24))
    have l4_28 := lookE hA28 4 (e18 rfl (es rfl l4_24))
    have l65_28 := lookE hA28 65 (et rfl)
    clear hA28 hsz24 hdf24 l0_24 l2_24 l4_24 l7_24 l8_24 l9_24 l10_24 l11_24 l12_24 l13_24 l14_24
    have hS29 : St w NoX [c2] w27 := hS27.sel [2] (by decide) rfl
    refine then_n (hK26 _ _ ?_)
    clear hK26
    refine cond_not l65_28 (by simp) ?_
    refine wp_skip ?_
    refine then_n (hK25 _ _ ?_)
    clear hK25
    refine wp_seq_k (fun K30 hK30 => ?_)
    refine region_in ?_
    refine W_v rfl rfl (V_mov rfl l0_28) ?_
    refine W_r rfl rfl (VR_ldA rfl (es rfl l4_28) (hS29.obj 0 rfl hc2) Try.underlying25 rfl (by kernel_rfl)) ?_
    refine W_v rfl rfl (V_mov rfl (es rfl (es rfl l2_28))) ?_
    refine W_call rfl rfl rfl Try.func18 (by kernel_rfl) rfl (args3 (e2 rfl (et rfl)) (es rfl (et rfl)) (et rfl)) (kho_c (t := t) (hS29.roC h_wv) (hS29.roC h_cv) (by with_reducible assumption)) ?_
    rintro _ w31 ⟨v_31, rfl, hP31⟩
    refine ⟨_, rfl, ?_⟩
    obtain ⟨c_31, hc_31, hP31⟩ := gen1 hP31
    have hS31 := hS29.join hP31
    replace hS31 : St w NoX [c_31, c2] w31 := hS31
    refine W_v rfl rfl (V_mov rfl (et rfl)) ?_
    refine W_v rfl rfl (V_ext (v := v_31) rfl (et rfl) rfl) ?_
    refine W_v rfl rfl (V_ext (v := .int .i64 ((hoE ws c t))) rfl (es rfl (et rfl)) rfl) ?_
    refine W_v rfl rfl (V_asg rfl (es rfl (et rfl))) ?_
    refine W_v rfl rfl (V_asg rfl (es rfl (et rfl))) ?_
    refine W_end ?_
    refine gen_Q (fun A32 hA32 => ?_)
    have hsz32 := szq hA32
    have hdf32 : A32.defers = [] := by rw [hA32]; simp only [df_put]; exact hdf28
    have l0_32 := lookE hA32 0 (e8 rfl (es rfl l0_28))
    have l2_32 := lookE hA32 2 (e8 rfl (es rfl l2_28))
    have l4_32 := lookE hA32 4 (e8 rfl (es rfl l4_28))
    have l8_32 := lookE hA32 8 (et rfl)
    have l15_32 := lookE hA32 15 (es rfl (et rfl))
    clear hA32 hsz28 hdf28 l0_28 l2_28 l4_28 l65_28
    refine then_n (hK30 _ _ ?_)
    clear hK30
    refine wp_seq_k (fun K33 hK33 => ?_)
    refine region_in ?_
    refine W_v rfl rfl (V_mov rfl l0_32) ?_
    refine W_r rfl rfl (VR_ldA rfl (es rfl l4_32) (hS31.obj 1 rfl hc2) Try.underlying25 rfl (by kernel_rfl)) ?_
    refine W_v rfl rfl (V_mov rfl (es rfl (es rfl l2_32))) ?_
    refine W_call rfl rfl rfl Try.func19 (by kernel_rfl) rfl (args3 (e2 rfl (et rfl)) (es rfl (et rfl)) (et rfl)) (qho_c (t := t) (hS31.roC h_wv) (hS31.roC h_cv) (by with_reducible assumption)) ?_
    rintro _ w34 ⟨v_34, rfl, hP34⟩
    refine ⟨_, rfl, ?_⟩
    obtain ⟨c_34, hc_34, hP34⟩ := gen1 hP34
    have hS34 := hS31.join hP34
    replace hS34 : St w NoX [c_34, c_31, c2] w34 := hS34
    refine W_v rfl rfl (V_mov rfl (et rfl)) ?_
    refine W_v rfl rfl (V_ext (v := v_34) rfl (et rfl) rfl) ?_
    refine W_v rfl rfl (V_ext (v := .int .i64 ((hoE ws c t))) rfl (es rfl (et rfl)) rfl) ?_
    refine W_v rfl rfl (V_asg rfl (es rfl (et rfl))) ?_
    refine W_v rfl rfl (V_asg rfl (es rfl (et rfl))) ?_
    refine W_end ?_
    refine gen_Q (fun A35 hA35 => ?_)
    have hsz35 := szq hA35
    have hdf35 : A35.defers = [] := by rw [hA35]; simp only [df_put]; exact hdf32
    have l8_35 := lookE hA35 8 (e8 rfl (es rfl l8_32))
    have l10_35 := lookE hA35 10 (et rfl)
    have l15_35 := lookE hA35 15 (e8 rfl (es rfl l15_32))
    have l16_35 := lookE hA35 16 (es rfl (et rfl))
    clear hA35 hsz32 hdf32 l0_32 l2_32 l4_32 l8_32 l15_32
    have hS36 : St w NoX [c_34, c_31] w34 := hS34.sel [0, 1] (by decide) rfl
    refine then_n (hK33 _ _ ?_)
    clear hK33
    refine wp_seq_k (fun K37 hK37 => ?_)
    refine region_in ?_
    refine W_v rfl rfl (V_mov rfl l15_35) ?_
    refine W_v rfl rfl (V_mov rfl (es rfl l16_35)) ?_
    refine W_call rfl rfl rfl Try.func20 (by kernel_rfl) rfl (args2 (es rfl (et rfl)) (et rfl)) (qInts_c (hS36.chC 1 rfl hc_31).own (hS36.chC 0 rfl hc_34).own ) ?_
    rintro _ w38 ⟨rfl, hP38⟩
    refine ⟨_, rfl, ?_⟩
    have hS38 := hS36.join hP38
    replace hS38 : St w NoX [c_34, c_31] w38 := hS38
    refine W_sure (c' := true) rfl rfl (V_mov rfl (et rfl)) (by simp) ?_
    refine W_v rfl (wanted_t rfl rfl (et rfl) (ez rfl)) (V_mov rfl (e3 rfl (es rfl l8_35))) ?_
    refine W_v rfl (wanted_t rfl rfl (es rfl (et rfl)) (ez rfl)) (V_mov rfl (e4 rfl (es rfl l10_35))) ?_
    refine W_v rfl (wanted_t rfl rfl (e2 rfl (et rfl)) (ez rfl)) (V_eql rfl (es rfl (et rfl)) (et rfl)) ?_
    refine W_v rfl rfl (V_pickT rfl (e3 rfl (et rfl)) (et rfl)) ?_
    refine W_sure (c' := true) rfl rfl (V_mov rfl (et rfl)) (by simp) ?_
    refine W_call rfl (wanted_t rfl rfl (et rfl) (ez rfl)) rfl Try.func12 (by kernel_rfl) rfl (args0) (awk_c  ) ?_
    rintro _ w39 ⟨rfl, hP39⟩
    refine ⟨_, rfl, ?_⟩
    have hS39 := hS38.join hP39
    replace hS39 : St w NoX [c_34, c_31] w39 := hS39
    refine W_v rfl rfl (V_pickT rfl (es rfl (et rfl)) (et rfl)) ?_
    refine W_v rfl rfl (V_asg rfl (et rfl)) ?_
    refine W_end ?_
    refine gen_Q (fun A40 hA40 => ?_)
    have hsz40 := szq hA40
    have hdf40 : A40.defers = [] := by rw [hA40]; simp only [df_put]; exact hdf35
    have l6_40 := lookE hA40 6 (et rfl)
    clear hA40 hsz35 hdf35 l8_35 l10_35 l15_35 l16_35
    have hS41 : St w NoX [] w39 := hS39.sel [] (by decide) rfl
    refine then_n (hK37 _ _ ?_)
    clear hK37
    refine wp_ret ?_
    refine ret_in (results_1 Try.results3 (rv_tmp l6_40)) hdf40 ?_
    -- leaf F
    exact ⟨rfl, hS41.fin0⟩

end Go.Proofs.Ytnfgeekaeegolaa