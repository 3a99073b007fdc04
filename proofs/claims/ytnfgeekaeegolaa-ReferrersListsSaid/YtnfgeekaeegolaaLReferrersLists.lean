import Derived.Test.YtnfgeekaeegolaaProg
import Derived.Test.YtnfgeekaeegolaaRd4
import Derived.Test.YtnfgeekaeegolaaRe2
namespace Go.Proofs.Ytnfgeekaeegolaa
open Go.RowKit Go.Own Go.Own.R Go.Own.S Go.Own.F


set_option maxHeartbeats 4000000 in
theorem ReferrersLists_c {cv : Value} {l : List (Int × Int)} {a : Int} {b : Int} {f : Int} {w : World} (h_cv : Ro w NoX (rl 2 rcC cv l))  :
    Calls Try.prog 7 #[cv, .agg #[.int .i64 a, .int .i64 b, .int .i64 f]] w fun e w' => e = .returned (.bool true) ∧ St w NoX [] w' := by
  refine calls_in 112 Try.func7 rfl rfl (by simp) (fun A0 hsz0 hdf0 hargs => ?_)
  have l0_0 := hargs 0 (cv) rfl
  have l1_0 := hargs 1 (.agg #[.int .i64 a, .int .i64 b, .int .i64 f]) rfl
  clear hargs; replace hsz0 : SzN A0 112 := ⟨hsz0⟩
  have hS := St.nil w
  have bh_cv := SlN.le (sl_SlN h_cv.at)
  refine wp_seq_k (fun K1 hK1 => ?_)
  refine region_in ?_
  refine W_boxS (zs := #[.int .i64 (a), .int .i64 (b), .int .i64 (f)]) hS rfl rfl rfl l1_0 (by rfl) (fun g2 w2 c2 hc2 hS2 => ?_)
  replace hS2 : St w NoX [c2] w2 := hS2
  refine W_v rfl rfl (V_asg rfl rfl) ?_
  refine W_end ?_
  refine gen_Q (fun A3 hA3 => ?_)
  have hsz3 := szq hA3
  have hdf3 : A3.defers = [] := by rw [hA3]; simp only [df_put]; exact hdf0
  have l0_3 := lookE hA3 0 (es rfl (es rfl l0_0))
  have l3_3 := lookE hA3 3 (es rfl (et rfl))
  clear hA3 hsz0 hdf0 l0_0 l1_0
  refine then_n (hK1 _ _ ?_)
  clear hK1
  refine wp_seq_k (fun K4 hK4 => ?_)
  refine wp_seq_k (fun K5 hK5 => ?_)
  refine region_in ?_
  refine W_v rfl rfl (V_mov rfl l0_3) ?_
  refine W_call rfl rfl rfl Try.func24 (by kernel_rfl) rfl (args1 (et rfl)) (qlong_c (hS2.roC h_cv) ) ?_
  rintro _ w6 ⟨rfl, hP6⟩
  refine ⟨_, rfl, ?_⟩
  have hS6 := hS2.join hP6
  replace hS6 : St w NoX [c2] w6 := hS6
  refine W_end ?_
  refine gen_Q (fun A7 hA7 => ?_)
  have hsz7 := szq hA7
  have hdf7 : A7.defers = [] := by rw [hA7]; simp only [df_put]; exact hdf3
  have l0_7 := lookE hA7 0 (es rfl (es rfl l0_3))
  have l3_7 := lookE hA7 3 (es rfl (es rfl l3_3))
  have l18_7 := lookE hA7 18 (et rfl)
  clear hA7 hsz3 hdf3 l0_3 l3_3
  refine then_n (hK5 _ _ ?_)
  clear hK5
  refine cond_dec l18_7 (fun c8 => ?_) (fun c8 => ?_)
  · skip
    refine wp_seq_k (fun K9 hK9 => ?_)
    refine region_in ?_
    refine W_call rfl rfl rfl Try.func12 (by kernel_rfl) rfl (args0) (awk_c  ) ?_
    rintro _ w10 ⟨rfl, hP10⟩
    refine ⟨_, rfl, ?_⟩
    have hS10 := hS6.join hP10
    replace hS10 : St w NoX [c2] w10 := hS10
    refine W_v rfl rfl (V_asg rfl (et rfl)) ?_
    refine W_end ?_
    refine gen_Q (fun A11 hA11 => ?_)
    have hsz11 := szq hA11
    have hdf11 : A11.defers = [] := by rw [hA11]; simp only [df_put]; exact hdf7
    have l4_11 := lookE hA11 4 (et rfl)
    clear hA11 hsz7 hdf7 l0_7 l3_7 l18_7
    have hS12 : St w NoX [] w10 := hS10.sel [] (by decide) rfl
    refine then_n (hK9 _ _ ?_)
    clear hK9
    refine wp_ret ?_
    refine then_ret ?_
    refine ret_in (results_1 Try.results7 (rv_tmp l4_11)) hdf11 ?_
    -- leaf T
    exact ⟨rfl, hS12.fin0⟩
  · skip
    refine wp_skip ?_
    refine then_n (hK4 _ _ ?_)
    clear hK4
    refine wp_seq_k (fun K13 hK13 => ?_)
    refine region_in ?_
    refine W_v rfl rfl (V_mov rfl l0_7) ?_
    refine W_call rfl rfl rfl Try.func27 (by kernel_rfl) rfl (args1 (et rfl)) (kCk9_c (hS6.roC h_cv) ) ?_
    rintro _ w14 ⟨rfl, hP14⟩
    refine ⟨_, rfl, ?_⟩
    have hS14 := hS6.join hP14
    replace hS14 : St w NoX [c2] w14 := hS14
    refine W_v rfl rfl (V_mov rfl (et rfl)) ?_
    refine W_v rfl rfl (V_ext (v := .int .i64 ((ckL l).1)) rfl (et rfl) rfl) ?_
    refine W_v rfl rfl (V_ext (v := .int .i64 ((ckL l).2)) rfl (es rfl (et rfl)) rfl) ?_
    refine W_v rfl rfl (V_asg rfl (es rfl (et rfl))) ?_
    refine W_v rfl rfl (V_asg rfl (es rfl (et rfl))) ?_
    refine W_end ?_
    refine gen_Q (fun A15 hA15 => ?_)
    have hsz15 := szq hA15
    have hdf15 : A15.defers = [] := by rw [hA15]; simp only [df_put]; exact hdf7
    have l0_15 := lookE hA15 0 (e6 rfl (es rfl l0_7))
    have l3_15 := lookE hA15 3 (e6 rfl (es rfl l3_7))
    have l5_15 := lookE hA15 5 (es rfl (et rfl))
    have l6_15 := lookE hA15 6 (et rfl)
    clear hA15 hsz7 hdf7 l0_7 l3_7 l18_7
    refine then_n (hK13 _ _ ?_)
    clear hK13
    refine wp_seq_k (fun K16 hK16 => ?_)
    refine region_in ?_
    refine W_v rfl rfl (V_mov rfl l0_15) ?_
    refine W_call rfl rfl rfl Try.func28 (by kernel_rfl) rfl (args1 (et rfl)) (qCk9_c (hS14.roC h_cv) ) ?_
    rintro _ w17 ⟨rfl, hP17⟩
    refine ⟨_, rfl, ?_⟩
    have hS17 := hS14.join hP17
    replace hS17 : St w NoX [c2] w17 := hS17
    refine W_v rfl rfl (V_mov rfl (et rfl)) ?_
    refine W_v rfl rfl (V_ext (v := .int .i64 ((ckL l).1)) rfl (et rfl) rfl) ?_
    refine W_v rfl rfl (V_ext (v := .int .i64 ((ckL l).2)) rfl (es rfl (et rfl)) rfl) ?_
    refine W_v rfl rfl (V_asg rfl (es rfl (et rfl))) ?_
    refine W_v rfl rfl (V_asg rfl (es rfl (et rfl))) ?_
    refine W_end ?_
    refine gen_Q (fun A18 hA18 => ?_)
    have hsz18 := szq hA18
    have hdf18 : A18.defers = [] := by rw [hA18]; simp only [df_put]; exact hdf15
    have l0_18 := lookE hA18 0 (e6 rfl (es rfl l0_15))
    have l3_18 := lookE hA18 3 (e6 rfl (es rfl l3_15))
    have l5_18 := lookE hA18 5 (e6 rfl (es rfl l5_15))
    have l6_18 := lookE hA18 6 (e6 rfl (es rfl l6_15))
    have l7_18 := lookE hA18 7 (es rfl (et rfl))
    have l8_18 := lookE hA18 8 (et rfl)
    clear hA18 hsz15 hdf15 l0_15 l3_15 l5_15 l6_15
    refine then_n (hK16 _ _ ?_)
    clear hK16
    refine wp_seq_k (fun K19 hK19 => ?_)
    refine region_in ?_
    refine W_v rfl rfl (V_mov rfl l0_18) ?_
    refine W_v rfl rfl (V_ixA (sz := 1) (off' := 0) 0 rfl (es rfl l3_18) rfl (by rfl) Try.underlying53 (by decide) (by kernel_rfl) rfl) ?_
    refine W_r rfl rfl (VR_ldC rfl (et rfl) (cell_box (v := .int .i64 (a)) (hS17.obj 0 rfl hc2) rfl) Try.underlying3 rfl) ?_
    refine W_call rfl rfl rfl Try.func26 (by kernel_rfl) rfl (args2 (e2 rfl (et rfl)) (et rfl)) (kpp_c (q := a) (hS17.roC h_cv) ) ?_
    rintro _ w21 ⟨v_21, rfl, hP21⟩
    refine ⟨_, rfl, ?_⟩
    obtain ⟨c_21, hc_21, hP21⟩ := gen1 hP21
    have hS21 := hS17.join hP21
    replace hS21 : St w NoX [c_21, c2] w21 := hS21
    refine W_v rfl rfl (V_mov rfl (et rfl)) ?_
    refine W_v rfl rfl (V_ext (v := v_21) rfl (et rfl) rfl) ?_
    refine W_v rfl rfl (V_ext (v := .int .i64 ((ppE l a))) rfl (es rfl (et rfl)) rfl) ?_
    refine W_v rfl rfl (V_asg rfl (es rfl (et rfl))) ?_
    refine W_v rfl rfl (V_asg rfl (es rfl (et rfl))) ?_
    refine W_end ?_
    refine gen_Q (fun A22 hA22 => ?_)
    have hsz22 := szq hA22
    have hdf22 : A22.defers = [] := by rw [hA22]; simp only [df_put]; exact hdf18
    have l0_22 := lookE hA22 0 (e8 rfl (es rfl l0_18))
    have l3_22 := lookE hA22 3 (e8 rfl (es rfl l3_18))
    have l5_22 := lookE hA22 5 (e8 rfl (es rfl l5_18))
    have l6_22 := lookE hA22 6 (e8 rfl (es rfl l6_18))
    have l7_22 := lookE hA22 7 (e8 rfl (es rfl l7_18))
    have l8_22 := lookE hA22 8 (e8 rfl (es rfl l8_18))
    have l9_22 := lookE hA22 9 (es rfl (et rfl))
    have l10_22 := lookE hA22 10 (et rfl)
    clear hA22 hsz18 hdf18 l0_18 l3_18 l5_18 l6_18 l7_18 l8_18
    refine then_n (hK19 _ _ ?_)
    clear hK19
    refine wp_seq_k (fun K23 hK23 => ?_)
    refine region_in ?_
    refine W_v rfl rfl (V_mov rfl l0_22) ?_
    refine W_v rfl rfl (V_ixA (sz := 1) (off' := 0) 0 rfl (es rfl l3_22) rfl (by rfl) Try.underlying53 (by decide) (by kernel_rfl) rfl) ?_
    refine W_r rfl rfl (VR_ldC rfl (et rfl) (cell_box (v := .int .i64 (a)) (hS21.obj 1 rfl hc2) rfl) Try.underlying3 rfl) ?_
    refine W_call rfl rfl rfl Try.func29 (by kernel_rfl) rfl (args2 (e2 rfl (et rfl)) (et rfl)) (qpp_c (q := a) (hS21.roC h_cv) ) ?_
    rintro _ w25 ⟨v_25, rfl, hP25⟩
    refine ⟨_, rfl, ?_⟩
    obtain ⟨c_25, hc_25, hP25⟩ := gen1 hP25
    have hS25 := hS21.join hP25
    replace hS25 : St w NoX [c_25, c_21, c2] w25 := hS25
    refine W_v rfl rfl (V_mov rfl (et rfl)) ?_
    refine W_v rfl rfl (V_ext (v := v_25) rfl (et rfl) rfl) ?_
    refine W_v rfl rfl (V_ext (v := .int .i64 ((ppE l a))) rfl (es rfl (et rfl)) rfl) ?_
    refine W_v rfl rfl (V_asg rfl (es rfl (et rfl))) ?_
    refine W_v rfl rfl (V_asg rfl (es rfl (et rfl))) ?_
    refine W_end ?_
    refine gen_Q (fun A26 hA26 => ?_)
    have hsz26 := szq hA26
    have hdf26 : A26.defers = [] := by rw [hA26]; simp only [df_put]; exact hdf22
    have l0_26 := lookE hA26 0 (e8 rfl (es rfl l0_22))
    have l3_26 := lookE hA26 3 (e8 rfl (es rfl l3_22))
    have l5_26 := lookE hA26 5 (e8 rfl (es rfl l5_22))
    have l6_26 := lookE hA26 6 (e8 rfl (es rfl l6_22))
    have l7_26 := lookE hA26 7 (e8 rfl (es rfl l7_22))
    have l8_26 := lookE hA26 8 (e8 rfl (es rfl l8_22))
    have l9_26 := lookE hA26 9 (e8 rfl (es rfl l9_22))
    have l10_26 := lookE hA26 10 (e8 rfl (es rfl l10_22))
    have l11_26 := lookE hA26 11 (es rfl (et rfl))
    have l12_26 := lookE hA26 12 (et rfl)
    clear hA26 hsz22 hdf22 l0_22 l3_22 l5_22 l6_22 l7_22 l8_22 l9_22 l10_22
    refine then_n (hK23 _ _ ?_)
    clear hK23
    refine wp_seq_k (fun K27 hK27 => ?_)
    refine wp_seq_k (fun K28 hK28 => ?_)
    refine region_in ?_
    refine W_v rfl rfl (V_mov rfl l5_26) ?_
    refine W_v rfl rfl (V_mov rfl (es rfl l7_26)) ?_
    refine W_v rfl rfl (V_neq rfl (es rfl (et rfl)) (et rfl)) ?_
    refine W_sure (c' := false) rfl rfl (V_mov rfl (et rfl)) (by simp) ?_
    refine W_v rfl (wanted_t rfl rfl (et rfl) (ez rfl)) (V_mov rfl (e3 rfl (es rfl l6_26))) ?_
    refine W_v rfl (wanted_t rfl rfl (es rfl (et rfl)) (ez rfl)) (V_mov rfl (e4 rfl (es rfl l8_26))) ?_
    refine W_v rfl (wanted_t rfl rfl (e2 rfl (et rfl)) (ez rfl)) (V_neq rfl (es rfl (et rfl)) (et rfl)) ?_
    refine W_v rfl rfl (V_pickF rfl (e3 rfl (et rfl)) (et rfl)) ?_
    refine W_sure (c' := false) rfl rfl (V_mov rfl (et rfl)) (by simp) ?_
    refine W_v rfl (wanted_t rfl rfl (et rfl) (ez rfl)) (V_mov rfl (e8 rfl (es rfl l9_26))) ?_
    refine W_v rfl (wanted_t rfl rfl (es rfl (et rfl)) (ez rfl)) (V_mov rfl (e9 rfl (es rfl l11_26))) ?_
    refine W_call rfl (wanted_t rfl rfl (e2 rfl (et rfl)) (ez rfl)) rfl Try.func20 (by kernel_rfl) rfl (args2 (es rfl (et rfl)) (et rfl)) (qInts_c (hS25.chC 1 rfl hc_21).own (hS25.chC 0 rfl hc_25).own ) ?_
    rintro _ w29 ⟨rfl, hP29⟩
    refine ⟨_, rfl, ?_⟩
    have hS29 := hS25.join hP29
    replace hS29 : St w NoX [c_25, c_21, c2] w29 := hS29
    refine W_v rfl (wanted_t rfl rfl (e3 rfl (et rfl)) (ez rfl)) (V_notd rfl (et rfl)) ?_
    refine W_v rfl rfl (V_pickF rfl (e4 rfl (et rfl)) (et rfl)) ?_
    refine W_sure (c' := false) rfl rfl (V_mov rfl (et rfl)) (by simp) ?_
    refine W_v rfl (wanted_t rfl rfl (et rfl) (ez rfl)) (V_mov rfl (e14 rfl (es rfl l10_26))) ?_
    refine W_v rfl (wanted_t rfl rfl (es rfl (et rfl)) (ez rfl)) (V_mov rfl (e15 rfl (es rfl l12_26))) ?_
    refine W_v rfl (wanted_t rfl rfl (e2 rfl (et rfl)) (ez rfl)) (V_neq rfl (es rfl (et rfl)) (et rfl)) ?_
    refine W_v rfl rfl (V_pickF rfl (e3 rfl (et rfl)) (et rfl)) ?_
    refine W_end ?_
    refine gen_Q (fun A30 hA30 => ?_)
    have hsz30 := szq hA30
    have hdf30 : A30.defers = [] := by rw [hA30]; simp only [df_put]; exact hdf26
    have l0_30 := lookE hA30 0 (e18 rfl (es rfl l0_26))
    have l3_30 := lookE hA30 3 (e18 rfl (es rfl l3_26))
    have l62_30 := lookE hA30 62 (et rfl)
    clear hA30 hsz26 hdf26 l0_26 l3_26 l5_26 l6_26 l7_26 l8_26 l9_26 l10_26 l11_26 l12_26
    have hS31 : St w NoX [c2] w29 := hS29.sel [2] (by decide) rfl
    refine then_n (hK28 _ _ ?_)
    clear hK28
    refine cond_not l62_30 (by simp) ?_
    refine wp_skip ?_
    refine then_n (hK27 _ _ ?_)
    clear hK27
    refine wp_seq_k (fun K32 hK32 => ?_)
    refine region_in ?_
    refine W_v rfl rfl (V_mov rfl l0_30) ?_
    refine W_call rfl rfl rfl Try.func25 (by kernel_rfl) rfl (args1 (et rfl)) (kmx_c (hS31.roC h_cv) ) ?_
    rintro _ w33 ⟨rfl, hP33⟩
    refine ⟨_, rfl, ?_⟩
    have hS33 := hS31.join hP33
    replace hS33 : St w NoX [c2] w33 := hS33
    refine W_v rfl rfl (V_mov rfl (et rfl)) ?_
    refine W_v rfl rfl (V_ext (v := .agg #[.int .i64 ((mxT l).1), .int .i64 ((mxT l).2)]) rfl (et rfl) rfl) ?_
    refine W_v rfl rfl (V_ext (v := .int .i64 ((mxE l))) rfl (es rfl (et rfl)) rfl) ?_
    refine W_allocS (z := .agg #[.int .i64 0, .int .i64 0]) (zs := #[.int .i64 0, .int .i64 0]) hS33 rfl rfl rfl (by kernel_rfl) (by rfl) (fun g34 w34 c34 hc34 hS34 => ?_)
    replace hS34 : St w NoX [c34, c2] w34 := hS34
    refine W_stAS 0 hS34 rfl hc34 rfl rfl rfl (et rfl) (e2 rfl (et rfl)) (by first | (rw [List.all_toArray] <;> rfl) | (simp only [List.all_toArray, List.all_cons, List.all_nil] <;> rfl)) (by rfl) (by kernel_rfl) (fun w35 c35 hc35 hS35 => ?_)
    replace hS35 : St w NoX [c35, c2] w35 := hS35
    refine W_v rfl rfl (V_asg rfl (es rfl (et rfl))) ?_
    refine W_end ?_
    refine gen_Q (fun A36 hA36 => ?_)
    have hsz36 := szq hA36
    have hdf36 : A36.defers = [] := by rw [hA36]; simp only [df_put]; exact hdf30
    have l0_36 := lookE hA36 0 (e6 rfl (es rfl l0_30))
    have l3_36 := lookE hA36 3 (e6 rfl (es rfl l3_30))
    have l6_36 := lookE hA36 6 (et rfl)
    have l13_36 := lookE hA36 13 (es rfl (et rfl))
    clear hA36 hsz30 hdf30 l0_30 l3_30 l62_30
    refine then_n (hK32 _ _ ?_)
    clear hK32
    refine wp_seq_k (fun K37 hK37 => ?_)
    refine region_in ?_
    refine W_v rfl rfl (V_mov rfl l0_36) ?_
    refine W_call rfl rfl rfl Try.func30 (by kernel_rfl) rfl (args1 (et rfl)) (qmx_c (hS35.roC h_cv) ) ?_
    rintro _ w38 ⟨rfl, hP38⟩
    refine ⟨_, rfl, ?_⟩
    have hS38 := hS35.join hP38
    replace hS38 : St w NoX [c35, c2] w38 := hS38
    refine W_v rfl rfl (V_mov rfl (et rfl)) ?_
    refine W_v rfl rfl (V_ext (v := .agg #[.int .i64 ((mxT l).1), .int .i64 ((mxT l).2)]) rfl (et rfl) rfl) ?_
    refine W_v rfl rfl (V_ext (v := .int .i64 ((mxE l))) rfl (es rfl (et rfl)) rfl) ?_
    refine W_allocS (z := .agg #[.int .i64 0, .int .i64 0]) (zs := #[.int .i64 0, .int .i64 0]) hS38 rfl rfl rfl (by kernel_rfl) (by rfl) (fun g39 w39 c39 hc39 hS39 => ?_)
    replace hS39 : St w NoX [c39, c35, c2] w39 := hS39
    refine W_stAS 0 hS39 rfl hc39 rfl rfl rfl (et rfl) (e2 rfl (et rfl)) (by first | (rw [List.all_toArray] <;> rfl) | (simp only [List.all_toArray, List.all_cons, List.all_nil] <;> rfl)) (by rfl) (by kernel_rfl) (fun w40 c40 hc40 hS40 => ?_)
    replace hS40 : St w NoX [c40, c35, c2] w40 := hS40
    refine W_v rfl rfl (V_asg rfl (es rfl (et rfl))) ?_
    refine W_end ?_
    refine gen_Q (fun A41 hA41 => ?_)
    have hsz41 := szq hA41
    have hdf41 : A41.defers = [] := by rw [hA41]; simp only [df_put]; exact hdf36
    have l0_41 := lookE hA41 0 (e6 rfl (es rfl l0_36))
    have l3_41 := lookE hA41 3 (e6 rfl (es rfl l3_36))
    have l6_41 := lookE hA41 6 (e6 rfl (es rfl l6_36))
    have l8_41 := lookE hA41 8 (et rfl)
    have l13_41 := lookE hA41 13 (e6 rfl (es rfl l13_36))
    have l14_41 := lookE hA41 14 (es rfl (et rfl))
    clear hA41 hsz36 hdf36 l0_36 l3_36 l6_36 l13_36
    refine then_n (hK37 _ _ ?_)
    clear hK37
    refine wp_seq_k (fun K42 hK42 => ?_)
    refine region_in ?_
    refine W_v rfl rfl (V_mov rfl l0_41) ?_
    refine W_v rfl rfl (V_ixA (sz := 1) (off' := 1) 1 rfl (es rfl l3_41) rfl (by rfl) Try.underlying53 (by decide) (by kernel_rfl) rfl) ?_
    refine W_r rfl rfl (VR_ldC rfl (et rfl) (cell_box (v := .int .i64 (b)) (hS40.obj 2 rfl hc2) rfl) Try.underlying3 rfl) ?_
    refine W_v rfl rfl (V_ixA (sz := 1) (off' := 2) 2 rfl (e2 rfl (es rfl l3_41)) rfl (by rfl) Try.underlying53 (by decide) (by kernel_rfl) rfl) ?_
    refine W_r rfl rfl (VR_ldC rfl (et rfl) (cell_box (v := .int .i64 (f)) (hS40.obj 2 rfl hc2) rfl) Try.underlying3 rfl) ?_
    refine W_call rfl rfl rfl Try.func31 (by kernel_rfl) rfl (args3 (e4 rfl (et rfl)) (e2 rfl (et rfl)) (et rfl)) (kwi_c (f := b) (t := f) (hS40.roC h_cv) ) ?_
    rintro _ w45 ⟨v_45, rfl, hP45⟩
    refine ⟨_, rfl, ?_⟩
    obtain ⟨c_45, hc_45, hP45⟩ := gen1 hP45
    have hS45 := hS40.join hP45
    replace hS45 : St w NoX [c_45, c40, c35, c2] w45 := hS45
    refine W_v rfl rfl (V_mov rfl (et rfl)) ?_
    refine W_v rfl rfl (V_ext (v := v_45) rfl (et rfl) rfl) ?_
    refine W_v rfl rfl (V_ext (v := .int .i64 ((ckL l).2)) rfl (es rfl (et rfl)) rfl) ?_
    refine W_v rfl rfl (V_asg rfl (es rfl (et rfl))) ?_
    refine W_v rfl rfl (V_asg rfl (es rfl (et rfl))) ?_
    refine W_end ?_
    refine gen_Q (fun A46 hA46 => ?_)
    have hsz46 := szq hA46
    have hdf46 : A46.defers = [] := by rw [hA46]; simp only [df_put]; exact hdf41
    have l0_46 := lookE hA46 0 (e10 rfl (es rfl l0_41))
    have l3_46 := lookE hA46 3 (e10 rfl (es rfl l3_41))
    have l6_46 := lookE hA46 6 (e10 rfl (es rfl l6_41))
    have l8_46 := lookE hA46 8 (e10 rfl (es rfl l8_41))
    have l10_46 := lookE hA46 10 (et rfl)
    have l13_46 := lookE hA46 13 (e10 rfl (es rfl l13_41))
    have l14_46 := lookE hA46 14 (e10 rfl (es rfl l14_41))
    have l15_46 := lookE hA46 15 (es rfl (et rfl))
    clear hA46 hsz41 hdf41 l0_41 l3_41 l6_41 l8_41 l13_41 l14_41
    refine then_n (hK42 _ _ ?_)
    clear hK42
    refine wp_seq_k (fun K47 hK47 => ?_)
    refine region_in ?_
    refine W_v rfl rfl (V_mov rfl l0_46) ?_
    refine W_v rfl rfl (V_ixA (sz := 1) (off' := 1) 1 rfl (es rfl l3_46) rfl (by rfl) Try.underlying53 (by decide) (by kernel_rfl) rfl) ?_
    refine W_r rfl rfl (VR_ldC rfl (et rfl) (cell_box (v := .int .i64 (b)) (hS45.obj 3 rfl hc2) rfl) Try.underlying3 rfl) ?_
    refine W_v rfl rfl (V_ixA (sz := 1) (off' := 2) 2 rfl (e2 rfl (es rfl l3_46)) rfl (by rfl) Try.underlying53 (by decide) (by kernel_rfl) rfl) ?_
    refine W_r rfl rfl (VR_ldC rfl (et rfl) (cell_box (v := .int .i64 (f)) (hS45.obj 3 rfl hc2) rfl) Try.underlying3 rfl) ?_
    refine W_call rfl rfl rfl Try.func32 (by kernel_rfl) rfl (args3 (e4 rfl (et rfl)) (e2 rfl (et rfl)) (et rfl)) (qwi_c (f := b) (t := f) (hS45.roC h_cv) ) ?_
    rintro _ w50 ⟨v_50, rfl, hP50⟩
    refine ⟨_, rfl, ?_⟩
    obtain ⟨c_50, hc_50, hP50⟩ := gen1 hP50
    have hS50 := hS45.join hP50
    replace hS50 : St w NoX [c_50, c_45, c40, c35, c2] w50 := hS50
    refine W_v rfl rfl (V_mov rfl (et rfl)) ?_
    refine W_v rfl rfl (V_ext (v := v_50) rfl (et rfl) rfl) ?_
    refine W_v rfl rfl (V_ext (v := .int .i64 ((ckL l).2)) rfl (es rfl (et rfl)) rfl) ?_
    refine W_v rfl rfl (V_asg rfl (es rfl (et rfl))) ?_
    refine W_v rfl rfl (V_asg rfl (es rfl (et rfl))) ?_
    refine W_end ?_
    refine gen_Q (fun A51 hA51 => ?_)
    have hsz51 := szq hA51
    have hdf51 : A51.defers = [] := by rw [hA51]; simp only [df_put]; exact hdf46
    have l6_51 := lookE hA51 6 (e10 rfl (es rfl l6_46))
    have l8_51 := lookE hA51 8 (e10 rfl (es rfl l8_46))
    have l10_51 := lookE hA51 10 (e10 rfl (es rfl l10_46))
    have l12_51 := lookE hA51 12 (et rfl)
    have l13_51 := lookE hA51 13 (e10 rfl (es rfl l13_46))
    have l14_51 := lookE hA51 14 (e10 rfl (es rfl l14_46))
    have l15_51 := lookE hA51 15 (e10 rfl (es rfl l15_46))
    have l16_51 := lookE hA51 16 (es rfl (et rfl))
    clear hA51 hsz46 hdf46 l0_46 l3_46 l6_46 l8_46 l10_46 l13_46 l14_46 l15_46
    have hS52 : St w NoX [c_50, c_45, c40, c35] w50 := hS50.sel [0, 1, 2, 3] (by decide) rfl
    refine then_n (hK47 _ _ ?_)
    clear hK47
    refine wp_seq_k (fun K53 hK53 => ?_)
    refine region_in ?_
    refine W_r rfl rfl (VR_ldA rfl l13_51 (hS52.obj 3 rfl hc35) Try.underlying42 rfl (by kernel_rfl)) ?_
    refine W_r rfl rfl (VR_ldA rfl (es rfl l14_51) (hS52.obj 2 rfl hc40) Try.underlying42 rfl (by kernel_rfl)) ?_
    refine W_v rfl rfl (V_eqSt2 rfl (es rfl (et rfl)) (et rfl) (by kernel_rfl)) ?_
    refine W_sure (c' := true) rfl rfl (V_mov rfl (et rfl)) (by simp) ?_
    refine W_v rfl (wanted_t rfl rfl (et rfl) (ez rfl)) (V_mov rfl (e3 rfl (es rfl l6_51))) ?_
    refine W_v rfl (wanted_t rfl rfl (es rfl (et rfl)) (ez rfl)) (V_mov rfl (e4 rfl (es rfl l8_51))) ?_
    refine W_v rfl (wanted_t rfl rfl (e2 rfl (et rfl)) (ez rfl)) (V_eql rfl (es rfl (et rfl)) (et rfl)) ?_
    refine W_v rfl rfl (V_pickT rfl (e3 rfl (et rfl)) (et rfl)) ?_
    refine W_sure (c' := true) rfl rfl (V_mov rfl (et rfl)) (by simp) ?_
    refine W_v rfl (wanted_t rfl rfl (et rfl) (ez rfl)) (V_mov rfl (e8 rfl (es rfl l15_51))) ?_
    refine W_v rfl (wanted_t rfl rfl (es rfl (et rfl)) (ez rfl)) (V_mov rfl (e9 rfl (es rfl l16_51))) ?_
    refine W_call rfl (wanted_t rfl rfl (e2 rfl (et rfl)) (ez rfl)) rfl Try.func17 (by kernel_rfl) rfl (args2 (es rfl (et rfl)) (et rfl)) (qSm9_c (hS52.chC 1 rfl hc_45).own (hS52.chC 0 rfl hc_50).own ) ?_
    rintro _ w54 ⟨rfl, hP54⟩
    refine ⟨_, rfl, ?_⟩
    have hS54 := hS52.join hP54
    replace hS54 : St w NoX [c_50, c_45, c40, c35] w54 := hS54
    refine W_v rfl rfl (V_pickT rfl (e3 rfl (et rfl)) (et rfl)) ?_
    refine W_sure (c' := true) rfl rfl (V_mov rfl (et rfl)) (by simp) ?_
    refine W_v rfl (wanted_t rfl rfl (et rfl) (ez rfl)) (V_mov rfl (e13 rfl (es rfl l10_51))) ?_
    refine W_v rfl (wanted_t rfl rfl (es rfl (et rfl)) (ez rfl)) (V_mov rfl (e14 rfl (es rfl l12_51))) ?_
    refine W_v rfl (wanted_t rfl rfl (e2 rfl (et rfl)) (ez rfl)) (V_eql rfl (es rfl (et rfl)) (et rfl)) ?_
    refine W_v rfl rfl (V_pickT rfl (e3 rfl (et rfl)) (et rfl)) ?_
    refine W_sure (c' := true) rfl rfl (V_mov rfl (et rfl)) (by simp) ?_
    refine W_call rfl (wanted_t rfl rfl (et rfl) (ez rfl)) rfl Try.func12 (by kernel_rfl) rfl (args0) (awk_c  ) ?_
    rintro _ w55 ⟨rfl, hP55⟩
    refine ⟨_, rfl, ?_⟩
    have hS55 := hS54.join hP55
    replace hS55 : St w NoX [c_50, c_45, c40, c35] w55 := hS55
    refine W_v rfl rfl (V_pickT rfl (es rfl (et rfl)) (et rfl)) ?_
    refine W_v rfl rfl (V_asg rfl (et rfl)) ?_
    refine W_end ?_
    refine gen_Q (fun A56 hA56 => ?_)
    have hsz56 := szq hA56
    have hdf56 : A56.defers = [] := by rw [hA56]; simp only [df_put]; exact hdf51
    have l4_56 := lookE hA56 4 (et rfl)
    clear hA56 hsz51 hdf51 l6_51 l8_51 l10_51 l12_51 l13_51 l14_51 l15_51 l16_51
    have hS57 : St w NoX [] w55 := hS55.sel [] (by decide) rfl
    refine then_n (hK53 _ _ ?_)
    clear hK53
    refine wp_ret ?_
    refine ret_in (results_1 Try.results7 (rv_tmp l4_56)) hdf56 ?_
    -- leaf F
    exact ⟨rfl, hS57.fin0⟩

end Go.Proofs.Ytnfgeekaeegolaa