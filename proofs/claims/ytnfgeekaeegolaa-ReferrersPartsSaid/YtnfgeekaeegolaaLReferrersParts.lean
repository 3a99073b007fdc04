import Derived.Test.YtnfgeekaeegolaaProg
import Derived.Test.YtnfgeekaeegolaaRd4
import Derived.Test.YtnfgeekaeegolaaRe6
import Derived.Test.YtnfgeekaeegolaaPl9l
namespace Go.Proofs.Ytnfgeekaeegolaa
open Go.RowKit Go.Own Go.Own.R Go.Own.S Go.Own.F


set_option maxHeartbeats 4000000 in
theorem ReferrersParts_c {wv : Value} {ws : List Int} {cv : Value} {c : List Int} {t : Int} {w : World} (h_wv : Ro w NoX (il .u64 wv ws)) (h_cv : Ro w NoX (il .i64 cv c)) (hu : ∀ x ∈ ws, 0 ≤ x ∧ x ≤ 18446744073709551615) :
    Calls Try.prog 9 #[wv, .agg #[cv], .int .i64 t] w fun e w' => e = .returned (.bool true) ∧ St w NoX [] w' := by
  refine calls_in 101 Try.func9 rfl rfl (by simp) (fun A0 hsz0 hdf0 hargs => ?_)
  have l0_0 := hargs 0 (wv) rfl
  have l1_0 := hargs 1 (.agg #[cv]) rfl
  have l2_0 := hargs 2 (.int .i64 t) rfl
  clear hargs; replace hsz0 : SzN A0 101 := ⟨hsz0⟩
  have hS := St.nil w
  have bh_wv := SlN.le (sl_SlN h_wv.at)
  have bh_cv := SlN.le (sl_SlN h_cv.at)
  refine wp_seq_k (fun K1 hK1 => ?_)
  refine region_in ?_
  refine W_boxS (zs := #[cv]) hS rfl rfl rfl l1_0 (by rfl) (fun g2 w2 c2 hc2 hS2 => ?_)
  replace hS2 : St w NoX [c2] w2 := hS2
  refine W_v rfl rfl (V_asg rfl rfl) ?_
  refine W_end ?_
  refine gen_Q (fun A3 hA3 => ?_)
  have hsz3 := szq hA3
  have hdf3 : A3.defers = [] := by rw [hA3]; simp only [df_put]; exact hdf0
  have l0_3 := lookE hA3 0 (es rfl (es rfl l0_0))
  have l2_3 := lookE hA3 2 (es rfl (es rfl l2_0))
  have l4_3 := lookE hA3 4 (es rfl (et rfl))
  clear hA3 hsz0 hdf0 l0_0 l1_0 l2_0
  refine then_n (hK1 _ _ ?_)
  clear hK1
  refine wp_seq_k (fun K4 hK4 => ?_)
  refine wp_seq_k (fun K5 hK5 => ?_)
  refine region_in ?_
  refine W_v rfl rfl (V_mov rfl l0_3) ?_
  refine W_r rfl rfl (VR_ldA rfl (es rfl l4_3) (hS2.obj 0 rfl hc2) Try.underlying25 rfl (by kernel_rfl)) ?_
  refine W_call rfl rfl rfl Try.func11 (by kernel_rfl) rfl (args2 (es rfl (et rfl)) (et rfl)) (far9_c (hS2.roC h_wv) (hS2.roC h_cv) ) ?_
  rintro _ w6 ⟨rfl, hP6⟩
  refine ⟨_, rfl, ?_⟩
  have hS6 := hS2.join hP6
  replace hS6 : St w NoX [c2] w6 := hS6
  refine W_end ?_
  refine gen_Q (fun A7 hA7 => ?_)
  have hsz7 := szq hA7
  have hdf7 : A7.defers = [] := by rw [hA7]; simp only [df_put]; exact hdf3
  have l0_7 := lookE hA7 0 (e2 rfl (es rfl l0_3))
  have l2_7 := lookE hA7 2 (e2 rfl (es rfl l2_3))
  have l4_7 := lookE hA7 4 (e2 rfl (es rfl l4_3))
  have l25_7 := lookE hA7 25 (et rfl)
  clear hA7 hsz3 hdf3 l0_3 l2_3 l4_3
  refine then_n (hK5 _ _ ?_)
  clear hK5
  refine cond_dec l25_7 (fun c8 => ?_) (fun c8 => ?_)
  · skip
    refine wp_seq_k (fun K9 hK9 => ?_)
    refine region_in ?_
    refine W_call rfl rfl rfl Try.func12 (by kernel_rfl) rfl (args0) (awk_c  ) ?_
    rintro _ w10 ⟨rfl, hP10⟩
    refine ⟨_, rfl, ?_⟩
    have hS10 := hS6.join hP10
    replace hS10 : St w NoX [c2] w10 := hS10
    refine W_v rfl rfl (V_asg rfl (et rfl)) ?_
    refine W_end ?_
    refine gen_Q (fun A11 hA11 => ?_)
    have hsz11 := szq hA11
    have hdf11 : A11.defers = [] := by rw [hA11]; simp only [df_put]; exact hdf7
    have l6_11 := lookE hA11 6 (et rfl)
    clear hA11 hsz7 hdf7 l0_7 l2_7 l4_7 l25_7
    have hS12 : St w NoX [] w10 := hS10.sel [] (by decide) rfl
    refine then_n (hK9 _ _ ?_)
    clear hK9
    refine wp_ret ?_
    refine then_ret ?_
    refine ret_in (results_1 Try.results9 (rv_tmp l6_11)) hdf11 ?_
    -- leaf T
    exact ⟨rfl, hS12.fin0⟩
  · skip
    refine wp_skip ?_
    refine then_n (hK4 _ _ ?_)
    clear hK4
    refine wp_seq_k (fun K13 hK13 => ?_)
    refine region_in ?_
    refine W_v rfl rfl (V_mov rfl l0_7) ?_
    refine W_r rfl rfl (VR_ldA rfl (es rfl l4_7) (hS6.obj 0 rfl hc2) Try.underlying25 rfl (by kernel_rfl)) ?_
    refine W_call rfl rfl rfl Try.func13 (by kernel_rfl) rfl (args2 (es rfl (et rfl)) (et rfl)) (kct_c (hS6.roC h_wv) (hS6.roC h_cv) (by with_reducible assumption)) ?_
    rintro _ w14 ⟨v_14, rfl, hP14⟩
    refine ⟨_, rfl, ?_⟩
    obtain ⟨c_14, hc_14, hP14⟩ := gen1 hP14
    have hS14 := hS6.join hP14
    replace hS14 : St w NoX [c_14, c2] w14 := hS14
    refine W_v rfl rfl (V_mov rfl (et rfl)) ?_
    refine W_v rfl rfl (V_ext (v := v_14) rfl (et rfl) rfl) ?_
    refine W_v rfl rfl (V_ext (v := .int .i64 ((slE ws c))) rfl (es rfl (et rfl)) rfl) ?_
    refine W_v rfl rfl (V_asg rfl (es rfl (et rfl))) ?_
    refine W_v rfl rfl (V_asg rfl (es rfl (et rfl))) ?_
    refine W_end ?_
    refine gen_Q (fun A15 hA15 => ?_)
    have hsz15 := szq hA15
    have hdf15 : A15.defers = [] := by rw [hA15]; simp only [df_put]; exact hdf7
    have l0_15 := lookE hA15 0 (e7 rfl (es rfl l0_7))
    have l2_15 := lookE hA15 2 (e7 rfl (es rfl l2_7))
    have l4_15 := lookE hA15 4 (e7 rfl (es rfl l4_7))
    have l7_15 := lookE hA15 7 (es rfl (et rfl))
    have l8_15 := lookE hA15 8 (et rfl)
    clear hA15 hsz7 hdf7 l0_7 l2_7 l4_7 l25_7
    refine then_n (hK13 _ _ ?_)
    clear hK13
    refine wp_seq_k (fun K16 hK16 => ?_)
    refine wp_seq_k (fun K17 hK17 => ?_)
    refine region_in ?_
    refine W_v rfl rfl (V_mov rfl l8_15) ?_
    refine W_v rfl rfl (V_neq rfl (et rfl) rfl) ?_
    refine W_end ?_
    refine gen_Q (fun A18 hA18 => ?_)
    have hsz18 := szq hA18
    have hdf18 : A18.defers = [] := by rw [hA18]; simp only [df_put]; exact hdf15
    have l0_18 := lookE hA18 0 (es rfl (es rfl l0_15))
    have l2_18 := lookE hA18 2 (es rfl (es rfl l2_15))
    have l4_18 := lookE hA18 4 (es rfl (es rfl l4_15))
    have l7_18 := lookE hA18 7 (es rfl (es rfl l7_15))
    have l34_18 := lookE hA18 34 (et rfl)
    clear hA18 hsz15 hdf15 l0_15 l2_15 l4_15 l7_15 l8_15
    refine then_n (hK17 _ _ ?_)
    clear hK17
    refine cond_dec l34_18 (fun c19 => ?_) (fun c19 => ?_)
    · skip
      refine wp_seq_k (fun K20 hK20 => ?_)
      refine region_in ?_
      refine W_call rfl rfl rfl Try.func12 (by kernel_rfl) rfl (args0) (awk_c  ) ?_
      rintro _ w21 ⟨rfl, hP21⟩
      refine ⟨_, rfl, ?_⟩
      have hS21 := hS14.join hP21
      replace hS21 : St w NoX [c_14, c2] w21 := hS21
      refine W_v rfl rfl (V_asg rfl (et rfl)) ?_
      refine W_end ?_
      refine gen_Q (fun A22 hA22 => ?_)
      have hsz22 := szq hA22
      have hdf22 : A22.defers = [] := by rw [hA22]; simp only [df_put]; exact hdf18
      have l6_22 := lookE hA22 6 (et rfl)
      clear hA22 hsz18 hdf18 l0_18 l2_18 l4_18 l7_18 l34_18
      have hS23 : St w NoX [] w21 := hS21.sel [] (by decide) rfl
      refine then_n (hK20 _ _ ?_)
      clear hK20
      refine wp_ret ?_
      refine then_ret ?_
      refine ret_in (results_1 Try.results9 (rv_tmp l6_22)) hdf22 ?_
      -- leaf FT
      exact ⟨rfl, hS23.fin0⟩
    · skip
      have hpt := parts_law hu (show slE ws c = 0 by omega) t
      refine wp_skip ?_
      refine then_n (hK16 _ _ ?_)
      clear hK16
      refine wp_seq_k (fun K24 hK24 => ?_)
      refine region_in ?_
      refine W_r rfl rfl (VR_ldA rfl l4_18 (hS14.obj 1 rfl hc2) Try.underlying25 rfl (by kernel_rfl)) ?_
      refine W_v rfl rfl (V_mov rfl (es rfl l2_18)) ?_
      refine W_call rfl rfl rfl Try.func34 (by kernel_rfl) rfl (args3 (es rfl (et rfl)) (et rfl) rfl) (qPurge_c (f := t) (t := 1601) (hS14.roC h_cv) ) ?_
      rintro _ w25 ⟨v_25, rfl, hP25⟩
      refine ⟨_, rfl, ?_⟩
      obtain ⟨c_25, hc_25, hP25⟩ := gen1 hP25
      have hS25 := hS14.join hP25
      replace hS25 : St w NoX [c_25, c_14, c2] w25 := hS25
      refine W_v rfl rfl (V_mov rfl (et rfl)) ?_
      refine W_v rfl rfl (V_ext (v := .agg #[v_25]) rfl (et rfl) rfl) ?_
      refine W_v rfl rfl (V_ext (v := .int .i64 ((pgN c t 1601))) rfl (es rfl (et rfl)) rfl) ?_
      refine W_v rfl rfl (V_ext (v := .int .i64 ((ckS c).2)) rfl (e2 rfl (et rfl)) rfl) ?_
      refine W_allocS (z := .agg #[.slice none 0 0]) (zs := #[.slice none 0 0]) hS25 rfl rfl rfl (by kernel_rfl) (by rfl) (fun g26 w26 c26 hc26 hS26 => ?_)
      replace hS26 : St w NoX [c26, c_25, c_14, c2] w26 := hS26
      refine W_stAS 0 hS26 rfl hc26 rfl rfl rfl (et rfl) (e3 rfl (et rfl)) (by simp only [List.all_toArray, List.all_cons, List.all_nil, SlN_one (ow_at (hS26.chq 1 rfl hc_25))] <;> rfl) (by rfl) (by kernel_rfl) (fun w27 c27 hc27 hS27 => ?_)
      replace hS27 : St w NoX [c27, c_25, c_14, c2] w27 := hS27
      refine W_v rfl rfl (V_asg rfl (e2 rfl (et rfl))) ?_
      refine W_v rfl rfl (V_asg rfl (e2 rfl (et rfl))) ?_
      refine W_end ?_
      refine gen_Q (fun A28 hA28 => ?_)
      have hsz28 := szq hA28
      have hdf28 : A28.defers = [] := by rw [hA28]; simp only [df_put]; exact hdf18
      have l0_28 := lookE hA28 0 (e9 rfl (es rfl l0_18))
      have l2_28 := lookE hA28 2 (e9 rfl (es rfl l2_18))
      have l4_28 := lookE hA28 4 (e9 rfl (es rfl l4_18))
      have l7_28 := lookE hA28 7 (e9 rfl (es rfl l7_18))
      have l9_28 := lookE hA28 9 (e2 rfl (et rfl))
      clear hA28 hsz18 hdf18 l0_18 l2_18 l4_18 l7_18 l34_18
      refine then_n (hK24 _ _ ?_)
      clear hK24
      refine wp_seq_k (fun K29 hK29 => ?_)
      refine region_in ?_
      refine W_r rfl rfl (VR_ldA rfl l4_28 (hS27.obj 3 rfl hc2) Try.underlying25 rfl (by kernel_rfl)) ?_
      refine W_v rfl rfl (V_mov rfl (es rfl l2_28)) ?_
      refine W_call rfl rfl rfl Try.func34 (by kernel_rfl) rfl (args3 (es rfl (et rfl)) rfl (et rfl)) (qPurge_c (f := 1) (t := t) (hS27.roC h_cv) ) ?_
      rintro _ w30 ⟨v_30, rfl, hP30⟩
      refine ⟨_, rfl, ?_⟩
      obtain ⟨c_30, hc_30, hP30⟩ := gen1 hP30
      have hS30 := hS27.join hP30
      replace hS30 : St w NoX [c_30, c27, c_25, c_14, c2] w30 := hS30
      refine W_v rfl rfl (V_mov rfl (et rfl)) ?_
      refine W_v rfl rfl (V_ext (v := .agg #[v_30]) rfl (et rfl) rfl) ?_
      refine W_v rfl rfl (V_ext (v := .int .i64 ((pgN c 1 t))) rfl (es rfl (et rfl)) rfl) ?_
      refine W_v rfl rfl (V_ext (v := .int .i64 ((ckS c).2)) rfl (e2 rfl (et rfl)) rfl) ?_
      refine W_allocS (z := .agg #[.slice none 0 0]) (zs := #[.slice none 0 0]) hS30 rfl rfl rfl (by kernel_rfl) (by rfl) (fun g31 w31 c31 hc31 hS31 => ?_)
      replace hS31 : St w NoX [c31, c_30, c27, c_25, c_14, c2] w31 := hS31
      refine W_stAS 0 hS31 rfl hc31 rfl rfl rfl (et rfl) (e3 rfl (et rfl)) (by simp only [List.all_toArray, List.all_cons, List.all_nil, SlN_one (ow_at (hS31.chq 1 rfl hc_30))] <;> rfl) (by rfl) (by kernel_rfl) (fun w32 c32 hc32 hS32 => ?_)
      replace hS32 : St w NoX [c32, c_30, c27, c_25, c_14, c2] w32 := hS32
      refine W_v rfl rfl (V_asg rfl (e2 rfl (et rfl))) ?_
      refine W_v rfl rfl (V_asg rfl (e2 rfl (et rfl))) ?_
      refine W_end ?_
      refine gen_Q (fun A33 hA33 => ?_)
      have hsz33 := szq hA33
      have hdf33 : A33.defers = [] := by rw [hA33]; simp only [df_put]; exact hdf28
      have l0_33 := lookE hA33 0 (e9 rfl (es rfl l0_28))
      have l7_33 := lookE hA33 7 (e9 rfl (es rfl l7_28))
      have l9_33 := lookE hA33 9 (e9 rfl (es rfl l9_28))
      have l12_33 := lookE hA33 12 (e2 rfl (et rfl))
      clear hA33 hsz28 hdf28 l0_28 l2_28 l4_28 l7_28 l9_28
      have hS34 : St w NoX [c32, c_30, c27, c_25, c_14] w32 := hS32.sel [0, 1, 2, 3, 4] (by decide) rfl
      refine then_n (hK29 _ _ ?_)
      clear hK29
      refine wp_seq_k (fun K35 hK35 => ?_)
      refine region_in ?_
      refine W_v rfl rfl (V_mov rfl l0_33) ?_
      refine W_r rfl rfl (VR_ldA rfl (es rfl l9_33) (hS34.obj 2 rfl hc27) Try.underlying25 rfl (by kernel_rfl)) ?_
      refine W_call rfl rfl rfl Try.func13 (by kernel_rfl) rfl (args2 (es rfl (et rfl)) (et rfl)) (kct_c (hS34.roC h_wv) (hS34.chC 3 rfl hc_25).own (by with_reducible assumption)) ?_
      rintro _ w36 ⟨v_36, rfl, hP36⟩
      refine ⟨_, rfl, ?_⟩
      obtain ⟨c_36, hc_36, hP36⟩ := gen1 hP36
      have hS36 := hS34.join hP36
      replace hS36 : St w NoX [c_36, c32, c_30, c27, c_25, c_14] w36 := hS36
      refine W_v rfl rfl (V_mov rfl (et rfl)) ?_
      refine W_v rfl rfl (V_ext (v := v_36) rfl (et rfl) rfl) ?_
      refine W_v rfl rfl (V_ext (v := .int .i64 ((slE ws (pgT c t 1601)))) rfl (es rfl (et rfl)) rfl) ?_
      refine W_v rfl rfl (V_asg rfl (es rfl (et rfl))) ?_
      refine W_v rfl rfl (V_asg rfl (es rfl (et rfl))) ?_
      refine W_end ?_
      refine gen_Q (fun A37 hA37 => ?_)
      have hsz37 := szq hA37
      have hdf37 : A37.defers = [] := by rw [hA37]; simp only [df_put]; exact hdf33
      have l0_37 := lookE hA37 0 (e7 rfl (es rfl l0_33))
      have l7_37 := lookE hA37 7 (e7 rfl (es rfl l7_33))
      have l12_37 := lookE hA37 12 (e7 rfl (es rfl l12_33))
      have l15_37 := lookE hA37 15 (es rfl (et rfl))
      have l16_37 := lookE hA37 16 (et rfl)
      clear hA37 hsz33 hdf33 l0_33 l7_33 l9_33 l12_33
      have hS38 : St w NoX [c_36, c32, c_30, c_14] w36 := hS36.sel [0, 1, 2, 5] (by decide) rfl
      refine then_n (hK35 _ _ ?_)
      clear hK35
      refine wp_seq_k (fun K39 hK39 => ?_)
      refine region_in ?_
      refine W_v rfl rfl (V_mov rfl l0_37) ?_
      refine W_r rfl rfl (VR_ldA rfl (es rfl l12_37) (hS38.obj 1 rfl hc32) Try.underlying25 rfl (by kernel_rfl)) ?_
      refine W_call rfl rfl rfl Try.func13 (by kernel_rfl) rfl (args2 (es rfl (et rfl)) (et rfl)) (kct_c (hS38.roC h_wv) (hS38.chC 2 rfl hc_30).own (by with_reducible assumption)) ?_
      rintro _ w40 ⟨v_40, rfl, hP40⟩
      refine ⟨_, rfl, ?_⟩
      obtain ⟨c_40, hc_40, hP40⟩ := gen1 hP40
      have hS40 := hS38.join hP40
      replace hS40 : St w NoX [c_40, c_36, c32, c_30, c_14] w40 := hS40
      refine W_v rfl rfl (V_mov rfl (et rfl)) ?_
      refine W_v rfl rfl (V_ext (v := v_40) rfl (et rfl) rfl) ?_
      refine W_v rfl rfl (V_ext (v := .int .i64 ((slE ws (pgT c 1 t)))) rfl (es rfl (et rfl)) rfl) ?_
      refine W_v rfl rfl (V_asg rfl (es rfl (et rfl))) ?_
      refine W_v rfl rfl (V_asg rfl (es rfl (et rfl))) ?_
      refine W_end ?_
      refine gen_Q (fun A41 hA41 => ?_)
      have hsz41 := szq hA41
      have hdf41 : A41.defers = [] := by rw [hA41]; simp only [df_put]; exact hdf37
      have l7_41 := lookE hA41 7 (e7 rfl (es rfl l7_37))
      have l15_41 := lookE hA41 15 (e7 rfl (es rfl l15_37))
      have l16_41 := lookE hA41 16 (e7 rfl (es rfl l16_37))
      have l17_41 := lookE hA41 17 (es rfl (et rfl))
      have l18_41 := lookE hA41 18 (et rfl)
      clear hA41 hsz37 hdf37 l0_37 l7_37 l12_37 l15_37 l16_37
      have hS42 : St w NoX [c_40, c_36, c_14] w40 := hS40.sel [0, 1, 4] (by decide) rfl
      refine then_n (hK39 _ _ ?_)
      clear hK39
      refine wp_seq_k (fun K43 hK43 => ?_)
      refine region_in ?_
      refine W_v rfl rfl (V_mov rfl l15_41) ?_
      refine W_v rfl rfl (V_mov rfl (es rfl l17_41)) ?_
      refine W_call rfl rfl rfl Try.func33 (by kernel_rfl) rfl (args2 (es rfl (et rfl)) (et rfl)) (kmg_c (hS42.chC 1 rfl hc_36).own (hS42.chC 0 rfl hc_40).own ) ?_
      rintro _ w44 ⟨v_44, rfl, hP44⟩
      refine ⟨_, rfl, ?_⟩
      obtain ⟨c_44, hc_44, hP44⟩ := gen1 hP44
      have hS44 := hS42.join hP44
      replace hS44 : St w NoX [c_44, c_40, c_36, c_14] w44 := hS44
      refine W_v rfl rfl (V_mov rfl (et rfl)) ?_
      refine W_v rfl rfl (V_ext (v := v_44) rfl (et rfl) rfl) ?_
      refine W_v rfl rfl (V_ext (v := .int .i64 ((mgE (coT ws (pgT c t 1601)) (coT ws (pgT c 1 t))))) rfl (es rfl (et rfl)) rfl) ?_
      refine W_v rfl rfl (V_asg rfl (es rfl (et rfl))) ?_
      refine W_v rfl rfl (V_asg rfl (es rfl (et rfl))) ?_
      refine W_end ?_
      refine gen_Q (fun A45 hA45 => ?_)
      have hsz45 := szq hA45
      have hdf45 : A45.defers = [] := by rw [hA45]; simp only [df_put]; exact hdf41
      have l7_45 := lookE hA45 7 (e7 rfl (es rfl l7_41))
      have l15_45 := lookE hA45 15 (e7 rfl (es rfl l15_41))
      have l16_45 := lookE hA45 16 (e7 rfl (es rfl l16_41))
      have l17_45 := lookE hA45 17 (e7 rfl (es rfl l17_41))
      have l18_45 := lookE hA45 18 (e7 rfl (es rfl l18_41))
      have l19_45 := lookE hA45 19 (es rfl (et rfl))
      have l20_45 := lookE hA45 20 (et rfl)
      clear hA45 hsz41 hdf41 l7_41 l15_41 l16_41 l17_41 l18_41
      refine then_n (hK43 _ _ ?_)
      clear hK43
      refine wp_seq_k (fun K46 hK46 => ?_)
      refine region_in ?_
      refine W_v rfl rfl (V_mov rfl l17_45) ?_
      refine W_v rfl rfl (V_mov rfl (es rfl l15_45)) ?_
      refine W_call rfl rfl rfl Try.func33 (by kernel_rfl) rfl (args2 (es rfl (et rfl)) (et rfl)) (kmg_c (hS44.chC 1 rfl hc_40).own (hS44.chC 2 rfl hc_36).own ) ?_
      rintro _ w47 ⟨v_47, rfl, hP47⟩
      refine ⟨_, rfl, ?_⟩
      obtain ⟨c_47, hc_47, hP47⟩ := gen1 hP47
      have hS47 := hS44.join hP47
      replace hS47 : St w NoX [c_47, c_44, c_40, c_36, c_14] w47 := hS47
      refine W_v rfl rfl (V_mov rfl (et rfl)) ?_
      refine W_v rfl rfl (V_ext (v := v_47) rfl (et rfl) rfl) ?_
      refine W_v rfl rfl (V_ext (v := .int .i64 ((mgE (coT ws (pgT c 1 t)) (coT ws (pgT c t 1601))))) rfl (es rfl (et rfl)) rfl) ?_
      refine W_v rfl rfl (V_asg rfl (es rfl (et rfl))) ?_
      refine W_v rfl rfl (V_asg rfl (es rfl (et rfl))) ?_
      refine W_end ?_
      refine gen_Q (fun A48 hA48 => ?_)
      have hsz48 := szq hA48
      have hdf48 : A48.defers = [] := by rw [hA48]; simp only [df_put]; exact hdf45
      have l7_48 := lookE hA48 7 (e7 rfl (es rfl l7_45))
      have l16_48 := lookE hA48 16 (e7 rfl (es rfl l16_45))
      have l18_48 := lookE hA48 18 (e7 rfl (es rfl l18_45))
      have l19_48 := lookE hA48 19 (e7 rfl (es rfl l19_45))
      have l20_48 := lookE hA48 20 (e7 rfl (es rfl l20_45))
      have l21_48 := lookE hA48 21 (es rfl (et rfl))
      have l22_48 := lookE hA48 22 (et rfl)
      clear hA48 hsz45 hdf45 l7_45 l15_45 l16_45 l17_45 l18_45 l19_45 l20_45
      have hS49 : St w NoX [c_47, c_44, c_14] w47 := hS47.sel [0, 1, 4] (by decide) rfl
      refine then_n (hK46 _ _ ?_)
      clear hK46
      refine wp_seq_k (fun K50 hK50 => ?_)
      refine region_in ?_
      refine W_v rfl rfl (V_mov rfl l16_48) ?_
      refine W_v rfl rfl (V_eql rfl (et rfl) rfl) ?_
      refine W_sure (c' := true) rfl rfl (V_mov rfl (et rfl)) (by rw [decide_eq_true_eq]; exact hpt.1) ?_
      refine W_v rfl (wanted_t rfl rfl (et rfl) (ez rfl)) (V_mov rfl (e2 rfl (es rfl l18_48))) ?_
      refine W_v rfl (wanted_t rfl rfl (es rfl (et rfl)) (ez rfl)) (V_eql rfl (et rfl) rfl) ?_
      refine W_v rfl rfl (V_pickT rfl (e2 rfl (et rfl)) (et rfl)) ?_
      refine W_sure (c' := true) rfl rfl (V_mov rfl (et rfl)) (by rw [decide_eq_true_eq]; exact hpt.2.1) ?_
      refine W_v rfl (wanted_t rfl rfl (et rfl) (ez rfl)) (V_mov rfl (e6 rfl (es rfl l20_48))) ?_
      refine W_v rfl (wanted_t rfl rfl (es rfl (et rfl)) (ez rfl)) (V_eql rfl (et rfl) rfl) ?_
      refine W_v rfl rfl (V_pickT rfl (e2 rfl (et rfl)) (et rfl)) ?_
      refine W_sure (c' := true) rfl rfl (V_mov rfl (et rfl)) (by rw [decide_eq_true_eq]; exact hpt.2.2.1) ?_
      refine W_v rfl (wanted_t rfl rfl (et rfl) (ez rfl)) (V_mov rfl (e10 rfl (es rfl l22_48))) ?_
      refine W_v rfl (wanted_t rfl rfl (es rfl (et rfl)) (ez rfl)) (V_eql rfl (et rfl) rfl) ?_
      refine W_v rfl rfl (V_pickT rfl (e2 rfl (et rfl)) (et rfl)) ?_
      refine W_sure (c' := true) rfl rfl (V_mov rfl (et rfl)) (by rw [decide_eq_true_eq]; exact hpt.2.2.2.1) ?_
      refine W_v rfl (wanted_t rfl rfl (et rfl) (ez rfl)) (V_mov rfl (e14 rfl (es rfl l19_48))) ?_
      refine W_v rfl (wanted_t rfl rfl (es rfl (et rfl)) (ez rfl)) (V_mov rfl (e15 rfl (es rfl l7_48))) ?_
      refine W_call rfl (wanted_t rfl rfl (e2 rfl (et rfl)) (ez rfl)) rfl Try.func17 (by kernel_rfl) rfl (args2 (es rfl (et rfl)) (et rfl)) (qSm9_c (hS49.chC 1 rfl hc_44).own (hS49.chC 2 rfl hc_14).own ) ?_
      rintro _ w51 ⟨rfl, hP51⟩
      refine ⟨_, rfl, ?_⟩
      have hS51 := hS49.join hP51
      replace hS51 : St w NoX [c_47, c_44, c_14] w51 := hS51
      refine W_v rfl rfl (V_pickT rfl (e3 rfl (et rfl)) (et rfl)) ?_
      refine W_sure (c' := true) rfl rfl (V_mov rfl (et rfl)) (by rw [decide_eq_true_eq]; exact hpt.2.2.2.2.1) ?_
      refine W_v rfl (wanted_t rfl rfl (et rfl) (ez rfl)) (V_mov rfl (e19 rfl (es rfl l21_48))) ?_
      refine W_v rfl (wanted_t rfl rfl (es rfl (et rfl)) (ez rfl)) (V_mov rfl (e20 rfl (es rfl l7_48))) ?_
      refine W_call rfl (wanted_t rfl rfl (e2 rfl (et rfl)) (ez rfl)) rfl Try.func17 (by kernel_rfl) rfl (args2 (es rfl (et rfl)) (et rfl)) (qSm9_c (hS51.chC 0 rfl hc_47).own (hS51.chC 2 rfl hc_14).own ) ?_
      rintro _ w52 ⟨rfl, hP52⟩
      refine ⟨_, rfl, ?_⟩
      have hS52 := hS51.join hP52
      replace hS52 : St w NoX [c_47, c_44, c_14] w52 := hS52
      refine W_v rfl rfl (V_pickT rfl (e3 rfl (et rfl)) (et rfl)) ?_
      refine W_sure (c' := true) rfl rfl (V_mov rfl (et rfl)) (by rw [decide_eq_true_eq]; exact hpt.2.2.2.2.2) ?_
      refine W_call rfl (wanted_t rfl rfl (et rfl) (ez rfl)) rfl Try.func12 (by kernel_rfl) rfl (args0) (awk_c  ) ?_
      rintro _ w53 ⟨rfl, hP53⟩
      refine ⟨_, rfl, ?_⟩
      have hS53 := hS52.join hP53
      replace hS53 : St w NoX [c_47, c_44, c_14] w53 := hS53
      refine W_v rfl rfl (V_pickT rfl (es rfl (et rfl)) (et rfl)) ?_
      refine W_v rfl rfl (V_asg rfl (et rfl)) ?_
      refine W_end ?_
      refine gen_Q (fun A54 hA54 => ?_)
      have hsz54 := szq hA54
      have hdf54 : A54.defers = [] := by rw [hA54]; simp only [df_put]; exact hdf48
      have l6_54 := lookE hA54 6 (et rfl)
      clear hA54 hsz48 hdf48 l7_48 l16_48 l18_48 l19_48 l20_48 l21_48 l22_48
      have hS55 : St w NoX [] w53 := hS53.sel [] (by decide) rfl
      refine then_n (hK50 _ _ ?_)
      clear hK50
      refine wp_ret ?_
      refine ret_in (results_1 Try.results9 (rv_tmp l6_54)) hdf54 ?_
      -- leaf FF
      exact ⟨rfl, hS55.fin0⟩

end Go.Proofs.Ytnfgeekaeegolaa