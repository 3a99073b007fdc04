import Derived.Test.YtdilbnmaihmgnaaProg
import Derived.Test.YtdilbnmaihmgnaaGh10
import Derived.Test.YtdilbnmaihmgnaaPl15k
namespace Go.Proofs.Ytdilbnmaihmgnaa
open Go.RowKit Go.Own Go.Own.R Go.Own.G Go.Own.Gr


set_option maxHeartbeats 4000000 in
theorem GraphDead_c {ov : Value} {O : List Ob} {rv : Value} {rs : List Int} {a : Int} {b : Int} {f : Int} {x : Int} {kd : Int} {w : World} (h_ov : Ro w NoX (rl 2 obC ov O)) (n_ov : Ro w NoX (nst O)) (h_rv : Ro w NoX (il .i64 rv rs)) (hbulk : ∀ o ∈ (O.map ab), o.1.length ≤ 17592186044416 ∧ o.2.length ≤ 17592186044416) (hk0 : 0 ≤ kd) (hk1 : kd ≤ 255) :
    Calls Try.prog 9 #[.agg #[ov, rv], .agg #[.int .i64 a, .int .i64 b, .int .i64 f, .int .u64 x], .int .u8 kd] w fun e w' => e = .returned (.bool true) ∧ St w NoX [] w' := by
  refine calls_in 161 Try.func9 rfl rfl (by simp) (fun A0 hsz0 hdf0 hargs => ?_)
  have l0_0 := hargs 0 (.agg #[ov, rv]) rfl
  have l1_0 := hargs 1 (.agg #[.int .i64 a, .int .i64 b, .int .i64 f, .int .u64 x]) rfl
  have l2_0 := hargs 2 (.int .u8 kd) rfl
  clear hargs; replace hsz0 : SzN A0 161 := ⟨hsz0⟩
  have hS := St.nil w
  have bh_ov := SlN.le (sl_SlN h_ov.at)
  have bh_rv := SlN.le (sl_SlN h_rv.at)
  refine wp_seq_k (fun K1 hK1 => ?_)
  refine region_in ?_
  refine W_boxS (zs := #[ov, rv]) hS rfl rfl rfl l0_0 (by rfl) (fun g2 w2 c2 hc2 hS2 => ?_)
  replace hS2 : St w NoX [c2] w2 := hS2
  refine W_boxS (zs := #[.int .i64 (a), .int .i64 (b), .int .i64 (f), .int .u64 (x)]) hS2 rfl rfl rfl (es rfl l1_0) (by rfl) (fun g3 w3 c3 hc3 hS3 => ?_)
  replace hS3 : St w NoX [c3, c2] w3 := hS3
  refine W_v rfl rfl (V_asg rfl rfl) ?_
  refine W_end ?_
  refine gen_Q (fun A4 hA4 => ?_)
  have hsz4 := szq hA4
  have hdf4 : A4.defers = [] := by rw [hA4]; simp only [df_put]; exact hdf0
  have l2_4 := lookE hA4 2 (e2 rfl (es rfl l2_0))
  have l3_4 := lookE hA4 3 (e2 rfl (et rfl))
  have l4_4 := lookE hA4 4 (es rfl (et rfl))
  clear hA4 hsz0 hdf0 l0_0 l1_0 l2_0
  refine then_n (hK1 _ _ ?_)
  clear hK1
  refine wp_seq_k (fun K5 hK5 => ?_)
  refine wp_seq_k (fun K6 hK6 => ?_)
  refine region_in ?_
  refine W_r rfl rfl (VR_ldA rfl l3_4 (hS3.obj 1 rfl hc2) Try.underlying25 rfl (by kernel_rfl)) ?_
  refine W_call rfl rfl rfl Try.func10 (by kernel_rfl) rfl (args1 (et rfl)) (far_c (hS3.roC h_ov) (hS3.roC n_ov) (hS3.roC h_rv) (by first | with_reducible assumption)) ?_
  rintro _ w7 ⟨rfl, hP7⟩
  refine ⟨_, rfl, ?_⟩
  have hS7 := hS3.join hP7
  replace hS7 : St w NoX [c3, c2] w7 := hS7
  refine W_end ?_
  refine gen_Q (fun A8 hA8 => ?_)
  have hsz8 := szq hA8
  have hdf8 : A8.defers = [] := by rw [hA8]; simp only [df_put]; exact hdf4
  have l2_8 := lookE hA8 2 (es rfl (es rfl l2_4))
  have l3_8 := lookE hA8 3 (es rfl (es rfl l3_4))
  have l4_8 := lookE hA8 4 (es rfl (es rfl l4_4))
  have l15_8 := lookE hA8 15 (et rfl)
  clear hA8 hsz4 hdf4 l2_4 l3_4 l4_4
  refine then_n (hK6 _ _ ?_)
  clear hK6
  refine cond_b l15_8 (fun c9 => ?_) (fun c9 => ?_)
  · skip
    refine wp_seq_k (fun K10 hK10 => ?_)
    refine region_in ?_
    refine W_call rfl rfl rfl Try.func11 (by kernel_rfl) rfl (args0) (shown_c  ) ?_
    rintro _ w11 ⟨rfl, hP11⟩
    refine ⟨_, rfl, ?_⟩
    have hS11 := hS7.join hP11
    replace hS11 : St w NoX [c3, c2] w11 := hS11
    refine W_v rfl rfl (V_asg rfl (et rfl)) ?_
    refine W_end ?_
    refine gen_Q (fun A12 hA12 => ?_)
    have hsz12 := szq hA12
    have hdf12 : A12.defers = [] := by rw [hA12]; simp only [df_put]; exact hdf8
    have l6_12 := lookE hA12 6 (et rfl)
    clear hA12 hsz8 hdf8 l2_8 l3_8 l4_8 l15_8
    have hS13 : St w NoX [] w11 := hS11.sel [] (by decide) rfl
    refine then_n (hK10 _ _ ?_)
    clear hK10
    refine wp_ret ?_
    refine then_ret ?_
    refine ret_in (results_1 Try.results9 (rv_tmp l6_12)) hdf12 ?_
    -- leaf T
    exact ⟨rfl, hS13.fin0⟩
  · skip
    have hfar := far_no c9
    have hsm := hfar.2.2.2.1
    have hfr := hfar.1
    have hfo := hfar.2.1
    rw [List.length_map] at hfo
    refine wp_skip ?_
    refine then_n (hK5 _ _ ?_)
    clear hK5
    refine wp_seq_k (fun K14 hK14 => ?_)
    refine region_in ?_
    refine W_r rfl rfl (VR_ldA rfl l3_8 (hS7.obj 1 rfl hc2) Try.underlying25 rfl (by kernel_rfl)) ?_
    refine W_call rfl rfl rfl Try.func17 (by kernel_rfl) rfl (args1 (et rfl)) (kLv_c (hS7.roC h_ov) (hS7.roC n_ov) (hS7.roC h_rv) (by first | with_reducible assumption)) ?_
    rintro _ w15 ⟨v_15, rfl, hP15⟩
    refine ⟨_, rfl, ?_⟩
    obtain ⟨c_15, hc_15, hP15⟩ := gen1 hP15
    have hS15 := hS7.join hP15
    replace hS15 : St w NoX [c_15, c3, c2] w15 := hS15
    refine W_v rfl rfl (V_mov rfl (et rfl)) ?_
    refine W_v rfl rfl (V_ext (v := v_15) rfl (et rfl) rfl) ?_
    refine W_v rfl rfl (V_ext (v := .int .i64 ((ckG (O.map ab) rs).2)) rfl (es rfl (et rfl)) rfl) ?_
    refine W_v rfl rfl (V_asg rfl (es rfl (et rfl))) ?_
    refine W_v rfl rfl (V_asg rfl (es rfl (et rfl))) ?_
    refine W_end ?_
    refine gen_Q (fun A16 hA16 => ?_)
    have hsz16 := szq hA16
    have hdf16 : A16.defers = [] := by rw [hA16]; simp only [df_put]; exact hdf8
    have l2_16 := lookE hA16 2 (e6 rfl (es rfl l2_8))
    have l3_16 := lookE hA16 3 (e6 rfl (es rfl l3_8))
    have l4_16 := lookE hA16 4 (e6 rfl (es rfl l4_8))
    have l7_16 := lookE hA16 7 (es rfl (et rfl))
    have l8_16 := lookE hA16 8 (et rfl)
    clear hA16 hsz8 hdf8 l2_8 l3_8 l4_8 l15_8
    refine then_n (hK14 _ _ ?_)
    clear hK14
    refine wp_seq_k (fun K17 hK17 => ?_)
    refine wp_seq_k (fun K18 hK18 => ?_)
    refine region_in ?_
    refine W_v rfl rfl (V_mov rfl l8_16) ?_
    refine W_v rfl rfl (V_neq rfl (et rfl) rfl) ?_
    refine W_end ?_
    refine gen_Q (fun A19 hA19 => ?_)
    have hsz19 := szq hA19
    have hdf19 : A19.defers = [] := by rw [hA19]; simp only [df_put]; exact hdf16
    have l2_19 := lookE hA19 2 (es rfl (es rfl l2_16))
    have l3_19 := lookE hA19 3 (es rfl (es rfl l3_16))
    have l4_19 := lookE hA19 4 (es rfl (es rfl l4_16))
    have l7_19 := lookE hA19 7 (es rfl (es rfl l7_16))
    have l23_19 := lookE hA19 23 (et rfl)
    clear hA19 hsz16 hdf16 l2_16 l3_16 l4_16 l7_16 l8_16
    refine then_n (hK18 _ _ ?_)
    clear hK18
    refine cond_dec l23_19 (fun c20 => ?_) (fun c20 => ?_)
    · skip
      refine wp_seq_k (fun K21 hK21 => ?_)
      refine region_in ?_
      refine W_call rfl rfl rfl Try.func11 (by kernel_rfl) rfl (args0) (shown_c  ) ?_
      rintro _ w22 ⟨rfl, hP22⟩
      refine ⟨_, rfl, ?_⟩
      have hS22 := hS15.join hP22
      replace hS22 : St w NoX [c_15, c3, c2] w22 := hS22
      refine W_v rfl rfl (V_asg rfl (et rfl)) ?_
      refine W_end ?_
      refine gen_Q (fun A23 hA23 => ?_)
      have hsz23 := szq hA23
      have hdf23 : A23.defers = [] := by rw [hA23]; simp only [df_put]; exact hdf19
      have l6_23 := lookE hA23 6 (et rfl)
      clear hA23 hsz19 hdf19 l2_19 l3_19 l4_19 l7_19 l23_19
      have hS24 : St w NoX [] w22 := hS22.sel [] (by decide) rfl
      refine then_n (hK21 _ _ ?_)
      clear hK21
      refine wp_ret ?_
      refine then_ret ?_
      refine ret_in (results_1 Try.results9 (rv_tmp l6_23)) hdf23 ?_
      -- leaf FT
      exact ⟨rfl, hS24.fin0⟩
    · skip
      have hg := ckG_iff.1 (show (ckG (O.map ab) rs).2 = 0 by simpa using c20)
      refine wp_skip ?_
      refine then_n (hK17 _ _ ?_)
      clear hK17
      refine wp_seq_k (fun K25 hK25 => ?_)
      refine region_in ?_
      refine W_allocS (z := .agg #[.slice none 0 0, .slice none 0 0]) (zs := #[.slice none 0 0, .slice none 0 0]) hS15 rfl rfl rfl (by kernel_rfl) (by rfl) (fun g26 w26 c26 hc26 hS26 => ?_)
      replace hS26 : St w NoX [c26, c_15, c3, c2] w26 := hS26
      refine W_end ?_
      refine gen_Q (fun A27 hA27 => ?_)
      have hsz27 := szq hA27
      have hdf27 : A27.defers = [] := by rw [hA27]; simp only [df_put]; exact hdf19
      have l2_27 := lookE hA27 2 (es rfl l2_19)
      have l3_27 := lookE hA27 3 (es rfl l3_19)
      have l4_27 := lookE hA27 4 (es rfl l4_19)
      have l7_27 := lookE hA27 7 (es rfl l7_19)
      have l9_27 := lookE hA27 9 (et rfl)
      clear hA27 hsz19 hdf19 l2_19 l3_19 l4_19 l7_19 l23_19
      refine then_n (hK25 _ _ ?_)
      clear hK25
      refine wp_seq_k (fun K28 hK28 => ?_)
      refine region_in ?_
      refine W_v rfl rfl (V_asg rfl rfl) ?_
      refine W_end ?_
      refine gen_Q (fun A29 hA29 => ?_)
      have hsz29 := szq hA29
      have hdf29 : A29.defers = [] := by rw [hA29]; simp only [df_put]; exact hdf27
      have l2_29 := lookE hA29 2 (es rfl l2_27)
      have l3_29 := lookE hA29 3 (es rfl l3_27)
      have l4_29 := lookE hA29 4 (es rfl l4_27)
      have l7_29 := lookE hA29 7 (es rfl l7_27)
      have l9_29 := lookE hA29 9 (es rfl l9_27)
      clear hA29 hsz27 hdf27 l2_27 l3_27 l4_27 l7_27 l9_27
      refine then_n (hK28 _ _ ?_)
      clear hK28
      refine wp_seq_k (fun K30 hK30 => ?_)
      refine wp_seq_k (fun K31 hK31 => ?_)
      refine region_in ?_
      refine W_v rfl rfl (V_mov rfl l2_29) ?_
      refine W_v rfl rfl (V_rem rfl (et rfl) rfl (by omega) (by omega) (wrap_u8 (by omega) (by omega))) ?_
      refine W_end ?_
      refine gen_Q (fun A32 hA32 => ?_)
      have hsz32 := szq hA32
      have hdf32 : A32.defers = [] := by rw [hA32]; simp only [df_put]; exact hdf29
      have l2_32 := lookE hA32 2 (es rfl (es rfl l2_29))
      have l3_32 := lookE hA32 3 (es rfl (es rfl l3_29))
      have l4_32 := lookE hA32 4 (es rfl (es rfl l4_29))
      have l7_32 := lookE hA32 7 (es rfl (es rfl l7_29))
      have l9_32 := lookE hA32 9 (es rfl (es rfl l9_29))
      have l26_32 := lookE hA32 26 (et rfl)
      clear hA32 hsz29 hdf29 l2_29 l3_29 l4_29 l7_29 l9_29
      refine then_n (hK31 _ _ ?_)
      clear hK31
      refine wp_block ?_
      refine wp_seq_k (fun K33 hK33 => ?_)
      refine region_in ?_
      refine W_v rfl rfl (V_eql rfl l26_32 rfl) ?_
      refine W_v rfl rfl (V_asg rfl (et rfl)) ?_
      refine W_end ?_
      refine gen_Q (fun A34 hA34 => ?_)
      have hsz34 := szq hA34
      have hdf34 : A34.defers = [] := by rw [hA34]; simp only [df_put]; exact hdf32
      have l2_34 := lookE hA34 2 (es rfl (es rfl l2_32))
      have l3_34 := lookE hA34 3 (es rfl (es rfl l3_32))
      have l4_34 := lookE hA34 4 (es rfl (es rfl l4_32))
      have l7_34 := lookE hA34 7 (es rfl (es rfl l7_32))
      have l9_34 := lookE hA34 9 (es rfl (es rfl l9_32))
      have l26_34 := lookE hA34 26 (es rfl (es rfl l26_32))
      have l34_34 := lookE hA34 34 (et rfl)
      clear hA34 hsz32 hdf32 l2_32 l3_32 l4_32 l7_32 l9_32 l26_32
      refine then_n (hK33 _ _ ?_)
      clear hK33
      refine cond_dec l34_34 (fun c35 => ?_) (fun c35 => ?_)
      · skip
        refine region_in ?_
        refine W_r rfl rfl (VR_ldA rfl l3_34 (hS26.obj 3 rfl hc2) Try.underlying25 rfl (by kernel_rfl)) ?_
        refine W_v rfl rfl (V_fa (off' := 0) rfl (es rfl l4_34) Try.underlying49 rfl (by decide +kernel) rfl) ?_
        refine W_r rfl rfl (VR_ldC rfl (et rfl) (cell_box (v := .int .i64 (a)) (hS26.obj 2 rfl hc3) rfl) Try.underlying3 rfl) ?_
        refine W_v rfl rfl (V_fa (off' := 1) rfl (e2 rfl (es rfl l4_34)) Try.underlying49 rfl (by decide +kernel) rfl) ?_
        refine W_r rfl rfl (VR_ldC rfl (et rfl) (cell_box (v := .int .i64 (b)) (hS26.obj 2 rfl hc3) rfl) Try.underlying3 rfl) ?_
        refine W_v rfl rfl (V_fa (off' := 2) rfl (e4 rfl (es rfl l4_34)) Try.underlying49 rfl (by decide +kernel) rfl) ?_
        refine W_r rfl rfl (VR_ldC rfl (et rfl) (cell_box (v := .int .i64 (f)) (hS26.obj 2 rfl hc3) rfl) Try.underlying3 rfl) ?_
        refine W_call rfl rfl rfl Try.func25 (by kernel_rfl) rfl (args4 (e6 rfl (et rfl)) (e4 rfl (et rfl)) (e2 rfl (et rfl)) (et rfl)) (kLoad_c (a := a) (b := b) (f := f) (hS26.roC h_ov) (hS26.roC n_ov) (hS26.roC h_rv) (by first | with_reducible assumption)) ?_
        rintro _ w36 ⟨hv_36, H_36, qv_36, rfl, hH_36, hP36⟩
        refine ⟨_, rfl, ?_⟩
        obtain ⟨cR_36, cP_36, cQ_36, cG_36, hcR_36, hcP_36, hcQ_36, hcG_36, hP36⟩ := gen4 hP36
        have hS36 := hS26.join hP36
        replace hS36 : St w NoX [cR_36, cP_36, cQ_36, cG_36, c26, c_15, c3, c2] w36 := hS36
        refine W_v rfl rfl (V_mov rfl (et rfl)) ?_
        refine W_v rfl rfl (V_ext (v := .agg #[hv_36, qv_36]) rfl (et rfl) rfl) ?_
        refine W_v rfl rfl (V_ext (v := .int .i64 ((ptE (O.map ab) rs [a, b] b f))) rfl (es rfl (et rfl)) rfl) ?_
        refine W_stAS 4 hS36 rfl hc26 rfl rfl rfl (e10 rfl (es rfl l9_34)) (es rfl (et rfl)) (by simp only [List.all_toArray, List.all_cons, List.all_nil, SlN_one (ow_at (hS36.chq 0 rfl hcR_36)), SlN_one (ow_at (hS36.chq 3 rfl hcG_36))] <;> rfl) (by rfl) (by kernel_rfl) (fun w37 c37 hc37 hS37 => ?_)
        replace hS37 : St w NoX [cR_36, cP_36, cQ_36, cG_36, c37, c_15, c3, c2] w37 := hS37
        refine W_v rfl rfl (V_asg rfl (et rfl)) ?_
        refine W_end ?_
        refine gen_Q (fun A38 hA38 => ?_)
        have hsz38 := szq hA38
        have hdf38 : A38.defers = [] := by rw [hA38]; simp only [df_put]; exact hdf34
        have l2_38 := lookE hA38 2 (e11 rfl (es rfl l2_34))
        have l3_38 := lookE hA38 3 (e11 rfl (es rfl l3_34))
        have l7_38 := lookE hA38 7 (e11 rfl (es rfl l7_34))
        have l9_38 := lookE hA38 9 (e11 rfl (es rfl l9_34))
        have l10_38 := lookE hA38 10 (et rfl)
        clear hA38 hsz34 hdf34 l2_34 l3_34 l4_34 l7_34 l9_34 l26_34 l34_34
        have hS39 : St w NoX [cR_36, cP_36, cQ_36, cG_36, c37, c_15, c2] w37 := hS37.sel [0, 1, 2, 3, 4, 5, 7] (by decide) rfl
        refine inb_n ?_
        refine then_n (hK30 _ _ ?_)
        clear hK30
        refine wp_seq_k (fun K40 hK40 => ?_)
        refine wp_seq_k (fun K41 hK41 => ?_)
        refine region_in ?_
        refine W_v rfl rfl (V_mov rfl l10_38) ?_
        refine W_v rfl rfl (V_neq rfl (et rfl) rfl) ?_
        refine W_end ?_
        refine gen_Q (fun A42 hA42 => ?_)
        have hsz42 := szq hA42
        have hdf42 : A42.defers = [] := by rw [hA42]; simp only [df_put]; exact hdf38
        have l2_42 := lookE hA42 2 (es rfl (es rfl l2_38))
        have l3_42 := lookE hA42 3 (es rfl (es rfl l3_38))
        have l7_42 := lookE hA42 7 (es rfl (es rfl l7_38))
        have l9_42 := lookE hA42 9 (es rfl (es rfl l9_38))
        have l94_42 := lookE hA42 94 (et rfl)
        clear hA42 hsz38 hdf38 l2_38 l3_38 l7_38 l9_38 l10_38
        refine then_n (hK41 _ _ ?_)
        clear hK41
        refine cond_dec l94_42 (fun c43 => ?_) (fun c43 => ?_)
        · skip
          refine wp_seq_k (fun K44 hK44 => ?_)
          refine region_in ?_
          refine W_v rfl rfl (V_fa (off' := 1) rfl l9_42 Try.underlying25 rfl (by decide +kernel) rfl) ?_
          refine W_r rfl rfl (VR_ldC rfl (et rfl) (cell_box (v := qv_36) (hS39.obj 4 rfl hc37) rfl) Try.underlying23 rfl) ?_
          refine W_v rfl rfl (V_lenS rfl (et rfl) (ow_at (hS39.chq 3 rfl hcG_36)) Try.underlying23) ?_
          refine W_v rfl rfl (V_eql rfl (et rfl) rfl) ?_
          refine W_sure (c' := true) rfl rfl (V_mov rfl (et rfl)) (by rw [decide_eq_true_eq]; rw [(ld_e c43).2]; rfl) ?_
          refine W_call rfl (wanted_t rfl rfl (et rfl) (ez rfl)) rfl Try.func11 (by kernel_rfl) rfl (args0) (shown_c  ) ?_
          rintro _ w45 ⟨rfl, hP45⟩
          refine ⟨_, rfl, ?_⟩
          have hS45 := hS39.join hP45
          replace hS45 : St w NoX [cR_36, cP_36, cQ_36, cG_36, c37, c_15, c2] w45 := hS45
          refine W_v rfl rfl (V_pickT rfl (es rfl (et rfl)) (et rfl)) ?_
          refine W_v rfl rfl (V_asg rfl (et rfl)) ?_
          refine W_end ?_
          refine gen_Q (fun A46 hA46 => ?_)
          have hsz46 := szq hA46
          have hdf46 : A46.defers = [] := by rw [hA46]; simp only [df_put]; exact hdf42
          have l6_46 := lookE hA46 6 (et rfl)
          clear hA46 hsz42 hdf42 l2_42 l3_42 l7_42 l9_42 l94_42
          have hS47 : St w NoX [] w45 := hS45.sel [] (by decide) rfl
          refine then_n (hK44 _ _ ?_)
          clear hK44
          refine wp_ret ?_
          refine then_ret ?_
          refine ret_in (results_1 Try.results9 (rv_tmp l6_46)) hdf46 ?_
          -- leaf FFTT
          exact ⟨rfl, hS47.fin0⟩
        · skip
          have hN := nx_load (by simpa using c43)
          have hsm_n : SM (H_36.map ab) := by rw [hH_36]; exact hN.sm hsm
          have hlN := hN.len
          rw [← hH_36, List.length_map, List.length_map] at hlN
          have hll := lvT_len (H_36.map ab) rs
          refine wp_skip ?_
          refine then_n (hK40 _ _ ?_)
          clear hK40
          refine wp_seq_k (fun K48 hK48 => ?_)
          refine region_in ?_
          refine W_r rfl rfl (VR_ldA rfl l9_42 (hS39.obj 4 rfl hc37) Try.underlying25 rfl (by kernel_rfl)) ?_
          refine W_call rfl rfl rfl Try.func17 (by kernel_rfl) rfl (args1 (et rfl)) (kLv_c (hS39.chC 0 rfl hcR_36).own (nst_of (hS39.chC 1 rfl hcP_36) (hS39.chC 2 rfl hcQ_36)) (hS39.chC 3 rfl hcG_36).own (by first | with_reducible assumption)) ?_
          rintro _ w49 ⟨v_49, rfl, hP49⟩
          refine ⟨_, rfl, ?_⟩
          obtain ⟨c_49, hc_49, hP49⟩ := gen1 hP49
          have hS49 := hS39.join hP49
          replace hS49 : St w NoX [c_49, cR_36, cP_36, cQ_36, cG_36, c37, c_15, c2] w49 := hS49
          refine W_v rfl rfl (V_mov rfl (et rfl)) ?_
          refine W_v rfl rfl (V_ext (v := v_49) rfl (et rfl) rfl) ?_
          refine W_v rfl rfl (V_ext (v := .int .i64 ((ckG (H_36.map ab) (ldR (O.map ab) rs a b f)).2)) rfl (es rfl (et rfl)) rfl) ?_
          refine W_v rfl rfl (V_asg rfl (es rfl (et rfl))) ?_
          refine W_v rfl rfl (V_asg rfl (es rfl (et rfl))) ?_
          refine W_end ?_
          refine gen_Q (fun A50 hA50 => ?_)
          have hsz50 := szq hA50
          have hdf50 : A50.defers = [] := by rw [hA50]; simp only [df_put]; exact hdf42
          have l2_50 := lookE hA50 2 (e6 rfl (es rfl l2_42))
          have l3_50 := lookE hA50 3 (e6 rfl (es rfl l3_42))
          have l7_50 := lookE hA50 7 (e6 rfl (es rfl l7_42))
          have l9_50 := lookE hA50 9 (e6 rfl (es rfl l9_42))
          have l11_50 := lookE hA50 11 (es rfl (et rfl))
          have l12_50 := lookE hA50 12 (et rfl)
          clear hA50 hsz42 hdf42 l2_42 l3_42 l7_42 l9_42 l94_42
          refine then_n (hK48 _ _ ?_)
          clear hK48
          refine wp_seq_k (fun K51 hK51 => ?_)
          refine wp_seq_k (fun K52 hK52 => ?_)
          refine region_in ?_
          refine W_v rfl rfl (V_mov rfl l12_50) ?_
          refine W_v rfl rfl (V_neq rfl (et rfl) rfl) ?_
          refine W_sure (c' := false) rfl rfl (V_mov rfl (et rfl)) (by rw [decide_eq_false_iff_not]; simp only [hH_36]; exact fun q => q (ckG_iff.2 hN.gg)) ?_
          refine W_v rfl (wanted_t rfl rfl (et rfl) (ez rfl)) (V_fa (off' := 0) rfl (e2 rfl (es rfl l9_50)) Try.underlying25 rfl (by decide +kernel) rfl) ?_
          refine W_r rfl (wanted_t rfl rfl (es rfl (et rfl)) (ez rfl)) (VR_ldC rfl (et rfl) (cell_box (v := hv_36) (hS49.obj 5 rfl hc37) rfl) Try.underlying22 rfl) ?_
          refine W_v rfl (wanted_t rfl rfl (e2 rfl (et rfl)) (ez rfl)) (V_lenS rfl (et rfl) (ow_at (hS49.chq 1 rfl hcR_36)) Try.underlying22) ?_
          refine W_v rfl (wanted_t rfl rfl (e3 rfl (et rfl)) (ez rfl)) (V_fa (off' := 0) rfl (e5 rfl (es rfl l3_50)) Try.underlying25 rfl (by decide +kernel) rfl) ?_
          refine W_r rfl (wanted_t rfl rfl (e4 rfl (et rfl)) (ez rfl)) (VR_ldC rfl (et rfl) (cell_box (v := ov) (hS49.obj 7 rfl hc2) rfl) Try.underlying22 rfl) ?_
          refine W_v rfl (wanted_t rfl rfl (e5 rfl (et rfl)) (ez rfl)) (V_lenS rfl (et rfl) (sl_SlN h_ov.at) Try.underlying22) ?_
          refine W_v rfl (wanted_t rfl rfl (e6 rfl (et rfl)) (ez rfl)) (V_lss rfl (e3 rfl (et rfl)) (et rfl)) ?_
          refine W_v rfl rfl (V_pickF rfl (e7 rfl (et rfl)) (et rfl)) ?_
          refine W_end ?_
          refine gen_Q (fun A53 hA53 => ?_)
          have hsz53 := szq hA53
          have hdf53 : A53.defers = [] := by rw [hA53]; simp only [df_put]; exact hdf50
          have l2_53 := lookE hA53 2 (e10 rfl (es rfl l2_50))
          have l3_53 := lookE hA53 3 (e10 rfl (es rfl l3_50))
          have l7_53 := lookE hA53 7 (e10 rfl (es rfl l7_50))
          have l11_53 := lookE hA53 11 (e10 rfl (es rfl l11_50))
          have l117_53 := lookE hA53 117 (et rfl)
          clear hA53 hsz50 hdf50 l2_50 l3_50 l7_50 l9_50 l11_50 l12_50
          have hS54 : St w NoX [c_49, c_15, c2] w49 := hS49.sel [0, 6, 7] (by decide) rfl
          refine then_n (hK52 _ _ ?_)
          clear hK52
          refine cond_not l117_53 (by rw [decide_eq_false_iff_not]; omega) ?_
          refine wp_skip ?_
          refine then_n (hK51 _ _ ?_)
          clear hK51
          refine wp_seq_k (fun K55 hK55 => ?_)
          refine wp_seq_k (fun K56 hK56 => ?_)
          refine region_in ?_
          refine W_v rfl rfl (V_asg rfl rfl) ?_
          refine W_end ?_
          refine gen_Q (fun A57 hA57 => ?_)
          have hsz57 := szq hA57
          have hdf57 : A57.defers = [] := by rw [hA57]; simp only [df_put]; exact hdf53
          have l2_57 := lookE hA57 2 (es rfl l2_53)
          have l3_57 := lookE hA57 3 (es rfl l3_53)
          have l7_57 := lookE hA57 7 (es rfl l7_53)
          have l11_57 := lookE hA57 11 (es rfl l11_53)
          have l13_57 := lookE hA57 13 (et rfl)
          clear hA57 hsz53 hdf53 l2_53 l3_53 l7_53 l11_53 l117_53
          refine then_n (hK56 _ _ ?_)
          clear hK56
          refine wp_block ?_
          -- loop 26
          have hll2 := lvT_len (H_36.map ab) (ldR (O.map ab) rs a b f)
          refine loopX (fun mz A' w' => SzN A' 161 ∧ A'.defers = [] ∧ (∃ (k : Nat), (mz = (lvT (H_36.map ab) (ldR (O.map ab) rs a b f)).length - k) ∧ (k ≤ (lvT (H_36.map ab) (ldR (O.map ab) rs a b f)).length) ∧ (EV A' (.tmp 13) = .int .i64 (k : Int)) ∧ (EV A' (.tmp 2) = EV A57 (.tmp 2)) ∧ (EV A' (.tmp 3) = EV A57 (.tmp 3)) ∧ (EV A' (.tmp 7) = EV A57 (.tmp 7)) ∧ (EV A' (.tmp 11) = EV A57 (.tmp 11)) ∧ (St w NoX [io .i64 v_49 (lvT (H_36.map ab) (ldR (O.map ab) rs a b f)), io .i64 v_15 (lvT (O.map ab) rs), bx g2 25 #[ov, rv]] w'))) ((lvT (H_36.map ab) (ldR (O.map ab) rs a b f)).length - 0) ⟨hsz57, hdf57, 0, rfl, (by omega), ((l13_57).trans (by first | rfl | (simp; done) | (congr 1; omega))), rfl, rfl, rfl, rfl, (by subst hc_49 hc_15 hc2; exact hS54)⟩ ?_
          clear hS54 hc_49 hc_15 hc2
          rintro n58 A58 w58 ⟨hsz58, hdf58, k, hm58, hk, l13_58, u2_58, u3_58, u7_58, u11_58, hS58⟩
          have l2_58 := u2_58.trans l2_57
          have l3_58 := u3_58.trans l3_57
          have l7_58 := u7_58.trans l7_57
          have l11_58 := u11_58.trans l11_57
          obtain ⟨c_58, c_58b, c2_58, hc_58, hc_58b, hc2_58, hS58⟩ := gen3 hS58
          refine wp_seq_k (fun K59 hK59 => ?_)
          refine wp_seq_k (fun K60 hK60 => ?_)
          refine region_in ?_
          refine W_v rfl rfl (V_mov rfl l13_58) ?_
          refine W_v rfl rfl (V_mov rfl (es rfl l11_58)) ?_
          refine W_v rfl rfl (V_lenS rfl (et rfl) (ow_at (hS58.chq 0 rfl hc_58)) Try.underlying23) ?_
          refine W_v rfl rfl (V_lss rfl (e2 rfl (et rfl)) (et rfl)) ?_
          refine W_end ?_
          refine gen_Q (fun A61 hA61 => ?_)
          have hsz61 := szq hA61
          have hdf61 : A61.defers = [] := by rw [hA61]; simp only [df_put]; exact hdf58
          have l2_61 := lookE hA61 2 (e3 rfl (es rfl l2_58))
          have l3_61 := lookE hA61 3 (e3 rfl (es rfl l3_58))
          have l7_61 := lookE hA61 7 (e3 rfl (es rfl l7_58))
          have l11_61 := lookE hA61 11 (e3 rfl (es rfl l11_58))
          have l13_61 := lookE hA61 13 (e3 rfl (es rfl l13_58))
          have l121_61 := lookE hA61 121 (et rfl)
          clear hA61 hsz58 hdf58 l13_58 l2_58 l3_58 l7_58 l11_58
          refine then_n (hK60 _ _ ?_)
          clear hK60
          refine cond_dec l121_61 (fun c62 => ?_) (fun c62 => ?_)
          · skip
            refine wp_skip ?_
            refine then_n (hK59 _ _ ?_)
            clear hK59
            refine wp_seq_k (fun K63 hK63 => ?_)
            refine wp_block ?_
            refine wp_seq_k (fun K64 hK64 => ?_)
            have k65 : k < (lvT (H_36.map ab) (ldR (O.map ab) rs a b f)).length := by first | omega | (simp only [List.length_cons, List.length_nil]; omega) | (simp only [List.length_set]; omega)
            obtain ⟨y65, hy65⟩ := get_some (xs := (lvT (H_36.map ab) (ldR (O.map ab) rs a b f))) (k := k) k65
            have hmm65 := hN.mem hg (by rw [← hH_36]; exact List.mem_of_getElem? hy65)
            refine region_monoS 23 23 [none, none, none, none, none, some (SPv [] (fun _ => fun u l' => u = .bool (decide (y65 ∈ (lvT (O.map ab) rs))) ∧ l' = []) 5)] (by kernel_rfl) (by kernel_rfl) ?_
            refine D_v rfl rfl (V_mov rfl l7_61) rfl rfl ?_
            refine D_v rfl rfl (V_mov rfl (es rfl l11_61)) rfl rfl ?_
            refine D_v rfl rfl (V_mov rfl (es rfl (es rfl l13_61))) rfl rfl ?_
            obtain ⟨B65, O65, C65, hv65⟩ := (SlN.blk (ow_at (hS58.chq 0 rfl hc_58)) (by first | omega | (simp only [List.length_cons, List.length_nil]; omega) | (simp only [List.length_set]; omega)))
            refine D_v rfl rfl (V_ixS (off := O65 + k) 1 (k) rfl (es rfl (et rfl)) (et rfl) hv65 (by omega) k65 Try.underlying23 (by kernel_rfl) (congrArg _ (Nat.mul_one _))) rfl rfl ?_
            refine D_r rfl rfl (by kernel_rfl) (fun sx hx hF => (VR_ldC rfl (et rfl) ((ow_at ((hS58.grow hx).chq 0 rfl hc_58)).cell hv65 (map_get hy65)) Try.underlying3 rfl)) rfl rfl ?_
            refine D_call (ts := []) (vs := []) (C0 := fun _ => fun u l' => u = .bool (decide (y65 ∈ (lvT (O.map ab) rs))) ∧ l' = []) (C := fun u l' => u = .bool (decide (y65 ∈ (lvT (O.map ab) rs))) ∧ l' = []) rfl rfl rfl Try.func22 (by kernel_rfl) rfl (args2 (e4 rfl (et rfl)) (et rfl)) rfl rfl rfl rfl (fun sx hx hF => ?_) (fun u66 l66 hu66 => ?_)
            · refine (has_c (x := y65) ((hS58.grow hx).chC 1 rfl hc_58b).own ).mono ?_
              rintro _ _ ⟨rfl, hz⟩
              exact ⟨_, rfl, _, ⟨rfl, rfl⟩, hz⟩
            obtain ⟨rfl, hl66⟩ := hu66
            refine D_v rfl rfl (V_notd rfl (et rfl)) rfl rfl ?_
            refine D_sure (c' := false) rfl rfl (V_mov rfl (et rfl)) (by rw [decide_eq_false_iff_not]; exact fun q => q (hmm65.resolve_right fun r => r.1)) rfl rfl ?_
            refine D_off rfl (wanted_f rfl rfl (et rfl) (ez rfl) rfl) rfl ?_
            refine D_off rfl (wanted_f rfl rfl (es rfl (et rfl)) (ez rfl) rfl) rfl ?_
            refine D_off rfl (wanted_f rfl rfl (e2 rfl (et rfl)) (ez rfl) rfl) rfl ?_
            refine D_off rfl (wanted_f rfl rfl (e3 rfl (et rfl)) (ez rfl) rfl) rfl ?_
            refine D_off rfl (wanted_u rfl rfl (et rfl) (ez rfl)) rfl ?_
            refine D_off rfl (wanted_u rfl rfl (es rfl (et rfl)) (ez rfl)) rfl ?_
            refine D_off rfl (wanted_u rfl rfl (e2 rfl (et rfl)) (ez rfl)) rfl ?_
            refine D_off rfl (wanted_u rfl rfl (e3 rfl (et rfl)) (ez rfl)) rfl ?_
            refine D_off rfl (wanted_u rfl rfl (e4 rfl (et rfl)) (ez rfl)) rfl ?_
            refine D_off rfl (wanted_u rfl rfl (e5 rfl (et rfl)) (ez rfl)) rfl ?_
            refine D_off rfl (wanted_u rfl rfl (e6 rfl (et rfl)) (ez rfl)) rfl ?_
            refine D_off rfl (wanted_u rfl rfl (e7 rfl (et rfl)) (ez rfl)) rfl ?_
            refine D_off rfl (wanted_u rfl rfl (e8 rfl (et rfl)) (ez rfl)) rfl ?_
            refine D_off rfl (wanted_f rfl rfl (e13 rfl (et rfl)) (ez rfl) rfl) rfl ?_
            refine D_v rfl rfl (V_pickF rfl (e14 rfl (et rfl)) rfl) rfl rfl ?_
            refine ZS_none hS58 (Nat.le_refl _) (Nat.le_refl _) (fun s67 hJ67 hL67 hF67 => ?_)
            obtain ⟨ll66, ws66, we66, ⟨hq66, hl66r⟩, hm66, k66, e66⟩ := L.all_get hF67; cases hq66; subst hl66r
            replace hJ67 := hJ67.add hL67 (i := 5) rfl hm66 k66 e66
            have hS67 := hJ67.st; clear hF67 hJ67 hL67
            generalize s67.1 = w67 at *
            replace hS67 : St w NoX [c_58, c_58b, c2_58] w67 := hS67
            refine gen_Q (fun A68 hA68 => ?_)
            have hsz68 := szq hA68
            have hdf68 : A68.defers = [] := by rw [hA68]; simp only [df_put]; exact hdf61
            have l2_68 := lookE hA68 2 (e22 rfl (es rfl l2_61))
            have l3_68 := lookE hA68 3 (e22 rfl (es rfl l3_61))
            have l7_68 := lookE hA68 7 (e22 rfl (es rfl l7_61))
            have l11_68 := lookE hA68 11 (e22 rfl (es rfl l11_61))
            have l13_68 := lookE hA68 13 (e22 rfl (es rfl l13_61))
            have l132_68 := lookE hA68 132 (e14 rfl (et rfl))
            have l133_68 := lookE hA68 133 (e13 rfl (et rfl))
            have l134_68 := lookE hA68 134 (e12 rfl (et rfl))
            have l135_68 := lookE hA68 135 (e11 rfl (et rfl))
            have l136_68 := lookE hA68 136 (e10 rfl (et rfl))
            have l137_68 := lookE hA68 137 (e9 rfl (et rfl))
            have l138_68 := lookE hA68 138 (e8 rfl (et rfl))
            have l139_68 := lookE hA68 139 (e7 rfl (et rfl))
            have l140_68 := lookE hA68 140 (e6 rfl (et rfl))
            have l141_68 := lookE hA68 141 (e5 rfl (et rfl))
            have l142_68 := lookE hA68 142 (e4 rfl (et rfl))
            have l143_68 := lookE hA68 143 (e3 rfl (et rfl))
            have l144_68 := lookE hA68 144 (e2 rfl (et rfl))
            have l145_68 := lookE hA68 145 (es rfl (et rfl))
            have l146_68 := lookE hA68 146 (et rfl)
            clear hA68 hsz61 hdf61 l2_61 l3_61 l7_61 l11_61 l13_61 l121_61
            refine then_n (hK64 _ _ ?_)
            clear hK64
            refine cond_f l146_68 ?_
            refine wp_skip ?_
            refine inb_n ?_
            refine then_n (hK63 _ _ ?_)
            clear hK63
            refine region_in ?_
            refine W_v rfl rfl (V_mov rfl l13_68) ?_
            refine W_v rfl rfl (V_add rfl (et rfl) rfl (by omega) (by omega)) ?_
            refine W_v rfl rfl (V_asg rfl (et rfl)) ?_
            refine W_end ?_
            refine gen_Q (fun A69 hA69 => ?_)
            have hsz69 := szq hA69
            have hdf69 : A69.defers = [] := by rw [hA69]; simp only [df_put]; exact hdf68
            have l2_69 := lookE hA69 2 (e2 rfl (es rfl l2_68))
            have l3_69 := lookE hA69 3 (e2 rfl (es rfl l3_68))
            have l7_69 := lookE hA69 7 (e2 rfl (es rfl l7_68))
            have l11_69 := lookE hA69 11 (e2 rfl (es rfl l11_68))
            have l13_69 := lookE hA69 13 (et rfl)
            have l132_69 := lookE hA69 132 (e2 rfl (es rfl l132_68))
            have l133_69 := lookE hA69 133 (e2 rfl (es rfl l133_68))
            have l134_69 := lookE hA69 134 (e2 rfl (es rfl l134_68))
            have l135_69 := lookE hA69 135 (e2 rfl (es rfl l135_68))
            have l136_69 := lookE hA69 136 (e2 rfl (es rfl l136_68))
            have l137_69 := lookE hA69 137 (e2 rfl (es rfl l137_68))
            have l138_69 := lookE hA69 138 (e2 rfl (es rfl l138_68))
            have l139_69 := lookE hA69 139 (e2 rfl (es rfl l139_68))
            have l140_69 := lookE hA69 140 (e2 rfl (es rfl l140_68))
            have l141_69 := lookE hA69 141 (e2 rfl (es rfl l141_68))
            have l142_69 := lookE hA69 142 (e2 rfl (es rfl l142_68))
            have l143_69 := lookE hA69 143 (e2 rfl (es rfl l143_68))
            have l144_69 := lookE hA69 144 (e2 rfl (es rfl l144_68))
            have l145_69 := lookE hA69 145 (e2 rfl (es rfl l145_68))
            clear hA69 hsz68 hdf68 l2_68 l3_68 l7_68 l11_68 l13_68 l132_68 l133_68 l134_68 l135_68 l136_68 l137_68 l138_68 l139_68 l140_68 l141_68 l142_68 l143_68 l144_68 l145_68 l146_68
            refine then_n ⟨(lvT (H_36.map ab) (ldR (O.map ab) rs a b f)).length - (k + 1), by simp only [hm58]; omega, hsz69, hdf69, (k + 1), rfl, (by omega), ((l13_69).trans (by first | rfl | (simp; done) | (congr 1; omega))), ((l2_69).trans l2_57.symm), ((l3_69).trans l3_57.symm), ((l7_69).trans l7_57.symm), ((l11_69).trans l11_57.symm), (by subst hc_58 hc_58b hc2_58; exact hS67)⟩
          · skip
            refine wp_exit ?_
            refine then_exit ?_
            refine then_exit ?_
            refine inb_hit ?_
            refine then_n (hK55 _ _ ?_)
            clear hK55
            refine wp_seq_k (fun K70 hK70 => ?_)
            refine region_in ?_
            refine W_v rfl rfl (V_mov rfl l2_61) ?_
            refine W_v rfl rfl (V_rem rfl (et rfl) rfl (by omega) (by omega) (wrap_u8 (by omega) (by omega))) ?_
            refine W_v rfl rfl (V_neq rfl (et rfl) rfl) ?_
            refine W_sure (c' := true) rfl rfl (V_mov rfl (et rfl)) (by rw [decide_eq_true_eq]; omega) ?_
            refine W_off rfl (wanted_f rfl rfl (et rfl) (ez rfl) rfl) ?_
            refine W_off rfl (wanted_f rfl rfl (es rfl (et rfl)) (ez rfl) rfl) ?_
            refine W_off rfl (wanted_f rfl rfl (e2 rfl (et rfl)) (ez rfl) rfl) ?_
            refine W_off rfl (wanted_f rfl rfl (e3 rfl (et rfl)) (ez rfl) rfl) ?_
            refine W_off rfl (wanted_f rfl rfl (e4 rfl (et rfl)) (ez rfl) rfl) ?_
            refine W_off rfl (wanted_f rfl rfl (e5 rfl (et rfl)) (ez rfl) rfl) ?_
            refine W_v rfl rfl (V_pickT rfl (e6 rfl (et rfl)) rfl) ?_
            refine W_v rfl rfl (V_mov rfl (et rfl)) ?_
            refine W_call rfl (wanted_t rfl rfl (et rfl) (ez rfl)) rfl Try.func11 (by kernel_rfl) rfl (args0) (shown_c  ) ?_
            rintro _ w71 ⟨rfl, hP71⟩
            refine ⟨_, rfl, ?_⟩
            have hS71 := hS58.join hP71
            replace hS71 : St w NoX [c_58, c_58b, c2_58] w71 := hS71
            refine W_v rfl rfl (V_pickT rfl (es rfl (et rfl)) (et rfl)) ?_
            refine W_v rfl rfl (V_asg rfl (et rfl)) ?_
            refine W_end ?_
            refine gen_Q (fun A72 hA72 => ?_)
            have hsz72 := szq hA72
            have hdf72 : A72.defers = [] := by rw [hA72]; simp only [df_put]; exact hdf61
            have l6_72 := lookE hA72 6 (et rfl)
            clear hA72 hsz61 hdf61 l2_61 l3_61 l7_61 l11_61 l13_61 l121_61
            have hS73 : St w NoX [] w71 := hS71.sel [] (by decide) rfl
            refine then_n (hK70 _ _ ?_)
            clear hK70
            refine wp_ret ?_
            refine ret_in (results_1 Try.results9 (rv_tmp l6_72)) hdf72 ?_
            -- leaf FFTFF
            exact ⟨rfl, hS73.fin0⟩
      · skip
        refine wp_seq_k (fun K74 hK74 => ?_)
        refine region_in ?_
        refine W_v rfl rfl (V_eql rfl l26_34 rfl) ?_
        refine W_v rfl rfl (V_asg rfl (et rfl)) ?_
        refine W_end ?_
        refine gen_Q (fun A75 hA75 => ?_)
        have hsz75 := szq hA75
        have hdf75 : A75.defers = [] := by rw [hA75]; simp only [df_put]; exact hdf34
        have l2_75 := lookE hA75 2 (es rfl (es rfl l2_34))
        have l3_75 := lookE hA75 3 (es rfl (es rfl l3_34))
        have l4_75 := lookE hA75 4 (es rfl (es rfl l4_34))
        have l7_75 := lookE hA75 7 (es rfl (es rfl l7_34))
        have l9_75 := lookE hA75 9 (es rfl (es rfl l9_34))
        have l26_75 := lookE hA75 26 (es rfl (es rfl l26_34))
        have l47_75 := lookE hA75 47 (et rfl)
        clear hA75 hsz34 hdf34 l2_34 l3_34 l4_34 l7_34 l9_34 l26_34 l34_34
        refine then_n (hK74 _ _ ?_)
        clear hK74
        refine cond_dec l47_75 (fun c76 => ?_) (fun c76 => ?_)
        · skip
          refine region_in ?_
          refine W_r rfl rfl (VR_ldA rfl l3_75 (hS26.obj 3 rfl hc2) Try.underlying25 rfl (by kernel_rfl)) ?_
          refine W_v rfl rfl (V_fa (off' := 0) rfl (es rfl l4_75) Try.underlying49 rfl (by decide +kernel) rfl) ?_
          refine W_r rfl rfl (VR_ldC rfl (et rfl) (cell_box (v := .int .i64 (a)) (hS26.obj 2 rfl hc3) rfl) Try.underlying3 rfl) ?_
          refine W_v rfl rfl (V_fa (off' := 2) rfl (e2 rfl (es rfl l4_75)) Try.underlying49 rfl (by decide +kernel) rfl) ?_
          refine W_r rfl rfl (VR_ldC rfl (et rfl) (cell_box (v := .int .i64 (f)) (hS26.obj 2 rfl hc3) rfl) Try.underlying3 rfl) ?_
          refine W_v rfl rfl (V_fa (off' := 1) rfl (e4 rfl (es rfl l4_75)) Try.underlying49 rfl (by decide +kernel) rfl) ?_
          refine W_r rfl rfl (VR_ldC rfl (et rfl) (cell_box (v := .int .i64 (b)) (hS26.obj 2 rfl hc3) rfl) Try.underlying3 rfl) ?_
          refine W_call rfl rfl rfl Try.func27 (by kernel_rfl) rfl (args4 (e6 rfl (et rfl)) (e4 rfl (et rfl)) (e2 rfl (et rfl)) (et rfl)) (kStore_c (a := a) (f := f) (b := b) (hS26.roC h_ov) (hS26.roC n_ov) (hS26.roC h_rv) (by first | with_reducible assumption)) ?_
          rintro _ w77 ⟨hv_77, H_77, qv_77, rfl, hH_77, hP77⟩
          refine ⟨_, rfl, ?_⟩
          obtain ⟨cR_77, cP_77, cQ_77, cG_77, hcR_77, hcP_77, hcQ_77, hcG_77, hP77⟩ := gen4 hP77
          have hS77 := hS26.join hP77
          replace hS77 : St w NoX [cR_77, cP_77, cQ_77, cG_77, c26, c_15, c3, c2] w77 := hS77
          refine W_v rfl rfl (V_mov rfl (et rfl)) ?_
          refine W_v rfl rfl (V_ext (v := .agg #[hv_77, qv_77]) rfl (et rfl) rfl) ?_
          refine W_v rfl rfl (V_ext (v := .int .i64 ((ptE (O.map ab) rs [a, b] a f))) rfl (es rfl (et rfl)) rfl) ?_
          refine W_stAS 4 hS77 rfl hc26 rfl rfl rfl (e10 rfl (es rfl l9_75)) (es rfl (et rfl)) (by simp only [List.all_toArray, List.all_cons, List.all_nil, SlN_one (ow_at (hS77.chq 0 rfl hcR_77)), SlN_one (ow_at (hS77.chq 3 rfl hcG_77))] <;> rfl) (by rfl) (by kernel_rfl) (fun w78 c78 hc78 hS78 => ?_)
          replace hS78 : St w NoX [cR_77, cP_77, cQ_77, cG_77, c78, c_15, c3, c2] w78 := hS78
          refine W_v rfl rfl (V_asg rfl (et rfl)) ?_
          refine W_end ?_
          refine gen_Q (fun A79 hA79 => ?_)
          have hsz79 := szq hA79
          have hdf79 : A79.defers = [] := by rw [hA79]; simp only [df_put]; exact hdf75
          have l2_79 := lookE hA79 2 (e11 rfl (es rfl l2_75))
          have l3_79 := lookE hA79 3 (e11 rfl (es rfl l3_75))
          have l7_79 := lookE hA79 7 (e11 rfl (es rfl l7_75))
          have l9_79 := lookE hA79 9 (e11 rfl (es rfl l9_75))
          have l10_79 := lookE hA79 10 (et rfl)
          clear hA79 hsz75 hdf75 l2_75 l3_75 l4_75 l7_75 l9_75 l26_75 l47_75
          have hS80 : St w NoX [cR_77, cP_77, cQ_77, cG_77, c78, c_15, c2] w78 := hS78.sel [0, 1, 2, 3, 4, 5, 7] (by decide) rfl
          refine inb_n ?_
          refine then_n (hK30 _ _ ?_)
          clear hK30
          refine wp_seq_k (fun K81 hK81 => ?_)
          refine wp_seq_k (fun K82 hK82 => ?_)
          refine region_in ?_
          refine W_v rfl rfl (V_mov rfl l10_79) ?_
          refine W_v rfl rfl (V_neq rfl (et rfl) rfl) ?_
          refine W_end ?_
          refine gen_Q (fun A83 hA83 => ?_)
          have hsz83 := szq hA83
          have hdf83 : A83.defers = [] := by rw [hA83]; simp only [df_put]; exact hdf79
          have l2_83 := lookE hA83 2 (es rfl (es rfl l2_79))
          have l3_83 := lookE hA83 3 (es rfl (es rfl l3_79))
          have l7_83 := lookE hA83 7 (es rfl (es rfl l7_79))
          have l9_83 := lookE hA83 9 (es rfl (es rfl l9_79))
          have l94_83 := lookE hA83 94 (et rfl)
          clear hA83 hsz79 hdf79 l2_79 l3_79 l7_79 l9_79 l10_79
          refine then_n (hK82 _ _ ?_)
          clear hK82
          refine cond_dec l94_83 (fun c84 => ?_) (fun c84 => ?_)
          · skip
            refine wp_seq_k (fun K85 hK85 => ?_)
            refine region_in ?_
            refine W_v rfl rfl (V_fa (off' := 1) rfl l9_83 Try.underlying25 rfl (by decide +kernel) rfl) ?_
            refine W_r rfl rfl (VR_ldC rfl (et rfl) (cell_box (v := qv_77) (hS80.obj 4 rfl hc78) rfl) Try.underlying23 rfl) ?_
            refine W_v rfl rfl (V_lenS rfl (et rfl) (ow_at (hS80.chq 3 rfl hcG_77)) Try.underlying23) ?_
            refine W_v rfl rfl (V_eql rfl (et rfl) rfl) ?_
            refine W_sure (c' := true) rfl rfl (V_mov rfl (et rfl)) (by rw [decide_eq_true_eq]; rw [(so_e c84).2]; rfl) ?_
            refine W_call rfl (wanted_t rfl rfl (et rfl) (ez rfl)) rfl Try.func11 (by kernel_rfl) rfl (args0) (shown_c  ) ?_
            rintro _ w86 ⟨rfl, hP86⟩
            refine ⟨_, rfl, ?_⟩
            have hS86 := hS80.join hP86
            replace hS86 : St w NoX [cR_77, cP_77, cQ_77, cG_77, c78, c_15, c2] w86 := hS86
            refine W_v rfl rfl (V_pickT rfl (es rfl (et rfl)) (et rfl)) ?_
            refine W_v rfl rfl (V_asg rfl (et rfl)) ?_
            refine W_end ?_
            refine gen_Q (fun A87 hA87 => ?_)
            have hsz87 := szq hA87
            have hdf87 : A87.defers = [] := by rw [hA87]; simp only [df_put]; exact hdf83
            have l6_87 := lookE hA87 6 (et rfl)
            clear hA87 hsz83 hdf83 l2_83 l3_83 l7_83 l9_83 l94_83
            have hS88 : St w NoX [] w86 := hS86.sel [] (by decide) rfl
            refine then_n (hK85 _ _ ?_)
            clear hK85
            refine wp_ret ?_
            refine then_ret ?_
            refine ret_in (results_1 Try.results9 (rv_tmp l6_87)) hdf87 ?_
            -- leaf FFFTT
            exact ⟨rfl, hS88.fin0⟩
          · skip
            have hN := nx_store (by simpa using c84)
            have hsm_n : SM (H_77.map ab) := by rw [hH_77]; exact hN.sm hsm
            have hlN := hN.len
            rw [← hH_77, List.length_map, List.length_map] at hlN
            have hll := lvT_len (H_77.map ab) rs
            refine wp_skip ?_
            refine then_n (hK81 _ _ ?_)
            clear hK81
            refine wp_seq_k (fun K89 hK89 => ?_)
            refine region_in ?_
            refine W_r rfl rfl (VR_ldA rfl l9_83 (hS80.obj 4 rfl hc78) Try.underlying25 rfl (by kernel_rfl)) ?_
            refine W_call rfl rfl rfl Try.func17 (by kernel_rfl) rfl (args1 (et rfl)) (kLv_c (hS80.chC 0 rfl hcR_77).own (nst_of (hS80.chC 1 rfl hcP_77) (hS80.chC 2 rfl hcQ_77)) (hS80.chC 3 rfl hcG_77).own (by first | with_reducible assumption)) ?_
            rintro _ w90 ⟨v_90, rfl, hP90⟩
            refine ⟨_, rfl, ?_⟩
            obtain ⟨c_90, hc_90, hP90⟩ := gen1 hP90
            have hS90 := hS80.join hP90
            replace hS90 : St w NoX [c_90, cR_77, cP_77, cQ_77, cG_77, c78, c_15, c2] w90 := hS90
            refine W_v rfl rfl (V_mov rfl (et rfl)) ?_
            refine W_v rfl rfl (V_ext (v := v_90) rfl (et rfl) rfl) ?_
            refine W_v rfl rfl (V_ext (v := .int .i64 ((ckG (H_77.map ab) (soR (O.map ab) rs a f b)).2)) rfl (es rfl (et rfl)) rfl) ?_
            refine W_v rfl rfl (V_asg rfl (es rfl (et rfl))) ?_
            refine W_v rfl rfl (V_asg rfl (es rfl (et rfl))) ?_
            refine W_end ?_
            refine gen_Q (fun A91 hA91 => ?_)
            have hsz91 := szq hA91
            have hdf91 : A91.defers = [] := by rw [hA91]; simp only [df_put]; exact hdf83
            have l2_91 := lookE hA91 2 (e6 rfl (es rfl l2_83))
            have l3_91 := lookE hA91 3 (e6 rfl (es rfl l3_83))
            have l7_91 := lookE hA91 7 (e6 rfl (es rfl l7_83))
            have l9_91 := lookE hA91 9 (e6 rfl (es rfl l9_83))
            have l11_91 := lookE hA91 11 (es rfl (et rfl))
            have l12_91 := lookE hA91 12 (et rfl)
            clear hA91 hsz83 hdf83 l2_83 l3_83 l7_83 l9_83 l94_83
            refine then_n (hK89 _ _ ?_)
            clear hK89
            refine wp_seq_k (fun K92 hK92 => ?_)
            refine wp_seq_k (fun K93 hK93 => ?_)
            refine region_in ?_
            refine W_v rfl rfl (V_mov rfl l12_91) ?_
            refine W_v rfl rfl (V_neq rfl (et rfl) rfl) ?_
            refine W_sure (c' := false) rfl rfl (V_mov rfl (et rfl)) (by rw [decide_eq_false_iff_not]; simp only [hH_77]; exact fun q => q (ckG_iff.2 hN.gg)) ?_
            refine W_v rfl (wanted_t rfl rfl (et rfl) (ez rfl)) (V_fa (off' := 0) rfl (e2 rfl (es rfl l9_91)) Try.underlying25 rfl (by decide +kernel) rfl) ?_
            refine W_r rfl (wanted_t rfl rfl (es rfl (et rfl)) (ez rfl)) (VR_ldC rfl (et rfl) (cell_box (v := hv_77) (hS90.obj 5 rfl hc78) rfl) Try.underlying22 rfl) ?_
            refine W_v rfl (wanted_t rfl rfl (e2 rfl (et rfl)) (ez rfl)) (V_lenS rfl (et rfl) (ow_at (hS90.chq 1 rfl hcR_77)) Try.underlying22) ?_
            refine W_v rfl (wanted_t rfl rfl (e3 rfl (et rfl)) (ez rfl)) (V_fa (off' := 0) rfl (e5 rfl (es rfl l3_91)) Try.underlying25 rfl (by decide +kernel) rfl) ?_
            refine W_r rfl (wanted_t rfl rfl (e4 rfl (et rfl)) (ez rfl)) (VR_ldC rfl (et rfl) (cell_box (v := ov) (hS90.obj 7 rfl hc2) rfl) Try.underlying22 rfl) ?_
            refine W_v rfl (wanted_t rfl rfl (e5 rfl (et rfl)) (ez rfl)) (V_lenS rfl (et rfl) (sl_SlN h_ov.at) Try.underlying22) ?_
            refine W_v rfl (wanted_t rfl rfl (e6 rfl (et rfl)) (ez rfl)) (V_lss rfl (e3 rfl (et rfl)) (et rfl)) ?_
            refine W_v rfl rfl (V_pickF rfl (e7 rfl (et rfl)) (et rfl)) ?_
            refine W_end ?_
            refine gen_Q (fun A94 hA94 => ?_)
            have hsz94 := szq hA94
            have hdf94 : A94.defers = [] := by rw [hA94]; simp only [df_put]; exact hdf91
            have l2_94 := lookE hA94 2 (e10 rfl (es rfl l2_91))
            have l3_94 := lookE hA94 3 (e10 rfl (es rfl l3_91))
            have l7_94 := lookE hA94 7 (e10 rfl (es rfl l7_91))
            have l11_94 := lookE hA94 11 (e10 rfl (es rfl l11_91))
            have l117_94 := lookE hA94 117 (et rfl)
            clear hA94 hsz91 hdf91 l2_91 l3_91 l7_91 l9_91 l11_91 l12_91
            have hS95 : St w NoX [c_90, c_15, c2] w90 := hS90.sel [0, 6, 7] (by decide) rfl
            refine then_n (hK93 _ _ ?_)
            clear hK93
            refine cond_not l117_94 (by rw [decide_eq_false_iff_not]; omega) ?_
            refine wp_skip ?_
            refine then_n (hK92 _ _ ?_)
            clear hK92
            refine wp_seq_k (fun K96 hK96 => ?_)
            refine wp_seq_k (fun K97 hK97 => ?_)
            refine region_in ?_
            refine W_v rfl rfl (V_asg rfl rfl) ?_
            refine W_end ?_
            refine gen_Q (fun A98 hA98 => ?_)
            have hsz98 := szq hA98
            have hdf98 : A98.defers = [] := by rw [hA98]; simp only [df_put]; exact hdf94
            have l2_98 := lookE hA98 2 (es rfl l2_94)
            have l3_98 := lookE hA98 3 (es rfl l3_94)
            have l7_98 := lookE hA98 7 (es rfl l7_94)
            have l11_98 := lookE hA98 11 (es rfl l11_94)
            have l13_98 := lookE hA98 13 (et rfl)
            clear hA98 hsz94 hdf94 l2_94 l3_94 l7_94 l11_94 l117_94
            refine then_n (hK97 _ _ ?_)
            clear hK97
            refine wp_block ?_
            -- loop 26
            have hll2 := lvT_len (H_77.map ab) (soR (O.map ab) rs a f b)
            refine loopX (fun mz A' w' => SzN A' 161 ∧ A'.defers = [] ∧ (∃ (k : Nat), (mz = (lvT (H_77.map ab) (soR (O.map ab) rs a f b)).length - k) ∧ (k ≤ (lvT (H_77.map ab) (soR (O.map ab) rs a f b)).length) ∧ (EV A' (.tmp 13) = .int .i64 (k : Int)) ∧ (EV A' (.tmp 2) = EV A98 (.tmp 2)) ∧ (EV A' (.tmp 3) = EV A98 (.tmp 3)) ∧ (EV A' (.tmp 7) = EV A98 (.tmp 7)) ∧ (EV A' (.tmp 11) = EV A98 (.tmp 11)) ∧ (St w NoX [io .i64 v_90 (lvT (H_77.map ab) (soR (O.map ab) rs a f b)), io .i64 v_15 (lvT (O.map ab) rs), bx g2 25 #[ov, rv]] w'))) ((lvT (H_77.map ab) (soR (O.map ab) rs a f b)).length - 0) ⟨hsz98, hdf98, 0, rfl, (by omega), ((l13_98).trans (by first | rfl | (simp; done) | (congr 1; omega))), rfl, rfl, rfl, rfl, (by subst hc_90 hc_15 hc2; exact hS95)⟩ ?_
            clear hS95 hc_90 hc_15 hc2
            rintro n99 A99 w99 ⟨hsz99, hdf99, k, hm99, hk, l13_99, u2_99, u3_99, u7_99, u11_99, hS99⟩
            have l2_99 := u2_99.trans l2_98
            have l3_99 := u3_99.trans l3_98
            have l7_99 := u7_99.trans l7_98
            have l11_99 := u11_99.trans l11_98
            obtain ⟨c_99, c_99b, c2_99, hc_99, hc_99b, hc2_99, hS99⟩ := gen3 hS99
            refine wp_seq_k (fun K100 hK100 => ?_)
            refine wp_seq_k (fun K101 hK101 => ?_)
            refine region_in ?_
            refine W_v rfl rfl (V_mov rfl l13_99) ?_
            refine W_v rfl rfl (V_mov rfl (es rfl l11_99)) ?_
            refine W_v rfl rfl (V_lenS rfl (et rfl) (ow_at (hS99.chq 0 rfl hc_99)) Try.underlying23) ?_
            refine W_v rfl rfl (V_lss rfl (e2 rfl (et rfl)) (et rfl)) ?_
            refine W_end ?_
            refine gen_Q (fun A102 hA102 => ?_)
            have hsz102 := szq hA102
            have hdf102 : A102.defers = [] := by rw [hA102]; simp only [df_put]; exact hdf99
            have l2_102 := lookE hA102 2 (e3 rfl (es rfl l2_99))
            have l3_102 := lookE hA102 3 (e3 rfl (es rfl l3_99))
            have l7_102 := lookE hA102 7 (e3 rfl (es rfl l7_99))
            have l11_102 := lookE hA102 11 (e3 rfl (es rfl l11_99))
            have l13_102 := lookE hA102 13 (e3 rfl (es rfl l13_99))
            have l121_102 := lookE hA102 121 (et rfl)
            clear hA102 hsz99 hdf99 l13_99 l2_99 l3_99 l7_99 l11_99
            refine then_n (hK101 _ _ ?_)
            clear hK101
            refine cond_dec l121_102 (fun c103 => ?_) (fun c103 => ?_)
            · skip
              refine wp_skip ?_
              refine then_n (hK100 _ _ ?_)
              clear hK100
              refine wp_seq_k (fun K104 hK104 => ?_)
              refine wp_block ?_
              refine wp_seq_k (fun K105 hK105 => ?_)
              have k106 : k < (lvT (H_77.map ab) (soR (O.map ab) rs a f b)).length := by first | omega | (simp only [List.length_cons, List.length_nil]; omega) | (simp only [List.length_set]; omega)
              obtain ⟨y106, hy106⟩ := get_some (xs := (lvT (H_77.map ab) (soR (O.map ab) rs a f b))) (k := k) k106
              have hmm106 := hN.mem hg (by rw [← hH_77]; exact List.mem_of_getElem? hy106)
              refine region_monoS 23 23 [none, none, none, none, none, some (SPv [] (fun _ => fun u l' => u = .bool (decide (y106 ∈ (lvT (O.map ab) rs))) ∧ l' = []) 5)] (by kernel_rfl) (by kernel_rfl) ?_
              refine D_v rfl rfl (V_mov rfl l7_102) rfl rfl ?_
              refine D_v rfl rfl (V_mov rfl (es rfl l11_102)) rfl rfl ?_
              refine D_v rfl rfl (V_mov rfl (es rfl (es rfl l13_102))) rfl rfl ?_
              obtain ⟨B106, O106, C106, hv106⟩ := (SlN.blk (ow_at (hS99.chq 0 rfl hc_99)) (by first | omega | (simp only [List.length_cons, List.length_nil]; omega) | (simp only [List.length_set]; omega)))
              refine D_v rfl rfl (V_ixS (off := O106 + k) 1 (k) rfl (es rfl (et rfl)) (et rfl) hv106 (by omega) k106 Try.underlying23 (by kernel_rfl) (congrArg _ (Nat.mul_one _))) rfl rfl ?_
              refine D_r rfl rfl (by kernel_rfl) (fun sx hx hF => (VR_ldC rfl (et rfl) ((ow_at ((hS99.grow hx).chq 0 rfl hc_99)).cell hv106 (map_get hy106)) Try.underlying3 rfl)) rfl rfl ?_
              refine D_call (ts := []) (vs := []) (C0 := fun _ => fun u l' => u = .bool (decide (y106 ∈ (lvT (O.map ab) rs))) ∧ l' = []) (C := fun u l' => u = .bool (decide (y106 ∈ (lvT (O.map ab) rs))) ∧ l' = []) rfl rfl rfl Try.func22 (by kernel_rfl) rfl (args2 (e4 rfl (et rfl)) (et rfl)) rfl rfl rfl rfl (fun sx hx hF => ?_) (fun u107 l107 hu107 => ?_)
              · refine (has_c (x := y106) ((hS99.grow hx).chC 1 rfl hc_99b).own ).mono ?_
                rintro _ _ ⟨rfl, hz⟩
                exact ⟨_, rfl, _, ⟨rfl, rfl⟩, hz⟩
              obtain ⟨rfl, hl107⟩ := hu107
              refine D_v rfl rfl (V_notd rfl (et rfl)) rfl rfl ?_
              refine D_sure (c' := false) rfl rfl (V_mov rfl (et rfl)) (by rw [decide_eq_false_iff_not]; exact fun q => q (hmm106.resolve_right fun r => r.1)) rfl rfl ?_
              refine D_off rfl (wanted_f rfl rfl (et rfl) (ez rfl) rfl) rfl ?_
              refine D_off rfl (wanted_f rfl rfl (es rfl (et rfl)) (ez rfl) rfl) rfl ?_
              refine D_off rfl (wanted_f rfl rfl (e2 rfl (et rfl)) (ez rfl) rfl) rfl ?_
              refine D_off rfl (wanted_f rfl rfl (e3 rfl (et rfl)) (ez rfl) rfl) rfl ?_
              refine D_off rfl (wanted_u rfl rfl (et rfl) (ez rfl)) rfl ?_
              refine D_off rfl (wanted_u rfl rfl (es rfl (et rfl)) (ez rfl)) rfl ?_
              refine D_off rfl (wanted_u rfl rfl (e2 rfl (et rfl)) (ez rfl)) rfl ?_
              refine D_off rfl (wanted_u rfl rfl (e3 rfl (et rfl)) (ez rfl)) rfl ?_
              refine D_off rfl (wanted_u rfl rfl (e4 rfl (et rfl)) (ez rfl)) rfl ?_
              refine D_off rfl (wanted_u rfl rfl (e5 rfl (et rfl)) (ez rfl)) rfl ?_
              refine D_off rfl (wanted_u rfl rfl (e6 rfl (et rfl)) (ez rfl)) rfl ?_
              refine D_off rfl (wanted_u rfl rfl (e7 rfl (et rfl)) (ez rfl)) rfl ?_
              refine D_off rfl (wanted_u rfl rfl (e8 rfl (et rfl)) (ez rfl)) rfl ?_
              refine D_off rfl (wanted_f rfl rfl (e13 rfl (et rfl)) (ez rfl) rfl) rfl ?_
              refine D_v rfl rfl (V_pickF rfl (e14 rfl (et rfl)) rfl) rfl rfl ?_
              refine ZS_none hS99 (Nat.le_refl _) (Nat.le_refl _) (fun s108 hJ108 hL108 hF108 => ?_)
              obtain ⟨ll107, ws107, we107, ⟨hq107, hl107r⟩, hm107, k107, e107⟩ := L.all_get hF108; cases hq107; subst hl107r
              replace hJ108 := hJ108.add hL108 (i := 5) rfl hm107 k107 e107
              have hS108 := hJ108.st; clear hF108 hJ108 hL108
              generalize s108.1 = w108 at *
              replace hS108 : St w NoX [c_99, c_99b, c2_99] w108 := hS108
              refine gen_Q (fun A109 hA109 => ?_)
              have hsz109 := szq hA109
              have hdf109 : A109.defers = [] := by rw [hA109]; simp only [df_put]; exact hdf102
              have l2_109 := lookE hA109 2 (e22 rfl (es rfl l2_102))
              have l3_109 := lookE hA109 3 (e22 rfl (es rfl l3_102))
              have l7_109 := lookE hA109 7 (e22 rfl (es rfl l7_102))
              have l11_109 := lookE hA109 11 (e22 rfl (es rfl l11_102))
              have l13_109 := lookE hA109 13 (e22 rfl (es rfl l13_102))
              have l132_109 := lookE hA109 132 (e14 rfl (et rfl))
              have l133_109 := lookE hA109 133 (e13 rfl (et rfl))
              have l134_109 := lookE hA109 134 (e12 rfl (et rfl))
              have l135_109 := lookE hA109 135 (e11 rfl (et rfl))
              have l136_109 := lookE hA109 136 (e10 rfl (et rfl))
              have l137_109 := lookE hA109 137 (e9 rfl (et rfl))
              have l138_109 := lookE hA109 138 (e8 rfl (et rfl))
              have l139_109 := lookE hA109 139 (e7 rfl (et rfl))
              have l140_109 := lookE hA109 140 (e6 rfl (et rfl))
              have l141_109 := lookE hA109 141 (e5 rfl (et rfl))
              have l142_109 := lookE hA109 142 (e4 rfl (et rfl))
              have l143_109 := lookE hA109 143 (e3 rfl (et rfl))
              have l144_109 := lookE hA109 144 (e2 rfl (et rfl))
              have l145_109 := lookE hA109 145 (es rfl (et rfl))
              have l146_109 := lookE hA109 146 (et rfl)
              clear hA109 hsz102 hdf102 l2_102 l3_102 l7_102 l11_102 l13_102 l121_102
              refine then_n (hK105 _ _ ?_)
              clear hK105
              refine cond_f l146_109 ?_
              refine wp_skip ?_
              refine inb_n ?_
              refine then_n (hK104 _ _ ?_)
              clear hK104
              refine region_in ?_
              refine W_v rfl rfl (V_mov rfl l13_109) ?_
              refine W_v rfl rfl (V_add rfl (et rfl) rfl (by omega) (by omega)) ?_
              refine W_v rfl rfl (V_asg rfl (et rfl)) ?_
              refine W_end ?_
              refine gen_Q (fun A110 hA110 => ?_)
              have hsz110 := szq hA110
              have hdf110 : A110.defers = [] := by rw [hA110]; simp only [df_put]; exact hdf109
              have l2_110 := lookE hA110 2 (e2 rfl (es rfl l2_109))
              have l3_110 := lookE hA110 3 (e2 rfl (es rfl l3_109))
              have l7_110 := lookE hA110 7 (e2 rfl (es rfl l7_109))
              have l11_110 := lookE hA110 11 (e2 rfl (es rfl l11_109))
              have l13_110 := lookE hA110 13 (et rfl)
              have l132_110 := lookE hA110 132 (e2 rfl (es rfl l132_109))
              have l133_110 := lookE hA110 133 (e2 rfl (es rfl l133_109))
              have l134_110 := lookE hA110 134 (e2 rfl (es rfl l134_109))
              have l135_110 := lookE hA110 135 (e2 rfl (es rfl l135_109))
              have l136_110 := lookE hA110 136 (e2 rfl (es rfl l136_109))
              have l137_110 := lookE hA110 137 (e2 rfl (es rfl l137_109))
              have l138_110 := lookE hA110 138 (e2 rfl (es rfl l138_109))
              have l139_110 := lookE hA110 139 (e2 rfl (es rfl l139_109))
              have l140_110 := lookE hA110 140 (e2 rfl (es rfl l140_109))
              have l141_110 := lookE hA110 141 (e2 rfl (es rfl l141_109))
              have l142_110 := lookE hA110 142 (e2 rfl (es rfl l142_109))
              have l143_110 := lookE hA110 143 (e2 rfl (es rfl l143_109))
              have l144_110 := lookE hA110 144 (e2 rfl (es rfl l144_109))
              have l145_110 := lookE hA110 145 (e2 rfl (es rfl l145_109))
              clear hA110 hsz109 hdf109 l2_109 l3_109 l7_109 l11_109 l13_109 l132_109 l133_109 l134_109 l135_109 l136_109 l137_109 l138_109 l139_109 l140_109 l141_109 l142_109 l143_109 l144_109 l145_109 l146_109
              refine then_n ⟨(lvT (H_77.map ab) (soR (O.map ab) rs a f b)).length - (k + 1), by simp only [hm99]; omega, hsz110, hdf110, (k + 1), rfl, (by omega), ((l13_110).trans (by first | rfl | (simp; done) | (congr 1; omega))), ((l2_110).trans l2_98.symm), ((l3_110).trans l3_98.symm), ((l7_110).trans l7_98.symm), ((l11_110).trans l11_98.symm), (by subst hc_99 hc_99b hc2_99; exact hS108)⟩
            · skip
              refine wp_exit ?_
              refine then_exit ?_
              refine then_exit ?_
              refine inb_hit ?_
              refine then_n (hK96 _ _ ?_)
              clear hK96
              refine wp_seq_k (fun K111 hK111 => ?_)
              refine region_in ?_
              refine W_v rfl rfl (V_mov rfl l2_102) ?_
              refine W_v rfl rfl (V_rem rfl (et rfl) rfl (by omega) (by omega) (wrap_u8 (by omega) (by omega))) ?_
              refine W_v rfl rfl (V_neq rfl (et rfl) rfl) ?_
              refine W_sure (c' := true) rfl rfl (V_mov rfl (et rfl)) (by rw [decide_eq_true_eq]; omega) ?_
              refine W_off rfl (wanted_f rfl rfl (et rfl) (ez rfl) rfl) ?_
              refine W_off rfl (wanted_f rfl rfl (es rfl (et rfl)) (ez rfl) rfl) ?_
              refine W_off rfl (wanted_f rfl rfl (e2 rfl (et rfl)) (ez rfl) rfl) ?_
              refine W_off rfl (wanted_f rfl rfl (e3 rfl (et rfl)) (ez rfl) rfl) ?_
              refine W_off rfl (wanted_f rfl rfl (e4 rfl (et rfl)) (ez rfl) rfl) ?_
              refine W_off rfl (wanted_f rfl rfl (e5 rfl (et rfl)) (ez rfl) rfl) ?_
              refine W_v rfl rfl (V_pickT rfl (e6 rfl (et rfl)) rfl) ?_
              refine W_v rfl rfl (V_mov rfl (et rfl)) ?_
              refine W_call rfl (wanted_t rfl rfl (et rfl) (ez rfl)) rfl Try.func11 (by kernel_rfl) rfl (args0) (shown_c  ) ?_
              rintro _ w112 ⟨rfl, hP112⟩
              refine ⟨_, rfl, ?_⟩
              have hS112 := hS99.join hP112
              replace hS112 : St w NoX [c_99, c_99b, c2_99] w112 := hS112
              refine W_v rfl rfl (V_pickT rfl (es rfl (et rfl)) (et rfl)) ?_
              refine W_v rfl rfl (V_asg rfl (et rfl)) ?_
              refine W_end ?_
              refine gen_Q (fun A113 hA113 => ?_)
              have hsz113 := szq hA113
              have hdf113 : A113.defers = [] := by rw [hA113]; simp only [df_put]; exact hdf102
              have l6_113 := lookE hA113 6 (et rfl)
              clear hA113 hsz102 hdf102 l2_102 l3_102 l7_102 l11_102 l13_102 l121_102
              have hS114 : St w NoX [] w112 := hS112.sel [] (by decide) rfl
              refine then_n (hK111 _ _ ?_)
              clear hK111
              refine wp_ret ?_
              refine ret_in (results_1 Try.results9 (rv_tmp l6_113)) hdf113 ?_
              -- leaf FFFTFF
              exact ⟨rfl, hS114.fin0⟩
        · skip
          refine wp_seq_k (fun K115 hK115 => ?_)
          refine region_in ?_
          refine W_v rfl rfl (V_eql rfl l26_75 rfl) ?_
          refine W_v rfl rfl (V_asg rfl (et rfl)) ?_
          refine W_end ?_
          refine gen_Q (fun A116 hA116 => ?_)
          have hsz116 := szq hA116
          have hdf116 : A116.defers = [] := by rw [hA116]; simp only [df_put]; exact hdf75
          have l2_116 := lookE hA116 2 (es rfl (es rfl l2_75))
          have l3_116 := lookE hA116 3 (es rfl (es rfl l3_75))
          have l4_116 := lookE hA116 4 (es rfl (es rfl l4_75))
          have l7_116 := lookE hA116 7 (es rfl (es rfl l7_75))
          have l9_116 := lookE hA116 9 (es rfl (es rfl l9_75))
          have l26_116 := lookE hA116 26 (es rfl (es rfl l26_75))
          have l60_116 := lookE hA116 60 (et rfl)
          clear hA116 hsz75 hdf75 l2_75 l3_75 l4_75 l7_75 l9_75 l26_75 l47_75
          refine then_n (hK115 _ _ ?_)
          clear hK115
          refine cond_dec l60_116 (fun c117 => ?_) (fun c117 => ?_)
          · skip
            refine region_in ?_
            refine W_r rfl rfl (VR_ldA rfl l3_116 (hS26.obj 3 rfl hc2) Try.underlying25 rfl (by kernel_rfl)) ?_
            refine W_v rfl rfl (V_fa (off' := 0) rfl (es rfl l4_116) Try.underlying49 rfl (by decide +kernel) rfl) ?_
            refine W_r rfl rfl (VR_ldC rfl (et rfl) (cell_box (v := .int .i64 (a)) (hS26.obj 2 rfl hc3) rfl) Try.underlying3 rfl) ?_
            refine W_v rfl rfl (V_fa (off' := 2) rfl (e2 rfl (es rfl l4_116)) Try.underlying49 rfl (by decide +kernel) rfl) ?_
            refine W_r rfl rfl (VR_ldC rfl (et rfl) (cell_box (v := .int .i64 (f)) (hS26.obj 2 rfl hc3) rfl) Try.underlying3 rfl) ?_
            refine W_v rfl rfl (V_fa (off' := 3) rfl (e4 rfl (es rfl l4_116)) Try.underlying49 rfl (by decide +kernel) rfl) ?_
            refine W_r rfl rfl (VR_ldC rfl (et rfl) (cell_box (v := .int .u64 (x)) (hS26.obj 2 rfl hc3) rfl) Try.underlying45 rfl) ?_
            refine W_call rfl rfl rfl Try.func29 (by kernel_rfl) rfl (args4 (e6 rfl (et rfl)) (e4 rfl (et rfl)) (e2 rfl (et rfl)) (et rfl)) (kWrite_c (a := a) (f := f) (x := x) (hS26.roC h_ov) (hS26.roC n_ov) (hS26.roC h_rv) (by first | with_reducible assumption)) ?_
            rintro _ w118 ⟨hv_118, H_118, qv_118, rfl, hH_118, hP118⟩
            refine ⟨_, rfl, ?_⟩
            obtain ⟨cR_118, cP_118, cQ_118, cG_118, hcR_118, hcP_118, hcQ_118, hcG_118, hP118⟩ := gen4 hP118
            have hS118 := hS26.join hP118
            replace hS118 : St w NoX [cR_118, cP_118, cQ_118, cG_118, c26, c_15, c3, c2] w118 := hS118
            refine W_v rfl rfl (V_mov rfl (et rfl)) ?_
            refine W_v rfl rfl (V_ext (v := .agg #[hv_118, qv_118]) rfl (et rfl) rfl) ?_
            refine W_v rfl rfl (V_ext (v := .int .i64 ((rwE (O.map ab) rs [a] a f))) rfl (es rfl (et rfl)) rfl) ?_
            refine W_stAS 4 hS118 rfl hc26 rfl rfl rfl (e10 rfl (es rfl l9_116)) (es rfl (et rfl)) (by simp only [List.all_toArray, List.all_cons, List.all_nil, SlN_one (ow_at (hS118.chq 0 rfl hcR_118)), SlN_one (ow_at (hS118.chq 3 rfl hcG_118))] <;> rfl) (by rfl) (by kernel_rfl) (fun w119 c119 hc119 hS119 => ?_)
            replace hS119 : St w NoX [cR_118, cP_118, cQ_118, cG_118, c119, c_15, c3, c2] w119 := hS119
            refine W_v rfl rfl (V_asg rfl (et rfl)) ?_
            refine W_end ?_
            refine gen_Q (fun A120 hA120 => ?_)
            have hsz120 := szq hA120
            have hdf120 : A120.defers = [] := by rw [hA120]; simp only [df_put]; exact hdf116
            have l2_120 := lookE hA120 2 (e11 rfl (es rfl l2_116))
            have l3_120 := lookE hA120 3 (e11 rfl (es rfl l3_116))
            have l7_120 := lookE hA120 7 (e11 rfl (es rfl l7_116))
            have l9_120 := lookE hA120 9 (e11 rfl (es rfl l9_116))
            have l10_120 := lookE hA120 10 (et rfl)
            clear hA120 hsz116 hdf116 l2_116 l3_116 l4_116 l7_116 l9_116 l26_116 l60_116
            have hS121 : St w NoX [cR_118, cP_118, cQ_118, cG_118, c119, c_15, c2] w119 := hS119.sel [0, 1, 2, 3, 4, 5, 7] (by decide) rfl
            refine inb_n ?_
            refine then_n (hK30 _ _ ?_)
            clear hK30
            refine wp_seq_k (fun K122 hK122 => ?_)
            refine wp_seq_k (fun K123 hK123 => ?_)
            refine region_in ?_
            refine W_v rfl rfl (V_mov rfl l10_120) ?_
            refine W_v rfl rfl (V_neq rfl (et rfl) rfl) ?_
            refine W_end ?_
            refine gen_Q (fun A124 hA124 => ?_)
            have hsz124 := szq hA124
            have hdf124 : A124.defers = [] := by rw [hA124]; simp only [df_put]; exact hdf120
            have l2_124 := lookE hA124 2 (es rfl (es rfl l2_120))
            have l3_124 := lookE hA124 3 (es rfl (es rfl l3_120))
            have l7_124 := lookE hA124 7 (es rfl (es rfl l7_120))
            have l9_124 := lookE hA124 9 (es rfl (es rfl l9_120))
            have l94_124 := lookE hA124 94 (et rfl)
            clear hA124 hsz120 hdf120 l2_120 l3_120 l7_120 l9_120 l10_120
            refine then_n (hK123 _ _ ?_)
            clear hK123
            refine cond_dec l94_124 (fun c125 => ?_) (fun c125 => ?_)
            · skip
              refine wp_seq_k (fun K126 hK126 => ?_)
              refine region_in ?_
              refine W_v rfl rfl (V_fa (off' := 1) rfl l9_124 Try.underlying25 rfl (by decide +kernel) rfl) ?_
              refine W_r rfl rfl (VR_ldC rfl (et rfl) (cell_box (v := qv_118) (hS121.obj 4 rfl hc119) rfl) Try.underlying23 rfl) ?_
              refine W_v rfl rfl (V_lenS rfl (et rfl) (ow_at (hS121.chq 3 rfl hcG_118)) Try.underlying23) ?_
              refine W_v rfl rfl (V_eql rfl (et rfl) rfl) ?_
              refine W_sure (c' := true) rfl rfl (V_mov rfl (et rfl)) (by rw [decide_eq_true_eq]; rw [(wr_e (x := x) c125).2]; rfl) ?_
              refine W_call rfl (wanted_t rfl rfl (et rfl) (ez rfl)) rfl Try.func11 (by kernel_rfl) rfl (args0) (shown_c  ) ?_
              rintro _ w127 ⟨rfl, hP127⟩
              refine ⟨_, rfl, ?_⟩
              have hS127 := hS121.join hP127
              replace hS127 : St w NoX [cR_118, cP_118, cQ_118, cG_118, c119, c_15, c2] w127 := hS127
              refine W_v rfl rfl (V_pickT rfl (es rfl (et rfl)) (et rfl)) ?_
              refine W_v rfl rfl (V_asg rfl (et rfl)) ?_
              refine W_end ?_
              refine gen_Q (fun A128 hA128 => ?_)
              have hsz128 := szq hA128
              have hdf128 : A128.defers = [] := by rw [hA128]; simp only [df_put]; exact hdf124
              have l6_128 := lookE hA128 6 (et rfl)
              clear hA128 hsz124 hdf124 l2_124 l3_124 l7_124 l9_124 l94_124
              have hS129 : St w NoX [] w127 := hS127.sel [] (by decide) rfl
              refine then_n (hK126 _ _ ?_)
              clear hK126
              refine wp_ret ?_
              refine then_ret ?_
              refine ret_in (results_1 Try.results9 (rv_tmp l6_128)) hdf128 ?_
              -- leaf FFFFTT
              exact ⟨rfl, hS129.fin0⟩
            · skip
              have hN := nx_write (x := x) (by simpa using c125)
              have hsm_n : SM (H_118.map ab) := by rw [hH_118]; exact hN.sm hsm
              have hlN := hN.len
              rw [← hH_118, List.length_map, List.length_map] at hlN
              have hll := lvT_len (H_118.map ab) rs
              refine wp_skip ?_
              refine then_n (hK122 _ _ ?_)
              clear hK122
              refine wp_seq_k (fun K130 hK130 => ?_)
              refine region_in ?_
              refine W_r rfl rfl (VR_ldA rfl l9_124 (hS121.obj 4 rfl hc119) Try.underlying25 rfl (by kernel_rfl)) ?_
              refine W_call rfl rfl rfl Try.func17 (by kernel_rfl) rfl (args1 (et rfl)) (kLv_c (hS121.chC 0 rfl hcR_118).own (nst_of (hS121.chC 1 rfl hcP_118) (hS121.chC 2 rfl hcQ_118)) (hS121.chC 3 rfl hcG_118).own (by first | with_reducible assumption)) ?_
              rintro _ w131 ⟨v_131, rfl, hP131⟩
              refine ⟨_, rfl, ?_⟩
              obtain ⟨c_131, hc_131, hP131⟩ := gen1 hP131
              have hS131 := hS121.join hP131
              replace hS131 : St w NoX [c_131, cR_118, cP_118, cQ_118, cG_118, c119, c_15, c2] w131 := hS131
              refine W_v rfl rfl (V_mov rfl (et rfl)) ?_
              refine W_v rfl rfl (V_ext (v := v_131) rfl (et rfl) rfl) ?_
              refine W_v rfl rfl (V_ext (v := .int .i64 ((ckG (H_118.map ab) (wrR (O.map ab) rs a f)).2)) rfl (es rfl (et rfl)) rfl) ?_
              refine W_v rfl rfl (V_asg rfl (es rfl (et rfl))) ?_
              refine W_v rfl rfl (V_asg rfl (es rfl (et rfl))) ?_
              refine W_end ?_
              refine gen_Q (fun A132 hA132 => ?_)
              have hsz132 := szq hA132
              have hdf132 : A132.defers = [] := by rw [hA132]; simp only [df_put]; exact hdf124
              have l2_132 := lookE hA132 2 (e6 rfl (es rfl l2_124))
              have l3_132 := lookE hA132 3 (e6 rfl (es rfl l3_124))
              have l7_132 := lookE hA132 7 (e6 rfl (es rfl l7_124))
              have l9_132 := lookE hA132 9 (e6 rfl (es rfl l9_124))
              have l11_132 := lookE hA132 11 (es rfl (et rfl))
              have l12_132 := lookE hA132 12 (et rfl)
              clear hA132 hsz124 hdf124 l2_124 l3_124 l7_124 l9_124 l94_124
              refine then_n (hK130 _ _ ?_)
              clear hK130
              refine wp_seq_k (fun K133 hK133 => ?_)
              refine wp_seq_k (fun K134 hK134 => ?_)
              refine region_in ?_
              refine W_v rfl rfl (V_mov rfl l12_132) ?_
              refine W_v rfl rfl (V_neq rfl (et rfl) rfl) ?_
              refine W_sure (c' := false) rfl rfl (V_mov rfl (et rfl)) (by rw [decide_eq_false_iff_not]; simp only [hH_118]; exact fun q => q (ckG_iff.2 hN.gg)) ?_
              refine W_v rfl (wanted_t rfl rfl (et rfl) (ez rfl)) (V_fa (off' := 0) rfl (e2 rfl (es rfl l9_132)) Try.underlying25 rfl (by decide +kernel) rfl) ?_
              refine W_r rfl (wanted_t rfl rfl (es rfl (et rfl)) (ez rfl)) (VR_ldC rfl (et rfl) (cell_box (v := hv_118) (hS131.obj 5 rfl hc119) rfl) Try.underlying22 rfl) ?_
              refine W_v rfl (wanted_t rfl rfl (e2 rfl (et rfl)) (ez rfl)) (V_lenS rfl (et rfl) (ow_at (hS131.chq 1 rfl hcR_118)) Try.underlying22) ?_
              refine W_v rfl (wanted_t rfl rfl (e3 rfl (et rfl)) (ez rfl)) (V_fa (off' := 0) rfl (e5 rfl (es rfl l3_132)) Try.underlying25 rfl (by decide +kernel) rfl) ?_
              refine W_r rfl (wanted_t rfl rfl (e4 rfl (et rfl)) (ez rfl)) (VR_ldC rfl (et rfl) (cell_box (v := ov) (hS131.obj 7 rfl hc2) rfl) Try.underlying22 rfl) ?_
              refine W_v rfl (wanted_t rfl rfl (e5 rfl (et rfl)) (ez rfl)) (V_lenS rfl (et rfl) (sl_SlN h_ov.at) Try.underlying22) ?_
              refine W_v rfl (wanted_t rfl rfl (e6 rfl (et rfl)) (ez rfl)) (V_lss rfl (e3 rfl (et rfl)) (et rfl)) ?_
              refine W_v rfl rfl (V_pickF rfl (e7 rfl (et rfl)) (et rfl)) ?_
              refine W_end ?_
              refine gen_Q (fun A135 hA135 => ?_)
              have hsz135 := szq hA135
              have hdf135 : A135.defers = [] := by rw [hA135]; simp only [df_put]; exact hdf132
              have l2_135 := lookE hA135 2 (e10 rfl (es rfl l2_132))
              have l3_135 := lookE hA135 3 (e10 rfl (es rfl l3_132))
              have l7_135 := lookE hA135 7 (e10 rfl (es rfl l7_132))
              have l11_135 := lookE hA135 11 (e10 rfl (es rfl l11_132))
              have l117_135 := lookE hA135 117 (et rfl)
              clear hA135 hsz132 hdf132 l2_132 l3_132 l7_132 l9_132 l11_132 l12_132
              have hS136 : St w NoX [c_131, c_15, c2] w131 := hS131.sel [0, 6, 7] (by decide) rfl
              refine then_n (hK134 _ _ ?_)
              clear hK134
              refine cond_not l117_135 (by rw [decide_eq_false_iff_not]; omega) ?_
              refine wp_skip ?_
              refine then_n (hK133 _ _ ?_)
              clear hK133
              refine wp_seq_k (fun K137 hK137 => ?_)
              refine wp_seq_k (fun K138 hK138 => ?_)
              refine region_in ?_
              refine W_v rfl rfl (V_asg rfl rfl) ?_
              refine W_end ?_
              refine gen_Q (fun A139 hA139 => ?_)
              have hsz139 := szq hA139
              have hdf139 : A139.defers = [] := by rw [hA139]; simp only [df_put]; exact hdf135
              have l2_139 := lookE hA139 2 (es rfl l2_135)
              have l3_139 := lookE hA139 3 (es rfl l3_135)
              have l7_139 := lookE hA139 7 (es rfl l7_135)
              have l11_139 := lookE hA139 11 (es rfl l11_135)
              have l13_139 := lookE hA139 13 (et rfl)
              clear hA139 hsz135 hdf135 l2_135 l3_135 l7_135 l11_135 l117_135
              refine then_n (hK138 _ _ ?_)
              clear hK138
              refine wp_block ?_
              -- loop 26
              have hll2 := lvT_len (H_118.map ab) (wrR (O.map ab) rs a f)
              refine loopX (fun mz A' w' => SzN A' 161 ∧ A'.defers = [] ∧ (∃ (k : Nat), (mz = (lvT (H_118.map ab) (wrR (O.map ab) rs a f)).length - k) ∧ (k ≤ (lvT (H_118.map ab) (wrR (O.map ab) rs a f)).length) ∧ (EV A' (.tmp 13) = .int .i64 (k : Int)) ∧ (EV A' (.tmp 2) = EV A139 (.tmp 2)) ∧ (EV A' (.tmp 3) = EV A139 (.tmp 3)) ∧ (EV A' (.tmp 7) = EV A139 (.tmp 7)) ∧ (EV A' (.tmp 11) = EV A139 (.tmp 11)) ∧ (St w NoX [io .i64 v_131 (lvT (H_118.map ab) (wrR (O.map ab) rs a f)), io .i64 v_15 (lvT (O.map ab) rs), bx g2 25 #[ov, rv]] w'))) ((lvT (H_118.map ab) (wrR (O.map ab) rs a f)).length - 0) ⟨hsz139, hdf139, 0, rfl, (by omega), ((l13_139).trans (by first | rfl | (simp; done) | (congr 1; omega))), rfl, rfl, rfl, rfl, (by subst hc_131 hc_15 hc2; exact hS136)⟩ ?_
              clear hS136 hc_131 hc_15 hc2
              rintro n140 A140 w140 ⟨hsz140, hdf140, k, hm140, hk, l13_140, u2_140, u3_140, u7_140, u11_140, hS140⟩
              have l2_140 := u2_140.trans l2_139
              have l3_140 := u3_140.trans l3_139
              have l7_140 := u7_140.trans l7_139
              have l11_140 := u11_140.trans l11_139
              obtain ⟨c_140, c_140b, c2_140, hc_140, hc_140b, hc2_140, hS140⟩ := gen3 hS140
              refine wp_seq_k (fun K141 hK141 => ?_)
              refine wp_seq_k (fun K142 hK142 => ?_)
              refine region_in ?_
              refine W_v rfl rfl (V_mov rfl l13_140) ?_
              refine W_v rfl rfl (V_mov rfl (es rfl l11_140)) ?_
              refine W_v rfl rfl (V_lenS rfl (et rfl) (ow_at (hS140.chq 0 rfl hc_140)) Try.underlying23) ?_
              refine W_v rfl rfl (V_lss rfl (e2 rfl (et rfl)) (et rfl)) ?_
              refine W_end ?_
              refine gen_Q (fun A143 hA143 => ?_)
              have hsz143 := szq hA143
              have hdf143 : A143.defers = [] := by rw [hA143]; simp only [df_put]; exact hdf140
              have l2_143 := lookE hA143 2 (e3 rfl (es rfl l2_140))
              have l3_143 := lookE hA143 3 (e3 rfl (es rfl l3_140))
              have l7_143 := lookE hA143 7 (e3 rfl (es rfl l7_140))
              have l11_143 := lookE hA143 11 (e3 rfl (es rfl l11_140))
              have l13_143 := lookE hA143 13 (e3 rfl (es rfl l13_140))
              have l121_143 := lookE hA143 121 (et rfl)
              clear hA143 hsz140 hdf140 l13_140 l2_140 l3_140 l7_140 l11_140
              refine then_n (hK142 _ _ ?_)
              clear hK142
              refine cond_dec l121_143 (fun c144 => ?_) (fun c144 => ?_)
              · skip
                refine wp_skip ?_
                refine then_n (hK141 _ _ ?_)
                clear hK141
                refine wp_seq_k (fun K145 hK145 => ?_)
                refine wp_block ?_
                refine wp_seq_k (fun K146 hK146 => ?_)
                have k147 : k < (lvT (H_118.map ab) (wrR (O.map ab) rs a f)).length := by first | omega | (simp only [List.length_cons, List.length_nil]; omega) | (simp only [List.length_set]; omega)
                obtain ⟨y147, hy147⟩ := get_some (xs := (lvT (H_118.map ab) (wrR (O.map ab) rs a f))) (k := k) k147
                have hmm147 := hN.mem hg (by rw [← hH_118]; exact List.mem_of_getElem? hy147)
                refine region_monoS 23 23 [none, none, none, none, none, some (SPv [] (fun _ => fun u l' => u = .bool (decide (y147 ∈ (lvT (O.map ab) rs))) ∧ l' = []) 5)] (by kernel_rfl) (by kernel_rfl) ?_
                refine D_v rfl rfl (V_mov rfl l7_143) rfl rfl ?_
                refine D_v rfl rfl (V_mov rfl (es rfl l11_143)) rfl rfl ?_
                refine D_v rfl rfl (V_mov rfl (es rfl (es rfl l13_143))) rfl rfl ?_
                obtain ⟨B147, O147, C147, hv147⟩ := (SlN.blk (ow_at (hS140.chq 0 rfl hc_140)) (by first | omega | (simp only [List.length_cons, List.length_nil]; omega) | (simp only [List.length_set]; omega)))
                refine D_v rfl rfl (V_ixS (off := O147 + k) 1 (k) rfl (es rfl (et rfl)) (et rfl) hv147 (by omega) k147 Try.underlying23 (by kernel_rfl) (congrArg _ (Nat.mul_one _))) rfl rfl ?_
                refine D_r rfl rfl (by kernel_rfl) (fun sx hx hF => (VR_ldC rfl (et rfl) ((ow_at ((hS140.grow hx).chq 0 rfl hc_140)).cell hv147 (map_get hy147)) Try.underlying3 rfl)) rfl rfl ?_
                refine D_call (ts := []) (vs := []) (C0 := fun _ => fun u l' => u = .bool (decide (y147 ∈ (lvT (O.map ab) rs))) ∧ l' = []) (C := fun u l' => u = .bool (decide (y147 ∈ (lvT (O.map ab) rs))) ∧ l' = []) rfl rfl rfl Try.func22 (by kernel_rfl) rfl (args2 (e4 rfl (et rfl)) (et rfl)) rfl rfl rfl rfl (fun sx hx hF => ?_) (fun u148 l148 hu148 => ?_)
                · refine (has_c (x := y147) ((hS140.grow hx).chC 1 rfl hc_140b).own ).mono ?_
                  rintro _ _ ⟨rfl, hz⟩
                  exact ⟨_, rfl, _, ⟨rfl, rfl⟩, hz⟩
                obtain ⟨rfl, hl148⟩ := hu148
                refine D_v rfl rfl (V_notd rfl (et rfl)) rfl rfl ?_
                refine D_sure (c' := false) rfl rfl (V_mov rfl (et rfl)) (by rw [decide_eq_false_iff_not]; exact fun q => q (hmm147.resolve_right fun r => r.1)) rfl rfl ?_
                refine D_off rfl (wanted_f rfl rfl (et rfl) (ez rfl) rfl) rfl ?_
                refine D_off rfl (wanted_f rfl rfl (es rfl (et rfl)) (ez rfl) rfl) rfl ?_
                refine D_off rfl (wanted_f rfl rfl (e2 rfl (et rfl)) (ez rfl) rfl) rfl ?_
                refine D_off rfl (wanted_f rfl rfl (e3 rfl (et rfl)) (ez rfl) rfl) rfl ?_
                refine D_off rfl (wanted_u rfl rfl (et rfl) (ez rfl)) rfl ?_
                refine D_off rfl (wanted_u rfl rfl (es rfl (et rfl)) (ez rfl)) rfl ?_
                refine D_off rfl (wanted_u rfl rfl (e2 rfl (et rfl)) (ez rfl)) rfl ?_
                refine D_off rfl (wanted_u rfl rfl (e3 rfl (et rfl)) (ez rfl)) rfl ?_
                refine D_off rfl (wanted_u rfl rfl (e4 rfl (et rfl)) (ez rfl)) rfl ?_
                refine D_off rfl (wanted_u rfl rfl (e5 rfl (et rfl)) (ez rfl)) rfl ?_
                refine D_off rfl (wanted_u rfl rfl (e6 rfl (et rfl)) (ez rfl)) rfl ?_
                refine D_off rfl (wanted_u rfl rfl (e7 rfl (et rfl)) (ez rfl)) rfl ?_
                refine D_off rfl (wanted_u rfl rfl (e8 rfl (et rfl)) (ez rfl)) rfl ?_
                refine D_off rfl (wanted_f rfl rfl (e13 rfl (et rfl)) (ez rfl) rfl) rfl ?_
                refine D_v rfl rfl (V_pickF rfl (e14 rfl (et rfl)) rfl) rfl rfl ?_
                refine ZS_none hS140 (Nat.le_refl _) (Nat.le_refl _) (fun s149 hJ149 hL149 hF149 => ?_)
                obtain ⟨ll148, ws148, we148, ⟨hq148, hl148r⟩, hm148, k148, e148⟩ := L.all_get hF149; cases hq148; subst hl148r
                replace hJ149 := hJ149.add hL149 (i := 5) rfl hm148 k148 e148
                have hS149 := hJ149.st; clear hF149 hJ149 hL149
                generalize s149.1 = w149 at *
                replace hS149 : St w NoX [c_140, c_140b, c2_140] w149 := hS149
                refine gen_Q (fun A150 hA150 => ?_)
                have hsz150 := szq hA150
                have hdf150 : A150.defers = [] := by rw [hA150]; simp only [df_put]; exact hdf143
                have l2_150 := lookE hA150 2 (e22 rfl (es rfl l2_143))
                have l3_150 := lookE hA150 3 (e22 rfl (es rfl l3_143))
                have l7_150 := lookE hA150 7 (e22 rfl (es rfl l7_143))
                have l11_150 := lookE hA150 11 (e22 rfl (es rfl l11_143))
                have l13_150 := lookE hA150 13 (e22 rfl (es rfl l13_143))
                have l132_150 := lookE hA150 132 (e14 rfl (et rfl))
                have l133_150 := lookE hA150 133 (e13 rfl (et rfl))
                have l134_150 := lookE hA150 134 (e12 rfl (et rfl))
                have l135_150 := lookE hA150 135 (e11 rfl (et rfl))
                have l136_150 := lookE hA150 136 (e10 rfl (et rfl))
                have l137_150 := lookE hA150 137 (e9 rfl (et rfl))
                have l138_150 := lookE hA150 138 (e8 rfl (et rfl))
                have l139_150 := lookE hA150 139 (e7 rfl (et rfl))
                have l140_150 := lookE hA150 140 (e6 rfl (et rfl))
                have l141_150 := lookE hA150 141 (e5 rfl (et rfl))
                have l142_150 := lookE hA150 142 (e4 rfl (et rfl))
                have l143_150 := lookE hA150 143 (e3 rfl (et rfl))
                have l144_150 := lookE hA150 144 (e2 rfl (et rfl))
                have l145_150 := lookE hA150 145 (es rfl (et rfl))
                have l146_150 := lookE hA150 146 (et rfl)
                clear hA150 hsz143 hdf143 l2_143 l3_143 l7_143 l11_143 l13_143 l121_143
                refine then_n (hK146 _ _ ?_)
                clear hK146
                refine cond_f l146_150 ?_
                refine wp_skip ?_
                refine inb_n ?_
                refine then_n (hK145 _ _ ?_)
                clear hK145
                refine region_in ?_
                refine W_v rfl rfl (V_mov rfl l13_150) ?_
                refine W_v rfl rfl (V_add rfl (et rfl) rfl (by omega) (by omega)) ?_
                refine W_v rfl rfl (V_asg rfl (et rfl)) ?_
                refine W_end ?_
                refine gen_Q (fun A151 hA151 => ?_)
                have hsz151 := szq hA151
                have hdf151 : A151.defers = [] := by rw [hA151]; simp only [df_put]; exact hdf150
                have l2_151 := lookE hA151 2 (e2 rfl (es rfl l2_150))
                have l3_151 := lookE hA151 3 (e2 rfl (es rfl l3_150))
                have l7_151 := lookE hA151 7 (e2 rfl (es rfl l7_150))
                have l11_151 := lookE hA151 11 (e2 rfl (es rfl l11_150))
                have l13_151 := lookE hA151 13 (et rfl)
                have l132_151 := lookE hA151 132 (e2 rfl (es rfl l132_150))
                have l133_151 := lookE hA151 133 (e2 rfl (es rfl l133_150))
                have l134_151 := lookE hA151 134 (e2 rfl (es rfl l134_150))
                have l135_151 := lookE hA151 135 (e2 rfl (es rfl l135_150))
                have l136_151 := lookE hA151 136 (e2 rfl (es rfl l136_150))
                have l137_151 := lookE hA151 137 (e2 rfl (es rfl l137_150))
                have l138_151 := lookE hA151 138 (e2 rfl (es rfl l138_150))
                have l139_151 := lookE hA151 139 (e2 rfl (es rfl l139_150))
                have l140_151 := lookE hA151 140 (e2 rfl (es rfl l140_150))
                have l141_151 := lookE hA151 141 (e2 rfl (es rfl l141_150))
                have l142_151 := lookE hA151 142 (e2 rfl (es rfl l142_150))
                have l143_151 := lookE hA151 143 (e2 rfl (es rfl l143_150))
                have l144_151 := lookE hA151 144 (e2 rfl (es rfl l144_150))
                have l145_151 := lookE hA151 145 (e2 rfl (es rfl l145_150))
                clear hA151 hsz150 hdf150 l2_150 l3_150 l7_150 l11_150 l13_150 l132_150 l133_150 l134_150 l135_150 l136_150 l137_150 l138_150 l139_150 l140_150 l141_150 l142_150 l143_150 l144_150 l145_150 l146_150
                refine then_n ⟨(lvT (H_118.map ab) (wrR (O.map ab) rs a f)).length - (k + 1), by simp only [hm140]; omega, hsz151, hdf151, (k + 1), rfl, (by omega), ((l13_151).trans (by first | rfl | (simp; done) | (congr 1; omega))), ((l2_151).trans l2_139.symm), ((l3_151).trans l3_139.symm), ((l7_151).trans l7_139.symm), ((l11_151).trans l11_139.symm), (by subst hc_140 hc_140b hc2_140; exact hS149)⟩
              · skip
                refine wp_exit ?_
                refine then_exit ?_
                refine then_exit ?_
                refine inb_hit ?_
                refine then_n (hK137 _ _ ?_)
                clear hK137
                refine wp_seq_k (fun K152 hK152 => ?_)
                refine region_in ?_
                refine W_v rfl rfl (V_mov rfl l2_143) ?_
                refine W_v rfl rfl (V_rem rfl (et rfl) rfl (by omega) (by omega) (wrap_u8 (by omega) (by omega))) ?_
                refine W_v rfl rfl (V_neq rfl (et rfl) rfl) ?_
                refine W_sure (c' := true) rfl rfl (V_mov rfl (et rfl)) (by rw [decide_eq_true_eq]; omega) ?_
                refine W_off rfl (wanted_f rfl rfl (et rfl) (ez rfl) rfl) ?_
                refine W_off rfl (wanted_f rfl rfl (es rfl (et rfl)) (ez rfl) rfl) ?_
                refine W_off rfl (wanted_f rfl rfl (e2 rfl (et rfl)) (ez rfl) rfl) ?_
                refine W_off rfl (wanted_f rfl rfl (e3 rfl (et rfl)) (ez rfl) rfl) ?_
                refine W_off rfl (wanted_f rfl rfl (e4 rfl (et rfl)) (ez rfl) rfl) ?_
                refine W_off rfl (wanted_f rfl rfl (e5 rfl (et rfl)) (ez rfl) rfl) ?_
                refine W_v rfl rfl (V_pickT rfl (e6 rfl (et rfl)) rfl) ?_
                refine W_v rfl rfl (V_mov rfl (et rfl)) ?_
                refine W_call rfl (wanted_t rfl rfl (et rfl) (ez rfl)) rfl Try.func11 (by kernel_rfl) rfl (args0) (shown_c  ) ?_
                rintro _ w153 ⟨rfl, hP153⟩
                refine ⟨_, rfl, ?_⟩
                have hS153 := hS140.join hP153
                replace hS153 : St w NoX [c_140, c_140b, c2_140] w153 := hS153
                refine W_v rfl rfl (V_pickT rfl (es rfl (et rfl)) (et rfl)) ?_
                refine W_v rfl rfl (V_asg rfl (et rfl)) ?_
                refine W_end ?_
                refine gen_Q (fun A154 hA154 => ?_)
                have hsz154 := szq hA154
                have hdf154 : A154.defers = [] := by rw [hA154]; simp only [df_put]; exact hdf143
                have l6_154 := lookE hA154 6 (et rfl)
                clear hA154 hsz143 hdf143 l2_143 l3_143 l7_143 l11_143 l13_143 l121_143
                have hS155 : St w NoX [] w153 := hS153.sel [] (by decide) rfl
                refine then_n (hK152 _ _ ?_)
                clear hK152
                refine wp_ret ?_
                refine ret_in (results_1 Try.results9 (rv_tmp l6_154)) hdf154 ?_
                -- leaf FFFFTFF
                exact ⟨rfl, hS155.fin0⟩
          · skip
            refine wp_seq_k (fun K156 hK156 => ?_)
            refine region_in ?_
            refine W_v rfl rfl (V_eql rfl l26_116 rfl) ?_
            refine W_v rfl rfl (V_asg rfl (et rfl)) ?_
            refine W_end ?_
            refine gen_Q (fun A157 hA157 => ?_)
            have hsz157 := szq hA157
            have hdf157 : A157.defers = [] := by rw [hA157]; simp only [df_put]; exact hdf116
            have l2_157 := lookE hA157 2 (es rfl (es rfl l2_116))
            have l3_157 := lookE hA157 3 (es rfl (es rfl l3_116))
            have l4_157 := lookE hA157 4 (es rfl (es rfl l4_116))
            have l7_157 := lookE hA157 7 (es rfl (es rfl l7_116))
            have l9_157 := lookE hA157 9 (es rfl (es rfl l9_116))
            have l26_157 := lookE hA157 26 (es rfl (es rfl l26_116))
            have l73_157 := lookE hA157 73 (et rfl)
            clear hA157 hsz116 hdf116 l2_116 l3_116 l4_116 l7_116 l9_116 l26_116 l60_116
            refine then_n (hK156 _ _ ?_)
            clear hK156
            refine cond_dec l73_157 (fun c158 => ?_) (fun c158 => ?_)
            · skip
              refine region_in ?_
              refine W_r rfl rfl (VR_ldA rfl l3_157 (hS26.obj 3 rfl hc2) Try.underlying25 rfl (by kernel_rfl)) ?_
              refine W_v rfl rfl (V_fa (off' := 0) rfl (es rfl l4_157) Try.underlying49 rfl (by decide +kernel) rfl) ?_
              refine W_r rfl rfl (VR_ldC rfl (et rfl) (cell_box (v := .int .i64 (a)) (hS26.obj 2 rfl hc3) rfl) Try.underlying3 rfl) ?_
              refine W_v rfl rfl (V_fa (off' := 1) rfl (e2 rfl (es rfl l4_157)) Try.underlying49 rfl (by decide +kernel) rfl) ?_
              refine W_r rfl rfl (VR_ldC rfl (et rfl) (cell_box (v := .int .i64 (b)) (hS26.obj 2 rfl hc3) rfl) Try.underlying3 rfl) ?_
              refine W_call rfl rfl rfl Try.func41 (by kernel_rfl) rfl (args3 (e4 rfl (et rfl)) (e2 rfl (et rfl)) (et rfl)) (kMove_c (a := a) (b := b) (hS26.roC h_ov) (hS26.roC n_ov) (hS26.roC h_rv) (by first | with_reducible assumption)) ?_
              rintro _ w159 ⟨hv_159, H_159, qv_159, rfl, hH_159, hP159⟩
              refine ⟨_, rfl, ?_⟩
              obtain ⟨cR_159, cP_159, cQ_159, cG_159, hcR_159, hcP_159, hcQ_159, hcG_159, hP159⟩ := gen4 hP159
              have hS159 := hS26.join hP159
              replace hS159 : St w NoX [cR_159, cP_159, cQ_159, cG_159, c26, c_15, c3, c2] w159 := hS159
              refine W_v rfl rfl (V_mov rfl (et rfl)) ?_
              refine W_v rfl rfl (V_ext (v := .agg #[hv_159, qv_159]) rfl (et rfl) rfl) ?_
              refine W_v rfl rfl (V_ext (v := .int .i64 ((ckd (O.map ab) rs [a, b]))) rfl (es rfl (et rfl)) rfl) ?_
              refine W_stAS 4 hS159 rfl hc26 rfl rfl rfl (e8 rfl (es rfl l9_157)) (es rfl (et rfl)) (by simp only [List.all_toArray, List.all_cons, List.all_nil, SlN_one (ow_at (hS159.chq 0 rfl hcR_159)), SlN_one (ow_at (hS159.chq 3 rfl hcG_159))] <;> rfl) (by rfl) (by kernel_rfl) (fun w160 c160 hc160 hS160 => ?_)
              replace hS160 : St w NoX [cR_159, cP_159, cQ_159, cG_159, c160, c_15, c3, c2] w160 := hS160
              refine W_v rfl rfl (V_asg rfl (et rfl)) ?_
              refine W_end ?_
              refine gen_Q (fun A161 hA161 => ?_)
              have hsz161 := szq hA161
              have hdf161 : A161.defers = [] := by rw [hA161]; simp only [df_put]; exact hdf157
              have l2_161 := lookE hA161 2 (e9 rfl (es rfl l2_157))
              have l3_161 := lookE hA161 3 (e9 rfl (es rfl l3_157))
              have l7_161 := lookE hA161 7 (e9 rfl (es rfl l7_157))
              have l9_161 := lookE hA161 9 (e9 rfl (es rfl l9_157))
              have l10_161 := lookE hA161 10 (et rfl)
              clear hA161 hsz157 hdf157 l2_157 l3_157 l4_157 l7_157 l9_157 l26_157 l73_157
              have hS162 : St w NoX [cR_159, cP_159, cQ_159, cG_159, c160, c_15, c2] w160 := hS160.sel [0, 1, 2, 3, 4, 5, 7] (by decide) rfl
              refine inb_n ?_
              refine then_n (hK30 _ _ ?_)
              clear hK30
              refine wp_seq_k (fun K163 hK163 => ?_)
              refine wp_seq_k (fun K164 hK164 => ?_)
              refine region_in ?_
              refine W_v rfl rfl (V_mov rfl l10_161) ?_
              refine W_v rfl rfl (V_neq rfl (et rfl) rfl) ?_
              refine W_end ?_
              refine gen_Q (fun A165 hA165 => ?_)
              have hsz165 := szq hA165
              have hdf165 : A165.defers = [] := by rw [hA165]; simp only [df_put]; exact hdf161
              have l2_165 := lookE hA165 2 (es rfl (es rfl l2_161))
              have l3_165 := lookE hA165 3 (es rfl (es rfl l3_161))
              have l7_165 := lookE hA165 7 (es rfl (es rfl l7_161))
              have l9_165 := lookE hA165 9 (es rfl (es rfl l9_161))
              have l94_165 := lookE hA165 94 (et rfl)
              clear hA165 hsz161 hdf161 l2_161 l3_161 l7_161 l9_161 l10_161
              refine then_n (hK164 _ _ ?_)
              clear hK164
              refine cond_dec l94_165 (fun c166 => ?_) (fun c166 => ?_)
              · skip
                refine wp_seq_k (fun K167 hK167 => ?_)
                refine region_in ?_
                refine W_v rfl rfl (V_fa (off' := 1) rfl l9_165 Try.underlying25 rfl (by decide +kernel) rfl) ?_
                refine W_r rfl rfl (VR_ldC rfl (et rfl) (cell_box (v := qv_159) (hS162.obj 4 rfl hc160) rfl) Try.underlying23 rfl) ?_
                refine W_v rfl rfl (V_lenS rfl (et rfl) (ow_at (hS162.chq 3 rfl hcG_159)) Try.underlying23) ?_
                refine W_v rfl rfl (V_eql rfl (et rfl) rfl) ?_
                refine W_sure (c' := true) rfl rfl (V_mov rfl (et rfl)) (by rw [decide_eq_true_eq]; rw [(mv_e c166).2]; rfl) ?_
                refine W_call rfl (wanted_t rfl rfl (et rfl) (ez rfl)) rfl Try.func11 (by kernel_rfl) rfl (args0) (shown_c  ) ?_
                rintro _ w168 ⟨rfl, hP168⟩
                refine ⟨_, rfl, ?_⟩
                have hS168 := hS162.join hP168
                replace hS168 : St w NoX [cR_159, cP_159, cQ_159, cG_159, c160, c_15, c2] w168 := hS168
                refine W_v rfl rfl (V_pickT rfl (es rfl (et rfl)) (et rfl)) ?_
                refine W_v rfl rfl (V_asg rfl (et rfl)) ?_
                refine W_end ?_
                refine gen_Q (fun A169 hA169 => ?_)
                have hsz169 := szq hA169
                have hdf169 : A169.defers = [] := by rw [hA169]; simp only [df_put]; exact hdf165
                have l6_169 := lookE hA169 6 (et rfl)
                clear hA169 hsz165 hdf165 l2_165 l3_165 l7_165 l9_165 l94_165
                have hS170 : St w NoX [] w168 := hS168.sel [] (by decide) rfl
                refine then_n (hK167 _ _ ?_)
                clear hK167
                refine wp_ret ?_
                refine then_ret ?_
                refine ret_in (results_1 Try.results9 (rv_tmp l6_169)) hdf169 ?_
                -- leaf FFFFFTT
                exact ⟨rfl, hS170.fin0⟩
              · skip
                have hN := nx_move (by simpa using c166)
                have hsm_n : SM (H_159.map ab) := by rw [hH_159]; exact hN.sm hsm
                have hlN := hN.len
                rw [← hH_159, List.length_map, List.length_map] at hlN
                have hll := lvT_len (H_159.map ab) rs
                refine wp_skip ?_
                refine then_n (hK163 _ _ ?_)
                clear hK163
                refine wp_seq_k (fun K171 hK171 => ?_)
                refine region_in ?_
                refine W_r rfl rfl (VR_ldA rfl l9_165 (hS162.obj 4 rfl hc160) Try.underlying25 rfl (by kernel_rfl)) ?_
                refine W_call rfl rfl rfl Try.func17 (by kernel_rfl) rfl (args1 (et rfl)) (kLv_c (hS162.chC 0 rfl hcR_159).own (nst_of (hS162.chC 1 rfl hcP_159) (hS162.chC 2 rfl hcQ_159)) (hS162.chC 3 rfl hcG_159).own (by first | with_reducible assumption)) ?_
                rintro _ w172 ⟨v_172, rfl, hP172⟩
                refine ⟨_, rfl, ?_⟩
                obtain ⟨c_172, hc_172, hP172⟩ := gen1 hP172
                have hS172 := hS162.join hP172
                replace hS172 : St w NoX [c_172, cR_159, cP_159, cQ_159, cG_159, c160, c_15, c2] w172 := hS172
                refine W_v rfl rfl (V_mov rfl (et rfl)) ?_
                refine W_v rfl rfl (V_ext (v := v_172) rfl (et rfl) rfl) ?_
                refine W_v rfl rfl (V_ext (v := .int .i64 ((ckG (H_159.map ab) (mvR (O.map ab) rs a b)).2)) rfl (es rfl (et rfl)) rfl) ?_
                refine W_v rfl rfl (V_asg rfl (es rfl (et rfl))) ?_
                refine W_v rfl rfl (V_asg rfl (es rfl (et rfl))) ?_
                refine W_end ?_
                refine gen_Q (fun A173 hA173 => ?_)
                have hsz173 := szq hA173
                have hdf173 : A173.defers = [] := by rw [hA173]; simp only [df_put]; exact hdf165
                have l2_173 := lookE hA173 2 (e6 rfl (es rfl l2_165))
                have l3_173 := lookE hA173 3 (e6 rfl (es rfl l3_165))
                have l7_173 := lookE hA173 7 (e6 rfl (es rfl l7_165))
                have l9_173 := lookE hA173 9 (e6 rfl (es rfl l9_165))
                have l11_173 := lookE hA173 11 (es rfl (et rfl))
                have l12_173 := lookE hA173 12 (et rfl)
                clear hA173 hsz165 hdf165 l2_165 l3_165 l7_165 l9_165 l94_165
                refine then_n (hK171 _ _ ?_)
                clear hK171
                refine wp_seq_k (fun K174 hK174 => ?_)
                refine wp_seq_k (fun K175 hK175 => ?_)
                refine region_in ?_
                refine W_v rfl rfl (V_mov rfl l12_173) ?_
                refine W_v rfl rfl (V_neq rfl (et rfl) rfl) ?_
                refine W_sure (c' := false) rfl rfl (V_mov rfl (et rfl)) (by rw [decide_eq_false_iff_not]; simp only [hH_159]; exact fun q => q (ckG_iff.2 hN.gg)) ?_
                refine W_v rfl (wanted_t rfl rfl (et rfl) (ez rfl)) (V_fa (off' := 0) rfl (e2 rfl (es rfl l9_173)) Try.underlying25 rfl (by decide +kernel) rfl) ?_
                refine W_r rfl (wanted_t rfl rfl (es rfl (et rfl)) (ez rfl)) (VR_ldC rfl (et rfl) (cell_box (v := hv_159) (hS172.obj 5 rfl hc160) rfl) Try.underlying22 rfl) ?_
                refine W_v rfl (wanted_t rfl rfl (e2 rfl (et rfl)) (ez rfl)) (V_lenS rfl (et rfl) (ow_at (hS172.chq 1 rfl hcR_159)) Try.underlying22) ?_
                refine W_v rfl (wanted_t rfl rfl (e3 rfl (et rfl)) (ez rfl)) (V_fa (off' := 0) rfl (e5 rfl (es rfl l3_173)) Try.underlying25 rfl (by decide +kernel) rfl) ?_
                refine W_r rfl (wanted_t rfl rfl (e4 rfl (et rfl)) (ez rfl)) (VR_ldC rfl (et rfl) (cell_box (v := ov) (hS172.obj 7 rfl hc2) rfl) Try.underlying22 rfl) ?_
                refine W_v rfl (wanted_t rfl rfl (e5 rfl (et rfl)) (ez rfl)) (V_lenS rfl (et rfl) (sl_SlN h_ov.at) Try.underlying22) ?_
                refine W_v rfl (wanted_t rfl rfl (e6 rfl (et rfl)) (ez rfl)) (V_lss rfl (e3 rfl (et rfl)) (et rfl)) ?_
                refine W_v rfl rfl (V_pickF rfl (e7 rfl (et rfl)) (et rfl)) ?_
                refine W_end ?_
                refine gen_Q (fun A176 hA176 => ?_)
                have hsz176 := szq hA176
                have hdf176 : A176.defers = [] := by rw [hA176]; simp only [df_put]; exact hdf173
                have l2_176 := lookE hA176 2 (e10 rfl (es rfl l2_173))
                have l3_176 := lookE hA176 3 (e10 rfl (es rfl l3_173))
                have l7_176 := lookE hA176 7 (e10 rfl (es rfl l7_173))
                have l11_176 := lookE hA176 11 (e10 rfl (es rfl l11_173))
                have l117_176 := lookE hA176 117 (et rfl)
                clear hA176 hsz173 hdf173 l2_173 l3_173 l7_173 l9_173 l11_173 l12_173
                have hS177 : St w NoX [c_172, c_15, c2] w172 := hS172.sel [0, 6, 7] (by decide) rfl
                refine then_n (hK175 _ _ ?_)
                clear hK175
                refine cond_not l117_176 (by rw [decide_eq_false_iff_not]; omega) ?_
                refine wp_skip ?_
                refine then_n (hK174 _ _ ?_)
                clear hK174
                refine wp_seq_k (fun K178 hK178 => ?_)
                refine wp_seq_k (fun K179 hK179 => ?_)
                refine region_in ?_
                refine W_v rfl rfl (V_asg rfl rfl) ?_
                refine W_end ?_
                refine gen_Q (fun A180 hA180 => ?_)
                have hsz180 := szq hA180
                have hdf180 : A180.defers = [] := by rw [hA180]; simp only [df_put]; exact hdf176
                have l2_180 := lookE hA180 2 (es rfl l2_176)
                have l3_180 := lookE hA180 3 (es rfl l3_176)
                have l7_180 := lookE hA180 7 (es rfl l7_176)
                have l11_180 := lookE hA180 11 (es rfl l11_176)
                have l13_180 := lookE hA180 13 (et rfl)
                clear hA180 hsz176 hdf176 l2_176 l3_176 l7_176 l11_176 l117_176
                refine then_n (hK179 _ _ ?_)
                clear hK179
                refine wp_block ?_
                -- loop 26
                have hll2 := lvT_len (H_159.map ab) (mvR (O.map ab) rs a b)
                refine loopX (fun mz A' w' => SzN A' 161 ∧ A'.defers = [] ∧ (∃ (k : Nat), (mz = (lvT (H_159.map ab) (mvR (O.map ab) rs a b)).length - k) ∧ (k ≤ (lvT (H_159.map ab) (mvR (O.map ab) rs a b)).length) ∧ (EV A' (.tmp 13) = .int .i64 (k : Int)) ∧ (EV A' (.tmp 2) = EV A180 (.tmp 2)) ∧ (EV A' (.tmp 3) = EV A180 (.tmp 3)) ∧ (EV A' (.tmp 7) = EV A180 (.tmp 7)) ∧ (EV A' (.tmp 11) = EV A180 (.tmp 11)) ∧ (St w NoX [io .i64 v_172 (lvT (H_159.map ab) (mvR (O.map ab) rs a b)), io .i64 v_15 (lvT (O.map ab) rs), bx g2 25 #[ov, rv]] w'))) ((lvT (H_159.map ab) (mvR (O.map ab) rs a b)).length - 0) ⟨hsz180, hdf180, 0, rfl, (by omega), ((l13_180).trans (by first | rfl | (simp; done) | (congr 1; omega))), rfl, rfl, rfl, rfl, (by subst hc_172 hc_15 hc2; exact hS177)⟩ ?_
                clear hS177 hc_172 hc_15 hc2
                rintro n181 A181 w181 ⟨hsz181, hdf181, k, hm181, hk, l13_181, u2_181, u3_181, u7_181, u11_181, hS181⟩
                have l2_181 := u2_181.trans l2_180
                have l3_181 := u3_181.trans l3_180
                have l7_181 := u7_181.trans l7_180
                have l11_181 := u11_181.trans l11_180
                obtain ⟨c_181, c_181b, c2_181, hc_181, hc_181b, hc2_181, hS181⟩ := gen3 hS181
                refine wp_seq_k (fun K182 hK182 => ?_)
                refine wp_seq_k (fun K183 hK183 => ?_)
                refine region_in ?_
                refine W_v rfl rfl (V_mov rfl l13_181) ?_
                refine W_v rfl rfl (V_mov rfl (es rfl l11_181)) ?_
                refine W_v rfl rfl (V_lenS rfl (et rfl) (ow_at (hS181.chq 0 rfl hc_181)) Try.underlying23) ?_
                refine W_v rfl rfl (V_lss rfl (e2 rfl (et rfl)) (et rfl)) ?_
                refine W_end ?_
                refine gen_Q (fun A184 hA184 => ?_)
                have hsz184 := szq hA184
                have hdf184 : A184.defers = [] := by rw [hA184]; simp only [df_put]; exact hdf181
                have l2_184 := lookE hA184 2 (e3 rfl (es rfl l2_181))
                have l3_184 := lookE hA184 3 (e3 rfl (es rfl l3_181))
                have l7_184 := lookE hA184 7 (e3 rfl (es rfl l7_181))
                have l11_184 := lookE hA184 11 (e3 rfl (es rfl l11_181))
                have l13_184 := lookE hA184 13 (e3 rfl (es rfl l13_181))
                have l121_184 := lookE hA184 121 (et rfl)
                clear hA184 hsz181 hdf181 l13_181 l2_181 l3_181 l7_181 l11_181
                refine then_n (hK183 _ _ ?_)
                clear hK183
                refine cond_dec l121_184 (fun c185 => ?_) (fun c185 => ?_)
                · skip
                  refine wp_skip ?_
                  refine then_n (hK182 _ _ ?_)
                  clear hK182
                  refine wp_seq_k (fun K186 hK186 => ?_)
                  refine wp_block ?_
                  refine wp_seq_k (fun K187 hK187 => ?_)
                  have k188 : k < (lvT (H_159.map ab) (mvR (O.map ab) rs a b)).length := by first | omega | (simp only [List.length_cons, List.length_nil]; omega) | (simp only [List.length_set]; omega)
                  obtain ⟨y188, hy188⟩ := get_some (xs := (lvT (H_159.map ab) (mvR (O.map ab) rs a b))) (k := k) k188
                  have hmm188 := hN.mem hg (by rw [← hH_159]; exact List.mem_of_getElem? hy188)
                  refine region_monoS 23 23 [none, none, none, none, none, some (SPv [] (fun _ => fun u l' => u = .bool (decide (y188 ∈ (lvT (O.map ab) rs))) ∧ l' = []) 5)] (by kernel_rfl) (by kernel_rfl) ?_
                  refine D_v rfl rfl (V_mov rfl l7_184) rfl rfl ?_
                  refine D_v rfl rfl (V_mov rfl (es rfl l11_184)) rfl rfl ?_
                  refine D_v rfl rfl (V_mov rfl (es rfl (es rfl l13_184))) rfl rfl ?_
                  obtain ⟨B188, O188, C188, hv188⟩ := (SlN.blk (ow_at (hS181.chq 0 rfl hc_181)) (by first | omega | (simp only [List.length_cons, List.length_nil]; omega) | (simp only [List.length_set]; omega)))
                  refine D_v rfl rfl (V_ixS (off := O188 + k) 1 (k) rfl (es rfl (et rfl)) (et rfl) hv188 (by omega) k188 Try.underlying23 (by kernel_rfl) (congrArg _ (Nat.mul_one _))) rfl rfl ?_
                  refine D_r rfl rfl (by kernel_rfl) (fun sx hx hF => (VR_ldC rfl (et rfl) ((ow_at ((hS181.grow hx).chq 0 rfl hc_181)).cell hv188 (map_get hy188)) Try.underlying3 rfl)) rfl rfl ?_
                  refine D_call (ts := []) (vs := []) (C0 := fun _ => fun u l' => u = .bool (decide (y188 ∈ (lvT (O.map ab) rs))) ∧ l' = []) (C := fun u l' => u = .bool (decide (y188 ∈ (lvT (O.map ab) rs))) ∧ l' = []) rfl rfl rfl Try.func22 (by kernel_rfl) rfl (args2 (e4 rfl (et rfl)) (et rfl)) rfl rfl rfl rfl (fun sx hx hF => ?_) (fun u189 l189 hu189 => ?_)
                  · refine (has_c (x := y188) ((hS181.grow hx).chC 1 rfl hc_181b).own ).mono ?_
                    rintro _ _ ⟨rfl, hz⟩
                    exact ⟨_, rfl, _, ⟨rfl, rfl⟩, hz⟩
                  obtain ⟨rfl, hl189⟩ := hu189
                  refine D_v rfl rfl (V_notd rfl (et rfl)) rfl rfl ?_
                  refine D_sure (c' := false) rfl rfl (V_mov rfl (et rfl)) (by rw [decide_eq_false_iff_not]; exact fun q => q (hmm188.resolve_right fun r => r.1)) rfl rfl ?_
                  refine D_off rfl (wanted_f rfl rfl (et rfl) (ez rfl) rfl) rfl ?_
                  refine D_off rfl (wanted_f rfl rfl (es rfl (et rfl)) (ez rfl) rfl) rfl ?_
                  refine D_off rfl (wanted_f rfl rfl (e2 rfl (et rfl)) (ez rfl) rfl) rfl ?_
                  refine D_off rfl (wanted_f rfl rfl (e3 rfl (et rfl)) (ez rfl) rfl) rfl ?_
                  refine D_off rfl (wanted_u rfl rfl (et rfl) (ez rfl)) rfl ?_
                  refine D_off rfl (wanted_u rfl rfl (es rfl (et rfl)) (ez rfl)) rfl ?_
                  refine D_off rfl (wanted_u rfl rfl (e2 rfl (et rfl)) (ez rfl)) rfl ?_
                  refine D_off rfl (wanted_u rfl rfl (e3 rfl (et rfl)) (ez rfl)) rfl ?_
                  refine D_off rfl (wanted_u rfl rfl (e4 rfl (et rfl)) (ez rfl)) rfl ?_
                  refine D_off rfl (wanted_u rfl rfl (e5 rfl (et rfl)) (ez rfl)) rfl ?_
                  refine D_off rfl (wanted_u rfl rfl (e6 rfl (et rfl)) (ez rfl)) rfl ?_
                  refine D_off rfl (wanted_u rfl rfl (e7 rfl (et rfl)) (ez rfl)) rfl ?_
                  refine D_off rfl (wanted_u rfl rfl (e8 rfl (et rfl)) (ez rfl)) rfl ?_
                  refine D_off rfl (wanted_f rfl rfl (e13 rfl (et rfl)) (ez rfl) rfl) rfl ?_
                  refine D_v rfl rfl (V_pickF rfl (e14 rfl (et rfl)) rfl) rfl rfl ?_
                  refine ZS_none hS181 (Nat.le_refl _) (Nat.le_refl _) (fun s190 hJ190 hL190 hF190 => ?_)
                  obtain ⟨ll189, ws189, we189, ⟨hq189, hl189r⟩, hm189, k189, e189⟩ := L.all_get hF190; cases hq189; subst hl189r
                  replace hJ190 := hJ190.add hL190 (i := 5) rfl hm189 k189 e189
                  have hS190 := hJ190.st; clear hF190 hJ190 hL190
                  generalize s190.1 = w190 at *
                  replace hS190 : St w NoX [c_181, c_181b, c2_181] w190 := hS190
                  refine gen_Q (fun A191 hA191 => ?_)
                  have hsz191 := szq hA191
                  have hdf191 : A191.defers = [] := by rw [hA191]; simp only [df_put]; exact hdf184
                  have l2_191 := lookE hA191 2 (e22 rfl (es rfl l2_184))
                  have l3_191 := lookE hA191 3 (e22 rfl (es rfl l3_184))
                  have l7_191 := lookE hA191 7 (e22 rfl (es rfl l7_184))
                  have l11_191 := lookE hA191 11 (e22 rfl (es rfl l11_184))
                  have l13_191 := lookE hA191 13 (e22 rfl (es rfl l13_184))
                  have l132_191 := lookE hA191 132 (e14 rfl (et rfl))
                  have l133_191 := lookE hA191 133 (e13 rfl (et rfl))
                  have l134_191 := lookE hA191 134 (e12 rfl (et rfl))
                  have l135_191 := lookE hA191 135 (e11 rfl (et rfl))
                  have l136_191 := lookE hA191 136 (e10 rfl (et rfl))
                  have l137_191 := lookE hA191 137 (e9 rfl (et rfl))
                  have l138_191 := lookE hA191 138 (e8 rfl (et rfl))
                  have l139_191 := lookE hA191 139 (e7 rfl (et rfl))
                  have l140_191 := lookE hA191 140 (e6 rfl (et rfl))
                  have l141_191 := lookE hA191 141 (e5 rfl (et rfl))
                  have l142_191 := lookE hA191 142 (e4 rfl (et rfl))
                  have l143_191 := lookE hA191 143 (e3 rfl (et rfl))
                  have l144_191 := lookE hA191 144 (e2 rfl (et rfl))
                  have l145_191 := lookE hA191 145 (es rfl (et rfl))
                  have l146_191 := lookE hA191 146 (et rfl)
                  clear hA191 hsz184 hdf184 l2_184 l3_184 l7_184 l11_184 l13_184 l121_184
                  refine then_n (hK187 _ _ ?_)
                  clear hK187
                  refine cond_f l146_191 ?_
                  refine wp_skip ?_
                  refine inb_n ?_
                  refine then_n (hK186 _ _ ?_)
                  clear hK186
                  refine region_in ?_
                  refine W_v rfl rfl (V_mov rfl l13_191) ?_
                  refine W_v rfl rfl (V_add rfl (et rfl) rfl (by omega) (by omega)) ?_
                  refine W_v rfl rfl (V_asg rfl (et rfl)) ?_
                  refine W_end ?_
                  refine gen_Q (fun A192 hA192 => ?_)
                  have hsz192 := szq hA192
                  have hdf192 : A192.defers = [] := by rw [hA192]; simp only [df_put]; exact hdf191
                  have l2_192 := lookE hA192 2 (e2 rfl (es rfl l2_191))
                  have l3_192 := lookE hA192 3 (e2 rfl (es rfl l3_191))
                  have l7_192 := lookE hA192 7 (e2 rfl (es rfl l7_191))
                  have l11_192 := lookE hA192 11 (e2 rfl (es rfl l11_191))
                  have l13_192 := lookE hA192 13 (et rfl)
                  have l132_192 := lookE hA192 132 (e2 rfl (es rfl l132_191))
                  have l133_192 := lookE hA192 133 (e2 rfl (es rfl l133_191))
                  have l134_192 := lookE hA192 134 (e2 rfl (es rfl l134_191))
                  have l135_192 := lookE hA192 135 (e2 rfl (es rfl l135_191))
                  have l136_192 := lookE hA192 136 (e2 rfl (es rfl l136_191))
                  have l137_192 := lookE hA192 137 (e2 rfl (es rfl l137_191))
                  have l138_192 := lookE hA192 138 (e2 rfl (es rfl l138_191))
                  have l139_192 := lookE hA192 139 (e2 rfl (es rfl l139_191))
                  have l140_192 := lookE hA192 140 (e2 rfl (es rfl l140_191))
                  have l141_192 := lookE hA192 141 (e2 rfl (es rfl l141_191))
                  have l142_192 := lookE hA192 142 (e2 rfl (es rfl l142_191))
                  have l143_192 := lookE hA192 143 (e2 rfl (es rfl l143_191))
                  have l144_192 := lookE hA192 144 (e2 rfl (es rfl l144_191))
                  have l145_192 := lookE hA192 145 (e2 rfl (es rfl l145_191))
                  clear hA192 hsz191 hdf191 l2_191 l3_191 l7_191 l11_191 l13_191 l132_191 l133_191 l134_191 l135_191 l136_191 l137_191 l138_191 l139_191 l140_191 l141_191 l142_191 l143_191 l144_191 l145_191 l146_191
                  refine then_n ⟨(lvT (H_159.map ab) (mvR (O.map ab) rs a b)).length - (k + 1), by simp only [hm181]; omega, hsz192, hdf192, (k + 1), rfl, (by omega), ((l13_192).trans (by first | rfl | (simp; done) | (congr 1; omega))), ((l2_192).trans l2_180.symm), ((l3_192).trans l3_180.symm), ((l7_192).trans l7_180.symm), ((l11_192).trans l11_180.symm), (by subst hc_181 hc_181b hc2_181; exact hS190)⟩
                · skip
                  refine wp_exit ?_
                  refine then_exit ?_
                  refine then_exit ?_
                  refine inb_hit ?_
                  refine then_n (hK178 _ _ ?_)
                  clear hK178
                  refine wp_seq_k (fun K193 hK193 => ?_)
                  refine region_in ?_
                  refine W_v rfl rfl (V_mov rfl l2_184) ?_
                  refine W_v rfl rfl (V_rem rfl (et rfl) rfl (by omega) (by omega) (wrap_u8 (by omega) (by omega))) ?_
                  refine W_v rfl rfl (V_neq rfl (et rfl) rfl) ?_
                  refine W_sure (c' := true) rfl rfl (V_mov rfl (et rfl)) (by rw [decide_eq_true_eq]; omega) ?_
                  refine W_off rfl (wanted_f rfl rfl (et rfl) (ez rfl) rfl) ?_
                  refine W_off rfl (wanted_f rfl rfl (es rfl (et rfl)) (ez rfl) rfl) ?_
                  refine W_off rfl (wanted_f rfl rfl (e2 rfl (et rfl)) (ez rfl) rfl) ?_
                  refine W_off rfl (wanted_f rfl rfl (e3 rfl (et rfl)) (ez rfl) rfl) ?_
                  refine W_off rfl (wanted_f rfl rfl (e4 rfl (et rfl)) (ez rfl) rfl) ?_
                  refine W_off rfl (wanted_f rfl rfl (e5 rfl (et rfl)) (ez rfl) rfl) ?_
                  refine W_v rfl rfl (V_pickT rfl (e6 rfl (et rfl)) rfl) ?_
                  refine W_v rfl rfl (V_mov rfl (et rfl)) ?_
                  refine W_call rfl (wanted_t rfl rfl (et rfl) (ez rfl)) rfl Try.func11 (by kernel_rfl) rfl (args0) (shown_c  ) ?_
                  rintro _ w194 ⟨rfl, hP194⟩
                  refine ⟨_, rfl, ?_⟩
                  have hS194 := hS181.join hP194
                  replace hS194 : St w NoX [c_181, c_181b, c2_181] w194 := hS194
                  refine W_v rfl rfl (V_pickT rfl (es rfl (et rfl)) (et rfl)) ?_
                  refine W_v rfl rfl (V_asg rfl (et rfl)) ?_
                  refine W_end ?_
                  refine gen_Q (fun A195 hA195 => ?_)
                  have hsz195 := szq hA195
                  have hdf195 : A195.defers = [] := by rw [hA195]; simp only [df_put]; exact hdf184
                  have l6_195 := lookE hA195 6 (et rfl)
                  clear hA195 hsz184 hdf184 l2_184 l3_184 l7_184 l11_184 l13_184 l121_184
                  have hS196 : St w NoX [] w194 := hS194.sel [] (by decide) rfl
                  refine then_n (hK193 _ _ ?_)
                  clear hK193
                  refine wp_ret ?_
                  refine ret_in (results_1 Try.results9 (rv_tmp l6_195)) hdf195 ?_
                  -- leaf FFFFFTFF
                  exact ⟨rfl, hS196.fin0⟩
            · skip
              refine wp_seq_k (fun K197 hK197 => ?_)
              refine region_in ?_
              refine W_v rfl rfl (V_eql rfl l26_157 rfl) ?_
              refine W_v rfl rfl (V_asg rfl (et rfl)) ?_
              refine W_end ?_
              refine gen_Q (fun A198 hA198 => ?_)
              have hsz198 := szq hA198
              have hdf198 : A198.defers = [] := by rw [hA198]; simp only [df_put]; exact hdf157
              have l2_198 := lookE hA198 2 (es rfl (es rfl l2_157))
              have l3_198 := lookE hA198 3 (es rfl (es rfl l3_157))
              have l4_198 := lookE hA198 4 (es rfl (es rfl l4_157))
              have l7_198 := lookE hA198 7 (es rfl (es rfl l7_157))
              have l9_198 := lookE hA198 9 (es rfl (es rfl l9_157))
              have l84_198 := lookE hA198 84 (et rfl)
              clear hA198 hsz157 hdf157 l2_157 l3_157 l4_157 l7_157 l9_157 l26_157 l73_157
              refine then_n (hK197 _ _ ?_)
              clear hK197
              refine cond_dec l84_198 (fun c199 => ?_) (fun c199 => ?_)
              · skip
                refine region_in ?_
                refine W_r rfl rfl (VR_ldA rfl l3_198 (hS26.obj 3 rfl hc2) Try.underlying25 rfl (by kernel_rfl)) ?_
                refine W_v rfl rfl (V_fa (off' := 0) rfl (es rfl l4_198) Try.underlying49 rfl (by decide +kernel) rfl) ?_
                refine W_r rfl rfl (VR_ldC rfl (et rfl) (cell_box (v := .int .i64 (a)) (hS26.obj 2 rfl hc3) rfl) Try.underlying3 rfl) ?_
                refine W_call rfl rfl rfl Try.func24 (by kernel_rfl) rfl (args2 (e2 rfl (et rfl)) (et rfl)) (kClear_c (a := a) (hS26.roC h_ov) (hS26.roC n_ov) (hS26.roC h_rv) (by first | with_reducible assumption)) ?_
                rintro _ w200 ⟨hv_200, H_200, qv_200, rfl, hH_200, hP200⟩
                refine ⟨_, rfl, ?_⟩
                obtain ⟨cR_200, cP_200, cQ_200, cG_200, hcR_200, hcP_200, hcQ_200, hcG_200, hP200⟩ := gen4 hP200
                have hS200 := hS26.join hP200
                replace hS200 : St w NoX [cR_200, cP_200, cQ_200, cG_200, c26, c_15, c3, c2] w200 := hS200
                refine W_v rfl rfl (V_mov rfl (et rfl)) ?_
                refine W_v rfl rfl (V_ext (v := .agg #[hv_200, qv_200]) rfl (et rfl) rfl) ?_
                refine W_v rfl rfl (V_ext (v := .int .i64 ((ckd (O.map ab) rs [a]))) rfl (es rfl (et rfl)) rfl) ?_
                refine W_stAS 4 hS200 rfl hc26 rfl rfl rfl (e6 rfl (es rfl l9_198)) (es rfl (et rfl)) (by simp only [List.all_toArray, List.all_cons, List.all_nil, SlN_one (ow_at (hS200.chq 0 rfl hcR_200)), SlN_one (ow_at (hS200.chq 3 rfl hcG_200))] <;> rfl) (by rfl) (by kernel_rfl) (fun w201 c201 hc201 hS201 => ?_)
                replace hS201 : St w NoX [cR_200, cP_200, cQ_200, cG_200, c201, c_15, c3, c2] w201 := hS201
                refine W_v rfl rfl (V_asg rfl (et rfl)) ?_
                refine W_end ?_
                refine gen_Q (fun A202 hA202 => ?_)
                have hsz202 := szq hA202
                have hdf202 : A202.defers = [] := by rw [hA202]; simp only [df_put]; exact hdf198
                have l2_202 := lookE hA202 2 (e7 rfl (es rfl l2_198))
                have l3_202 := lookE hA202 3 (e7 rfl (es rfl l3_198))
                have l7_202 := lookE hA202 7 (e7 rfl (es rfl l7_198))
                have l9_202 := lookE hA202 9 (e7 rfl (es rfl l9_198))
                have l10_202 := lookE hA202 10 (et rfl)
                clear hA202 hsz198 hdf198 l2_198 l3_198 l4_198 l7_198 l9_198 l84_198
                have hS203 : St w NoX [cR_200, cP_200, cQ_200, cG_200, c201, c_15, c2] w201 := hS201.sel [0, 1, 2, 3, 4, 5, 7] (by decide) rfl
                refine inb_n ?_
                refine then_n (hK30 _ _ ?_)
                clear hK30
                refine wp_seq_k (fun K204 hK204 => ?_)
                refine wp_seq_k (fun K205 hK205 => ?_)
                refine region_in ?_
                refine W_v rfl rfl (V_mov rfl l10_202) ?_
                refine W_v rfl rfl (V_neq rfl (et rfl) rfl) ?_
                refine W_end ?_
                refine gen_Q (fun A206 hA206 => ?_)
                have hsz206 := szq hA206
                have hdf206 : A206.defers = [] := by rw [hA206]; simp only [df_put]; exact hdf202
                have l2_206 := lookE hA206 2 (es rfl (es rfl l2_202))
                have l3_206 := lookE hA206 3 (es rfl (es rfl l3_202))
                have l7_206 := lookE hA206 7 (es rfl (es rfl l7_202))
                have l9_206 := lookE hA206 9 (es rfl (es rfl l9_202))
                have l94_206 := lookE hA206 94 (et rfl)
                clear hA206 hsz202 hdf202 l2_202 l3_202 l7_202 l9_202 l10_202
                refine then_n (hK205 _ _ ?_)
                clear hK205
                refine cond_dec l94_206 (fun c207 => ?_) (fun c207 => ?_)
                · skip
                  refine wp_seq_k (fun K208 hK208 => ?_)
                  refine region_in ?_
                  refine W_v rfl rfl (V_fa (off' := 1) rfl l9_206 Try.underlying25 rfl (by decide +kernel) rfl) ?_
                  refine W_r rfl rfl (VR_ldC rfl (et rfl) (cell_box (v := qv_200) (hS203.obj 4 rfl hc201) rfl) Try.underlying23 rfl) ?_
                  refine W_v rfl rfl (V_lenS rfl (et rfl) (ow_at (hS203.chq 3 rfl hcG_200)) Try.underlying23) ?_
                  refine W_v rfl rfl (V_eql rfl (et rfl) rfl) ?_
                  refine W_sure (c' := true) rfl rfl (V_mov rfl (et rfl)) (by rw [decide_eq_true_eq]; rw [(cl_e c207).2]; rfl) ?_
                  refine W_call rfl (wanted_t rfl rfl (et rfl) (ez rfl)) rfl Try.func11 (by kernel_rfl) rfl (args0) (shown_c  ) ?_
                  rintro _ w209 ⟨rfl, hP209⟩
                  refine ⟨_, rfl, ?_⟩
                  have hS209 := hS203.join hP209
                  replace hS209 : St w NoX [cR_200, cP_200, cQ_200, cG_200, c201, c_15, c2] w209 := hS209
                  refine W_v rfl rfl (V_pickT rfl (es rfl (et rfl)) (et rfl)) ?_
                  refine W_v rfl rfl (V_asg rfl (et rfl)) ?_
                  refine W_end ?_
                  refine gen_Q (fun A210 hA210 => ?_)
                  have hsz210 := szq hA210
                  have hdf210 : A210.defers = [] := by rw [hA210]; simp only [df_put]; exact hdf206
                  have l6_210 := lookE hA210 6 (et rfl)
                  clear hA210 hsz206 hdf206 l2_206 l3_206 l7_206 l9_206 l94_206
                  have hS211 : St w NoX [] w209 := hS209.sel [] (by decide) rfl
                  refine then_n (hK208 _ _ ?_)
                  clear hK208
                  refine wp_ret ?_
                  refine then_ret ?_
                  refine ret_in (results_1 Try.results9 (rv_tmp l6_210)) hdf210 ?_
                  -- leaf FFFFFFTT
                  exact ⟨rfl, hS211.fin0⟩
                · skip
                  have hN := nx_clear (by simpa using c207)
                  have hsm_n : SM (H_200.map ab) := by rw [hH_200]; exact hN.sm hsm
                  have hlN := hN.len
                  rw [← hH_200, List.length_map, List.length_map] at hlN
                  have hll := lvT_len (H_200.map ab) rs
                  refine wp_skip ?_
                  refine then_n (hK204 _ _ ?_)
                  clear hK204
                  refine wp_seq_k (fun K212 hK212 => ?_)
                  refine region_in ?_
                  refine W_r rfl rfl (VR_ldA rfl l9_206 (hS203.obj 4 rfl hc201) Try.underlying25 rfl (by kernel_rfl)) ?_
                  refine W_call rfl rfl rfl Try.func17 (by kernel_rfl) rfl (args1 (et rfl)) (kLv_c (hS203.chC 0 rfl hcR_200).own (nst_of (hS203.chC 1 rfl hcP_200) (hS203.chC 2 rfl hcQ_200)) (hS203.chC 3 rfl hcG_200).own (by first | with_reducible assumption)) ?_
                  rintro _ w213 ⟨v_213, rfl, hP213⟩
                  refine ⟨_, rfl, ?_⟩
                  obtain ⟨c_213, hc_213, hP213⟩ := gen1 hP213
                  have hS213 := hS203.join hP213
                  replace hS213 : St w NoX [c_213, cR_200, cP_200, cQ_200, cG_200, c201, c_15, c2] w213 := hS213
                  refine W_v rfl rfl (V_mov rfl (et rfl)) ?_
                  refine W_v rfl rfl (V_ext (v := v_213) rfl (et rfl) rfl) ?_
                  refine W_v rfl rfl (V_ext (v := .int .i64 ((ckG (H_200.map ab) (clR (O.map ab) rs a)).2)) rfl (es rfl (et rfl)) rfl) ?_
                  refine W_v rfl rfl (V_asg rfl (es rfl (et rfl))) ?_
                  refine W_v rfl rfl (V_asg rfl (es rfl (et rfl))) ?_
                  refine W_end ?_
                  refine gen_Q (fun A214 hA214 => ?_)
                  have hsz214 := szq hA214
                  have hdf214 : A214.defers = [] := by rw [hA214]; simp only [df_put]; exact hdf206
                  have l2_214 := lookE hA214 2 (e6 rfl (es rfl l2_206))
                  have l3_214 := lookE hA214 3 (e6 rfl (es rfl l3_206))
                  have l7_214 := lookE hA214 7 (e6 rfl (es rfl l7_206))
                  have l9_214 := lookE hA214 9 (e6 rfl (es rfl l9_206))
                  have l11_214 := lookE hA214 11 (es rfl (et rfl))
                  have l12_214 := lookE hA214 12 (et rfl)
                  clear hA214 hsz206 hdf206 l2_206 l3_206 l7_206 l9_206 l94_206
                  refine then_n (hK212 _ _ ?_)
                  clear hK212
                  refine wp_seq_k (fun K215 hK215 => ?_)
                  refine wp_seq_k (fun K216 hK216 => ?_)
                  refine region_in ?_
                  refine W_v rfl rfl (V_mov rfl l12_214) ?_
                  refine W_v rfl rfl (V_neq rfl (et rfl) rfl) ?_
                  refine W_sure (c' := false) rfl rfl (V_mov rfl (et rfl)) (by rw [decide_eq_false_iff_not]; simp only [hH_200]; exact fun q => q (ckG_iff.2 hN.gg)) ?_
                  refine W_v rfl (wanted_t rfl rfl (et rfl) (ez rfl)) (V_fa (off' := 0) rfl (e2 rfl (es rfl l9_214)) Try.underlying25 rfl (by decide +kernel) rfl) ?_
                  refine W_r rfl (wanted_t rfl rfl (es rfl (et rfl)) (ez rfl)) (VR_ldC rfl (et rfl) (cell_box (v := hv_200) (hS213.obj 5 rfl hc201) rfl) Try.underlying22 rfl) ?_
                  refine W_v rfl (wanted_t rfl rfl (e2 rfl (et rfl)) (ez rfl)) (V_lenS rfl (et rfl) (ow_at (hS213.chq 1 rfl hcR_200)) Try.underlying22) ?_
                  refine W_v rfl (wanted_t rfl rfl (e3 rfl (et rfl)) (ez rfl)) (V_fa (off' := 0) rfl (e5 rfl (es rfl l3_214)) Try.underlying25 rfl (by decide +kernel) rfl) ?_
                  refine W_r rfl (wanted_t rfl rfl (e4 rfl (et rfl)) (ez rfl)) (VR_ldC rfl (et rfl) (cell_box (v := ov) (hS213.obj 7 rfl hc2) rfl) Try.underlying22 rfl) ?_
                  refine W_v rfl (wanted_t rfl rfl (e5 rfl (et rfl)) (ez rfl)) (V_lenS rfl (et rfl) (sl_SlN h_ov.at) Try.underlying22) ?_
                  refine W_v rfl (wanted_t rfl rfl (e6 rfl (et rfl)) (ez rfl)) (V_lss rfl (e3 rfl (et rfl)) (et rfl)) ?_
                  refine W_v rfl rfl (V_pickF rfl (e7 rfl (et rfl)) (et rfl)) ?_
                  refine W_end ?_
                  refine gen_Q (fun A217 hA217 => ?_)
                  have hsz217 := szq hA217
                  have hdf217 : A217.defers = [] := by rw [hA217]; simp only [df_put]; exact hdf214
                  have l2_217 := lookE hA217 2 (e10 rfl (es rfl l2_214))
                  have l3_217 := lookE hA217 3 (e10 rfl (es rfl l3_214))
                  have l7_217 := lookE hA217 7 (e10 rfl (es rfl l7_214))
                  have l11_217 := lookE hA217 11 (e10 rfl (es rfl l11_214))
                  have l117_217 := lookE hA217 117 (et rfl)
                  clear hA217 hsz214 hdf214 l2_214 l3_214 l7_214 l9_214 l11_214 l12_214
                  have hS218 : St w NoX [c_213, c_15, c2] w213 := hS213.sel [0, 6, 7] (by decide) rfl
                  refine then_n (hK216 _ _ ?_)
                  clear hK216
                  refine cond_not l117_217 (by rw [decide_eq_false_iff_not]; omega) ?_
                  refine wp_skip ?_
                  refine then_n (hK215 _ _ ?_)
                  clear hK215
                  refine wp_seq_k (fun K219 hK219 => ?_)
                  refine wp_seq_k (fun K220 hK220 => ?_)
                  refine region_in ?_
                  refine W_v rfl rfl (V_asg rfl rfl) ?_
                  refine W_end ?_
                  refine gen_Q (fun A221 hA221 => ?_)
                  have hsz221 := szq hA221
                  have hdf221 : A221.defers = [] := by rw [hA221]; simp only [df_put]; exact hdf217
                  have l2_221 := lookE hA221 2 (es rfl l2_217)
                  have l3_221 := lookE hA221 3 (es rfl l3_217)
                  have l7_221 := lookE hA221 7 (es rfl l7_217)
                  have l11_221 := lookE hA221 11 (es rfl l11_217)
                  have l13_221 := lookE hA221 13 (et rfl)
                  clear hA221 hsz217 hdf217 l2_217 l3_217 l7_217 l11_217 l117_217
                  refine then_n (hK220 _ _ ?_)
                  clear hK220
                  refine wp_block ?_
                  -- loop 26
                  have hll2 := lvT_len (H_200.map ab) (clR (O.map ab) rs a)
                  refine loopX (fun mz A' w' => SzN A' 161 ∧ A'.defers = [] ∧ (∃ (k : Nat), (mz = (lvT (H_200.map ab) (clR (O.map ab) rs a)).length - k) ∧ (k ≤ (lvT (H_200.map ab) (clR (O.map ab) rs a)).length) ∧ (EV A' (.tmp 13) = .int .i64 (k : Int)) ∧ (EV A' (.tmp 2) = EV A221 (.tmp 2)) ∧ (EV A' (.tmp 3) = EV A221 (.tmp 3)) ∧ (EV A' (.tmp 7) = EV A221 (.tmp 7)) ∧ (EV A' (.tmp 11) = EV A221 (.tmp 11)) ∧ (St w NoX [io .i64 v_213 (lvT (H_200.map ab) (clR (O.map ab) rs a)), io .i64 v_15 (lvT (O.map ab) rs), bx g2 25 #[ov, rv]] w'))) ((lvT (H_200.map ab) (clR (O.map ab) rs a)).length - 0) ⟨hsz221, hdf221, 0, rfl, (by omega), ((l13_221).trans (by first | rfl | (simp; done) | (congr 1; omega))), rfl, rfl, rfl, rfl, (by subst hc_213 hc_15 hc2; exact hS218)⟩ ?_
                  clear hS218 hc_213 hc_15 hc2
                  rintro n222 A222 w222 ⟨hsz222, hdf222, k, hm222, hk, l13_222, u2_222, u3_222, u7_222, u11_222, hS222⟩
                  have l2_222 := u2_222.trans l2_221
                  have l3_222 := u3_222.trans l3_221
                  have l7_222 := u7_222.trans l7_221
                  have l11_222 := u11_222.trans l11_221
                  obtain ⟨c_222, c_222b, c2_222, hc_222, hc_222b, hc2_222, hS222⟩ := gen3 hS222
                  refine wp_seq_k (fun K223 hK223 => ?_)
                  refine wp_seq_k (fun K224 hK224 => ?_)
                  refine region_in ?_
                  refine W_v rfl rfl (V_mov rfl l13_222) ?_
                  refine W_v rfl rfl (V_mov rfl (es rfl l11_222)) ?_
                  refine W_v rfl rfl (V_lenS rfl (et rfl) (ow_at (hS222.chq 0 rfl hc_222)) Try.underlying23) ?_
                  refine W_v rfl rfl (V_lss rfl (e2 rfl (et rfl)) (et rfl)) ?_
                  refine W_end ?_
                  refine gen_Q (fun A225 hA225 => ?_)
                  have hsz225 := szq hA225
                  have hdf225 : A225.defers = [] := by rw [hA225]; simp only [df_put]; exact hdf222
                  have l2_225 := lookE hA225 2 (e3 rfl (es rfl l2_222))
                  have l3_225 := lookE hA225 3 (e3 rfl (es rfl l3_222))
                  have l7_225 := lookE hA225 7 (e3 rfl (es rfl l7_222))
                  have l11_225 := lookE hA225 11 (e3 rfl (es rfl l11_222))
                  have l13_225 := lookE hA225 13 (e3 rfl (es rfl l13_222))
                  have l121_225 := lookE hA225 121 (et rfl)
                  clear hA225 hsz222 hdf222 l13_222 l2_222 l3_222 l7_222 l11_222
                  refine then_n (hK224 _ _ ?_)
                  clear hK224
                  refine cond_dec l121_225 (fun c226 => ?_) (fun c226 => ?_)
                  · skip
                    refine wp_skip ?_
                    refine then_n (hK223 _ _ ?_)
                    clear hK223
                    refine wp_seq_k (fun K227 hK227 => ?_)
                    refine wp_block ?_
                    refine wp_seq_k (fun K228 hK228 => ?_)
                    have k229 : k < (lvT (H_200.map ab) (clR (O.map ab) rs a)).length := by first | omega | (simp only [List.length_cons, List.length_nil]; omega) | (simp only [List.length_set]; omega)
                    obtain ⟨y229, hy229⟩ := get_some (xs := (lvT (H_200.map ab) (clR (O.map ab) rs a))) (k := k) k229
                    have hmm229 := hN.mem hg (by rw [← hH_200]; exact List.mem_of_getElem? hy229)
                    refine region_monoS 23 23 [none, none, none, none, none, some (SPv [] (fun _ => fun u l' => u = .bool (decide (y229 ∈ (lvT (O.map ab) rs))) ∧ l' = []) 5)] (by kernel_rfl) (by kernel_rfl) ?_
                    refine D_v rfl rfl (V_mov rfl l7_225) rfl rfl ?_
                    refine D_v rfl rfl (V_mov rfl (es rfl l11_225)) rfl rfl ?_
                    refine D_v rfl rfl (V_mov rfl (es rfl (es rfl l13_225))) rfl rfl ?_
                    obtain ⟨B229, O229, C229, hv229⟩ := (SlN.blk (ow_at (hS222.chq 0 rfl hc_222)) (by first | omega | (simp only [List.length_cons, List.length_nil]; omega) | (simp only [List.length_set]; omega)))
                    refine D_v rfl rfl (V_ixS (off := O229 + k) 1 (k) rfl (es rfl (et rfl)) (et rfl) hv229 (by omega) k229 Try.underlying23 (by kernel_rfl) (congrArg _ (Nat.mul_one _))) rfl rfl ?_
                    refine D_r rfl rfl (by kernel_rfl) (fun sx hx hF => (VR_ldC rfl (et rfl) ((ow_at ((hS222.grow hx).chq 0 rfl hc_222)).cell hv229 (map_get hy229)) Try.underlying3 rfl)) rfl rfl ?_
                    refine D_call (ts := []) (vs := []) (C0 := fun _ => fun u l' => u = .bool (decide (y229 ∈ (lvT (O.map ab) rs))) ∧ l' = []) (C := fun u l' => u = .bool (decide (y229 ∈ (lvT (O.map ab) rs))) ∧ l' = []) rfl rfl rfl Try.func22 (by kernel_rfl) rfl (args2 (e4 rfl (et rfl)) (et rfl)) rfl rfl rfl rfl (fun sx hx hF => ?_) (fun u230 l230 hu230 => ?_)
                    · refine (has_c (x := y229) ((hS222.grow hx).chC 1 rfl hc_222b).own ).mono ?_
                      rintro _ _ ⟨rfl, hz⟩
                      exact ⟨_, rfl, _, ⟨rfl, rfl⟩, hz⟩
                    obtain ⟨rfl, hl230⟩ := hu230
                    refine D_v rfl rfl (V_notd rfl (et rfl)) rfl rfl ?_
                    refine D_sure (c' := false) rfl rfl (V_mov rfl (et rfl)) (by rw [decide_eq_false_iff_not]; exact fun q => q (hmm229.resolve_right fun r => r.1)) rfl rfl ?_
                    refine D_off rfl (wanted_f rfl rfl (et rfl) (ez rfl) rfl) rfl ?_
                    refine D_off rfl (wanted_f rfl rfl (es rfl (et rfl)) (ez rfl) rfl) rfl ?_
                    refine D_off rfl (wanted_f rfl rfl (e2 rfl (et rfl)) (ez rfl) rfl) rfl ?_
                    refine D_off rfl (wanted_f rfl rfl (e3 rfl (et rfl)) (ez rfl) rfl) rfl ?_
                    refine D_off rfl (wanted_u rfl rfl (et rfl) (ez rfl)) rfl ?_
                    refine D_off rfl (wanted_u rfl rfl (es rfl (et rfl)) (ez rfl)) rfl ?_
                    refine D_off rfl (wanted_u rfl rfl (e2 rfl (et rfl)) (ez rfl)) rfl ?_
                    refine D_off rfl (wanted_u rfl rfl (e3 rfl (et rfl)) (ez rfl)) rfl ?_
                    refine D_off rfl (wanted_u rfl rfl (e4 rfl (et rfl)) (ez rfl)) rfl ?_
                    refine D_off rfl (wanted_u rfl rfl (e5 rfl (et rfl)) (ez rfl)) rfl ?_
                    refine D_off rfl (wanted_u rfl rfl (e6 rfl (et rfl)) (ez rfl)) rfl ?_
                    refine D_off rfl (wanted_u rfl rfl (e7 rfl (et rfl)) (ez rfl)) rfl ?_
                    refine D_off rfl (wanted_u rfl rfl (e8 rfl (et rfl)) (ez rfl)) rfl ?_
                    refine D_off rfl (wanted_f rfl rfl (e13 rfl (et rfl)) (ez rfl) rfl) rfl ?_
                    refine D_v rfl rfl (V_pickF rfl (e14 rfl (et rfl)) rfl) rfl rfl ?_
                    refine ZS_none hS222 (Nat.le_refl _) (Nat.le_refl _) (fun s231 hJ231 hL231 hF231 => ?_)
                    obtain ⟨ll230, ws230, we230, ⟨hq230, hl230r⟩, hm230, k230, e230⟩ := L.all_get hF231; cases hq230; subst hl230r
                    replace hJ231 := hJ231.add hL231 (i := 5) rfl hm230 k230 e230
                    have hS231 := hJ231.st; clear hF231 hJ231 hL231
                    generalize s231.1 = w231 at *
                    replace hS231 : St w NoX [c_222, c_222b, c2_222] w231 := hS231
                    refine gen_Q (fun A232 hA232 => ?_)
                    have hsz232 := szq hA232
                    have hdf232 : A232.defers = [] := by rw [hA232]; simp only [df_put]; exact hdf225
                    have l2_232 := lookE hA232 2 (e22 rfl (es rfl l2_225))
                    have l3_232 := lookE hA232 3 (e22 rfl (es rfl l3_225))
                    have l7_232 := lookE hA232 7 (e22 rfl (es rfl l7_225))
                    have l11_232 := lookE hA232 11 (e22 rfl (es rfl l11_225))
                    have l13_232 := lookE hA232 13 (e22 rfl (es rfl l13_225))
                    have l132_232 := lookE hA232 132 (e14 rfl (et rfl))
                    have l133_232 := lookE hA232 133 (e13 rfl (et rfl))
                    have l134_232 := lookE hA232 134 (e12 rfl (et rfl))
                    have l135_232 := lookE hA232 135 (e11 rfl (et rfl))
                    have l136_232 := lookE hA232 136 (e10 rfl (et rfl))
                    have l137_232 := lookE hA232 137 (e9 rfl (et rfl))
                    have l138_232 := lookE hA232 138 (e8 rfl (et rfl))
                    have l139_232 := lookE hA232 139 (e7 rfl (et rfl))
                    have l140_232 := lookE hA232 140 (e6 rfl (et rfl))
                    have l141_232 := lookE hA232 141 (e5 rfl (et rfl))
                    have l142_232 := lookE hA232 142 (e4 rfl (et rfl))
                    have l143_232 := lookE hA232 143 (e3 rfl (et rfl))
                    have l144_232 := lookE hA232 144 (e2 rfl (et rfl))
                    have l145_232 := lookE hA232 145 (es rfl (et rfl))
                    have l146_232 := lookE hA232 146 (et rfl)
                    clear hA232 hsz225 hdf225 l2_225 l3_225 l7_225 l11_225 l13_225 l121_225
                    refine then_n (hK228 _ _ ?_)
                    clear hK228
                    refine cond_f l146_232 ?_
                    refine wp_skip ?_
                    refine inb_n ?_
                    refine then_n (hK227 _ _ ?_)
                    clear hK227
                    refine region_in ?_
                    refine W_v rfl rfl (V_mov rfl l13_232) ?_
                    refine W_v rfl rfl (V_add rfl (et rfl) rfl (by omega) (by omega)) ?_
                    refine W_v rfl rfl (V_asg rfl (et rfl)) ?_
                    refine W_end ?_
                    refine gen_Q (fun A233 hA233 => ?_)
                    have hsz233 := szq hA233
                    have hdf233 : A233.defers = [] := by rw [hA233]; simp only [df_put]; exact hdf232
                    have l2_233 := lookE hA233 2 (e2 rfl (es rfl l2_232))
                    have l3_233 := lookE hA233 3 (e2 rfl (es rfl l3_232))
                    have l7_233 := lookE hA233 7 (e2 rfl (es rfl l7_232))
                    have l11_233 := lookE hA233 11 (e2 rfl (es rfl l11_232))
                    have l13_233 := lookE hA233 13 (et rfl)
                    have l132_233 := lookE hA233 132 (e2 rfl (es rfl l132_232))
                    have l133_233 := lookE hA233 133 (e2 rfl (es rfl l133_232))
                    have l134_233 := lookE hA233 134 (e2 rfl (es rfl l134_232))
                    have l135_233 := lookE hA233 135 (e2 rfl (es rfl l135_232))
                    have l136_233 := lookE hA233 136 (e2 rfl (es rfl l136_232))
                    have l137_233 := lookE hA233 137 (e2 rfl (es rfl l137_232))
                    have l138_233 := lookE hA233 138 (e2 rfl (es rfl l138_232))
                    have l139_233 := lookE hA233 139 (e2 rfl (es rfl l139_232))
                    have l140_233 := lookE hA233 140 (e2 rfl (es rfl l140_232))
                    have l141_233 := lookE hA233 141 (e2 rfl (es rfl l141_232))
                    have l142_233 := lookE hA233 142 (e2 rfl (es rfl l142_232))
                    have l143_233 := lookE hA233 143 (e2 rfl (es rfl l143_232))
                    have l144_233 := lookE hA233 144 (e2 rfl (es rfl l144_232))
                    have l145_233 := lookE hA233 145 (e2 rfl (es rfl l145_232))
                    clear hA233 hsz232 hdf232 l2_232 l3_232 l7_232 l11_232 l13_232 l132_232 l133_232 l134_232 l135_232 l136_232 l137_232 l138_232 l139_232 l140_232 l141_232 l142_232 l143_232 l144_232 l145_232 l146_232
                    refine then_n ⟨(lvT (H_200.map ab) (clR (O.map ab) rs a)).length - (k + 1), by simp only [hm222]; omega, hsz233, hdf233, (k + 1), rfl, (by omega), ((l13_233).trans (by first | rfl | (simp; done) | (congr 1; omega))), ((l2_233).trans l2_221.symm), ((l3_233).trans l3_221.symm), ((l7_233).trans l7_221.symm), ((l11_233).trans l11_221.symm), (by subst hc_222 hc_222b hc2_222; exact hS231)⟩
                  · skip
                    refine wp_exit ?_
                    refine then_exit ?_
                    refine then_exit ?_
                    refine inb_hit ?_
                    refine then_n (hK219 _ _ ?_)
                    clear hK219
                    refine wp_seq_k (fun K234 hK234 => ?_)
                    refine region_in ?_
                    refine W_v rfl rfl (V_mov rfl l2_225) ?_
                    refine W_v rfl rfl (V_rem rfl (et rfl) rfl (by omega) (by omega) (wrap_u8 (by omega) (by omega))) ?_
                    refine W_v rfl rfl (V_neq rfl (et rfl) rfl) ?_
                    refine W_sure (c' := true) rfl rfl (V_mov rfl (et rfl)) (by rw [decide_eq_true_eq]; omega) ?_
                    refine W_off rfl (wanted_f rfl rfl (et rfl) (ez rfl) rfl) ?_
                    refine W_off rfl (wanted_f rfl rfl (es rfl (et rfl)) (ez rfl) rfl) ?_
                    refine W_off rfl (wanted_f rfl rfl (e2 rfl (et rfl)) (ez rfl) rfl) ?_
                    refine W_off rfl (wanted_f rfl rfl (e3 rfl (et rfl)) (ez rfl) rfl) ?_
                    refine W_off rfl (wanted_f rfl rfl (e4 rfl (et rfl)) (ez rfl) rfl) ?_
                    refine W_off rfl (wanted_f rfl rfl (e5 rfl (et rfl)) (ez rfl) rfl) ?_
                    refine W_v rfl rfl (V_pickT rfl (e6 rfl (et rfl)) rfl) ?_
                    refine W_v rfl rfl (V_mov rfl (et rfl)) ?_
                    refine W_call rfl (wanted_t rfl rfl (et rfl) (ez rfl)) rfl Try.func11 (by kernel_rfl) rfl (args0) (shown_c  ) ?_
                    rintro _ w235 ⟨rfl, hP235⟩
                    refine ⟨_, rfl, ?_⟩
                    have hS235 := hS222.join hP235
                    replace hS235 : St w NoX [c_222, c_222b, c2_222] w235 := hS235
                    refine W_v rfl rfl (V_pickT rfl (es rfl (et rfl)) (et rfl)) ?_
                    refine W_v rfl rfl (V_asg rfl (et rfl)) ?_
                    refine W_end ?_
                    refine gen_Q (fun A236 hA236 => ?_)
                    have hsz236 := szq hA236
                    have hdf236 : A236.defers = [] := by rw [hA236]; simp only [df_put]; exact hdf225
                    have l6_236 := lookE hA236 6 (et rfl)
                    clear hA236 hsz225 hdf225 l2_225 l3_225 l7_225 l11_225 l13_225 l121_225
                    have hS237 : St w NoX [] w235 := hS235.sel [] (by decide) rfl
                    refine then_n (hK234 _ _ ?_)
                    clear hK234
                    refine wp_ret ?_
                    refine ret_in (results_1 Try.results9 (rv_tmp l6_236)) hdf236 ?_
                    -- leaf FFFFFFTFF
                    exact ⟨rfl, hS237.fin0⟩
              · skip
                refine region_in ?_
                refine W_r rfl rfl (VR_ldA rfl l3_198 (hS26.obj 3 rfl hc2) Try.underlying25 rfl (by kernel_rfl)) ?_
                refine W_v rfl rfl (V_fa (off' := 0) rfl (es rfl l4_198) Try.underlying49 rfl (by decide +kernel) rfl) ?_
                refine W_r rfl rfl (VR_ldC rfl (et rfl) (cell_box (v := .int .i64 (a)) (hS26.obj 2 rfl hc3) rfl) Try.underlying3 rfl) ?_
                refine W_call rfl rfl rfl Try.func28 (by kernel_rfl) rfl (args4 (e2 rfl (et rfl)) (et rfl) rfl rfl) (kAlloc_c (a := a) (p := 1) (r := 1) (hS26.roC h_ov) (hS26.roC n_ov) (hS26.roC h_rv) (by first | with_reducible assumption)) ?_
                rintro _ w238 ⟨hv_238, H_238, qv_238, rfl, hH_238, hP238⟩
                refine ⟨_, rfl, ?_⟩
                obtain ⟨cR_238, cP_238, cQ_238, cG_238, hcR_238, hcP_238, hcQ_238, hcG_238, hP238⟩ := gen4 hP238
                have hS238 := hS26.join hP238
                replace hS238 : St w NoX [cR_238, cP_238, cQ_238, cG_238, c26, c_15, c3, c2] w238 := hS238
                refine W_v rfl rfl (V_mov rfl (et rfl)) ?_
                refine W_v rfl rfl (V_ext (v := .agg #[hv_238, qv_238]) rfl (et rfl) rfl) ?_
                refine W_v rfl rfl (V_ext (v := .int .i64 ((alE (O.map ab) rs a 1 1))) rfl (es rfl (et rfl)) rfl) ?_
                refine W_stAS 4 hS238 rfl hc26 rfl rfl rfl (e6 rfl (es rfl l9_198)) (es rfl (et rfl)) (by simp only [List.all_toArray, List.all_cons, List.all_nil, SlN_one (ow_at (hS238.chq 0 rfl hcR_238)), SlN_one (ow_at (hS238.chq 3 rfl hcG_238))] <;> rfl) (by rfl) (by kernel_rfl) (fun w239 c239 hc239 hS239 => ?_)
                replace hS239 : St w NoX [cR_238, cP_238, cQ_238, cG_238, c239, c_15, c3, c2] w239 := hS239
                refine W_v rfl rfl (V_asg rfl (et rfl)) ?_
                refine W_end ?_
                refine gen_Q (fun A240 hA240 => ?_)
                have hsz240 := szq hA240
                have hdf240 : A240.defers = [] := by rw [hA240]; simp only [df_put]; exact hdf198
                have l2_240 := lookE hA240 2 (e7 rfl (es rfl l2_198))
                have l3_240 := lookE hA240 3 (e7 rfl (es rfl l3_198))
                have l7_240 := lookE hA240 7 (e7 rfl (es rfl l7_198))
                have l9_240 := lookE hA240 9 (e7 rfl (es rfl l9_198))
                have l10_240 := lookE hA240 10 (et rfl)
                clear hA240 hsz198 hdf198 l2_198 l3_198 l4_198 l7_198 l9_198 l84_198
                have hS241 : St w NoX [cR_238, cP_238, cQ_238, cG_238, c239, c_15, c2] w239 := hS239.sel [0, 1, 2, 3, 4, 5, 7] (by decide) rfl
                refine inb_n ?_
                refine then_n (hK30 _ _ ?_)
                clear hK30
                refine wp_seq_k (fun K242 hK242 => ?_)
                refine wp_seq_k (fun K243 hK243 => ?_)
                refine region_in ?_
                refine W_v rfl rfl (V_mov rfl l10_240) ?_
                refine W_v rfl rfl (V_neq rfl (et rfl) rfl) ?_
                refine W_end ?_
                refine gen_Q (fun A244 hA244 => ?_)
                have hsz244 := szq hA244
                have hdf244 : A244.defers = [] := by rw [hA244]; simp only [df_put]; exact hdf240
                have l2_244 := lookE hA244 2 (es rfl (es rfl l2_240))
                have l3_244 := lookE hA244 3 (es rfl (es rfl l3_240))
                have l7_244 := lookE hA244 7 (es rfl (es rfl l7_240))
                have l9_244 := lookE hA244 9 (es rfl (es rfl l9_240))
                have l94_244 := lookE hA244 94 (et rfl)
                clear hA244 hsz240 hdf240 l2_240 l3_240 l7_240 l9_240 l10_240
                refine then_n (hK243 _ _ ?_)
                clear hK243
                refine cond_dec l94_244 (fun c245 => ?_) (fun c245 => ?_)
                · skip
                  refine wp_seq_k (fun K246 hK246 => ?_)
                  refine region_in ?_
                  refine W_v rfl rfl (V_fa (off' := 1) rfl l9_244 Try.underlying25 rfl (by decide +kernel) rfl) ?_
                  refine W_r rfl rfl (VR_ldC rfl (et rfl) (cell_box (v := qv_238) (hS241.obj 4 rfl hc239) rfl) Try.underlying23 rfl) ?_
                  refine W_v rfl rfl (V_lenS rfl (et rfl) (ow_at (hS241.chq 3 rfl hcG_238)) Try.underlying23) ?_
                  refine W_v rfl rfl (V_eql rfl (et rfl) rfl) ?_
                  refine W_sure (c' := true) rfl rfl (V_mov rfl (et rfl)) (by rw [decide_eq_true_eq]; rw [alR_err c245]; rfl) ?_
                  refine W_call rfl (wanted_t rfl rfl (et rfl) (ez rfl)) rfl Try.func11 (by kernel_rfl) rfl (args0) (shown_c  ) ?_
                  rintro _ w247 ⟨rfl, hP247⟩
                  refine ⟨_, rfl, ?_⟩
                  have hS247 := hS241.join hP247
                  replace hS247 : St w NoX [cR_238, cP_238, cQ_238, cG_238, c239, c_15, c2] w247 := hS247
                  refine W_v rfl rfl (V_pickT rfl (es rfl (et rfl)) (et rfl)) ?_
                  refine W_v rfl rfl (V_asg rfl (et rfl)) ?_
                  refine W_end ?_
                  refine gen_Q (fun A248 hA248 => ?_)
                  have hsz248 := szq hA248
                  have hdf248 : A248.defers = [] := by rw [hA248]; simp only [df_put]; exact hdf244
                  have l6_248 := lookE hA248 6 (et rfl)
                  clear hA248 hsz244 hdf244 l2_244 l3_244 l7_244 l9_244 l94_244
                  have hS249 : St w NoX [] w247 := hS247.sel [] (by decide) rfl
                  refine then_n (hK246 _ _ ?_)
                  clear hK246
                  refine wp_ret ?_
                  refine then_ret ?_
                  refine ret_in (results_1 Try.results9 (rv_tmp l6_248)) hdf248 ?_
                  -- leaf FFFFFFFT
                  exact ⟨rfl, hS249.fin0⟩
                · skip
                  have hN := nx_alloc (by simpa using c245)
                  have hsm_n : SM (H_238.map ab) := by rw [hH_238]; exact hN.sm hsm
                  have hlN := hN.len
                  rw [← hH_238, List.length_map, List.length_map] at hlN
                  have hll := lvT_len (H_238.map ab) rs
                  refine wp_skip ?_
                  refine then_n (hK242 _ _ ?_)
                  clear hK242
                  refine wp_seq_k (fun K250 hK250 => ?_)
                  refine region_in ?_
                  refine W_r rfl rfl (VR_ldA rfl l9_244 (hS241.obj 4 rfl hc239) Try.underlying25 rfl (by kernel_rfl)) ?_
                  refine W_call rfl rfl rfl Try.func17 (by kernel_rfl) rfl (args1 (et rfl)) (kLv_c (hS241.chC 0 rfl hcR_238).own (nst_of (hS241.chC 1 rfl hcP_238) (hS241.chC 2 rfl hcQ_238)) (hS241.chC 3 rfl hcG_238).own (by first | with_reducible assumption)) ?_
                  rintro _ w251 ⟨v_251, rfl, hP251⟩
                  refine ⟨_, rfl, ?_⟩
                  obtain ⟨c_251, hc_251, hP251⟩ := gen1 hP251
                  have hS251 := hS241.join hP251
                  replace hS251 : St w NoX [c_251, cR_238, cP_238, cQ_238, cG_238, c239, c_15, c2] w251 := hS251
                  refine W_v rfl rfl (V_mov rfl (et rfl)) ?_
                  refine W_v rfl rfl (V_ext (v := v_251) rfl (et rfl) rfl) ?_
                  refine W_v rfl rfl (V_ext (v := .int .i64 ((ckG (H_238.map ab) (alR (O.map ab) rs a 1 1)).2)) rfl (es rfl (et rfl)) rfl) ?_
                  refine W_v rfl rfl (V_asg rfl (es rfl (et rfl))) ?_
                  refine W_v rfl rfl (V_asg rfl (es rfl (et rfl))) ?_
                  refine W_end ?_
                  refine gen_Q (fun A252 hA252 => ?_)
                  have hsz252 := szq hA252
                  have hdf252 : A252.defers = [] := by rw [hA252]; simp only [df_put]; exact hdf244
                  have l2_252 := lookE hA252 2 (e6 rfl (es rfl l2_244))
                  have l3_252 := lookE hA252 3 (e6 rfl (es rfl l3_244))
                  have l7_252 := lookE hA252 7 (e6 rfl (es rfl l7_244))
                  have l9_252 := lookE hA252 9 (e6 rfl (es rfl l9_244))
                  have l11_252 := lookE hA252 11 (es rfl (et rfl))
                  have l12_252 := lookE hA252 12 (et rfl)
                  clear hA252 hsz244 hdf244 l2_244 l3_244 l7_244 l9_244 l94_244
                  refine then_n (hK250 _ _ ?_)
                  clear hK250
                  refine wp_seq_k (fun K253 hK253 => ?_)
                  refine wp_seq_k (fun K254 hK254 => ?_)
                  refine region_in ?_
                  refine W_v rfl rfl (V_mov rfl l12_252) ?_
                  refine W_v rfl rfl (V_neq rfl (et rfl) rfl) ?_
                  refine W_sure (c' := false) rfl rfl (V_mov rfl (et rfl)) (by rw [decide_eq_false_iff_not]; simp only [hH_238]; exact fun q => q (ckG_iff.2 hN.gg)) ?_
                  refine W_v rfl (wanted_t rfl rfl (et rfl) (ez rfl)) (V_fa (off' := 0) rfl (e2 rfl (es rfl l9_252)) Try.underlying25 rfl (by decide +kernel) rfl) ?_
                  refine W_r rfl (wanted_t rfl rfl (es rfl (et rfl)) (ez rfl)) (VR_ldC rfl (et rfl) (cell_box (v := hv_238) (hS251.obj 5 rfl hc239) rfl) Try.underlying22 rfl) ?_
                  refine W_v rfl (wanted_t rfl rfl (e2 rfl (et rfl)) (ez rfl)) (V_lenS rfl (et rfl) (ow_at (hS251.chq 1 rfl hcR_238)) Try.underlying22) ?_
                  refine W_v rfl (wanted_t rfl rfl (e3 rfl (et rfl)) (ez rfl)) (V_fa (off' := 0) rfl (e5 rfl (es rfl l3_252)) Try.underlying25 rfl (by decide +kernel) rfl) ?_
                  refine W_r rfl (wanted_t rfl rfl (e4 rfl (et rfl)) (ez rfl)) (VR_ldC rfl (et rfl) (cell_box (v := ov) (hS251.obj 7 rfl hc2) rfl) Try.underlying22 rfl) ?_
                  refine W_v rfl (wanted_t rfl rfl (e5 rfl (et rfl)) (ez rfl)) (V_lenS rfl (et rfl) (sl_SlN h_ov.at) Try.underlying22) ?_
                  refine W_v rfl (wanted_t rfl rfl (e6 rfl (et rfl)) (ez rfl)) (V_lss rfl (e3 rfl (et rfl)) (et rfl)) ?_
                  refine W_v rfl rfl (V_pickF rfl (e7 rfl (et rfl)) (et rfl)) ?_
                  refine W_end ?_
                  refine gen_Q (fun A255 hA255 => ?_)
                  have hsz255 := szq hA255
                  have hdf255 : A255.defers = [] := by rw [hA255]; simp only [df_put]; exact hdf252
                  have l2_255 := lookE hA255 2 (e10 rfl (es rfl l2_252))
                  have l3_255 := lookE hA255 3 (e10 rfl (es rfl l3_252))
                  have l7_255 := lookE hA255 7 (e10 rfl (es rfl l7_252))
                  have l11_255 := lookE hA255 11 (e10 rfl (es rfl l11_252))
                  have l117_255 := lookE hA255 117 (et rfl)
                  clear hA255 hsz252 hdf252 l2_252 l3_252 l7_252 l9_252 l11_252 l12_252
                  have hS256 : St w NoX [c_251, c_15, c2] w251 := hS251.sel [0, 6, 7] (by decide) rfl
                  refine then_n (hK254 _ _ ?_)
                  clear hK254
                  refine cond_not l117_255 (by rw [decide_eq_false_iff_not]; omega) ?_
                  refine wp_skip ?_
                  refine then_n (hK253 _ _ ?_)
                  clear hK253
                  refine wp_seq_k (fun K257 hK257 => ?_)
                  refine wp_seq_k (fun K258 hK258 => ?_)
                  refine region_in ?_
                  refine W_v rfl rfl (V_asg rfl rfl) ?_
                  refine W_end ?_
                  refine gen_Q (fun A259 hA259 => ?_)
                  have hsz259 := szq hA259
                  have hdf259 : A259.defers = [] := by rw [hA259]; simp only [df_put]; exact hdf255
                  have l2_259 := lookE hA259 2 (es rfl l2_255)
                  have l3_259 := lookE hA259 3 (es rfl l3_255)
                  have l7_259 := lookE hA259 7 (es rfl l7_255)
                  have l11_259 := lookE hA259 11 (es rfl l11_255)
                  have l13_259 := lookE hA259 13 (et rfl)
                  clear hA259 hsz255 hdf255 l2_255 l3_255 l7_255 l11_255 l117_255
                  refine then_n (hK258 _ _ ?_)
                  clear hK258
                  refine wp_block ?_
                  -- loop 26
                  have hll2 := lvT_len (H_238.map ab) (alR (O.map ab) rs a 1 1)
                  refine loopX (fun mz A' w' => SzN A' 161 ∧ A'.defers = [] ∧ (∃ (k : Nat), (mz = (lvT (H_238.map ab) (alR (O.map ab) rs a 1 1)).length - k) ∧ (k ≤ (lvT (H_238.map ab) (alR (O.map ab) rs a 1 1)).length) ∧ (EV A' (.tmp 13) = .int .i64 (k : Int)) ∧ (EV A' (.tmp 2) = EV A259 (.tmp 2)) ∧ (EV A' (.tmp 3) = EV A259 (.tmp 3)) ∧ (EV A' (.tmp 7) = EV A259 (.tmp 7)) ∧ (EV A' (.tmp 11) = EV A259 (.tmp 11)) ∧ (St w NoX [io .i64 v_251 (lvT (H_238.map ab) (alR (O.map ab) rs a 1 1)), io .i64 v_15 (lvT (O.map ab) rs), bx g2 25 #[ov, rv]] w'))) ((lvT (H_238.map ab) (alR (O.map ab) rs a 1 1)).length - 0) ⟨hsz259, hdf259, 0, rfl, (by omega), ((l13_259).trans (by first | rfl | (simp; done) | (congr 1; omega))), rfl, rfl, rfl, rfl, (by subst hc_251 hc_15 hc2; exact hS256)⟩ ?_
                  clear hS256 hc_251 hc_15 hc2
                  rintro n260 A260 w260 ⟨hsz260, hdf260, k, hm260, hk, l13_260, u2_260, u3_260, u7_260, u11_260, hS260⟩
                  have l2_260 := u2_260.trans l2_259
                  have l3_260 := u3_260.trans l3_259
                  have l7_260 := u7_260.trans l7_259
                  have l11_260 := u11_260.trans l11_259
                  obtain ⟨c_260, c_260b, c2_260, hc_260, hc_260b, hc2_260, hS260⟩ := gen3 hS260
                  refine wp_seq_k (fun K261 hK261 => ?_)
                  refine wp_seq_k (fun K262 hK262 => ?_)
                  refine region_in ?_
                  refine W_v rfl rfl (V_mov rfl l13_260) ?_
                  refine W_v rfl rfl (V_mov rfl (es rfl l11_260)) ?_
                  refine W_v rfl rfl (V_lenS rfl (et rfl) (ow_at (hS260.chq 0 rfl hc_260)) Try.underlying23) ?_
                  refine W_v rfl rfl (V_lss rfl (e2 rfl (et rfl)) (et rfl)) ?_
                  refine W_end ?_
                  refine gen_Q (fun A263 hA263 => ?_)
                  have hsz263 := szq hA263
                  have hdf263 : A263.defers = [] := by rw [hA263]; simp only [df_put]; exact hdf260
                  have l2_263 := lookE hA263 2 (e3 rfl (es rfl l2_260))
                  have l3_263 := lookE hA263 3 (e3 rfl (es rfl l3_260))
                  have l7_263 := lookE hA263 7 (e3 rfl (es rfl l7_260))
                  have l11_263 := lookE hA263 11 (e3 rfl (es rfl l11_260))
                  have l13_263 := lookE hA263 13 (e3 rfl (es rfl l13_260))
                  have l121_263 := lookE hA263 121 (et rfl)
                  clear hA263 hsz260 hdf260 l13_260 l2_260 l3_260 l7_260 l11_260
                  refine then_n (hK262 _ _ ?_)
                  clear hK262
                  refine cond_dec l121_263 (fun c264 => ?_) (fun c264 => ?_)
                  · skip
                    refine wp_skip ?_
                    refine then_n (hK261 _ _ ?_)
                    clear hK261
                    refine wp_seq_k (fun K265 hK265 => ?_)
                    refine wp_block ?_
                    refine wp_seq_k (fun K266 hK266 => ?_)
                    have k267 : k < (lvT (H_238.map ab) (alR (O.map ab) rs a 1 1)).length := by first | omega | (simp only [List.length_cons, List.length_nil]; omega) | (simp only [List.length_set]; omega)
                    obtain ⟨y267, hy267⟩ := get_some (xs := (lvT (H_238.map ab) (alR (O.map ab) rs a 1 1))) (k := k) k267
                    have hmm267 := hN.mem hg (by rw [← hH_238]; exact List.mem_of_getElem? hy267)
                    refine region_monoS 23 23 [none, none, none, none, none, some (SPv [] (fun _ => fun u l' => u = .bool (decide (y267 ∈ (lvT (O.map ab) rs))) ∧ l' = []) 5)] (by kernel_rfl) (by kernel_rfl) ?_
                    refine D_v rfl rfl (V_mov rfl l7_263) rfl rfl ?_
                    refine D_v rfl rfl (V_mov rfl (es rfl l11_263)) rfl rfl ?_
                    refine D_v rfl rfl (V_mov rfl (es rfl (es rfl l13_263))) rfl rfl ?_
                    obtain ⟨B267, O267, C267, hv267⟩ := (SlN.blk (ow_at (hS260.chq 0 rfl hc_260)) (by first | omega | (simp only [List.length_cons, List.length_nil]; omega) | (simp only [List.length_set]; omega)))
                    refine D_v rfl rfl (V_ixS (off := O267 + k) 1 (k) rfl (es rfl (et rfl)) (et rfl) hv267 (by omega) k267 Try.underlying23 (by kernel_rfl) (congrArg _ (Nat.mul_one _))) rfl rfl ?_
                    refine D_r rfl rfl (by kernel_rfl) (fun sx hx hF => (VR_ldC rfl (et rfl) ((ow_at ((hS260.grow hx).chq 0 rfl hc_260)).cell hv267 (map_get hy267)) Try.underlying3 rfl)) rfl rfl ?_
                    refine D_call (ts := []) (vs := []) (C0 := fun _ => fun u l' => u = .bool (decide (y267 ∈ (lvT (O.map ab) rs))) ∧ l' = []) (C := fun u l' => u = .bool (decide (y267 ∈ (lvT (O.map ab) rs))) ∧ l' = []) rfl rfl rfl Try.func22 (by kernel_rfl) rfl (args2 (e4 rfl (et rfl)) (et rfl)) rfl rfl rfl rfl (fun sx hx hF => ?_) (fun u268 l268 hu268 => ?_)
                    · refine (has_c (x := y267) ((hS260.grow hx).chC 1 rfl hc_260b).own ).mono ?_
                      rintro _ _ ⟨rfl, hz⟩
                      exact ⟨_, rfl, _, ⟨rfl, rfl⟩, hz⟩
                    obtain ⟨rfl, hl268⟩ := hu268
                    refine D_v rfl rfl (V_notd rfl (et rfl)) rfl rfl ?_
                    refine D_split rfl rfl (V_mov rfl (et rfl)) rfl rfl (fun c269 => ?_) (fun c269 => ?_)
                    · skip
                      refine D_v rfl (wanted_t rfl rfl (et rfl) (ez rfl)) (V_mov rfl (e7 rfl (es rfl l2_263))) rfl rfl ?_
                      refine D_v rfl (wanted_t rfl rfl (es rfl (et rfl)) (ez rfl)) (V_rem rfl (et rfl) rfl (by omega) (by omega) (wrap_u8 (by omega) (by omega))) rfl rfl ?_
                      refine D_v rfl (wanted_t rfl rfl (e2 rfl (et rfl)) (ez rfl)) (V_neq rfl (et rfl) rfl) rfl rfl ?_
                      refine D_sure (c' := false) rfl (wanted_t rfl rfl (e3 rfl (et rfl)) (ez rfl)) (V_mov rfl (et rfl)) (by rw [decide_eq_false_iff_not]; omega) rfl rfl ?_
                      refine D_v rfl (wanted_t rfl rfl (et rfl) (ez rfl)) (V_mov rfl (e11 rfl (es rfl l11_263))) rfl rfl ?_
                      refine D_v rfl (wanted_t rfl rfl (es rfl (et rfl)) (ez rfl)) (V_mov rfl (e12 rfl (es rfl l13_263))) rfl rfl ?_
                      refine D_v rfl (wanted_t rfl rfl (e2 rfl (et rfl)) (ez rfl)) (V_ixS (off := O267 + k) 1 (k) rfl (es rfl (et rfl)) (et rfl) hv267 (by omega) k267 Try.underlying23 (by kernel_rfl) (congrArg _ (Nat.mul_one _))) rfl rfl ?_
                      refine D_r rfl (wanted_t rfl rfl (e3 rfl (et rfl)) (ez rfl)) (by kernel_rfl) (fun sx hx hF => (VR_ldC rfl (et rfl) ((ow_at ((hS260.grow hx).chq 0 rfl hc_260)).cell hv267 (map_get hy267)) Try.underlying3 rfl)) rfl rfl ?_
                      refine D_v rfl (wanted_t rfl rfl (e4 rfl (et rfl)) (ez rfl)) (V_fa (off' := 0) rfl (e15 rfl (es rfl l3_263)) Try.underlying25 rfl (by decide +kernel) rfl) rfl rfl ?_
                      refine D_r rfl (wanted_t rfl rfl (e5 rfl (et rfl)) (ez rfl)) (by kernel_rfl) (fun sx hx hF => (VR_ldC rfl (et rfl) (cell_box (v := ov) ((hS260.grow hx).obj 2 rfl hc2_260) rfl) Try.underlying22 rfl)) rfl rfl ?_
                      refine D_v rfl (wanted_t rfl rfl (e6 rfl (et rfl)) (ez rfl)) (V_lenS rfl (et rfl) (sl_SlN h_ov.at) Try.underlying22) rfl rfl ?_
                      refine D_v rfl (wanted_t rfl rfl (e7 rfl (et rfl)) (ez rfl)) (V_add rfl (et rfl) rfl (by omega) (by omega)) rfl rfl ?_
                      refine D_v rfl (wanted_t rfl rfl (e8 rfl (et rfl)) (ez rfl)) (V_neq rfl (e4 rfl (et rfl)) (et rfl)) rfl rfl ?_
                      refine D_v rfl (wanted_t rfl rfl (e13 rfl (et rfl)) (ez rfl)) (V_pickF rfl (e9 rfl (et rfl)) (et rfl)) rfl rfl ?_
                      refine D_v rfl rfl (V_pickT rfl (e14 rfl (et rfl)) (et rfl)) rfl rfl ?_
                      refine ZS_none hS260 (Nat.le_refl _) (Nat.le_refl _) (fun s271 hJ271 hL271 hF271 => ?_)
                      obtain ⟨ll268, ws268, we268, ⟨hq268, hl268r⟩, hm268, k268, e268⟩ := L.all_get hF271; cases hq268; subst hl268r
                      replace hJ271 := hJ271.add hL271 (i := 5) rfl hm268 k268 e268
                      have hS271 := hJ271.st; clear hF271 hJ271 hL271
                      generalize s271.1 = w271 at *
                      replace hS271 : St w NoX [c_260, c_260b, c2_260] w271 := hS271
                      refine gen_Q (fun A272 hA272 => ?_)
                      have hsz272 := szq hA272
                      have hdf272 : A272.defers = [] := by rw [hA272]; simp only [df_put]; exact hdf263
                      have l2_272 := lookE hA272 2 (e22 rfl (es rfl l2_263))
                      have l3_272 := lookE hA272 3 (e22 rfl (es rfl l3_263))
                      have l7_272 := lookE hA272 7 (e22 rfl (es rfl l7_263))
                      have l11_272 := lookE hA272 11 (e22 rfl (es rfl l11_263))
                      have l13_272 := lookE hA272 13 (e22 rfl (es rfl l13_263))
                      have l132_272 := lookE hA272 132 (e14 rfl (et rfl))
                      have l133_272 := lookE hA272 133 (e13 rfl (et rfl))
                      have l134_272 := lookE hA272 134 (e12 rfl (et rfl))
                      have l135_272 := lookE hA272 135 (e11 rfl (et rfl))
                      have l136_272 := lookE hA272 136 (e10 rfl (et rfl))
                      have l137_272 := lookE hA272 137 (e9 rfl (et rfl))
                      have l138_272 := lookE hA272 138 (e8 rfl (et rfl))
                      have l139_272 := lookE hA272 139 (e7 rfl (et rfl))
                      have l140_272 := lookE hA272 140 (e6 rfl (et rfl))
                      have l141_272 := lookE hA272 141 (e5 rfl (et rfl))
                      have l142_272 := lookE hA272 142 (e4 rfl (et rfl))
                      have l143_272 := lookE hA272 143 (e3 rfl (et rfl))
                      have l144_272 := lookE hA272 144 (e2 rfl (et rfl))
                      have l145_272 := lookE hA272 145 (es rfl (et rfl))
                      have l146_272 := lookE hA272 146 (et rfl)
                      clear hA272 hsz263 hdf263 l2_263 l3_263 l7_263 l11_263 l13_263 l121_263
                      refine then_n (hK266 _ _ ?_)
                      clear hK266
                      refine cond_not l146_272 (by rw [decide_eq_false_iff_not]; have hq := (hmm267.resolve_left c269).2; rw [List.length_map] at hq; omega) ?_
                      refine wp_skip ?_
                      refine inb_n ?_
                      refine then_n (hK265 _ _ ?_)
                      clear hK265
                      refine region_in ?_
                      refine W_v rfl rfl (V_mov rfl l13_272) ?_
                      refine W_v rfl rfl (V_add rfl (et rfl) rfl (by omega) (by omega)) ?_
                      refine W_v rfl rfl (V_asg rfl (et rfl)) ?_
                      refine W_end ?_
                      refine gen_Q (fun A273 hA273 => ?_)
                      have hsz273 := szq hA273
                      have hdf273 : A273.defers = [] := by rw [hA273]; simp only [df_put]; exact hdf272
                      have l2_273 := lookE hA273 2 (e2 rfl (es rfl l2_272))
                      have l3_273 := lookE hA273 3 (e2 rfl (es rfl l3_272))
                      have l7_273 := lookE hA273 7 (e2 rfl (es rfl l7_272))
                      have l11_273 := lookE hA273 11 (e2 rfl (es rfl l11_272))
                      have l13_273 := lookE hA273 13 (et rfl)
                      have l132_273 := lookE hA273 132 (e2 rfl (es rfl l132_272))
                      have l133_273 := lookE hA273 133 (e2 rfl (es rfl l133_272))
                      have l134_273 := lookE hA273 134 (e2 rfl (es rfl l134_272))
                      have l135_273 := lookE hA273 135 (e2 rfl (es rfl l135_272))
                      have l136_273 := lookE hA273 136 (e2 rfl (es rfl l136_272))
                      have l137_273 := lookE hA273 137 (e2 rfl (es rfl l137_272))
                      have l138_273 := lookE hA273 138 (e2 rfl (es rfl l138_272))
                      have l139_273 := lookE hA273 139 (e2 rfl (es rfl l139_272))
                      have l140_273 := lookE hA273 140 (e2 rfl (es rfl l140_272))
                      have l141_273 := lookE hA273 141 (e2 rfl (es rfl l141_272))
                      have l142_273 := lookE hA273 142 (e2 rfl (es rfl l142_272))
                      have l143_273 := lookE hA273 143 (e2 rfl (es rfl l143_272))
                      have l144_273 := lookE hA273 144 (e2 rfl (es rfl l144_272))
                      have l145_273 := lookE hA273 145 (e2 rfl (es rfl l145_272))
                      clear hA273 hsz272 hdf272 l2_272 l3_272 l7_272 l11_272 l13_272 l132_272 l133_272 l134_272 l135_272 l136_272 l137_272 l138_272 l139_272 l140_272 l141_272 l142_272 l143_272 l144_272 l145_272 l146_272
                      refine then_n ⟨(lvT (H_238.map ab) (alR (O.map ab) rs a 1 1)).length - (k + 1), by simp only [hm260]; omega, hsz273, hdf273, (k + 1), rfl, (by omega), ((l13_273).trans (by first | rfl | (simp; done) | (congr 1; omega))), ((l2_273).trans l2_259.symm), ((l3_273).trans l3_259.symm), ((l7_273).trans l7_259.symm), ((l11_273).trans l11_259.symm), (by subst hc_260 hc_260b hc2_260; exact hS271)⟩
                    · skip
                      refine D_off rfl (wanted_f rfl rfl (et rfl) (ez rfl) rfl) rfl ?_
                      refine D_off rfl (wanted_f rfl rfl (es rfl (et rfl)) (ez rfl) rfl) rfl ?_
                      refine D_off rfl (wanted_f rfl rfl (e2 rfl (et rfl)) (ez rfl) rfl) rfl ?_
                      refine D_off rfl (wanted_f rfl rfl (e3 rfl (et rfl)) (ez rfl) rfl) rfl ?_
                      refine D_off rfl (wanted_u rfl rfl (et rfl) (ez rfl)) rfl ?_
                      refine D_off rfl (wanted_u rfl rfl (es rfl (et rfl)) (ez rfl)) rfl ?_
                      refine D_off rfl (wanted_u rfl rfl (e2 rfl (et rfl)) (ez rfl)) rfl ?_
                      refine D_off rfl (wanted_u rfl rfl (e3 rfl (et rfl)) (ez rfl)) rfl ?_
                      refine D_off rfl (wanted_u rfl rfl (e4 rfl (et rfl)) (ez rfl)) rfl ?_
                      refine D_off rfl (wanted_u rfl rfl (e5 rfl (et rfl)) (ez rfl)) rfl ?_
                      refine D_off rfl (wanted_u rfl rfl (e6 rfl (et rfl)) (ez rfl)) rfl ?_
                      refine D_off rfl (wanted_u rfl rfl (e7 rfl (et rfl)) (ez rfl)) rfl ?_
                      refine D_off rfl (wanted_u rfl rfl (e8 rfl (et rfl)) (ez rfl)) rfl ?_
                      refine D_off rfl (wanted_f rfl rfl (e13 rfl (et rfl)) (ez rfl) rfl) rfl ?_
                      refine D_v rfl rfl (V_pickF rfl (e14 rfl (et rfl)) rfl) rfl rfl ?_
                      refine ZS_none hS260 (Nat.le_refl _) (Nat.le_refl _) (fun s274 hJ274 hL274 hF274 => ?_)
                      obtain ⟨ll268, ws268, we268, ⟨hq268, hl268r⟩, hm268, k268, e268⟩ := L.all_get hF274; cases hq268; subst hl268r
                      replace hJ274 := hJ274.add hL274 (i := 5) rfl hm268 k268 e268
                      have hS274 := hJ274.st; clear hF274 hJ274 hL274
                      generalize s274.1 = w274 at *
                      replace hS274 : St w NoX [c_260, c_260b, c2_260] w274 := hS274
                      refine gen_Q (fun A275 hA275 => ?_)
                      have hsz275 := szq hA275
                      have hdf275 : A275.defers = [] := by rw [hA275]; simp only [df_put]; exact hdf263
                      have l2_275 := lookE hA275 2 (e22 rfl (es rfl l2_263))
                      have l3_275 := lookE hA275 3 (e22 rfl (es rfl l3_263))
                      have l7_275 := lookE hA275 7 (e22 rfl (es rfl l7_263))
                      have l11_275 := lookE hA275 11 (e22 rfl (es rfl l11_263))
                      have l13_275 := lookE hA275 13 (e22 rfl (es rfl l13_263))
                      have l132_275 := lookE hA275 132 (e14 rfl (et rfl))
                      have l133_275 := lookE hA275 133 (e13 rfl (et rfl))
                      have l134_275 := lookE hA275 134 (e12 rfl (et rfl))
                      have l135_275 := lookE hA275 135 (e11 rfl (et rfl))
                      have l136_275 := lookE hA275 136 (e10 rfl (et rfl))
                      have l137_275 := lookE hA275 137 (e9 rfl (et rfl))
                      have l138_275 := lookE hA275 138 (e8 rfl (et rfl))
                      have l139_275 := lookE hA275 139 (e7 rfl (et rfl))
                      have l140_275 := lookE hA275 140 (e6 rfl (et rfl))
                      have l141_275 := lookE hA275 141 (e5 rfl (et rfl))
                      have l142_275 := lookE hA275 142 (e4 rfl (et rfl))
                      have l143_275 := lookE hA275 143 (e3 rfl (et rfl))
                      have l144_275 := lookE hA275 144 (e2 rfl (et rfl))
                      have l145_275 := lookE hA275 145 (es rfl (et rfl))
                      have l146_275 := lookE hA275 146 (et rfl)
                      clear hA275 hsz263 hdf263 l2_263 l3_263 l7_263 l11_263 l13_263 l121_263
                      refine then_n (hK266 _ _ ?_)
                      clear hK266
                      refine cond_f l146_275 ?_
                      refine wp_skip ?_
                      refine inb_n ?_
                      refine then_n (hK265 _ _ ?_)
                      clear hK265
                      refine region_in ?_
                      refine W_v rfl rfl (V_mov rfl l13_275) ?_
                      refine W_v rfl rfl (V_add rfl (et rfl) rfl (by omega) (by omega)) ?_
                      refine W_v rfl rfl (V_asg rfl (et rfl)) ?_
                      refine W_end ?_
                      refine gen_Q (fun A276 hA276 => ?_)
                      have hsz276 := szq hA276
                      have hdf276 : A276.defers = [] := by rw [hA276]; simp only [df_put]; exact hdf275
                      have l2_276 := lookE hA276 2 (e2 rfl (es rfl l2_275))
                      have l3_276 := lookE hA276 3 (e2 rfl (es rfl l3_275))
                      have l7_276 := lookE hA276 7 (e2 rfl (es rfl l7_275))
                      have l11_276 := lookE hA276 11 (e2 rfl (es rfl l11_275))
                      have l13_276 := lookE hA276 13 (et rfl)
                      have l132_276 := lookE hA276 132 (e2 rfl (es rfl l132_275))
                      have l133_276 := lookE hA276 133 (e2 rfl (es rfl l133_275))
                      have l134_276 := lookE hA276 134 (e2 rfl (es rfl l134_275))
                      have l135_276 := lookE hA276 135 (e2 rfl (es rfl l135_275))
                      have l136_276 := lookE hA276 136 (e2 rfl (es rfl l136_275))
                      have l137_276 := lookE hA276 137 (e2 rfl (es rfl l137_275))
                      have l138_276 := lookE hA276 138 (e2 rfl (es rfl l138_275))
                      have l139_276 := lookE hA276 139 (e2 rfl (es rfl l139_275))
                      have l140_276 := lookE hA276 140 (e2 rfl (es rfl l140_275))
                      have l141_276 := lookE hA276 141 (e2 rfl (es rfl l141_275))
                      have l142_276 := lookE hA276 142 (e2 rfl (es rfl l142_275))
                      have l143_276 := lookE hA276 143 (e2 rfl (es rfl l143_275))
                      have l144_276 := lookE hA276 144 (e2 rfl (es rfl l144_275))
                      have l145_276 := lookE hA276 145 (e2 rfl (es rfl l145_275))
                      clear hA276 hsz275 hdf275 l2_275 l3_275 l7_275 l11_275 l13_275 l132_275 l133_275 l134_275 l135_275 l136_275 l137_275 l138_275 l139_275 l140_275 l141_275 l142_275 l143_275 l144_275 l145_275 l146_275
                      refine then_n ⟨(lvT (H_238.map ab) (alR (O.map ab) rs a 1 1)).length - (k + 1), by simp only [hm260]; omega, hsz276, hdf276, (k + 1), rfl, (by omega), ((l13_276).trans (by first | rfl | (simp; done) | (congr 1; omega))), ((l2_276).trans l2_259.symm), ((l3_276).trans l3_259.symm), ((l7_276).trans l7_259.symm), ((l11_276).trans l11_259.symm), (by subst hc_260 hc_260b hc2_260; exact hS274)⟩
                  · skip
                    refine wp_exit ?_
                    refine then_exit ?_
                    refine then_exit ?_
                    refine inb_hit ?_
                    refine then_n (hK257 _ _ ?_)
                    clear hK257
                    refine wp_seq_k (fun K277 hK277 => ?_)
                    refine region_in ?_
                    refine W_v rfl rfl (V_mov rfl l2_263) ?_
                    refine W_v rfl rfl (V_rem rfl (et rfl) rfl (by omega) (by omega) (wrap_u8 (by omega) (by omega))) ?_
                    refine W_v rfl rfl (V_neq rfl (et rfl) rfl) ?_
                    refine W_sure (c' := false) rfl rfl (V_mov rfl (et rfl)) (by rw [decide_eq_false_iff_not]; omega) ?_
                    refine W_v rfl (wanted_t rfl rfl (et rfl) (ez rfl)) (V_mov rfl (e3 rfl (es rfl l11_263))) ?_
                    refine W_v rfl (wanted_t rfl rfl (es rfl (et rfl)) (ez rfl)) (V_fa (off' := 0) rfl (e4 rfl (es rfl l3_263)) Try.underlying25 rfl (by decide +kernel) rfl) ?_
                    refine W_r rfl (wanted_t rfl rfl (e2 rfl (et rfl)) (ez rfl)) (VR_ldC rfl (et rfl) (cell_box (v := ov) (hS260.obj 2 rfl hc2_260) rfl) Try.underlying22 rfl) ?_
                    refine W_v rfl (wanted_t rfl rfl (e3 rfl (et rfl)) (ez rfl)) (V_lenS rfl (et rfl) (sl_SlN h_ov.at) Try.underlying22) ?_
                    refine W_v rfl (wanted_t rfl rfl (e4 rfl (et rfl)) (ez rfl)) (V_add rfl (et rfl) rfl (by omega) (by omega)) ?_
                    refine W_call rfl (wanted_t rfl rfl (e5 rfl (et rfl)) (ez rfl)) rfl Try.func22 (by kernel_rfl) rfl (args2 (e4 rfl (et rfl)) (et rfl)) (has_c (x := ((O.length : Int) + 1)) (hS260.chC 0 rfl hc_260).own ) ?_
                    rintro _ w278 ⟨rfl, hP278⟩
                    refine ⟨_, rfl, ?_⟩
                    have hS278 := hS260.join hP278
                    replace hS278 : St w NoX [c_260, c_260b, c2_260] w278 := hS278
                    refine W_v rfl rfl (V_pickF rfl (e6 rfl (et rfl)) (et rfl)) ?_
                    refine W_sure (c' := true) rfl rfl (V_mov rfl (et rfl)) (by rw [decide_eq_true_eq]; have q := hN.isnew; rw [← hH_238, List.length_map] at q; exact q) ?_
                    refine W_call rfl (wanted_t rfl rfl (et rfl) (ez rfl)) rfl Try.func11 (by kernel_rfl) rfl (args0) (shown_c  ) ?_
                    rintro _ w279 ⟨rfl, hP279⟩
                    refine ⟨_, rfl, ?_⟩
                    have hS279 := hS278.join hP279
                    replace hS279 : St w NoX [c_260, c_260b, c2_260] w279 := hS279
                    refine W_v rfl rfl (V_pickT rfl (es rfl (et rfl)) (et rfl)) ?_
                    refine W_v rfl rfl (V_asg rfl (et rfl)) ?_
                    refine W_end ?_
                    refine gen_Q (fun A280 hA280 => ?_)
                    have hsz280 := szq hA280
                    have hdf280 : A280.defers = [] := by rw [hA280]; simp only [df_put]; exact hdf263
                    have l6_280 := lookE hA280 6 (et rfl)
                    clear hA280 hsz263 hdf263 l2_263 l3_263 l7_263 l11_263 l13_263 l121_263
                    have hS281 : St w NoX [] w279 := hS279.sel [] (by decide) rfl
                    refine then_n (hK277 _ _ ?_)
                    clear hK277
                    refine wp_ret ?_
                    refine ret_in (results_1 Try.results9 (rv_tmp l6_280)) hdf280 ?_
                    -- leaf FFFFFFFFF
                    exact ⟨rfl, hS281.fin0⟩

end Go.Proofs.Ytdilbnmaihmgnaa