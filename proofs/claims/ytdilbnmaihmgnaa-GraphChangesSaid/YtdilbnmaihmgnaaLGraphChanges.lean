import Derived.Test.YtdilbnmaihmgnaaProg
import Derived.Test.YtdilbnmaihmgnaaGh10
namespace Go.Proofs.Ytdilbnmaihmgnaa
open Go.RowKit Go.Own Go.Own.R Go.Own.G Go.Own.Gr


set_option maxHeartbeats 4000000 in
theorem GraphChanges_c {ov : Value} {O : List Ob} {rv : Value} {rs : List Int} {a : Int} {b : Int} {f : Int} {x : Int} {p : Int} {r : Int} {w : World} (h_ov : Ro w NoX (rl 2 obC ov O)) (n_ov : Ro w NoX (nst O)) (h_rv : Ro w NoX (il .i64 rv rs)) (hbulk : ∀ o ∈ (O.map ab), o.1.length ≤ 17592186044416 ∧ o.2.length ≤ 17592186044416) :
    Calls Try.prog 8 #[.agg #[ov, rv], .agg #[.int .i64 a, .int .i64 b, .int .i64 f, .int .u64 x], .agg #[.int .i64 p, .int .i64 r]] w fun e w' => e = .returned (.bool true) ∧ St w NoX [] w' := by
  refine calls_in 185 Try.func8 rfl rfl (by simp) (fun A0 hsz0 hdf0 hargs => ?_)
  have l0_0 := hargs 0 (.agg #[ov, rv]) rfl
  have l1_0 := hargs 1 (.agg #[.int .i64 a, .int .i64 b, .int .i64 f, .int .u64 x]) rfl
  have l2_0 := hargs 2 (.agg #[.int .i64 p, .int .i64 r]) rfl
  clear hargs; replace hsz0 : SzN A0 185 := ⟨hsz0⟩
  have hS := St.nil w
  have bh_ov := SlN.le (sl_SlN h_ov.at)
  have bh_rv := SlN.le (sl_SlN h_rv.at)
  refine wp_seq_k (fun K1 hK1 => ?_)
  refine region_in ?_
  refine W_boxS (zs := #[ov, rv]) hS rfl rfl rfl l0_0 (by rfl) (fun g2 w2 c2 hc2 hS2 => ?_)
  replace hS2 : St w NoX [c2] w2 := hS2
  refine W_boxS (zs := #[.int .i64 (a), .int .i64 (b), .int .i64 (f), .int .u64 (x)]) hS2 rfl rfl rfl (es rfl l1_0) (by rfl) (fun g3 w3 c3 hc3 hS3 => ?_)
  replace hS3 : St w NoX [c3, c2] w3 := hS3
  refine W_boxS (zs := #[.int .i64 (p), .int .i64 (r)]) hS3 rfl rfl rfl (es rfl (es rfl l2_0)) (by rfl) (fun g4 w4 c4 hc4 hS4 => ?_)
  replace hS4 : St w NoX [c4, c3, c2] w4 := hS4
  refine W_v rfl rfl (V_asg rfl rfl) ?_
  refine W_end ?_
  refine gen_Q (fun A5 hA5 => ?_)
  have hsz5 := szq hA5
  have hdf5 : A5.defers = [] := by rw [hA5]; simp only [df_put]; exact hdf0
  have l3_5 := lookE hA5 3 (e3 rfl (et rfl))
  have l4_5 := lookE hA5 4 (e2 rfl (et rfl))
  have l5_5 := lookE hA5 5 (es rfl (et rfl))
  clear hA5 hsz0 hdf0 l0_0 l1_0 l2_0
  refine then_n (hK1 _ _ ?_)
  clear hK1
  refine wp_seq_k (fun K6 hK6 => ?_)
  refine wp_seq_k (fun K7 hK7 => ?_)
  refine region_in ?_
  refine W_r rfl rfl (VR_ldA rfl l3_5 (hS4.obj 2 rfl hc2) Try.underlying25 rfl (by kernel_rfl)) ?_
  refine W_call rfl rfl rfl Try.func10 (by kernel_rfl) rfl (args1 (et rfl)) (far_c (hS4.roC h_ov) (hS4.roC n_ov) (hS4.roC h_rv) (by first | with_reducible assumption)) ?_
  rintro _ w8 ⟨rfl, hP8⟩
  refine ⟨_, rfl, ?_⟩
  have hS8 := hS4.join hP8
  replace hS8 : St w NoX [c4, c3, c2] w8 := hS8
  refine W_end ?_
  refine gen_Q (fun A9 hA9 => ?_)
  have hsz9 := szq hA9
  have hdf9 : A9.defers = [] := by rw [hA9]; simp only [df_put]; exact hdf5
  have l3_9 := lookE hA9 3 (es rfl (es rfl l3_5))
  have l4_9 := lookE hA9 4 (es rfl (es rfl l4_5))
  have l5_9 := lookE hA9 5 (es rfl (es rfl l5_5))
  have l17_9 := lookE hA9 17 (et rfl)
  clear hA9 hsz5 hdf5 l3_5 l4_5 l5_5
  refine then_n (hK7 _ _ ?_)
  clear hK7
  refine cond_b l17_9 (fun c10 => ?_) (fun c10 => ?_)
  · skip
    refine wp_seq_k (fun K11 hK11 => ?_)
    refine region_in ?_
    refine W_call rfl rfl rfl Try.func11 (by kernel_rfl) rfl (args0) (shown_c  ) ?_
    rintro _ w12 ⟨rfl, hP12⟩
    refine ⟨_, rfl, ?_⟩
    have hS12 := hS8.join hP12
    replace hS12 : St w NoX [c4, c3, c2] w12 := hS12
    refine W_v rfl rfl (V_asg rfl (et rfl)) ?_
    refine W_end ?_
    refine gen_Q (fun A13 hA13 => ?_)
    have hsz13 := szq hA13
    have hdf13 : A13.defers = [] := by rw [hA13]; simp only [df_put]; exact hdf9
    have l6_13 := lookE hA13 6 (et rfl)
    clear hA13 hsz9 hdf9 l3_9 l4_9 l5_9 l17_9
    have hS14 : St w NoX [] w12 := hS12.sel [] (by decide) rfl
    refine then_n (hK11 _ _ ?_)
    clear hK11
    refine wp_ret ?_
    refine then_ret ?_
    refine ret_in (results_1 Try.results8 (rv_tmp l6_13)) hdf13 ?_
    -- leaf T
    exact ⟨rfl, hS14.fin0⟩
  · skip
    have hfar := far_no c10
    have hsm := hfar.2.2.2.1
    have hfr := hfar.1
    have hfo := hfar.2.1
    rw [List.length_map] at hfo
    refine wp_skip ?_
    refine then_n (hK6 _ _ ?_)
    clear hK6
    refine wp_seq_k (fun K15 hK15 => ?_)
    refine region_in ?_
    refine W_r rfl rfl (VR_ldA rfl l3_9 (hS8.obj 2 rfl hc2) Try.underlying25 rfl (by kernel_rfl)) ?_
    refine W_call rfl rfl rfl Try.func35 (by kernel_rfl) rfl (args1 (et rfl)) (qCn_c (hS8.roC h_ov) (hS8.roC n_ov) (hS8.roC h_rv) (by first | with_reducible assumption) (by first | omega | (have q := hG.r8; omega)) (by first | omega | (have q := hG.o4; rw [List.length_map] at q; omega))) ?_
    rintro _ w16 ⟨hv_16, H_16, qv_16, rfl, hH_16, hP16⟩
    refine ⟨_, rfl, ?_⟩
    obtain ⟨cR_16, cP_16, cQ_16, cG_16, hcR_16, hcP_16, hcQ_16, hcG_16, hP16⟩ := gen4 hP16
    have hS16 := hS8.join hP16
    replace hS16 : St w NoX [cR_16, cP_16, cQ_16, cG_16, c4, c3, c2] w16 := hS16
    refine W_allocS (z := .agg #[.slice none 0 0, .slice none 0 0]) (zs := #[.slice none 0 0, .slice none 0 0]) hS16 rfl rfl rfl (by kernel_rfl) (by rfl) (fun g17 w17 c17 hc17 hS17 => ?_)
    replace hS17 : St w NoX [c17, cR_16, cP_16, cQ_16, cG_16, c4, c3, c2] w17 := hS17
    refine W_stAS 0 hS17 rfl hc17 rfl rfl rfl (et rfl) (es rfl (et rfl)) (by simp only [List.all_toArray, List.all_cons, List.all_nil, SlN_one (ow_at (hS17.chq 1 rfl hcR_16)), SlN_one (ow_at (hS17.chq 4 rfl hcG_16))] <;> rfl) (by rfl) (by kernel_rfl) (fun w18 c18 hc18 hS18 => ?_)
    replace hS18 : St w NoX [c18, cR_16, cP_16, cQ_16, cG_16, c4, c3, c2] w18 := hS18
    refine W_end ?_
    refine gen_Q (fun A19 hA19 => ?_)
    have hsz19 := szq hA19
    have hdf19 : A19.defers = [] := by rw [hA19]; simp only [df_put]; exact hdf9
    have l3_19 := lookE hA19 3 (e2 rfl (es rfl l3_9))
    have l4_19 := lookE hA19 4 (e2 rfl (es rfl l4_9))
    have l5_19 := lookE hA19 5 (e2 rfl (es rfl l5_9))
    have l7_19 := lookE hA19 7 (et rfl)
    clear hA19 hsz9 hdf9 l3_9 l4_9 l5_9 l17_9
    refine then_n (hK15 _ _ ?_)
    clear hK15
    refine wp_seq_k (fun K20 hK20 => ?_)
    refine region_in ?_
    refine W_r rfl rfl (VR_ldA rfl l3_19 (hS18.obj 7 rfl hc2) Try.underlying25 rfl (by kernel_rfl)) ?_
    refine W_v rfl rfl (V_fa (off' := 0) rfl (es rfl l4_19) Try.underlying49 rfl (by decide +kernel) rfl) ?_
    refine W_r rfl rfl (VR_ldC rfl (et rfl) (cell_box (v := .int .i64 (a)) (hS18.obj 6 rfl hc3) rfl) Try.underlying3 rfl) ?_
    refine W_v rfl rfl (V_ixA (sz := 1) (off' := 0) 0 rfl (e2 rfl (es rfl l5_19)) rfl (by rfl) Try.underlying56 (by decide) (by kernel_rfl) rfl) ?_
    refine W_r rfl rfl (VR_ldC rfl (et rfl) (cell_box (v := .int .i64 (p)) (hS18.obj 5 rfl hc4) rfl) Try.underlying3 rfl) ?_
    refine W_v rfl rfl (V_ixA (sz := 1) (off' := 1) 1 rfl (e4 rfl (es rfl l5_19)) rfl (by rfl) Try.underlying56 (by decide) (by kernel_rfl) rfl) ?_
    refine W_r rfl rfl (VR_ldC rfl (et rfl) (cell_box (v := .int .i64 (r)) (hS18.obj 5 rfl hc4) rfl) Try.underlying3 rfl) ?_
    refine W_call rfl rfl rfl Try.func28 (by kernel_rfl) rfl (args4 (e6 rfl (et rfl)) (e4 rfl (et rfl)) (e2 rfl (et rfl)) (et rfl)) (kAlloc_c (a := a) (p := p) (r := r) (hS18.roC h_ov) (hS18.roC n_ov) (hS18.roC h_rv) (by first | with_reducible assumption)) ?_
    rintro _ w23 ⟨hv_23, H_23, qv_23, rfl, hH_23, hP23⟩
    refine ⟨_, rfl, ?_⟩
    obtain ⟨cR_23, cP_23, cQ_23, cG_23, hcR_23, hcP_23, hcQ_23, hcG_23, hP23⟩ := gen4 hP23
    have hS23 := hS18.join hP23
    replace hS23 : St w NoX [cR_23, cP_23, cQ_23, cG_23, c18, cR_16, cP_16, cQ_16, cG_16, c4, c3, c2] w23 := hS23
    refine W_v rfl rfl (V_mov rfl (et rfl)) ?_
    refine W_v rfl rfl (V_ext (v := .agg #[hv_23, qv_23]) rfl (et rfl) rfl) ?_
    refine W_v rfl rfl (V_ext (v := .int .i64 ((alE (O.map ab) rs a p r))) rfl (es rfl (et rfl)) rfl) ?_
    refine W_allocS (z := .agg #[.slice none 0 0, .slice none 0 0]) (zs := #[.slice none 0 0, .slice none 0 0]) hS23 rfl rfl rfl (by kernel_rfl) (by rfl) (fun g24 w24 c24 hc24 hS24 => ?_)
    replace hS24 : St w NoX [c24, cR_23, cP_23, cQ_23, cG_23, c18, cR_16, cP_16, cQ_16, cG_16, c4, c3, c2] w24 := hS24
    refine W_stAS 0 hS24 rfl hc24 rfl rfl rfl (et rfl) (e2 rfl (et rfl)) (by simp only [List.all_toArray, List.all_cons, List.all_nil, SlN_one (ow_at (hS24.chq 1 rfl hcR_23)), SlN_one (ow_at (hS24.chq 4 rfl hcG_23))] <;> rfl) (by rfl) (by kernel_rfl) (fun w25 c25 hc25 hS25 => ?_)
    replace hS25 : St w NoX [c25, cR_23, cP_23, cQ_23, cG_23, c18, cR_16, cP_16, cQ_16, cG_16, c4, c3, c2] w25 := hS25
    refine W_v rfl rfl (V_asg rfl (es rfl (et rfl))) ?_
    refine W_end ?_
    refine gen_Q (fun A26 hA26 => ?_)
    have hsz26 := szq hA26
    have hdf26 : A26.defers = [] := by rw [hA26]; simp only [df_put]; exact hdf19
    have l3_26 := lookE hA26 3 (e12 rfl (es rfl l3_19))
    have l4_26 := lookE hA26 4 (e12 rfl (es rfl l4_19))
    have l5_26 := lookE hA26 5 (e12 rfl (es rfl l5_19))
    have l7_26 := lookE hA26 7 (e12 rfl (es rfl l7_19))
    have l8_26 := lookE hA26 8 (es rfl (et rfl))
    have l9_26 := lookE hA26 9 (et rfl)
    clear hA26 hsz19 hdf19 l3_19 l4_19 l5_19 l7_19
    refine then_n (hK20 _ _ ?_)
    clear hK20
    refine wp_seq_k (fun K27 hK27 => ?_)
    refine region_in ?_
    refine W_r rfl rfl (VR_ldA rfl l3_26 (hS25.obj 12 rfl hc2) Try.underlying25 rfl (by kernel_rfl)) ?_
    refine W_v rfl rfl (V_fa (off' := 0) rfl (es rfl l4_26) Try.underlying49 rfl (by decide +kernel) rfl) ?_
    refine W_r rfl rfl (VR_ldC rfl (et rfl) (cell_box (v := .int .i64 (a)) (hS25.obj 11 rfl hc3) rfl) Try.underlying3 rfl) ?_
    refine W_v rfl rfl (V_ixA (sz := 1) (off' := 0) 0 rfl (e2 rfl (es rfl l5_26)) rfl (by rfl) Try.underlying56 (by decide) (by kernel_rfl) rfl) ?_
    refine W_r rfl rfl (VR_ldC rfl (et rfl) (cell_box (v := .int .i64 (p)) (hS25.obj 10 rfl hc4) rfl) Try.underlying3 rfl) ?_
    refine W_v rfl rfl (V_ixA (sz := 1) (off' := 1) 1 rfl (e4 rfl (es rfl l5_26)) rfl (by rfl) Try.underlying56 (by decide) (by kernel_rfl) rfl) ?_
    refine W_r rfl rfl (VR_ldC rfl (et rfl) (cell_box (v := .int .i64 (r)) (hS25.obj 10 rfl hc4) rfl) Try.underlying3 rfl) ?_
    refine W_call rfl rfl rfl Try.func36 (by kernel_rfl) rfl (args4 (e6 rfl (et rfl)) (e4 rfl (et rfl)) (e2 rfl (et rfl)) (et rfl)) (qAlloc_c (a := a) (p := p) (r := r) (hS25.roC h_ov) (hS25.roC n_ov) (hS25.roC h_rv) (by first | with_reducible assumption)) ?_
    rintro _ w30 ⟨hv_30, H_30, qv_30, rfl, hH_30, hP30⟩
    refine ⟨_, rfl, ?_⟩
    obtain ⟨cR_30, cP_30, cQ_30, cG_30, hcR_30, hcP_30, hcQ_30, hcG_30, hP30⟩ := gen4 hP30
    have hS30 := hS25.join hP30
    replace hS30 : St w NoX [cR_30, cP_30, cQ_30, cG_30, c25, cR_23, cP_23, cQ_23, cG_23, c18, cR_16, cP_16, cQ_16, cG_16, c4, c3, c2] w30 := hS30
    refine W_v rfl rfl (V_mov rfl (et rfl)) ?_
    refine W_v rfl rfl (V_ext (v := .agg #[hv_30, qv_30]) rfl (et rfl) rfl) ?_
    refine W_v rfl rfl (V_ext (v := .int .i64 ((alE (O.map ab) rs a p r))) rfl (es rfl (et rfl)) rfl) ?_
    refine W_allocS (z := .agg #[.slice none 0 0, .slice none 0 0]) (zs := #[.slice none 0 0, .slice none 0 0]) hS30 rfl rfl rfl (by kernel_rfl) (by rfl) (fun g31 w31 c31 hc31 hS31 => ?_)
    replace hS31 : St w NoX [c31, cR_30, cP_30, cQ_30, cG_30, c25, cR_23, cP_23, cQ_23, cG_23, c18, cR_16, cP_16, cQ_16, cG_16, c4, c3, c2] w31 := hS31
    refine W_stAS 0 hS31 rfl hc31 rfl rfl rfl (et rfl) (e2 rfl (et rfl)) (by simp only [List.all_toArray, List.all_cons, List.all_nil, SlN_one (ow_at (hS31.chq 1 rfl hcR_30)), SlN_one (ow_at (hS31.chq 4 rfl hcG_30))] <;> rfl) (by rfl) (by kernel_rfl) (fun w32 c32 hc32 hS32 => ?_)
    replace hS32 : St w NoX [c32, cR_30, cP_30, cQ_30, cG_30, c25, cR_23, cP_23, cQ_23, cG_23, c18, cR_16, cP_16, cQ_16, cG_16, c4, c3, c2] w32 := hS32
    refine W_v rfl rfl (V_asg rfl (es rfl (et rfl))) ?_
    refine W_end ?_
    refine gen_Q (fun A33 hA33 => ?_)
    have hsz33 := szq hA33
    have hdf33 : A33.defers = [] := by rw [hA33]; simp only [df_put]; exact hdf26
    have l3_33 := lookE hA33 3 (e12 rfl (es rfl l3_26))
    have l4_33 := lookE hA33 4 (e12 rfl (es rfl l4_26))
    have l7_33 := lookE hA33 7 (e12 rfl (es rfl l7_26))
    have l8_33 := lookE hA33 8 (e12 rfl (es rfl l8_26))
    have l9_33 := lookE hA33 9 (e12 rfl (es rfl l9_26))
    have l10_33 := lookE hA33 10 (es rfl (et rfl))
    have l11_33 := lookE hA33 11 (et rfl)
    clear hA33 hsz26 hdf26 l3_26 l4_26 l5_26 l7_26 l8_26 l9_26
    have hS34 : St w NoX [c32, cR_30, cP_30, cQ_30, cG_30, c25, cR_23, cP_23, cQ_23, cG_23, c18, cR_16, cP_16, cQ_16, cG_16, c3, c2] w32 := hS32.sel [0, 1, 2, 3, 4, 5, 6, 7, 8, 9, 10, 11, 12, 13, 14, 16, 17] (by decide) rfl
    refine then_n (hK27 _ _ ?_)
    clear hK27
    refine wp_seq_k (fun K35 hK35 => ?_)
    refine wp_seq_k (fun K36 hK36 => ?_)
    refine region_in ?_
    refine W_r rfl rfl (VR_ldA rfl l8_33 (hS34.obj 5 rfl hc25) Try.underlying25 rfl (by kernel_rfl)) ?_
    refine W_v rfl rfl (V_mov rfl (es rfl l9_33)) ?_
    refine W_r rfl rfl (VR_ldA rfl (es rfl (es rfl l10_33)) (hS34.obj 0 rfl hc32) Try.underlying25 rfl (by kernel_rfl)) ?_
    refine W_v rfl rfl (V_mov rfl (e2 rfl (es rfl l11_33))) ?_
    refine W_call rfl rfl rfl Try.func37 (by kernel_rfl) rfl (args4 (e3 rfl (et rfl)) (e2 rfl (et rfl)) (es rfl (et rfl)) (et rfl)) (same_c (e1 := (alE (O.map ab) rs a p r)) (f1 := (alE (O.map ab) rs a p r)) (hS34.chC 6 rfl hcR_23).own (nst_of (hS34.chC 7 rfl hcP_23) (hS34.chC 8 rfl hcQ_23)) (hS34.chC 9 rfl hcG_23).own (hS34.chC 1 rfl hcR_30).own (nst_of (hS34.chC 2 rfl hcP_30) (hS34.chC 3 rfl hcQ_30)) (hS34.chC 4 rfl hcG_30).own ) ?_
    rintro _ w37 ⟨rfl, hP37⟩
    refine ⟨_, rfl, ?_⟩
    have hS37 := hS34.join hP37
    replace hS37 : St w NoX [c32, cR_30, cP_30, cQ_30, cG_30, c25, cR_23, cP_23, cQ_23, cG_23, c18, cR_16, cP_16, cQ_16, cG_16, c3, c2] w37 := hS37
    refine W_v rfl rfl (V_not rfl (et rfl)) ?_
    refine W_end ?_
    refine gen_Q (fun A38 hA38 => ?_)
    have hsz38 := szq hA38
    have hdf38 : A38.defers = [] := by rw [hA38]; simp only [df_put]; exact hdf33
    have l3_38 := lookE hA38 3 (e5 rfl (es rfl l3_33))
    have l4_38 := lookE hA38 4 (e5 rfl (es rfl l4_33))
    have l7_38 := lookE hA38 7 (e5 rfl (es rfl l7_33))
    have l8_38 := lookE hA38 8 (e5 rfl (es rfl l8_33))
    have l10_38 := lookE hA38 10 (e5 rfl (es rfl l10_33))
    have l48_38 := lookE hA38 48 (et rfl)
    clear hA38 hsz33 hdf33 l3_33 l4_33 l7_33 l8_33 l9_33 l10_33 l11_33
    refine then_n (hK36 _ _ ?_)
    clear hK36
    refine cond_not l48_38 (by simp only [hH_23, hH_30]; rw [sa_same rfl rfl rfl]; rfl) ?_
    refine wp_skip ?_
    refine then_n (hK35 _ _ ?_)
    clear hK35
    refine wp_seq_k (fun K39 hK39 => ?_)
    refine region_in ?_
    refine W_r rfl rfl (VR_ldA rfl l3_38 (hS37.obj 16 rfl hc2) Try.underlying25 rfl (by kernel_rfl)) ?_
    refine W_v rfl rfl (V_fa (off' := 0) rfl (es rfl l4_38) Try.underlying49 rfl (by decide +kernel) rfl) ?_
    refine W_r rfl rfl (VR_ldC rfl (et rfl) (cell_box (v := .int .i64 (a)) (hS37.obj 15 rfl hc3) rfl) Try.underlying3 rfl) ?_
    refine W_v rfl rfl (V_fa (off' := 1) rfl (e2 rfl (es rfl l4_38)) Try.underlying49 rfl (by decide +kernel) rfl) ?_
    refine W_r rfl rfl (VR_ldC rfl (et rfl) (cell_box (v := .int .i64 (b)) (hS37.obj 15 rfl hc3) rfl) Try.underlying3 rfl) ?_
    refine W_v rfl rfl (V_fa (off' := 2) rfl (e4 rfl (es rfl l4_38)) Try.underlying49 rfl (by decide +kernel) rfl) ?_
    refine W_r rfl rfl (VR_ldC rfl (et rfl) (cell_box (v := .int .i64 (f)) (hS37.obj 15 rfl hc3) rfl) Try.underlying3 rfl) ?_
    refine W_call rfl rfl rfl Try.func25 (by kernel_rfl) rfl (args4 (e6 rfl (et rfl)) (e4 rfl (et rfl)) (e2 rfl (et rfl)) (et rfl)) (kLoad_c (a := a) (b := b) (f := f) (hS37.roC h_ov) (hS37.roC n_ov) (hS37.roC h_rv) (by first | with_reducible assumption)) ?_
    rintro _ w40 ⟨hv_40, H_40, qv_40, rfl, hH_40, hP40⟩
    refine ⟨_, rfl, ?_⟩
    obtain ⟨cR_40, cP_40, cQ_40, cG_40, hcR_40, hcP_40, hcQ_40, hcG_40, hP40⟩ := gen4 hP40
    have hS40 := hS37.join hP40
    replace hS40 : St w NoX [cR_40, cP_40, cQ_40, cG_40, c32, cR_30, cP_30, cQ_30, cG_30, c25, cR_23, cP_23, cQ_23, cG_23, c18, cR_16, cP_16, cQ_16, cG_16, c3, c2] w40 := hS40
    refine W_v rfl rfl (V_mov rfl (et rfl)) ?_
    refine W_v rfl rfl (V_ext (v := .agg #[hv_40, qv_40]) rfl (et rfl) rfl) ?_
    refine W_v rfl rfl (V_ext (v := .int .i64 ((ptE (O.map ab) rs [a, b] b f))) rfl (es rfl (et rfl)) rfl) ?_
    refine W_stAS 9 hS40 rfl hc25 rfl rfl rfl (e10 rfl (es rfl l8_38)) (es rfl (et rfl)) (by simp only [List.all_toArray, List.all_cons, List.all_nil, SlN_one (ow_at (hS40.chq 0 rfl hcR_40)), SlN_one (ow_at (hS40.chq 3 rfl hcG_40))] <;> rfl) (by rfl) (by kernel_rfl) (fun w41 c41 hc41 hS41 => ?_)
    replace hS41 : St w NoX [cR_40, cP_40, cQ_40, cG_40, c32, cR_30, cP_30, cQ_30, cG_30, c41, cR_23, cP_23, cQ_23, cG_23, c18, cR_16, cP_16, cQ_16, cG_16, c3, c2] w41 := hS41
    refine W_v rfl rfl (V_asg rfl (et rfl)) ?_
    refine W_end ?_
    refine gen_Q (fun A42 hA42 => ?_)
    have hsz42 := szq hA42
    have hdf42 : A42.defers = [] := by rw [hA42]; simp only [df_put]; exact hdf38
    have l3_42 := lookE hA42 3 (e11 rfl (es rfl l3_38))
    have l4_42 := lookE hA42 4 (e11 rfl (es rfl l4_38))
    have l7_42 := lookE hA42 7 (e11 rfl (es rfl l7_38))
    have l8_42 := lookE hA42 8 (e11 rfl (es rfl l8_38))
    have l9_42 := lookE hA42 9 (et rfl)
    have l10_42 := lookE hA42 10 (e11 rfl (es rfl l10_38))
    clear hA42 hsz38 hdf38 l3_38 l4_38 l7_38 l8_38 l10_38 l48_38
    have hS43 : St w NoX [cR_40, cP_40, cQ_40, cG_40, c32, cR_30, cP_30, cQ_30, cG_30, c41, c18, cR_16, cP_16, cQ_16, cG_16, c3, c2] w41 := hS41.sel [0, 1, 2, 3, 4, 5, 6, 7, 8, 9, 14, 15, 16, 17, 18, 19, 20] (by decide) rfl
    refine then_n (hK39 _ _ ?_)
    clear hK39
    refine wp_seq_k (fun K44 hK44 => ?_)
    refine region_in ?_
    refine W_r rfl rfl (VR_ldA rfl l3_42 (hS43.obj 16 rfl hc2) Try.underlying25 rfl (by kernel_rfl)) ?_
    refine W_v rfl rfl (V_fa (off' := 0) rfl (es rfl l4_42) Try.underlying49 rfl (by decide +kernel) rfl) ?_
    refine W_r rfl rfl (VR_ldC rfl (et rfl) (cell_box (v := .int .i64 (a)) (hS43.obj 15 rfl hc3) rfl) Try.underlying3 rfl) ?_
    refine W_v rfl rfl (V_fa (off' := 1) rfl (e2 rfl (es rfl l4_42)) Try.underlying49 rfl (by decide +kernel) rfl) ?_
    refine W_r rfl rfl (VR_ldC rfl (et rfl) (cell_box (v := .int .i64 (b)) (hS43.obj 15 rfl hc3) rfl) Try.underlying3 rfl) ?_
    refine W_v rfl rfl (V_fa (off' := 2) rfl (e4 rfl (es rfl l4_42)) Try.underlying49 rfl (by decide +kernel) rfl) ?_
    refine W_r rfl rfl (VR_ldC rfl (et rfl) (cell_box (v := .int .i64 (f)) (hS43.obj 15 rfl hc3) rfl) Try.underlying3 rfl) ?_
    refine W_call rfl rfl rfl Try.func38 (by kernel_rfl) rfl (args4 (e6 rfl (et rfl)) (e4 rfl (et rfl)) (e2 rfl (et rfl)) (et rfl)) (qLoad_c (a := a) (b := b) (f := f) (hS43.roC h_ov) (hS43.roC n_ov) (hS43.roC h_rv) (by first | with_reducible assumption)) ?_
    rintro _ w45 ⟨hv_45, H_45, qv_45, rfl, hH_45, hP45⟩
    refine ⟨_, rfl, ?_⟩
    obtain ⟨cR_45, cP_45, cQ_45, cG_45, hcR_45, hcP_45, hcQ_45, hcG_45, hP45⟩ := gen4 hP45
    have hS45 := hS43.join hP45
    replace hS45 : St w NoX [cR_45, cP_45, cQ_45, cG_45, cR_40, cP_40, cQ_40, cG_40, c32, cR_30, cP_30, cQ_30, cG_30, c41, c18, cR_16, cP_16, cQ_16, cG_16, c3, c2] w45 := hS45
    refine W_v rfl rfl (V_mov rfl (et rfl)) ?_
    refine W_v rfl rfl (V_ext (v := .agg #[hv_45, qv_45]) rfl (et rfl) rfl) ?_
    refine W_v rfl rfl (V_ext (v := .int .i64 ((ptE (O.map ab) rs [a, b] b f))) rfl (es rfl (et rfl)) rfl) ?_
    refine W_stAS 8 hS45 rfl hc32 rfl rfl rfl (e10 rfl (es rfl l10_42)) (es rfl (et rfl)) (by simp only [List.all_toArray, List.all_cons, List.all_nil, SlN_one (ow_at (hS45.chq 0 rfl hcR_45)), SlN_one (ow_at (hS45.chq 3 rfl hcG_45))] <;> rfl) (by rfl) (by kernel_rfl) (fun w46 c46 hc46 hS46 => ?_)
    replace hS46 : St w NoX [cR_45, cP_45, cQ_45, cG_45, cR_40, cP_40, cQ_40, cG_40, c46, cR_30, cP_30, cQ_30, cG_30, c41, c18, cR_16, cP_16, cQ_16, cG_16, c3, c2] w46 := hS46
    refine W_v rfl rfl (V_asg rfl (et rfl)) ?_
    refine W_end ?_
    refine gen_Q (fun A47 hA47 => ?_)
    have hsz47 := szq hA47
    have hdf47 : A47.defers = [] := by rw [hA47]; simp only [df_put]; exact hdf42
    have l3_47 := lookE hA47 3 (e11 rfl (es rfl l3_42))
    have l4_47 := lookE hA47 4 (e11 rfl (es rfl l4_42))
    have l7_47 := lookE hA47 7 (e11 rfl (es rfl l7_42))
    have l8_47 := lookE hA47 8 (e11 rfl (es rfl l8_42))
    have l9_47 := lookE hA47 9 (e11 rfl (es rfl l9_42))
    have l10_47 := lookE hA47 10 (e11 rfl (es rfl l10_42))
    have l11_47 := lookE hA47 11 (et rfl)
    clear hA47 hsz42 hdf42 l3_42 l4_42 l7_42 l8_42 l9_42 l10_42
    have hS48 : St w NoX [cR_45, cP_45, cQ_45, cG_45, cR_40, cP_40, cQ_40, cG_40, c46, c41, c18, cR_16, cP_16, cQ_16, cG_16, c3, c2] w46 := hS46.sel [0, 1, 2, 3, 4, 5, 6, 7, 8, 13, 14, 15, 16, 17, 18, 19, 20] (by decide) rfl
    refine then_n (hK44 _ _ ?_)
    clear hK44
    refine wp_seq_k (fun K49 hK49 => ?_)
    refine wp_seq_k (fun K50 hK50 => ?_)
    refine region_in ?_
    refine W_r rfl rfl (VR_ldA rfl l8_47 (hS48.obj 9 rfl hc41) Try.underlying25 rfl (by kernel_rfl)) ?_
    refine W_v rfl rfl (V_mov rfl (es rfl l9_47)) ?_
    refine W_r rfl rfl (VR_ldA rfl (es rfl (es rfl l10_47)) (hS48.obj 8 rfl hc46) Try.underlying25 rfl (by kernel_rfl)) ?_
    refine W_v rfl rfl (V_mov rfl (e2 rfl (es rfl l11_47))) ?_
    refine W_call rfl rfl rfl Try.func37 (by kernel_rfl) rfl (args4 (e3 rfl (et rfl)) (e2 rfl (et rfl)) (es rfl (et rfl)) (et rfl)) (same_c (e1 := (ptE (O.map ab) rs [a, b] b f)) (f1 := (ptE (O.map ab) rs [a, b] b f)) (hS48.chC 4 rfl hcR_40).own (nst_of (hS48.chC 5 rfl hcP_40) (hS48.chC 6 rfl hcQ_40)) (hS48.chC 7 rfl hcG_40).own (hS48.chC 0 rfl hcR_45).own (nst_of (hS48.chC 1 rfl hcP_45) (hS48.chC 2 rfl hcQ_45)) (hS48.chC 3 rfl hcG_45).own ) ?_
    rintro _ w51 ⟨rfl, hP51⟩
    refine ⟨_, rfl, ?_⟩
    have hS51 := hS48.join hP51
    replace hS51 : St w NoX [cR_45, cP_45, cQ_45, cG_45, cR_40, cP_40, cQ_40, cG_40, c46, c41, c18, cR_16, cP_16, cQ_16, cG_16, c3, c2] w51 := hS51
    refine W_v rfl rfl (V_not rfl (et rfl)) ?_
    refine W_end ?_
    refine gen_Q (fun A52 hA52 => ?_)
    have hsz52 := szq hA52
    have hdf52 : A52.defers = [] := by rw [hA52]; simp only [df_put]; exact hdf47
    have l3_52 := lookE hA52 3 (e5 rfl (es rfl l3_47))
    have l4_52 := lookE hA52 4 (e5 rfl (es rfl l4_47))
    have l7_52 := lookE hA52 7 (e5 rfl (es rfl l7_47))
    have l8_52 := lookE hA52 8 (e5 rfl (es rfl l8_47))
    have l10_52 := lookE hA52 10 (e5 rfl (es rfl l10_47))
    have l76_52 := lookE hA52 76 (et rfl)
    clear hA52 hsz47 hdf47 l3_47 l4_47 l7_47 l8_47 l9_47 l10_47 l11_47
    refine then_n (hK50 _ _ ?_)
    clear hK50
    refine cond_not l76_52 (by simp only [hH_40, hH_45]; rw [sa_same rfl rfl rfl]; rfl) ?_
    refine wp_skip ?_
    refine then_n (hK49 _ _ ?_)
    clear hK49
    refine wp_seq_k (fun K53 hK53 => ?_)
    refine region_in ?_
    refine W_r rfl rfl (VR_ldA rfl l3_52 (hS51.obj 16 rfl hc2) Try.underlying25 rfl (by kernel_rfl)) ?_
    refine W_v rfl rfl (V_fa (off' := 0) rfl (es rfl l4_52) Try.underlying49 rfl (by decide +kernel) rfl) ?_
    refine W_r rfl rfl (VR_ldC rfl (et rfl) (cell_box (v := .int .i64 (a)) (hS51.obj 15 rfl hc3) rfl) Try.underlying3 rfl) ?_
    refine W_v rfl rfl (V_fa (off' := 2) rfl (e2 rfl (es rfl l4_52)) Try.underlying49 rfl (by decide +kernel) rfl) ?_
    refine W_r rfl rfl (VR_ldC rfl (et rfl) (cell_box (v := .int .i64 (f)) (hS51.obj 15 rfl hc3) rfl) Try.underlying3 rfl) ?_
    refine W_v rfl rfl (V_fa (off' := 1) rfl (e4 rfl (es rfl l4_52)) Try.underlying49 rfl (by decide +kernel) rfl) ?_
    refine W_r rfl rfl (VR_ldC rfl (et rfl) (cell_box (v := .int .i64 (b)) (hS51.obj 15 rfl hc3) rfl) Try.underlying3 rfl) ?_
    refine W_call rfl rfl rfl Try.func27 (by kernel_rfl) rfl (args4 (e6 rfl (et rfl)) (e4 rfl (et rfl)) (e2 rfl (et rfl)) (et rfl)) (kStore_c (a := a) (f := f) (b := b) (hS51.roC h_ov) (hS51.roC n_ov) (hS51.roC h_rv) (by first | with_reducible assumption)) ?_
    rintro _ w54 ⟨hv_54, H_54, qv_54, rfl, hH_54, hP54⟩
    refine ⟨_, rfl, ?_⟩
    obtain ⟨cR_54, cP_54, cQ_54, cG_54, hcR_54, hcP_54, hcQ_54, hcG_54, hP54⟩ := gen4 hP54
    have hS54 := hS51.join hP54
    replace hS54 : St w NoX [cR_54, cP_54, cQ_54, cG_54, cR_45, cP_45, cQ_45, cG_45, cR_40, cP_40, cQ_40, cG_40, c46, c41, c18, cR_16, cP_16, cQ_16, cG_16, c3, c2] w54 := hS54
    refine W_v rfl rfl (V_mov rfl (et rfl)) ?_
    refine W_v rfl rfl (V_ext (v := .agg #[hv_54, qv_54]) rfl (et rfl) rfl) ?_
    refine W_v rfl rfl (V_ext (v := .int .i64 ((ptE (O.map ab) rs [a, b] a f))) rfl (es rfl (et rfl)) rfl) ?_
    refine W_stAS 13 hS54 rfl hc41 rfl rfl rfl (e10 rfl (es rfl l8_52)) (es rfl (et rfl)) (by simp only [List.all_toArray, List.all_cons, List.all_nil, SlN_one (ow_at (hS54.chq 0 rfl hcR_54)), SlN_one (ow_at (hS54.chq 3 rfl hcG_54))] <;> rfl) (by rfl) (by kernel_rfl) (fun w55 c55 hc55 hS55 => ?_)
    replace hS55 : St w NoX [cR_54, cP_54, cQ_54, cG_54, cR_45, cP_45, cQ_45, cG_45, cR_40, cP_40, cQ_40, cG_40, c46, c55, c18, cR_16, cP_16, cQ_16, cG_16, c3, c2] w55 := hS55
    refine W_v rfl rfl (V_asg rfl (et rfl)) ?_
    refine W_end ?_
    refine gen_Q (fun A56 hA56 => ?_)
    have hsz56 := szq hA56
    have hdf56 : A56.defers = [] := by rw [hA56]; simp only [df_put]; exact hdf52
    have l3_56 := lookE hA56 3 (e11 rfl (es rfl l3_52))
    have l4_56 := lookE hA56 4 (e11 rfl (es rfl l4_52))
    have l7_56 := lookE hA56 7 (e11 rfl (es rfl l7_52))
    have l8_56 := lookE hA56 8 (e11 rfl (es rfl l8_52))
    have l9_56 := lookE hA56 9 (et rfl)
    have l10_56 := lookE hA56 10 (e11 rfl (es rfl l10_52))
    clear hA56 hsz52 hdf52 l3_52 l4_52 l7_52 l8_52 l10_52 l76_52
    have hS57 : St w NoX [cR_54, cP_54, cQ_54, cG_54, cR_45, cP_45, cQ_45, cG_45, c46, c55, c18, cR_16, cP_16, cQ_16, cG_16, c3, c2] w55 := hS55.sel [0, 1, 2, 3, 4, 5, 6, 7, 12, 13, 14, 15, 16, 17, 18, 19, 20] (by decide) rfl
    refine then_n (hK53 _ _ ?_)
    clear hK53
    refine wp_seq_k (fun K58 hK58 => ?_)
    refine region_in ?_
    refine W_r rfl rfl (VR_ldA rfl l3_56 (hS57.obj 16 rfl hc2) Try.underlying25 rfl (by kernel_rfl)) ?_
    refine W_v rfl rfl (V_fa (off' := 0) rfl (es rfl l4_56) Try.underlying49 rfl (by decide +kernel) rfl) ?_
    refine W_r rfl rfl (VR_ldC rfl (et rfl) (cell_box (v := .int .i64 (a)) (hS57.obj 15 rfl hc3) rfl) Try.underlying3 rfl) ?_
    refine W_v rfl rfl (V_fa (off' := 2) rfl (e2 rfl (es rfl l4_56)) Try.underlying49 rfl (by decide +kernel) rfl) ?_
    refine W_r rfl rfl (VR_ldC rfl (et rfl) (cell_box (v := .int .i64 (f)) (hS57.obj 15 rfl hc3) rfl) Try.underlying3 rfl) ?_
    refine W_v rfl rfl (V_fa (off' := 1) rfl (e4 rfl (es rfl l4_56)) Try.underlying49 rfl (by decide +kernel) rfl) ?_
    refine W_r rfl rfl (VR_ldC rfl (et rfl) (cell_box (v := .int .i64 (b)) (hS57.obj 15 rfl hc3) rfl) Try.underlying3 rfl) ?_
    refine W_call rfl rfl rfl Try.func39 (by kernel_rfl) rfl (args4 (e6 rfl (et rfl)) (e4 rfl (et rfl)) (e2 rfl (et rfl)) (et rfl)) (qStore_c (a := a) (f := f) (b := b) (hS57.roC h_ov) (hS57.roC n_ov) (hS57.roC h_rv) (by first | with_reducible assumption)) ?_
    rintro _ w59 ⟨hv_59, H_59, qv_59, rfl, hH_59, hP59⟩
    refine ⟨_, rfl, ?_⟩
    obtain ⟨cR_59, cP_59, cQ_59, cG_59, hcR_59, hcP_59, hcQ_59, hcG_59, hP59⟩ := gen4 hP59
    have hS59 := hS57.join hP59
    replace hS59 : St w NoX [cR_59, cP_59, cQ_59, cG_59, cR_54, cP_54, cQ_54, cG_54, cR_45, cP_45, cQ_45, cG_45, c46, c55, c18, cR_16, cP_16, cQ_16, cG_16, c3, c2] w59 := hS59
    refine W_v rfl rfl (V_mov rfl (et rfl)) ?_
    refine W_v rfl rfl (V_ext (v := .agg #[hv_59, qv_59]) rfl (et rfl) rfl) ?_
    refine W_v rfl rfl (V_ext (v := .int .i64 ((ptE (O.map ab) rs [a, b] a f))) rfl (es rfl (et rfl)) rfl) ?_
    refine W_stAS 12 hS59 rfl hc46 rfl rfl rfl (e10 rfl (es rfl l10_56)) (es rfl (et rfl)) (by simp only [List.all_toArray, List.all_cons, List.all_nil, SlN_one (ow_at (hS59.chq 0 rfl hcR_59)), SlN_one (ow_at (hS59.chq 3 rfl hcG_59))] <;> rfl) (by rfl) (by kernel_rfl) (fun w60 c60 hc60 hS60 => ?_)
    replace hS60 : St w NoX [cR_59, cP_59, cQ_59, cG_59, cR_54, cP_54, cQ_54, cG_54, cR_45, cP_45, cQ_45, cG_45, c60, c55, c18, cR_16, cP_16, cQ_16, cG_16, c3, c2] w60 := hS60
    refine W_v rfl rfl (V_asg rfl (et rfl)) ?_
    refine W_end ?_
    refine gen_Q (fun A61 hA61 => ?_)
    have hsz61 := szq hA61
    have hdf61 : A61.defers = [] := by rw [hA61]; simp only [df_put]; exact hdf56
    have l3_61 := lookE hA61 3 (e11 rfl (es rfl l3_56))
    have l4_61 := lookE hA61 4 (e11 rfl (es rfl l4_56))
    have l7_61 := lookE hA61 7 (e11 rfl (es rfl l7_56))
    have l8_61 := lookE hA61 8 (e11 rfl (es rfl l8_56))
    have l9_61 := lookE hA61 9 (e11 rfl (es rfl l9_56))
    have l10_61 := lookE hA61 10 (e11 rfl (es rfl l10_56))
    have l11_61 := lookE hA61 11 (et rfl)
    clear hA61 hsz56 hdf56 l3_56 l4_56 l7_56 l8_56 l9_56 l10_56
    have hS62 : St w NoX [cR_59, cP_59, cQ_59, cG_59, cR_54, cP_54, cQ_54, cG_54, c60, c55, c18, cR_16, cP_16, cQ_16, cG_16, c3, c2] w60 := hS60.sel [0, 1, 2, 3, 4, 5, 6, 7, 12, 13, 14, 15, 16, 17, 18, 19, 20] (by decide) rfl
    refine then_n (hK58 _ _ ?_)
    clear hK58
    refine wp_seq_k (fun K63 hK63 => ?_)
    refine wp_seq_k (fun K64 hK64 => ?_)
    refine region_in ?_
    refine W_r rfl rfl (VR_ldA rfl l8_61 (hS62.obj 9 rfl hc55) Try.underlying25 rfl (by kernel_rfl)) ?_
    refine W_v rfl rfl (V_mov rfl (es rfl l9_61)) ?_
    refine W_r rfl rfl (VR_ldA rfl (es rfl (es rfl l10_61)) (hS62.obj 8 rfl hc60) Try.underlying25 rfl (by kernel_rfl)) ?_
    refine W_v rfl rfl (V_mov rfl (e2 rfl (es rfl l11_61))) ?_
    refine W_call rfl rfl rfl Try.func37 (by kernel_rfl) rfl (args4 (e3 rfl (et rfl)) (e2 rfl (et rfl)) (es rfl (et rfl)) (et rfl)) (same_c (e1 := (ptE (O.map ab) rs [a, b] a f)) (f1 := (ptE (O.map ab) rs [a, b] a f)) (hS62.chC 4 rfl hcR_54).own (nst_of (hS62.chC 5 rfl hcP_54) (hS62.chC 6 rfl hcQ_54)) (hS62.chC 7 rfl hcG_54).own (hS62.chC 0 rfl hcR_59).own (nst_of (hS62.chC 1 rfl hcP_59) (hS62.chC 2 rfl hcQ_59)) (hS62.chC 3 rfl hcG_59).own ) ?_
    rintro _ w65 ⟨rfl, hP65⟩
    refine ⟨_, rfl, ?_⟩
    have hS65 := hS62.join hP65
    replace hS65 : St w NoX [cR_59, cP_59, cQ_59, cG_59, cR_54, cP_54, cQ_54, cG_54, c60, c55, c18, cR_16, cP_16, cQ_16, cG_16, c3, c2] w65 := hS65
    refine W_v rfl rfl (V_not rfl (et rfl)) ?_
    refine W_end ?_
    refine gen_Q (fun A66 hA66 => ?_)
    have hsz66 := szq hA66
    have hdf66 : A66.defers = [] := by rw [hA66]; simp only [df_put]; exact hdf61
    have l3_66 := lookE hA66 3 (e5 rfl (es rfl l3_61))
    have l4_66 := lookE hA66 4 (e5 rfl (es rfl l4_61))
    have l7_66 := lookE hA66 7 (e5 rfl (es rfl l7_61))
    have l8_66 := lookE hA66 8 (e5 rfl (es rfl l8_61))
    have l10_66 := lookE hA66 10 (e5 rfl (es rfl l10_61))
    have l104_66 := lookE hA66 104 (et rfl)
    clear hA66 hsz61 hdf61 l3_61 l4_61 l7_61 l8_61 l9_61 l10_61 l11_61
    refine then_n (hK64 _ _ ?_)
    clear hK64
    refine cond_not l104_66 (by simp only [hH_54, hH_59]; rw [sa_same rfl rfl rfl]; rfl) ?_
    refine wp_skip ?_
    refine then_n (hK63 _ _ ?_)
    clear hK63
    refine wp_seq_k (fun K67 hK67 => ?_)
    refine region_in ?_
    refine W_r rfl rfl (VR_ldA rfl l3_66 (hS65.obj 16 rfl hc2) Try.underlying25 rfl (by kernel_rfl)) ?_
    refine W_v rfl rfl (V_fa (off' := 0) rfl (es rfl l4_66) Try.underlying49 rfl (by decide +kernel) rfl) ?_
    refine W_r rfl rfl (VR_ldC rfl (et rfl) (cell_box (v := .int .i64 (a)) (hS65.obj 15 rfl hc3) rfl) Try.underlying3 rfl) ?_
    refine W_v rfl rfl (V_fa (off' := 2) rfl (e2 rfl (es rfl l4_66)) Try.underlying49 rfl (by decide +kernel) rfl) ?_
    refine W_r rfl rfl (VR_ldC rfl (et rfl) (cell_box (v := .int .i64 (f)) (hS65.obj 15 rfl hc3) rfl) Try.underlying3 rfl) ?_
    refine W_v rfl rfl (V_fa (off' := 3) rfl (e4 rfl (es rfl l4_66)) Try.underlying49 rfl (by decide +kernel) rfl) ?_
    refine W_r rfl rfl (VR_ldC rfl (et rfl) (cell_box (v := .int .u64 (x)) (hS65.obj 15 rfl hc3) rfl) Try.underlying45 rfl) ?_
    refine W_call rfl rfl rfl Try.func29 (by kernel_rfl) rfl (args4 (e6 rfl (et rfl)) (e4 rfl (et rfl)) (e2 rfl (et rfl)) (et rfl)) (kWrite_c (a := a) (f := f) (x := x) (hS65.roC h_ov) (hS65.roC n_ov) (hS65.roC h_rv) (by first | with_reducible assumption)) ?_
    rintro _ w68 ⟨hv_68, H_68, qv_68, rfl, hH_68, hP68⟩
    refine ⟨_, rfl, ?_⟩
    obtain ⟨cR_68, cP_68, cQ_68, cG_68, hcR_68, hcP_68, hcQ_68, hcG_68, hP68⟩ := gen4 hP68
    have hS68 := hS65.join hP68
    replace hS68 : St w NoX [cR_68, cP_68, cQ_68, cG_68, cR_59, cP_59, cQ_59, cG_59, cR_54, cP_54, cQ_54, cG_54, c60, c55, c18, cR_16, cP_16, cQ_16, cG_16, c3, c2] w68 := hS68
    refine W_v rfl rfl (V_mov rfl (et rfl)) ?_
    refine W_v rfl rfl (V_ext (v := .agg #[hv_68, qv_68]) rfl (et rfl) rfl) ?_
    refine W_v rfl rfl (V_ext (v := .int .i64 ((rwE (O.map ab) rs [a] a f))) rfl (es rfl (et rfl)) rfl) ?_
    refine W_stAS 13 hS68 rfl hc55 rfl rfl rfl (e10 rfl (es rfl l8_66)) (es rfl (et rfl)) (by simp only [List.all_toArray, List.all_cons, List.all_nil, SlN_one (ow_at (hS68.chq 0 rfl hcR_68)), SlN_one (ow_at (hS68.chq 3 rfl hcG_68))] <;> rfl) (by rfl) (by kernel_rfl) (fun w69 c69 hc69 hS69 => ?_)
    replace hS69 : St w NoX [cR_68, cP_68, cQ_68, cG_68, cR_59, cP_59, cQ_59, cG_59, cR_54, cP_54, cQ_54, cG_54, c60, c69, c18, cR_16, cP_16, cQ_16, cG_16, c3, c2] w69 := hS69
    refine W_v rfl rfl (V_asg rfl (et rfl)) ?_
    refine W_end ?_
    refine gen_Q (fun A70 hA70 => ?_)
    have hsz70 := szq hA70
    have hdf70 : A70.defers = [] := by rw [hA70]; simp only [df_put]; exact hdf66
    have l3_70 := lookE hA70 3 (e11 rfl (es rfl l3_66))
    have l4_70 := lookE hA70 4 (e11 rfl (es rfl l4_66))
    have l7_70 := lookE hA70 7 (e11 rfl (es rfl l7_66))
    have l8_70 := lookE hA70 8 (e11 rfl (es rfl l8_66))
    have l9_70 := lookE hA70 9 (et rfl)
    have l10_70 := lookE hA70 10 (e11 rfl (es rfl l10_66))
    clear hA70 hsz66 hdf66 l3_66 l4_66 l7_66 l8_66 l10_66 l104_66
    have hS71 : St w NoX [cR_68, cP_68, cQ_68, cG_68, cR_59, cP_59, cQ_59, cG_59, c60, c69, c18, cR_16, cP_16, cQ_16, cG_16, c3, c2] w69 := hS69.sel [0, 1, 2, 3, 4, 5, 6, 7, 12, 13, 14, 15, 16, 17, 18, 19, 20] (by decide) rfl
    refine then_n (hK67 _ _ ?_)
    clear hK67
    refine wp_seq_k (fun K72 hK72 => ?_)
    refine region_in ?_
    refine W_r rfl rfl (VR_ldA rfl l3_70 (hS71.obj 16 rfl hc2) Try.underlying25 rfl (by kernel_rfl)) ?_
    refine W_v rfl rfl (V_fa (off' := 0) rfl (es rfl l4_70) Try.underlying49 rfl (by decide +kernel) rfl) ?_
    refine W_r rfl rfl (VR_ldC rfl (et rfl) (cell_box (v := .int .i64 (a)) (hS71.obj 15 rfl hc3) rfl) Try.underlying3 rfl) ?_
    refine W_v rfl rfl (V_fa (off' := 2) rfl (e2 rfl (es rfl l4_70)) Try.underlying49 rfl (by decide +kernel) rfl) ?_
    refine W_r rfl rfl (VR_ldC rfl (et rfl) (cell_box (v := .int .i64 (f)) (hS71.obj 15 rfl hc3) rfl) Try.underlying3 rfl) ?_
    refine W_v rfl rfl (V_fa (off' := 3) rfl (e4 rfl (es rfl l4_70)) Try.underlying49 rfl (by decide +kernel) rfl) ?_
    refine W_r rfl rfl (VR_ldC rfl (et rfl) (cell_box (v := .int .u64 (x)) (hS71.obj 15 rfl hc3) rfl) Try.underlying45 rfl) ?_
    refine W_call rfl rfl rfl Try.func40 (by kernel_rfl) rfl (args4 (e6 rfl (et rfl)) (e4 rfl (et rfl)) (e2 rfl (et rfl)) (et rfl)) (qWrite_c (a := a) (f := f) (x := x) (hS71.roC h_ov) (hS71.roC n_ov) (hS71.roC h_rv) (by first | with_reducible assumption)) ?_
    rintro _ w73 ⟨hv_73, H_73, qv_73, rfl, hH_73, hP73⟩
    refine ⟨_, rfl, ?_⟩
    obtain ⟨cR_73, cP_73, cQ_73, cG_73, hcR_73, hcP_73, hcQ_73, hcG_73, hP73⟩ := gen4 hP73
    have hS73 := hS71.join hP73
    replace hS73 : St w NoX [cR_73, cP_73, cQ_73, cG_73, cR_68, cP_68, cQ_68, cG_68, cR_59, cP_59, cQ_59, cG_59, c60, c69, c18, cR_16, cP_16, cQ_16, cG_16, c3, c2] w73 := hS73
    refine W_v rfl rfl (V_mov rfl (et rfl)) ?_
    refine W_v rfl rfl (V_ext (v := .agg #[hv_73, qv_73]) rfl (et rfl) rfl) ?_
    refine W_v rfl rfl (V_ext (v := .int .i64 ((rwE (O.map ab) rs [a] a f))) rfl (es rfl (et rfl)) rfl) ?_
    refine W_stAS 12 hS73 rfl hc60 rfl rfl rfl (e10 rfl (es rfl l10_70)) (es rfl (et rfl)) (by simp only [List.all_toArray, List.all_cons, List.all_nil, SlN_one (ow_at (hS73.chq 0 rfl hcR_73)), SlN_one (ow_at (hS73.chq 3 rfl hcG_73))] <;> rfl) (by rfl) (by kernel_rfl) (fun w74 c74 hc74 hS74 => ?_)
    replace hS74 : St w NoX [cR_73, cP_73, cQ_73, cG_73, cR_68, cP_68, cQ_68, cG_68, cR_59, cP_59, cQ_59, cG_59, c74, c69, c18, cR_16, cP_16, cQ_16, cG_16, c3, c2] w74 := hS74
    refine W_v rfl rfl (V_asg rfl (et rfl)) ?_
    refine W_end ?_
    refine gen_Q (fun A75 hA75 => ?_)
    have hsz75 := szq hA75
    have hdf75 : A75.defers = [] := by rw [hA75]; simp only [df_put]; exact hdf70
    have l3_75 := lookE hA75 3 (e11 rfl (es rfl l3_70))
    have l4_75 := lookE hA75 4 (e11 rfl (es rfl l4_70))
    have l7_75 := lookE hA75 7 (e11 rfl (es rfl l7_70))
    have l8_75 := lookE hA75 8 (e11 rfl (es rfl l8_70))
    have l9_75 := lookE hA75 9 (e11 rfl (es rfl l9_70))
    have l10_75 := lookE hA75 10 (e11 rfl (es rfl l10_70))
    have l11_75 := lookE hA75 11 (et rfl)
    clear hA75 hsz70 hdf70 l3_70 l4_70 l7_70 l8_70 l9_70 l10_70
    have hS76 : St w NoX [cR_73, cP_73, cQ_73, cG_73, cR_68, cP_68, cQ_68, cG_68, c74, c69, c18, cR_16, cP_16, cQ_16, cG_16, c3, c2] w74 := hS74.sel [0, 1, 2, 3, 4, 5, 6, 7, 12, 13, 14, 15, 16, 17, 18, 19, 20] (by decide) rfl
    refine then_n (hK72 _ _ ?_)
    clear hK72
    refine wp_seq_k (fun K77 hK77 => ?_)
    refine wp_seq_k (fun K78 hK78 => ?_)
    refine region_in ?_
    refine W_r rfl rfl (VR_ldA rfl l8_75 (hS76.obj 9 rfl hc69) Try.underlying25 rfl (by kernel_rfl)) ?_
    refine W_v rfl rfl (V_mov rfl (es rfl l9_75)) ?_
    refine W_r rfl rfl (VR_ldA rfl (es rfl (es rfl l10_75)) (hS76.obj 8 rfl hc74) Try.underlying25 rfl (by kernel_rfl)) ?_
    refine W_v rfl rfl (V_mov rfl (e2 rfl (es rfl l11_75))) ?_
    refine W_call rfl rfl rfl Try.func37 (by kernel_rfl) rfl (args4 (e3 rfl (et rfl)) (e2 rfl (et rfl)) (es rfl (et rfl)) (et rfl)) (same_c (e1 := (rwE (O.map ab) rs [a] a f)) (f1 := (rwE (O.map ab) rs [a] a f)) (hS76.chC 4 rfl hcR_68).own (nst_of (hS76.chC 5 rfl hcP_68) (hS76.chC 6 rfl hcQ_68)) (hS76.chC 7 rfl hcG_68).own (hS76.chC 0 rfl hcR_73).own (nst_of (hS76.chC 1 rfl hcP_73) (hS76.chC 2 rfl hcQ_73)) (hS76.chC 3 rfl hcG_73).own ) ?_
    rintro _ w79 ⟨rfl, hP79⟩
    refine ⟨_, rfl, ?_⟩
    have hS79 := hS76.join hP79
    replace hS79 : St w NoX [cR_73, cP_73, cQ_73, cG_73, cR_68, cP_68, cQ_68, cG_68, c74, c69, c18, cR_16, cP_16, cQ_16, cG_16, c3, c2] w79 := hS79
    refine W_v rfl rfl (V_not rfl (et rfl)) ?_
    refine W_end ?_
    refine gen_Q (fun A80 hA80 => ?_)
    have hsz80 := szq hA80
    have hdf80 : A80.defers = [] := by rw [hA80]; simp only [df_put]; exact hdf75
    have l3_80 := lookE hA80 3 (e5 rfl (es rfl l3_75))
    have l4_80 := lookE hA80 4 (e5 rfl (es rfl l4_75))
    have l7_80 := lookE hA80 7 (e5 rfl (es rfl l7_75))
    have l8_80 := lookE hA80 8 (e5 rfl (es rfl l8_75))
    have l10_80 := lookE hA80 10 (e5 rfl (es rfl l10_75))
    have l132_80 := lookE hA80 132 (et rfl)
    clear hA80 hsz75 hdf75 l3_75 l4_75 l7_75 l8_75 l9_75 l10_75 l11_75
    refine then_n (hK78 _ _ ?_)
    clear hK78
    refine cond_not l132_80 (by simp only [hH_68, hH_73]; rw [sa_same rfl rfl rfl]; rfl) ?_
    refine wp_skip ?_
    refine then_n (hK77 _ _ ?_)
    clear hK77
    refine wp_seq_k (fun K81 hK81 => ?_)
    refine region_in ?_
    refine W_r rfl rfl (VR_ldA rfl l3_80 (hS79.obj 16 rfl hc2) Try.underlying25 rfl (by kernel_rfl)) ?_
    refine W_v rfl rfl (V_fa (off' := 0) rfl (es rfl l4_80) Try.underlying49 rfl (by decide +kernel) rfl) ?_
    refine W_r rfl rfl (VR_ldC rfl (et rfl) (cell_box (v := .int .i64 (a)) (hS79.obj 15 rfl hc3) rfl) Try.underlying3 rfl) ?_
    refine W_v rfl rfl (V_fa (off' := 1) rfl (e2 rfl (es rfl l4_80)) Try.underlying49 rfl (by decide +kernel) rfl) ?_
    refine W_r rfl rfl (VR_ldC rfl (et rfl) (cell_box (v := .int .i64 (b)) (hS79.obj 15 rfl hc3) rfl) Try.underlying3 rfl) ?_
    refine W_call rfl rfl rfl Try.func41 (by kernel_rfl) rfl (args3 (e4 rfl (et rfl)) (e2 rfl (et rfl)) (et rfl)) (kMove_c (a := a) (b := b) (hS79.roC h_ov) (hS79.roC n_ov) (hS79.roC h_rv) (by first | with_reducible assumption)) ?_
    rintro _ w82 ⟨hv_82, H_82, qv_82, rfl, hH_82, hP82⟩
    refine ⟨_, rfl, ?_⟩
    obtain ⟨cR_82, cP_82, cQ_82, cG_82, hcR_82, hcP_82, hcQ_82, hcG_82, hP82⟩ := gen4 hP82
    have hS82 := hS79.join hP82
    replace hS82 : St w NoX [cR_82, cP_82, cQ_82, cG_82, cR_73, cP_73, cQ_73, cG_73, cR_68, cP_68, cQ_68, cG_68, c74, c69, c18, cR_16, cP_16, cQ_16, cG_16, c3, c2] w82 := hS82
    refine W_v rfl rfl (V_mov rfl (et rfl)) ?_
    refine W_v rfl rfl (V_ext (v := .agg #[hv_82, qv_82]) rfl (et rfl) rfl) ?_
    refine W_v rfl rfl (V_ext (v := .int .i64 ((ckd (O.map ab) rs [a, b]))) rfl (es rfl (et rfl)) rfl) ?_
    refine W_stAS 13 hS82 rfl hc69 rfl rfl rfl (e8 rfl (es rfl l8_80)) (es rfl (et rfl)) (by simp only [List.all_toArray, List.all_cons, List.all_nil, SlN_one (ow_at (hS82.chq 0 rfl hcR_82)), SlN_one (ow_at (hS82.chq 3 rfl hcG_82))] <;> rfl) (by rfl) (by kernel_rfl) (fun w83 c83 hc83 hS83 => ?_)
    replace hS83 : St w NoX [cR_82, cP_82, cQ_82, cG_82, cR_73, cP_73, cQ_73, cG_73, cR_68, cP_68, cQ_68, cG_68, c74, c83, c18, cR_16, cP_16, cQ_16, cG_16, c3, c2] w83 := hS83
    refine W_v rfl rfl (V_asg rfl (et rfl)) ?_
    refine W_end ?_
    refine gen_Q (fun A84 hA84 => ?_)
    have hsz84 := szq hA84
    have hdf84 : A84.defers = [] := by rw [hA84]; simp only [df_put]; exact hdf80
    have l3_84 := lookE hA84 3 (e9 rfl (es rfl l3_80))
    have l4_84 := lookE hA84 4 (e9 rfl (es rfl l4_80))
    have l7_84 := lookE hA84 7 (e9 rfl (es rfl l7_80))
    have l8_84 := lookE hA84 8 (e9 rfl (es rfl l8_80))
    have l9_84 := lookE hA84 9 (et rfl)
    have l10_84 := lookE hA84 10 (e9 rfl (es rfl l10_80))
    clear hA84 hsz80 hdf80 l3_80 l4_80 l7_80 l8_80 l10_80 l132_80
    have hS85 : St w NoX [cR_82, cP_82, cQ_82, cG_82, cR_73, cP_73, cQ_73, cG_73, c74, c83, c18, cR_16, cP_16, cQ_16, cG_16, c3, c2] w83 := hS83.sel [0, 1, 2, 3, 4, 5, 6, 7, 12, 13, 14, 15, 16, 17, 18, 19, 20] (by decide) rfl
    refine then_n (hK81 _ _ ?_)
    clear hK81
    refine wp_seq_k (fun K86 hK86 => ?_)
    refine region_in ?_
    refine W_r rfl rfl (VR_ldA rfl l3_84 (hS85.obj 16 rfl hc2) Try.underlying25 rfl (by kernel_rfl)) ?_
    refine W_v rfl rfl (V_fa (off' := 0) rfl (es rfl l4_84) Try.underlying49 rfl (by decide +kernel) rfl) ?_
    refine W_r rfl rfl (VR_ldC rfl (et rfl) (cell_box (v := .int .i64 (a)) (hS85.obj 15 rfl hc3) rfl) Try.underlying3 rfl) ?_
    refine W_v rfl rfl (V_fa (off' := 1) rfl (e2 rfl (es rfl l4_84)) Try.underlying49 rfl (by decide +kernel) rfl) ?_
    refine W_r rfl rfl (VR_ldC rfl (et rfl) (cell_box (v := .int .i64 (b)) (hS85.obj 15 rfl hc3) rfl) Try.underlying3 rfl) ?_
    refine W_call rfl rfl rfl Try.func42 (by kernel_rfl) rfl (args3 (e4 rfl (et rfl)) (e2 rfl (et rfl)) (et rfl)) (qMove_c (a := a) (b := b) (hS85.roC h_ov) (hS85.roC n_ov) (hS85.roC h_rv) (by first | with_reducible assumption)) ?_
    rintro _ w87 ⟨hv_87, H_87, qv_87, rfl, hH_87, hP87⟩
    refine ⟨_, rfl, ?_⟩
    obtain ⟨cR_87, cP_87, cQ_87, cG_87, hcR_87, hcP_87, hcQ_87, hcG_87, hP87⟩ := gen4 hP87
    have hS87 := hS85.join hP87
    replace hS87 : St w NoX [cR_87, cP_87, cQ_87, cG_87, cR_82, cP_82, cQ_82, cG_82, cR_73, cP_73, cQ_73, cG_73, c74, c83, c18, cR_16, cP_16, cQ_16, cG_16, c3, c2] w87 := hS87
    refine W_v rfl rfl (V_mov rfl (et rfl)) ?_
    refine W_v rfl rfl (V_ext (v := .agg #[hv_87, qv_87]) rfl (et rfl) rfl) ?_
    refine W_v rfl rfl (V_ext (v := .int .i64 ((ckd (O.map ab) rs [a, b]))) rfl (es rfl (et rfl)) rfl) ?_
    refine W_stAS 12 hS87 rfl hc74 rfl rfl rfl (e8 rfl (es rfl l10_84)) (es rfl (et rfl)) (by simp only [List.all_toArray, List.all_cons, List.all_nil, SlN_one (ow_at (hS87.chq 0 rfl hcR_87)), SlN_one (ow_at (hS87.chq 3 rfl hcG_87))] <;> rfl) (by rfl) (by kernel_rfl) (fun w88 c88 hc88 hS88 => ?_)
    replace hS88 : St w NoX [cR_87, cP_87, cQ_87, cG_87, cR_82, cP_82, cQ_82, cG_82, cR_73, cP_73, cQ_73, cG_73, c88, c83, c18, cR_16, cP_16, cQ_16, cG_16, c3, c2] w88 := hS88
    refine W_v rfl rfl (V_asg rfl (et rfl)) ?_
    refine W_end ?_
    refine gen_Q (fun A89 hA89 => ?_)
    have hsz89 := szq hA89
    have hdf89 : A89.defers = [] := by rw [hA89]; simp only [df_put]; exact hdf84
    have l3_89 := lookE hA89 3 (e9 rfl (es rfl l3_84))
    have l4_89 := lookE hA89 4 (e9 rfl (es rfl l4_84))
    have l7_89 := lookE hA89 7 (e9 rfl (es rfl l7_84))
    have l8_89 := lookE hA89 8 (e9 rfl (es rfl l8_84))
    have l9_89 := lookE hA89 9 (e9 rfl (es rfl l9_84))
    have l10_89 := lookE hA89 10 (e9 rfl (es rfl l10_84))
    have l11_89 := lookE hA89 11 (et rfl)
    clear hA89 hsz84 hdf84 l3_84 l4_84 l7_84 l8_84 l9_84 l10_84
    have hS90 : St w NoX [cR_87, cP_87, cQ_87, cG_87, cR_82, cP_82, cQ_82, cG_82, c88, c83, c18, cR_16, cP_16, cQ_16, cG_16, c3, c2] w88 := hS88.sel [0, 1, 2, 3, 4, 5, 6, 7, 12, 13, 14, 15, 16, 17, 18, 19, 20] (by decide) rfl
    refine then_n (hK86 _ _ ?_)
    clear hK86
    refine wp_seq_k (fun K91 hK91 => ?_)
    refine region_in ?_
    refine W_r rfl rfl (VR_ldA rfl l3_89 (hS90.obj 16 rfl hc2) Try.underlying25 rfl (by kernel_rfl)) ?_
    refine W_v rfl rfl (V_fa (off' := 0) rfl (es rfl l4_89) Try.underlying49 rfl (by decide +kernel) rfl) ?_
    refine W_r rfl rfl (VR_ldC rfl (et rfl) (cell_box (v := .int .i64 (a)) (hS90.obj 15 rfl hc3) rfl) Try.underlying3 rfl) ?_
    refine W_call rfl rfl rfl Try.func24 (by kernel_rfl) rfl (args2 (e2 rfl (et rfl)) (et rfl)) (kClear_c (a := a) (hS90.roC h_ov) (hS90.roC n_ov) (hS90.roC h_rv) (by first | with_reducible assumption)) ?_
    rintro _ w92 ⟨hv_92, H_92, qv_92, rfl, hH_92, hP92⟩
    refine ⟨_, rfl, ?_⟩
    obtain ⟨cR_92, cP_92, cQ_92, cG_92, hcR_92, hcP_92, hcQ_92, hcG_92, hP92⟩ := gen4 hP92
    have hS92 := hS90.join hP92
    replace hS92 : St w NoX [cR_92, cP_92, cQ_92, cG_92, cR_87, cP_87, cQ_87, cG_87, cR_82, cP_82, cQ_82, cG_82, c88, c83, c18, cR_16, cP_16, cQ_16, cG_16, c3, c2] w92 := hS92
    refine W_v rfl rfl (V_mov rfl (et rfl)) ?_
    refine W_v rfl rfl (V_ext (v := .agg #[hv_92, qv_92]) rfl (et rfl) rfl) ?_
    refine W_v rfl rfl (V_ext (v := .int .i64 ((ckd (O.map ab) rs [a]))) rfl (es rfl (et rfl)) rfl) ?_
    refine W_allocS (z := .agg #[.slice none 0 0, .slice none 0 0]) (zs := #[.slice none 0 0, .slice none 0 0]) hS92 rfl rfl rfl (by kernel_rfl) (by rfl) (fun g93 w93 c93 hc93 hS93 => ?_)
    replace hS93 : St w NoX [c93, cR_92, cP_92, cQ_92, cG_92, cR_87, cP_87, cQ_87, cG_87, cR_82, cP_82, cQ_82, cG_82, c88, c83, c18, cR_16, cP_16, cQ_16, cG_16, c3, c2] w93 := hS93
    refine W_stAS 0 hS93 rfl hc93 rfl rfl rfl (et rfl) (e2 rfl (et rfl)) (by simp only [List.all_toArray, List.all_cons, List.all_nil, SlN_one (ow_at (hS93.chq 1 rfl hcR_92)), SlN_one (ow_at (hS93.chq 4 rfl hcG_92))] <;> rfl) (by rfl) (by kernel_rfl) (fun w94 c94 hc94 hS94 => ?_)
    replace hS94 : St w NoX [c94, cR_92, cP_92, cQ_92, cG_92, cR_87, cP_87, cQ_87, cG_87, cR_82, cP_82, cQ_82, cG_82, c88, c83, c18, cR_16, cP_16, cQ_16, cG_16, c3, c2] w94 := hS94
    refine W_v rfl rfl (V_asg rfl (es rfl (et rfl))) ?_
    refine W_end ?_
    refine gen_Q (fun A95 hA95 => ?_)
    have hsz95 := szq hA95
    have hdf95 : A95.defers = [] := by rw [hA95]; simp only [df_put]; exact hdf89
    have l3_95 := lookE hA95 3 (e8 rfl (es rfl l3_89))
    have l4_95 := lookE hA95 4 (e8 rfl (es rfl l4_89))
    have l7_95 := lookE hA95 7 (e8 rfl (es rfl l7_89))
    have l8_95 := lookE hA95 8 (e8 rfl (es rfl l8_89))
    have l9_95 := lookE hA95 9 (e8 rfl (es rfl l9_89))
    have l10_95 := lookE hA95 10 (e8 rfl (es rfl l10_89))
    have l11_95 := lookE hA95 11 (e8 rfl (es rfl l11_89))
    have l12_95 := lookE hA95 12 (es rfl (et rfl))
    have l13_95 := lookE hA95 13 (et rfl)
    clear hA95 hsz89 hdf89 l3_89 l4_89 l7_89 l8_89 l9_89 l10_89 l11_89
    refine then_n (hK91 _ _ ?_)
    clear hK91
    refine wp_seq_k (fun K96 hK96 => ?_)
    refine region_in ?_
    refine W_r rfl rfl (VR_ldA rfl l3_95 (hS94.obj 21 rfl hc2) Try.underlying25 rfl (by kernel_rfl)) ?_
    refine W_v rfl rfl (V_fa (off' := 0) rfl (es rfl l4_95) Try.underlying49 rfl (by decide +kernel) rfl) ?_
    refine W_r rfl rfl (VR_ldC rfl (et rfl) (cell_box (v := .int .i64 (a)) (hS94.obj 20 rfl hc3) rfl) Try.underlying3 rfl) ?_
    refine W_call rfl rfl rfl Try.func43 (by kernel_rfl) rfl (args2 (e2 rfl (et rfl)) (et rfl)) (qClear_c (a := a) (hS94.roC h_ov) (hS94.roC n_ov) (hS94.roC h_rv) (by first | with_reducible assumption)) ?_
    rintro _ w97 ⟨hv_97, H_97, qv_97, rfl, hH_97, hP97⟩
    refine ⟨_, rfl, ?_⟩
    obtain ⟨cR_97, cP_97, cQ_97, cG_97, hcR_97, hcP_97, hcQ_97, hcG_97, hP97⟩ := gen4 hP97
    have hS97 := hS94.join hP97
    replace hS97 : St w NoX [cR_97, cP_97, cQ_97, cG_97, c94, cR_92, cP_92, cQ_92, cG_92, cR_87, cP_87, cQ_87, cG_87, cR_82, cP_82, cQ_82, cG_82, c88, c83, c18, cR_16, cP_16, cQ_16, cG_16, c3, c2] w97 := hS97
    refine W_v rfl rfl (V_mov rfl (et rfl)) ?_
    refine W_v rfl rfl (V_ext (v := .agg #[hv_97, qv_97]) rfl (et rfl) rfl) ?_
    refine W_v rfl rfl (V_ext (v := .int .i64 ((ckd (O.map ab) rs [a]))) rfl (es rfl (et rfl)) rfl) ?_
    refine W_allocS (z := .agg #[.slice none 0 0, .slice none 0 0]) (zs := #[.slice none 0 0, .slice none 0 0]) hS97 rfl rfl rfl (by kernel_rfl) (by rfl) (fun g98 w98 c98 hc98 hS98 => ?_)
    replace hS98 : St w NoX [c98, cR_97, cP_97, cQ_97, cG_97, c94, cR_92, cP_92, cQ_92, cG_92, cR_87, cP_87, cQ_87, cG_87, cR_82, cP_82, cQ_82, cG_82, c88, c83, c18, cR_16, cP_16, cQ_16, cG_16, c3, c2] w98 := hS98
    refine W_stAS 0 hS98 rfl hc98 rfl rfl rfl (et rfl) (e2 rfl (et rfl)) (by simp only [List.all_toArray, List.all_cons, List.all_nil, SlN_one (ow_at (hS98.chq 1 rfl hcR_97)), SlN_one (ow_at (hS98.chq 4 rfl hcG_97))] <;> rfl) (by rfl) (by kernel_rfl) (fun w99 c99 hc99 hS99 => ?_)
    replace hS99 : St w NoX [c99, cR_97, cP_97, cQ_97, cG_97, c94, cR_92, cP_92, cQ_92, cG_92, cR_87, cP_87, cQ_87, cG_87, cR_82, cP_82, cQ_82, cG_82, c88, c83, c18, cR_16, cP_16, cQ_16, cG_16, c3, c2] w99 := hS99
    refine W_v rfl rfl (V_asg rfl (es rfl (et rfl))) ?_
    refine W_end ?_
    refine gen_Q (fun A100 hA100 => ?_)
    have hsz100 := szq hA100
    have hdf100 : A100.defers = [] := by rw [hA100]; simp only [df_put]; exact hdf95
    have l3_100 := lookE hA100 3 (e8 rfl (es rfl l3_95))
    have l7_100 := lookE hA100 7 (e8 rfl (es rfl l7_95))
    have l8_100 := lookE hA100 8 (e8 rfl (es rfl l8_95))
    have l9_100 := lookE hA100 9 (e8 rfl (es rfl l9_95))
    have l10_100 := lookE hA100 10 (e8 rfl (es rfl l10_95))
    have l11_100 := lookE hA100 11 (e8 rfl (es rfl l11_95))
    have l12_100 := lookE hA100 12 (e8 rfl (es rfl l12_95))
    have l13_100 := lookE hA100 13 (e8 rfl (es rfl l13_95))
    have l14_100 := lookE hA100 14 (es rfl (et rfl))
    have l15_100 := lookE hA100 15 (et rfl)
    clear hA100 hsz95 hdf95 l3_95 l4_95 l7_95 l8_95 l9_95 l10_95 l11_95 l12_95 l13_95
    have hS101 : St w NoX [c99, cR_97, cP_97, cQ_97, cG_97, c94, cR_92, cP_92, cQ_92, cG_92, cR_87, cP_87, cQ_87, cG_87, cR_82, cP_82, cQ_82, cG_82, c88, c83, c18, cR_16, cP_16, cQ_16, cG_16, c2] w99 := hS99.sel [0, 1, 2, 3, 4, 5, 6, 7, 8, 9, 10, 11, 12, 13, 14, 15, 16, 17, 18, 19, 20, 21, 22, 23, 24, 26] (by decide) rfl
    refine then_n (hK96 _ _ ?_)
    clear hK96
    refine wp_seq_k (fun K102 hK102 => ?_)
    refine region_in ?_
    refine W_r rfl rfl (VR_ldA rfl l8_100 (hS101.obj 19 rfl hc83) Try.underlying25 rfl (by kernel_rfl)) ?_
    refine W_v rfl rfl (V_mov rfl (es rfl l9_100)) ?_
    refine W_r rfl rfl (VR_ldA rfl (es rfl (es rfl l10_100)) (hS101.obj 18 rfl hc88) Try.underlying25 rfl (by kernel_rfl)) ?_
    refine W_v rfl rfl (V_mov rfl (e2 rfl (es rfl l11_100))) ?_
    refine W_call rfl rfl rfl Try.func37 (by kernel_rfl) rfl (args4 (e3 rfl (et rfl)) (e2 rfl (et rfl)) (es rfl (et rfl)) (et rfl)) (same_c (e1 := (ckd (O.map ab) rs [a, b])) (f1 := (ckd (O.map ab) rs [a, b])) (hS101.chC 14 rfl hcR_82).own (nst_of (hS101.chC 15 rfl hcP_82) (hS101.chC 16 rfl hcQ_82)) (hS101.chC 17 rfl hcG_82).own (hS101.chC 10 rfl hcR_87).own (nst_of (hS101.chC 11 rfl hcP_87) (hS101.chC 12 rfl hcQ_87)) (hS101.chC 13 rfl hcG_87).own ) ?_
    rintro _ w103 ⟨rfl, hP103⟩
    refine ⟨_, rfl, ?_⟩
    have hS103 := hS101.join hP103
    replace hS103 : St w NoX [c99, cR_97, cP_97, cQ_97, cG_97, c94, cR_92, cP_92, cQ_92, cG_92, cR_87, cP_87, cQ_87, cG_87, cR_82, cP_82, cQ_82, cG_82, c88, c83, c18, cR_16, cP_16, cQ_16, cG_16, c2] w103 := hS103
    refine W_sure (c' := true) rfl rfl (V_mov rfl (et rfl)) (by simp only [hH_82, hH_87]; exact sa_same rfl rfl rfl) ?_
    refine W_r rfl (wanted_t rfl rfl (et rfl) (ez rfl)) (VR_ldA rfl (e5 rfl (es rfl l12_100)) (hS103.obj 5 rfl hc94) Try.underlying25 rfl (by kernel_rfl)) ?_
    refine W_v rfl (wanted_t rfl rfl (es rfl (et rfl)) (ez rfl)) (V_mov rfl (e6 rfl (es rfl l13_100))) ?_
    refine W_r rfl (wanted_t rfl rfl (e2 rfl (et rfl)) (ez rfl)) (VR_ldA rfl (e7 rfl (es rfl l14_100)) (hS103.obj 0 rfl hc99) Try.underlying25 rfl (by kernel_rfl)) ?_
    refine W_v rfl (wanted_t rfl rfl (e3 rfl (et rfl)) (ez rfl)) (V_mov rfl (e8 rfl (es rfl l15_100))) ?_
    refine W_call rfl (wanted_t rfl rfl (e4 rfl (et rfl)) (ez rfl)) rfl Try.func37 (by kernel_rfl) rfl (args4 (e3 rfl (et rfl)) (e2 rfl (et rfl)) (es rfl (et rfl)) (et rfl)) (same_c (e1 := (ckd (O.map ab) rs [a])) (f1 := (ckd (O.map ab) rs [a])) (hS103.chC 6 rfl hcR_92).own (nst_of (hS103.chC 7 rfl hcP_92) (hS103.chC 8 rfl hcQ_92)) (hS103.chC 9 rfl hcG_92).own (hS103.chC 1 rfl hcR_97).own (nst_of (hS103.chC 2 rfl hcP_97) (hS103.chC 3 rfl hcQ_97)) (hS103.chC 4 rfl hcG_97).own ) ?_
    rintro _ w104 ⟨rfl, hP104⟩
    refine ⟨_, rfl, ?_⟩
    have hS104 := hS103.join hP104
    replace hS104 : St w NoX [c99, cR_97, cP_97, cQ_97, cG_97, c94, cR_92, cP_92, cQ_92, cG_92, cR_87, cP_87, cQ_87, cG_87, cR_82, cP_82, cQ_82, cG_82, c88, c83, c18, cR_16, cP_16, cQ_16, cG_16, c2] w104 := hS104
    refine W_v rfl rfl (V_pickT rfl (e5 rfl (et rfl)) (et rfl)) ?_
    refine W_sure (c' := true) rfl rfl (V_mov rfl (et rfl)) (by simp only [hH_92, hH_97]; exact sa_same rfl rfl rfl) ?_
    refine W_r rfl (wanted_t rfl rfl (et rfl) (ez rfl)) (VR_ldA rfl (e12 rfl (es rfl l3_100)) (hS104.obj 25 rfl hc2) Try.underlying25 rfl (by kernel_rfl)) ?_
    refine W_r rfl (wanted_t rfl rfl (es rfl (et rfl)) (ez rfl)) (VR_ldA rfl (e13 rfl (es rfl l7_100)) (hS104.obj 20 rfl hc18) Try.underlying25 rfl (by kernel_rfl)) ?_
    refine W_call rfl (wanted_t rfl rfl (e2 rfl (et rfl)) (ez rfl)) rfl Try.func16 (by kernel_rfl) rfl (args2 (es rfl (et rfl)) (et rfl)) (qsm_c (hS104.roC h_ov) (hS104.roC n_ov) (hS104.roC h_rv) (hS104.chC 21 rfl hcR_16).own (nst_of (hS104.chC 22 rfl hcP_16) (hS104.chC 23 rfl hcQ_16)) (hS104.chC 24 rfl hcG_16).own ) ?_
    rintro _ w105 ⟨rfl, hP105⟩
    refine ⟨_, rfl, ?_⟩
    have hS105 := hS104.join hP105
    replace hS105 : St w NoX [c99, cR_97, cP_97, cQ_97, cG_97, c94, cR_92, cP_92, cQ_92, cG_92, cR_87, cP_87, cQ_87, cG_87, cR_82, cP_82, cQ_82, cG_82, c88, c83, c18, cR_16, cP_16, cQ_16, cG_16, c2] w105 := hS105
    refine W_v rfl rfl (V_pickT rfl (e3 rfl (et rfl)) (et rfl)) ?_
    refine W_sure (c' := true) rfl rfl (V_mov rfl (et rfl)) (by simp only [hH_16]; exact sm_same rfl rfl) ?_
    refine W_call rfl (wanted_t rfl rfl (et rfl) (ez rfl)) rfl Try.func11 (by kernel_rfl) rfl (args0) (shown_c  ) ?_
    rintro _ w106 ⟨rfl, hP106⟩
    refine ⟨_, rfl, ?_⟩
    have hS106 := hS105.join hP106
    replace hS106 : St w NoX [c99, cR_97, cP_97, cQ_97, cG_97, c94, cR_92, cP_92, cQ_92, cG_92, cR_87, cP_87, cQ_87, cG_87, cR_82, cP_82, cQ_82, cG_82, c88, c83, c18, cR_16, cP_16, cQ_16, cG_16, c2] w106 := hS106
    refine W_v rfl rfl (V_pickT rfl (es rfl (et rfl)) (et rfl)) ?_
    refine W_v rfl rfl (V_asg rfl (et rfl)) ?_
    refine W_end ?_
    refine gen_Q (fun A107 hA107 => ?_)
    have hsz107 := szq hA107
    have hdf107 : A107.defers = [] := by rw [hA107]; simp only [df_put]; exact hdf100
    have l6_107 := lookE hA107 6 (et rfl)
    clear hA107 hsz100 hdf100 l3_100 l7_100 l8_100 l9_100 l10_100 l11_100 l12_100 l13_100 l14_100 l15_100
    have hS108 : St w NoX [] w106 := hS106.sel [] (by decide) rfl
    refine then_n (hK102 _ _ ?_)
    clear hK102
    refine wp_ret ?_
    refine ret_in (results_1 Try.results8 (rv_tmp l6_107)) hdf107 ?_
    -- leaf F
    exact ⟨rfl, hS108.fin0⟩

end Go.Proofs.Ytdilbnmaihmgnaa