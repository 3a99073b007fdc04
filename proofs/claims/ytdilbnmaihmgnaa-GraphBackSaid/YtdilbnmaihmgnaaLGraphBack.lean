import Derived.Test.YtdilbnmaihmgnaaProg
import Derived.Test.YtdilbnmaihmgnaaGh10
import Derived.Test.YtdilbnmaihmgnaaPl15k
namespace Go.Proofs.Ytdilbnmaihmgnaa
open Go.RowKit Go.Own Go.Own.R Go.Own.G Go.Own.Gr


set_option maxHeartbeats 4000000 in
theorem GraphBack_c {ov : Value} {O : List Ob} {rv : Value} {rs : List Int} {a : Int} {b : Int} {f : Int} {x : Int} {w : World} (h_ov : Ro w NoX (rl 2 obC ov O)) (n_ov : Ro w NoX (nst O)) (h_rv : Ro w NoX (il .i64 rv rs)) (hbulk : ∀ o ∈ (O.map ab), o.1.length ≤ 17592186044416 ∧ o.2.length ≤ 17592186044416) :
    Calls Try.prog 6 #[.agg #[ov, rv], .agg #[.int .i64 a, .int .i64 b, .int .i64 f, .int .u64 x]] w fun e w' => e = .returned (.bool true) ∧ St w NoX [] w' := by
  refine calls_in 140 Try.func6 rfl rfl (by simp) (fun A0 hsz0 hdf0 hargs => ?_)
  have l0_0 := hargs 0 (.agg #[ov, rv]) rfl
  have l1_0 := hargs 1 (.agg #[.int .i64 a, .int .i64 b, .int .i64 f, .int .u64 x]) rfl
  clear hargs; replace hsz0 : SzN A0 140 := ⟨hsz0⟩
  have hS := St.nil w
  have bh_ov := SlN.le (sl_SlN h_ov.at)
  have bh_rv := SlN.le (sl_SlN h_rv.at)
  refine wp_seq_k (fun K1 hK1 => ?_)
  -- region 0
  refine region_in ?_
  refine W_boxS (zs := #[ov, rv]) hS rfl rfl rfl l0_0 (by rfl) (fun g2 w2 c2 hc2 hS2 => ?_)
  replace hS2 : St w NoX [c2] w2 := hS2
  refine W_boxS (zs := #[.int .i64 (a), .int .i64 (b), .int .i64 (f), .int .u64 (x)]) hS2 rfl rfl rfl (es rfl l1_0) (by rfl) (fun g3 w3 c3 hc3 hS3 => ?_)
  replace hS3 : St w NoX [c3, c2] w3 := hS3
  refine W_v rfl rfl (V_asg rfl rfl) ?_
  refine W_end ?_
  refine gen_Q (fun A4 hA4 => ?_)
  have hsz4 : SzN A4 140 := by rw [hA4]; infer_instance
  have hdf4 : A4.defers = [] := by rw [hA4]; simp only [df_put]; exact hdf0
  have l2_4 := lookE hA4 2 (es rfl (es rfl (et rfl)))
  have l3_4 := lookE hA4 3 (es rfl (et rfl))
  clear hA4 hsz0 hdf0 l0_0 l1_0
  refine then_n (hK1 _ _ ?_)
  clear hK1
  refine wp_seq_k (fun K5 hK5 => ?_)
  refine wp_seq_k (fun K6 hK6 => ?_)
  -- region 1
  refine region_in ?_
  refine W_r rfl rfl (VR_ldA rfl l2_4 (hS3.obj 1 rfl hc2) Try.underlying25 rfl (by kernel_rfl)) ?_
  refine W_call rfl rfl rfl Try.func10 (by kernel_rfl) rfl (args1 (et rfl)) (far_c (hS3.roC h_ov) (hS3.roC n_ov) (hS3.roC h_rv) (by first | with_reducible assumption)) ?_
  rintro _ w7 ⟨rfl, hP7⟩
  refine ⟨_, rfl, ?_⟩
  have hS7 := hS3.join hP7
  replace hS7 : St w NoX [c3, c2] w7 := hS7
  refine W_end ?_
  refine gen_Q (fun A8 hA8 => ?_)
  have hsz8 : SzN A8 140 := by rw [hA8]; infer_instance
  have hdf8 : A8.defers = [] := by rw [hA8]; simp only [df_put]; exact hdf4
  have l2_8 := lookE hA8 2 (es rfl (es rfl l2_4))
  have l3_8 := lookE hA8 3 (es rfl (es rfl l3_4))
  have l19_8 := lookE hA8 19 (et rfl)
  clear hA8 hsz4 hdf4 l2_4 l3_4
  refine then_n (hK6 _ _ ?_)
  clear hK6
  refine cond_b l19_8 (fun c9 => ?_) (fun c9 => ?_)
  · skip
    refine wp_seq_k (fun K10 hK10 => ?_)
    -- region 2
    refine region_in ?_
    refine W_call rfl rfl rfl Try.func11 (by kernel_rfl) rfl (args0) (shown_c  ) ?_
    rintro _ w11 ⟨rfl, hP11⟩
    refine ⟨_, rfl, ?_⟩
    have hS11 := hS7.join hP11
    replace hS11 : St w NoX [c3, c2] w11 := hS11
    refine W_v rfl rfl (V_asg rfl (et rfl)) ?_
    refine W_end ?_
    refine gen_Q (fun A12 hA12 => ?_)
    have hsz12 : SzN A12 140 := by rw [hA12]; infer_instance
    have hdf12 : A12.defers = [] := by rw [hA12]; simp only [df_put]; exact hdf8
    have l4_12 := lookE hA12 4 (et rfl)
    clear hA12 hsz8 hdf8 l2_8 l3_8 l19_8
    have hS13 : St w NoX [] w11 := hS11.sel [] (by decide) rfl
    refine then_n (hK10 _ _ ?_)
    clear hK10
    refine wp_ret ?_
    refine then_ret ?_
    refine ret_in (results_1 Try.results6 (rv_tmp l4_12)) hdf12 ?_
    -- leaf T
    exact ⟨rfl, hS13.fin0⟩
  · skip
    have hfar := far_no c9
    have hsm := hfar.2.2.2.1
    have hfr := hfar.1
    have hfo := hfar.2.1
    rw [List.length_map] at hfo
    refine wp_skip ?_
    refine then_n (hK5 _ _ ?_)
    clear hK5
    refine wp_seq_k (fun K14 hK14 => ?_)
    -- region 3
    refine region_in ?_
    refine W_r rfl rfl (VR_ldA rfl l2_8 (hS7.obj 1 rfl hc2) Try.underlying25 rfl (by kernel_rfl)) ?_
    refine W_v rfl rfl (V_fa (off' := 0) rfl (es rfl l3_8) Try.underlying49 rfl (by decide +kernel) rfl) ?_
    refine W_r rfl rfl (VR_ldC rfl (et rfl) (cell_box (v := .int .i64 (a)) (hS7.obj 0 rfl hc3) rfl) Try.underlying3 rfl) ?_
    refine W_v rfl rfl (V_fa (off' := 2) rfl (es rfl (es rfl (es rfl l3_8))) Try.underlying49 rfl (by decide +kernel) rfl) ?_
    refine W_r rfl rfl (VR_ldC rfl (et rfl) (cell_box (v := .int .i64 (f)) (hS7.obj 0 rfl hc3) rfl) Try.underlying3 rfl) ?_
    refine W_v rfl rfl (V_fa (off' := 1) rfl (es rfl (es rfl (es rfl (es rfl (es rfl l3_8))))) Try.underlying49 rfl (by decide +kernel) rfl) ?_
    refine W_r rfl rfl (VR_ldC rfl (et rfl) (cell_box (v := .int .i64 (b)) (hS7.obj 0 rfl hc3) rfl) Try.underlying3 rfl) ?_
    refine W_call rfl rfl rfl Try.func27 (by kernel_rfl) rfl (args4 (es rfl (es rfl (es rfl (es rfl (es rfl (es rfl (et rfl))))))) (es rfl (es rfl (es rfl (es rfl (et rfl))))) (es rfl (es rfl (et rfl))) (et rfl)) (kStore_c (a := a) (f := f) (b := b) (hS7.roC h_ov) (hS7.roC n_ov) (hS7.roC h_rv) (by first | with_reducible assumption)) ?_
    rintro _ w15 ⟨hv_15, H_15, qv_15, rfl, hH_15, hP15⟩
    refine ⟨_, rfl, ?_⟩
    obtain ⟨cR_15, cP_15, cQ_15, cG_15, hcR_15, hcP_15, hcQ_15, hcG_15, hP15⟩ := gen4 hP15
    have hS15 := hS7.join hP15
    replace hS15 : St w NoX [cR_15, cP_15, cQ_15, cG_15, c3, c2] w15 := hS15
    refine W_v rfl rfl (V_mov rfl (et rfl)) ?_
    refine W_v rfl rfl (V_ext (v := .agg #[hv_15, qv_15]) rfl (et rfl) rfl) ?_
    refine W_v rfl rfl (V_ext (v := .int .i64 ((ptE (O.map ab) rs [a, b] a f))) rfl (es rfl (et rfl)) rfl) ?_
    refine W_allocS (z := .agg #[.slice none 0 0, .slice none 0 0]) (zs := #[.slice none 0 0, .slice none 0 0]) hS15 rfl rfl rfl (by kernel_rfl) (by rfl) (fun g16 w16 c16 hc16 hS16 => ?_)
    replace hS16 : St w NoX [c16, cR_15, cP_15, cQ_15, cG_15, c3, c2] w16 := hS16
    refine W_stAS 0 hS16 rfl hc16 rfl rfl rfl (et rfl) (es rfl (es rfl (et rfl))) (by simp only [List.all_toArray, List.all_cons, List.all_nil, SlN_one (ow_at (hS16.chq 1 rfl hcR_15)), SlN_one (ow_at (hS16.chq 4 rfl hcG_15))] <;> rfl) (by rfl) (by kernel_rfl) (fun w17 c17 hc17 hS17 => ?_)
    replace hS17 : St w NoX [c17, cR_15, cP_15, cQ_15, cG_15, c3, c2] w17 := hS17
    refine W_v rfl rfl (V_asg rfl (es rfl (et rfl))) ?_
    refine W_end ?_
    refine gen_Q (fun A18 hA18 => ?_)
    have hsz18 : SzN A18 140 := by rw [hA18]; infer_instance
    have hdf18 : A18.defers = [] := by rw [hA18]; simp only [df_put]; exact hdf8
    have l2_18 := lookE hA18 2 (es rfl (es rfl (es rfl (es rfl (es rfl (es rfl (es rfl (es rfl (es rfl (es rfl (es rfl (es rfl (es rfl l2_8)))))))))))))
    have l3_18 := lookE hA18 3 (es rfl (es rfl (es rfl (es rfl (es rfl (es rfl (es rfl (es rfl (es rfl (es rfl (es rfl (es rfl (es rfl l3_8)))))))))))))
    have l5_18 := lookE hA18 5 (es rfl (et rfl))
    have l6_18 := lookE hA18 6 (et rfl)
    clear hA18 hsz8 hdf8 l2_8 l3_8 l19_8
    refine then_n (hK14 _ _ ?_)
    clear hK14
    refine wp_seq_k (fun K19 hK19 => ?_)
    refine wp_seq_k (fun K20 hK20 => ?_)
    -- region 4
    refine region_in ?_
    refine W_v rfl rfl (V_mov rfl l6_18) ?_
    refine W_v rfl rfl (V_eql rfl (et rfl) rfl) ?_
    refine W_end ?_
    refine gen_Q (fun A21 hA21 => ?_)
    have hsz21 : SzN A21 140 := by rw [hA21]; infer_instance
    have hdf21 : A21.defers = [] := by rw [hA21]; simp only [df_put]; exact hdf18
    have l2_21 := lookE hA21 2 (es rfl (es rfl l2_18))
    have l3_21 := lookE hA21 3 (es rfl (es rfl l3_18))
    have l5_21 := lookE hA21 5 (es rfl (es rfl l5_18))
    have l33_21 := lookE hA21 33 (et rfl)
    clear hA21 hsz18 hdf18 l2_18 l3_18 l5_18 l6_18
    refine then_n (hK20 _ _ ?_)
    clear hK20
    refine cond_dec l33_21 (fun c22 => ?_) (fun c22 => ?_)
    · skip
      have hE := by simpa using c22
      have hB := bk_store hE
      have hsm_s : SM (H_15.map ab) := by rw [hH_15]; exact (so_good hE).2.2.2.2.2.2.2.1 hsm
      refine wp_seq_k (fun K23 hK23 => ?_)
      -- region 5
      refine region_in ?_
      refine W_r rfl rfl (VR_ldA rfl l5_21 (hS17.obj 0 rfl hc17) Try.underlying25 rfl (by kernel_rfl)) ?_
      refine W_v rfl rfl (V_fa (off' := 1) rfl (es rfl l3_21) Try.underlying49 rfl (by decide +kernel) rfl) ?_
      refine W_r rfl rfl (VR_ldC rfl (et rfl) (cell_box (v := .int .i64 (b)) (hS17.obj 5 rfl hc3) rfl) Try.underlying3 rfl) ?_
      refine W_v rfl rfl (V_fa (off' := 0) rfl (es rfl (es rfl (es rfl l3_21))) Try.underlying49 rfl (by decide +kernel) rfl) ?_
      refine W_r rfl rfl (VR_ldC rfl (et rfl) (cell_box (v := .int .i64 (a)) (hS17.obj 5 rfl hc3) rfl) Try.underlying3 rfl) ?_
      refine W_v rfl rfl (V_fa (off' := 2) rfl (es rfl (es rfl (es rfl (es rfl (es rfl l3_21))))) Try.underlying49 rfl (by decide +kernel) rfl) ?_
      refine W_r rfl rfl (VR_ldC rfl (et rfl) (cell_box (v := .int .i64 (f)) (hS17.obj 5 rfl hc3) rfl) Try.underlying3 rfl) ?_
      refine W_call rfl rfl rfl Try.func25 (by kernel_rfl) rfl (args4 (es rfl (es rfl (es rfl (es rfl (es rfl (es rfl (et rfl))))))) (es rfl (es rfl (es rfl (es rfl (et rfl))))) (es rfl (es rfl (et rfl))) (et rfl)) (kLoad_c (a := b) (b := a) (f := f) (hS17.chC 1 rfl hcR_15).own (nst_of (hS17.chC 2 rfl hcP_15) (hS17.chC 3 rfl hcQ_15)) (hS17.chC 4 rfl hcG_15).own (by first | with_reducible assumption)) ?_
      rintro _ w24 ⟨hv_24, H_24, qv_24, rfl, hH_24, hP24⟩
      refine ⟨_, rfl, ?_⟩
      obtain ⟨cR_24, cP_24, cQ_24, cG_24, hcR_24, hcP_24, hcQ_24, hcG_24, hP24⟩ := gen4 hP24
      have hS24 := hS17.join hP24
      replace hS24 : St w NoX [cR_24, cP_24, cQ_24, cG_24, c17, cR_15, cP_15, cQ_15, cG_15, c3, c2] w24 := hS24
      refine W_v rfl rfl (V_mov rfl (et rfl)) ?_
      refine W_v rfl rfl (V_ext (v := .agg #[hv_24, qv_24]) rfl (et rfl) rfl) ?_
      refine W_v rfl rfl (V_ext (v := .int .i64 ((ptE (H_15.map ab) (soR (O.map ab) rs a f b) [b, a] a f))) rfl (es rfl (et rfl)) rfl) ?_
      refine W_allocS (z := .agg #[.slice none 0 0, .slice none 0 0]) (zs := #[.slice none 0 0, .slice none 0 0]) hS24 rfl rfl rfl (by kernel_rfl) (by rfl) (fun g25 w25 c25 hc25 hS25 => ?_)
      replace hS25 : St w NoX [c25, cR_24, cP_24, cQ_24, cG_24, c17, cR_15, cP_15, cQ_15, cG_15, c3, c2] w25 := hS25
      refine W_stAS 0 hS25 rfl hc25 rfl rfl rfl (et rfl) (es rfl (es rfl (et rfl))) (by simp only [List.all_toArray, List.all_cons, List.all_nil, SlN_one (ow_at (hS25.chq 1 rfl hcR_24)), SlN_one (ow_at (hS25.chq 4 rfl hcG_24))] <;> rfl) (by rfl) (by kernel_rfl) (fun w26 c26 hc26 hS26 => ?_)
      replace hS26 : St w NoX [c26, cR_24, cP_24, cQ_24, cG_24, c17, cR_15, cP_15, cQ_15, cG_15, c3, c2] w26 := hS26
      refine W_v rfl rfl (V_asg rfl (es rfl (et rfl))) ?_
      refine W_end ?_
      refine gen_Q (fun A27 hA27 => ?_)
      have hsz27 : SzN A27 140 := by rw [hA27]; infer_instance
      have hdf27 : A27.defers = [] := by rw [hA27]; simp only [df_put]; exact hdf21
      have l2_27 := lookE hA27 2 (es rfl (es rfl (es rfl (es rfl (es rfl (es rfl (es rfl (es rfl (es rfl (es rfl (es rfl (es rfl (es rfl l2_21)))))))))))))
      have l3_27 := lookE hA27 3 (es rfl (es rfl (es rfl (es rfl (es rfl (es rfl (es rfl (es rfl (es rfl (es rfl (es rfl (es rfl (es rfl l3_21)))))))))))))
      have l5_27 := lookE hA27 5 (es rfl (es rfl (es rfl (es rfl (es rfl (es rfl (es rfl (es rfl (es rfl (es rfl (es rfl (es rfl (es rfl l5_21)))))))))))))
      have l7_27 := lookE hA27 7 (es rfl (et rfl))
      have l8_27 := lookE hA27 8 (et rfl)
      clear hA27 hsz21 hdf21 l2_21 l3_21 l5_21 l33_21
      refine then_n (hK23 _ _ ?_)
      clear hK23
      refine wp_seq_k (fun K28 hK28 => ?_)
      -- region 6
      refine region_in ?_
      refine W_r rfl rfl (VR_ldA rfl l5_27 (hS26.obj 5 rfl hc17) Try.underlying25 rfl (by kernel_rfl)) ?_
      refine W_v rfl rfl (V_fa (off' := 0) rfl (es rfl l3_27) Try.underlying49 rfl (by decide +kernel) rfl) ?_
      refine W_r rfl rfl (VR_ldC rfl (et rfl) (cell_box (v := .int .i64 (a)) (hS26.obj 10 rfl hc3) rfl) Try.underlying3 rfl) ?_
      refine W_v rfl rfl (V_fa (off' := 2) rfl (es rfl (es rfl (es rfl l3_27))) Try.underlying49 rfl (by decide +kernel) rfl) ?_
      refine W_r rfl rfl (VR_ldC rfl (et rfl) (cell_box (v := .int .i64 (f)) (hS26.obj 10 rfl hc3) rfl) Try.underlying3 rfl) ?_
      refine W_v rfl rfl (V_fa (off' := 1) rfl (es rfl (es rfl (es rfl (es rfl (es rfl l3_27))))) Try.underlying49 rfl (by decide +kernel) rfl) ?_
      refine W_r rfl rfl (VR_ldC rfl (et rfl) (cell_box (v := .int .i64 (b)) (hS26.obj 10 rfl hc3) rfl) Try.underlying3 rfl) ?_
      refine W_call rfl rfl rfl Try.func27 (by kernel_rfl) rfl (args4 (es rfl (es rfl (es rfl (es rfl (es rfl (es rfl (et rfl))))))) (es rfl (es rfl (es rfl (es rfl (et rfl))))) (es rfl (es rfl (et rfl))) (et rfl)) (kStore_c (a := a) (f := f) (b := b) (hS26.chC 6 rfl hcR_15).own (nst_of (hS26.chC 7 rfl hcP_15) (hS26.chC 8 rfl hcQ_15)) (hS26.chC 9 rfl hcG_15).own (by first | with_reducible assumption)) ?_
      rintro _ w29 ⟨hv_29, H_29, qv_29, rfl, hH_29, hP29⟩
      refine ⟨_, rfl, ?_⟩
      obtain ⟨cR_29, cP_29, cQ_29, cG_29, hcR_29, hcP_29, hcQ_29, hcG_29, hP29⟩ := gen4 hP29
      have hS29 := hS26.join hP29
      replace hS29 : St w NoX [cR_29, cP_29, cQ_29, cG_29, c26, cR_24, cP_24, cQ_24, cG_24, c17, cR_15, cP_15, cQ_15, cG_15, c3, c2] w29 := hS29
      refine W_v rfl rfl (V_mov rfl (et rfl)) ?_
      refine W_v rfl rfl (V_ext (v := .agg #[hv_29, qv_29]) rfl (et rfl) rfl) ?_
      refine W_v rfl rfl (V_ext (v := .int .i64 ((ptE (H_15.map ab) (soR (O.map ab) rs a f b) [a, b] a f))) rfl (es rfl (et rfl)) rfl) ?_
      refine W_allocS (z := .agg #[.slice none 0 0, .slice none 0 0]) (zs := #[.slice none 0 0, .slice none 0 0]) hS29 rfl rfl rfl (by kernel_rfl) (by rfl) (fun g30 w30 c30 hc30 hS30 => ?_)
      replace hS30 : St w NoX [c30, cR_29, cP_29, cQ_29, cG_29, c26, cR_24, cP_24, cQ_24, cG_24, c17, cR_15, cP_15, cQ_15, cG_15, c3, c2] w30 := hS30
      refine W_stAS 0 hS30 rfl hc30 rfl rfl rfl (et rfl) (es rfl (es rfl (et rfl))) (by simp only [List.all_toArray, List.all_cons, List.all_nil, SlN_one (ow_at (hS30.chq 1 rfl hcR_29)), SlN_one (ow_at (hS30.chq 4 rfl hcG_29))] <;> rfl) (by rfl) (by kernel_rfl) (fun w31 c31 hc31 hS31 => ?_)
      replace hS31 : St w NoX [c31, cR_29, cP_29, cQ_29, cG_29, c26, cR_24, cP_24, cQ_24, cG_24, c17, cR_15, cP_15, cQ_15, cG_15, c3, c2] w31 := hS31
      refine W_v rfl rfl (V_asg rfl (es rfl (et rfl))) ?_
      refine W_end ?_
      refine gen_Q (fun A32 hA32 => ?_)
      have hsz32 : SzN A32 140 := by rw [hA32]; infer_instance
      have hdf32 : A32.defers = [] := by rw [hA32]; simp only [df_put]; exact hdf27
      have l2_32 := lookE hA32 2 (es rfl (es rfl (es rfl (es rfl (es rfl (es rfl (es rfl (es rfl (es rfl (es rfl (es rfl (es rfl (es rfl l2_27)))))))))))))
      have l3_32 := lookE hA32 3 (es rfl (es rfl (es rfl (es rfl (es rfl (es rfl (es rfl (es rfl (es rfl (es rfl (es rfl (es rfl (es rfl l3_27)))))))))))))
      have l5_32 := lookE hA32 5 (es rfl (es rfl (es rfl (es rfl (es rfl (es rfl (es rfl (es rfl (es rfl (es rfl (es rfl (es rfl (es rfl l5_27)))))))))))))
      have l7_32 := lookE hA32 7 (es rfl (es rfl (es rfl (es rfl (es rfl (es rfl (es rfl (es rfl (es rfl (es rfl (es rfl (es rfl (es rfl l7_27)))))))))))))
      have l8_32 := lookE hA32 8 (es rfl (es rfl (es rfl (es rfl (es rfl (es rfl (es rfl (es rfl (es rfl (es rfl (es rfl (es rfl (es rfl l8_27)))))))))))))
      have l9_32 := lookE hA32 9 (es rfl (et rfl))
      have l10_32 := lookE hA32 10 (et rfl)
      clear hA32 hsz27 hdf27 l2_27 l3_27 l5_27 l7_27 l8_27
      refine then_n (hK28 _ _ ?_)
      clear hK28
      refine wp_seq_k (fun K33 hK33 => ?_)
      -- region 7
      refine region_in ?_
      refine W_v rfl rfl (V_mov rfl l8_32) ?_
      refine W_v rfl rfl (V_neq rfl (et rfl) rfl) ?_
      refine W_sure (c' := false) rfl rfl (V_mov rfl (et rfl)) (by rw [decide_eq_false_iff_not]; simp only [hH_15]; exact fun q => q hB.1) ?_
      refine W_r rfl (wanted_t rfl rfl (et rfl) (ez rfl)) (VR_ldA rfl (es rfl (es rfl (es rfl l7_32))) (hS31.obj 5 rfl hc26) Try.underlying25 rfl (by kernel_rfl)) ?_
      refine W_r rfl (wanted_t rfl rfl (es rfl (et rfl)) (ez rfl)) (VR_ldA rfl (es rfl (es rfl (es rfl (es rfl l5_32)))) (hS31.obj 10 rfl hc17) Try.underlying25 rfl (by kernel_rfl)) ?_
      refine W_call rfl (wanted_t rfl rfl (es rfl (es rfl (et rfl))) (ez rfl)) rfl Try.func16 (by kernel_rfl) rfl (args2 (es rfl (et rfl)) (et rfl)) (qsm_c (hS31.chC 6 rfl hcR_24).own (nst_of (hS31.chC 7 rfl hcP_24) (hS31.chC 8 rfl hcQ_24)) (hS31.chC 9 rfl hcG_24).own (hS31.chC 11 rfl hcR_15).own (nst_of (hS31.chC 12 rfl hcP_15) (hS31.chC 13 rfl hcQ_15)) (hS31.chC 14 rfl hcG_15).own ) ?_
      rintro _ w34 ⟨rfl, hP34⟩
      refine ⟨_, rfl, ?_⟩
      have hS34 := hS31.join hP34
      replace hS34 : St w NoX [c31, cR_29, cP_29, cQ_29, cG_29, c26, cR_24, cP_24, cQ_24, cG_24, c17, cR_15, cP_15, cQ_15, cG_15, c3, c2] w34 := hS34
      refine W_v rfl (wanted_t rfl rfl (es rfl (es rfl (es rfl (et rfl)))) (ez rfl)) (V_not rfl (et rfl)) ?_
      refine W_v rfl rfl (V_pickF rfl (es rfl (es rfl (es rfl (es rfl (et rfl))))) (et rfl)) ?_
      refine W_sure (c' := false) rfl rfl (V_mov rfl (et rfl)) (by simp only [hH_24, hH_15]; rw [sm_same hB.2.1 hB.2.2.1]; rfl) ?_
      refine W_v rfl (wanted_t rfl rfl (et rfl) (ez rfl)) (V_mov rfl (es rfl (es rfl (es rfl (es rfl (es rfl (es rfl (es rfl (es rfl (es rfl l10_32)))))))))) ?_
      refine W_v rfl (wanted_t rfl rfl (es rfl (et rfl)) (ez rfl)) (V_neq rfl (et rfl) rfl) ?_
      refine W_v rfl rfl (V_pickF rfl (es rfl (es rfl (et rfl))) (et rfl)) ?_
      refine W_sure (c' := false) rfl rfl (V_mov rfl (et rfl)) (by rw [decide_eq_false_iff_not]; simp only [hH_15]; exact fun q => q hB.2.2.2.1) ?_
      refine W_r rfl (wanted_t rfl rfl (et rfl) (ez rfl)) (VR_ldA rfl (es rfl (es rfl (es rfl (es rfl (es rfl (es rfl (es rfl (es rfl (es rfl (es rfl (es rfl (es rfl (es rfl l9_32))))))))))))) (hS34.obj 0 rfl hc31) Try.underlying25 rfl (by kernel_rfl)) ?_
      refine W_r rfl (wanted_t rfl rfl (es rfl (et rfl)) (ez rfl)) (VR_ldA rfl (es rfl (es rfl (es rfl (es rfl (es rfl (es rfl (es rfl (es rfl (es rfl (es rfl (es rfl (es rfl (es rfl (es rfl l5_32)))))))))))))) (hS34.obj 10 rfl hc17) Try.underlying25 rfl (by kernel_rfl)) ?_
      refine W_call rfl (wanted_t rfl rfl (es rfl (es rfl (et rfl))) (ez rfl)) rfl Try.func16 (by kernel_rfl) rfl (args2 (es rfl (et rfl)) (et rfl)) (qsm_c (hS34.chC 1 rfl hcR_29).own (nst_of (hS34.chC 2 rfl hcP_29) (hS34.chC 3 rfl hcQ_29)) (hS34.chC 4 rfl hcG_29).own (hS34.chC 11 rfl hcR_15).own (nst_of (hS34.chC 12 rfl hcP_15) (hS34.chC 13 rfl hcQ_15)) (hS34.chC 14 rfl hcG_15).own ) ?_
      rintro _ w35 ⟨rfl, hP35⟩
      refine ⟨_, rfl, ?_⟩
      have hS35 := hS34.join hP35
      replace hS35 : St w NoX [c31, cR_29, cP_29, cQ_29, cG_29, c26, cR_24, cP_24, cQ_24, cG_24, c17, cR_15, cP_15, cQ_15, cG_15, c3, c2] w35 := hS35
      refine W_v rfl (wanted_t rfl rfl (es rfl (es rfl (es rfl (et rfl)))) (ez rfl)) (V_not rfl (et rfl)) ?_
      refine W_v rfl rfl (V_pickF rfl (es rfl (es rfl (es rfl (es rfl (et rfl))))) (et rfl)) ?_
      refine W_end ?_
      refine gen_Q (fun A36 hA36 => ?_)
      have hsz36 : SzN A36 140 := by rw [hA36]; infer_instance
      have hdf36 : A36.defers = [] := by rw [hA36]; simp only [df_put]; exact hdf32
      have l2_36 := lookE hA36 2 (es rfl (es rfl (es rfl (es rfl (es rfl (es rfl (es rfl (es rfl (es rfl (es rfl (es rfl (es rfl (es rfl (es rfl (es rfl (es rfl (es rfl (es rfl l2_32))))))))))))))))))
      have l3_36 := lookE hA36 3 (es rfl (es rfl (es rfl (es rfl (es rfl (es rfl (es rfl (es rfl (es rfl (es rfl (es rfl (es rfl (es rfl (es rfl (es rfl (es rfl (es rfl (es rfl l3_32))))))))))))))))))
      have l73_36 := lookE hA36 73 (et rfl)
      clear hA36 hsz32 hdf32 l2_32 l3_32 l5_32 l7_32 l8_32 l9_32 l10_32
      have hS37 : St w NoX [c3, c2] w35 := hS35.sel [15, 16] (by decide) rfl
      refine then_n (hK33 _ _ ?_)
      clear hK33
      refine cond_not l73_36 (by simp only [hH_29, hH_15]; rw [sm_same hB.2.2.2.2.1 hB.2.2.2.2.2]; rfl) ?_
      refine wp_skip ?_
      refine then_n (hK19 _ _ ?_)
      clear hK19
      refine wp_seq_k (fun K38 hK38 => ?_)
      -- region 9
      refine region_in ?_
      refine W_r rfl rfl (VR_ldA rfl l2_36 (hS37.obj 1 rfl hc2) Try.underlying25 rfl (by kernel_rfl)) ?_
      refine W_v rfl rfl (V_fa (off' := 0) rfl (es rfl l3_36) Try.underlying49 rfl (by decide +kernel) rfl) ?_
      refine W_r rfl rfl (VR_ldC rfl (et rfl) (cell_box (v := .int .i64 (a)) (hS37.obj 0 rfl hc3) rfl) Try.underlying3 rfl) ?_
      refine W_v rfl rfl (V_fa (off' := 2) rfl (es rfl (es rfl (es rfl l3_36))) Try.underlying49 rfl (by decide +kernel) rfl) ?_
      refine W_r rfl rfl (VR_ldC rfl (et rfl) (cell_box (v := .int .i64 (f)) (hS37.obj 0 rfl hc3) rfl) Try.underlying3 rfl) ?_
      refine W_v rfl rfl (V_fa (off' := 3) rfl (es rfl (es rfl (es rfl (es rfl (es rfl l3_36))))) Try.underlying49 rfl (by decide +kernel) rfl) ?_
      refine W_r rfl rfl (VR_ldC rfl (et rfl) (cell_box (v := .int .u64 (x)) (hS37.obj 0 rfl hc3) rfl) Try.underlying45 rfl) ?_
      refine W_call rfl rfl rfl Try.func29 (by kernel_rfl) rfl (args4 (es rfl (es rfl (es rfl (es rfl (es rfl (es rfl (et rfl))))))) (es rfl (es rfl (es rfl (es rfl (et rfl))))) (es rfl (es rfl (et rfl))) (et rfl)) (kWrite_c (a := a) (f := f) (x := x) (hS37.roC h_ov) (hS37.roC n_ov) (hS37.roC h_rv) (by first | with_reducible assumption)) ?_
      rintro _ w39 ⟨hv_39, H_39, qv_39, rfl, hH_39, hP39⟩
      refine ⟨_, rfl, ?_⟩
      obtain ⟨cR_39, cP_39, cQ_39, cG_39, hcR_39, hcP_39, hcQ_39, hcG_39, hP39⟩ := gen4 hP39
      have hS39 := hS37.join hP39
      replace hS39 : St w NoX [cR_39, cP_39, cQ_39, cG_39, c3, c2] w39 := hS39
      refine W_v rfl rfl (V_mov rfl (et rfl)) ?_
      refine W_v rfl rfl (V_ext (v := .agg #[hv_39, qv_39]) rfl (et rfl) rfl) ?_
      refine W_v rfl rfl (V_ext (v := .int .i64 ((rwE (O.map ab) rs [a] a f))) rfl (es rfl (et rfl)) rfl) ?_
      refine W_allocS (z := .agg #[.slice none 0 0, .slice none 0 0]) (zs := #[.slice none 0 0, .slice none 0 0]) hS39 rfl rfl rfl (by kernel_rfl) (by rfl) (fun g40 w40 c40 hc40 hS40 => ?_)
      replace hS40 : St w NoX [c40, cR_39, cP_39, cQ_39, cG_39, c3, c2] w40 := hS40
      refine W_stAS 0 hS40 rfl hc40 rfl rfl rfl (et rfl) (es rfl (es rfl (et rfl))) (by simp only [List.all_toArray, List.all_cons, List.all_nil, SlN_one (ow_at (hS40.chq 1 rfl hcR_39)), SlN_one (ow_at (hS40.chq 4 rfl hcG_39))] <;> rfl) (by rfl) (by kernel_rfl) (fun w41 c41 hc41 hS41 => ?_)
      replace hS41 : St w NoX [c41, cR_39, cP_39, cQ_39, cG_39, c3, c2] w41 := hS41
      refine W_v rfl rfl (V_asg rfl (es rfl (et rfl))) ?_
      refine W_end ?_
      refine gen_Q (fun A42 hA42 => ?_)
      have hsz42 : SzN A42 140 := by rw [hA42]; infer_instance
      have hdf42 : A42.defers = [] := by rw [hA42]; simp only [df_put]; exact hdf36
      have l2_42 := lookE hA42 2 (es rfl (es rfl (es rfl (es rfl (es rfl (es rfl (es rfl (es rfl (es rfl (es rfl (es rfl (es rfl (es rfl l2_36)))))))))))))
      have l3_42 := lookE hA42 3 (es rfl (es rfl (es rfl (es rfl (es rfl (es rfl (es rfl (es rfl (es rfl (es rfl (es rfl (es rfl (es rfl l3_36)))))))))))))
      have l6_42 := lookE hA42 6 (et rfl)
      have l11_42 := lookE hA42 11 (es rfl (et rfl))
      clear hA42 hsz36 hdf36 l2_36 l3_36 l73_36
      refine then_n (hK38 _ _ ?_)
      clear hK38
      refine wp_seq_k (fun K43 hK43 => ?_)
      refine wp_seq_k (fun K44 hK44 => ?_)
      -- region 10
      refine region_in ?_
      refine W_v rfl rfl (V_mov rfl l6_42) ?_
      refine W_v rfl rfl (V_neq rfl (et rfl) rfl) ?_
      refine W_end ?_
      refine gen_Q (fun A45 hA45 => ?_)
      have hsz45 : SzN A45 140 := by rw [hA45]; infer_instance
      have hdf45 : A45.defers = [] := by rw [hA45]; simp only [df_put]; exact hdf42
      have l2_45 := lookE hA45 2 (es rfl (es rfl l2_42))
      have l3_45 := lookE hA45 3 (es rfl (es rfl l3_42))
      have l11_45 := lookE hA45 11 (es rfl (es rfl l11_42))
      have l86_45 := lookE hA45 86 (et rfl)
      clear hA45 hsz42 hdf42 l2_42 l3_42 l6_42 l11_42
      refine then_n (hK44 _ _ ?_)
      clear hK44
      refine cond_dec l86_45 (fun c46 => ?_) (fun c46 => ?_)
      · skip
        refine wp_seq_k (fun K47 hK47 => ?_)
        -- region 11
        refine region_in ?_
        refine W_call rfl rfl rfl Try.func11 (by kernel_rfl) rfl (args0) (shown_c  ) ?_
        rintro _ w48 ⟨rfl, hP48⟩
        refine ⟨_, rfl, ?_⟩
        have hS48 := hS41.join hP48
        replace hS48 : St w NoX [c41, cR_39, cP_39, cQ_39, cG_39, c3, c2] w48 := hS48
        refine W_v rfl rfl (V_asg rfl (et rfl)) ?_
        refine W_end ?_
        refine gen_Q (fun A49 hA49 => ?_)
        have hsz49 : SzN A49 140 := by rw [hA49]; infer_instance
        have hdf49 : A49.defers = [] := by rw [hA49]; simp only [df_put]; exact hdf45
        have l4_49 := lookE hA49 4 (et rfl)
        clear hA49 hsz45 hdf45 l2_45 l3_45 l11_45 l86_45
        have hS50 : St w NoX [] w48 := hS48.sel [] (by decide) rfl
        refine then_n (hK47 _ _ ?_)
        clear hK47
        refine wp_ret ?_
        refine then_ret ?_
        refine ret_in (results_1 Try.results6 (rv_tmp l4_49)) hdf49 ?_
        -- leaf FTT
        exact ⟨rfl, hS50.fin0⟩
      · skip
        have hW := by simpa using c46
        have hBW := bk_write (x := x) hW
        have hsm_w : SM (H_39.map ab) := by rw [hH_39]; exact (wr_good hW).2.2.2.2.2.2.1 hsm
        refine wp_skip ?_
        refine then_n (hK43 _ _ ?_)
        clear hK43
        refine wp_seq_k (fun K51 hK51 => ?_)
        -- region 12
        refine region_in ?_
        refine W_r rfl rfl (VR_ldA rfl l11_45 (hS41.obj 0 rfl hc41) Try.underlying25 rfl (by kernel_rfl)) ?_
        refine W_v rfl rfl (V_fa (off' := 0) rfl (es rfl l3_45) Try.underlying49 rfl (by decide +kernel) rfl) ?_
        refine W_r rfl rfl (VR_ldC rfl (et rfl) (cell_box (v := .int .i64 (a)) (hS41.obj 5 rfl hc3) rfl) Try.underlying3 rfl) ?_
        refine W_v rfl rfl (V_fa (off' := 2) rfl (es rfl (es rfl (es rfl l3_45))) Try.underlying49 rfl (by decide +kernel) rfl) ?_
        refine W_r rfl rfl (VR_ldC rfl (et rfl) (cell_box (v := .int .i64 (f)) (hS41.obj 5 rfl hc3) rfl) Try.underlying3 rfl) ?_
        refine W_call rfl rfl rfl Try.func26 (by kernel_rfl) rfl (args3 (es rfl (es rfl (es rfl (es rfl (et rfl))))) (es rfl (es rfl (et rfl))) (et rfl)) (kRd_c (a := a) (f := f) (hS41.chC 1 rfl hcR_39).own (nst_of (hS41.chC 2 rfl hcP_39) (hS41.chC 3 rfl hcQ_39)) (hS41.chC 4 rfl hcG_39).own ) ?_
        rintro _ w52 ⟨rfl, hP52⟩
        refine ⟨_, rfl, ?_⟩
        have hS52 := hS41.join hP52
        replace hS52 : St w NoX [c41, cR_39, cP_39, cQ_39, cG_39, c3, c2] w52 := hS52
        refine W_v rfl rfl (V_mov rfl (et rfl)) ?_
        refine W_v rfl rfl (V_ext (v := .int .u64 ((rdV (H_39.map ab) (wrR (O.map ab) rs a f) a f))) rfl (et rfl) rfl) ?_
        refine W_v rfl rfl (V_ext (v := .int .i64 ((rwE (H_39.map ab) (wrR (O.map ab) rs a f) [a] a f))) rfl (es rfl (et rfl)) rfl) ?_
        refine W_v rfl rfl (V_asg rfl (es rfl (et rfl))) ?_
        refine W_v rfl rfl (V_asg rfl (es rfl (et rfl))) ?_
        refine W_end ?_
        refine gen_Q (fun A53 hA53 => ?_)
        have hsz53 : SzN A53 140 := by rw [hA53]; infer_instance
        have hdf53 : A53.defers = [] := by rw [hA53]; simp only [df_put]; exact hdf45
        have l2_53 := lookE hA53 2 (es rfl (es rfl (es rfl (es rfl (es rfl (es rfl (es rfl (es rfl (es rfl (es rfl (es rfl l2_45)))))))))))
        have l3_53 := lookE hA53 3 (es rfl (es rfl (es rfl (es rfl (es rfl (es rfl (es rfl (es rfl (es rfl (es rfl (es rfl l3_45)))))))))))
        have l11_53 := lookE hA53 11 (es rfl (es rfl (es rfl (es rfl (es rfl (es rfl (es rfl (es rfl (es rfl (es rfl (es rfl l11_45)))))))))))
        have l12_53 := lookE hA53 12 (es rfl (et rfl))
        have l13_53 := lookE hA53 13 (et rfl)
        clear hA53 hsz45 hdf45 l2_45 l3_45 l11_45 l86_45
        refine then_n (hK51 _ _ ?_)
        clear hK51
        refine wp_seq_k (fun K54 hK54 => ?_)
        -- region 13
        refine region_in ?_
        refine W_r rfl rfl (VR_ldA rfl l2_53 (hS52.obj 6 rfl hc2) Try.underlying25 rfl (by kernel_rfl)) ?_
        refine W_v rfl rfl (V_fa (off' := 0) rfl (es rfl l3_53) Try.underlying49 rfl (by decide +kernel) rfl) ?_
        refine W_r rfl rfl (VR_ldC rfl (et rfl) (cell_box (v := .int .i64 (a)) (hS52.obj 5 rfl hc3) rfl) Try.underlying3 rfl) ?_
        refine W_v rfl rfl (V_fa (off' := 2) rfl (es rfl (es rfl (es rfl l3_53))) Try.underlying49 rfl (by decide +kernel) rfl) ?_
        refine W_r rfl rfl (VR_ldC rfl (et rfl) (cell_box (v := .int .i64 (f)) (hS52.obj 5 rfl hc3) rfl) Try.underlying3 rfl) ?_
        refine W_call rfl rfl rfl Try.func26 (by kernel_rfl) rfl (args3 (es rfl (es rfl (es rfl (es rfl (et rfl))))) (es rfl (es rfl (et rfl))) (et rfl)) (kRd_c (a := a) (f := f) (hS52.roC h_ov) (hS52.roC n_ov) (hS52.roC h_rv) ) ?_
        rintro _ w55 ⟨rfl, hP55⟩
        refine ⟨_, rfl, ?_⟩
        have hS55 := hS52.join hP55
        replace hS55 : St w NoX [c41, cR_39, cP_39, cQ_39, cG_39, c3, c2] w55 := hS55
        refine W_v rfl rfl (V_mov rfl (et rfl)) ?_
        refine W_v rfl rfl (V_ext (v := .int .u64 ((rdV (O.map ab) rs a f))) rfl (et rfl) rfl) ?_
        refine W_v rfl rfl (V_ext (v := .int .i64 ((rwE (O.map ab) rs [a] a f))) rfl (es rfl (et rfl)) rfl) ?_
        refine W_v rfl rfl (V_asg rfl (es rfl (et rfl))) ?_
        refine W_v rfl rfl (V_asg rfl (es rfl (et rfl))) ?_
        refine W_end ?_
        refine gen_Q (fun A56 hA56 => ?_)
        have hsz56 : SzN A56 140 := by rw [hA56]; infer_instance
        have hdf56 : A56.defers = [] := by rw [hA56]; simp only [df_put]; exact hdf53
        have l2_56 := lookE hA56 2 (es rfl (es rfl (es rfl (es rfl (es rfl (es rfl (es rfl (es rfl (es rfl (es rfl (es rfl l2_53)))))))))))
        have l3_56 := lookE hA56 3 (es rfl (es rfl (es rfl (es rfl (es rfl (es rfl (es rfl (es rfl (es rfl (es rfl (es rfl l3_53)))))))))))
        have l11_56 := lookE hA56 11 (es rfl (es rfl (es rfl (es rfl (es rfl (es rfl (es rfl (es rfl (es rfl (es rfl (es rfl l11_53)))))))))))
        have l12_56 := lookE hA56 12 (es rfl (es rfl (es rfl (es rfl (es rfl (es rfl (es rfl (es rfl (es rfl (es rfl (es rfl l12_53)))))))))))
        have l13_56 := lookE hA56 13 (es rfl (es rfl (es rfl (es rfl (es rfl (es rfl (es rfl (es rfl (es rfl (es rfl (es rfl l13_53)))))))))))
        have l14_56 := lookE hA56 14 (es rfl (et rfl))
        have l15_56 := lookE hA56 15 (et rfl)
        clear hA56 hsz53 hdf53 l2_53 l3_53 l11_53 l12_53 l13_53
        refine then_n (hK54 _ _ ?_)
        clear hK54
        refine wp_seq_k (fun K57 hK57 => ?_)
        -- region 14
        refine region_in ?_
        refine W_r rfl rfl (VR_ldA rfl l11_56 (hS55.obj 0 rfl hc41) Try.underlying25 rfl (by kernel_rfl)) ?_
        refine W_v rfl rfl (V_fa (off' := 0) rfl (es rfl l3_56) Try.underlying49 rfl (by decide +kernel) rfl) ?_
        refine W_r rfl rfl (VR_ldC rfl (et rfl) (cell_box (v := .int .i64 (a)) (hS55.obj 5 rfl hc3) rfl) Try.underlying3 rfl) ?_
        refine W_v rfl rfl (V_fa (off' := 2) rfl (es rfl (es rfl (es rfl l3_56))) Try.underlying49 rfl (by decide +kernel) rfl) ?_
        refine W_r rfl rfl (VR_ldC rfl (et rfl) (cell_box (v := .int .i64 (f)) (hS55.obj 5 rfl hc3) rfl) Try.underlying3 rfl) ?_
        refine W_v rfl rfl (V_mov rfl (es rfl (es rfl (es rfl (es rfl (es rfl l14_56)))))) ?_
        refine W_call rfl rfl rfl Try.func29 (by kernel_rfl) rfl (args4 (es rfl (es rfl (es rfl (es rfl (es rfl (et rfl)))))) (es rfl (es rfl (es rfl (et rfl)))) (es rfl (et rfl)) (et rfl)) (kWrite_c (a := a) (f := f) (x := (rdV (O.map ab) rs a f)) (hS55.chC 1 rfl hcR_39).own (nst_of (hS55.chC 2 rfl hcP_39) (hS55.chC 3 rfl hcQ_39)) (hS55.chC 4 rfl hcG_39).own (by first | with_reducible assumption)) ?_
        rintro _ w58 ⟨hv_58, H_58, qv_58, rfl, hH_58, hP58⟩
        refine ⟨_, rfl, ?_⟩
        obtain ⟨cR_58, cP_58, cQ_58, cG_58, hcR_58, hcP_58, hcQ_58, hcG_58, hP58⟩ := gen4 hP58
        have hS58 := hS55.join hP58
        replace hS58 : St w NoX [cR_58, cP_58, cQ_58, cG_58, c41, cR_39, cP_39, cQ_39, cG_39, c3, c2] w58 := hS58
        refine W_v rfl rfl (V_mov rfl (et rfl)) ?_
        refine W_v rfl rfl (V_ext (v := .agg #[hv_58, qv_58]) rfl (et rfl) rfl) ?_
        refine W_v rfl rfl (V_ext (v := .int .i64 ((rwE (H_39.map ab) (wrR (O.map ab) rs a f) [a] a f))) rfl (es rfl (et rfl)) rfl) ?_
        refine W_allocS (z := .agg #[.slice none 0 0, .slice none 0 0]) (zs := #[.slice none 0 0, .slice none 0 0]) hS58 rfl rfl rfl (by kernel_rfl) (by rfl) (fun g59 w59 c59 hc59 hS59 => ?_)
        replace hS59 : St w NoX [c59, cR_58, cP_58, cQ_58, cG_58, c41, cR_39, cP_39, cQ_39, cG_39, c3, c2] w59 := hS59
        refine W_stAS 0 hS59 rfl hc59 rfl rfl rfl (et rfl) (es rfl (es rfl (et rfl))) (by simp only [List.all_toArray, List.all_cons, List.all_nil, SlN_one (ow_at (hS59.chq 1 rfl hcR_58)), SlN_one (ow_at (hS59.chq 4 rfl hcG_58))] <;> rfl) (by rfl) (by kernel_rfl) (fun w60 c60 hc60 hS60 => ?_)
        replace hS60 : St w NoX [c60, cR_58, cP_58, cQ_58, cG_58, c41, cR_39, cP_39, cQ_39, cG_39, c3, c2] w60 := hS60
        refine W_v rfl rfl (V_asg rfl (es rfl (et rfl))) ?_
        refine W_end ?_
        refine gen_Q (fun A61 hA61 => ?_)
        have hsz61 : SzN A61 140 := by rw [hA61]; infer_instance
        have hdf61 : A61.defers = [] := by rw [hA61]; simp only [df_put]; exact hdf56
        have l2_61 := lookE hA61 2 (es rfl (es rfl (es rfl (es rfl (es rfl (es rfl (es rfl (es rfl (es rfl (es rfl (es rfl (es rfl l2_56))))))))))))
        have l3_61 := lookE hA61 3 (es rfl (es rfl (es rfl (es rfl (es rfl (es rfl (es rfl (es rfl (es rfl (es rfl (es rfl (es rfl l3_56))))))))))))
        have l12_61 := lookE hA61 12 (es rfl (es rfl (es rfl (es rfl (es rfl (es rfl (es rfl (es rfl (es rfl (es rfl (es rfl (es rfl l12_56))))))))))))
        have l13_61 := lookE hA61 13 (es rfl (es rfl (es rfl (es rfl (es rfl (es rfl (es rfl (es rfl (es rfl (es rfl (es rfl (es rfl l13_56))))))))))))
        have l15_61 := lookE hA61 15 (es rfl (es rfl (es rfl (es rfl (es rfl (es rfl (es rfl (es rfl (es rfl (es rfl (es rfl (es rfl l15_56))))))))))))
        have l16_61 := lookE hA61 16 (es rfl (et rfl))
        have l17_61 := lookE hA61 17 (et rfl)
        clear hA61 hsz56 hdf56 l2_56 l3_56 l11_56 l12_56 l13_56 l14_56 l15_56
        have hS62 : St w NoX [c60, cR_58, cP_58, cQ_58, cG_58, c3, c2] w60 := hS60.sel [0, 1, 2, 3, 4, 10, 11] (by decide) rfl
        refine then_n (hK57 _ _ ?_)
        clear hK57
        refine wp_seq_k (fun K63 hK63 => ?_)
        -- region 15
        refine region_in ?_
        refine W_v rfl rfl (V_mov rfl l12_61) ?_
        refine W_v rfl rfl (V_fa (off' := 3) rfl (es rfl l3_61) Try.underlying49 rfl (by decide +kernel) rfl) ?_
        refine W_r rfl rfl (VR_ldC rfl (et rfl) (cell_box (v := .int .u64 (x)) (hS62.obj 5 rfl hc3) rfl) Try.underlying45 rfl) ?_
        refine W_v rfl rfl (V_eql rfl (es rfl (es rfl (et rfl))) (et rfl)) ?_
        refine W_sure (c' := true) rfl rfl (V_mov rfl (et rfl)) (by rw [decide_eq_true_eq]; simp only [hH_39]; exact hBW.2.1) ?_
        refine W_v rfl (wanted_t rfl rfl (et rfl) (ez rfl)) (V_mov rfl (es rfl (es rfl (es rfl (es rfl (es rfl l13_61)))))) ?_
        refine W_v rfl (wanted_t rfl rfl (es rfl (et rfl)) (ez rfl)) (V_eql rfl (et rfl) rfl) ?_
        refine W_v rfl rfl (V_pickT rfl (es rfl (es rfl (et rfl))) (et rfl)) ?_
        refine W_sure (c' := true) rfl rfl (V_mov rfl (et rfl)) (by rw [decide_eq_true_eq]; simp only [hH_39]; exact hBW.1) ?_
        refine W_v rfl (wanted_t rfl rfl (et rfl) (ez rfl)) (V_mov rfl (es rfl (es rfl (es rfl (es rfl (es rfl (es rfl (es rfl (es rfl (es rfl l15_61)))))))))) ?_
        refine W_v rfl (wanted_t rfl rfl (es rfl (et rfl)) (ez rfl)) (V_eql rfl (et rfl) rfl) ?_
        refine W_v rfl rfl (V_pickT rfl (es rfl (es rfl (et rfl))) (et rfl)) ?_
        refine W_sure (c' := true) rfl rfl (V_mov rfl (et rfl)) (by first | (simp [c46]; done) | exact decide_eq_true (by omega) | exact decide_eq_false (by omega)) ?_
        refine W_v rfl (wanted_t rfl rfl (et rfl) (ez rfl)) (V_mov rfl (es rfl (es rfl (es rfl (es rfl (es rfl (es rfl (es rfl (es rfl (es rfl (es rfl (es rfl (es rfl (es rfl l17_61)))))))))))))) ?_
        refine W_v rfl (wanted_t rfl rfl (es rfl (et rfl)) (ez rfl)) (V_eql rfl (et rfl) rfl) ?_
        refine W_v rfl rfl (V_pickT rfl (es rfl (es rfl (et rfl))) (et rfl)) ?_
        refine W_sure (c' := true) rfl rfl (V_mov rfl (et rfl)) (by rw [decide_eq_true_eq]; simp only [hH_39]; exact hBW.1) ?_
        refine W_r rfl (wanted_t rfl rfl (et rfl) (ez rfl)) (VR_ldA rfl (es rfl (es rfl (es rfl (es rfl (es rfl (es rfl (es rfl (es rfl (es rfl (es rfl (es rfl (es rfl (es rfl (es rfl (es rfl (es rfl (es rfl l16_61))))))))))))))))) (hS62.obj 0 rfl hc60) Try.underlying25 rfl (by kernel_rfl)) ?_
        refine W_r rfl (wanted_t rfl rfl (es rfl (et rfl)) (ez rfl)) (VR_ldA rfl (es rfl (es rfl (es rfl (es rfl (es rfl (es rfl (es rfl (es rfl (es rfl (es rfl (es rfl (es rfl (es rfl (es rfl (es rfl (es rfl (es rfl (es rfl l2_61)))))))))))))))))) (hS62.obj 6 rfl hc2) Try.underlying25 rfl (by kernel_rfl)) ?_
        refine W_call rfl (wanted_t rfl rfl (es rfl (es rfl (et rfl))) (ez rfl)) rfl Try.func16 (by kernel_rfl) rfl (args2 (es rfl (et rfl)) (et rfl)) (qsm_c (hS62.chC 1 rfl hcR_58).own (nst_of (hS62.chC 2 rfl hcP_58) (hS62.chC 3 rfl hcQ_58)) (hS62.chC 4 rfl hcG_58).own (hS62.roC h_ov) (hS62.roC n_ov) (hS62.roC h_rv) ) ?_
        rintro _ w64 ⟨rfl, hP64⟩
        refine ⟨_, rfl, ?_⟩
        have hS64 := hS62.join hP64
        replace hS64 : St w NoX [c60, cR_58, cP_58, cQ_58, cG_58, c3, c2] w64 := hS64
        refine W_v rfl rfl (V_pickT rfl (es rfl (es rfl (es rfl (et rfl)))) (et rfl)) ?_
        refine W_sure (c' := true) rfl rfl (V_mov rfl (et rfl)) (by simp only [hH_58, hH_39]; exact sm_same hBW.2.2.1 hBW.2.2.2) ?_
        refine W_call rfl (wanted_t rfl rfl (et rfl) (ez rfl)) rfl Try.func11 (by kernel_rfl) rfl (args0) (shown_c  ) ?_
        rintro _ w65 ⟨rfl, hP65⟩
        refine ⟨_, rfl, ?_⟩
        have hS65 := hS64.join hP65
        replace hS65 : St w NoX [c60, cR_58, cP_58, cQ_58, cG_58, c3, c2] w65 := hS65
        refine W_v rfl rfl (V_pickT rfl (es rfl (et rfl)) (et rfl)) ?_
        refine W_v rfl rfl (V_asg rfl (et rfl)) ?_
        refine W_end ?_
        refine gen_Q (fun A66 hA66 => ?_)
        have hsz66 : SzN A66 140 := by rw [hA66]; infer_instance
        have hdf66 : A66.defers = [] := by rw [hA66]; simp only [df_put]; exact hdf61
        have l4_66 := lookE hA66 4 (et rfl)
        clear hA66 hsz61 hdf61 l2_61 l3_61 l12_61 l13_61 l15_61 l16_61 l17_61
        have hS67 : St w NoX [] w65 := hS65.sel [] (by decide) rfl
        refine then_n (hK63 _ _ ?_)
        clear hK63
        refine wp_ret ?_
        refine ret_in (results_1 Try.results6 (rv_tmp l4_66)) hdf66 ?_
        -- leaf FTF
        exact ⟨rfl, hS67.fin0⟩
    · skip
      refine wp_skip ?_
      refine then_n (hK19 _ _ ?_)
      clear hK19
      refine wp_seq_k (fun K68 hK68 => ?_)
      -- region 9
      refine region_in ?_
      refine W_r rfl rfl (VR_ldA rfl l2_21 (hS17.obj 6 rfl hc2) Try.underlying25 rfl (by kernel_rfl)) ?_
      refine W_v rfl rfl (V_fa (off' := 0) rfl (es rfl l3_21) Try.underlying49 rfl (by decide +kernel) rfl) ?_
      refine W_r rfl rfl (VR_ldC rfl (et rfl) (cell_box (v := .int .i64 (a)) (hS17.obj 5 rfl hc3) rfl) Try.underlying3 rfl) ?_
      refine W_v rfl rfl (V_fa (off' := 2) rfl (es rfl (es rfl (es rfl l3_21))) Try.underlying49 rfl (by decide +kernel) rfl) ?_
      refine W_r rfl rfl (VR_ldC rfl (et rfl) (cell_box (v := .int .i64 (f)) (hS17.obj 5 rfl hc3) rfl) Try.underlying3 rfl) ?_
      refine W_v rfl rfl (V_fa (off' := 3) rfl (es rfl (es rfl (es rfl (es rfl (es rfl l3_21))))) Try.underlying49 rfl (by decide +kernel) rfl) ?_
      refine W_r rfl rfl (VR_ldC rfl (et rfl) (cell_box (v := .int .u64 (x)) (hS17.obj 5 rfl hc3) rfl) Try.underlying45 rfl) ?_
      refine W_call rfl rfl rfl Try.func29 (by kernel_rfl) rfl (args4 (es rfl (es rfl (es rfl (es rfl (es rfl (es rfl (et rfl))))))) (es rfl (es rfl (es rfl (es rfl (et rfl))))) (es rfl (es rfl (et rfl))) (et rfl)) (kWrite_c (a := a) (f := f) (x := x) (hS17.roC h_ov) (hS17.roC n_ov) (hS17.roC h_rv) (by first | with_reducible assumption)) ?_
      rintro _ w69 ⟨hv_69, H_69, qv_69, rfl, hH_69, hP69⟩
      refine ⟨_, rfl, ?_⟩
      obtain ⟨cR_69, cP_69, cQ_69, cG_69, hcR_69, hcP_69, hcQ_69, hcG_69, hP69⟩ := gen4 hP69
      have hS69 := hS17.join hP69
      replace hS69 : St w NoX [cR_69, cP_69, cQ_69, cG_69, c17, cR_15, cP_15, cQ_15, cG_15, c3, c2] w69 := hS69
      refine W_v rfl rfl (V_mov rfl (et rfl)) ?_
      refine W_v rfl rfl (V_ext (v := .agg #[hv_69, qv_69]) rfl (et rfl) rfl) ?_
      refine W_v rfl rfl (V_ext (v := .int .i64 ((rwE (O.map ab) rs [a] a f))) rfl (es rfl (et rfl)) rfl) ?_
      refine W_allocS (z := .agg #[.slice none 0 0, .slice none 0 0]) (zs := #[.slice none 0 0, .slice none 0 0]) hS69 rfl rfl rfl (by kernel_rfl) (by rfl) (fun g70 w70 c70 hc70 hS70 => ?_)
      replace hS70 : St w NoX [c70, cR_69, cP_69, cQ_69, cG_69, c17, cR_15, cP_15, cQ_15, cG_15, c3, c2] w70 := hS70
      refine W_stAS 0 hS70 rfl hc70 rfl rfl rfl (et rfl) (es rfl (es rfl (et rfl))) (by simp only [List.all_toArray, List.all_cons, List.all_nil, SlN_one (ow_at (hS70.chq 1 rfl hcR_69)), SlN_one (ow_at (hS70.chq 4 rfl hcG_69))] <;> rfl) (by rfl) (by kernel_rfl) (fun w71 c71 hc71 hS71 => ?_)
      replace hS71 : St w NoX [c71, cR_69, cP_69, cQ_69, cG_69, c17, cR_15, cP_15, cQ_15, cG_15, c3, c2] w71 := hS71
      refine W_v rfl rfl (V_asg rfl (es rfl (et rfl))) ?_
      refine W_end ?_
      refine gen_Q (fun A72 hA72 => ?_)
      have hsz72 : SzN A72 140 := by rw [hA72]; infer_instance
      have hdf72 : A72.defers = [] := by rw [hA72]; simp only [df_put]; exact hdf21
      have l2_72 := lookE hA72 2 (es rfl (es rfl (es rfl (es rfl (es rfl (es rfl (es rfl (es rfl (es rfl (es rfl (es rfl (es rfl (es rfl l2_21)))))))))))))
      have l3_72 := lookE hA72 3 (es rfl (es rfl (es rfl (es rfl (es rfl (es rfl (es rfl (es rfl (es rfl (es rfl (es rfl (es rfl (es rfl l3_21)))))))))))))
      have l6_72 := lookE hA72 6 (et rfl)
      have l11_72 := lookE hA72 11 (es rfl (et rfl))
      clear hA72 hsz21 hdf21 l2_21 l3_21 l5_21 l33_21
      have hS73 : St w NoX [c71, cR_69, cP_69, cQ_69, cG_69, c3, c2] w71 := hS71.sel [0, 1, 2, 3, 4, 10, 11] (by decide) rfl
      refine then_n (hK68 _ _ ?_)
      clear hK68
      refine wp_seq_k (fun K74 hK74 => ?_)
      refine wp_seq_k (fun K75 hK75 => ?_)
      -- region 10
      refine region_in ?_
      refine W_v rfl rfl (V_mov rfl l6_72) ?_
      refine W_v rfl rfl (V_neq rfl (et rfl) rfl) ?_
      refine W_end ?_
      refine gen_Q (fun A76 hA76 => ?_)
      have hsz76 : SzN A76 140 := by rw [hA76]; infer_instance
      have hdf76 : A76.defers = [] := by rw [hA76]; simp only [df_put]; exact hdf72
      have l2_76 := lookE hA76 2 (es rfl (es rfl l2_72))
      have l3_76 := lookE hA76 3 (es rfl (es rfl l3_72))
      have l11_76 := lookE hA76 11 (es rfl (es rfl l11_72))
      have l86_76 := lookE hA76 86 (et rfl)
      clear hA76 hsz72 hdf72 l2_72 l3_72 l6_72 l11_72
      refine then_n (hK75 _ _ ?_)
      clear hK75
      refine cond_dec l86_76 (fun c77 => ?_) (fun c77 => ?_)
      · skip
        refine wp_seq_k (fun K78 hK78 => ?_)
        -- region 11
        refine region_in ?_
        refine W_call rfl rfl rfl Try.func11 (by kernel_rfl) rfl (args0) (shown_c  ) ?_
        rintro _ w79 ⟨rfl, hP79⟩
        refine ⟨_, rfl, ?_⟩
        have hS79 := hS73.join hP79
        replace hS79 : St w NoX [c71, cR_69, cP_69, cQ_69, cG_69, c3, c2] w79 := hS79
        refine W_v rfl rfl (V_asg rfl (et rfl)) ?_
        refine W_end ?_
        refine gen_Q (fun A80 hA80 => ?_)
        have hsz80 : SzN A80 140 := by rw [hA80]; infer_instance
        have hdf80 : A80.defers = [] := by rw [hA80]; simp only [df_put]; exact hdf76
        have l4_80 := lookE hA80 4 (et rfl)
        clear hA80 hsz76 hdf76 l2_76 l3_76 l11_76 l86_76
        have hS81 : St w NoX [] w79 := hS79.sel [] (by decide) rfl
        refine then_n (hK78 _ _ ?_)
        clear hK78
        refine wp_ret ?_
        refine then_ret ?_
        refine ret_in (results_1 Try.results6 (rv_tmp l4_80)) hdf80 ?_
        -- leaf FFT
        exact ⟨rfl, hS81.fin0⟩
      · skip
        have hW := by simpa using c77
        have hBW := bk_write (x := x) hW
        have hsm_w : SM (H_69.map ab) := by rw [hH_69]; exact (wr_good hW).2.2.2.2.2.2.1 hsm
        refine wp_skip ?_
        refine then_n (hK74 _ _ ?_)
        clear hK74
        refine wp_seq_k (fun K82 hK82 => ?_)
        -- region 12
        refine region_in ?_
        refine W_r rfl rfl (VR_ldA rfl l11_76 (hS73.obj 0 rfl hc71) Try.underlying25 rfl (by kernel_rfl)) ?_
        refine W_v rfl rfl (V_fa (off' := 0) rfl (es rfl l3_76) Try.underlying49 rfl (by decide +kernel) rfl) ?_
        refine W_r rfl rfl (VR_ldC rfl (et rfl) (cell_box (v := .int .i64 (a)) (hS73.obj 5 rfl hc3) rfl) Try.underlying3 rfl) ?_
        refine W_v rfl rfl (V_fa (off' := 2) rfl (es rfl (es rfl (es rfl l3_76))) Try.underlying49 rfl (by decide +kernel) rfl) ?_
        refine W_r rfl rfl (VR_ldC rfl (et rfl) (cell_box (v := .int .i64 (f)) (hS73.obj 5 rfl hc3) rfl) Try.underlying3 rfl) ?_
        refine W_call rfl rfl rfl Try.func26 (by kernel_rfl) rfl (args3 (es rfl (es rfl (es rfl (es rfl (et rfl))))) (es rfl (es rfl (et rfl))) (et rfl)) (kRd_c (a := a) (f := f) (hS73.chC 1 rfl hcR_69).own (nst_of (hS73.chC 2 rfl hcP_69) (hS73.chC 3 rfl hcQ_69)) (hS73.chC 4 rfl hcG_69).own ) ?_
        rintro _ w83 ⟨rfl, hP83⟩
        refine ⟨_, rfl, ?_⟩
        have hS83 := hS73.join hP83
        replace hS83 : St w NoX [c71, cR_69, cP_69, cQ_69, cG_69, c3, c2] w83 := hS83
        refine W_v rfl rfl (V_mov rfl (et rfl)) ?_
        refine W_v rfl rfl (V_ext (v := .int .u64 ((rdV (H_69.map ab) (wrR (O.map ab) rs a f) a f))) rfl (et rfl) rfl) ?_
        refine W_v rfl rfl (V_ext (v := .int .i64 ((rwE (H_69.map ab) (wrR (O.map ab) rs a f) [a] a f))) rfl (es rfl (et rfl)) rfl) ?_
        refine W_v rfl rfl (V_asg rfl (es rfl (et rfl))) ?_
        refine W_v rfl rfl (V_asg rfl (es rfl (et rfl))) ?_
        refine W_end ?_
        refine gen_Q (fun A84 hA84 => ?_)
        have hsz84 : SzN A84 140 := by rw [hA84]; infer_instance
        have hdf84 : A84.defers = [] := by rw [hA84]; simp only [df_put]; exact hdf76
        have l2_84 := lookE hA84 2 (es rfl (es rfl (es rfl (es rfl (es rfl (es rfl (es rfl (es rfl (es rfl (es rfl (es rfl l2_76)))))))))))
        have l3_84 := lookE hA84 3 (es rfl (es rfl (es rfl (es rfl (es rfl (es rfl (es rfl (es rfl (es rfl (es rfl (es rfl l3_76)))))))))))
        have l11_84 := lookE hA84 11 (es rfl (es rfl (es rfl (es rfl (es rfl (es rfl (es rfl (es rfl (es rfl (es rfl (es rfl l11_76)))))))))))
        have l12_84 := lookE hA84 12 (es rfl (et rfl))
        have l13_84 := lookE hA84 13 (et rfl)
        clear hA84 hsz76 hdf76 l2_76 l3_76 l11_76 l86_76
        refine then_n (hK82 _ _ ?_)
        clear hK82
        refine wp_seq_k (fun K85 hK85 => ?_)
        -- region 13
        refine region_in ?_
        refine W_r rfl rfl (VR_ldA rfl l2_84 (hS83.obj 6 rfl hc2) Try.underlying25 rfl (by kernel_rfl)) ?_
        refine W_v rfl rfl (V_fa (off' := 0) rfl (es rfl l3_84) Try.underlying49 rfl (by decide +kernel) rfl) ?_
        refine W_r rfl rfl (VR_ldC rfl (et rfl) (cell_box (v := .int .i64 (a)) (hS83.obj 5 rfl hc3) rfl) Try.underlying3 rfl) ?_
        refine W_v rfl rfl (V_fa (off' := 2) rfl (es rfl (es rfl (es rfl l3_84))) Try.underlying49 rfl (by decide +kernel) rfl) ?_
        refine W_r rfl rfl (VR_ldC rfl (et rfl) (cell_box (v := .int .i64 (f)) (hS83.obj 5 rfl hc3) rfl) Try.underlying3 rfl) ?_
        refine W_call rfl rfl rfl Try.func26 (by kernel_rfl) rfl (args3 (es rfl (es rfl (es rfl (es rfl (et rfl))))) (es rfl (es rfl (et rfl))) (et rfl)) (kRd_c (a := a) (f := f) (hS83.roC h_ov) (hS83.roC n_ov) (hS83.roC h_rv) ) ?_
        rintro _ w86 ⟨rfl, hP86⟩
        refine ⟨_, rfl, ?_⟩
        have hS86 := hS83.join hP86
        replace hS86 : St w NoX [c71, cR_69, cP_69, cQ_69, cG_69, c3, c2] w86 := hS86
        refine W_v rfl rfl (V_mov rfl (et rfl)) ?_
        refine W_v rfl rfl (V_ext (v := .int .u64 ((rdV (O.map ab) rs a f))) rfl (et rfl) rfl) ?_
        refine W_v rfl rfl (V_ext (v := .int .i64 ((rwE (O.map ab) rs [a] a f))) rfl (es rfl (et rfl)) rfl) ?_
        refine W_v rfl rfl (V_asg rfl (es rfl (et rfl))) ?_
        refine W_v rfl rfl (V_asg rfl (es rfl (et rfl))) ?_
        refine W_end ?_
        refine gen_Q (fun A87 hA87 => ?_)
        have hsz87 : SzN A87 140 := by rw [hA87]; infer_instance
        have hdf87 : A87.defers = [] := by rw [hA87]; simp only [df_put]; exact hdf84
        have l2_87 := lookE hA87 2 (es rfl (es rfl (es rfl (es rfl (es rfl (es rfl (es rfl (es rfl (es rfl (es rfl (es rfl l2_84)))))))))))
        have l3_87 := lookE hA87 3 (es rfl (es rfl (es rfl (es rfl (es rfl (es rfl (es rfl (es rfl (es rfl (es rfl (es rfl l3_84)))))))))))
        have l11_87 := lookE hA87 11 (es rfl (es rfl (es rfl (es rfl (es rfl (es rfl (es rfl (es rfl (es rfl (es rfl (es rfl l11_84)))))))))))
        have l12_87 := lookE hA87 12 (es rfl (es rfl (es rfl (es rfl (es rfl (es rfl (es rfl (es rfl (es rfl (es rfl (es rfl l12_84)))))))))))
        have l13_87 := lookE hA87 13 (es rfl (es rfl (es rfl (es rfl (es rfl (es rfl (es rfl (es rfl (es rfl (es rfl (es rfl l13_84)))))))))))
        have l14_87 := lookE hA87 14 (es rfl (et rfl))
        have l15_87 := lookE hA87 15 (et rfl)
        clear hA87 hsz84 hdf84 l2_84 l3_84 l11_84 l12_84 l13_84
        refine then_n (hK85 _ _ ?_)
        clear hK85
        refine wp_seq_k (fun K88 hK88 => ?_)
        -- region 14
        refine region_in ?_
        refine W_r rfl rfl (VR_ldA rfl l11_87 (hS86.obj 0 rfl hc71) Try.underlying25 rfl (by kernel_rfl)) ?_
        refine W_v rfl rfl (V_fa (off' := 0) rfl (es rfl l3_87) Try.underlying49 rfl (by decide +kernel) rfl) ?_
        refine W_r rfl rfl (VR_ldC rfl (et rfl) (cell_box (v := .int .i64 (a)) (hS86.obj 5 rfl hc3) rfl) Try.underlying3 rfl) ?_
        refine W_v rfl rfl (V_fa (off' := 2) rfl (es rfl (es rfl (es rfl l3_87))) Try.underlying49 rfl (by decide +kernel) rfl) ?_
        refine W_r rfl rfl (VR_ldC rfl (et rfl) (cell_box (v := .int .i64 (f)) (hS86.obj 5 rfl hc3) rfl) Try.underlying3 rfl) ?_
        refine W_v rfl rfl (V_mov rfl (es rfl (es rfl (es rfl (es rfl (es rfl l14_87)))))) ?_
        refine W_call rfl rfl rfl Try.func29 (by kernel_rfl) rfl (args4 (es rfl (es rfl (es rfl (es rfl (es rfl (et rfl)))))) (es rfl (es rfl (es rfl (et rfl)))) (es rfl (et rfl)) (et rfl)) (kWrite_c (a := a) (f := f) (x := (rdV (O.map ab) rs a f)) (hS86.chC 1 rfl hcR_69).own (nst_of (hS86.chC 2 rfl hcP_69) (hS86.chC 3 rfl hcQ_69)) (hS86.chC 4 rfl hcG_69).own (by first | with_reducible assumption)) ?_
        rintro _ w89 ⟨hv_89, H_89, qv_89, rfl, hH_89, hP89⟩
        refine ⟨_, rfl, ?_⟩
        obtain ⟨cR_89, cP_89, cQ_89, cG_89, hcR_89, hcP_89, hcQ_89, hcG_89, hP89⟩ := gen4 hP89
        have hS89 := hS86.join hP89
        replace hS89 : St w NoX [cR_89, cP_89, cQ_89, cG_89, c71, cR_69, cP_69, cQ_69, cG_69, c3, c2] w89 := hS89
        refine W_v rfl rfl (V_mov rfl (et rfl)) ?_
        refine W_v rfl rfl (V_ext (v := .agg #[hv_89, qv_89]) rfl (et rfl) rfl) ?_
        refine W_v rfl rfl (V_ext (v := .int .i64 ((rwE (H_69.map ab) (wrR (O.map ab) rs a f) [a] a f))) rfl (es rfl (et rfl)) rfl) ?_
        refine W_allocS (z := .agg #[.slice none 0 0, .slice none 0 0]) (zs := #[.slice none 0 0, .slice none 0 0]) hS89 rfl rfl rfl (by kernel_rfl) (by rfl) (fun g90 w90 c90 hc90 hS90 => ?_)
        replace hS90 : St w NoX [c90, cR_89, cP_89, cQ_89, cG_89, c71, cR_69, cP_69, cQ_69, cG_69, c3, c2] w90 := hS90
        refine W_stAS 0 hS90 rfl hc90 rfl rfl rfl (et rfl) (es rfl (es rfl (et rfl))) (by simp only [List.all_toArray, List.all_cons, List.all_nil, SlN_one (ow_at (hS90.chq 1 rfl hcR_89)), SlN_one (ow_at (hS90.chq 4 rfl hcG_89))] <;> rfl) (by rfl) (by kernel_rfl) (fun w91 c91 hc91 hS91 => ?_)
        replace hS91 : St w NoX [c91, cR_89, cP_89, cQ_89, cG_89, c71, cR_69, cP_69, cQ_69, cG_69, c3, c2] w91 := hS91
        refine W_v rfl rfl (V_asg rfl (es rfl (et rfl))) ?_
        refine W_end ?_
        refine gen_Q (fun A92 hA92 => ?_)
        have hsz92 : SzN A92 140 := by rw [hA92]; infer_instance
        have hdf92 : A92.defers = [] := by rw [hA92]; simp only [df_put]; exact hdf87
        have l2_92 := lookE hA92 2 (es rfl (es rfl (es rfl (es rfl (es rfl (es rfl (es rfl (es rfl (es rfl (es rfl (es rfl (es rfl l2_87))))))))))))
        have l3_92 := lookE hA92 3 (es rfl (es rfl (es rfl (es rfl (es rfl (es rfl (es rfl (es rfl (es rfl (es rfl (es rfl (es rfl l3_87))))))))))))
        have l12_92 := lookE hA92 12 (es rfl (es rfl (es rfl (es rfl (es rfl (es rfl (es rfl (es rfl (es rfl (es rfl (es rfl (es rfl l12_87))))))))))))
        have l13_92 := lookE hA92 13 (es rfl (es rfl (es rfl (es rfl (es rfl (es rfl (es rfl (es rfl (es rfl (es rfl (es rfl (es rfl l13_87))))))))))))
        have l15_92 := lookE hA92 15 (es rfl (es rfl (es rfl (es rfl (es rfl (es rfl (es rfl (es rfl (es rfl (es rfl (es rfl (es rfl l15_87))))))))))))
        have l16_92 := lookE hA92 16 (es rfl (et rfl))
        have l17_92 := lookE hA92 17 (et rfl)
        clear hA92 hsz87 hdf87 l2_87 l3_87 l11_87 l12_87 l13_87 l14_87 l15_87
        have hS93 : St w NoX [c91, cR_89, cP_89, cQ_89, cG_89, c3, c2] w91 := hS91.sel [0, 1, 2, 3, 4, 10, 11] (by decide) rfl
        refine then_n (hK88 _ _ ?_)
        clear hK88
        refine wp_seq_k (fun K94 hK94 => ?_)
        -- region 15
        refine region_in ?_
        refine W_v rfl rfl (V_mov rfl l12_92) ?_
        refine W_v rfl rfl (V_fa (off' := 3) rfl (es rfl l3_92) Try.underlying49 rfl (by decide +kernel) rfl) ?_
        refine W_r rfl rfl (VR_ldC rfl (et rfl) (cell_box (v := .int .u64 (x)) (hS93.obj 5 rfl hc3) rfl) Try.underlying45 rfl) ?_
        refine W_v rfl rfl (V_eql rfl (es rfl (es rfl (et rfl))) (et rfl)) ?_
        refine W_sure (c' := true) rfl rfl (V_mov rfl (et rfl)) (by rw [decide_eq_true_eq]; simp only [hH_69]; exact hBW.2.1) ?_
        refine W_v rfl (wanted_t rfl rfl (et rfl) (ez rfl)) (V_mov rfl (es rfl (es rfl (es rfl (es rfl (es rfl l13_92)))))) ?_
        refine W_v rfl (wanted_t rfl rfl (es rfl (et rfl)) (ez rfl)) (V_eql rfl (et rfl) rfl) ?_
        refine W_v rfl rfl (V_pickT rfl (es rfl (es rfl (et rfl))) (et rfl)) ?_
        refine W_sure (c' := true) rfl rfl (V_mov rfl (et rfl)) (by rw [decide_eq_true_eq]; simp only [hH_69]; exact hBW.1) ?_
        refine W_v rfl (wanted_t rfl rfl (et rfl) (ez rfl)) (V_mov rfl (es rfl (es rfl (es rfl (es rfl (es rfl (es rfl (es rfl (es rfl (es rfl l15_92)))))))))) ?_
        refine W_v rfl (wanted_t rfl rfl (es rfl (et rfl)) (ez rfl)) (V_eql rfl (et rfl) rfl) ?_
        refine W_v rfl rfl (V_pickT rfl (es rfl (es rfl (et rfl))) (et rfl)) ?_
        refine W_sure (c' := true) rfl rfl (V_mov rfl (et rfl)) (by first | (simp [c77]; done) | exact decide_eq_true (by omega) | exact decide_eq_false (by omega)) ?_
        refine W_v rfl (wanted_t rfl rfl (et rfl) (ez rfl)) (V_mov rfl (es rfl (es rfl (es rfl (es rfl (es rfl (es rfl (es rfl (es rfl (es rfl (es rfl (es rfl (es rfl (es rfl l17_92)))))))))))))) ?_
        refine W_v rfl (wanted_t rfl rfl (es rfl (et rfl)) (ez rfl)) (V_eql rfl (et rfl) rfl) ?_
        refine W_v rfl rfl (V_pickT rfl (es rfl (es rfl (et rfl))) (et rfl)) ?_
        refine W_sure (c' := true) rfl rfl (V_mov rfl (et rfl)) (by rw [decide_eq_true_eq]; simp only [hH_69]; exact hBW.1) ?_
        refine W_r rfl (wanted_t rfl rfl (et rfl) (ez rfl)) (VR_ldA rfl (es rfl (es rfl (es rfl (es rfl (es rfl (es rfl (es rfl (es rfl (es rfl (es rfl (es rfl (es rfl (es rfl (es rfl (es rfl (es rfl (es rfl l16_92))))))))))))))))) (hS93.obj 0 rfl hc91) Try.underlying25 rfl (by kernel_rfl)) ?_
        refine W_r rfl (wanted_t rfl rfl (es rfl (et rfl)) (ez rfl)) (VR_ldA rfl (es rfl (es rfl (es rfl (es rfl (es rfl (es rfl (es rfl (es rfl (es rfl (es rfl (es rfl (es rfl (es rfl (es rfl (es rfl (es rfl (es rfl (es rfl l2_92)))))))))))))))))) (hS93.obj 6 rfl hc2) Try.underlying25 rfl (by kernel_rfl)) ?_
        refine W_call rfl (wanted_t rfl rfl (es rfl (es rfl (et rfl))) (ez rfl)) rfl Try.func16 (by kernel_rfl) rfl (args2 (es rfl (et rfl)) (et rfl)) (qsm_c (hS93.chC 1 rfl hcR_89).own (nst_of (hS93.chC 2 rfl hcP_89) (hS93.chC 3 rfl hcQ_89)) (hS93.chC 4 rfl hcG_89).own (hS93.roC h_ov) (hS93.roC n_ov) (hS93.roC h_rv) ) ?_
        rintro _ w95 ⟨rfl, hP95⟩
        refine ⟨_, rfl, ?_⟩
        have hS95 := hS93.join hP95
        replace hS95 : St w NoX [c91, cR_89, cP_89, cQ_89, cG_89, c3, c2] w95 := hS95
        refine W_v rfl rfl (V_pickT rfl (es rfl (es rfl (es rfl (et rfl)))) (et rfl)) ?_
        refine W_sure (c' := true) rfl rfl (V_mov rfl (et rfl)) (by simp only [hH_89, hH_69]; exact sm_same hBW.2.2.1 hBW.2.2.2) ?_
        refine W_call rfl (wanted_t rfl rfl (et rfl) (ez rfl)) rfl Try.func11 (by kernel_rfl) rfl (args0) (shown_c  ) ?_
        rintro _ w96 ⟨rfl, hP96⟩
        refine ⟨_, rfl, ?_⟩
        have hS96 := hS95.join hP96
        replace hS96 : St w NoX [c91, cR_89, cP_89, cQ_89, cG_89, c3, c2] w96 := hS96
        refine W_v rfl rfl (V_pickT rfl (es rfl (et rfl)) (et rfl)) ?_
        refine W_v rfl rfl (V_asg rfl (et rfl)) ?_
        refine W_end ?_
        refine gen_Q (fun A97 hA97 => ?_)
        have hsz97 : SzN A97 140 := by rw [hA97]; infer_instance
        have hdf97 : A97.defers = [] := by rw [hA97]; simp only [df_put]; exact hdf92
        have l4_97 := lookE hA97 4 (et rfl)
        clear hA97 hsz92 hdf92 l2_92 l3_92 l12_92 l13_92 l15_92 l16_92 l17_92
        have hS98 : St w NoX [] w96 := hS96.sel [] (by decide) rfl
        refine then_n (hK94 _ _ ?_)
        clear hK94
        refine wp_ret ?_
        refine ret_in (results_1 Try.results6 (rv_tmp l4_97)) hdf97 ?_
        -- leaf FFF
        exact ⟨rfl, hS98.fin0⟩

end Go.Proofs.Ytdilbnmaihmgnaa