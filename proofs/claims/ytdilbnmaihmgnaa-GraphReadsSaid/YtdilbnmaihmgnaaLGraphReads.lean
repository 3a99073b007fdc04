import Derived.Test.YtdilbnmaihmgnaaProg
import Derived.Test.YtdilbnmaihmgnaaGh10
namespace Go.Proofs.Ytdilbnmaihmgnaa
open Go.RowKit Go.Own Go.Own.R Go.Own.G Go.Own.Gr


set_option maxHeartbeats 4000000 in
theorem GraphReads_c {ov : Value} {O : List Ob} {rv : Value} {rs : List Int} {a : Int} {b : Int} {f : Int} {x : Int} {w : World} (h_ov : Ro w NoX (rl 2 obC ov O)) (n_ov : Ro w NoX (nst O)) (h_rv : Ro w NoX (il .i64 rv rs)) (hbulk : ∀ o ∈ (O.map ab), o.1.length ≤ 17592186044416 ∧ o.2.length ≤ 17592186044416) :
    Calls Try.prog 7 #[.agg #[ov, rv], .agg #[.int .i64 a, .int .i64 b, .int .i64 f, .int .u64 x]] w fun e w' => e = .returned (.bool true) ∧ St w NoX [] w' := by
  refine calls_in 106 Try.func7 rfl rfl (by simp) (fun A0 hsz0 hdf0 hargs => ?_)
  have l0_0 := hargs 0 (.agg #[ov, rv]) rfl
  have l1_0 := hargs 1 (.agg #[.int .i64 a, .int .i64 b, .int .i64 f, .int .u64 x]) rfl
  clear hargs; replace hsz0 : SzN A0 106 := ⟨hsz0⟩
  have hS := St.nil w
  have bh_ov := SlN.le (sl_SlN h_ov.at)
  have bh_rv := SlN.le (sl_SlN h_rv.at)
  refine wp_seq_k (fun K1 hK1 => ?_)
  -- region 0
  refine region_in ?_
  refine W_boxS (zs := #[ov, rv]) hS rfl rfl rfl l0_0 (by rfl) (fun g2 w2 c2 hc2 hS2 => ?_)
  replace hS2 : St w NoX [c2] w2 := hS2
  refine W_boxS (zs := #[.int .i64 (a), .int .i64 (b), .int .i64 (f), .int .u64 (x)]) hS2 rfl rfl rfl (es rfl l1_0) (by rfl) (fun g3 w3 c3 hc3 hS3 => ?_)
  replace hS3 : St w NoX [c3, c2] w3 := hS3
  refine W_v rfl rfl (V_asg rfl rfl) ?_
  refine W_end ?_
  refine gen_Q (fun A4 hA4 => ?_)
  have hsz4 : SzN A4 106 := by rw [hA4]; infer_instance
  have hdf4 : A4.defers = [] := by rw [hA4]; simp only [df_put]; exact hdf0
  have l2_4 := lookE hA4 2 (es rfl (es rfl (et rfl)))
  have l3_4 := lookE hA4 3 (es rfl (et rfl))
  clear hA4 hsz0 hdf0 l0_0 l1_0
  refine then_n (hK1 _ _ ?_)
  clear hK1
  refine wp_seq_k (fun K5 hK5 => ?_)
  refine wp_seq_k (fun K6 hK6 => ?_)
  -- region 1
  refine region_in ?_
  refine W_r rfl rfl (VR_ldA rfl l2_4 (hS3.obj 1 rfl hc2) Try.underlying25 rfl (by kernel_rfl)) ?_
  refine W_call rfl rfl rfl Try.func10 (by kernel_rfl) rfl (args1 (et rfl)) (far_c (hS3.roC h_ov) (hS3.roC n_ov) (hS3.roC h_rv) (by first | with_reducible assumption)) ?_
  rintro _ w7 ⟨rfl, hP7⟩
  refine ⟨_, rfl, ?_⟩
  have hS7 := hS3.join hP7
  replace hS7 : St w NoX [c3, c2] w7 := hS7
  refine W_end ?_
  refine gen_Q (fun A8 hA8 => ?_)
  have hsz8 : SzN A8 106 := by rw [hA8]; infer_instance
  have hdf8 : A8.defers = [] := by rw [hA8]; simp only [df_put]; exact hdf4
  have l2_8 := lookE hA8 2 (es rfl (es rfl l2_4))
  have l3_8 := lookE hA8 3 (es rfl (es rfl l3_4))
  have l18_8 := lookE hA8 18 (et rfl)
  clear hA8 hsz4 hdf4 l2_4 l3_4
  refine then_n (hK6 _ _ ?_)
  clear hK6
  refine cond_b l18_8 (fun c9 => ?_) (fun c9 => ?_)
  · skip
    refine wp_seq_k (fun K10 hK10 => ?_)
    -- region 2
    refine region_in ?_
    refine W_call rfl rfl rfl Try.func11 (by kernel_rfl) rfl (args0) (shown_c  ) ?_
    rintro _ w11 ⟨rfl, hP11⟩
    refine ⟨_, rfl, ?_⟩
    have hS11 := hS7.join hP11
    replace hS11 : St w NoX [c3, c2] w11 := hS11
    refine W_v rfl rfl (V_asg rfl (et rfl)) ?_
    refine W_end ?_
    refine gen_Q (fun A12 hA12 => ?_)
    have hsz12 : SzN A12 106 := by rw [hA12]; infer_instance
    have hdf12 : A12.defers = [] := by rw [hA12]; simp only [df_put]; exact hdf8
    have l4_12 := lookE hA12 4 (et rfl)
    clear hA12 hsz8 hdf8 l2_8 l3_8 l18_8
    have hS13 : St w NoX [] w11 := hS11.sel [] (by decide) rfl
    refine then_n (hK10 _ _ ?_)
    clear hK10
    refine wp_ret ?_
    refine then_ret ?_
    refine ret_in (results_1 Try.results7 (rv_tmp l4_12)) hdf12 ?_
    -- leaf T
    exact ⟨rfl, hS13.fin0⟩
  · skip
    have hfar := far_no c9
    have hsm := hfar.2.2.2.1
    have hfr := hfar.1
    have hfo := hfar.2.1
    rw [List.length_map] at hfo
    refine wp_skip ?_
    refine then_n (hK5 _ _ ?_)
    clear hK5
    refine wp_seq_k (fun K14 hK14 => ?_)
    -- region 3
    refine region_in ?_
    refine W_r rfl rfl (VR_ldA rfl l2_8 (hS7.obj 1 rfl hc2) Try.underlying25 rfl (by kernel_rfl)) ?_
    refine W_v rfl rfl (V_fa (off' := 0) rfl (es rfl l3_8) Try.underlying49 rfl (by decide +kernel) rfl) ?_
    refine W_r rfl rfl (VR_ldC rfl (et rfl) (cell_box (v := .int .i64 (a)) (hS7.obj 0 rfl hc3) rfl) Try.underlying3 rfl) ?_
    refine W_v rfl rfl (V_fa (off' := 2) rfl (es rfl (es rfl (es rfl l3_8))) Try.underlying49 rfl (by decide +kernel) rfl) ?_
    refine W_r rfl rfl (VR_ldC rfl (et rfl) (cell_box (v := .int .i64 (f)) (hS7.obj 0 rfl hc3) rfl) Try.underlying3 rfl) ?_
    refine W_call rfl rfl rfl Try.func26 (by kernel_rfl) rfl (args3 (es rfl (es rfl (es rfl (es rfl (et rfl))))) (es rfl (es rfl (et rfl))) (et rfl)) (kRd_c (a := a) (f := f) (hS7.roC h_ov) (hS7.roC n_ov) (hS7.roC h_rv) ) ?_
    rintro _ w15 ⟨rfl, hP15⟩
    refine ⟨_, rfl, ?_⟩
    have hS15 := hS7.join hP15
    replace hS15 : St w NoX [c3, c2] w15 := hS15
    refine W_v rfl rfl (V_mov rfl (et rfl)) ?_
    refine W_v rfl rfl (V_ext (v := .int .u64 ((rdV (O.map ab) rs a f))) rfl (et rfl) rfl) ?_
    refine W_v rfl rfl (V_ext (v := .int .i64 ((rwE (O.map ab) rs [a] a f))) rfl (es rfl (et rfl)) rfl) ?_
    refine W_v rfl rfl (V_asg rfl (es rfl (et rfl))) ?_
    refine W_v rfl rfl (V_asg rfl (es rfl (et rfl))) ?_
    refine W_end ?_
    refine gen_Q (fun A16 hA16 => ?_)
    have hsz16 : SzN A16 106 := by rw [hA16]; infer_instance
    have hdf16 : A16.defers = [] := by rw [hA16]; simp only [df_put]; exact hdf8
    have l2_16 := lookE hA16 2 (es rfl (es rfl (es rfl (es rfl (es rfl (es rfl (es rfl (es rfl (es rfl (es rfl (es rfl l2_8)))))))))))
    have l3_16 := lookE hA16 3 (es rfl (es rfl (es rfl (es rfl (es rfl (es rfl (es rfl (es rfl (es rfl (es rfl (es rfl l3_8)))))))))))
    have l5_16 := lookE hA16 5 (es rfl (et rfl))
    have l6_16 := lookE hA16 6 (et rfl)
    clear hA16 hsz8 hdf8 l2_8 l3_8 l18_8
    refine then_n (hK14 _ _ ?_)
    clear hK14
    refine wp_seq_k (fun K17 hK17 => ?_)
    -- region 4
    refine region_in ?_
    refine W_r rfl rfl (VR_ldA rfl l2_16 (hS15.obj 1 rfl hc2) Try.underlying25 rfl (by kernel_rfl)) ?_
    refine W_v rfl rfl (V_fa (off' := 0) rfl (es rfl l3_16) Try.underlying49 rfl (by decide +kernel) rfl) ?_
    refine W_r rfl rfl (VR_ldC rfl (et rfl) (cell_box (v := .int .i64 (a)) (hS15.obj 0 rfl hc3) rfl) Try.underlying3 rfl) ?_
    refine W_v rfl rfl (V_fa (off' := 2) rfl (es rfl (es rfl (es rfl l3_16))) Try.underlying49 rfl (by decide +kernel) rfl) ?_
    refine W_r rfl rfl (VR_ldC rfl (et rfl) (cell_box (v := .int .i64 (f)) (hS15.obj 0 rfl hc3) rfl) Try.underlying3 rfl) ?_
    refine W_call rfl rfl rfl Try.func30 (by kernel_rfl) rfl (args3 (es rfl (es rfl (es rfl (es rfl (et rfl))))) (es rfl (es rfl (et rfl))) (et rfl)) (qRd_c (a := a) (f := f) (hS15.roC h_ov) (hS15.roC n_ov) (hS15.roC h_rv) ) ?_
    rintro _ w18 ⟨rfl, hP18⟩
    refine ⟨_, rfl, ?_⟩
    have hS18 := hS15.join hP18
    replace hS18 : St w NoX [c3, c2] w18 := hS18
    refine W_v rfl rfl (V_mov rfl (et rfl)) ?_
    refine W_v rfl rfl (V_ext (v := .int .u64 ((rdV (O.map ab) rs a f))) rfl (et rfl) rfl) ?_
    refine W_v rfl rfl (V_ext (v := .int .i64 ((rwE (O.map ab) rs [a] a f))) rfl (es rfl (et rfl)) rfl) ?_
    refine W_v rfl rfl (V_asg rfl (es rfl (et rfl))) ?_
    refine W_v rfl rfl (V_asg rfl (es rfl (et rfl))) ?_
    refine W_end ?_
    refine gen_Q (fun A19 hA19 => ?_)
    have hsz19 : SzN A19 106 := by rw [hA19]; infer_instance
    have hdf19 : A19.defers = [] := by rw [hA19]; simp only [df_put]; exact hdf16
    have l2_19 := lookE hA19 2 (es rfl (es rfl (es rfl (es rfl (es rfl (es rfl (es rfl (es rfl (es rfl (es rfl (es rfl l2_16)))))))))))
    have l3_19 := lookE hA19 3 (es rfl (es rfl (es rfl (es rfl (es rfl (es rfl (es rfl (es rfl (es rfl (es rfl (es rfl l3_16)))))))))))
    have l5_19 := lookE hA19 5 (es rfl (es rfl (es rfl (es rfl (es rfl (es rfl (es rfl (es rfl (es rfl (es rfl (es rfl l5_16)))))))))))
    have l6_19 := lookE hA19 6 (es rfl (es rfl (es rfl (es rfl (es rfl (es rfl (es rfl (es rfl (es rfl (es rfl (es rfl l6_16)))))))))))
    have l7_19 := lookE hA19 7 (es rfl (et rfl))
    have l8_19 := lookE hA19 8 (et rfl)
    clear hA19 hsz16 hdf16 l2_16 l3_16 l5_16 l6_16
    refine then_n (hK17 _ _ ?_)
    clear hK17
    refine wp_seq_k (fun K20 hK20 => ?_)
    -- region 5
    refine region_in ?_
    refine W_r rfl rfl (VR_ldA rfl l2_19 (hS18.obj 1 rfl hc2) Try.underlying25 rfl (by kernel_rfl)) ?_
    refine W_v rfl rfl (V_fa (off' := 0) rfl (es rfl l3_19) Try.underlying49 rfl (by decide +kernel) rfl) ?_
    refine W_r rfl rfl (VR_ldC rfl (et rfl) (cell_box (v := .int .i64 (a)) (hS18.obj 0 rfl hc3) rfl) Try.underlying3 rfl) ?_
    refine W_v rfl rfl (V_fa (off' := 1) rfl (es rfl (es rfl (es rfl l3_19))) Try.underlying49 rfl (by decide +kernel) rfl) ?_
    refine W_r rfl rfl (VR_ldC rfl (et rfl) (cell_box (v := .int .i64 (b)) (hS18.obj 0 rfl hc3) rfl) Try.underlying3 rfl) ?_
    refine W_call rfl rfl rfl Try.func31 (by kernel_rfl) rfl (args3 (es rfl (es rfl (es rfl (es rfl (et rfl))))) (es rfl (es rfl (et rfl))) (et rfl)) (kAl_c (a := a) (b := b) (hS18.roC h_ov) (hS18.roC n_ov) (hS18.roC h_rv) ) ?_
    rintro _ w21 ⟨rfl, hP21⟩
    refine ⟨_, rfl, ?_⟩
    have hS21 := hS18.join hP21
    replace hS21 : St w NoX [c3, c2] w21 := hS21
    refine W_v rfl rfl (V_mov rfl (et rfl)) ?_
    refine W_v rfl rfl (V_ext (v := .bool ((alB (O.map ab) rs a b))) rfl (et rfl) rfl) ?_
    refine W_v rfl rfl (V_ext (v := .int .i64 ((ckd (O.map ab) rs [a, b]))) rfl (es rfl (et rfl)) rfl) ?_
    refine W_v rfl rfl (V_asg rfl (es rfl (et rfl))) ?_
    refine W_v rfl rfl (V_asg rfl (es rfl (et rfl))) ?_
    refine W_end ?_
    refine gen_Q (fun A22 hA22 => ?_)
    have hsz22 : SzN A22 106 := by rw [hA22]; infer_instance
    have hdf22 : A22.defers = [] := by rw [hA22]; simp only [df_put]; exact hdf19
    have l2_22 := lookE hA22 2 (es rfl (es rfl (es rfl (es rfl (es rfl (es rfl (es rfl (es rfl (es rfl (es rfl (es rfl l2_19)))))))))))
    have l3_22 := lookE hA22 3 (es rfl (es rfl (es rfl (es rfl (es rfl (es rfl (es rfl (es rfl (es rfl (es rfl (es rfl l3_19)))))))))))
    have l5_22 := lookE hA22 5 (es rfl (es rfl (es rfl (es rfl (es rfl (es rfl (es rfl (es rfl (es rfl (es rfl (es rfl l5_19)))))))))))
    have l6_22 := lookE hA22 6 (es rfl (es rfl (es rfl (es rfl (es rfl (es rfl (es rfl (es rfl (es rfl (es rfl (es rfl l6_19)))))))))))
    have l7_22 := lookE hA22 7 (es rfl (es rfl (es rfl (es rfl (es rfl (es rfl (es rfl (es rfl (es rfl (es rfl (es rfl l7_19)))))))))))
    have l8_22 := lookE hA22 8 (es rfl (es rfl (es rfl (es rfl (es rfl (es rfl (es rfl (es rfl (es rfl (es rfl (es rfl l8_19)))))))))))
    have l9_22 := lookE hA22 9 (es rfl (et rfl))
    have l10_22 := lookE hA22 10 (et rfl)
    clear hA22 hsz19 hdf19 l2_19 l3_19 l5_19 l6_19 l7_19 l8_19
    refine then_n (hK20 _ _ ?_)
    clear hK20
    refine wp_seq_k (fun K23 hK23 => ?_)
    -- region 6
    refine region_in ?_
    refine W_r rfl rfl (VR_ldA rfl l2_22 (hS21.obj 1 rfl hc2) Try.underlying25 rfl (by kernel_rfl)) ?_
    refine W_v rfl rfl (V_fa (off' := 0) rfl (es rfl l3_22) Try.underlying49 rfl (by decide +kernel) rfl) ?_
    refine W_r rfl rfl (VR_ldC rfl (et rfl) (cell_box (v := .int .i64 (a)) (hS21.obj 0 rfl hc3) rfl) Try.underlying3 rfl) ?_
    refine W_v rfl rfl (V_fa (off' := 1) rfl (es rfl (es rfl (es rfl l3_22))) Try.underlying49 rfl (by decide +kernel) rfl) ?_
    refine W_r rfl rfl (VR_ldC rfl (et rfl) (cell_box (v := .int .i64 (b)) (hS21.obj 0 rfl hc3) rfl) Try.underlying3 rfl) ?_
    refine W_call rfl rfl rfl Try.func32 (by kernel_rfl) rfl (args3 (es rfl (es rfl (es rfl (es rfl (et rfl))))) (es rfl (es rfl (et rfl))) (et rfl)) (qAl_c (a := a) (b := b) (hS21.roC h_ov) (hS21.roC n_ov) (hS21.roC h_rv) ) ?_
    rintro _ w24 ⟨rfl, hP24⟩
    refine ⟨_, rfl, ?_⟩
    have hS24 := hS21.join hP24
    replace hS24 : St w NoX [c3, c2] w24 := hS24
    refine W_v rfl rfl (V_mov rfl (et rfl)) ?_
    refine W_v rfl rfl (V_ext (v := .bool ((alB (O.map ab) rs a b))) rfl (et rfl) rfl) ?_
    refine W_v rfl rfl (V_ext (v := .int .i64 ((ckd (O.map ab) rs [a, b]))) rfl (es rfl (et rfl)) rfl) ?_
    refine W_v rfl rfl (V_asg rfl (es rfl (et rfl))) ?_
    refine W_v rfl rfl (V_asg rfl (es rfl (et rfl))) ?_
    refine W_end ?_
    refine gen_Q (fun A25 hA25 => ?_)
    have hsz25 : SzN A25 106 := by rw [hA25]; infer_instance
    have hdf25 : A25.defers = [] := by rw [hA25]; simp only [df_put]; exact hdf22
    have l2_25 := lookE hA25 2 (es rfl (es rfl (es rfl (es rfl (es rfl (es rfl (es rfl (es rfl (es rfl (es rfl (es rfl l2_22)))))))))))
    have l3_25 := lookE hA25 3 (es rfl (es rfl (es rfl (es rfl (es rfl (es rfl (es rfl (es rfl (es rfl (es rfl (es rfl l3_22)))))))))))
    have l5_25 := lookE hA25 5 (es rfl (es rfl (es rfl (es rfl (es rfl (es rfl (es rfl (es rfl (es rfl (es rfl (es rfl l5_22)))))))))))
    have l6_25 := lookE hA25 6 (es rfl (es rfl (es rfl (es rfl (es rfl (es rfl (es rfl (es rfl (es rfl (es rfl (es rfl l6_22)))))))))))
    have l7_25 := lookE hA25 7 (es rfl (es rfl (es rfl (es rfl (es rfl (es rfl (es rfl (es rfl (es rfl (es rfl (es rfl l7_22)))))))))))
    have l8_25 := lookE hA25 8 (es rfl (es rfl (es rfl (es rfl (es rfl (es rfl (es rfl (es rfl (es rfl (es rfl (es rfl l8_22)))))))))))
    have l9_25 := lookE hA25 9 (es rfl (es rfl (es rfl (es rfl (es rfl (es rfl (es rfl (es rfl (es rfl (es rfl (es rfl l9_22)))))))))))
    have l10_25 := lookE hA25 10 (es rfl (es rfl (es rfl (es rfl (es rfl (es rfl (es rfl (es rfl (es rfl (es rfl (es rfl l10_22)))))))))))
    have l11_25 := lookE hA25 11 (es rfl (et rfl))
    have l12_25 := lookE hA25 12 (et rfl)
    clear hA25 hsz22 hdf22 l2_22 l3_22 l5_22 l6_22 l7_22 l8_22 l9_22 l10_22
    refine then_n (hK23 _ _ ?_)
    clear hK23
    refine wp_seq_k (fun K26 hK26 => ?_)
    refine wp_seq_k (fun K27 hK27 => ?_)
    -- region 7
    refine region_in ?_
    refine W_v rfl rfl (V_mov rfl l5_25) ?_
    refine W_v rfl rfl (V_mov rfl (es rfl l7_25)) ?_
    refine W_v rfl rfl (V_neq rfl (es rfl (et rfl)) (et rfl)) ?_
    refine W_sure (c' := false) rfl rfl (V_mov rfl (et rfl)) (by simp) ?_
    refine W_v rfl (wanted_t rfl rfl (et rfl) (ez rfl)) (V_mov rfl (es rfl (es rfl (es rfl (es rfl l6_25))))) ?_
    refine W_v rfl (wanted_t rfl rfl (es rfl (et rfl)) (ez rfl)) (V_mov rfl (es rfl (es rfl (es rfl (es rfl (es rfl l8_25)))))) ?_
    refine W_v rfl (wanted_t rfl rfl (es rfl (es rfl (et rfl))) (ez rfl)) (V_neq rfl (es rfl (et rfl)) (et rfl)) ?_
    refine W_v rfl rfl (V_pickF rfl (es rfl (es rfl (es rfl (et rfl)))) (et rfl)) ?_
    refine W_sure (c' := false) rfl rfl (V_mov rfl (et rfl)) (by simp) ?_
    refine W_v rfl (wanted_t rfl rfl (et rfl) (ez rfl)) (V_mov rfl (es rfl (es rfl (es rfl (es rfl (es rfl (es rfl (es rfl (es rfl (es rfl l9_25)))))))))) ?_
    refine W_v rfl (wanted_t rfl rfl (es rfl (et rfl)) (ez rfl)) (V_mov rfl (es rfl (es rfl (es rfl (es rfl (es rfl (es rfl (es rfl (es rfl (es rfl (es rfl l11_25))))))))))) ?_
    refine W_v rfl (wanted_t rfl rfl (es rfl (es rfl (et rfl))) (ez rfl)) (V_neB rfl (es rfl (et rfl)) (et rfl) Try.underlying4) ?_
    refine W_v rfl rfl (V_pickF rfl (es rfl (es rfl (es rfl (et rfl)))) (et rfl)) ?_
    refine W_sure (c' := false) rfl rfl (V_mov rfl (et rfl)) (by simp) ?_
    refine W_v rfl (wanted_t rfl rfl (et rfl) (ez rfl)) (V_mov rfl (es rfl (es rfl (es rfl (es rfl (es rfl (es rfl (es rfl (es rfl (es rfl (es rfl (es rfl (es rfl (es rfl (es rfl l10_25))))))))))))))) ?_
    refine W_v rfl (wanted_t rfl rfl (es rfl (et rfl)) (ez rfl)) (V_mov rfl (es rfl (es rfl (es rfl (es rfl (es rfl (es rfl (es rfl (es rfl (es rfl (es rfl (es rfl (es rfl (es rfl (es rfl (es rfl l12_25)))))))))))))))) ?_
    refine W_v rfl (wanted_t rfl rfl (es rfl (es rfl (et rfl))) (ez rfl)) (V_neq rfl (es rfl (et rfl)) (et rfl)) ?_
    refine W_v rfl rfl (V_pickF rfl (es rfl (es rfl (es rfl (et rfl)))) (et rfl)) ?_
    refine W_end ?_
    refine gen_Q (fun A28 hA28 => ?_)
    have hsz28 : SzN A28 106 := by rw [hA28]; infer_instance
    have hdf28 : A28.defers = [] := by rw [hA28]; simp only [df_put]; exact hdf25
    have l2_28 := lookE hA28 2 (es rfl (es rfl (es rfl (es rfl (es rfl (es rfl (es rfl (es rfl (es rfl (es rfl (es rfl (es rfl (es rfl (es rfl (es rfl (es rfl (es rfl (es rfl l2_25))))))))))))))))))
    have l3_28 := lookE hA28 3 (es rfl (es rfl (es rfl (es rfl (es rfl (es rfl (es rfl (es rfl (es rfl (es rfl (es rfl (es rfl (es rfl (es rfl (es rfl (es rfl (es rfl (es rfl l3_25))))))))))))))))))
    have l73_28 := lookE hA28 73 (et rfl)
    clear hA28 hsz25 hdf25 l2_25 l3_25 l5_25 l6_25 l7_25 l8_25 l9_25 l10_25 l11_25 l12_25
    refine then_n (hK27 _ _ ?_)
    clear hK27
    refine cond_not l73_28 (by simp) ?_
    refine wp_skip ?_
    refine then_n (hK26 _ _ ?_)
    clear hK26
    refine wp_seq_k (fun K29 hK29 => ?_)
    -- region 9
    refine region_in ?_
    refine W_r rfl rfl (VR_ldA rfl l2_28 (hS24.obj 1 rfl hc2) Try.underlying25 rfl (by kernel_rfl)) ?_
    refine W_v rfl rfl (V_fa (off' := 0) rfl (es rfl l3_28) Try.underlying49 rfl (by decide +kernel) rfl) ?_
    refine W_r rfl rfl (VR_ldC rfl (et rfl) (cell_box (v := .int .i64 (a)) (hS24.obj 0 rfl hc3) rfl) Try.underlying3 rfl) ?_
    refine W_call rfl rfl rfl Try.func33 (by kernel_rfl) rfl (args2 (es rfl (es rfl (et rfl))) (et rfl)) (kSh_c (a := a) (hS24.roC h_ov) (hS24.roC n_ov) (hS24.roC h_rv) ) ?_
    rintro _ w30 ⟨rfl, hP30⟩
    refine ⟨_, rfl, ?_⟩
    have hS30 := hS24.join hP30
    replace hS30 : St w NoX [c3, c2] w30 := hS30
    refine W_v rfl rfl (V_mov rfl (et rfl)) ?_
    refine W_v rfl rfl (V_ext (v := .int .i64 ((shP (O.map ab) rs a))) rfl (et rfl) rfl) ?_
    refine W_v rfl rfl (V_ext (v := .int .i64 ((shR (O.map ab) rs a))) rfl (es rfl (et rfl)) rfl) ?_
    refine W_v rfl rfl (V_ext (v := .int .i64 ((shE (O.map ab) rs a))) rfl (es rfl (es rfl (et rfl))) rfl) ?_
    refine W_v rfl rfl (V_asg rfl (es rfl (es rfl (et rfl)))) ?_
    refine W_v rfl rfl (V_asg rfl (es rfl (es rfl (et rfl)))) ?_
    refine W_v rfl rfl (V_asg rfl (es rfl (es rfl (et rfl)))) ?_
    refine W_end ?_
    refine gen_Q (fun A31 hA31 => ?_)
    have hsz31 : SzN A31 106 := by rw [hA31]; infer_instance
    have hdf31 : A31.defers = [] := by rw [hA31]; simp only [df_put]; exact hdf28
    have l2_31 := lookE hA31 2 (es rfl (es rfl (es rfl (es rfl (es rfl (es rfl (es rfl (es rfl (es rfl (es rfl (es rfl l2_28)))))))))))
    have l3_31 := lookE hA31 3 (es rfl (es rfl (es rfl (es rfl (es rfl (es rfl (es rfl (es rfl (es rfl (es rfl (es rfl l3_28)))))))))))
    have l6_31 := lookE hA31 6 (et rfl)
    have l13_31 := lookE hA31 13 (es rfl (es rfl (et rfl)))
    have l14_31 := lookE hA31 14 (es rfl (et rfl))
    clear hA31 hsz28 hdf28 l2_28 l3_28 l73_28
    refine then_n (hK29 _ _ ?_)
    clear hK29
    refine wp_seq_k (fun K32 hK32 => ?_)
    -- region 10
    refine region_in ?_
    refine W_r rfl rfl (VR_ldA rfl l2_31 (hS30.obj 1 rfl hc2) Try.underlying25 rfl (by kernel_rfl)) ?_
    refine W_v rfl rfl (V_fa (off' := 0) rfl (es rfl l3_31) Try.underlying49 rfl (by decide +kernel) rfl) ?_
    refine W_r rfl rfl (VR_ldC rfl (et rfl) (cell_box (v := .int .i64 (a)) (hS30.obj 0 rfl hc3) rfl) Try.underlying3 rfl) ?_
    refine W_call rfl rfl rfl Try.func34 (by kernel_rfl) rfl (args2 (es rfl (es rfl (et rfl))) (et rfl)) (qSh_c (a := a) (hS30.roC h_ov) (hS30.roC n_ov) (hS30.roC h_rv) ) ?_
    rintro _ w33 ⟨rfl, hP33⟩
    refine ⟨_, rfl, ?_⟩
    have hS33 := hS30.join hP33
    replace hS33 : St w NoX [c3, c2] w33 := hS33
    refine W_v rfl rfl (V_mov rfl (et rfl)) ?_
    refine W_v rfl rfl (V_ext (v := .int .i64 ((shP (O.map ab) rs a))) rfl (et rfl) rfl) ?_
    refine W_v rfl rfl (V_ext (v := .int .i64 ((shR (O.map ab) rs a))) rfl (es rfl (et rfl)) rfl) ?_
    refine W_v rfl rfl (V_ext (v := .int .i64 ((shE (O.map ab) rs a))) rfl (es rfl (es rfl (et rfl))) rfl) ?_
    refine W_v rfl rfl (V_asg rfl (es rfl (es rfl (et rfl)))) ?_
    refine W_v rfl rfl (V_asg rfl (es rfl (es rfl (et rfl)))) ?_
    refine W_v rfl rfl (V_asg rfl (es rfl (es rfl (et rfl)))) ?_
    refine W_end ?_
    refine gen_Q (fun A34 hA34 => ?_)
    have hsz34 : SzN A34 106 := by rw [hA34]; infer_instance
    have hdf34 : A34.defers = [] := by rw [hA34]; simp only [df_put]; exact hdf31
    have l6_34 := lookE hA34 6 (es rfl (es rfl (es rfl (es rfl (es rfl (es rfl (es rfl (es rfl (es rfl (es rfl (es rfl l6_31)))))))))))
    have l8_34 := lookE hA34 8 (et rfl)
    have l13_34 := lookE hA34 13 (es rfl (es rfl (es rfl (es rfl (es rfl (es rfl (es rfl (es rfl (es rfl (es rfl (es rfl l13_31)))))))))))
    have l14_34 := lookE hA34 14 (es rfl (es rfl (es rfl (es rfl (es rfl (es rfl (es rfl (es rfl (es rfl (es rfl (es rfl l14_31)))))))))))
    have l15_34 := lookE hA34 15 (es rfl (es rfl (et rfl)))
    have l16_34 := lookE hA34 16 (es rfl (et rfl))
    clear hA34 hsz31 hdf31 l2_31 l3_31 l6_31 l13_31 l14_31
    have hS35 : St w NoX [] w33 := hS33.sel [] (by decide) rfl
    refine then_n (hK32 _ _ ?_)
    clear hK32
    refine wp_seq_k (fun K36 hK36 => ?_)
    -- region 11
    refine region_in ?_
    refine W_v rfl rfl (V_mov rfl l13_34) ?_
    refine W_v rfl rfl (V_mov rfl (es rfl l15_34)) ?_
    refine W_v rfl rfl (V_eql rfl (es rfl (et rfl)) (et rfl)) ?_
    refine W_sure (c' := true) rfl rfl (V_mov rfl (et rfl)) (by simp) ?_
    refine W_v rfl (wanted_t rfl rfl (et rfl) (ez rfl)) (V_mov rfl (es rfl (es rfl (es rfl (es rfl l14_34))))) ?_
    refine W_v rfl (wanted_t rfl rfl (es rfl (et rfl)) (ez rfl)) (V_mov rfl (es rfl (es rfl (es rfl (es rfl (es rfl l16_34)))))) ?_
    refine W_v rfl (wanted_t rfl rfl (es rfl (es rfl (et rfl))) (ez rfl)) (V_eql rfl (es rfl (et rfl)) (et rfl)) ?_
    refine W_v rfl rfl (V_pickT rfl (es rfl (es rfl (es rfl (et rfl)))) (et rfl)) ?_
    refine W_sure (c' := true) rfl rfl (V_mov rfl (et rfl)) (by simp) ?_
    refine W_v rfl (wanted_t rfl rfl (et rfl) (ez rfl)) (V_mov rfl (es rfl (es rfl (es rfl (es rfl (es rfl (es rfl (es rfl (es rfl (es rfl l6_34)))))))))) ?_
    refine W_v rfl (wanted_t rfl rfl (es rfl (et rfl)) (ez rfl)) (V_mov rfl (es rfl (es rfl (es rfl (es rfl (es rfl (es rfl (es rfl (es rfl (es rfl (es rfl l8_34))))))))))) ?_
    refine W_v rfl (wanted_t rfl rfl (es rfl (es rfl (et rfl))) (ez rfl)) (V_eql rfl (es rfl (et rfl)) (et rfl)) ?_
    refine W_v rfl rfl (V_pickT rfl (es rfl (es rfl (es rfl (et rfl)))) (et rfl)) ?_
    refine W_sure (c' := true) rfl rfl (V_mov rfl (et rfl)) (by simp) ?_
    refine W_call rfl (wanted_t rfl rfl (et rfl) (ez rfl)) rfl Try.func11 (by kernel_rfl) rfl (args0) (shown_c  ) ?_
    rintro _ w37 ⟨rfl, hP37⟩
    refine ⟨_, rfl, ?_⟩
    have hS37 := hS35.join hP37
    replace hS37 : St w NoX [] w37 := hS37
    refine W_v rfl rfl (V_pickT rfl (es rfl (et rfl)) (et rfl)) ?_
    refine W_v rfl rfl (V_asg rfl (et rfl)) ?_
    refine W_end ?_
    refine gen_Q (fun A38 hA38 => ?_)
    have hsz38 : SzN A38 106 := by rw [hA38]; infer_instance
    have hdf38 : A38.defers = [] := by rw [hA38]; simp only [df_put]; exact hdf34
    have l4_38 := lookE hA38 4 (et rfl)
    clear hA38 hsz34 hdf34 l6_34 l8_34 l13_34 l14_34 l15_34 l16_34
    refine then_n (hK36 _ _ ?_)
    clear hK36
    refine wp_ret ?_
    refine ret_in (results_1 Try.results7 (rv_tmp l4_38)) hdf38 ?_
    -- leaf F
    exact ⟨rfl, hS37.fin0⟩

end Go.Proofs.Ytdilbnmaihmgnaa