import Derived.Test.YtdilbnmaihmgnaaProg
import Derived.Test.YtdilbnmaihmgnaaGh8
namespace Go.Proofs.Ytdilbnmaihmgnaa
open Go.RowKit Go.Own Go.Own.R Go.Own.G Go.Own.Gr


set_option maxHeartbeats 4000000 in
theorem kAlloc_c {ov : Value} {O : List Ob} {rv : Value} {rs : List Int} {a : Int} {p : Int} {r : Int} {w : World} (h_ov : Ro w NoX (rl 2 obC ov O)) (n_ov : Ro w NoX (nst O)) (h_rv : Ro w NoX (il .i64 rv rs)) (hsm : SM (O.map ab)) :
    Calls Try.prog 28 #[.agg #[ov, rv], .int .i64 a, .int .i64 p, .int .i64 r] w fun e w' => ∃ hv H qv, e = .returned (.tuple #[.agg #[hv, qv], .int .i64 (alE (O.map ab) rs a p r)]) ∧ (H.map ab = (alO (O.map ab) rs a p r)) ∧ St w NoX [ro 2 obC hv H, owl .i64 (H.map (·.1)), owl .u64 (H.map (·.2)), io .i64 (qv) (alR (O.map ab) rs a p r)] w' := by
  refine calls_in 17 Try.func28 rfl rfl (by simp) (fun A0 hsz0 hdf0 hargs => ?_)
  have l0_0 := hargs 0 (.agg #[ov, rv]) rfl
  have l1_0 := hargs 1 (.int .i64 a) rfl
  have l2_0 := hargs 2 (.int .i64 p) rfl
  have l3_0 := hargs 3 (.int .i64 r) rfl
  clear hargs; replace hsz0 : SzN A0 17 := ⟨hsz0⟩
  have hS := St.nil w
  have bh_ov := SlN.le (sl_SlN h_ov.at)
  have bh_rv := SlN.le (sl_SlN h_rv.at)
  refine wp_seq_k (fun K1 hK1 => ?_)
  refine region_in ?_
  refine W_boxS (zs := #[ov, rv]) hS rfl rfl rfl l0_0 (by rfl) (fun g2 w2 c2 hc2 hS2 => ?_)
  replace hS2 : St w NoX [c2] w2 := hS2
  refine W_boxS (zs := #[.int .i64 (a)]) hS2 rfl rfl rfl (es rfl l1_0) (by rfl) (fun g3 w3 c3 hc3 hS3 => ?_)
  replace hS3 : St w NoX [c3, c2] w3 := hS3
  refine W_boxS (zs := #[.int .i64 (p)]) hS3 rfl rfl rfl (es rfl (es rfl l2_0)) (by rfl) (fun g4 w4 c4 hc4 hS4 => ?_)
  replace hS4 : St w NoX [c4, c3, c2] w4 := hS4
  refine W_boxS (zs := #[.int .i64 (r)]) hS4 rfl rfl rfl (e2 rfl (es rfl l3_0)) (by rfl) (fun g5 w5 c5 hc5 hS5 => ?_)
  replace hS5 : St w NoX [c5, c4, c3, c2] w5 := hS5
  refine W_allocS (z := .agg #[.slice none 0 0, .slice none 0 0]) (zs := #[.slice none 0 0, .slice none 0 0]) hS5 rfl rfl rfl (by kernel_rfl) (by rfl) (fun g6 w6 c6 hc6 hS6 => ?_)
  replace hS6 : St w NoX [c6, c5, c4, c3, c2] w6 := hS6
  refine W_v rfl rfl (V_asg rfl rfl) ?_
  refine W_end ?_
  refine gen_Q (fun A7 hA7 => ?_)
  have hsz7 := szq hA7
  have hdf7 : A7.defers = [] := by rw [hA7]; simp only [df_put]; exact hdf0
  have l4_7 := lookE hA7 4 (e5 rfl (et rfl))
  have l5_7 := lookE hA7 5 (e4 rfl (et rfl))
  have l6_7 := lookE hA7 6 (e3 rfl (et rfl))
  have l7_7 := lookE hA7 7 (e2 rfl (et rfl))
  have l8_7 := lookE hA7 8 (es rfl (et rfl))
  clear hA7 hsz0 hdf0 l0_0 l1_0 l2_0 l3_0
  refine then_n (hK1 _ _ ?_)
  clear hK1
  refine wp_seq_k (fun K8 hK8 => ?_)
  refine region_in ?_
  refine W_r rfl rfl (VR_ldA rfl l4_7 (hS6.obj 4 rfl hc2) Try.underlying25 rfl (by kernel_rfl)) ?_
  refine W_v rfl rfl (V_mkf rfl (args0) (args3 (es rfl l6_7) (es rfl l7_7) (es rfl l5_7))) ?_
  refine W_r rfl rfl (VR_ldC rfl (es rfl (es rfl l5_7)) (cell_box (v := .int .i64 (a)) (hS6.obj 3 rfl hc3) rfl) Try.underlying3 rfl) ?_
  have hll9 : [a].length = 1 := rfl
  refine W_litS (vs := [.int .i64 (a)]) (xs := ([a].map (Value.int .i64))) 1 hS6 rfl rfl rfl (parts1 (et rfl)) rfl Try.underlying23 (by kernel_rfl) (by decide) (by intro v hv; simp only [List.mem_cons, List.not_mem_nil, or_false] at hv; rcases hv with rfl <;> rfl) (by rfl) (fun g9 w9 c9 hc9 hS9 => ?_)
  replace hc9 : c9 = io .i64 (.slice (some ⟨g9, 0, none⟩) 1 1) [a] := hc9
  replace hS9 : St w NoX [c9, c6, c5, c4, c3, c2] w9 := hS9
  refine W_call rfl rfl rfl Try.func51 (by kernel_rfl) rfl (args3 (e3 rfl (et rfl)) (e2 rfl (et rfl)) (et rfl)) (kchAlloc_c (p := p) (gp := g4) (r := r) (gr := g5) (a := a) (ga := g3) (hS9.roC h_ov) (hS9.roC n_ov) (hS9.roC h_rv) (hS9.chC 3 rfl hc4) (hS9.chC 2 rfl hc5) (hS9.chC 4 rfl hc3) (hS9.chC 0 rfl hc9).own (by first | with_reducible assumption) (rfl)) ?_
  rintro _ w10 ⟨hv_10, H_10, qv_10, rfl, hH_10, hP10⟩
  refine ⟨_, rfl, ?_⟩
  obtain ⟨cR_10, cP_10, cQ_10, cG_10, hcR_10, hcP_10, hcQ_10, hcG_10, hP10⟩ := gen4 hP10
  have hS10 := hS9.join hP10
  replace hS10 : St w NoX [cR_10, cP_10, cQ_10, cG_10, c9, c6, c5, c4, c3, c2] w10 := hS10
  refine W_v rfl rfl (V_ext (v := .agg #[hv_10, qv_10]) rfl (et rfl) rfl) ?_
  refine W_v rfl rfl (V_ext (v := .int .i64 ((alE (O.map ab) rs a p r))) rfl (es rfl (et rfl)) rfl) ?_
  refine W_stAS 5 hS10 rfl hc6 rfl rfl rfl (e6 rfl (es rfl l8_7)) (es rfl (et rfl)) (by simp only [List.all_toArray, List.all_cons, List.all_nil, SlN_one (ow_at (hS10.chq 0 rfl hcR_10)), SlN_one (ow_at (hS10.chq 3 rfl hcG_10))] <;> rfl) (by rfl) (by kernel_rfl) (fun w11 c11 hc11 hS11 => ?_)
  replace hS11 : St w NoX [cR_10, cP_10, cQ_10, cG_10, c9, c11, c5, c4, c3, c2] w11 := hS11
  refine W_v rfl rfl (V_asg rfl (et rfl)) ?_
  refine W_end ?_
  refine gen_Q (fun A12 hA12 => ?_)
  have hsz12 := szq hA12
  have hdf12 : A12.defers = [] := by rw [hA12]; simp only [df_put]; exact hdf7
  have l8_12 := lookE hA12 8 (e7 rfl (es rfl l8_7))
  have l9_12 := lookE hA12 9 (et rfl)
  clear hA12 hsz7 hdf7 l4_7 l5_7 l6_7 l7_7 l8_7
  have hS13 : St w NoX [cR_10, cP_10, cQ_10, cG_10, c11] w11 := hS11.sel [0, 1, 2, 3, 5] (by decide) rfl
  refine then_n (hK8 _ _ ?_)
  clear hK8
  refine wp_ret ?_
  refine ret_in (results_2 Try.results28 (rv_cellA l8_12 (hS13.obj 4 rfl hc11) Try.underlying25 rfl (by kernel_rfl)) (rv_tmp l9_12)) hdf12 ?_
  -- leaf 
  exact ⟨_, H_10, _, rfl, hH_10, (hS13.fin4 0 rfl (hcR_10) 1 rfl (hcP_10) 2 rfl (hcQ_10) 3 rfl (hcG_10) (by decide))⟩

set_option maxHeartbeats 4000000 in
theorem kLoad_c {ov : Value} {O : List Ob} {rv : Value} {rs : List Int} {a : Int} {b : Int} {f : Int} {w : World} (h_ov : Ro w NoX (rl 2 obC ov O)) (n_ov : Ro w NoX (nst O)) (h_rv : Ro w NoX (il .i64 rv rs)) (hsm : SM (O.map ab)) :
    Calls Try.prog 25 #[.agg #[ov, rv], .int .i64 a, .int .i64 b, .int .i64 f] w fun e w' => ∃ hv H qv, e = .returned (.tuple #[.agg #[hv, qv], .int .i64 (ptE (O.map ab) rs [a, b] b f)]) ∧ (H.map ab = (ldO (O.map ab) rs a b f)) ∧ St w NoX [ro 2 obC hv H, owl .i64 (H.map (·.1)), owl .u64 (H.map (·.2)), io .i64 (qv) (ldR (O.map ab) rs a b f)] w' := by
  refine calls_in 18 Try.func25 rfl rfl (by simp) (fun A0 hsz0 hdf0 hargs => ?_)
  have l0_0 := hargs 0 (.agg #[ov, rv]) rfl
  have l1_0 := hargs 1 (.int .i64 a) rfl
  have l2_0 := hargs 2 (.int .i64 b) rfl
  have l3_0 := hargs 3 (.int .i64 f) rfl
  clear hargs; replace hsz0 : SzN A0 18 := ⟨hsz0⟩
  have hS := St.nil w
  have bh_ov := SlN.le (sl_SlN h_ov.at)
  have bh_rv := SlN.le (sl_SlN h_rv.at)
  refine wp_seq_k (fun K1 hK1 => ?_)
  refine region_in ?_
  refine W_boxS (zs := #[ov, rv]) hS rfl rfl rfl l0_0 (by rfl) (fun g2 w2 c2 hc2 hS2 => ?_)
  replace hS2 : St w NoX [c2] w2 := hS2
  refine W_boxS (zs := #[.int .i64 (a)]) hS2 rfl rfl rfl (es rfl l1_0) (by rfl) (fun g3 w3 c3 hc3 hS3 => ?_)
  replace hS3 : St w NoX [c3, c2] w3 := hS3
  refine W_boxS (zs := #[.int .i64 (b)]) hS3 rfl rfl rfl (es rfl (es rfl l2_0)) (by rfl) (fun g4 w4 c4 hc4 hS4 => ?_)
  replace hS4 : St w NoX [c4, c3, c2] w4 := hS4
  refine W_boxS (zs := #[.int .i64 (f)]) hS4 rfl rfl rfl (e2 rfl (es rfl l3_0)) (by rfl) (fun g5 w5 c5 hc5 hS5 => ?_)
  replace hS5 : St w NoX [c5, c4, c3, c2] w5 := hS5
  refine W_allocS (z := .agg #[.slice none 0 0, .slice none 0 0]) (zs := #[.slice none 0 0, .slice none 0 0]) hS5 rfl rfl rfl (by kernel_rfl) (by rfl) (fun g6 w6 c6 hc6 hS6 => ?_)
  replace hS6 : St w NoX [c6, c5, c4, c3, c2] w6 := hS6
  refine W_v rfl rfl (V_asg rfl rfl) ?_
  refine W_end ?_
  refine gen_Q (fun A7 hA7 => ?_)
  have hsz7 := szq hA7
  have hdf7 : A7.defers = [] := by rw [hA7]; simp only [df_put]; exact hdf0
  have l4_7 := lookE hA7 4 (e5 rfl (et rfl))
  have l5_7 := lookE hA7 5 (e4 rfl (et rfl))
  have l6_7 := lookE hA7 6 (e3 rfl (et rfl))
  have l7_7 := lookE hA7 7 (e2 rfl (et rfl))
  have l8_7 := lookE hA7 8 (es rfl (et rfl))
  clear hA7 hsz0 hdf0 l0_0 l1_0 l2_0 l3_0
  refine then_n (hK1 _ _ ?_)
  clear hK1
  refine wp_seq_k (fun K8 hK8 => ?_)
  refine region_in ?_
  refine W_r rfl rfl (VR_ldA rfl l4_7 (hS6.obj 4 rfl hc2) Try.underlying25 rfl (by kernel_rfl)) ?_
  refine W_v rfl rfl (V_mkf rfl (args0) (args3 (es rfl l6_7) (es rfl l7_7) (es rfl l5_7))) ?_
  refine W_r rfl rfl (VR_ldC rfl (es rfl (es rfl l5_7)) (cell_box (v := .int .i64 (a)) (hS6.obj 3 rfl hc3) rfl) Try.underlying3 rfl) ?_
  refine W_r rfl rfl (VR_ldC rfl (e2 rfl (es rfl l6_7)) (cell_box (v := .int .i64 (b)) (hS6.obj 2 rfl hc4) rfl) Try.underlying3 rfl) ?_
  have hll9 : [a, b].length = 2 := rfl
  refine W_litS (vs := [.int .i64 (a), .int .i64 (b)]) (xs := ([a, b].map (Value.int .i64))) 1 hS6 rfl rfl rfl (parts2 (es rfl (et rfl)) (et rfl)) rfl Try.underlying23 (by kernel_rfl) (by decide) (by intro v hv; simp only [List.mem_cons, List.not_mem_nil, or_false] at hv; rcases hv with rfl | rfl <;> rfl) (by rfl) (fun g9 w9 c9 hc9 hS9 => ?_)
  replace hc9 : c9 = io .i64 (.slice (some ⟨g9, 0, none⟩) 2 2) [a, b] := hc9
  replace hS9 : St w NoX [c9, c6, c5, c4, c3, c2] w9 := hS9
  refine W_call rfl rfl rfl Try.func51 (by kernel_rfl) rfl (args3 (e4 rfl (et rfl)) (e3 rfl (et rfl)) (et rfl)) (kchLoad_c (b := b) (gb := g4) (f := f) (gf := g5) (a := a) (ga := g3) (hS9.roC h_ov) (hS9.roC n_ov) (hS9.roC h_rv) (hS9.chC 3 rfl hc4) (hS9.chC 2 rfl hc5) (hS9.chC 4 rfl hc3) (hS9.chC 0 rfl hc9).own (by first | with_reducible assumption) (rfl)) ?_
  rintro _ w10 ⟨hv_10, H_10, qv_10, rfl, hH_10, hP10⟩
  refine ⟨_, rfl, ?_⟩
  obtain ⟨cR_10, cP_10, cQ_10, cG_10, hcR_10, hcP_10, hcQ_10, hcG_10, hP10⟩ := gen4 hP10
  have hS10 := hS9.join hP10
  replace hS10 : St w NoX [cR_10, cP_10, cQ_10, cG_10, c9, c6, c5, c4, c3, c2] w10 := hS10
  refine W_v rfl rfl (V_ext (v := .agg #[hv_10, qv_10]) rfl (et rfl) rfl) ?_
  refine W_v rfl rfl (V_ext (v := .int .i64 ((ptE (O.map ab) rs [a, b] b f))) rfl (es rfl (et rfl)) rfl) ?_
  refine W_stAS 5 hS10 rfl hc6 rfl rfl rfl (e7 rfl (es rfl l8_7)) (es rfl (et rfl)) (by simp only [List.all_toArray, List.all_cons, List.all_nil, SlN_one (ow_at (hS10.chq 0 rfl hcR_10)), SlN_one (ow_at (hS10.chq 3 rfl hcG_10))] <;> rfl) (by rfl) (by kernel_rfl) (fun w11 c11 hc11 hS11 => ?_)
  replace hS11 : St w NoX [cR_10, cP_10, cQ_10, cG_10, c9, c11, c5, c4, c3, c2] w11 := hS11
  refine W_v rfl rfl (V_asg rfl (et rfl)) ?_
  refine W_end ?_
  refine gen_Q (fun A12 hA12 => ?_)
  have hsz12 := szq hA12
  have hdf12 : A12.defers = [] := by rw [hA12]; simp only [df_put]; exact hdf7
  have l8_12 := lookE hA12 8 (e8 rfl (es rfl l8_7))
  have l9_12 := lookE hA12 9 (et rfl)
  clear hA12 hsz7 hdf7 l4_7 l5_7 l6_7 l7_7 l8_7
  have hS13 : St w NoX [cR_10, cP_10, cQ_10, cG_10, c11] w11 := hS11.sel [0, 1, 2, 3, 5] (by decide) rfl
  refine then_n (hK8 _ _ ?_)
  clear hK8
  refine wp_ret ?_
  refine ret_in (results_2 Try.results25 (rv_cellA l8_12 (hS13.obj 4 rfl hc11) Try.underlying25 rfl (by kernel_rfl)) (rv_tmp l9_12)) hdf12 ?_
  -- leaf 
  exact ⟨_, H_10, _, rfl, hH_10, (hS13.fin4 0 rfl (hcR_10) 1 rfl (hcP_10) 2 rfl (hcQ_10) 3 rfl (hcG_10) (by decide))⟩

set_option maxHeartbeats 4000000 in
theorem kStore_c {ov : Value} {O : List Ob} {rv : Value} {rs : List Int} {a : Int} {f : Int} {b : Int} {w : World} (h_ov : Ro w NoX (rl 2 obC ov O)) (n_ov : Ro w NoX (nst O)) (h_rv : Ro w NoX (il .i64 rv rs)) (hsm : SM (O.map ab)) :
    Calls Try.prog 27 #[.agg #[ov, rv], .int .i64 a, .int .i64 f, .int .i64 b] w fun e w' => ∃ hv H qv, e = .returned (.tuple #[.agg #[hv, qv], .int .i64 (ptE (O.map ab) rs [a, b] a f)]) ∧ (H.map ab = (soO (O.map ab) rs a f b)) ∧ St w NoX [ro 2 obC hv H, owl .i64 (H.map (·.1)), owl .u64 (H.map (·.2)), io .i64 (qv) (soR (O.map ab) rs a f b)] w' := by
  refine calls_in 18 Try.func27 rfl rfl (by simp) (fun A0 hsz0 hdf0 hargs => ?_)
  have l0_0 := hargs 0 (.agg #[ov, rv]) rfl
  have l1_0 := hargs 1 (.int .i64 a) rfl
  have l2_0 := hargs 2 (.int .i64 f) rfl
  have l3_0 := hargs 3 (.int .i64 b) rfl
  clear hargs; replace hsz0 : SzN A0 18 := ⟨hsz0⟩
  have hS := St.nil w
  have bh_ov := SlN.le (sl_SlN h_ov.at)
  have bh_rv := SlN.le (sl_SlN h_rv.at)
  refine wp_seq_k (fun K1 hK1 => ?_)
  refine region_in ?_
  refine W_boxS (zs := #[ov, rv]) hS rfl rfl rfl l0_0 (by rfl) (fun g2 w2 c2 hc2 hS2 => ?_)
  replace hS2 : St w NoX [c2] w2 := hS2
  refine W_boxS (zs := #[.int .i64 (a)]) hS2 rfl rfl rfl (es rfl l1_0) (by rfl) (fun g3 w3 c3 hc3 hS3 => ?_)
  replace hS3 : St w NoX [c3, c2] w3 := hS3
  refine W_boxS (zs := #[.int .i64 (f)]) hS3 rfl rfl rfl (es rfl (es rfl l2_0)) (by rfl) (fun g4 w4 c4 hc4 hS4 => ?_)
  replace hS4 : St w NoX [c4, c3, c2] w4 := hS4
  refine W_boxS (zs := #[.int .i64 (b)]) hS4 rfl rfl rfl (e2 rfl (es rfl l3_0)) (by rfl) (fun g5 w5 c5 hc5 hS5 => ?_)
  replace hS5 : St w NoX [c5, c4, c3, c2] w5 := hS5
  refine W_allocS (z := .agg #[.slice none 0 0, .slice none 0 0]) (zs := #[.slice none 0 0, .slice none 0 0]) hS5 rfl rfl rfl (by kernel_rfl) (by rfl) (fun g6 w6 c6 hc6 hS6 => ?_)
  replace hS6 : St w NoX [c6, c5, c4, c3, c2] w6 := hS6
  refine W_v rfl rfl (V_asg rfl rfl) ?_
  refine W_end ?_
  refine gen_Q (fun A7 hA7 => ?_)
  have hsz7 := szq hA7
  have hdf7 : A7.defers = [] := by rw [hA7]; simp only [df_put]; exact hdf0
  have l4_7 := lookE hA7 4 (e5 rfl (et rfl))
  have l5_7 := lookE hA7 5 (e4 rfl (et rfl))
  have l6_7 := lookE hA7 6 (e3 rfl (et rfl))
  have l7_7 := lookE hA7 7 (e2 rfl (et rfl))
  have l8_7 := lookE hA7 8 (es rfl (et rfl))
  clear hA7 hsz0 hdf0 l0_0 l1_0 l2_0 l3_0
  refine then_n (hK1 _ _ ?_)
  clear hK1
  refine wp_seq_k (fun K8 hK8 => ?_)
  refine region_in ?_
  refine W_r rfl rfl (VR_ldA rfl l4_7 (hS6.obj 4 rfl hc2) Try.underlying25 rfl (by kernel_rfl)) ?_
  refine W_v rfl rfl (V_mkf rfl (args0) (args3 (es rfl l5_7) (es rfl l6_7) (es rfl l7_7))) ?_
  refine W_r rfl rfl (VR_ldC rfl (es rfl (es rfl l5_7)) (cell_box (v := .int .i64 (a)) (hS6.obj 3 rfl hc3) rfl) Try.underlying3 rfl) ?_
  refine W_r rfl rfl (VR_ldC rfl (e2 rfl (es rfl l7_7)) (cell_box (v := .int .i64 (b)) (hS6.obj 1 rfl hc5) rfl) Try.underlying3 rfl) ?_
  have hll9 : [a, b].length = 2 := rfl
  refine W_litS (vs := [.int .i64 (a), .int .i64 (b)]) (xs := ([a, b].map (Value.int .i64))) 1 hS6 rfl rfl rfl (parts2 (es rfl (et rfl)) (et rfl)) rfl Try.underlying23 (by kernel_rfl) (by decide) (by intro v hv; simp only [List.mem_cons, List.not_mem_nil, or_false] at hv; rcases hv with rfl | rfl <;> rfl) (by rfl) (fun g9 w9 c9 hc9 hS9 => ?_)
  replace hc9 : c9 = io .i64 (.slice (some ⟨g9, 0, none⟩) 2 2) [a, b] := hc9
  replace hS9 : St w NoX [c9, c6, c5, c4, c3, c2] w9 := hS9
  refine W_call rfl rfl rfl Try.func51 (by kernel_rfl) rfl (args3 (e4 rfl (et rfl)) (e3 rfl (et rfl)) (et rfl)) (kchStore_c (a := a) (ga := g3) (f := f) (gf := g4) (b := b) (gb := g5) (hS9.roC h_ov) (hS9.roC n_ov) (hS9.roC h_rv) (hS9.chC 4 rfl hc3) (hS9.chC 3 rfl hc4) (hS9.chC 2 rfl hc5) (hS9.chC 0 rfl hc9).own (by first | with_reducible assumption) (rfl)) ?_
  rintro _ w10 ⟨hv_10, H_10, qv_10, rfl, hH_10, hP10⟩
  refine ⟨_, rfl, ?_⟩
  obtain ⟨cR_10, cP_10, cQ_10, cG_10, hcR_10, hcP_10, hcQ_10, hcG_10, hP10⟩ := gen4 hP10
  have hS10 := hS9.join hP10
  replace hS10 : St w NoX [cR_10, cP_10, cQ_10, cG_10, c9, c6, c5, c4, c3, c2] w10 := hS10
  refine W_v rfl rfl (V_ext (v := .agg #[hv_10, qv_10]) rfl (et rfl) rfl) ?_
  refine W_v rfl rfl (V_ext (v := .int .i64 ((ptE (O.map ab) rs [a, b] a f))) rfl (es rfl (et rfl)) rfl) ?_
  refine W_stAS 5 hS10 rfl hc6 rfl rfl rfl (e7 rfl (es rfl l8_7)) (es rfl (et rfl)) (by simp only [List.all_toArray, List.all_cons, List.all_nil, SlN_one (ow_at (hS10.chq 0 rfl hcR_10)), SlN_one (ow_at (hS10.chq 3 rfl hcG_10))] <;> rfl) (by rfl) (by kernel_rfl) (fun w11 c11 hc11 hS11 => ?_)
  replace hS11 : St w NoX [cR_10, cP_10, cQ_10, cG_10, c9, c11, c5, c4, c3, c2] w11 := hS11
  refine W_v rfl rfl (V_asg rfl (et rfl)) ?_
  refine W_end ?_
  refine gen_Q (fun A12 hA12 => ?_)
  have hsz12 := szq hA12
  have hdf12 : A12.defers = [] := by rw [hA12]; simp only [df_put]; exact hdf7
  have l8_12 := lookE hA12 8 (e8 rfl (es rfl l8_7))
  have l9_12 := lookE hA12 9 (et rfl)
  clear hA12 hsz7 hdf7 l4_7 l5_7 l6_7 l7_7 l8_7
  have hS13 : St w NoX [cR_10, cP_10, cQ_10, cG_10, c11] w11 := hS11.sel [0, 1, 2, 3, 5] (by decide) rfl
  refine then_n (hK8 _ _ ?_)
  clear hK8
  refine wp_ret ?_
  refine ret_in (results_2 Try.results27 (rv_cellA l8_12 (hS13.obj 4 rfl hc11) Try.underlying25 rfl (by kernel_rfl)) (rv_tmp l9_12)) hdf12 ?_
  -- leaf 
  exact ⟨_, H_10, _, rfl, hH_10, (hS13.fin4 0 rfl (hcR_10) 1 rfl (hcP_10) 2 rfl (hcQ_10) 3 rfl (hcG_10) (by decide))⟩

set_option maxHeartbeats 4000000 in
theorem kWrite_c {ov : Value} {O : List Ob} {rv : Value} {rs : List Int} {a : Int} {f : Int} {x : Int} {w : World} (h_ov : Ro w NoX (rl 2 obC ov O)) (n_ov : Ro w NoX (nst O)) (h_rv : Ro w NoX (il .i64 rv rs)) (hsm : SM (O.map ab)) :
    Calls Try.prog 29 #[.agg #[ov, rv], .int .i64 a, .int .i64 f, .int .u64 x] w fun e w' => ∃ hv H qv, e = .returned (.tuple #[.agg #[hv, qv], .int .i64 (rwE (O.map ab) rs [a] a f)]) ∧ (H.map ab = (wrO (O.map ab) rs a f x)) ∧ St w NoX [ro 2 obC hv H, owl .i64 (H.map (·.1)), owl .u64 (H.map (·.2)), io .i64 (qv) (wrR (O.map ab) rs a f)] w' := by
  refine calls_in 17 Try.func29 rfl rfl (by simp) (fun A0 hsz0 hdf0 hargs => ?_)
  have l0_0 := hargs 0 (.agg #[ov, rv]) rfl
  have l1_0 := hargs 1 (.int .i64 a) rfl
  have l2_0 := hargs 2 (.int .i64 f) rfl
  have l3_0 := hargs 3 (.int .u64 x) rfl
  clear hargs; replace hsz0 : SzN A0 17 := ⟨hsz0⟩
  have hS := St.nil w
  have bh_ov := SlN.le (sl_SlN h_ov.at)
  have bh_rv := SlN.le (sl_SlN h_rv.at)
  refine wp_seq_k (fun K1 hK1 => ?_)
  refine region_in ?_
  refine W_boxS (zs := #[ov, rv]) hS rfl rfl rfl l0_0 (by rfl) (fun g2 w2 c2 hc2 hS2 => ?_)
  replace hS2 : St w NoX [c2] w2 := hS2
  refine W_boxS (zs := #[.int .i64 (a)]) hS2 rfl rfl rfl (es rfl l1_0) (by rfl) (fun g3 w3 c3 hc3 hS3 => ?_)
  replace hS3 : St w NoX [c3, c2] w3 := hS3
  refine W_boxS (zs := #[.int .i64 (f)]) hS3 rfl rfl rfl (es rfl (es rfl l2_0)) (by rfl) (fun g4 w4 c4 hc4 hS4 => ?_)
  replace hS4 : St w NoX [c4, c3, c2] w4 := hS4
  refine W_boxS (zs := #[.int .u64 (x)]) hS4 rfl rfl rfl (e2 rfl (es rfl l3_0)) (by rfl) (fun g5 w5 c5 hc5 hS5 => ?_)
  replace hS5 : St w NoX [c5, c4, c3, c2] w5 := hS5
  refine W_allocS (z := .agg #[.slice none 0 0, .slice none 0 0]) (zs := #[.slice none 0 0, .slice none 0 0]) hS5 rfl rfl rfl (by kernel_rfl) (by rfl) (fun g6 w6 c6 hc6 hS6 => ?_)
  replace hS6 : St w NoX [c6, c5, c4, c3, c2] w6 := hS6
  refine W_v rfl rfl (V_asg rfl rfl) ?_
  refine W_end ?_
  refine gen_Q (fun A7 hA7 => ?_)
  have hsz7 := szq hA7
  have hdf7 : A7.defers = [] := by rw [hA7]; simp only [df_put]; exact hdf0
  have l4_7 := lookE hA7 4 (e5 rfl (et rfl))
  have l5_7 := lookE hA7 5 (e4 rfl (et rfl))
  have l6_7 := lookE hA7 6 (e3 rfl (et rfl))
  have l7_7 := lookE hA7 7 (e2 rfl (et rfl))
  have l8_7 := lookE hA7 8 (es rfl (et rfl))
  clear hA7 hsz0 hdf0 l0_0 l1_0 l2_0 l3_0
  refine then_n (hK1 _ _ ?_)
  clear hK1
  refine wp_seq_k (fun K8 hK8 => ?_)
  refine region_in ?_
  refine W_r rfl rfl (VR_ldA rfl l4_7 (hS6.obj 4 rfl hc2) Try.underlying25 rfl (by kernel_rfl)) ?_
  refine W_v rfl rfl (V_mkf rfl (args0) (args3 (es rfl l5_7) (es rfl l6_7) (es rfl l7_7))) ?_
  refine W_r rfl rfl (VR_ldC rfl (es rfl (es rfl l5_7)) (cell_box (v := .int .i64 (a)) (hS6.obj 3 rfl hc3) rfl) Try.underlying3 rfl) ?_
  have hll9 : [a].length = 1 := rfl
  refine W_litS (vs := [.int .i64 (a)]) (xs := ([a].map (Value.int .i64))) 1 hS6 rfl rfl rfl (parts1 (et rfl)) rfl Try.underlying23 (by kernel_rfl) (by decide) (by intro v hv; simp only [List.mem_cons, List.not_mem_nil, or_false] at hv; rcases hv with rfl <;> rfl) (by rfl) (fun g9 w9 c9 hc9 hS9 => ?_)
  replace hc9 : c9 = io .i64 (.slice (some ⟨g9, 0, none⟩) 1 1) [a] := hc9
  replace hS9 : St w NoX [c9, c6, c5, c4, c3, c2] w9 := hS9
  refine W_call rfl rfl rfl Try.func51 (by kernel_rfl) rfl (args3 (e3 rfl (et rfl)) (e2 rfl (et rfl)) (et rfl)) (kchWrite_c (a := a) (ga := g3) (f := f) (gf := g4) (x := x) (gx := g5) (hS9.roC h_ov) (hS9.roC n_ov) (hS9.roC h_rv) (hS9.chC 4 rfl hc3) (hS9.chC 3 rfl hc4) (hS9.chC 2 rfl hc5) (hS9.chC 0 rfl hc9).own (by first | with_reducible assumption) (rfl)) ?_
  rintro _ w10 ⟨hv_10, H_10, qv_10, rfl, hH_10, hP10⟩
  refine ⟨_, rfl, ?_⟩
  obtain ⟨cR_10, cP_10, cQ_10, cG_10, hcR_10, hcP_10, hcQ_10, hcG_10, hP10⟩ := gen4 hP10
  have hS10 := hS9.join hP10
  replace hS10 : St w NoX [cR_10, cP_10, cQ_10, cG_10, c9, c6, c5, c4, c3, c2] w10 := hS10
  refine W_v rfl rfl (V_ext (v := .agg #[hv_10, qv_10]) rfl (et rfl) rfl) ?_
  refine W_v rfl rfl (V_ext (v := .int .i64 ((rwE (O.map ab) rs [a] a f))) rfl (es rfl (et rfl)) rfl) ?_
  refine W_stAS 5 hS10 rfl hc6 rfl rfl rfl (e6 rfl (es rfl l8_7)) (es rfl (et rfl)) (by simp only [List.all_toArray, List.all_cons, List.all_nil, SlN_one (ow_at (hS10.chq 0 rfl hcR_10)), SlN_one (ow_at (hS10.chq 3 rfl hcG_10))] <;> rfl) (by rfl) (by kernel_rfl) (fun w11 c11 hc11 hS11 => ?_)
  replace hS11 : St w NoX [cR_10, cP_10, cQ_10, cG_10, c9, c11, c5, c4, c3, c2] w11 := hS11
  refine W_v rfl rfl (V_asg rfl (et rfl)) ?_
  refine W_end ?_
  refine gen_Q (fun A12 hA12 => ?_)
  have hsz12 := szq hA12
  have hdf12 : A12.defers = [] := by rw [hA12]; simp only [df_put]; exact hdf7
  have l8_12 := lookE hA12 8 (e7 rfl (es rfl l8_7))
  have l9_12 := lookE hA12 9 (et rfl)
  clear hA12 hsz7 hdf7 l4_7 l5_7 l6_7 l7_7 l8_7
  have hS13 : St w NoX [cR_10, cP_10, cQ_10, cG_10, c11] w11 := hS11.sel [0, 1, 2, 3, 5] (by decide) rfl
  refine then_n (hK8 _ _ ?_)
  clear hK8
  refine wp_ret ?_
  refine ret_in (results_2 Try.results29 (rv_cellA l8_12 (hS13.obj 4 rfl hc11) Try.underlying25 rfl (by kernel_rfl)) (rv_tmp l9_12)) hdf12 ?_
  -- leaf 
  exact ⟨_, H_10, _, rfl, hH_10, (hS13.fin4 0 rfl (hcR_10) 1 rfl (hcP_10) 2 rfl (hcQ_10) 3 rfl (hcG_10) (by decide))⟩

set_option maxHeartbeats 4000000 in
theorem kMove_c {ov : Value} {O : List Ob} {rv : Value} {rs : List Int} {a : Int} {b : Int} {w : World} (h_ov : Ro w NoX (rl 2 obC ov O)) (n_ov : Ro w NoX (nst O)) (h_rv : Ro w NoX (il .i64 rv rs)) (hsm : SM (O.map ab)) :
    Calls Try.prog 41 #[.agg #[ov, rv], .int .i64 a, .int .i64 b] w fun e w' => ∃ hv H qv, e = .returned (.tuple #[.agg #[hv, qv], .int .i64 (ckd (O.map ab) rs [a, b])]) ∧ (H.map ab = (kpO (O.map ab) rs [a, b])) ∧ St w NoX [ro 2 obC hv H, owl .i64 (H.map (·.1)), owl .u64 (H.map (·.2)), io .i64 (qv) (mvR (O.map ab) rs a b)] w' := by
  refine calls_in 16 Try.func41 rfl rfl (by simp) (fun A0 hsz0 hdf0 hargs => ?_)
  have l0_0 := hargs 0 (.agg #[ov, rv]) rfl
  have l1_0 := hargs 1 (.int .i64 a) rfl
  have l2_0 := hargs 2 (.int .i64 b) rfl
  clear hargs; replace hsz0 : SzN A0 16 := ⟨hsz0⟩
  have hS := St.nil w
  have bh_ov := SlN.le (sl_SlN h_ov.at)
  have bh_rv := SlN.le (sl_SlN h_rv.at)
  refine wp_seq_k (fun K1 hK1 => ?_)
  refine region_in ?_
  refine W_boxS (zs := #[ov, rv]) hS rfl rfl rfl l0_0 (by rfl) (fun g2 w2 c2 hc2 hS2 => ?_)
  replace hS2 : St w NoX [c2] w2 := hS2
  refine W_boxS (zs := #[.int .i64 (a)]) hS2 rfl rfl rfl (es rfl l1_0) (by rfl) (fun g3 w3 c3 hc3 hS3 => ?_)
  replace hS3 : St w NoX [c3, c2] w3 := hS3
  refine W_boxS (zs := #[.int .i64 (b)]) hS3 rfl rfl rfl (es rfl (es rfl l2_0)) (by rfl) (fun g4 w4 c4 hc4 hS4 => ?_)
  replace hS4 : St w NoX [c4, c3, c2] w4 := hS4
  refine W_allocS (z := .agg #[.slice none 0 0, .slice none 0 0]) (zs := #[.slice none 0 0, .slice none 0 0]) hS4 rfl rfl rfl (by kernel_rfl) (by rfl) (fun g5 w5 c5 hc5 hS5 => ?_)
  replace hS5 : St w NoX [c5, c4, c3, c2] w5 := hS5
  refine W_v rfl rfl (V_asg rfl rfl) ?_
  refine W_end ?_
  refine gen_Q (fun A6 hA6 => ?_)
  have hsz6 := szq hA6
  have hdf6 : A6.defers = [] := by rw [hA6]; simp only [df_put]; exact hdf0
  have l3_6 := lookE hA6 3 (e4 rfl (et rfl))
  have l4_6 := lookE hA6 4 (e3 rfl (et rfl))
  have l5_6 := lookE hA6 5 (e2 rfl (et rfl))
  have l6_6 := lookE hA6 6 (es rfl (et rfl))
  clear hA6 hsz0 hdf0 l0_0 l1_0 l2_0
  refine then_n (hK1 _ _ ?_)
  clear hK1
  refine wp_seq_k (fun K7 hK7 => ?_)
  refine region_in ?_
  refine W_r rfl rfl (VR_ldA rfl l3_6 (hS5.obj 3 rfl hc2) Try.underlying25 rfl (by kernel_rfl)) ?_
  refine W_v rfl rfl (V_mkf rfl (args0) (args2 (es rfl l5_6) (es rfl l4_6))) ?_
  refine W_r rfl rfl (VR_ldC rfl (es rfl (es rfl l4_6)) (cell_box (v := .int .i64 (a)) (hS5.obj 2 rfl hc3) rfl) Try.underlying3 rfl) ?_
  refine W_r rfl rfl (VR_ldC rfl (e2 rfl (es rfl l5_6)) (cell_box (v := .int .i64 (b)) (hS5.obj 1 rfl hc4) rfl) Try.underlying3 rfl) ?_
  have hll8 : [a, b].length = 2 := rfl
  refine W_litS (vs := [.int .i64 (a), .int .i64 (b)]) (xs := ([a, b].map (Value.int .i64))) 1 hS5 rfl rfl rfl (parts2 (es rfl (et rfl)) (et rfl)) rfl Try.underlying23 (by kernel_rfl) (by decide) (by intro v hv; simp only [List.mem_cons, List.not_mem_nil, or_false] at hv; rcases hv with rfl | rfl <;> rfl) (by rfl) (fun g8 w8 c8 hc8 hS8 => ?_)
  replace hc8 : c8 = io .i64 (.slice (some ⟨g8, 0, none⟩) 2 2) [a, b] := hc8
  replace hS8 : St w NoX [c8, c5, c4, c3, c2] w8 := hS8
  refine W_call rfl rfl rfl Try.func51 (by kernel_rfl) rfl (args3 (e4 rfl (et rfl)) (e3 rfl (et rfl)) (et rfl)) (kchMove_c (b := b) (gb := g4) (a := a) (ga := g3) (hS8.roC h_ov) (hS8.roC n_ov) (hS8.roC h_rv) (hS8.chC 2 rfl hc4) (hS8.chC 3 rfl hc3) (hS8.chC 0 rfl hc8).own (by first | with_reducible assumption) (rfl)) ?_
  rintro _ w9 ⟨hv_9, H_9, qv_9, rfl, hH_9, hP9⟩
  refine ⟨_, rfl, ?_⟩
  obtain ⟨cR_9, cP_9, cQ_9, cG_9, hcR_9, hcP_9, hcQ_9, hcG_9, hP9⟩ := gen4 hP9
  have hS9 := hS8.join hP9
  replace hS9 : St w NoX [cR_9, cP_9, cQ_9, cG_9, c8, c5, c4, c3, c2] w9 := hS9
  refine W_v rfl rfl (V_ext (v := .agg #[hv_9, qv_9]) rfl (et rfl) rfl) ?_
  refine W_v rfl rfl (V_ext (v := .int .i64 ((ckd (O.map ab) rs [a, b]))) rfl (es rfl (et rfl)) rfl) ?_
  refine W_stAS 5 hS9 rfl hc5 rfl rfl rfl (e7 rfl (es rfl l6_6)) (es rfl (et rfl)) (by simp only [List.all_toArray, List.all_cons, List.all_nil, SlN_one (ow_at (hS9.chq 0 rfl hcR_9)), SlN_one (ow_at (hS9.chq 3 rfl hcG_9))] <;> rfl) (by rfl) (by kernel_rfl) (fun w10 c10 hc10 hS10 => ?_)
  replace hS10 : St w NoX [cR_9, cP_9, cQ_9, cG_9, c8, c10, c4, c3, c2] w10 := hS10
  refine W_v rfl rfl (V_asg rfl (et rfl)) ?_
  refine W_end ?_
  refine gen_Q (fun A11 hA11 => ?_)
  have hsz11 := szq hA11
  have hdf11 : A11.defers = [] := by rw [hA11]; simp only [df_put]; exact hdf6
  have l6_11 := lookE hA11 6 (e8 rfl (es rfl l6_6))
  have l7_11 := lookE hA11 7 (et rfl)
  clear hA11 hsz6 hdf6 l3_6 l4_6 l5_6 l6_6
  have hS12 : St w NoX [cR_9, cP_9, cQ_9, cG_9, c10] w10 := hS10.sel [0, 1, 2, 3, 5] (by decide) rfl
  refine then_n (hK7 _ _ ?_)
  clear hK7
  refine wp_ret ?_
  refine ret_in (results_2 Try.results41 (rv_cellA l6_11 (hS12.obj 4 rfl hc10) Try.underlying25 rfl (by kernel_rfl)) (rv_tmp l7_11)) hdf11 ?_
  -- leaf 
  exact ⟨_, H_9, _, rfl, hH_9, (hS12.fin4 0 rfl (hcR_9) 1 rfl (hcP_9) 2 rfl (hcQ_9) 3 rfl (hcG_9) (by decide))⟩

set_option maxHeartbeats 4000000 in
theorem kClear_c {ov : Value} {O : List Ob} {rv : Value} {rs : List Int} {a : Int} {w : World} (h_ov : Ro w NoX (rl 2 obC ov O)) (n_ov : Ro w NoX (nst O)) (h_rv : Ro w NoX (il .i64 rv rs)) (hsm : SM (O.map ab)) :
    Calls Try.prog 24 #[.agg #[ov, rv], .int .i64 a] w fun e w' => ∃ hv H qv, e = .returned (.tuple #[.agg #[hv, qv], .int .i64 (ckd (O.map ab) rs [a])]) ∧ (H.map ab = (kpO (O.map ab) rs [a])) ∧ St w NoX [ro 2 obC hv H, owl .i64 (H.map (·.1)), owl .u64 (H.map (·.2)), io .i64 (qv) (clR (O.map ab) rs a)] w' := by
  refine calls_in 13 Try.func24 rfl rfl (by simp) (fun A0 hsz0 hdf0 hargs => ?_)
  have l0_0 := hargs 0 (.agg #[ov, rv]) rfl
  have l1_0 := hargs 1 (.int .i64 a) rfl
  clear hargs; replace hsz0 : SzN A0 13 := ⟨hsz0⟩
  have hS := St.nil w
  have bh_ov := SlN.le (sl_SlN h_ov.at)
  have bh_rv := SlN.le (sl_SlN h_rv.at)
  refine wp_seq_k (fun K1 hK1 => ?_)
  refine region_in ?_
  refine W_boxS (zs := #[ov, rv]) hS rfl rfl rfl l0_0 (by rfl) (fun g2 w2 c2 hc2 hS2 => ?_)
  replace hS2 : St w NoX [c2] w2 := hS2
  refine W_boxS (zs := #[.int .i64 (a)]) hS2 rfl rfl rfl (es rfl l1_0) (by rfl) (fun g3 w3 c3 hc3 hS3 => ?_)
  replace hS3 : St w NoX [c3, c2] w3 := hS3
  refine W_allocS (z := .agg #[.slice none 0 0, .slice none 0 0]) (zs := #[.slice none 0 0, .slice none 0 0]) hS3 rfl rfl rfl (by kernel_rfl) (by rfl) (fun g4 w4 c4 hc4 hS4 => ?_)
  replace hS4 : St w NoX [c4, c3, c2] w4 := hS4
  refine W_v rfl rfl (V_asg rfl rfl) ?_
  refine W_end ?_
  refine gen_Q (fun A5 hA5 => ?_)
  have hsz5 := szq hA5
  have hdf5 : A5.defers = [] := by rw [hA5]; simp only [df_put]; exact hdf0
  have l2_5 := lookE hA5 2 (e3 rfl (et rfl))
  have l3_5 := lookE hA5 3 (e2 rfl (et rfl))
  have l4_5 := lookE hA5 4 (es rfl (et rfl))
  clear hA5 hsz0 hdf0 l0_0 l1_0
  refine then_n (hK1 _ _ ?_)
  clear hK1
  refine wp_seq_k (fun K6 hK6 => ?_)
  refine region_in ?_
  refine W_r rfl rfl (VR_ldA rfl l2_5 (hS4.obj 2 rfl hc2) Try.underlying25 rfl (by kernel_rfl)) ?_
  refine W_v rfl rfl (V_mkf rfl (args0) (args1 (es rfl l3_5))) ?_
  refine W_r rfl rfl (VR_ldC rfl (es rfl (es rfl l3_5)) (cell_box (v := .int .i64 (a)) (hS4.obj 1 rfl hc3) rfl) Try.underlying3 rfl) ?_
  have hll7 : [a].length = 1 := rfl
  refine W_litS (vs := [.int .i64 (a)]) (xs := ([a].map (Value.int .i64))) 1 hS4 rfl rfl rfl (parts1 (et rfl)) rfl Try.underlying23 (by kernel_rfl) (by decide) (by intro v hv; simp only [List.mem_cons, List.not_mem_nil, or_false] at hv; rcases hv with rfl <;> rfl) (by rfl) (fun g7 w7 c7 hc7 hS7 => ?_)
  replace hc7 : c7 = io .i64 (.slice (some ⟨g7, 0, none⟩) 1 1) [a] := hc7
  replace hS7 : St w NoX [c7, c4, c3, c2] w7 := hS7
  refine W_call rfl rfl rfl Try.func51 (by kernel_rfl) rfl (args3 (e3 rfl (et rfl)) (e2 rfl (et rfl)) (et rfl)) (kchClear_c (a := a) (ga := g3) (hS7.roC h_ov) (hS7.roC n_ov) (hS7.roC h_rv) (hS7.chC 2 rfl hc3) (hS7.chC 0 rfl hc7).own (by first | with_reducible assumption) (rfl)) ?_
  rintro _ w8 ⟨hv_8, H_8, qv_8, rfl, hH_8, hP8⟩
  refine ⟨_, rfl, ?_⟩
  obtain ⟨cR_8, cP_8, cQ_8, cG_8, hcR_8, hcP_8, hcQ_8, hcG_8, hP8⟩ := gen4 hP8
  have hS8 := hS7.join hP8
  replace hS8 : St w NoX [cR_8, cP_8, cQ_8, cG_8, c7, c4, c3, c2] w8 := hS8
  refine W_v rfl rfl (V_ext (v := .agg #[hv_8, qv_8]) rfl (et rfl) rfl) ?_
  refine W_v rfl rfl (V_ext (v := .int .i64 ((ckd (O.map ab) rs [a]))) rfl (es rfl (et rfl)) rfl) ?_
  refine W_stAS 5 hS8 rfl hc4 rfl rfl rfl (e6 rfl (es rfl l4_5)) (es rfl (et rfl)) (by simp only [List.all_toArray, List.all_cons, List.all_nil, SlN_one (ow_at (hS8.chq 0 rfl hcR_8)), SlN_one (ow_at (hS8.chq 3 rfl hcG_8))] <;> rfl) (by rfl) (by kernel_rfl) (fun w9 c9 hc9 hS9 => ?_)
  replace hS9 : St w NoX [cR_8, cP_8, cQ_8, cG_8, c7, c9, c3, c2] w9 := hS9
  refine W_v rfl rfl (V_asg rfl (et rfl)) ?_
  refine W_end ?_
  refine gen_Q (fun A10 hA10 => ?_)
  have hsz10 := szq hA10
  have hdf10 : A10.defers = [] := by rw [hA10]; simp only [df_put]; exact hdf5
  have l4_10 := lookE hA10 4 (e7 rfl (es rfl l4_5))
  have l5_10 := lookE hA10 5 (et rfl)
  clear hA10 hsz5 hdf5 l2_5 l3_5 l4_5
  have hS11 : St w NoX [cR_8, cP_8, cQ_8, cG_8, c9] w9 := hS9.sel [0, 1, 2, 3, 5] (by decide) rfl
  refine then_n (hK6 _ _ ?_)
  clear hK6
  refine wp_ret ?_
  refine ret_in (results_2 Try.results24 (rv_cellA l4_10 (hS11.obj 4 rfl hc9) Try.underlying25 rfl (by kernel_rfl)) (rv_tmp l5_10)) hdf10 ?_
  -- leaf 
  exact ⟨_, H_8, _, rfl, hH_8, (hS11.fin4 0 rfl (hcR_8) 1 rfl (hcP_8) 2 rfl (hcQ_8) 3 rfl (hcG_8) (by decide))⟩

set_option maxHeartbeats 4000000 in
theorem qAlloc_c {ov : Value} {O : List Ob} {rv : Value} {rs : List Int} {a : Int} {p : Int} {r : Int} {w : World} (h_ov : Ro w NoX (rl 2 obC ov O)) (n_ov : Ro w NoX (nst O)) (h_rv : Ro w NoX (il .i64 rv rs)) (hsm : SM (O.map ab)) :
    Calls Try.prog 36 #[.agg #[ov, rv], .int .i64 a, .int .i64 p, .int .i64 r] w fun e w' => ∃ hv H qv, e = .returned (.tuple #[.agg #[hv, qv], .int .i64 (alE (O.map ab) rs a p r)]) ∧ (H.map ab = (alO (O.map ab) rs a p r)) ∧ St w NoX [ro 2 obC hv H, owl .i64 (H.map (·.1)), owl .u64 (H.map (·.2)), io .i64 (qv) (alR (O.map ab) rs a p r)] w' := by
  refine calls_in 61 Try.func36 rfl rfl (by simp) (fun A0 hsz0 hdf0 hargs => ?_)
  have l0_0 := hargs 0 (.agg #[ov, rv]) rfl
  have l1_0 := hargs 1 (.int .i64 a) rfl
  have l2_0 := hargs 2 (.int .i64 p) rfl
  have l3_0 := hargs 3 (.int .i64 r) rfl
  clear hargs; replace hsz0 : SzN A0 61 := ⟨hsz0⟩
  have hS := St.nil w
  have bh_ov := SlN.le (sl_SlN h_ov.at)
  have bh_rv := SlN.le (sl_SlN h_rv.at)
  refine wp_seq_k (fun K1 hK1 => ?_)
  refine region_in ?_
  refine W_boxS (zs := #[ov, rv]) hS rfl rfl rfl l0_0 (by rfl) (fun g2 w2 c2 hc2 hS2 => ?_)
  replace hS2 : St w NoX [c2] w2 := hS2
  refine W_allocS (z := .agg #[.slice none 0 0, .slice none 0 0]) (zs := #[.slice none 0 0, .slice none 0 0]) hS2 rfl rfl rfl (by kernel_rfl) (by rfl) (fun g3 w3 c3 hc3 hS3 => ?_)
  replace hS3 : St w NoX [c3, c2] w3 := hS3
  refine W_v rfl rfl (V_asg rfl rfl) ?_
  refine W_end ?_
  refine gen_Q (fun A4 hA4 => ?_)
  have hsz4 := szq hA4
  have hdf4 : A4.defers = [] := by rw [hA4]; simp only [df_put]; exact hdf0
  have l1_4 := lookE hA4 1 (e2 rfl (es rfl l1_0))
  have l2_4 := lookE hA4 2 (e2 rfl (es rfl l2_0))
  have l3_4 := lookE hA4 3 (e2 rfl (es rfl l3_0))
  have l4_4 := lookE hA4 4 (e2 rfl (et rfl))
  have l8_4 := lookE hA4 8 (es rfl (et rfl))
  clear hA4 hsz0 hdf0 l0_0 l1_0 l2_0 l3_0
  refine then_n (hK1 _ _ ?_)
  clear hK1
  refine wp_seq_k (fun K5 hK5 => ?_)
  refine region_in ?_
  refine W_r rfl rfl (VR_ldA rfl l4_4 (hS3.obj 1 rfl hc2) Try.underlying25 rfl (by kernel_rfl)) ?_
  refine W_v rfl rfl (V_mov rfl (es rfl l1_4)) ?_
  have hll6 : [a].length = 1 := rfl
  refine W_litS (vs := [.int .i64 (a)]) (xs := ([a].map (Value.int .i64))) 1 hS3 rfl rfl rfl (parts1 (et rfl)) rfl Try.underlying23 (by kernel_rfl) (by decide) (by intro v hv; simp only [List.mem_cons, List.not_mem_nil, or_false] at hv; rcases hv with rfl <;> rfl) (by rfl) (fun g6 w6 c6 hc6 hS6 => ?_)
  replace hc6 : c6 = io .i64 (.slice (some ⟨g6, 0, none⟩) 1 1) [a] := hc6
  replace hS6 : St w NoX [c6, c3, c2] w6 := hS6
  refine W_call rfl rfl rfl Try.func59 (by kernel_rfl) rfl (args2 (e2 rfl (et rfl)) (et rfl)) (qcd_c (hS6.roC h_ov) (hS6.roC n_ov) (hS6.roC h_rv) (hS6.chC 0 rfl hc6).own ) ?_
  rintro _ w7 ⟨rfl, hP7⟩
  refine ⟨_, rfl, ?_⟩
  have hS7 := hS6.join hP7
  replace hS7 : St w NoX [c6, c3, c2] w7 := hS7
  refine W_v rfl rfl (V_asg rfl (et rfl)) ?_
  refine W_end ?_
  refine gen_Q (fun A8 hA8 => ?_)
  have hsz8 := szq hA8
  have hdf8 : A8.defers = [] := by rw [hA8]; simp only [df_put]; exact hdf4
  have l1_8 := lookE hA8 1 (e4 rfl (es rfl l1_4))
  have l2_8 := lookE hA8 2 (e4 rfl (es rfl l2_4))
  have l3_8 := lookE hA8 3 (e4 rfl (es rfl l3_4))
  have l4_8 := lookE hA8 4 (e4 rfl (es rfl l4_4))
  have l8_8 := lookE hA8 8 (e4 rfl (es rfl l8_4))
  have l10_8 := lookE hA8 10 (et rfl)
  clear hA8 hsz4 hdf4 l1_4 l2_4 l3_4 l4_4 l8_4
  have hS9 : St w NoX [c3, c2] w7 := hS7.sel [1, 2] (by decide) rfl
  refine then_n (hK5 _ _ ?_)
  clear hK5
  refine wp_seq_k (fun K10 hK10 => ?_)
  refine wp_seq_k (fun K11 hK11 => ?_)
  refine region_in ?_
  refine W_v rfl rfl (V_mov rfl l10_8) ?_
  refine W_v rfl rfl (V_neq rfl (et rfl) rfl) ?_
  refine W_end ?_
  refine gen_Q (fun A12 hA12 => ?_)
  have hsz12 := szq hA12
  have hdf12 : A12.defers = [] := by rw [hA12]; simp only [df_put]; exact hdf8
  have l1_12 := lookE hA12 1 (es rfl (es rfl l1_8))
  have l2_12 := lookE hA12 2 (es rfl (es rfl l2_8))
  have l3_12 := lookE hA12 3 (es rfl (es rfl l3_8))
  have l4_12 := lookE hA12 4 (es rfl (es rfl l4_8))
  have l8_12 := lookE hA12 8 (es rfl (es rfl l8_8))
  have l10_12 := lookE hA12 10 (es rfl (es rfl l10_8))
  have l17_12 := lookE hA12 17 (et rfl)
  clear hA12 hsz8 hdf8 l1_8 l2_8 l3_8 l4_8 l8_8 l10_8
  refine then_n (hK11 _ _ ?_)
  clear hK11
  refine cond_dec l17_12 (fun c13 => ?_) (fun c13 => ?_)
  · skip
    refine wp_seq_k (fun K14 hK14 => ?_)
    refine region_in ?_
    refine W_v rfl rfl (V_bldS (n := 2) (z := .agg #[.slice none 0 0, .slice none 0 0]) rfl (parts0) (by kernel_rfl) (by simp only [List.all_cons, List.all_nil, Bool.and_true] <;> rfl) (by kernel_rfl) (by simp only [List.foldl_cons, List.foldl_nil, Value.cells, List.setIfInBounds_toArray, List.set_cons_succ, List.set_cons_zero] <;> rfl)) ?_
    refine W_v rfl rfl (V_mov rfl (es rfl l10_12)) ?_
    refine W_stAS 0 hS9 rfl hc3 rfl rfl rfl (es rfl (es rfl l8_12)) (es rfl (et rfl)) (by first | (rw [List.all_toArray] <;> rfl) | (simp only [List.all_toArray, List.all_cons, List.all_nil] <;> rfl)) (by rfl) (by kernel_rfl) (fun w15 c15 hc15 hS15 => ?_)
    replace hS15 : St w NoX [c15, c2] w15 := hS15
    refine W_v rfl rfl (V_asg rfl (et rfl)) ?_
    refine W_end ?_
    refine gen_Q (fun A16 hA16 => ?_)
    have hsz16 := szq hA16
    have hdf16 : A16.defers = [] := by rw [hA16]; simp only [df_put]; exact hdf12
    have l8_16 := lookE hA16 8 (e2 rfl (es rfl l8_12))
    have l9_16 := lookE hA16 9 (et rfl)
    clear hA16 hsz12 hdf12 l1_12 l2_12 l3_12 l4_12 l8_12 l10_12 l17_12
    have hS17 : St w NoX [c15] w15 := hS15.sel [0] (by decide) rfl
    refine then_n (hK14 _ _ ?_)
    clear hK14
    refine wp_ret ?_
    refine then_ret ?_
    refine ret_in (results_2 Try.results36 (rv_cellA l8_16 (hS17.obj 0 rfl hc15) Try.underlying25 rfl (by kernel_rfl)) (rv_tmp l9_16)) hdf16 ?_
    -- leaf T
    obtain ⟨c18, hc18, hS18⟩ := hS17.pnil (s := 2)
    replace hc18 : c18 = ro 2 obC (.slice none 0 0) ([] : List Ob) := hc18
    obtain ⟨c19, cb19, hc19, hcb19, hS19⟩ := gen2 (nst_nils hS18)
    replace hS19 : St w NoX [c19, cb19, c18, c15] w15 := hS19
    obtain ⟨c20, hc20, hS20⟩ := hS19.pnil (s := 1)
    have h := al_ck (p := p) (r := r) c13
    rw [h.1, h.2.1]
    exact ⟨_, ([] : List Ob), _, rfl, rfl, (hS20.fin4 3 rfl (hc18) 1 rfl (hc19) 2 rfl (hcb19) 0 rfl (hc20.trans (by rw [h.2.2] <;> rfl)) (by decide))⟩
  · skip
    have hcd : ckd (O.map ab) rs [a] = 0 := by simpa using c13
    have hG0 := (ckd_0.1 hcd).1
    have hG := hG0
    have hrg : ∀ p ∈ rs, 0 ≤ p ∧ p ≤ (O.length : Int) := fun p hp => by have q := hG0.reg p hp; rw [List.length_map] at q; exact q
    have ha := (ckd_0.1 hcd).2 a (by simp)
    refine wp_skip ?_
    refine then_n (hK10 _ _ ?_)
    clear hK10
    refine wp_seq_k (fun K21 hK21 => ?_)
    refine wp_seq_k (fun K22 hK22 => ?_)
    refine region_in ?_
    refine W_v rfl rfl (V_mov rfl l2_12) ?_
    refine W_v rfl rfl (V_lss rfl (et rfl) rfl) ?_
    refine W_split rfl rfl (V_mov rfl (et rfl)) (fun c23 => ?_) (fun c23 => ?_)
    · skip
      refine W_off rfl (wanted_f rfl rfl (et rfl) (ez rfl) rfl) ?_
      refine W_off rfl (wanted_f rfl rfl (es rfl (et rfl)) (ez rfl) rfl) ?_
      refine W_v rfl rfl (V_pickT rfl (e2 rfl (et rfl)) rfl) ?_
      refine W_end ?_
      refine gen_Q (fun A24 hA24 => ?_)
      have hsz24 := szq hA24
      have hdf24 : A24.defers = [] := by rw [hA24]; simp only [df_put]; exact hdf12
      have l1_24 := lookE hA24 1 (e5 rfl (es rfl l1_12))
      have l2_24 := lookE hA24 2 (e5 rfl (es rfl l2_12))
      have l3_24 := lookE hA24 3 (e5 rfl (es rfl l3_12))
      have l4_24 := lookE hA24 4 (e5 rfl (es rfl l4_12))
      have l8_24 := lookE hA24 8 (e5 rfl (es rfl l8_12))
      have l25_24 := lookE hA24 25 (et rfl)
      clear hA24 hsz12 hdf12 l1_12 l2_12 l3_12 l4_12 l8_12 l10_12 l17_12
      refine then_n (hK22 _ _ ?_)
      clear hK22
      refine cond_t l25_24 ?_
      refine wp_seq_k (fun K25 hK25 => ?_)
      refine region_in ?_
      refine W_v rfl rfl (V_bldS (n := 2) (z := .agg #[.slice none 0 0, .slice none 0 0]) rfl (parts0) (by kernel_rfl) (by simp only [List.all_cons, List.all_nil, Bool.and_true] <;> rfl) (by kernel_rfl) (by simp only [List.foldl_cons, List.foldl_nil, Value.cells, List.setIfInBounds_toArray, List.set_cons_succ, List.set_cons_zero] <;> rfl)) ?_
      refine W_stAS 0 hS9 rfl hc3 rfl rfl rfl (es rfl l8_24) (et rfl) (by first | (rw [List.all_toArray] <;> rfl) | (simp only [List.all_toArray, List.all_cons, List.all_nil] <;> rfl)) (by rfl) (by kernel_rfl) (fun w26 c26 hc26 hS26 => ?_)
      replace hS26 : St w NoX [c26, c2] w26 := hS26
      refine W_v rfl rfl (V_asg rfl rfl) ?_
      refine W_end ?_
      refine gen_Q (fun A27 hA27 => ?_)
      have hsz27 := szq hA27
      have hdf27 : A27.defers = [] := by rw [hA27]; simp only [df_put]; exact hdf24
      have l8_27 := lookE hA27 8 (es rfl (es rfl l8_24))
      have l9_27 := lookE hA27 9 (et rfl)
      clear hA27 hsz24 hdf24 l1_24 l2_24 l3_24 l4_24 l8_24 l25_24
      have hS28 : St w NoX [c26] w26 := hS26.sel [0] (by decide) rfl
      refine then_n (hK25 _ _ ?_)
      clear hK25
      refine wp_ret ?_
      refine then_ret ?_
      refine ret_in (results_2 Try.results36 (rv_cellA l8_27 (hS28.obj 0 rfl hc26) Try.underlying25 rfl (by kernel_rfl)) (rv_tmp l9_27)) hdf27 ?_
      -- leaf FT
      obtain ⟨c29, hc29, hS29⟩ := hS28.pnil (s := 2)
      replace hc29 : c29 = ro 2 obC (.slice none 0 0) ([] : List Ob) := hc29
      obtain ⟨c30, cb30, hc30, hcb30, hS30⟩ := gen2 (nst_nils hS29)
      replace hS30 : St w NoX [c30, cb30, c29, c26] w26 := hS30
      obtain ⟨c31, hc31, hS31⟩ := hS30.pnil (s := 1)
      have hX : (alX p r (O.map ab).length) = 10 := alX_bad (by omega)
      have h := al_no (a := a) hcd (by rw [hX]; decide)
      rw [hX] at h
      rw [h.1, h.2.1]
      exact ⟨_, ([] : List Ob), _, rfl, rfl, (hS31.fin4 3 rfl (hc29) 1 rfl (hc30) 2 rfl (hcb30) 0 rfl (hc31.trans (by rw [h.2.2] <;> rfl)) (by decide))⟩
    · skip
      refine W_v rfl (wanted_t rfl rfl (et rfl) (ez rfl)) (V_mov rfl (e2 rfl (es rfl l3_12))) ?_
      refine W_v rfl (wanted_t rfl rfl (es rfl (et rfl)) (ez rfl)) (V_lss rfl (et rfl) rfl) ?_
      refine W_v rfl rfl (V_pickF rfl (e2 rfl (et rfl)) (et rfl)) ?_
      refine W_end ?_
      refine gen_Q (fun A32 hA32 => ?_)
      have hsz32 := szq hA32
      have hdf32 : A32.defers = [] := by rw [hA32]; simp only [df_put]; exact hdf12
      have l1_32 := lookE hA32 1 (e5 rfl (es rfl l1_12))
      have l2_32 := lookE hA32 2 (e5 rfl (es rfl l2_12))
      have l3_32 := lookE hA32 3 (e5 rfl (es rfl l3_12))
      have l4_32 := lookE hA32 4 (e5 rfl (es rfl l4_12))
      have l8_32 := lookE hA32 8 (e5 rfl (es rfl l8_12))
      have l25_32 := lookE hA32 25 (et rfl)
      clear hA32 hsz12 hdf12 l1_12 l2_12 l3_12 l4_12 l8_12 l10_12 l17_12
      refine then_n (hK22 _ _ ?_)
      clear hK22
      refine cond_dec l25_32 (fun c33 => ?_) (fun c33 => ?_)
      · skip
        refine wp_seq_k (fun K34 hK34 => ?_)
        refine region_in ?_
        refine W_v rfl rfl (V_bldS (n := 2) (z := .agg #[.slice none 0 0, .slice none 0 0]) rfl (parts0) (by kernel_rfl) (by simp only [List.all_cons, List.all_nil, Bool.and_true] <;> rfl) (by kernel_rfl) (by simp only [List.foldl_cons, List.foldl_nil, Value.cells, List.setIfInBounds_toArray, List.set_cons_succ, List.set_cons_zero] <;> rfl)) ?_
        refine W_stAS 0 hS9 rfl hc3 rfl rfl rfl (es rfl l8_32) (et rfl) (by first | (rw [List.all_toArray] <;> rfl) | (simp only [List.all_toArray, List.all_cons, List.all_nil] <;> rfl)) (by rfl) (by kernel_rfl) (fun w35 c35 hc35 hS35 => ?_)
        replace hS35 : St w NoX [c35, c2] w35 := hS35
        refine W_v rfl rfl (V_asg rfl rfl) ?_
        refine W_end ?_
        refine gen_Q (fun A36 hA36 => ?_)
        have hsz36 := szq hA36
        have hdf36 : A36.defers = [] := by rw [hA36]; simp only [df_put]; exact hdf32
        have l8_36 := lookE hA36 8 (es rfl (es rfl l8_32))
        have l9_36 := lookE hA36 9 (et rfl)
        clear hA36 hsz32 hdf32 l1_32 l2_32 l3_32 l4_32 l8_32 l25_32
        have hS37 : St w NoX [c35] w35 := hS35.sel [0] (by decide) rfl
        refine then_n (hK34 _ _ ?_)
        clear hK34
        refine wp_ret ?_
        refine then_ret ?_
        refine ret_in (results_2 Try.results36 (rv_cellA l8_36 (hS37.obj 0 rfl hc35) Try.underlying25 rfl (by kernel_rfl)) (rv_tmp l9_36)) hdf36 ?_
        -- leaf FFT
        obtain ⟨c38, hc38, hS38⟩ := hS37.pnil (s := 2)
        replace hc38 : c38 = ro 2 obC (.slice none 0 0) ([] : List Ob) := hc38
        obtain ⟨c39, cb39, hc39, hcb39, hS39⟩ := gen2 (nst_nils hS38)
        replace hS39 : St w NoX [c39, cb39, c38, c35] w35 := hS39
        obtain ⟨c40, hc40, hS40⟩ := hS39.pnil (s := 1)
        have hX : (alX p r (O.map ab).length) = 10 := alX_bad (by omega)
        have h := al_no (a := a) hcd (by rw [hX]; decide)
        rw [hX] at h
        rw [h.1, h.2.1]
        exact ⟨_, ([] : List Ob), _, rfl, rfl, (hS40.fin4 3 rfl (hc38) 1 rfl (hc39) 2 rfl (hcb39) 0 rfl (hc40.trans (by rw [h.2.2] <;> rfl)) (by decide))⟩
      · skip
        refine wp_skip ?_
        refine then_n (hK21 _ _ ?_)
        clear hK21
        refine wp_seq_k (fun K41 hK41 => ?_)
        refine wp_seq_k (fun K42 hK42 => ?_)
        refine region_in ?_
        refine W_v rfl rfl (V_mov rfl l2_32) ?_
        refine W_v rfl rfl (V_gtr rfl (et rfl) rfl) ?_
        refine W_split rfl rfl (V_mov rfl (et rfl)) (fun c43 => ?_) (fun c43 => ?_)
        · skip
          refine W_off rfl (wanted_f rfl rfl (et rfl) (ez rfl) rfl) ?_
          refine W_off rfl (wanted_f rfl rfl (es rfl (et rfl)) (ez rfl) rfl) ?_
          refine W_off rfl (wanted_f rfl rfl (e2 rfl (et rfl)) (ez rfl) rfl) ?_
          refine W_off rfl (wanted_f rfl rfl (e3 rfl (et rfl)) (ez rfl) rfl) ?_
          refine W_v rfl rfl (V_pickT rfl (e4 rfl (et rfl)) rfl) ?_
          refine W_end ?_
          refine gen_Q (fun A44 hA44 => ?_)
          have hsz44 := szq hA44
          have hdf44 : A44.defers = [] := by rw [hA44]; simp only [df_put]; exact hdf32
          have l1_44 := lookE hA44 1 (e7 rfl (es rfl l1_32))
          have l2_44 := lookE hA44 2 (e7 rfl (es rfl l2_32))
          have l3_44 := lookE hA44 3 (e7 rfl (es rfl l3_32))
          have l4_44 := lookE hA44 4 (e7 rfl (es rfl l4_32))
          have l8_44 := lookE hA44 8 (e7 rfl (es rfl l8_32))
          have l34_44 := lookE hA44 34 (et rfl)
          clear hA44 hsz32 hdf32 l1_32 l2_32 l3_32 l4_32 l8_32 l25_32
          refine then_n (hK42 _ _ ?_)
          clear hK42
          refine cond_t l34_44 ?_
          refine wp_seq_k (fun K45 hK45 => ?_)
          refine region_in ?_
          refine W_v rfl rfl (V_bldS (n := 2) (z := .agg #[.slice none 0 0, .slice none 0 0]) rfl (parts0) (by kernel_rfl) (by simp only [List.all_cons, List.all_nil, Bool.and_true] <;> rfl) (by kernel_rfl) (by simp only [List.foldl_cons, List.foldl_nil, Value.cells, List.setIfInBounds_toArray, List.set_cons_succ, List.set_cons_zero] <;> rfl)) ?_
          refine W_stAS 0 hS9 rfl hc3 rfl rfl rfl (es rfl l8_44) (et rfl) (by first | (rw [List.all_toArray] <;> rfl) | (simp only [List.all_toArray, List.all_cons, List.all_nil] <;> rfl)) (by rfl) (by kernel_rfl) (fun w46 c46 hc46 hS46 => ?_)
          replace hS46 : St w NoX [c46, c2] w46 := hS46
          refine W_v rfl rfl (V_asg rfl rfl) ?_
          refine W_end ?_
          refine gen_Q (fun A47 hA47 => ?_)
          have hsz47 := szq hA47
          have hdf47 : A47.defers = [] := by rw [hA47]; simp only [df_put]; exact hdf44
          have l8_47 := lookE hA47 8 (es rfl (es rfl l8_44))
          have l9_47 := lookE hA47 9 (et rfl)
          clear hA47 hsz44 hdf44 l1_44 l2_44 l3_44 l4_44 l8_44 l34_44
          have hS48 : St w NoX [c46] w46 := hS46.sel [0] (by decide) rfl
          refine then_n (hK45 _ _ ?_)
          clear hK45
          refine wp_ret ?_
          refine then_ret ?_
          refine ret_in (results_2 Try.results36 (rv_cellA l8_47 (hS48.obj 0 rfl hc46) Try.underlying25 rfl (by kernel_rfl)) (rv_tmp l9_47)) hdf47 ?_
          -- leaf FFFT
          obtain ⟨c49, hc49, hS49⟩ := hS48.pnil (s := 2)
          replace hc49 : c49 = ro 2 obC (.slice none 0 0) ([] : List Ob) := hc49
          obtain ⟨c50, cb50, hc50, hcb50, hS50⟩ := gen2 (nst_nils hS49)
          replace hS50 : St w NoX [c50, cb50, c49, c46] w46 := hS50
          obtain ⟨c51, hc51, hS51⟩ := hS50.pnil (s := 1)
          have hX : (alX p r (O.map ab).length) = 11 := alX_big (by omega) (by omega)
          have h := al_no (a := a) hcd (by rw [hX]; decide)
          rw [hX] at h
          rw [h.1, h.2.1]
          exact ⟨_, ([] : List Ob), _, rfl, rfl, (hS51.fin4 3 rfl (hc49) 1 rfl (hc50) 2 rfl (hcb50) 0 rfl (hc51.trans (by rw [h.2.2] <;> rfl)) (by decide))⟩
        · skip
          refine W_v rfl (wanted_t rfl rfl (et rfl) (ez rfl)) (V_mov rfl (e2 rfl (es rfl l3_32))) ?_
          refine W_v rfl (wanted_t rfl rfl (es rfl (et rfl)) (ez rfl)) (V_mov rfl (e3 rfl (es rfl l2_32))) ?_
          refine W_v rfl (wanted_t rfl rfl (e2 rfl (et rfl)) (ez rfl)) (V_sb rfl rfl (et rfl) (by omega) (by omega)) ?_
          refine W_v rfl (wanted_t rfl rfl (e3 rfl (et rfl)) (ez rfl)) (V_gtr rfl (e2 rfl (et rfl)) (et rfl)) ?_
          refine W_v rfl rfl (V_pickF rfl (e4 rfl (et rfl)) (et rfl)) ?_
          refine W_end ?_
          refine gen_Q (fun A52 hA52 => ?_)
          have hsz52 := szq hA52
          have hdf52 : A52.defers = [] := by rw [hA52]; simp only [df_put]; exact hdf32
          have l1_52 := lookE hA52 1 (e7 rfl (es rfl l1_32))
          have l2_52 := lookE hA52 2 (e7 rfl (es rfl l2_32))
          have l3_52 := lookE hA52 3 (e7 rfl (es rfl l3_32))
          have l4_52 := lookE hA52 4 (e7 rfl (es rfl l4_32))
          have l8_52 := lookE hA52 8 (e7 rfl (es rfl l8_32))
          have l34_52 := lookE hA52 34 (et rfl)
          clear hA52 hsz32 hdf32 l1_32 l2_32 l3_32 l4_32 l8_32 l25_32
          refine then_n (hK42 _ _ ?_)
          clear hK42
          refine cond_dec l34_52 (fun c53 => ?_) (fun c53 => ?_)
          · skip
            refine wp_seq_k (fun K54 hK54 => ?_)
            refine region_in ?_
            refine W_v rfl rfl (V_bldS (n := 2) (z := .agg #[.slice none 0 0, .slice none 0 0]) rfl (parts0) (by kernel_rfl) (by simp only [List.all_cons, List.all_nil, Bool.and_true] <;> rfl) (by kernel_rfl) (by simp only [List.foldl_cons, List.foldl_nil, Value.cells, List.setIfInBounds_toArray, List.set_cons_succ, List.set_cons_zero] <;> rfl)) ?_
            refine W_stAS 0 hS9 rfl hc3 rfl rfl rfl (es rfl l8_52) (et rfl) (by first | (rw [List.all_toArray] <;> rfl) | (simp only [List.all_toArray, List.all_cons, List.all_nil] <;> rfl)) (by rfl) (by kernel_rfl) (fun w55 c55 hc55 hS55 => ?_)
            replace hS55 : St w NoX [c55, c2] w55 := hS55
            refine W_v rfl rfl (V_asg rfl rfl) ?_
            refine W_end ?_
            refine gen_Q (fun A56 hA56 => ?_)
            have hsz56 := szq hA56
            have hdf56 : A56.defers = [] := by rw [hA56]; simp only [df_put]; exact hdf52
            have l8_56 := lookE hA56 8 (es rfl (es rfl l8_52))
            have l9_56 := lookE hA56 9 (et rfl)
            clear hA56 hsz52 hdf52 l1_52 l2_52 l3_52 l4_52 l8_52 l34_52
            have hS57 : St w NoX [c55] w55 := hS55.sel [0] (by decide) rfl
            refine then_n (hK54 _ _ ?_)
            clear hK54
            refine wp_ret ?_
            refine then_ret ?_
            refine ret_in (results_2 Try.results36 (rv_cellA l8_56 (hS57.obj 0 rfl hc55) Try.underlying25 rfl (by kernel_rfl)) (rv_tmp l9_56)) hdf56 ?_
            -- leaf FFFFT
            obtain ⟨c58, hc58, hS58⟩ := hS57.pnil (s := 2)
            replace hc58 : c58 = ro 2 obC (.slice none 0 0) ([] : List Ob) := hc58
            obtain ⟨c59, cb59, hc59, hcb59, hS59⟩ := gen2 (nst_nils hS58)
            replace hS59 : St w NoX [c59, cb59, c58, c55] w55 := hS59
            obtain ⟨c60, hc60, hS60⟩ := hS59.pnil (s := 1)
            have hX : (alX p r (O.map ab).length) = 11 := alX_big (by omega) (by omega)
            have h := al_no (a := a) hcd (by rw [hX]; decide)
            rw [hX] at h
            rw [h.1, h.2.1]
            exact ⟨_, ([] : List Ob), _, rfl, rfl, (hS60.fin4 3 rfl (hc58) 1 rfl (hc59) 2 rfl (hcb59) 0 rfl (hc60.trans (by rw [h.2.2] <;> rfl)) (by decide))⟩
          · skip
            refine wp_skip ?_
            refine then_n (hK41 _ _ ?_)
            clear hK41
            refine wp_seq_k (fun K61 hK61 => ?_)
            refine wp_seq_k (fun K62 hK62 => ?_)
            refine region_in ?_
            refine W_v rfl rfl (V_fa (off' := 0) rfl l4_52 Try.underlying25 rfl (by decide +kernel) rfl) ?_
            refine W_r rfl rfl (VR_ldC rfl (et rfl) (cell_box (v := ov) (hS9.obj 1 rfl hc2) rfl) Try.underlying22 rfl) ?_
            refine W_v rfl rfl (V_lenS rfl (et rfl) (sl_SlN h_ov.at) Try.underlying22) ?_
            refine W_v rfl rfl (V_eql rfl (et rfl) rfl) ?_
            refine W_end ?_
            refine gen_Q (fun A63 hA63 => ?_)
            have hsz63 := szq hA63
            have hdf63 : A63.defers = [] := by rw [hA63]; simp only [df_put]; exact hdf52
            have l1_63 := lookE hA63 1 (e3 rfl (es rfl l1_52))
            have l2_63 := lookE hA63 2 (e3 rfl (es rfl l2_52))
            have l3_63 := lookE hA63 3 (e3 rfl (es rfl l3_52))
            have l4_63 := lookE hA63 4 (e3 rfl (es rfl l4_52))
            have l8_63 := lookE hA63 8 (e3 rfl (es rfl l8_52))
            have l39_63 := lookE hA63 39 (et rfl)
            clear hA63 hsz52 hdf52 l1_52 l2_52 l3_52 l4_52 l8_52 l34_52
            refine then_n (hK62 _ _ ?_)
            clear hK62
            refine cond_dec l39_63 (fun c64 => ?_) (fun c64 => ?_)
            · skip
              refine wp_seq_k (fun K65 hK65 => ?_)
              refine region_in ?_
              refine W_v rfl rfl (V_bldS (n := 2) (z := .agg #[.slice none 0 0, .slice none 0 0]) rfl (parts0) (by kernel_rfl) (by simp only [List.all_cons, List.all_nil, Bool.and_true] <;> rfl) (by kernel_rfl) (by simp only [List.foldl_cons, List.foldl_nil, Value.cells, List.setIfInBounds_toArray, List.set_cons_succ, List.set_cons_zero] <;> rfl)) ?_
              refine W_stAS 0 hS9 rfl hc3 rfl rfl rfl (es rfl l8_63) (et rfl) (by first | (rw [List.all_toArray] <;> rfl) | (simp only [List.all_toArray, List.all_cons, List.all_nil] <;> rfl)) (by rfl) (by kernel_rfl) (fun w66 c66 hc66 hS66 => ?_)
              replace hS66 : St w NoX [c66, c2] w66 := hS66
              refine W_v rfl rfl (V_asg rfl rfl) ?_
              refine W_end ?_
              refine gen_Q (fun A67 hA67 => ?_)
              have hsz67 := szq hA67
              have hdf67 : A67.defers = [] := by rw [hA67]; simp only [df_put]; exact hdf63
              have l8_67 := lookE hA67 8 (es rfl (es rfl l8_63))
              have l9_67 := lookE hA67 9 (et rfl)
              clear hA67 hsz63 hdf63 l1_63 l2_63 l3_63 l4_63 l8_63 l39_63
              have hS68 : St w NoX [c66] w66 := hS66.sel [0] (by decide) rfl
              refine then_n (hK65 _ _ ?_)
              clear hK65
              refine wp_ret ?_
              refine then_ret ?_
              refine ret_in (results_2 Try.results36 (rv_cellA l8_67 (hS68.obj 0 rfl hc66) Try.underlying25 rfl (by kernel_rfl)) (rv_tmp l9_67)) hdf67 ?_
              -- leaf FFFFFT
              obtain ⟨c69, hc69, hS69⟩ := hS68.pnil (s := 2)
              replace hc69 : c69 = ro 2 obC (.slice none 0 0) ([] : List Ob) := hc69
              obtain ⟨c70, cb70, hc70, hcb70, hS70⟩ := gen2 (nst_nils hS69)
              replace hS70 : St w NoX [c70, cb70, c69, c66] w66 := hS70
              obtain ⟨c71, hc71, hS71⟩ := hS70.pnil (s := 1)
              have hX : (alX p r (O.map ab).length) = 5 := alX_full (by omega) (by omega) (by rw [List.length_map]; omega)
              have h := al_no (a := a) hcd (by rw [hX]; decide)
              rw [hX] at h
              rw [h.1, h.2.1]
              exact ⟨_, ([] : List Ob), _, rfl, rfl, (hS71.fin4 3 rfl (hc69) 1 rfl (hc70) 2 rfl (hcb70) 0 rfl (hc71.trans (by rw [h.2.2] <;> rfl)) (by decide))⟩
            · skip
              refine wp_skip ?_
              refine then_n (hK61 _ _ ?_)
              clear hK61
              refine wp_seq_k (fun K72 hK72 => ?_)
              refine region_in ?_
              refine W_r rfl rfl (VR_ldA rfl l4_63 (hS9.obj 1 rfl hc2) Try.underlying25 rfl (by kernel_rfl)) ?_
              refine W_call rfl rfl rfl Try.func35 (by kernel_rfl) rfl (args1 (et rfl)) (qCn_c (hS9.roC h_ov) (hS9.roC n_ov) (hS9.roC h_rv) (by first | with_reducible assumption) (by first | omega | (have q := hG.r8; omega)) (by first | omega | (have q := hG.o4; rw [List.length_map] at q; omega))) ?_
              rintro _ w73 ⟨hv_73, H_73, qv_73, rfl, hH_73, hP73⟩
              refine ⟨_, rfl, ?_⟩
              obtain ⟨cR_73, cP_73, cQ_73, cG_73, hcR_73, hcP_73, hcQ_73, hcG_73, hP73⟩ := gen4 hP73
              have hS73 := hS9.join hP73
              replace hS73 : St w NoX [cR_73, cP_73, cQ_73, cG_73, c3, c2] w73 := hS73
              have hHl := mp_lenE hH_73
              rw [List.length_map] at hHl
              have hHo := hG.o4
              rw [List.length_map] at hHo
              refine W_allocS (z := .agg #[.slice none 0 0, .slice none 0 0]) (zs := #[.slice none 0 0, .slice none 0 0]) hS73 rfl rfl rfl (by kernel_rfl) (by rfl) (fun g74 w74 c74 hc74 hS74 => ?_)
              replace hS74 : St w NoX [c74, cR_73, cP_73, cQ_73, cG_73, c3, c2] w74 := hS74
              refine W_stAS 0 hS74 rfl hc74 rfl rfl rfl (et rfl) (es rfl (et rfl)) (by simp only [List.all_toArray, List.all_cons, List.all_nil, SlN_one (ow_at (hS74.chq 1 rfl hcR_73)), SlN_one (ow_at (hS74.chq 4 rfl hcG_73))] <;> rfl) (by rfl) (by kernel_rfl) (fun w75 c75 hc75 hS75 => ?_)
              replace hS75 : St w NoX [c75, cR_73, cP_73, cQ_73, cG_73, c3, c2] w75 := hS75
              refine W_end ?_
              refine gen_Q (fun A76 hA76 => ?_)
              have hsz76 := szq hA76
              have hdf76 : A76.defers = [] := by rw [hA76]; simp only [df_put]; exact hdf63
              have l1_76 := lookE hA76 1 (e2 rfl (es rfl l1_63))
              have l2_76 := lookE hA76 2 (e2 rfl (es rfl l2_63))
              have l3_76 := lookE hA76 3 (e2 rfl (es rfl l3_63))
              have l8_76 := lookE hA76 8 (e2 rfl (es rfl l8_63))
              have l11_76 := lookE hA76 11 (et rfl)
              clear hA76 hsz63 hdf63 l1_63 l2_63 l3_63 l4_63 l8_63 l39_63
              have hS77 : St w NoX [c75, cR_73, cP_73, cQ_73, cG_73, c3] w75 := hS75.sel [0, 1, 2, 3, 4, 5] (by decide) rfl
              refine then_n (hK72 _ _ ?_)
              clear hK72
              refine wp_seq_k (fun K78 hK78 => ?_)
              refine region_monoS 8 9 [none, none, none, some (SPv [] (fun _ => fun u l' => ∃ v, u = v ∧ ∃ c, c = ow 1 p.toNat v (List.replicate p.toNat (.int .i64 0)) ∧ l' = [c]) 3), none, some (SPv [] (fun _ => fun u l' => ∃ v, u = v ∧ ∃ c, c = ow 1 r.toNat v (List.replicate r.toNat (.int .u64 0)) ∧ l' = [c]) 5), none, some (SPv [46, 48] (fun vs => fun u l' => ∃ g_, u = .slice (some ⟨g_, 0, none⟩) 1 1 ∧ ∃ c_, c_ = ro 2 obC (.slice (some ⟨g_, 0, none⟩) 1 1) [(((vs.getD 0 undef), (List.replicate p.toNat (0 : Int))), ((vs.getD 1 undef), (List.replicate r.toNat (0 : Int))))] ∧ l' = [c_]) 7)] (by kernel_rfl) (by kernel_rfl) ?_
              refine D_v rfl rfl (V_fa (off' := 0) rfl l11_76 Try.underlying25 rfl (by decide +kernel) rfl) rfl rfl ?_
              refine D_r rfl rfl (by kernel_rfl) (fun sx hx hF => (VR_ldC rfl (et rfl) (cell_box (v := hv_73) ((hS77.grow hx).obj 0 rfl hc75) rfl) Try.underlying22 rfl)) rfl rfl ?_
              refine D_v rfl rfl (V_mov rfl (es rfl (es rfl l2_76))) rfl rfl ?_
              refine D_lay (ts := []) (vs := []) (C0 := fun _ => fun u l' => ∃ v, u = v ∧ ∃ c, c = ow 1 p.toNat v (List.replicate p.toNat (.int .i64 0)) ∧ l' = [c]) (C := fun u l' => ∃ v, u = v ∧ ∃ c, c = ow 1 p.toNat v (List.replicate p.toNat (.int .i64 0)) ∧ l' = [c]) rfl rfl rfl rfl rfl rfl (fun sx hx hF => lay_mk (z := .int .i64 0) (bytes := 8) p.toNat rfl (et rfl) (et rfl) (by omega) Try.underlying23 (by kernel_rfl) (by omega) rfl) (fun u79 l79 hu79 => ?_)
              obtain ⟨v79, rfl, c79, hc79, hl79⟩ := hu79
              replace hc79 : c79 = io .i64 u79 (List.replicate p.toNat (0 : Int)) := hc79.trans (by simp only [io, bo, List.map_replicate, List.length_replicate])
              refine D_v rfl rfl (V_mov rfl (e3 rfl (es rfl l3_76))) rfl rfl ?_
              refine D_lay (ts := []) (vs := []) (C0 := fun _ => fun u l' => ∃ v, u = v ∧ ∃ c, c = ow 1 r.toNat v (List.replicate r.toNat (.int .u64 0)) ∧ l' = [c]) (C := fun u l' => ∃ v, u = v ∧ ∃ c, c = ow 1 r.toNat v (List.replicate r.toNat (.int .u64 0)) ∧ l' = [c]) rfl rfl rfl rfl rfl rfl (fun sx hx hF => lay_mk (z := .int .u64 0) (bytes := 8) r.toNat rfl (et rfl) (et rfl) (by omega) Try.underlying38 (by kernel_rfl) (by omega) rfl) (fun u80 l80 hu80 => ?_)
              obtain ⟨v80, rfl, c80, hc80, hl80⟩ := hu80
              replace hc80 : c80 = io .u64 u80 (List.replicate r.toNat (0 : Int)) := hc80.trans (by simp only [io, bo, List.map_replicate, List.length_replicate])
              refine D_r rfl rfl (by kernel_rfl) (fun sx hx hF => by obtain ⟨ll79, ws79, we79, ⟨v79q, hq79, c79_, hc79_, hl79_⟩, hm79, k79, e79⟩ := L.ancF_get (L.ancF_rest hF) (by kernel_rfl); cases hq79; subst hl79_; obtain ⟨ll80, ws80, we80, ⟨v80q, hq80, c80_, hc80_, hl80_⟩, hm80, k80, e80⟩ := L.ancF_get hF (by kernel_rfl); cases hq80; subst hl80_; exact ((V_bldS (n := 2) (z := .agg #[.slice none 0 0, .slice none 0 0]) rfl (parts2 (e2 rfl (et rfl)) (et rfl)) (by kernel_rfl) (by simp only [List.all_cons, List.all_nil, SlN_one (ow_at ((k79.grow e79).chq 0 rfl hc79_)), SlN_one (ow_at ((k80.grow e80).chq 0 rfl hc80_)), Bool.and_true] <;> rfl) (by kernel_rfl) (by simp only [List.foldl_cons, List.foldl_nil, Value.cells, List.setIfInBounds_toArray, List.set_cons_succ, List.set_cons_zero] <;> rfl) : Val _ _ _ _) _)) rfl rfl ?_
              have hll81 : [((u79, (List.replicate p.toNat (0 : Int))), (u80, (List.replicate r.toNat (0 : Int))))].length = 1 := rfl
              refine D_lay (ts := [46, 48]) (vs := [u79, u80]) (C0 := fun vs => fun u l' => ∃ g_, u = .slice (some ⟨g_, 0, none⟩) 1 1 ∧ ∃ c_, c_ = ro 2 obC (.slice (some ⟨g_, 0, none⟩) 1 1) [(((vs.getD 0 undef), (List.replicate p.toNat (0 : Int))), ((vs.getD 1 undef), (List.replicate r.toNat (0 : Int))))] ∧ l' = [c_]) (C := fun u l' => ∃ g_, u = .slice (some ⟨g_, 0, none⟩) 1 1 ∧ ∃ c_, c_ = ro 2 obC (.slice (some ⟨g_, 0, none⟩) 1 1) [((u79, (List.replicate p.toNat (0 : Int))), (u80, (List.replicate r.toNat (0 : Int))))] ∧ l' = [c_]) rfl rfl rfl rfl (ts2 (e3 rfl (et rfl)) (es rfl (et rfl))) rfl (fun sx hx hF => lay_lit (vs := [.agg #[u79, u80]]) 2 rfl (parts1 (et rfl)) rfl Try.underlying22 (by kernel_rfl) (by decide) (by intro v hv; simp only [List.mem_cons, List.not_mem_nil, or_false] at hv; rcases hv with rfl <;> rfl) (by rfl)) (fun u81 l81 hu81 => ?_)
              obtain ⟨g81, rfl, c81, hc81, hl81⟩ := hu81
              refine D_eff rfl ?_
              refine ZS_eff hS77 rfl rfl (fun s82 hJ82 hL82 hF82 => ?_)
              obtain ⟨ll79, ws79, we79, ⟨v79q, hq79, c79r, hc79r, hl79r⟩, hm79, k79, e79⟩ := L.all_get (L.all_rest (L.all_rest hF82)); cases hq79; subst hl79r
              replace hJ82 := hJ82.add hL82 (i := 3) rfl hm79 k79 e79
              replace hc79r : c79r = io .i64 u79 (List.replicate p.toNat (0 : Int)) := hc79r.trans (by simp only [io, bo, List.map_replicate, List.length_replicate])
              obtain ⟨ll80, ws80, we80, ⟨v80q, hq80, c80r, hc80r, hl80r⟩, hm80, k80, e80⟩ := L.all_get (L.all_rest hF82); cases hq80; subst hl80r
              replace hJ82 := hJ82.add hL82 (i := 5) rfl hm80 k80 e80
              replace hc80r : c80r = io .u64 u80 (List.replicate r.toNat (0 : Int)) := hc80r.trans (by simp only [io, bo, List.map_replicate, List.length_replicate])
              obtain ⟨ll81, ws81, we81, ⟨g81q, hq81, c81r, hc81r, hl81r⟩, hm81, k81, e81⟩ := L.all_get hF82; cases hq81; subst hl81r
              replace hJ82 := hJ82.add hL82 (i := 7) rfl hm81 k81 e81
              have hS82 := hJ82.st; clear hF82 hJ82 hL82
              generalize s82.1 = w82 at *
              replace hS82 : St w NoX [c81r, c80r, c79r, c75, cR_73, cP_73, cQ_73, cG_73, c3] w82 := hS82
              refine W_appS 2 4 hS82 rfl hcR_73 rfl rfl rfl (e6 rfl (et rfl)) (et rfl) Try.underlying22 Try.underlying22 (z := .agg #[.slice none 0 0, .slice none 0 0]) (bytes := 48) (by kernel_rfl) rfl (by decide) (ow_at (hS82.chq 0 rfl hc81r)) (by intro u hu; simp only [List.flatMap_cons, List.flatMap_nil, obC, List.append_nil, List.cons_append, List.nil_append, List.mem_cons, List.not_mem_nil, or_false] at hu; rcases hu with rfl | rfl <;> first | exact SlN_one (ow_at (hS82.chq 2 rfl hc79r)) | exact SlN_one (ow_at (hS82.chq 1 rfl hc80r))) (by first | omega | (simp; done) | (simp; omega)) (by first | omega | (simp; done) | (simp; omega)) (fun v83 w83 c83 hc83 hS83 => ?_)
              replace hc83 : c83 = ro 2 obC v83 (H_73 ++ [((u79, (List.replicate p.toNat (0 : Int))), (u80, (List.replicate r.toNat (0 : Int))))]) := hc83.trans (app_eqR (by simp))
              replace hS83 : St w NoX [c81r, c80r, c79r, c75, c83, cP_73, cQ_73, cG_73, c3] w83 := hS83
              have hS84 := hS83.sel [2, 5, 1, 6, 0, 3, 4, 7, 8] (by decide) (l' := [c79r, cP_73, c80r, cQ_73, c81r, c75, c83, cG_73, c3]) rfl
              replace hS84 : St w NoX [c79r, cP_73, c80r, cQ_73, c81r, c75, c83, cG_73, c3] w83 := hS84
              rw [hc79r, hcP_73, hc80r, hcQ_73] at hS84
              obtain ⟨c85, cb85, hc85, hcb85, hS85⟩ := gen2 (nst_push (pv := u79) (ps := (List.replicate p.toNat (0 : Int))) (qv := u80) (qs := (List.replicate r.toNat (0 : Int))) (O := H_73) hS84)
              replace hS85 : St w NoX [c85, cb85, c81r, c75, c83, cG_73, c3] w83 := hS85
              replace hc85 : c85 = owl .i64 ((H_73 ++ [((u79, (List.replicate p.toNat (0 : Int))), (u80, (List.replicate r.toNat (0 : Int))))]).map (·.1)) := hc85
              replace hcb85 : cb85 = owl .u64 ((H_73 ++ [((u79, (List.replicate p.toNat (0 : Int))), (u80, (List.replicate r.toNat (0 : Int))))]).map (·.2)) := hcb85
              refine W_v rfl rfl (V_fa (off' := 0) rfl (e8 rfl (es rfl l11_76)) Try.underlying25 rfl (by decide +kernel) rfl) ?_
              refine W_stCS (zs' := #[v83, qv_73]) 3 hS85 rfl hc75 rfl rfl rfl (et rfl) (es rfl (et rfl)) (SlN_one (ow_at (hS85.chq 4 rfl hc83))) (by rfl) (by kernel_rfl) (by first | rfl | (simp only [List.setIfInBounds_toArray, List.set_cons_succ, List.set_cons_zero] <;> rfl)) (fun w86 c86 hc86 hS86 => ?_)
              replace hS86 : St w NoX [c85, cb85, c81r, c86, c83, cG_73, c3] w86 := hS86
              refine W_end ?_
              refine Qo_normal ?_
              refine gen_Q (fun A87 hA87 => ?_)
              have hsz87 := szq hA87
              have hdf87 : A87.defers = [] := by rw [hA87]; simp only [df_put]; exact hdf76
              have l1_87 := lookE hA87 1 (e9 rfl (es rfl l1_76))
              have l8_87 := lookE hA87 8 (e9 rfl (es rfl l8_76))
              have l11_87 := lookE hA87 11 (e9 rfl (es rfl l11_76))
              clear hA87 hsz76 hdf76 l1_76 l2_76 l3_76 l8_76 l11_76
              have hS88 : St w NoX [c85, cb85, c86, c83, cG_73, c3] w86 := hS86.sel [0, 1, 3, 4, 5, 6] (by decide) rfl
              refine then_n (hK78 _ _ ?_)
              clear hK78
              refine wp_seq_k (fun K89 hK89 => ?_)
              refine region_in ?_
              refine W_v rfl rfl (V_fa (off' := 1) rfl l11_87 Try.underlying25 rfl (by decide +kernel) rfl) ?_
              refine W_r rfl rfl (VR_ldC rfl (et rfl) (cell_box (v := qv_73) (hS88.obj 2 rfl hc86) rfl) Try.underlying23 rfl) ?_
              refine W_v rfl rfl (V_mov rfl (es rfl (es rfl l1_87))) ?_
              refine W_v rfl rfl (V_fa (off' := 0) rfl (e2 rfl (es rfl l11_87)) Try.underlying25 rfl (by decide +kernel) rfl) ?_
              refine W_r rfl rfl (VR_ldC rfl (et rfl) (cell_box (v := v83) (hS88.obj 2 rfl hc86) rfl) Try.underlying22 rfl) ?_
              refine W_v rfl rfl (V_lenS rfl (et rfl) (ow_at (hS88.chq 3 rfl hc83)) Try.underlying22) ?_
              have k90 : a.toNat < rs.length := by first | omega | (simp only [List.length_cons, List.length_nil]; omega) | (simp only [List.length_set]; omega)
              obtain ⟨y90, hy90⟩ := get_some (xs := rs) (k := a.toNat) k90
              obtain ⟨B90, O90, C90, hv90⟩ := (SlN.blk (ow_at (hS88.chq 4 rfl hcG_73)) (by first | omega | (simp only [List.length_cons, List.length_nil]; omega) | (simp only [List.length_set]; omega)))
              refine W_v rfl rfl (V_ixS (off := O90 + a.toNat) 1 (a.toNat) rfl (e4 rfl (et rfl)) (e3 rfl (et rfl)) hv90 (by omega) k90 Try.underlying23 (by kernel_rfl) (congrArg _ (Nat.mul_one _))) ?_
              refine W_stE 4 hS88 rfl hcG_73 hv90 rfl rfl rfl (et rfl) (es rfl (et rfl)) (by rfl) rfl (by first | (simp only [List.length_map]; omega) | omega) (by kernel_rfl) (fun w91 c91 hc91 hS91 => ?_)
              replace hc91 : c91 = io .i64 qv_73 (rs.set a.toNat ((H_73 ++ [((u79, (List.replicate p.toNat (0 : Int))), (u80, (List.replicate r.toNat (0 : Int))))]).length : Int)) := hc91.trans (by simp [io, bo, List.map_set] <;> rfl)
              replace hS91 : St w NoX [c85, cb85, c86, c83, c91, c3] w91 := hS91
              refine W_end ?_
              refine gen_Q (fun A92 hA92 => ?_)
              have hsz92 := szq hA92
              have hdf92 : A92.defers = [] := by rw [hA92]; simp only [df_put]; exact hdf87
              have l8_92 := lookE hA92 8 (e6 rfl (es rfl l8_87))
              have l11_92 := lookE hA92 11 (e6 rfl (es rfl l11_87))
              clear hA92 hsz87 hdf87 l1_87 l8_87 l11_87
              refine then_n (hK89 _ _ ?_)
              clear hK89
              refine wp_seq_k (fun K93 hK93 => ?_)
              refine region_in ?_
              refine W_r rfl rfl (VR_ldA rfl l11_92 (hS91.obj 2 rfl hc86) Try.underlying25 rfl (by kernel_rfl)) ?_
              refine W_stAS 5 hS91 rfl hc3 rfl rfl rfl (es rfl l8_92) (et rfl) (by simp only [List.all_toArray, List.all_cons, List.all_nil, SlN_one (ow_at (hS91.chq 3 rfl hc83)), SlN_one (ow_at (hS91.chq 4 rfl hc91))] <;> rfl) (by rfl) (by kernel_rfl) (fun w94 c94 hc94 hS94 => ?_)
              replace hS94 : St w NoX [c85, cb85, c86, c83, c91, c94] w94 := hS94
              refine W_v rfl rfl (V_asg rfl rfl) ?_
              refine W_end ?_
              refine gen_Q (fun A95 hA95 => ?_)
              have hsz95 := szq hA95
              have hdf95 : A95.defers = [] := by rw [hA95]; simp only [df_put]; exact hdf92
              have l8_95 := lookE hA95 8 (es rfl (es rfl l8_92))
              have l9_95 := lookE hA95 9 (et rfl)
              clear hA95 hsz92 hdf92 l8_92 l11_92
              have hS96 : St w NoX [c85, cb85, c83, c91, c94] w94 := hS94.sel [0, 1, 3, 4, 5] (by decide) rfl
              refine then_n (hK93 _ _ ?_)
              clear hK93
              refine wp_ret ?_
              refine ret_in (results_2 Try.results36 (rv_cellA l8_95 (hS96.obj 4 rfl hc94) Try.underlying25 rfl (by kernel_rfl)) (rv_tmp l9_95)) hdf95 ?_
              -- leaf FFFFFF
              have hX : (alX p r (O.map ab).length) = 0 := alX_ok (by omega) (by omega) (by rw [List.length_map]; omega)
              have h := al_ok' (a := a) hcd hX
              rw [h.1, h.2.1]
              exact ⟨_, (H_73 ++ [((u79, (List.replicate p.toNat (0 : Int))), (u80, (List.replicate r.toNat (0 : Int))))]), _, rfl, by rw [al_map, hH_73], (hS96.fin4 2 rfl (hc83) 0 rfl (hc85) 1 rfl (hcb85) 3 rfl (hc91.trans ((congrArg (fun z => io .i64 _ (rs.set a.toNat z)) (show _ = (((O.map ab).length : Nat) : Int) + 1 by simp [hHl])).trans (by rw [h.2.2]))) (by decide))⟩

set_option maxHeartbeats 4000000 in
theorem qLoad_c {ov : Value} {O : List Ob} {rv : Value} {rs : List Int} {a : Int} {b : Int} {f : Int} {w : World} (h_ov : Ro w NoX (rl 2 obC ov O)) (n_ov : Ro w NoX (nst O)) (h_rv : Ro w NoX (il .i64 rv rs)) (hsm : SM (O.map ab)) :
    Calls Try.prog 38 #[.agg #[ov, rv], .int .i64 a, .int .i64 b, .int .i64 f] w fun e w' => ∃ hv H qv, e = .returned (.tuple #[.agg #[hv, qv], .int .i64 (ptE (O.map ab) rs [a, b] b f)]) ∧ (H.map ab = (ldO (O.map ab) rs a b f)) ∧ St w NoX [ro 2 obC hv H, owl .i64 (H.map (·.1)), owl .u64 (H.map (·.2)), io .i64 (qv) (ldR (O.map ab) rs a b f)] w' := by
  refine calls_in 55 Try.func38 rfl rfl (by simp) (fun A0 hsz0 hdf0 hargs => ?_)
  have l0_0 := hargs 0 (.agg #[ov, rv]) rfl
  have l1_0 := hargs 1 (.int .i64 a) rfl
  have l2_0 := hargs 2 (.int .i64 b) rfl
  have l3_0 := hargs 3 (.int .i64 f) rfl
  clear hargs; replace hsz0 : SzN A0 55 := ⟨hsz0⟩
  have hS := St.nil w
  have bh_ov := SlN.le (sl_SlN h_ov.at)
  have bh_rv := SlN.le (sl_SlN h_rv.at)
  refine wp_seq_k (fun K1 hK1 => ?_)
  refine region_in ?_
  refine W_boxS (zs := #[ov, rv]) hS rfl rfl rfl l0_0 (by rfl) (fun g2 w2 c2 hc2 hS2 => ?_)
  replace hS2 : St w NoX [c2] w2 := hS2
  refine W_allocS (z := .agg #[.slice none 0 0, .slice none 0 0]) (zs := #[.slice none 0 0, .slice none 0 0]) hS2 rfl rfl rfl (by kernel_rfl) (by rfl) (fun g3 w3 c3 hc3 hS3 => ?_)
  replace hS3 : St w NoX [c3, c2] w3 := hS3
  refine W_v rfl rfl (V_asg rfl rfl) ?_
  refine W_end ?_
  refine gen_Q (fun A4 hA4 => ?_)
  have hsz4 := szq hA4
  have hdf4 : A4.defers = [] := by rw [hA4]; simp only [df_put]; exact hdf0
  have l1_4 := lookE hA4 1 (e2 rfl (es rfl l1_0))
  have l2_4 := lookE hA4 2 (e2 rfl (es rfl l2_0))
  have l3_4 := lookE hA4 3 (e2 rfl (es rfl l3_0))
  have l4_4 := lookE hA4 4 (e2 rfl (et rfl))
  have l8_4 := lookE hA4 8 (es rfl (et rfl))
  clear hA4 hsz0 hdf0 l0_0 l1_0 l2_0 l3_0
  refine then_n (hK1 _ _ ?_)
  clear hK1
  refine wp_seq_k (fun K5 hK5 => ?_)
  refine region_in ?_
  refine W_r rfl rfl (VR_ldA rfl l4_4 (hS3.obj 1 rfl hc2) Try.underlying25 rfl (by kernel_rfl)) ?_
  refine W_v rfl rfl (V_mov rfl (es rfl l1_4)) ?_
  refine W_v rfl rfl (V_mov rfl (es rfl (es rfl l2_4))) ?_
  have hll6 : [a, b].length = 2 := rfl
  refine W_litS (vs := [.int .i64 (a), .int .i64 (b)]) (xs := ([a, b].map (Value.int .i64))) 1 hS3 rfl rfl rfl (parts2 (es rfl (et rfl)) (et rfl)) rfl Try.underlying23 (by kernel_rfl) (by decide) (by intro v hv; simp only [List.mem_cons, List.not_mem_nil, or_false] at hv; rcases hv with rfl | rfl <;> rfl) (by rfl) (fun g6 w6 c6 hc6 hS6 => ?_)
  replace hc6 : c6 = io .i64 (.slice (some ⟨g6, 0, none⟩) 2 2) [a, b] := hc6
  replace hS6 : St w NoX [c6, c3, c2] w6 := hS6
  refine W_call rfl rfl rfl Try.func59 (by kernel_rfl) rfl (args2 (e3 rfl (et rfl)) (et rfl)) (qcd_c (hS6.roC h_ov) (hS6.roC n_ov) (hS6.roC h_rv) (hS6.chC 0 rfl hc6).own ) ?_
  rintro _ w7 ⟨rfl, hP7⟩
  refine ⟨_, rfl, ?_⟩
  have hS7 := hS6.join hP7
  replace hS7 : St w NoX [c6, c3, c2] w7 := hS7
  refine W_v rfl rfl (V_asg rfl (et rfl)) ?_
  refine W_end ?_
  refine gen_Q (fun A8 hA8 => ?_)
  have hsz8 := szq hA8
  have hdf8 : A8.defers = [] := by rw [hA8]; simp only [df_put]; exact hdf4
  have l1_8 := lookE hA8 1 (e5 rfl (es rfl l1_4))
  have l2_8 := lookE hA8 2 (e5 rfl (es rfl l2_4))
  have l3_8 := lookE hA8 3 (e5 rfl (es rfl l3_4))
  have l4_8 := lookE hA8 4 (e5 rfl (es rfl l4_4))
  have l8_8 := lookE hA8 8 (e5 rfl (es rfl l8_4))
  have l10_8 := lookE hA8 10 (et rfl)
  clear hA8 hsz4 hdf4 l1_4 l2_4 l3_4 l4_4 l8_4
  have hS9 : St w NoX [c3, c2] w7 := hS7.sel [1, 2] (by decide) rfl
  refine then_n (hK5 _ _ ?_)
  clear hK5
  refine wp_seq_k (fun K10 hK10 => ?_)
  refine wp_seq_k (fun K11 hK11 => ?_)
  refine region_in ?_
  refine W_v rfl rfl (V_mov rfl l10_8) ?_
  refine W_v rfl rfl (V_neq rfl (et rfl) rfl) ?_
  refine W_end ?_
  refine gen_Q (fun A12 hA12 => ?_)
  have hsz12 := szq hA12
  have hdf12 : A12.defers = [] := by rw [hA12]; simp only [df_put]; exact hdf8
  have l1_12 := lookE hA12 1 (es rfl (es rfl l1_8))
  have l2_12 := lookE hA12 2 (es rfl (es rfl l2_8))
  have l3_12 := lookE hA12 3 (es rfl (es rfl l3_8))
  have l4_12 := lookE hA12 4 (es rfl (es rfl l4_8))
  have l8_12 := lookE hA12 8 (es rfl (es rfl l8_8))
  have l10_12 := lookE hA12 10 (es rfl (es rfl l10_8))
  have l20_12 := lookE hA12 20 (et rfl)
  clear hA12 hsz8 hdf8 l1_8 l2_8 l3_8 l4_8 l8_8 l10_8
  refine then_n (hK11 _ _ ?_)
  clear hK11
  refine cond_dec l20_12 (fun c13 => ?_) (fun c13 => ?_)
  · skip
    refine wp_seq_k (fun K14 hK14 => ?_)
    refine region_in ?_
    refine W_v rfl rfl (V_bldS (n := 2) (z := .agg #[.slice none 0 0, .slice none 0 0]) rfl (parts0) (by kernel_rfl) (by simp only [List.all_cons, List.all_nil, Bool.and_true] <;> rfl) (by kernel_rfl) (by simp only [List.foldl_cons, List.foldl_nil, Value.cells, List.setIfInBounds_toArray, List.set_cons_succ, List.set_cons_zero] <;> rfl)) ?_
    refine W_v rfl rfl (V_mov rfl (es rfl l10_12)) ?_
    refine W_stAS 0 hS9 rfl hc3 rfl rfl rfl (es rfl (es rfl l8_12)) (es rfl (et rfl)) (by first | (rw [List.all_toArray] <;> rfl) | (simp only [List.all_toArray, List.all_cons, List.all_nil] <;> rfl)) (by rfl) (by kernel_rfl) (fun w15 c15 hc15 hS15 => ?_)
    replace hS15 : St w NoX [c15, c2] w15 := hS15
    refine W_v rfl rfl (V_asg rfl (et rfl)) ?_
    refine W_end ?_
    refine gen_Q (fun A16 hA16 => ?_)
    have hsz16 := szq hA16
    have hdf16 : A16.defers = [] := by rw [hA16]; simp only [df_put]; exact hdf12
    have l8_16 := lookE hA16 8 (e2 rfl (es rfl l8_12))
    have l9_16 := lookE hA16 9 (et rfl)
    clear hA16 hsz12 hdf12 l1_12 l2_12 l3_12 l4_12 l8_12 l10_12 l20_12
    have hS17 : St w NoX [c15] w15 := hS15.sel [0] (by decide) rfl
    refine then_n (hK14 _ _ ?_)
    clear hK14
    refine wp_ret ?_
    refine then_ret ?_
    refine ret_in (results_2 Try.results38 (rv_cellA l8_16 (hS17.obj 0 rfl hc15) Try.underlying25 rfl (by kernel_rfl)) (rv_tmp l9_16)) hdf16 ?_
    -- leaf T
    obtain ⟨c18, hc18, hS18⟩ := hS17.pnil (s := 2)
    replace hc18 : c18 = ro 2 obC (.slice none 0 0) ([] : List Ob) := hc18
    obtain ⟨c19, cb19, hc19, hcb19, hS19⟩ := gen2 (nst_nils hS18)
    replace hS19 : St w NoX [c19, cb19, c18, c15] w15 := hS19
    obtain ⟨c20, hc20, hS20⟩ := hS19.pnil (s := 1)
    obtain ⟨c21, hc21, hS21⟩ := hS20.pnil (s := 2)
    replace hc21 : c21 = ro 2 obC (.slice none 0 0) ([] : List Ob) := hc21
    obtain ⟨c22, cb22, hc22, hcb22, hS22⟩ := gen2 (nst_nils hS21)
    replace hS22 : St w NoX [c22, cb22, c21, c20, c19, cb19, c18, c15] w15 := hS22
    obtain ⟨c23, hc23, hS23⟩ := hS22.pnil (s := 1)
    have h := ld_ck (f := f) c13
    rw [h.1, h.2.1]
    exact ⟨_, ([] : List Ob), _, rfl, rfl, (hS23.fin4 3 rfl (hc21) 1 rfl (hc22) 2 rfl (hcb22) 0 rfl (hc23.trans (by rw [h.2.2] <;> rfl)) (by decide))⟩
  · skip
    have hcd : ckd (O.map ab) rs [a, b] = 0 := by simpa using c13
    have hG0 := (ckd_0.1 hcd).1
    have hG := hG0
    have hrg : ∀ p ∈ rs, 0 ≤ p ∧ p ≤ (O.length : Int) := fun p hp => by have q := hG0.reg p hp; rw [List.length_map] at q; exact q
    have ha := (ckd_0.1 hcd).2 a (by simp)
    have hb := (ckd_0.1 hcd).2 b (by simp)
    refine wp_skip ?_
    refine then_n (hK10 _ _ ?_)
    clear hK10
    refine wp_seq_k (fun K24 hK24 => ?_)
    refine region_in ?_
    refine W_r rfl rfl (VR_ldA rfl l4_12 (hS9.obj 1 rfl hc2) Try.underlying25 rfl (by kernel_rfl)) ?_
    refine W_v rfl rfl (V_mov rfl (es rfl l2_12)) ?_
    refine W_call rfl rfl rfl Try.func60 (by kernel_rfl) rfl (args2 (es rfl (et rfl)) (et rfl)) (qob_c (a := b) (hS9.roC h_ov) (hS9.roC n_ov) (hS9.roC h_rv) (by first | with_reducible assumption | (have q := hG.reg; simpa using q)) (by first | omega | with_reducible assumption)) ?_
    rintro _ w25 (⟨rfl, hz_25, hP25⟩ | ⟨y_25, rfl, hy_25, hz_25, hP25⟩)
    · refine ⟨_, rfl, ?_⟩
      have hS25 := hS9.join hP25
      replace hS25 : St w NoX [c3, c2] w25 := hS25
      refine W_v rfl rfl (V_mov rfl (et rfl)) ?_
      refine W_v rfl rfl (V_ext (v := .agg #[.slice none 0 0, .slice none 0 0]) rfl (et rfl) rfl) ?_
      refine W_v rfl rfl (V_ext (v := .bool false) rfl (es rfl (et rfl)) rfl) ?_
      refine W_allocS (z := .agg #[.slice none 0 0, .slice none 0 0]) (zs := #[.slice none 0 0, .slice none 0 0]) hS25 rfl rfl rfl (by kernel_rfl) (by rfl) (fun g26 w26 c26 hc26 hS26 => ?_)
      replace hS26 : St w NoX [c26, c3, c2] w26 := hS26
      refine W_stAS 0 hS26 rfl hc26 rfl rfl rfl (et rfl) (e2 rfl (et rfl)) (by first | (rw [List.all_toArray] <;> rfl) | (simp only [List.all_toArray, List.all_cons, List.all_nil] <;> rfl)) (by rfl) (by kernel_rfl) (fun w27 c27 hc27 hS27 => ?_)
      replace hS27 : St w NoX [c27, c3, c2] w27 := hS27
      refine W_v rfl rfl (V_asg rfl (es rfl (et rfl))) ?_
      refine W_end ?_
      refine gen_Q (fun A28 hA28 => ?_)
      have hsz28 := szq hA28
      have hdf28 : A28.defers = [] := by rw [hA28]; simp only [df_put]; exact hdf12
      have l1_28 := lookE hA28 1 (e7 rfl (es rfl l1_12))
      have l3_28 := lookE hA28 3 (e7 rfl (es rfl l3_12))
      have l4_28 := lookE hA28 4 (e7 rfl (es rfl l4_12))
      have l8_28 := lookE hA28 8 (e7 rfl (es rfl l8_12))
      have l11_28 := lookE hA28 11 (es rfl (et rfl))
      have l12_28 := lookE hA28 12 (et rfl)
      clear hA28 hsz12 hdf12 l1_12 l2_12 l3_12 l4_12 l8_12 l10_12 l20_12
      refine then_n (hK24 _ _ ?_)
      clear hK24
      refine wp_seq_k (fun K29 hK29 => ?_)
      refine wp_seq_k (fun K30 hK30 => ?_)
      refine region_in ?_
      refine W_v rfl rfl (V_mov rfl l12_28) ?_
      refine W_v rfl rfl (V_notF rfl (et rfl)) ?_
      refine W_v rfl rfl (V_mov rfl (et rfl)) ?_
      refine W_off rfl (wanted_f rfl rfl (et rfl) (ez rfl) rfl) ?_
      refine W_off rfl (wanted_f rfl rfl (es rfl (et rfl)) (ez rfl) rfl) ?_
      refine W_v rfl rfl (V_pickT rfl (e2 rfl (et rfl)) rfl) ?_
      refine W_v rfl rfl (V_mov rfl (et rfl)) ?_
      refine W_off rfl (wanted_f rfl rfl (et rfl) (ez rfl) rfl) ?_
      refine W_off rfl (wanted_f rfl rfl (es rfl (et rfl)) (ez rfl) rfl) ?_
      refine W_off rfl (wanted_f rfl rfl (e2 rfl (et rfl)) (ez rfl) rfl) ?_
      refine W_off rfl (wanted_f rfl rfl (e3 rfl (et rfl)) (ez rfl) rfl) ?_
      refine W_off rfl (wanted_f rfl rfl (e4 rfl (et rfl)) (ez rfl) rfl) ?_
      refine W_v rfl rfl (V_pickT rfl (e5 rfl (et rfl)) rfl) ?_
      refine W_end ?_
      refine gen_Q (fun A31 hA31 => ?_)
      have hsz31 := szq hA31
      have hdf31 : A31.defers = [] := by rw [hA31]; simp only [df_put]; exact hdf28
      have l1_31 := lookE hA31 1 (e12 rfl (es rfl l1_28))
      have l3_31 := lookE hA31 3 (e12 rfl (es rfl l3_28))
      have l4_31 := lookE hA31 4 (e12 rfl (es rfl l4_28))
      have l8_31 := lookE hA31 8 (e12 rfl (es rfl l8_28))
      have l11_31 := lookE hA31 11 (e12 rfl (es rfl l11_28))
      have l41_31 := lookE hA31 41 (et rfl)
      clear hA31 hsz28 hdf28 l1_28 l3_28 l4_28 l8_28 l11_28 l12_28
      refine then_n (hK30 _ _ ?_)
      clear hK30
      refine cond_t l41_31 ?_
      refine wp_seq_k (fun K32 hK32 => ?_)
      refine region_in ?_
      refine W_v rfl rfl (V_bldS (n := 2) (z := .agg #[.slice none 0 0, .slice none 0 0]) rfl (parts0) (by kernel_rfl) (by simp only [List.all_cons, List.all_nil, Bool.and_true] <;> rfl) (by kernel_rfl) (by simp only [List.foldl_cons, List.foldl_nil, Value.cells, List.setIfInBounds_toArray, List.set_cons_succ, List.set_cons_zero] <;> rfl)) ?_
      refine W_stAS 1 hS27 rfl hc3 rfl rfl rfl (es rfl l8_31) (et rfl) (by first | (rw [List.all_toArray] <;> rfl) | (simp only [List.all_toArray, List.all_cons, List.all_nil] <;> rfl)) (by rfl) (by kernel_rfl) (fun w33 c33 hc33 hS33 => ?_)
      replace hS33 : St w NoX [c27, c33, c2] w33 := hS33
      refine W_v rfl rfl (V_asg rfl rfl) ?_
      refine W_end ?_
      refine gen_Q (fun A34 hA34 => ?_)
      have hsz34 := szq hA34
      have hdf34 : A34.defers = [] := by rw [hA34]; simp only [df_put]; exact hdf31
      have l8_34 := lookE hA34 8 (es rfl (es rfl l8_31))
      have l9_34 := lookE hA34 9 (et rfl)
      clear hA34 hsz31 hdf31 l1_31 l3_31 l4_31 l8_31 l11_31 l41_31
      have hS35 : St w NoX [c33] w33 := hS33.sel [1] (by decide) rfl
      refine then_n (hK32 _ _ ?_)
      clear hK32
      refine wp_ret ?_
      refine then_ret ?_
      refine ret_in (results_2 Try.results38 (rv_cellA l8_34 (hS35.obj 0 rfl hc33) Try.underlying25 rfl (by kernel_rfl)) (rv_tmp l9_34)) hdf34 ?_
      -- leaf Fn
      obtain ⟨c36, hc36, hS36⟩ := hS35.pnil (s := 2)
      replace hc36 : c36 = ro 2 obC (.slice none 0 0) ([] : List Ob) := hc36
      obtain ⟨c37, cb37, hc37, hcb37, hS37⟩ := gen2 (nst_nils hS36)
      replace hS37 : St w NoX [c37, cb37, c36, c33] w33 := hS37
      obtain ⟨c38, hc38, hS38⟩ := hS37.pnil (s := 1)
      have hE := pt_no (a := b) (f := f) hcd (.inl hz_25)
      have h := ld_e (by rw [hE]; decide)
      rw [hE, h.1]
      exact ⟨_, ([] : List Ob), _, rfl, rfl, (hS38.fin4 3 rfl (hc36) 1 rfl (hc37) 2 rfl (hcb37) 0 rfl (hc38.trans (by rw [h.2] <;> rfl)) (by decide))⟩
    · refine ⟨_, rfl, ?_⟩
      have hS25 := hS9.join hP25
      replace hS25 : St w NoX [c3, c2] w25 := hS25
      have fn39 : Ro w NoX (il .i64 y_25.1.1 y_25.1.2) := nst_ro1 n_ov hy_25
      have bfn39 := SlN.le (sl_SlN (hS25.ro fn39))
      have fn40 : Ro w NoX (il .u64 y_25.2.1 y_25.2.2) := nst_ro2 n_ov hy_25
      have bfn40 := SlN.le (sl_SlN (hS25.ro fn40))
      refine W_v rfl rfl (V_mov rfl (et rfl)) ?_
      refine W_v rfl rfl (V_ext (v := .agg #[y_25.1.1, y_25.2.1]) rfl (et rfl) rfl) ?_
      refine W_v rfl rfl (V_ext (v := .bool true) rfl (es rfl (et rfl)) rfl) ?_
      refine W_allocS (z := .agg #[.slice none 0 0, .slice none 0 0]) (zs := #[.slice none 0 0, .slice none 0 0]) hS25 rfl rfl rfl (by kernel_rfl) (by rfl) (fun g41 w41 c41 hc41 hS41 => ?_)
      replace hS41 : St w NoX [c41, c3, c2] w41 := hS41
      refine W_stAS 0 hS41 rfl hc41 rfl rfl rfl (et rfl) (e2 rfl (et rfl)) (by simp only [List.all_toArray, List.all_cons, List.all_nil, obC, SlN_one (sl_SlN fn39.at), SlN_one (sl_SlN fn40.at)] <;> rfl) (by rfl) (by kernel_rfl) (fun w42 c42 hc42 hS42 => ?_)
      replace hS42 : St w NoX [c42, c3, c2] w42 := hS42
      refine W_v rfl rfl (V_asg rfl (es rfl (et rfl))) ?_
      refine W_end ?_
      refine gen_Q (fun A43 hA43 => ?_)
      have hsz43 := szq hA43
      have hdf43 : A43.defers = [] := by rw [hA43]; simp only [df_put]; exact hdf12
      have l1_43 := lookE hA43 1 (e7 rfl (es rfl l1_12))
      have l3_43 := lookE hA43 3 (e7 rfl (es rfl l3_12))
      have l4_43 := lookE hA43 4 (e7 rfl (es rfl l4_12))
      have l8_43 := lookE hA43 8 (e7 rfl (es rfl l8_12))
      have l11_43 := lookE hA43 11 (es rfl (et rfl))
      have l12_43 := lookE hA43 12 (et rfl)
      clear hA43 hsz12 hdf12 l1_12 l2_12 l3_12 l4_12 l8_12 l10_12 l20_12
      refine then_n (hK24 _ _ ?_)
      clear hK24
      refine wp_seq_k (fun K44 hK44 => ?_)
      refine wp_seq_k (fun K45 hK45 => ?_)
      refine region_in ?_
      refine W_v rfl rfl (V_mov rfl l12_43) ?_
      refine W_v rfl rfl (V_notT rfl (et rfl)) ?_
      refine W_v rfl rfl (V_mov rfl (et rfl)) ?_
      refine W_v rfl (wanted_t rfl rfl (et rfl) (ez rfl)) (V_mov rfl (e2 rfl (es rfl l3_43))) ?_
      refine W_v rfl (wanted_t rfl rfl (es rfl (et rfl)) (ez rfl)) (V_lss rfl (et rfl) rfl) ?_
      refine W_v rfl rfl (V_pickF rfl (e2 rfl (et rfl)) (et rfl)) ?_
      refine W_split rfl rfl (V_mov rfl (et rfl)) (fun c46 => ?_) (fun c46 => ?_)
      · skip
        refine W_off rfl (wanted_f rfl rfl (et rfl) (ez rfl) rfl) ?_
        refine W_off rfl (wanted_f rfl rfl (es rfl (et rfl)) (ez rfl) rfl) ?_
        refine W_off rfl (wanted_f rfl rfl (e2 rfl (et rfl)) (ez rfl) rfl) ?_
        refine W_off rfl (wanted_f rfl rfl (e3 rfl (et rfl)) (ez rfl) rfl) ?_
        refine W_off rfl (wanted_f rfl rfl (e4 rfl (et rfl)) (ez rfl) rfl) ?_
        refine W_v rfl rfl (V_pickT rfl (e5 rfl (et rfl)) rfl) ?_
        refine W_end ?_
        refine gen_Q (fun A47 hA47 => ?_)
        have hsz47 := szq hA47
        have hdf47 : A47.defers = [] := by rw [hA47]; simp only [df_put]; exact hdf43
        have l1_47 := lookE hA47 1 (e12 rfl (es rfl l1_43))
        have l3_47 := lookE hA47 3 (e12 rfl (es rfl l3_43))
        have l4_47 := lookE hA47 4 (e12 rfl (es rfl l4_43))
        have l8_47 := lookE hA47 8 (e12 rfl (es rfl l8_43))
        have l11_47 := lookE hA47 11 (e12 rfl (es rfl l11_43))
        have l41_47 := lookE hA47 41 (et rfl)
        clear hA47 hsz43 hdf43 l1_43 l3_43 l4_43 l8_43 l11_43 l12_43
        refine then_n (hK45 _ _ ?_)
        clear hK45
        refine cond_t l41_47 ?_
        refine wp_seq_k (fun K48 hK48 => ?_)
        refine region_in ?_
        refine W_v rfl rfl (V_bldS (n := 2) (z := .agg #[.slice none 0 0, .slice none 0 0]) rfl (parts0) (by kernel_rfl) (by simp only [List.all_cons, List.all_nil, Bool.and_true] <;> rfl) (by kernel_rfl) (by simp only [List.foldl_cons, List.foldl_nil, Value.cells, List.setIfInBounds_toArray, List.set_cons_succ, List.set_cons_zero] <;> rfl)) ?_
        refine W_stAS 1 hS42 rfl hc3 rfl rfl rfl (es rfl l8_47) (et rfl) (by first | (rw [List.all_toArray] <;> rfl) | (simp only [List.all_toArray, List.all_cons, List.all_nil] <;> rfl)) (by rfl) (by kernel_rfl) (fun w49 c49 hc49 hS49 => ?_)
        replace hS49 : St w NoX [c42, c49, c2] w49 := hS49
        refine W_v rfl rfl (V_asg rfl rfl) ?_
        refine W_end ?_
        refine gen_Q (fun A50 hA50 => ?_)
        have hsz50 := szq hA50
        have hdf50 : A50.defers = [] := by rw [hA50]; simp only [df_put]; exact hdf47
        have l8_50 := lookE hA50 8 (es rfl (es rfl l8_47))
        have l9_50 := lookE hA50 9 (et rfl)
        clear hA50 hsz47 hdf47 l1_47 l3_47 l4_47 l8_47 l11_47 l41_47
        have hS51 : St w NoX [c49] w49 := hS49.sel [1] (by decide) rfl
        refine then_n (hK48 _ _ ?_)
        clear hK48
        refine wp_ret ?_
        refine then_ret ?_
        refine ret_in (results_2 Try.results38 (rv_cellA l8_50 (hS51.obj 0 rfl hc49) Try.underlying25 rfl (by kernel_rfl)) (rv_tmp l9_50)) hdf50 ?_
        -- leaf FsT
        obtain ⟨c52, hc52, hS52⟩ := hS51.pnil (s := 2)
        replace hc52 : c52 = ro 2 obC (.slice none 0 0) ([] : List Ob) := hc52
        obtain ⟨c53, cb53, hc53, hcb53, hS53⟩ := gen2 (nst_nils hS52)
        replace hS53 : St w NoX [c53, cb53, c52, c49] w49 := hS53
        obtain ⟨c54, hc54, hS54⟩ := hS53.pnil (s := 1)
        have hE := pt_no (a := b) (f := f) hcd (.inr (.inl (by omega)))
        have h := ld_e (by rw [hE]; decide)
        rw [hE, h.1]
        exact ⟨_, ([] : List Ob), _, rfl, rfl, (hS54.fin4 3 rfl (hc52) 1 rfl (hc53) 2 rfl (hcb53) 0 rfl (hc54.trans (by rw [h.2] <;> rfl)) (by decide))⟩
      · skip
        refine W_v rfl (wanted_t rfl rfl (et rfl) (ez rfl)) (V_mov rfl (e6 rfl (es rfl l3_43))) ?_
        refine W_v rfl (wanted_t rfl rfl (es rfl (et rfl)) (ez rfl)) (V_fa (off' := 0) rfl (e7 rfl (es rfl l11_43)) Try.underlying40 rfl (by decide +kernel) rfl) ?_
        refine W_r rfl (wanted_t rfl rfl (e2 rfl (et rfl)) (ez rfl)) (VR_ldC rfl (et rfl) (cell_box (v := y_25.1.1) (hS42.obj 0 rfl hc42) rfl) Try.underlying23 rfl) ?_
        refine W_v rfl (wanted_t rfl rfl (e3 rfl (et rfl)) (ez rfl)) (V_lenS rfl (et rfl) (sl_SlN fn39.at) Try.underlying23) ?_
        refine W_v rfl (wanted_t rfl rfl (e4 rfl (et rfl)) (ez rfl)) (V_geq rfl (e3 rfl (et rfl)) (et rfl)) ?_
        refine W_v rfl rfl (V_pickF rfl (e5 rfl (et rfl)) (et rfl)) ?_
        refine W_end ?_
        refine gen_Q (fun A55 hA55 => ?_)
        have hsz55 := szq hA55
        have hdf55 : A55.defers = [] := by rw [hA55]; simp only [df_put]; exact hdf43
        have l1_55 := lookE hA55 1 (e12 rfl (es rfl l1_43))
        have l3_55 := lookE hA55 3 (e12 rfl (es rfl l3_43))
        have l4_55 := lookE hA55 4 (e12 rfl (es rfl l4_43))
        have l8_55 := lookE hA55 8 (e12 rfl (es rfl l8_43))
        have l11_55 := lookE hA55 11 (e12 rfl (es rfl l11_43))
        have l41_55 := lookE hA55 41 (et rfl)
        clear hA55 hsz43 hdf43 l1_43 l3_43 l4_43 l8_43 l11_43 l12_43
        refine then_n (hK45 _ _ ?_)
        clear hK45
        refine cond_dec l41_55 (fun c56 => ?_) (fun c56 => ?_)
        · skip
          refine wp_seq_k (fun K57 hK57 => ?_)
          refine region_in ?_
          refine W_v rfl rfl (V_bldS (n := 2) (z := .agg #[.slice none 0 0, .slice none 0 0]) rfl (parts0) (by kernel_rfl) (by simp only [List.all_cons, List.all_nil, Bool.and_true] <;> rfl) (by kernel_rfl) (by simp only [List.foldl_cons, List.foldl_nil, Value.cells, List.setIfInBounds_toArray, List.set_cons_succ, List.set_cons_zero] <;> rfl)) ?_
          refine W_stAS 1 hS42 rfl hc3 rfl rfl rfl (es rfl l8_55) (et rfl) (by first | (rw [List.all_toArray] <;> rfl) | (simp only [List.all_toArray, List.all_cons, List.all_nil] <;> rfl)) (by rfl) (by kernel_rfl) (fun w58 c58 hc58 hS58 => ?_)
          replace hS58 : St w NoX [c42, c58, c2] w58 := hS58
          refine W_v rfl rfl (V_asg rfl rfl) ?_
          refine W_end ?_
          refine gen_Q (fun A59 hA59 => ?_)
          have hsz59 := szq hA59
          have hdf59 : A59.defers = [] := by rw [hA59]; simp only [df_put]; exact hdf55
          have l8_59 := lookE hA59 8 (es rfl (es rfl l8_55))
          have l9_59 := lookE hA59 9 (et rfl)
          clear hA59 hsz55 hdf55 l1_55 l3_55 l4_55 l8_55 l11_55 l41_55
          have hS60 : St w NoX [c58] w58 := hS58.sel [1] (by decide) rfl
          refine then_n (hK57 _ _ ?_)
          clear hK57
          refine wp_ret ?_
          refine then_ret ?_
          refine ret_in (results_2 Try.results38 (rv_cellA l8_59 (hS60.obj 0 rfl hc58) Try.underlying25 rfl (by kernel_rfl)) (rv_tmp l9_59)) hdf59 ?_
          -- leaf FsFT
          obtain ⟨c61, hc61, hS61⟩ := hS60.pnil (s := 2)
          replace hc61 : c61 = ro 2 obC (.slice none 0 0) ([] : List Ob) := hc61
          obtain ⟨c62, cb62, hc62, hcb62, hS62⟩ := gen2 (nst_nils hS61)
          replace hS62 : St w NoX [c62, cb62, c61, c58] w58 := hS62
          obtain ⟨c63, hc63, hS63⟩ := hS62.pnil (s := 1)
          have hE := pt_no (a := b) (f := f) hcd (.inr (.inr (by rw [ob_at hy_25]; simp only [ab]; omega)))
          have h := ld_e (by rw [hE]; decide)
          rw [hE, h.1]
          exact ⟨_, ([] : List Ob), _, rfl, rfl, (hS63.fin4 3 rfl (hc61) 1 rfl (hc62) 2 rfl (hcb62) 0 rfl (hc63.trans (by rw [h.2] <;> rfl)) (by decide))⟩
        · skip
          refine wp_skip ?_
          refine then_n (hK44 _ _ ?_)
          clear hK44
          refine wp_seq_k (fun K64 hK64 => ?_)
          refine region_in ?_
          refine W_r rfl rfl (VR_ldA rfl l4_55 (hS42.obj 2 rfl hc2) Try.underlying25 rfl (by kernel_rfl)) ?_
          refine W_call rfl rfl rfl Try.func35 (by kernel_rfl) rfl (args1 (et rfl)) (qCn_c (hS42.roC h_ov) (hS42.roC n_ov) (hS42.roC h_rv) (by first | with_reducible assumption) (by first | omega | (have q := hG.r8; omega)) (by first | omega | (have q := hG.o4; rw [List.length_map] at q; omega))) ?_
          rintro _ w65 ⟨hv_65, H_65, qv_65, rfl, hH_65, hP65⟩
          refine ⟨_, rfl, ?_⟩
          obtain ⟨cR_65, cP_65, cQ_65, cG_65, hcR_65, hcP_65, hcQ_65, hcG_65, hP65⟩ := gen4 hP65
          have hS65 := hS42.join hP65
          replace hS65 : St w NoX [cR_65, cP_65, cQ_65, cG_65, c42, c3, c2] w65 := hS65
          have hHl := mp_lenE hH_65
          rw [List.length_map] at hHl
          have hHo := hG.o4
          rw [List.length_map] at hHo
          refine W_allocS (z := .agg #[.slice none 0 0, .slice none 0 0]) (zs := #[.slice none 0 0, .slice none 0 0]) hS65 rfl rfl rfl (by kernel_rfl) (by rfl) (fun g66 w66 c66 hc66 hS66 => ?_)
          replace hS66 : St w NoX [c66, cR_65, cP_65, cQ_65, cG_65, c42, c3, c2] w66 := hS66
          refine W_stAS 0 hS66 rfl hc66 rfl rfl rfl (et rfl) (es rfl (et rfl)) (by simp only [List.all_toArray, List.all_cons, List.all_nil, obC, SlN_one (ow_at (hS66.chq 1 rfl hcR_65)), SlN_one (ow_at (hS66.chq 4 rfl hcG_65))] <;> rfl) (by rfl) (by kernel_rfl) (fun w67 c67 hc67 hS67 => ?_)
          replace hS67 : St w NoX [c67, cR_65, cP_65, cQ_65, cG_65, c42, c3, c2] w67 := hS67
          refine W_end ?_
          refine gen_Q (fun A68 hA68 => ?_)
          have hsz68 := szq hA68
          have hdf68 : A68.defers = [] := by rw [hA68]; simp only [df_put]; exact hdf55
          have l1_68 := lookE hA68 1 (e2 rfl (es rfl l1_55))
          have l3_68 := lookE hA68 3 (e2 rfl (es rfl l3_55))
          have l8_68 := lookE hA68 8 (e2 rfl (es rfl l8_55))
          have l11_68 := lookE hA68 11 (e2 rfl (es rfl l11_55))
          have l13_68 := lookE hA68 13 (et rfl)
          clear hA68 hsz55 hdf55 l1_55 l3_55 l4_55 l8_55 l11_55 l41_55
          have hS69 : St w NoX [c67, cR_65, cP_65, cQ_65, cG_65, c42, c3] w67 := hS67.sel [0, 1, 2, 3, 4, 5, 6] (by decide) rfl
          refine then_n (hK64 _ _ ?_)
          clear hK64
          refine wp_seq_k (fun K70 hK70 => ?_)
          refine region_monoS 9 10 [] (by kernel_rfl) (by kernel_rfl) ?_
          refine D_v rfl rfl (V_fa (off' := 1) rfl l13_68 Try.underlying25 rfl (by decide +kernel) rfl) rfl rfl ?_
          refine D_r rfl rfl (by kernel_rfl) (fun sx hx hF => (VR_ldC rfl (et rfl) (cell_box (v := qv_65) ((hS69.grow hx).obj 0 rfl hc67) rfl) Try.underlying23 rfl)) rfl rfl ?_
          refine D_v rfl rfl (V_mov rfl (es rfl (es rfl l1_68))) rfl rfl ?_
          refine D_v rfl rfl (V_fa (off' := 0) rfl (e2 rfl (es rfl l11_68)) Try.underlying40 rfl (by decide +kernel) rfl) rfl rfl ?_
          refine D_r rfl rfl (by kernel_rfl) (fun sx hx hF => (VR_ldC rfl (et rfl) (cell_box (v := y_25.1.1) ((hS69.grow hx).obj 5 rfl hc42) rfl) Try.underlying23 rfl)) rfl rfl ?_
          refine D_v rfl rfl (V_mov rfl (e4 rfl (es rfl l3_68))) rfl rfl ?_
          have k71 : f.toNat < y_25.1.2.length := by first | omega | (simp only [List.length_cons, List.length_nil]; omega) | (simp only [List.length_set]; omega)
          obtain ⟨y71, hy71⟩ := get_some (xs := y_25.1.2) (k := f.toNat) k71
          obtain ⟨B71, O71, C71, hv71⟩ := (SlN.blk (sl_SlN fn39.at) (by first | omega | (simp only [List.length_cons, List.length_nil]; omega) | (simp only [List.length_set]; omega)))
          refine D_v rfl rfl (V_ixS (off := O71 + f.toNat) 1 (f.toNat) rfl (es rfl (et rfl)) (et rfl) hv71 (by omega) k71 Try.underlying23 (by kernel_rfl) (congrArg _ (Nat.mul_one _))) rfl rfl ?_
          refine D_r rfl rfl (by kernel_rfl) (fun sx hx hF => (VR_ldC rfl (et rfl) ((sl_SlN ((hS69.grow hx).ro fn39)).cell hv71 (map_get hy71)) Try.underlying3 rfl)) rfl rfl ?_
          have k72 : a.toNat < rs.length := by first | omega | (simp only [List.length_cons, List.length_nil]; omega) | (simp only [List.length_set]; omega)
          obtain ⟨y72, hy72⟩ := get_some (xs := rs) (k := a.toNat) k72
          have hq72 := rg_at hy72
          have hrg72 := hrg y72 (List.mem_of_getElem? hy72)
          obtain ⟨B72, O72, C72, hv72⟩ := (SlN.blk (ow_at (hS69.chq 4 rfl hcG_65)) (by first | omega | (simp only [List.length_cons, List.length_nil]; omega) | (simp only [List.length_set]; omega)))
          refine D_v rfl rfl (V_ixS (off := O72 + a.toNat) 1 (a.toNat) rfl (e6 rfl (et rfl)) (e5 rfl (et rfl)) hv72 (by omega) k72 Try.underlying23 (by kernel_rfl) (congrArg _ (Nat.mul_one _))) rfl rfl ?_
          refine D_eff rfl ?_
          refine ZS_eff hS69 rfl rfl (fun s73 hJ73 hL73 hF73 => ?_)
          have hS73 := hJ73.st; clear hF73 hJ73 hL73
          generalize s73.1 = w73 at *
          replace hS73 : St w NoX [c67, cR_65, cP_65, cQ_65, cG_65, c42, c3] w73 := hS73
          refine W_stE 4 hS73 rfl hcG_65 hv72 rfl rfl rfl (et rfl) (es rfl (et rfl)) (by rfl) rfl (by first | (simp only [List.length_map]; omega) | omega) (by kernel_rfl) (fun w74 c74 hc74 hS74 => ?_)
          replace hc74 : c74 = io .i64 qv_65 (rs.set a.toNat y71) := hc74.trans (by simp [io, bo, List.map_set] <;> rfl)
          replace hS74 : St w NoX [c67, cR_65, cP_65, cQ_65, c74, c42, c3] w74 := hS74
          refine W_end ?_
          refine Qo_normal ?_
          refine gen_Q (fun A75 hA75 => ?_)
          have hsz75 := szq hA75
          have hdf75 : A75.defers = [] := by rw [hA75]; simp only [df_put]; exact hdf68
          have l8_75 := lookE hA75 8 (e8 rfl (es rfl l8_68))
          have l13_75 := lookE hA75 13 (e8 rfl (es rfl l13_68))
          clear hA75 hsz68 hdf68 l1_68 l3_68 l8_68 l11_68 l13_68
          have hS76 : St w NoX [c67, cR_65, cP_65, cQ_65, c74, c3] w74 := hS74.sel [0, 1, 2, 3, 4, 6] (by decide) rfl
          refine then_n (hK70 _ _ ?_)
          clear hK70
          refine wp_seq_k (fun K77 hK77 => ?_)
          refine region_in ?_
          refine W_r rfl rfl (VR_ldA rfl l13_75 (hS76.obj 0 rfl hc67) Try.underlying25 rfl (by kernel_rfl)) ?_
          refine W_stAS 5 hS76 rfl hc3 rfl rfl rfl (es rfl l8_75) (et rfl) (by simp only [List.all_toArray, List.all_cons, List.all_nil, obC, SlN_one (ow_at (hS76.chq 1 rfl hcR_65)), SlN_one (ow_at (hS76.chq 4 rfl hc74))] <;> rfl) (by rfl) (by kernel_rfl) (fun w78 c78 hc78 hS78 => ?_)
          replace hS78 : St w NoX [c67, cR_65, cP_65, cQ_65, c74, c78] w78 := hS78
          refine W_v rfl rfl (V_asg rfl rfl) ?_
          refine W_end ?_
          refine gen_Q (fun A79 hA79 => ?_)
          have hsz79 := szq hA79
          have hdf79 : A79.defers = [] := by rw [hA79]; simp only [df_put]; exact hdf75
          have l8_79 := lookE hA79 8 (es rfl (es rfl l8_75))
          have l9_79 := lookE hA79 9 (et rfl)
          clear hA79 hsz75 hdf75 l8_75 l13_75
          have hS80 : St w NoX [cR_65, cP_65, cQ_65, c74, c78] w78 := hS78.sel [1, 2, 3, 4, 5] (by decide) rfl
          refine then_n (hK77 _ _ ?_)
          clear hK77
          refine wp_ret ?_
          refine ret_in (results_2 Try.results38 (rv_cellA l8_79 (hS80.obj 4 rfl hc78) Try.underlying25 rfl (by kernel_rfl)) (rv_tmp l9_79)) hdf79 ?_
          -- leaf FsFF
          have hE := pt_ok (a := b) (f := f) hcd (by rintro (q | q | q) <;> first | omega | (rw [ob_at hy_25] at q; simp only [ab] at q; omega))
          have h := ld_k hE
          rw [hE, h.1]
          exact ⟨_, H_65, _, rfl, hH_65, (hS80.fin4 0 rfl (hcR_65) 1 rfl (hcP_65) 2 rfl (hcQ_65) 3 rfl (hc74.trans ((congrArg (fun z => io .i64 _ (rs.set a.toNat z)) (getD_at hy71).symm).trans (by rw [h.2, ob_at hy_25] <;> rfl))) (by decide))⟩

end Go.Proofs.Ytdilbnmaihmgnaa