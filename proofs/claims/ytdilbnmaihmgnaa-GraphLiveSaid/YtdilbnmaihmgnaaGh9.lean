import Derived.Test.YtdilbnmaihmgnaaProg
import Derived.Test.YtdilbnmaihmgnaaGh8
namespace Go.Proofs.Ytdilbnmaihmgnaa
open Go.RowKit Go.Own Go.Own.R Go.Own.G Go.Own.Gr


set_option maxHeartbeats 4000000 in
theorem kAlloc_c {ov : Value} {O : List Ob} {rv : Value} {rs : List Int} {a : Int} {p : Int} {r : Int} {w : World} (h_ov : Ro w NoX (rl 2 obC ov O)) (n_ov : Ro w NoX (nst O)) (h_rv : Ro w NoX (il .i64 rv rs)) (hsm : SM (O.map ab)) :
    Calls Try.prog 28 #[.agg #[ov, rv], .int .i64 a, .int .i64 p, .int .i64 r] w fun e w' => ∃ hv H qv, e = .returned (.tuple #[.agg #[hv, qv], .int .i64 (alE (O.map ab) rs a p r)]) ∧ (H.map ab = (alO (O.map ab) rs a p r)) ∧ St w NoX [ro 2 obC hv H, owl .i64 (H.map (·.1)), owl .u64 (H.map (·.2)), io .i64 (qv) (alR (O.map ab) rs a p r)] w' := by
  refine calls_in 17 Try.func28 rfl rfl (by simp) (fun A0 hsz0 hdf0 hargs => ?_)
  have l0_0 := hargs 0 (.agg #[ov, rv]) rfl
  have l1_0 := hargs 1 (.int .i64 a) rfl
  have l2_0 := hargs 2 (.int .i64 p) rfl
  have l3_0 := hargs 3 (.int .i64 r) rfl
  clear hargs; replace hsz0 : SzN A0 17 := ⟨hsz0⟩
  have hS := St.nil w
  have bh_ov := SlN.le (sl_SlN h_ov.at)
  have bh_rv := SlN.le (sl_SlN h_rv.at)
  refine wp_seq_k (fun K1 hK1 => ?_)
  refine region_in ?_
  refine W_boxS (zs := #[ov, rv]) hS rfl rfl rfl l0_0 (by rfl) (fun g2 w2 c2 hc2 hS2 => ?_)
  replace hS2 : St w NoX [c2] w2 := hS2
  refine W_boxS (zs := #[.int .i64 (a)]) hS2 rfl rfl rfl (es rfl l1_0) (by rfl) (fun g3 w3 c3 hc3 hS3 => ?_)
  replace hS3 : St w NoX [c3, c2] w3 := hS3
  refine W_boxS (zs := #[.int .i64 (p)]) hS3 rfl rfl rfl (es rfl (es rfl l2_0)) (by rfl) (fun g4 w4 c4 hc4 hS4 => ?_)
  replace hS4 : St w NoX [c4, c3, c2] w4 := hS4
  refine W_boxS (zs := #[.int .i64 (r)]) hS4 rfl rfl rfl (e2 rfl (es rfl l3_0)) (by rfl) (fun g5 w5 c5 hc5 hS5 => ?_)
  replace hS5 : St w NoX [c5, c4, c3, c2] w5 := hS5
  refine W_allocS (z := .agg #[.slice none 0 0, .slice none 0 0]) (zs := #[.slice none 0 0, .slice none 0 0]) hS5 rfl rfl rfl (by kernel_rfl) (by rfl) (fun g6 w6 c6 hc6 hS6 => ?_)
  replace hS6 : St w NoX [c6, c5, c4, c3, c2] w6 := hS6
  refine W_v rfl rfl (V_asg rfl rfl) ?_
  refine W_end ?_
  refine gen_Q (fun A7 hA7 => ?_)
  have hsz7 := szq hA7
  have hdf7 : A7.defers = [] := by rw [hA7]; simp only [df_put]; exact hdf0
  have l4_7 := lookE hA7 4 (e5 rfl (et rfl))
  have l5_7 := lookE hA7 5 (e4 rfl (et rfl))
  have l6_7 := lookE hA7 6 (e3 rfl (et rfl))
  have l7_7 := lookE hA7 7 (e2 rfl (et rfl))
  have l8_7 := lookE hA7 8 (es rfl (et rfl))
  clear hA7 hsz0 hdf0 l0_0 l1_0 l2_0 l3_0
  refine then_n (hK1 _ _ ?_)
  clear hK1
  refine wp_seq_k (fun K8 hK8 => ?_)
  refine region_in ?_
  refine W_r rfl rfl (VR_ldA rfl l4_7 (hS6.obj 4 rfl hc2) Try.underlying25 rfl (by kernel_rfl)) ?_
  refine W_v rfl rfl (V_mkf rfl (args0) (args3 (es rfl l6_7) (es rfl l7_7) (es rfl l5_7))) ?_
  refine W_r rfl rfl (VR_ldC rfl (es rfl (es rfl l5_7)) (cell_box (v := .int .i64 (a)) (hS6.obj 3 rfl hc3) rfl) Try.underlying3 rfl) ?_
  have hll9 : [a].length = 1 := rfl
  refine W_litS (vs := [.int .i64 (a)]) (xs := ([a].map (Value.int .i64))) 1 hS6 rfl rfl rfl (parts1 (et rfl)) rfl Try.underlying23 (by kernel_rfl) (by decide) (by intro v hv; simp only [List.mem_cons, List.not_mem_nil, or_false] at hv; rcases hv with rfl <;> rfl) (by rfl) (fun g9 w9 c9 hc9 hS9 => ?_)
  replace hc9 : c9 = io .i64 (.slice (some ⟨g9, 0, none⟩) 1 1) [a] := hc9
  replace hS9 : St w NoX [c9, c6, c5, c4, c3, c2] w9 := hS9
  refine W_call rfl rfl rfl Try.func51 (by kernel_rfl) rfl (args3 (e3 rfl (et rfl)) (e2 rfl (et rfl)) (et rfl)) (kchAlloc_c (p := p) (gp := g4) (r := r) (gr := g5) (a := a) (ga := g3) (hS9.roC h_ov) (hS9.roC n_ov) (hS9.roC h_rv) (hS9.chC 3 rfl hc4) (hS9.chC 2 rfl hc5) (hS9.chC 4 rfl hc3) (hS9.chC 0 rfl hc9).own (by first | with_reducible assumption) (rfl)) ?_
  rintro _ w10 ⟨hv_10, H_10, qv_10, rfl, hH_10, hP10⟩
  refine ⟨_, rfl, ?_⟩
  obtain ⟨cR_10, cP_10, cQ_10, cG_10, hcR_10, hcP_10, hcQ_10, hcG_10, hP10⟩ := gen4 hP10
  have hS10 := hS9.join hP10
  replace hS10 : St w NoX [cR_10, cP_10, cQ_10, cG_10, c9, c6, c5, c4, c3, c2] w10 := hS10
  refine W_v rfl rfl (V_ext (v := .agg #[hv_10, qv_10]) rfl (et rfl) rfl) ?_
  refine W_v rfl rfl (V_ext (v := .int .i64 ((alE (O.map ab) rs a p r))) rfl (es rfl (et rfl)) rfl) ?_
  refine W_stAS 5 hS10 rfl hc6 rfl rfl rfl (e6 rfl (es rfl l8_7)) (es rfl (et rfl)) (by simp only [List.all_toArray, List.all_cons, List.all_nil, SlN_one (ow_at (hS10.chq 0 rfl hcR_10)), SlN_one (ow_at (hS10.chq 3 rfl hcG_10))] <;> rfl) (by rfl) (by kernel_rfl) (fun w11 c11 hc11 hS11 => ?_)
  replace hS11 : St w NoX [cR_10, cP_10, cQ_10, cG_10, c9, c11, c5, c4, c3, c2] w11 := hS11
  refine W_v rfl rfl (V_asg rfl (et rfl)) ?_
  refine W_end ?_
  refine gen_Q (fun A12 hA12 => ?_)
  have hsz12 := szq hA12
  have hdf12 : A12.defers = [] := by rw [hA12]; simp only [df_put]; exact hdf7
  have l8_12 := lookE hA12 8 (e7 rfl (es rfl l8_7))
  have l9_12 := lookE hA12 9 (et rfl)
  clear hA12 hsz7 hdf7 l4_7 l5_7 l6_7 l7_7 l8_7
  have hS13 : St w NoX [cR_10, cP_10, cQ_10, cG_10, c11] w11 := hS11.sel [0, 1, 2, 3, 5] (by decide) rfl
  refine then_n (hK8 _ _ ?_)
  clear hK8
  refine wp_ret ?_
  refine ret_in (results_2 Try.results28 (rv_cellA l8_12 (hS13.obj 4 rfl hc11) Try.underlying25 rfl (by kernel_rfl)) (rv_tmp l9_12)) hdf12 ?_
  -- leaf 
  exact ⟨_, H_10, _, rfl, hH_10, (hS13.fin4 0 rfl (hcR_10) 1 rfl (hcP_10) 2 rfl (hcQ_10) 3 rfl (hcG_10) (by decide))⟩

set_option maxHeartbeats 4000000 in
theorem kLoad_c {ov : Value} {O : List Ob} {rv : Value} {rs : List Int} {a : Int} {b : Int} {f : Int} {w : World} (h_ov : Ro w NoX (rl 2 obC ov O)) (n_ov : Ro w NoX (nst O)) (h_rv : Ro w NoX (il .i64 rv rs)) (hsm : SM (O.map ab)) :
    Calls Try.prog 25 #[.agg #[ov, rv], .int .i64 a, .int .i64 b, .int .i64 f] w fun e w' => ∃ hv H qv, e = .returned (.tuple #[.agg #[hv, qv], .int .i64 (ptE (O.map ab) rs [a, b] b f)]) ∧ (H.map ab = (ldO (O.map ab) rs a b f)) ∧ St w NoX [ro 2 obC hv H, owl .i64 (H.map (·.1)), owl .u64 (H.map (·.2)), io .i64 (qv) (ldR (O.map ab) rs a b f)] w' := by
  refine calls_in 18 Try.func25 rfl rfl (by simp) (fun A0 hsz0 hdf0 hargs => ?_)
  have l0_0 := hargs 0 (.agg #[ov, rv]) rfl
  have l1_0 := hargs 1 (.int .i64 a) rfl
  have l2_0 := hargs 2 (.int .i64 b) rfl
  have l3_0 := hargs 3 (.int .i64 f) rfl
  clear hargs; replace hsz0 : SzN A0 18 := ⟨hsz0⟩
  have hS := St.nil w
  have bh_ov := SlN.le (sl_SlN h_ov.at)
  have bh_rv := SlN.le (sl_SlN h_rv.at)
  refine wp_seq_k (fun K1 hK1 => ?_)
  refine region_in ?_
  refine W_boxS (zs := #[ov, rv]) hS rfl rfl rfl l0_0 (by rfl) (fun g2 w2 c2 hc2 hS2 => ?_)
  replace hS2 : St w NoX [c2] w2 := hS2
  refine W_boxS (zs := #[.int .i64 (a)]) hS2 rfl rfl rfl (es rfl l1_0) (by rfl) (fun g3 w3 c3 hc3 hS3 => ?_)
  replace hS3 : St w NoX [c3, c2] w3 := hS3
  refine W_boxS (zs := #[.int .i64 (b)]) hS3 rfl rfl rfl (es rfl (es rfl l2_0)) (by rfl) (fun g4 w4 c4 hc4 hS4 => ?_)
  replace hS4 : St w NoX [c4, c3, c2] w4 := hS4
  refine W_boxS (zs := #[.int .i64 (f)]) hS4 rfl rfl rfl (e2 rfl (es rfl l3_0)) (by rfl) (fun g5 w5 c5 hc5 hS5 => ?_)
  replace hS5 : St w NoX [c5, c4, c3, c2] w5 := hS5
  refine W_allocS (z := .agg #[.slice none 0 0, .slice none 0 0]) (zs := #[.slice none 0 0, .slice none 0 0]) hS5 rfl rfl rfl (by kernel_rfl) (by rfl) (fun g6 w6 c6 hc6 hS6 => ?_)
  replace hS6 : St w NoX [c6, c5, c4, c3, c2] w6 := hS6
  refine W_v rfl rfl (V_asg rfl rfl) ?_
  refine W_end ?_
  refine gen_Q (fun A7 hA7 => ?_)
  have hsz7 := szq hA7
  have hdf7 : A7.defers = [] := by rw [hA7]; simp only [df_put]; exact hdf0
  have l4_7 := lookE hA7 4 (e5 rfl (et rfl))
  have l5_7 := lookE hA7 5 (e4 rfl (et rfl))
  have l6_7 := lookE hA7 6 (e3 rfl (et rfl))
  have l7_7 := lookE hA7 7 (e2 rfl (et rfl))
  have l8_7 := lookE hA7 8 (es rfl (et rfl))
  clear hA7 hsz0 hdf0 l0_0 l1_0 l2_0 l3_0
  refine then_n (hK1 _ _ ?_)
  clear hK1
  refine wp_seq_k (fun K8 hK8 => ?_)
  refine region_in ?_
  refine W_r rfl rfl (VR_ldA rfl l4_7 (hS6.obj 4 rfl hc2) Try.underlying25 rfl (by kernel_rfl)) ?_
  refine W_v rfl rfl (V_mkf rfl (args0) (args3 (es rfl l6_7) (es rfl l7_7) (es rfl l5_7))) ?_
  refine W_r rfl rfl (VR_ldC rfl (es rfl (es rfl l5_7)) (cell_box (v := .int .i64 (a)) (hS6.obj 3 rfl hc3) rfl) Try.underlying3 rfl) ?_
  refine W_r rfl rfl (VR_ldC rfl (e2 rfl (es rfl l6_7)) (cell_box (v := .int .i64 (b)) (hS6.obj 2 rfl hc4) rfl) Try.underlying3 rfl) ?_
  have hll9 : [a, b].length = 2 := rfl
  refine W_litS (vs := [.int .i64 (a), .int .i64 (b)]) (xs := ([a, b].map (Value.int .i64))) 1 hS6 rfl rfl rfl (parts2 (es rfl (et rfl)) (et rfl)) rfl Try.underlying23 (by kernel_rfl) (by decide) (by intro v hv; simp only [List.mem_cons, List.not_mem_nil, or_false] at hv; rcases hv with rfl | rfl <;> rfl) (by rfl) (fun g9 w9 c9 hc9 hS9 => ?_)
  replace hc9 : c9 = io .i64 (.slice (some ⟨g9, 0, none⟩) 2 2) [a, b] := hc9
  replace hS9 : St w NoX [c9, c6, c5, c4, c3, c2] w9 := hS9
  refine W_call rfl rfl rfl Try.func51 (by kernel_rfl) rfl (args3 (e4 rfl (et rfl)) (e3 rfl (et rfl)) (et rfl)) (kchLoad_c (b := b) (gb := g4) (f := f) (gf := g5) (a := a) (ga := g3) (hS9.roC h_ov) (hS9.roC n_ov) (hS9.roC h_rv) (hS9.chC 3 rfl hc4) (hS9.chC 2 rfl hc5) (hS9.chC 4 rfl hc3) (hS9.chC 0 rfl hc9).own (by first | with_reducible assumption) (rfl)) ?_
  rintro _ w10 ⟨hv_10, H_10, qv_10, rfl, hH_10, hP10⟩
  refine ⟨_, rfl, ?_⟩
  obtain ⟨cR_10, cP_10, cQ_10, cG_10, hcR_10, hcP_10, hcQ_10, hcG_10, hP10⟩ := gen4 hP10
  have hS10 := hS9.join hP10
  replace hS10 : St w NoX [cR_10, cP_10, cQ_10, cG_10, c9, c6, c5, c4, c3, c2] w10 := hS10
  refine W_v rfl rfl (V_ext (v := .agg #[hv_10, qv_10]) rfl (et rfl) rfl) ?_
  refine W_v rfl rfl (V_ext (v := .int .i64 ((ptE (O.map ab) rs [a, b] b f))) rfl (es rfl (et rfl)) rfl) ?_
  refine W_stAS 5 hS10 rfl hc6 rfl rfl rfl (e7 rfl (es rfl l8_7)) (es rfl (et rfl)) (by simp only [List.all_toArray, List.all_cons, List.all_nil, SlN_one (ow_at (hS10.chq 0 rfl hcR_10)), SlN_one (ow_at (hS10.chq 3 rfl hcG_10))] <;> rfl) (by rfl) (by kernel_rfl) (fun w11 c11 hc11 hS11 => ?_)
  replace hS11 : St w NoX [cR_10, cP_10, cQ_10, cG_10, c9, c11, c5, c4, c3, c2] w11 := hS11
  refine W_v rfl rfl (V_asg rfl (et rfl)) ?_
  refine W_end ?_
  refine gen_Q (fun A12 hA12 => ?_)
  have hsz12 := szq hA12
  have hdf12 : A12.defers = [] := by rw [hA12]; simp only [df_put]; exact hdf7
  have l8_12 := lookE hA12 8 (e8 rfl (es rfl l8_7))
  have l9_12 := lookE hA12 9 (et rfl)
  clear hA12 hsz7 hdf7 l4_7 l5_7 l6_7 l7_7 l8_7
  have hS13 : St w NoX [cR_10, cP_10, cQ_10, cG_10, c11] w11 := hS11.sel [0, 1, 2, 3, 5] (by decide) rfl
  refine then_n (hK8 _ _ ?_)
  clear hK8
  refine wp_ret ?_
  refine ret_in (results_2 Try.results25 (rv_cellA l8_12 (hS13.obj 4 rfl hc11) Try.underlying25 rfl (by kernel_rfl)) (rv_tmp l9_12)) hdf12 ?_
  -- leaf 
  exact ⟨_, H_10, _, rfl, hH_10, (hS13.fin4 0 rfl (hcR_10) 1 rfl (hcP_10) 2 rfl (hcQ_10) 3 rfl (hcG_10) (by decide))⟩

set_option maxHeartbeats 4000000 in
theorem kStore_c {ov : Value} {O : List Ob} {rv : Value} {rs : List Int} {a : Int} {f : Int} {b : Int} {w : World} (h_ov : Ro w NoX (rl 2 obC ov O)) (n_ov : Ro w NoX (nst O)) (h_rv : Ro w NoX (il .i64 rv rs)) (hsm : SM (O.map ab)) :
    Calls Try.prog 27 #[.agg #[ov, rv], .int .i64 a, .int .i64 f, .int .i64 b] w fun e w' => ∃ hv H qv, e = .returned (.tuple #[.agg #[hv, qv], .int .i64 (ptE (O.map ab) rs [a, b] a f)]) ∧ (H.map ab = (soO (O.map ab) rs a f b)) ∧ St w NoX [ro 2 obC hv H, owl .i64 (H.map (·.1)), owl .u64 (H.map (·.2)), io .i64 (qv) (soR (O.map ab) rs a f b)] w' := by
  refine calls_in 18 Try.func27 rfl rfl (by simp) (fun A0 hsz0 hdf0 hargs => ?_)
  have l0_0 := hargs 0 (.agg #[ov, rv]) rfl
  have l1_0 := hargs 1 (.int .i64 a) rfl
  have l2_0 := hargs 2 (.int .i64 f) rfl
  have l3_0 := hargs 3 (.int .i64 b) rfl
  clear hargs; replace hsz0 : SzN A0 18 := ⟨hsz0⟩
  have hS := St.nil w
  have bh_ov := SlN.le (sl_SlN h_ov.at)
  have bh_rv := SlN.le (sl_SlN h_rv.at)
  refine wp_seq_k (fun K1 hK1 => ?_)
  refine region_in ?_
  refine W_boxS (zs := #[ov, rv]) hS rfl rfl rfl l0_0 (by rfl) (fun g2 w2 c2 hc2 hS2 => ?_)
  replace hS2 : St w NoX [c2] w2 := hS2
  refine W_boxS (zs := #[.int .i64 (a)]) hS2 rfl rfl rfl (es rfl l1_0) (by rfl) (fun g3 w3 c3 hc3 hS3 => ?_)
  replace hS3 : St w NoX [c3, c2] w3 := hS3
  refine W_boxS (zs := #[.int .i64 (f)]) hS3 rfl rfl rfl (es rfl (es rfl l2_0)) (by rfl) (fun g4 w4 c4 hc4 hS4 => ?_)
  replace hS4 : St w NoX [c4, c3, c2] w4 := hS4
  refine W_boxS (zs := #[.int .i64 (b)]) hS4 rfl rfl rfl (e2 rfl (es rfl l3_0)) (by rfl) (fun g5 w5 c5 hc5 hS5 => ?_)
  replace hS5 : St w NoX [c5, c4, c3, c2] w5 := hS5
  refine W_allocS (z := .agg #[.slice none 0 0, .slice none 0 0]) (zs := #[.slice none 0 0, .slice none 0 0]) hS5 rfl rfl rfl (by kernel_rfl) (by rfl) (fun g6 w6 c6 hc6 hS6 => ?_)
  replace hS6 : St w NoX [c6, c5, c4, c3, c2] w6 := hS6
  refine W_v rfl rfl (V_asg rfl rfl) ?_
  refine W_end ?_
  refine gen_Q (fun A7 hA7 => ?_)
  have hsz7 := szq hA7
  have hdf7 : A7.defers = [] := by rw [hA7]; simp only [df_put]; exact hdf0
  have l4_7 := lookE hA7 4 (e5 rfl (et rfl))
  have l5_7 := lookE hA7 5 (e4 rfl (et rfl))
  have l6_7 := lookE hA7 6 (e3 rfl (et rfl))
  have l7_7 := lookE hA7 7 (e2 rfl (et rfl))
  have l8_7 := lookE hA7 8 (es rfl (et rfl))
  clear hA7 hsz0 hdf0 l0_0 l1_0 l2_0 l3_0
  refine then_n (hK1 _ _ ?_)
  clear hK1
  refine wp_seq_k (fun K8 hK8 => ?_)
  refine region_in ?_
  refine W_r rfl rfl (VR_ldA rfl l4_7 (hS6.obj 4 rfl hc2) Try.underlying25 rfl (by kernel_rfl)) ?_
  refine W_v rfl rfl (V_mkf rfl (args0) (args3 (es rfl l5_7) (es rfl l6_7) (es rfl l7_7))) ?_
  refine W_r rfl rfl (VR_ldC rfl (es rfl (es rfl l5_7)) (cell_box (v := .int .i64 (a)) (hS6.obj 3 rfl hc3) rfl) Try.underlying3 rfl) ?_
  refine W_r rfl rfl (VR_ldC rfl (e2 rfl (es rfl l7_7)) (cell_box (v := .int .i64 (b)) (hS6.obj 1 rfl hc5) rfl) Try.underlying3 rfl) ?_
  have hll9 : [a, b].length = 2 := rfl
  refine W_litS (vs := [.int .i64 (a), .int .i64 (b)]) (xs := ([a, b].map (Value.int .i64))) 1 hS6 rfl rfl rfl (parts2 (es rfl (et rfl)) (et rfl)) rfl Try.underlying23 (by kernel_rfl) (by decide) (by intro v hv; simp only [List.mem_cons, List.not_mem_nil, or_false] at hv; rcases hv with rfl | rfl <;> rfl) (by rfl) (fun g9 w9 c9 hc9 hS9 => ?_)
  replace hc9 : c9 = io .i64 (.slice (some ⟨g9, 0, none⟩) 2 2) [a, b] := hc9
  replace hS9 : St w NoX [c9, c6, c5, c4, c3, c2] w9 := hS9
  refine W_call rfl rfl rfl Try.func51 (by kernel_rfl) rfl (args3 (e4 rfl (et rfl)) (e3 rfl (et rfl)) (et rfl)) (kchStore_c (a := a) (ga := g3) (f := f) (gf := g4) (b := b) (gb := g5) (hS9.roC h_ov) (hS9.roC n_ov) (hS9.roC h_rv) (hS9.chC 4 rfl hc3) (hS9.chC 3 rfl hc4) (hS9.chC 2 rfl hc5) (hS9.chC 0 rfl hc9).own (by first | with_reducible assumption) (rfl)) ?_
  rintro _ w10 ⟨hv_10, H_10, qv_10, rfl, hH_10, hP10⟩
  refine ⟨_, rfl, ?_⟩
  obtain ⟨cR_10, cP_10, cQ_10, cG_10, hcR_10, hcP_10, hcQ_10, hcG_10, hP10⟩ := gen4 hP10
  have hS10 := hS9.join hP10
  replace hS10 : St w NoX [cR_10, cP_10, cQ_10, cG_10, c9, c6, c5, c4, c3, c2] w10 := hS10
  refine W_v rfl rfl (V_ext (v := .agg #[hv_10, qv_10]) rfl (et rfl) rfl) ?_
  refine W_v rfl rfl (V_ext (v := .int .i64 ((ptE (O.map ab) rs [a, b] a f))) rfl (es rfl (et rfl)) rfl) ?_
  refine W_stAS 5 hS10 rfl hc6 rfl rfl rfl (e7 rfl (es rfl l8_7)) (es rfl (et rfl)) (by simp only [List.all_toArray, List.all_cons, List.all_nil, SlN_one (ow_at (hS10.chq 0 rfl hcR_10)), SlN_one (ow_at (hS10.chq 3 rfl hcG_10))] <;> rfl) (by rfl) (by kernel_rfl) (fun w11 c11 hc11 hS11 => ?_)
  replace hS11 : St w NoX [cR_10, cP_10, cQ_10, cG_10, c9, c11, c5, c4, c3, c2] w11 := hS11
  refine W_v rfl rfl (V_asg rfl (et rfl)) ?_
  refine W_end ?_
  refine gen_Q (fun A12 hA12 => ?_)
  have hsz12 := szq hA12
  have hdf12 : A12.defers = [] := by rw [hA12]; simp only [df_put]; exact hdf7
  have l8_12 := lookE hA12 8 (e8 rfl (es rfl l8_7))
  have l9_12 := lookE hA12 9 (et rfl)
  clear hA12 hsz7 hdf7 l4_7 l5_7 l6_7 l7_7 l8_7
  have hS13 : St w NoX [cR_10, cP_10, cQ_10, cG_10, c11] w11 := hS11.sel [0, 1, 2, 3, 5] (by decide) rfl
  refine then_n (hK8 _ _ ?_)
  clear hK8
  refine wp_ret ?_
  refine ret_in (results_2 Try.results27 (rv_cellA l8_12 (hS13.obj 4 rfl hc11) Try.underlying25 rfl (by kernel_rfl)) (rv_tmp l9_12)) hdf12 ?_
  -- leaf 
  exact ⟨_, H_10, _, rfl, hH_10, (hS13.fin4 0 rfl (hcR_10) 1 rfl (hcP_10) 2 rfl (hcQ_10) 3 rfl (hcG_10) (by decide))⟩

set_option maxHeartbeats 4000000 in
theorem kClear_c {ov : Value} {O : List Ob} {rv : Value} {rs : List Int} {a : Int} {w : World} (h_ov : Ro w NoX (rl 2 obC ov O)) (n_ov : Ro w NoX (nst O)) (h_rv : Ro w NoX (il .i64 rv rs)) (hsm : SM (O.map ab)) :
    Calls Try.prog 24 #[.agg #[ov, rv], .int .i64 a] w fun e w' => ∃ hv H qv, e = .returned (.tuple #[.agg #[hv, qv], .int .i64 (ckd (O.map ab) rs [a])]) ∧ (H.map ab = (kpO (O.map ab) rs [a])) ∧ St w NoX [ro 2 obC hv H, owl .i64 (H.map (·.1)), owl .u64 (H.map (·.2)), io .i64 (qv) (clR (O.map ab) rs a)] w' := by
  refine calls_in 13 Try.func24 rfl rfl (by simp) (fun A0 hsz0 hdf0 hargs => ?_)
  have l0_0 := hargs 0 (.agg #[ov, rv]) rfl
  have l1_0 := hargs 1 (.int .i64 a) rfl
  clear hargs; replace hsz0 : SzN A0 13 := ⟨hsz0⟩
  have hS := St.nil w
  have bh_ov := SlN.le (sl_SlN h_ov.at)
  have bh_rv := SlN.le (sl_SlN h_rv.at)
  refine wp_seq_k (fun K1 hK1 => ?_)
  refine region_in ?_
  refine W_boxS (zs := #[ov, rv]) hS rfl rfl rfl l0_0 (by rfl) (fun g2 w2 c2 hc2 hS2 => ?_)
  replace hS2 : St w NoX [c2] w2 := hS2
  refine W_boxS (zs := #[.int .i64 (a)]) hS2 rfl rfl rfl (es rfl l1_0) (by rfl) (fun g3 w3 c3 hc3 hS3 => ?_)
  replace hS3 : St w NoX [c3, c2] w3 := hS3
  refine W_allocS (z := .agg #[.slice none 0 0, .slice none 0 0]) (zs := #[.slice none 0 0, .slice none 0 0]) hS3 rfl rfl rfl (by kernel_rfl) (by rfl) (fun g4 w4 c4 hc4 hS4 => ?_)
  replace hS4 : St w NoX [c4, c3, c2] w4 := hS4
  refine W_v rfl rfl (V_asg rfl rfl) ?_
  refine W_end ?_
  refine gen_Q (fun A5 hA5 => ?_)
  have hsz5 := szq hA5
  have hdf5 : A5.defers = [] := by rw [hA5]; simp only [df_put]; exact hdf0
  have l2_5 := lookE hA5 2 (e3 rfl (et rfl))
  have l3_5 := lookE hA5 3 (e2 rfl (et rfl))
  have l4_5 := lookE hA5 4 (es rfl (et rfl))
  clear hA5 hsz0 hdf0 l0_0 l1_0
  refine then_n (hK1 _ _ ?_)
  clear hK1
  refine wp_seq_k (fun K6 hK6 => ?_)
  refine region_in ?_
  refine W_r rfl rfl (VR_ldA rfl l2_5 (hS4.obj 2 rfl hc2) Try.underlying25 rfl (by kernel_rfl)) ?_
  refine W_v rfl rfl (V_mkf rfl (args0) (args1 (es rfl l3_5))) ?_
  refine W_r rfl rfl (VR_ldC rfl (es rfl (es rfl l3_5)) (cell_box (v := .int .i64 (a)) (hS4.obj 1 rfl hc3) rfl) Try.underlying3 rfl) ?_
  have hll7 : [a].length = 1 := rfl
  refine W_litS (vs := [.int .i64 (a)]) (xs := ([a].map (Value.int .i64))) 1 hS4 rfl rfl rfl (parts1 (et rfl)) rfl Try.underlying23 (by kernel_rfl) (by decide) (by intro v hv; simp only [List.mem_cons, List.not_mem_nil, or_false] at hv; rcases hv with rfl <;> rfl) (by rfl) (fun g7 w7 c7 hc7 hS7 => ?_)
  replace hc7 : c7 = io .i64 (.slice (some ⟨g7, 0, none⟩) 1 1) [a] := hc7
  replace hS7 : St w NoX [c7, c4, c3, c2] w7 := hS7
  refine W_call rfl rfl rfl Try.func51 (by kernel_rfl) rfl (args3 (e3 rfl (et rfl)) (e2 rfl (et rfl)) (et rfl)) (kchClear_c (a := a) (ga := g3) (hS7.roC h_ov) (hS7.roC n_ov) (hS7.roC h_rv) (hS7.chC 2 rfl hc3) (hS7.chC 0 rfl hc7).own (by first | with_reducible assumption) (rfl)) ?_
  rintro _ w8 ⟨hv_8, H_8, qv_8, rfl, hH_8, hP8⟩
  refine ⟨_, rfl, ?_⟩
  obtain ⟨cR_8, cP_8, cQ_8, cG_8, hcR_8, hcP_8, hcQ_8, hcG_8, hP8⟩ := gen4 hP8
  have hS8 := hS7.join hP8
  replace hS8 : St w NoX [cR_8, cP_8, cQ_8, cG_8, c7, c4, c3, c2] w8 := hS8
  refine W_v rfl rfl (V_ext (v := .agg #[hv_8, qv_8]) rfl (et rfl) rfl) ?_
  refine W_v rfl rfl (V_ext (v := .int .i64 ((ckd (O.map ab) rs [a]))) rfl (es rfl (et rfl)) rfl) ?_
  refine W_stAS 5 hS8 rfl hc4 rfl rfl rfl (e6 rfl (es rfl l4_5)) (es rfl (et rfl)) (by simp only [List.all_toArray, List.all_cons, List.all_nil, SlN_one (ow_at (hS8.chq 0 rfl hcR_8)), SlN_one (ow_at (hS8.chq 3 rfl hcG_8))] <;> rfl) (by rfl) (by kernel_rfl) (fun w9 c9 hc9 hS9 => ?_)
  replace hS9 : St w NoX [cR_8, cP_8, cQ_8, cG_8, c7, c9, c3, c2] w9 := hS9
  refine W_v rfl rfl (V_asg rfl (et rfl)) ?_
  refine W_end ?_
  refine gen_Q (fun A10 hA10 => ?_)
  have hsz10 := szq hA10
  have hdf10 : A10.defers = [] := by rw [hA10]; simp only [df_put]; exact hdf5
  have l4_10 := lookE hA10 4 (e7 rfl (es rfl l4_5))
  have l5_10 := lookE hA10 5 (et rfl)
  clear hA10 hsz5 hdf5 l2_5 l3_5 l4_5
  have hS11 : St w NoX [cR_8, cP_8, cQ_8, cG_8, c9] w9 := hS9.sel [0, 1, 2, 3, 5] (by decide) rfl
  refine then_n (hK6 _ _ ?_)
  clear hK6
  refine wp_ret ?_
  refine ret_in (results_2 Try.results24 (rv_cellA l4_10 (hS11.obj 4 rfl hc9) Try.underlying25 rfl (by kernel_rfl)) (rv_tmp l5_10)) hdf10 ?_
  -- leaf 
  exact ⟨_, H_8, _, rfl, hH_8, (hS11.fin4 0 rfl (hcR_8) 1 rfl (hcP_8) 2 rfl (hcQ_8) 3 rfl (hcG_8) (by decide))⟩

end Go.Proofs.Ytdilbnmaihmgnaa