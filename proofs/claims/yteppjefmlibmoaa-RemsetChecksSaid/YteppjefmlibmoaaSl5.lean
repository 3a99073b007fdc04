import Derived.Test.YteppjefmlibmoaaProg
import Derived.Test.YteppjefmlibmoaaSl4
namespace Go.Proofs.Yteppjefmlibmoaa
open Go.RowKit Go.Own Go.Own.R Go.Own.S


set_option maxHeartbeats 4000000 in
theorem kch_c {cv : Value} {c : List Int} {a : Int} {w : World} (h_cv : Ro w NoX (il .i64 cv c))  :
  Calls Try.prog 114 #[.agg #[cv], .int .i64 a] w fun e w' => e = .returned (.int .i64 (chE c a)) ∧ St w NoX [] w' := by
 refine calls_in 18 Try.func114 rfl rfl (by simp) (fun A0 hsz0 hdf0 hargs => ?_)
 have l0_0 := hargs 0 (.agg #[cv]) rfl
 have l1_0 := hargs 1 (.int .i64 a) rfl
 clear hargs; replace hsz0 : SzN A0 18 := ⟨hsz0⟩
 have hS := St.nil w
 have bh_cv := SlN.le (sl_SlN h_cv.at)
 refine wp_seq_k fun K1 hK1 => ?_
 refine region_in ?_
 refine W_boxS (zs := #[cv]) hS rfl rfl rfl l0_0 (by rfl) (fun g2 w2 c2 hc2 hS2 => ?_)
 replace hS2 : St w NoX [c2] w2 := hS2
 refine W_v rfl rfl (V_asg rfl rfl) ?_
 refine W_end (gen_Q fun A3 hA3 => ?_)
 have hsz3 := szq hA3
 have hdf3 := dfE hA3 hdf0
 have l1_3 := ek2 hA3 1 rfl l1_0
 have l2_3 := lookE hA3 2 (es rfl (et rfl))
 clear hA3 hsz0 hdf0 l0_0 l1_0
 refine then_n (hK1 _ _ ?_)
 clear hK1
 refine wp_seq_k fun K4 hK4 => ?_
 refine wp_seq_k fun K5 hK5 => ?_
 refine region_in ?_
 refine W_r rfl rfl (VR_ldA rfl l2_3 (hS2.obj 0 rfl hc2) Try.underlying27 rfl (by kernel_rfl)) ?_
 refine W_call rfl rfl rfl Try.func42 (by kernel_rfl) rfl (args1 (et rfl)) (kCk_c (hS2.roC h_cv) ) ?_
 rintro _ w6 ⟨rfl, hP6⟩
 refine ⟨_, rfl, ?_⟩
 have hS6 := hS2.join hP6
 replace hS6 : St w NoX [c2] w6 := hS6
 refine W_v rfl rfl (V_mov rfl (et rfl)) ?_
 refine W_v rfl rfl (V_ext (v := .int .i64 ((ckS c).1)) rfl (et rfl) rfl) ?_
 refine W_v rfl rfl (V_ext (v := .int .i64 ((ckS c).2)) rfl (es rfl (et rfl)) rfl) ?_
 refine W_v rfl rfl (V_asg rfl (es rfl (et rfl))) ?_
 refine W_v rfl rfl (V_asg rfl (es rfl (et rfl))) ?_
 refine W_end (gen_Q fun A7 hA7 => ?_)
 have hsz7 := szq hA7
 have hdf7 := dfE hA7 hdf3
 have l1_7 := ek7 hA7 1 rfl l1_3
 have l6_7 := lookE hA7 6 (et rfl)
 clear hA7 hsz3 hdf3 l1_3 l2_3
 have hS8 : St w NoX [] w6 := hS6.sel [] (by decide) rfl
 refine then_n (hK5 _ _ ?_)
 clear hK5
 refine wp_seq_k fun K9 hK9 => ?_
 refine region_in ?_
 refine W_v rfl rfl (V_mov rfl l6_7) ?_
 refine W_v rfl rfl (V_neq rfl (et rfl) rfl) ?_
 refine W_end (gen_Q fun A10 hA10 => ?_)
 have hsz10 := szq hA10
 have hdf10 := dfE hA10 hdf7
 have l1_10 := ek2 hA10 1 rfl l1_7
 have l6_10 := ek2 hA10 6 rfl l6_7
 have l13_10 := lookE hA10 13 (et rfl)
 clear hA10 hsz7 hdf7 l1_7 l6_7
 refine then_n (hK9 _ _ ?_)
 clear hK9
 refine cond_dec l13_10 (fun c11 => ?_) (fun c11 => ?_)
 ·refine wp_seq_k fun K12 hK12 => ?_
  refine region_in ?_
  refine W_v rfl rfl (V_mov rfl l6_10) ?_
  refine W_v rfl rfl (V_asg rfl (et rfl)) ?_
  refine W_end (gen_Q fun A13 hA13 => ?_)
  have hsz13 := szq hA13
  have hdf13 := dfE hA13 hdf10
  have l4_13 := lookE hA13 4 (et rfl)
  clear hA13 hsz10 hdf10 l1_10 l6_10 l13_10
  refine then_n (hK12 _ _ ?_)
  clear hK12
  refine wp_ret ?_
  refine then_ret ?_
  refine ret_in (results_1 Try.results114 (rv_tmp l4_13)) hdf13 ?_
  have h : chE c a = (ckS c).2 := (chE_ck (by omega))
  rw [h]
  exact ⟨rfl, hS8.fin0⟩
 ·refine wp_skip ?_
  refine then_n (hK4 _ _ ?_)
  clear hK4
  refine wp_seq_k fun K14 hK14 => ?_
  refine wp_seq_k fun K15 hK15 => ?_
  refine region_in ?_
  refine W_v rfl rfl (V_mov rfl l1_10) ?_
  refine W_call rfl rfl rfl Try.func125 (by kernel_rfl) rfl (args1 (et rfl)) (kadr_c (a := a)  ) ?_
  rintro _ w16 ⟨rfl, hP16⟩
  refine ⟨_, rfl, ?_⟩
  have hS16 := hS8.join hP16
  replace hS16 : St w NoX [] w16 := hS16
  refine W_v rfl rfl (V_notd rfl (et rfl)) ?_
  refine W_end (gen_Q fun A17 hA17 => ?_)
  have hsz17 := szq hA17
  have hdf17 := dfE hA17 hdf10
  have l17_17 := lookE hA17 17 (et rfl)
  clear hA17 hsz10 hdf10 l1_10 l6_10 l13_10
  refine then_n (hK15 _ _ ?_)
  clear hK15
  refine cond_dec l17_17 (fun c18 => ?_) (fun c18 => ?_)
  ·refine wp_seq_k fun K19 hK19 => ?_
   refine region_in ?_
   refine W_v rfl rfl (V_asg rfl rfl) ?_
   refine W_end (gen_Q fun A20 hA20 => ?_)
   have hsz20 := szq hA20
   have hdf20 := dfE hA20 hdf17
   have l4_20 := lookE hA20 4 (et rfl)
   clear hA20 hsz17 hdf17 l17_17
   refine then_n (hK19 _ _ ?_)
   clear hK19
   refine wp_ret ?_
   refine then_ret ?_
   refine ret_in (results_1 Try.results114 (rv_tmp l4_20)) hdf20 ?_
   have h : chE c a = 7 := chE_rg (by omega) (by have hc := c18; simpa using hc)
   rw [h]
   exact ⟨rfl, hS16.fin0⟩
  ·refine wp_skip ?_
   refine then_n (hK14 _ _ ?_)
   clear hK14
   refine wp_seq_k fun K21 hK21 => ?_
   refine region_in ?_
   refine W_v rfl rfl (V_asg rfl rfl) ?_
   refine W_end (gen_Q fun A22 hA22 => ?_)
   have hsz22 := szq hA22
   have hdf22 := dfE hA22 hdf17
   have l4_22 := lookE hA22 4 (et rfl)
   clear hA22 hsz17 hdf17 l17_17
   refine then_n (hK21 _ _ ?_)
   clear hK21
   refine wp_ret ?_
   refine ret_in (results_1 Try.results114 (rv_tmp l4_22)) hdf22 ?_
   have h : chE c a = 0 := chE_ok (by omega) (by have hc := c18; simpa using hc)
   rw [h]
   exact ⟨rfl, hS16.fin0⟩

set_option maxHeartbeats 4000000 in
theorem kAdd_c {cv : Value} {c : List Int} {a : Int} {w : World} (h_cv : Ro w NoX (il .i64 cv c))  :
  Calls Try.prog 87 #[.agg #[cv], .int .i64 a] w fun e w' => ∃ v, e = .returned (.tuple #[.agg #[v], .bool (adB c a), .int .i64 (chE c a)]) ∧ St w NoX [io .i64 (v) (adT c a)] w' := by
 refine calls_in 28 Try.func87 rfl rfl (by simp) (fun A0 hsz0 hdf0 hargs => ?_)
 have l0_0 := hargs 0 (.agg #[cv]) rfl
 have l1_0 := hargs 1 (.int .i64 a) rfl
 clear hargs; replace hsz0 : SzN A0 28 := ⟨hsz0⟩
 have hS := St.nil w
 have bh_cv := SlN.le (sl_SlN h_cv.at)
 refine wp_seq_k fun K1 hK1 => ?_
 refine region_in ?_
 refine W_boxS (zs := #[cv]) hS rfl rfl rfl l0_0 (by rfl) (fun g2 w2 c2 hc2 hS2 => ?_)
 replace hS2 : St w NoX [c2] w2 := hS2
 refine W_allocS (z := .agg #[.slice none 0 0]) (zs := #[.slice none 0 0]) hS2 rfl rfl rfl (by kernel_rfl) (by rfl) (fun g3 w3 c3 hc3 hS3 => ?_)
 replace hS3 : St w NoX [c3, c2] w3 := hS3
 refine W_v rfl rfl (V_asg rfl rfl) ?_
 refine W_v rfl rfl (V_asg rfl rfl) ?_
 refine W_end (gen_Q fun A4 hA4 => ?_)
 have hsz4 := szq hA4
 have hdf4 := dfE hA4 hdf0
 have l1_4 := ek4 hA4 1 rfl l1_0
 have l2_4 := lookE hA4 2 (e3 rfl (et rfl))
 have l4_4 := lookE hA4 4 (e2 rfl (et rfl))
 clear hA4 hsz0 hdf0 l0_0 l1_0
 refine then_n (hK1 _ _ ?_)
 clear hK1
 refine wp_seq_k fun K5 hK5 => ?_
 refine wp_seq_k fun K6 hK6 => ?_
 refine region_in ?_
 refine W_r rfl rfl (VR_ldA rfl l2_4 (hS3.obj 1 rfl hc2) Try.underlying27 rfl (by kernel_rfl)) ?_
 refine W_v rfl rfl (V_mov rfl (es rfl l1_4)) ?_
 refine W_call rfl rfl rfl Try.func114 (by kernel_rfl) rfl (args2 (es rfl (et rfl)) (et rfl)) (kch_c (a := a) (hS3.roC h_cv) ) ?_
 rintro _ w7 ⟨rfl, hP7⟩
 refine ⟨_, rfl, ?_⟩
 have hS7 := hS3.join hP7
 replace hS7 : St w NoX [c3, c2] w7 := hS7
 refine W_v rfl rfl (V_asg rfl (et rfl)) ?_
 refine W_end (gen_Q fun A8 hA8 => ?_)
 have hsz8 := szq hA8
 have hdf8 := dfE hA8 hdf4
 have l1_8 := ek4 hA8 1 rfl l1_4
 have l2_8 := ek4 hA8 2 rfl l2_4
 have l4_8 := ek4 hA8 4 rfl l4_4
 have l7_8 := lookE hA8 7 (et rfl)
 clear hA8 hsz4 hdf4 l1_4 l2_4 l4_4
 refine then_n (hK6 _ _ ?_)
 clear hK6
 refine wp_seq_k fun K9 hK9 => ?_
 refine region_in ?_
 refine W_v rfl rfl (V_mov rfl l7_8) ?_
 refine W_v rfl rfl (V_neq rfl (et rfl) rfl) ?_
 refine W_end (gen_Q fun A10 hA10 => ?_)
 have hsz10 := szq hA10
 have hdf10 := dfE hA10 hdf8
 have l1_10 := ek2 hA10 1 rfl l1_8
 have l2_10 := ek2 hA10 2 rfl l2_8
 have l4_10 := ek2 hA10 4 rfl l4_8
 have l7_10 := ek2 hA10 7 rfl l7_8
 have l13_10 := lookE hA10 13 (et rfl)
 clear hA10 hsz8 hdf8 l1_8 l2_8 l4_8 l7_8
 refine then_n (hK9 _ _ ?_)
 clear hK9
 refine cond_dec l13_10 (fun c11 => ?_) (fun c11 => ?_)
 ·refine wp_seq_k fun K12 hK12 => ?_
  refine region_in ?_
  refine W_v rfl rfl (V_bldS (n := 1) (z := .agg #[.slice none 0 0]) rfl (parts0) (by kernel_rfl) (by simp only [List.all_cons, List.all_nil, Bool.and_true] <;> rfl) (by kernel_rfl) (by simp only [List.foldl_cons, List.foldl_nil, Value.cells, List.setIfInBounds_toArray, List.set_cons_succ, List.set_cons_zero] <;> rfl)) ?_
  refine W_v rfl rfl (V_mov rfl (es rfl l7_10)) ?_
  refine W_stAS 0 hS7 rfl hc3 rfl rfl rfl (e2 rfl l4_10) (es rfl (et rfl)) (by first | (rw [List.all_toArray] <;> rfl) | (simp only [List.all_toArray, List.all_cons, List.all_nil] <;> rfl)) (by rfl) (by kernel_rfl) (fun w13 c13 hc13 hS13 => ?_)
  replace hS13 : St w NoX [c13, c2] w13 := hS13
  refine W_v rfl rfl (V_asg rfl rfl) ?_
  refine W_v rfl rfl (V_asg rfl (es rfl (et rfl))) ?_
  refine W_end (gen_Q fun A14 hA14 => ?_)
  have hsz14 := szq hA14
  have hdf14 := dfE hA14 hdf10
  have l4_14 := ek4 hA14 4 rfl l4_10
  have l5_14 := lookE hA14 5 (es rfl (et rfl))
  have l6_14 := lookE hA14 6 (et rfl)
  clear hA14 hsz10 hdf10 l1_10 l2_10 l4_10 l7_10 l13_10
  have hS15 : St w NoX [c13] w13 := hS13.sel [0] (by decide) rfl
  refine then_n (hK12 _ _ ?_)
  clear hK12
  refine wp_ret ?_
  refine then_ret ?_
  refine ret_in (results_3 Try.results87 (rv_cellA l4_14 (hS15.obj 0 rfl hc13) Try.underlying27 rfl (by kernel_rfl)) (rv_tmp l5_14) (rv_tmp l6_14)) hdf14 ?_
  obtain ⟨c16, hc16, hS16⟩ := hS15.pnil (s := 1)
  have r0 : adB c a = false := by unfold adB; exact decide_eq_false (by omega)
  have r1 : chE c a = (chE c a) := by omega
  rw [r0, r1]
  exact ⟨_, rfl, (hS16.fin1 0 rfl (hc16.trans (by rw [show adT c a = [] by unfold adT; rw [if_pos (by omega)]] <;> rfl)))⟩
 ·obtain ⟨hG, ha⟩ := ch0 (c := c) (a := a) (by omega)
  have hpb := hG.bd
  have hh : chE c a = 0 := by omega
  refine wp_skip ?_
  refine then_n (hK5 _ _ ?_)
  clear hK5
  refine wp_seq_k fun K17 hK17 => ?_
  refine region_in ?_
  refine W_r rfl rfl (VR_ldA rfl l2_10 (hS7.obj 1 rfl hc2) Try.underlying27 rfl (by kernel_rfl)) ?_
  refine W_call rfl rfl rfl Try.func81 (by kernel_rfl) rfl (args1 (et rfl)) (kown_c (hS7.roC h_cv) (by first | omega | with_reducible assumption)) ?_
  rintro _ w18 ⟨v_18, rfl, hP18⟩
  refine ⟨_, rfl, ?_⟩
  obtain ⟨c_18, hc_18, hP18⟩ := gen1 hP18
  have hS18 := hS7.join hP18
  replace hS18 : St w NoX [c_18, c3, c2] w18 := hS18
  refine W_v rfl rfl (V_asg rfl (et rfl)) ?_
  refine W_end (gen_Q fun A19 hA19 => ?_)
  have hsz19 := szq hA19
  have hdf19 := dfE hA19 hdf10
  have l1_19 := ek3 hA19 1 rfl l1_10
  have l4_19 := ek3 hA19 4 rfl l4_10
  have l8_19 := lookE hA19 8 (et rfl)
  clear hA19 hsz10 hdf10 l1_10 l2_10 l4_10 l7_10 l13_10
  have hS20 : St w NoX [c_18, c3] w18 := hS18.sel [0, 1] (by decide) rfl
  refine then_n (hK17 _ _ ?_)
  clear hK17
  refine wp_seq_k fun K21 hK21 => ?_
  refine wp_seq_k fun K22 hK22 => ?_
  refine region_in ?_
  refine W_v rfl rfl (V_mov rfl l8_19) ?_
  refine W_v rfl rfl (V_mov rfl (es rfl l1_19)) ?_
  refine W_call rfl rfl rfl Try.func115 (by kernel_rfl) rfl (args2 (es rfl (et rfl)) (et rfl)) (kfind_c (a := a) (hS20.chC 0 rfl hc_18).own (by first | with_reducible assumption | with_reducible exact hG.p2 | with_reducible exact hG2.p2 | (rw [hbl]; exact n1) | (simp only [List.length_set, List.length_replicate] <;> assumption)) (by first | omega | with_reducible assumption)) ?_
  rintro _ w23 ⟨rfl, hP23⟩
  refine ⟨_, rfl, ?_⟩
  have hS23 := hS20.join hP23
  replace hS23 : St w NoX [c_18, c3] w23 := hS23
  refine W_v rfl rfl (V_geq rfl (et rfl) rfl) ?_
  refine W_end (gen_Q fun A24 hA24 => ?_)
  have hsz24 := szq hA24
  have hdf24 := dfE hA24 hdf19
  have l1_24 := ek4 hA24 1 rfl l1_19
  have l4_24 := ek4 hA24 4 rfl l4_19
  have l8_24 := ek4 hA24 8 rfl l8_19
  have l21_24 := lookE hA24 21 (et rfl)
  clear hA24 hsz19 hdf19 l1_19 l4_19 l8_19
  refine then_n (hK22 _ _ ?_)
  clear hK22
  refine cond_dec l21_24 (fun c25 => ?_) (fun c25 => ?_)
  ·refine wp_seq_k fun K26 hK26 => ?_
   refine region_in ?_
   refine W_v rfl rfl (V_mov rfl l8_24) ?_
   refine W_v rfl rfl (V_bldS (n := 1) (z := .agg #[.slice none 0 0]) rfl (parts1 (et rfl)) (by kernel_rfl) (by simp only [List.all_cons, List.all_nil, SlN_one (ow_at (hS23.chq 0 rfl hc_18)), Bool.and_true] <;> rfl) (by kernel_rfl) (by simp only [List.foldl_cons, List.foldl_nil, Value.cells, List.setIfInBounds_toArray, List.set_cons_succ, List.set_cons_zero] <;> rfl)) ?_
   refine W_stAS 1 hS23 rfl hc3 rfl rfl rfl (e2 rfl l4_24) (et rfl) (by simp only [List.all_toArray, List.all_cons, List.all_nil, SlN_one (ow_at (hS23.chq 0 rfl hc_18))] <;> rfl) (by rfl) (by kernel_rfl) (fun w27 c27 hc27 hS27 => ?_)
   replace hS27 : St w NoX [c_18, c27] w27 := hS27
   refine W_v rfl rfl (V_asg rfl rfl) ?_
   refine W_v rfl rfl (V_asg rfl rfl) ?_
   refine W_end (gen_Q fun A28 hA28 => ?_)
   have hsz28 := szq hA28
   have hdf28 := dfE hA28 hdf24
   have l4_28 := ek4 hA28 4 rfl l4_24
   have l5_28 := lookE hA28 5 (es rfl (et rfl))
   have l6_28 := lookE hA28 6 (et rfl)
   clear hA28 hsz24 hdf24 l1_24 l4_24 l8_24 l21_24
   refine then_n (hK26 _ _ ?_)
   clear hK26
   refine wp_ret ?_
   refine then_ret ?_
   refine ret_in (results_3 Try.results87 (rv_cellA l4_28 (hS27.obj 1 rfl hc27) Try.underlying27 rfl (by kernel_rfl)) (rv_tmp l5_28) (rv_tmp l6_28)) hdf28 ?_
   have r0 : adB c a = false := by unfold adB; exact decide_eq_false (by omega)
   have r1 : chE c a = 0 := by omega
   rw [r0, r1]
   exact ⟨_, rfl, (hS27.fin1 0 rfl (hc_18.trans (congrArg (io .i64 _) (by unfold adT; rw [if_neg (by omega), if_pos (by omega)]))))⟩
  ·refine wp_skip ?_
   refine then_n (hK21 _ _ ?_)
   clear hK21
   refine wp_seq_k fun K29 hK29 => ?_
   refine region_in ?_
   refine W_v rfl rfl (V_mov rfl l8_24) ?_
   refine W_v rfl rfl (V_mov rfl (es rfl l1_24)) ?_
   obtain ⟨Y30, hP30, hR30, hF30, hB30⟩ := St.call (pre := [c_18]) (fr := [c3]) hS23
   rw [hc_18] at hP30
   refine W_call rfl rfl rfl Try.func116 (by kernel_rfl) rfl (args2 (es rfl (et rfl)) (et rfl)) (kadd_c (a := a)  hP30 (by first | with_reducible assumption | with_reducible exact gd_new) (by first | omega | with_reducible assumption) (by first | with_reducible assumption | exact fnd_not (by assumption) (by omega) (by omega))) ?_
   rintro _ w31 ⟨v_31, rfl, hP31⟩
   refine ⟨_, rfl, ?_⟩
   obtain ⟨c_31, hc_31, hP31⟩ := gen1 hP31
   have hS31 := hB30 _ _ hP31
   replace hS31 : St w NoX [c_31, c3] w31 := hS31
   refine W_v rfl rfl (V_bldS (n := 1) (z := .agg #[.slice none 0 0]) rfl (parts1 (et rfl)) (by kernel_rfl) (by simp only [List.all_cons, List.all_nil, SlN_one (ow_at (hS31.chq 0 rfl hc_31)), Bool.and_true] <;> rfl) (by kernel_rfl) (by simp only [List.foldl_cons, List.foldl_nil, Value.cells, List.setIfInBounds_toArray, List.set_cons_succ, List.set_cons_zero] <;> rfl)) ?_
   refine W_stAS 1 hS31 rfl hc3 rfl rfl rfl (e4 rfl l4_24) (et rfl) (by simp only [List.all_toArray, List.all_cons, List.all_nil, SlN_one (ow_at (hS31.chq 0 rfl hc_31))] <;> rfl) (by rfl) (by kernel_rfl) (fun w32 c32 hc32 hS32 => ?_)
   replace hS32 : St w NoX [c_31, c32] w32 := hS32
   refine W_v rfl rfl (V_asg rfl rfl) ?_
   refine W_v rfl rfl (V_asg rfl rfl) ?_
   refine W_end (gen_Q fun A33 hA33 => ?_)
   have hsz33 := szq hA33
   have hdf33 := dfE hA33 hdf24
   have l4_33 := ek6 hA33 4 rfl l4_24
   have l5_33 := lookE hA33 5 (es rfl (et rfl))
   have l6_33 := lookE hA33 6 (et rfl)
   clear hA33 hsz24 hdf24 l1_24 l4_24 l8_24 l21_24
   refine then_n (hK29 _ _ ?_)
   clear hK29
   refine wp_ret ?_
   refine ret_in (results_3 Try.results87 (rv_cellA l4_33 (hS32.obj 1 rfl hc32) Try.underlying27 rfl (by kernel_rfl)) (rv_tmp l5_33) (rv_tmp l6_33)) hdf33 ?_
   have r0 : adB c a = true := by unfold adB; exact decide_eq_true (by omega)
   have r1 : chE c a = 0 := by omega
   rw [r0, r1]
   exact ⟨_, rfl, (hS32.fin1 0 rfl (hc_31.trans (congrArg (io .i64 _) (by unfold adT; rw [if_neg (by omega), if_neg (by omega)]))))⟩

set_option maxHeartbeats 4000000 in
theorem kDrop_c {cv : Value} {c : List Int} {a : Int} {w : World} (h_cv : Ro w NoX (il .i64 cv c))  :
  Calls Try.prog 88 #[.agg #[cv], .int .i64 a] w fun e w' => ∃ v, e = .returned (.tuple #[.agg #[v], .bool (hsB c a), .int .i64 (chE c a)]) ∧ St w NoX [io .i64 (v) (drT c a)] w' := by
 refine calls_in 31 Try.func88 rfl rfl (by simp) (fun A0 hsz0 hdf0 hargs => ?_)
 have l0_0 := hargs 0 (.agg #[cv]) rfl
 have l1_0 := hargs 1 (.int .i64 a) rfl
 clear hargs; replace hsz0 : SzN A0 31 := ⟨hsz0⟩
 have hS := St.nil w
 have bh_cv := SlN.le (sl_SlN h_cv.at)
 refine wp_seq_k fun K1 hK1 => ?_
 refine region_in ?_
 refine W_boxS (zs := #[cv]) hS rfl rfl rfl l0_0 (by rfl) (fun g2 w2 c2 hc2 hS2 => ?_)
 replace hS2 : St w NoX [c2] w2 := hS2
 refine W_allocS (z := .agg #[.slice none 0 0]) (zs := #[.slice none 0 0]) hS2 rfl rfl rfl (by kernel_rfl) (by rfl) (fun g3 w3 c3 hc3 hS3 => ?_)
 replace hS3 : St w NoX [c3, c2] w3 := hS3
 refine W_v rfl rfl (V_asg rfl rfl) ?_
 refine W_v rfl rfl (V_asg rfl rfl) ?_
 refine W_end (gen_Q fun A4 hA4 => ?_)
 have hsz4 := szq hA4
 have hdf4 := dfE hA4 hdf0
 have l1_4 := ek4 hA4 1 rfl l1_0
 have l2_4 := lookE hA4 2 (e3 rfl (et rfl))
 have l4_4 := lookE hA4 4 (e2 rfl (et rfl))
 clear hA4 hsz0 hdf0 l0_0 l1_0
 refine then_n (hK1 _ _ ?_)
 clear hK1
 refine wp_seq_k fun K5 hK5 => ?_
 refine wp_seq_k fun K6 hK6 => ?_
 refine region_in ?_
 refine W_r rfl rfl (VR_ldA rfl l2_4 (hS3.obj 1 rfl hc2) Try.underlying27 rfl (by kernel_rfl)) ?_
 refine W_v rfl rfl (V_mov rfl (es rfl l1_4)) ?_
 refine W_call rfl rfl rfl Try.func114 (by kernel_rfl) rfl (args2 (es rfl (et rfl)) (et rfl)) (kch_c (a := a) (hS3.roC h_cv) ) ?_
 rintro _ w7 ⟨rfl, hP7⟩
 refine ⟨_, rfl, ?_⟩
 have hS7 := hS3.join hP7
 replace hS7 : St w NoX [c3, c2] w7 := hS7
 refine W_v rfl rfl (V_asg rfl (et rfl)) ?_
 refine W_end (gen_Q fun A8 hA8 => ?_)
 have hsz8 := szq hA8
 have hdf8 := dfE hA8 hdf4
 have l1_8 := ek4 hA8 1 rfl l1_4
 have l2_8 := ek4 hA8 2 rfl l2_4
 have l4_8 := ek4 hA8 4 rfl l4_4
 have l7_8 := lookE hA8 7 (et rfl)
 clear hA8 hsz4 hdf4 l1_4 l2_4 l4_4
 refine then_n (hK6 _ _ ?_)
 clear hK6
 refine wp_seq_k fun K9 hK9 => ?_
 refine region_in ?_
 refine W_v rfl rfl (V_mov rfl l7_8) ?_
 refine W_v rfl rfl (V_neq rfl (et rfl) rfl) ?_
 refine W_end (gen_Q fun A10 hA10 => ?_)
 have hsz10 := szq hA10
 have hdf10 := dfE hA10 hdf8
 have l1_10 := ek2 hA10 1 rfl l1_8
 have l2_10 := ek2 hA10 2 rfl l2_8
 have l4_10 := ek2 hA10 4 rfl l4_8
 have l7_10 := ek2 hA10 7 rfl l7_8
 have l14_10 := lookE hA10 14 (et rfl)
 clear hA10 hsz8 hdf8 l1_8 l2_8 l4_8 l7_8
 refine then_n (hK9 _ _ ?_)
 clear hK9
 refine cond_dec l14_10 (fun c11 => ?_) (fun c11 => ?_)
 ·refine wp_seq_k fun K12 hK12 => ?_
  refine region_in ?_
  refine W_v rfl rfl (V_bldS (n := 1) (z := .agg #[.slice none 0 0]) rfl (parts0) (by kernel_rfl) (by simp only [List.all_cons, List.all_nil, Bool.and_true] <;> rfl) (by kernel_rfl) (by simp only [List.foldl_cons, List.foldl_nil, Value.cells, List.setIfInBounds_toArray, List.set_cons_succ, List.set_cons_zero] <;> rfl)) ?_
  refine W_v rfl rfl (V_mov rfl (es rfl l7_10)) ?_
  refine W_stAS 0 hS7 rfl hc3 rfl rfl rfl (e2 rfl l4_10) (es rfl (et rfl)) (by first | (rw [List.all_toArray] <;> rfl) | (simp only [List.all_toArray, List.all_cons, List.all_nil] <;> rfl)) (by rfl) (by kernel_rfl) (fun w13 c13 hc13 hS13 => ?_)
  replace hS13 : St w NoX [c13, c2] w13 := hS13
  refine W_v rfl rfl (V_asg rfl rfl) ?_
  refine W_v rfl rfl (V_asg rfl (es rfl (et rfl))) ?_
  refine W_end (gen_Q fun A14 hA14 => ?_)
  have hsz14 := szq hA14
  have hdf14 := dfE hA14 hdf10
  have l4_14 := ek4 hA14 4 rfl l4_10
  have l5_14 := lookE hA14 5 (es rfl (et rfl))
  have l6_14 := lookE hA14 6 (et rfl)
  clear hA14 hsz10 hdf10 l1_10 l2_10 l4_10 l7_10 l14_10
  have hS15 : St w NoX [c13] w13 := hS13.sel [0] (by decide) rfl
  refine then_n (hK12 _ _ ?_)
  clear hK12
  refine wp_ret ?_
  refine then_ret ?_
  refine ret_in (results_3 Try.results88 (rv_cellA l4_14 (hS15.obj 0 rfl hc13) Try.underlying27 rfl (by kernel_rfl)) (rv_tmp l5_14) (rv_tmp l6_14)) hdf14 ?_
  obtain ⟨c16, hc16, hS16⟩ := hS15.pnil (s := 1)
  have r0 : hsB c a = false := by unfold hsB; exact decide_eq_false (by omega)
  have r1 : chE c a = (chE c a) := by omega
  rw [r0, r1]
  exact ⟨_, rfl, (hS16.fin1 0 rfl (hc16.trans (by rw [show drT c a = [] by unfold drT; rw [if_pos (by omega)]] <;> rfl)))⟩
 ·obtain ⟨hG, ha⟩ := ch0 (c := c) (a := a) (by omega)
  have hpb := hG.bd
  have hh : chE c a = 0 := by omega
  have hfb := fnd_bd (c := c) (by omega) a
  refine wp_skip ?_
  refine then_n (hK5 _ _ ?_)
  clear hK5
  refine wp_seq_k fun K17 hK17 => ?_
  refine region_in ?_
  refine W_r rfl rfl (VR_ldA rfl l2_10 (hS7.obj 1 rfl hc2) Try.underlying27 rfl (by kernel_rfl)) ?_
  refine W_call rfl rfl rfl Try.func81 (by kernel_rfl) rfl (args1 (et rfl)) (kown_c (hS7.roC h_cv) (by first | omega | with_reducible assumption)) ?_
  rintro _ w18 ⟨v_18, rfl, hP18⟩
  refine ⟨_, rfl, ?_⟩
  obtain ⟨c_18, hc_18, hP18⟩ := gen1 hP18
  have hS18 := hS7.join hP18
  replace hS18 : St w NoX [c_18, c3, c2] w18 := hS18
  refine W_v rfl rfl (V_asg rfl (et rfl)) ?_
  refine W_end (gen_Q fun A19 hA19 => ?_)
  have hsz19 := szq hA19
  have hdf19 := dfE hA19 hdf10
  have l1_19 := ek3 hA19 1 rfl l1_10
  have l4_19 := ek3 hA19 4 rfl l4_10
  have l8_19 := lookE hA19 8 (et rfl)
  clear hA19 hsz10 hdf10 l1_10 l2_10 l4_10 l7_10 l14_10
  have hS20 : St w NoX [c_18, c3] w18 := hS18.sel [0, 1] (by decide) rfl
  refine then_n (hK17 _ _ ?_)
  clear hK17
  refine wp_seq_k fun K21 hK21 => ?_
  refine region_in ?_
  refine W_v rfl rfl (V_mov rfl l8_19) ?_
  refine W_v rfl rfl (V_mov rfl (es rfl l1_19)) ?_
  refine W_call rfl rfl rfl Try.func115 (by kernel_rfl) rfl (args2 (es rfl (et rfl)) (et rfl)) (kfind_c (a := a) (hS20.chC 0 rfl hc_18).own (by first | with_reducible assumption | with_reducible exact hG.p2 | with_reducible exact hG2.p2 | (rw [hbl]; exact n1) | (simp only [List.length_set, List.length_replicate] <;> assumption)) (by first | omega | with_reducible assumption)) ?_
  rintro _ w22 ⟨rfl, hP22⟩
  refine ⟨_, rfl, ?_⟩
  have hS22 := hS20.join hP22
  replace hS22 : St w NoX [c_18, c3] w22 := hS22
  refine W_v rfl rfl (V_asg rfl (et rfl)) ?_
  refine W_end (gen_Q fun A23 hA23 => ?_)
  have hsz23 := szq hA23
  have hdf23 := dfE hA23 hdf19
  have l4_23 := ek4 hA23 4 rfl l4_19
  have l8_23 := ek4 hA23 8 rfl l8_19
  have l9_23 := lookE hA23 9 (et rfl)
  clear hA23 hsz19 hdf19 l1_19 l4_19 l8_19
  refine then_n (hK21 _ _ ?_)
  clear hK21
  refine wp_seq_k fun K24 hK24 => ?_
  refine wp_seq_k fun K25 hK25 => ?_
  refine region_in ?_
  refine W_v rfl rfl (V_mov rfl l9_23) ?_
  refine W_v rfl rfl (V_geq rfl (et rfl) rfl) ?_
  refine W_end (gen_Q fun A26 hA26 => ?_)
  have hsz26 := szq hA26
  have hdf26 := dfE hA26 hdf23
  have l4_26 := ek2 hA26 4 rfl l4_23
  have l8_26 := ek2 hA26 8 rfl l8_23
  have l9_26 := ek2 hA26 9 rfl l9_23
  have l23_26 := lookE hA26 23 (et rfl)
  clear hA26 hsz23 hdf23 l4_23 l8_23 l9_23
  refine then_n (hK25 _ _ ?_)
  clear hK25
  refine cond_dec l23_26 (fun c27 => ?_) (fun c27 => ?_)
  ·refine region_in ?_
   refine W_v rfl rfl (V_mov rfl l8_26) ?_
   refine W_v rfl rfl (V_mov rfl (es rfl l9_26)) ?_
   have k28 : (fnd c a).toNat < c.length := by first | omega | (simp only [List.length_cons, List.length_nil]; omega) | (simp only [List.length_set]; omega) | decide
   obtain ⟨y28, hy28⟩ := get_some (xs := c) (k := (fnd c a).toNat) k28
   obtain ⟨B28, O28, C28, hv28⟩ := (SlN.blk (ow_at (hS22.chq 0 rfl hc_18)) (by first | omega | (simp only [List.length_cons, List.length_nil]; omega) | (simp only [List.length_set]; omega) | decide))
   refine W_v rfl rfl (V_ixS (off := O28 + ((fnd c a).toNat)) 1 ((fnd c a).toNat) rfl (es rfl (et rfl)) (et rfl) hv28 (by omega) k28 Try.underlying25 (by kernel_rfl) (congrArg _ (Nat.mul_one _))) ?_
   refine W_stE 0 hS22 rfl hc_18 hv28 rfl rfl rfl (et rfl) rfl (by rfl) rfl (by first | (simp only [List.length_map]; omega) | omega) (by kernel_rfl) (fun w29 c29 hc29 hS29 => ?_)
   replace hc29 : c29 = io .i64 v_18 (c.set ((fnd c a).toNat) (-1)) := hc29.trans (by simp [io, bo, List.map_set] <;> rfl)
   replace hS29 : St w NoX [c29, c3] w29 := hS29
   refine W_end (gen_Q fun A30 hA30 => ?_)
   have hsz30 := szq hA30
   have hdf30 := dfE hA30 hdf26
   have l4_30 := ek3 hA30 4 rfl l4_26
   have l8_30 := ek3 hA30 8 rfl l8_26
   have l9_30 := ek3 hA30 9 rfl l9_26
   clear hA30 hsz26 hdf26 l4_26 l8_26 l9_26 l23_26
   refine then_n (hK24 _ _ ?_)
   clear hK24
   refine wp_seq_k fun K31 hK31 => ?_
   refine region_in ?_
   refine W_v rfl rfl (V_mov rfl l8_30) ?_
   refine W_v rfl rfl (V_bldS (n := 1) (z := .agg #[.slice none 0 0]) rfl (parts1 (et rfl)) (by kernel_rfl) (by simp only [List.all_cons, List.all_nil, SlN_one (ow_at (hS29.chq 0 rfl hc29)), Bool.and_true] <;> rfl) (by kernel_rfl) (by simp only [List.foldl_cons, List.foldl_nil, Value.cells, List.setIfInBounds_toArray, List.set_cons_succ, List.set_cons_zero] <;> rfl)) ?_
   refine W_v rfl rfl (V_mov rfl (e2 rfl l9_30)) ?_
   refine W_v rfl rfl (V_geq rfl (et rfl) rfl) ?_
   refine W_stAS 1 hS29 rfl hc3 rfl rfl rfl (e4 rfl l4_30) (e2 rfl (et rfl)) (by simp only [List.all_toArray, List.all_cons, List.all_nil, SlN_one (ow_at (hS29.chq 0 rfl hc29))] <;> rfl) (by rfl) (by kernel_rfl) (fun w32 c32 hc32 hS32 => ?_)
   replace hS32 : St w NoX [c29, c32] w32 := hS32
   refine W_v rfl rfl (V_asg rfl (et rfl)) ?_
   refine W_v rfl rfl (V_asg rfl rfl) ?_
   refine W_end (gen_Q fun A33 hA33 => ?_)
   have hsz33 := szq hA33
   have hdf33 := dfE hA33 hdf30
   have l4_33 := ek6 hA33 4 rfl l4_30
   have l5_33 := lookE hA33 5 (es rfl (et rfl))
   have l6_33 := lookE hA33 6 (et rfl)
   clear hA33 hsz30 hdf30 l4_30 l8_30 l9_30
   refine then_n (hK31 _ _ ?_)
   clear hK31
   refine wp_ret ?_
   refine ret_in (results_3 Try.results88 (rv_cellA l4_33 (hS32.obj 1 rfl hc32) Try.underlying27 rfl (by kernel_rfl)) (rv_tmp l5_33) (rv_tmp l6_33)) hdf33 ?_
   have r0 : hsB c a = decide (0 ≤ (fnd c a)) := by unfold hsB; exact decide_eq_decide.2 (by omega)
   have r1 : chE c a = 0 := by omega
   rw [r0, r1]
   exact ⟨_, rfl, (hS32.fin1 0 rfl (hc29.trans (congrArg (io .i64 _) (by unfold drT drpT; rw [if_neg (by omega), if_pos (by omega)]))))⟩
  ·refine wp_skip ?_
   refine then_n (hK24 _ _ ?_)
   clear hK24
   refine wp_seq_k fun K34 hK34 => ?_
   refine region_in ?_
   refine W_v rfl rfl (V_mov rfl l8_26) ?_
   refine W_v rfl rfl (V_bldS (n := 1) (z := .agg #[.slice none 0 0]) rfl (parts1 (et rfl)) (by kernel_rfl) (by simp only [List.all_cons, List.all_nil, SlN_one (ow_at (hS22.chq 0 rfl hc_18)), Bool.and_true] <;> rfl) (by kernel_rfl) (by simp only [List.foldl_cons, List.foldl_nil, Value.cells, List.setIfInBounds_toArray, List.set_cons_succ, List.set_cons_zero] <;> rfl)) ?_
   refine W_v rfl rfl (V_mov rfl (e2 rfl l9_26)) ?_
   refine W_v rfl rfl (V_geq rfl (et rfl) rfl) ?_
   refine W_stAS 1 hS22 rfl hc3 rfl rfl rfl (e4 rfl l4_26) (e2 rfl (et rfl)) (by simp only [List.all_toArray, List.all_cons, List.all_nil, SlN_one (ow_at (hS22.chq 0 rfl hc_18))] <;> rfl) (by rfl) (by kernel_rfl) (fun w35 c35 hc35 hS35 => ?_)
   replace hS35 : St w NoX [c_18, c35] w35 := hS35
   refine W_v rfl rfl (V_asg rfl (et rfl)) ?_
   refine W_v rfl rfl (V_asg rfl rfl) ?_
   refine W_end (gen_Q fun A36 hA36 => ?_)
   have hsz36 := szq hA36
   have hdf36 := dfE hA36 hdf26
   have l4_36 := ek6 hA36 4 rfl l4_26
   have l5_36 := lookE hA36 5 (es rfl (et rfl))
   have l6_36 := lookE hA36 6 (et rfl)
   clear hA36 hsz26 hdf26 l4_26 l8_26 l9_26 l23_26
   refine then_n (hK34 _ _ ?_)
   clear hK34
   refine wp_ret ?_
   refine ret_in (results_3 Try.results88 (rv_cellA l4_36 (hS35.obj 1 rfl hc35) Try.underlying27 rfl (by kernel_rfl)) (rv_tmp l5_36) (rv_tmp l6_36)) hdf36 ?_
   have r0 : hsB c a = decide (0 ≤ (fnd c a)) := by unfold hsB; exact decide_eq_decide.2 (by omega)
   have r1 : chE c a = 0 := by omega
   rw [r0, r1]
   exact ⟨_, rfl, (hS35.fin1 0 rfl (hc_18.trans (congrArg (io .i64 _) (by unfold drT drpT; rw [if_neg (by omega), if_neg (by omega)]))))⟩

set_option maxHeartbeats 4000000 in
theorem kLen_c {cv : Value} {c : List Int} {w : World} (h_cv : Ro w NoX (il .i64 cv c))  :
  Calls Try.prog 51 #[.agg #[cv]] w fun e w' => e = .returned (.tuple #[.int .i64 (lnN c), .int .i64 (ckS c).2]) ∧ St w NoX [] w' := by
 refine calls_in 23 Try.func51 rfl rfl (by simp) (fun A0 hsz0 hdf0 hargs => ?_)
 have l0_0 := hargs 0 (.agg #[cv]) rfl
 clear hargs; replace hsz0 : SzN A0 23 := ⟨hsz0⟩
 have hS := St.nil w
 have bh_cv := SlN.le (sl_SlN h_cv.at)
 refine wp_seq_k fun K1 hK1 => ?_
 refine region_in ?_
 refine W_boxS (zs := #[cv]) hS rfl rfl rfl l0_0 (by rfl) (fun g2 w2 c2 hc2 hS2 => ?_)
 replace hS2 : St w NoX [c2] w2 := hS2
 refine W_v rfl rfl (V_asg rfl rfl) ?_
 refine W_v rfl rfl (V_asg rfl rfl) ?_
 refine W_end (gen_Q fun A3 hA3 => ?_)
 have hsz3 := szq hA3
 have hdf3 := dfE hA3 hdf0
 have l1_3 := lookE hA3 1 (e2 rfl (et rfl))
 clear hA3 hsz0 hdf0 l0_0
 refine then_n (hK1 _ _ ?_)
 clear hK1
 refine wp_seq_k fun K4 hK4 => ?_
 refine wp_seq_k fun K5 hK5 => ?_
 refine region_in ?_
 refine W_r rfl rfl (VR_ldA rfl l1_3 (hS2.obj 0 rfl hc2) Try.underlying27 rfl (by kernel_rfl)) ?_
 refine W_call rfl rfl rfl Try.func42 (by kernel_rfl) rfl (args1 (et rfl)) (kCk_c (hS2.roC h_cv) ) ?_
 rintro _ w6 ⟨rfl, hP6⟩
 refine ⟨_, rfl, ?_⟩
 have hS6 := hS2.join hP6
 replace hS6 : St w NoX [c2] w6 := hS6
 refine W_v rfl rfl (V_mov rfl (et rfl)) ?_
 refine W_v rfl rfl (V_ext (v := .int .i64 ((ckS c).1)) rfl (et rfl) rfl) ?_
 refine W_v rfl rfl (V_ext (v := .int .i64 ((ckS c).2)) rfl (es rfl (et rfl)) rfl) ?_
 refine W_v rfl rfl (V_asg rfl (es rfl (et rfl))) ?_
 refine W_v rfl rfl (V_asg rfl (es rfl (et rfl))) ?_
 refine W_end (gen_Q fun A7 hA7 => ?_)
 have hsz7 := szq hA7
 have hdf7 := dfE hA7 hdf3
 have l1_7 := ek7 hA7 1 rfl l1_3
 have l5_7 := lookE hA7 5 (et rfl)
 clear hA7 hsz3 hdf3 l1_3
 refine then_n (hK5 _ _ ?_)
 clear hK5
 refine wp_seq_k fun K8 hK8 => ?_
 refine region_in ?_
 refine W_v rfl rfl (V_mov rfl l5_7) ?_
 refine W_v rfl rfl (V_neq rfl (et rfl) rfl) ?_
 refine W_end (gen_Q fun A9 hA9 => ?_)
 have hsz9 := szq hA9
 have hdf9 := dfE hA9 hdf7
 have l1_9 := ek2 hA9 1 rfl l1_7
 have l5_9 := ek2 hA9 5 rfl l5_7
 have l14_9 := lookE hA9 14 (et rfl)
 clear hA9 hsz7 hdf7 l1_7 l5_7
 refine then_n (hK8 _ _ ?_)
 clear hK8
 refine cond_dec l14_9 (fun c10 => ?_) (fun c10 => ?_)
 ·refine wp_seq_k fun K11 hK11 => ?_
  refine region_in ?_
  refine W_v rfl rfl (V_mov rfl l5_9) ?_
  refine W_v rfl rfl (V_asg rfl rfl) ?_
  refine W_v rfl rfl (V_asg rfl (es rfl (et rfl))) ?_
  refine W_end (gen_Q fun A12 hA12 => ?_)
  have hsz12 := szq hA12
  have hdf12 := dfE hA12 hdf9
  have l2_12 := lookE hA12 2 (es rfl (et rfl))
  have l3_12 := lookE hA12 3 (et rfl)
  clear hA12 hsz9 hdf9 l1_9 l5_9 l14_9
  have hS13 : St w NoX [] w6 := hS6.sel [] (by decide) rfl
  refine then_n (hK11 _ _ ?_)
  clear hK11
  refine wp_ret ?_
  refine then_ret ?_
  refine ret_in (results_2 Try.results51 (rv_tmp l2_12) (rv_tmp l3_12)) hdf12 ?_
  have r0 : lnN c = 0 := by unfold lnN; rw [if_pos (by omega)]
  rw [r0]
  exact ⟨rfl, hS13.fin0⟩
 ·have hG : Gd c := ck_iff.1 (by omega)
  have hpb := hG.bd
  refine wp_skip ?_
  refine then_n (hK4 _ _ ?_)
  clear hK4
  refine wp_seq_k fun K14 hK14 => ?_
  refine region_in ?_
  refine W_v rfl rfl (V_fa (off' := 0) rfl l1_9 Try.underlying27 rfl (by decide +kernel) rfl) ?_
  refine W_r rfl rfl (VR_ldC rfl (et rfl) (cell_box (v := cv) (hS6.obj 0 rfl hc2) rfl) Try.underlying25 rfl) ?_
  refine W_call rfl rfl rfl Try.func82 (by kernel_rfl) rfl (args1 (et rfl)) (kcnt_c (hS6.roC h_cv) ) ?_
  rintro _ w15 ⟨rfl, hP15⟩
  refine ⟨_, rfl, ?_⟩
  have hS15 := hS6.join hP15
  replace hS15 : St w NoX [c2] w15 := hS15
  refine W_v rfl rfl (V_mov rfl (et rfl)) ?_
  refine W_v rfl rfl (V_ext (v := .int .i64 (((usd c : Nat) : Int))) rfl (et rfl) rfl) ?_
  refine W_v rfl rfl (V_ext (v := .int .i64 (((adr c : Nat) : Int))) rfl (es rfl (et rfl)) rfl) ?_
  refine W_v rfl rfl (V_asg rfl (es rfl (et rfl))) ?_
  refine W_v rfl rfl (V_asg rfl (es rfl (et rfl))) ?_
  refine W_end (gen_Q fun A16 hA16 => ?_)
  have hsz16 := szq hA16
  have hdf16 := dfE hA16 hdf9
  have l7_16 := lookE hA16 7 (et rfl)
  clear hA16 hsz9 hdf9 l1_9 l5_9 l14_9
  have hS17 : St w NoX [] w15 := hS15.sel [] (by decide) rfl
  refine then_n (hK14 _ _ ?_)
  clear hK14
  refine wp_seq_k fun K18 hK18 => ?_
  refine region_in ?_
  refine W_v rfl rfl (V_mov rfl l7_16) ?_
  refine W_v rfl rfl (V_asg rfl (et rfl)) ?_
  refine W_v rfl rfl (V_asg rfl rfl) ?_
  refine W_end (gen_Q fun A19 hA19 => ?_)
  have hsz19 := szq hA19
  have hdf19 := dfE hA19 hdf16
  have l2_19 := lookE hA19 2 (es rfl (et rfl))
  have l3_19 := lookE hA19 3 (et rfl)
  clear hA19 hsz16 hdf16 l7_16
  refine then_n (hK18 _ _ ?_)
  clear hK18
  refine wp_ret ?_
  refine ret_in (results_2 Try.results51 (rv_tmp l2_19) (rv_tmp l3_19)) hdf19 ?_
  have r0 : lnN c = ((adr c : Nat) : Int) := by unfold lnN; rw [if_neg (by omega)]
  have r1 : (ckS c).2 = 0 := by omega
  rw [r0, r1]
  exact ⟨rfl, hS17.fin0⟩

set_option maxHeartbeats 4000000 in
theorem qLen_c {cv : Value} {c : List Int} {w : World} (h_cv : Ro w NoX (il .i64 cv c))  :
  Calls Try.prog 58 #[.agg #[cv]] w fun e w' => e = .returned (.tuple #[.int .i64 (lnN c), .int .i64 (ckS c).2]) ∧ St w NoX [] w' := by
 refine calls_in 23 Try.func58 rfl rfl (by simp) (fun A0 hsz0 hdf0 hargs => ?_)
 have l0_0 := hargs 0 (.agg #[cv]) rfl
 clear hargs; replace hsz0 : SzN A0 23 := ⟨hsz0⟩
 have hS := St.nil w
 have bh_cv := SlN.le (sl_SlN h_cv.at)
 refine wp_seq_k fun K1 hK1 => ?_
 refine region_in ?_
 refine W_boxS (zs := #[cv]) hS rfl rfl rfl l0_0 (by rfl) (fun g2 w2 c2 hc2 hS2 => ?_)
 replace hS2 : St w NoX [c2] w2 := hS2
 refine W_v rfl rfl (V_asg rfl rfl) ?_
 refine W_v rfl rfl (V_asg rfl rfl) ?_
 refine W_end (gen_Q fun A3 hA3 => ?_)
 have hsz3 := szq hA3
 have hdf3 := dfE hA3 hdf0
 have l1_3 := lookE hA3 1 (e2 rfl (et rfl))
 clear hA3 hsz0 hdf0 l0_0
 refine then_n (hK1 _ _ ?_)
 clear hK1
 refine wp_seq_k fun K4 hK4 => ?_
 refine region_in ?_
 refine W_r rfl rfl (VR_ldA rfl l1_3 (hS2.obj 0 rfl hc2) Try.underlying27 rfl (by kernel_rfl)) ?_
 refine W_call rfl rfl rfl Try.func84 (by kernel_rfl) rfl (args1 (et rfl)) (qCk_c (hS2.roC h_cv) ) ?_
 rintro _ w5 ⟨rfl, hP5⟩
 refine ⟨_, rfl, ?_⟩
 have hS5 := hS2.join hP5
 replace hS5 : St w NoX [c2] w5 := hS5
 refine W_v rfl rfl (V_mov rfl (et rfl)) ?_
 refine W_v rfl rfl (V_ext (v := .int .i64 ((ckS c).1)) rfl (et rfl) rfl) ?_
 refine W_v rfl rfl (V_ext (v := .int .i64 ((ckS c).2)) rfl (es rfl (et rfl)) rfl) ?_
 refine W_v rfl rfl (V_asg rfl (es rfl (et rfl))) ?_
 refine W_v rfl rfl (V_asg rfl (es rfl (et rfl))) ?_
 refine W_end (gen_Q fun A6 hA6 => ?_)
 have hsz6 := szq hA6
 have hdf6 := dfE hA6 hdf3
 have l1_6 := ek7 hA6 1 rfl l1_3
 have l5_6 := lookE hA6 5 (et rfl)
 clear hA6 hsz3 hdf3 l1_3
 refine then_n (hK4 _ _ ?_)
 clear hK4
 refine wp_seq_k fun K7 hK7 => ?_
 refine wp_seq_k fun K8 hK8 => ?_
 refine region_in ?_
 refine W_v rfl rfl (V_mov rfl l5_6) ?_
 refine W_v rfl rfl (V_neq rfl (et rfl) rfl) ?_
 refine W_end (gen_Q fun A9 hA9 => ?_)
 have hsz9 := szq hA9
 have hdf9 := dfE hA9 hdf6
 have l1_9 := ek2 hA9 1 rfl l1_6
 have l5_9 := ek2 hA9 5 rfl l5_6
 have l14_9 := lookE hA9 14 (et rfl)
 clear hA9 hsz6 hdf6 l1_6 l5_6
 refine then_n (hK8 _ _ ?_)
 clear hK8
 refine cond_dec l14_9 (fun c10 => ?_) (fun c10 => ?_)
 ·refine wp_seq_k fun K11 hK11 => ?_
  refine region_in ?_
  refine W_v rfl rfl (V_mov rfl l5_9) ?_
  refine W_v rfl rfl (V_asg rfl rfl) ?_
  refine W_v rfl rfl (V_asg rfl (es rfl (et rfl))) ?_
  refine W_end (gen_Q fun A12 hA12 => ?_)
  have hsz12 := szq hA12
  have hdf12 := dfE hA12 hdf9
  have l2_12 := lookE hA12 2 (es rfl (et rfl))
  have l3_12 := lookE hA12 3 (et rfl)
  clear hA12 hsz9 hdf9 l1_9 l5_9 l14_9
  have hS13 : St w NoX [] w5 := hS5.sel [] (by decide) rfl
  refine then_n (hK11 _ _ ?_)
  clear hK11
  refine wp_ret ?_
  refine then_ret ?_
  refine ret_in (results_2 Try.results58 (rv_tmp l2_12) (rv_tmp l3_12)) hdf12 ?_
  have r0 : lnN c = 0 := by unfold lnN; rw [if_pos (by omega)]
  rw [r0]
  exact ⟨rfl, hS13.fin0⟩
 ·have hG : Gd c := ck_iff.1 (by omega)
  have hpb := hG.bd
  refine wp_skip ?_
  refine then_n (hK7 _ _ ?_)
  clear hK7
  refine wp_seq_k fun K14 hK14 => ?_
  refine region_in ?_
  refine W_v rfl rfl (V_fa (off' := 0) rfl l1_9 Try.underlying27 rfl (by decide +kernel) rfl) ?_
  refine W_r rfl rfl (VR_ldC rfl (et rfl) (cell_box (v := cv) (hS5.obj 0 rfl hc2) rfl) Try.underlying25 rfl) ?_
  refine W_call rfl rfl rfl Try.func85 (by kernel_rfl) rfl (args1 (et rfl)) (qcnt_c (hS5.roC h_cv) ) ?_
  rintro _ w15 ⟨rfl, hP15⟩
  refine ⟨_, rfl, ?_⟩
  have hS15 := hS5.join hP15
  replace hS15 : St w NoX [c2] w15 := hS15
  refine W_v rfl rfl (V_mov rfl (et rfl)) ?_
  refine W_v rfl rfl (V_ext (v := .int .i64 (((usd c : Nat) : Int))) rfl (et rfl) rfl) ?_
  refine W_v rfl rfl (V_ext (v := .int .i64 (((adr c : Nat) : Int))) rfl (es rfl (et rfl)) rfl) ?_
  refine W_v rfl rfl (V_asg rfl (es rfl (et rfl))) ?_
  refine W_v rfl rfl (V_asg rfl (es rfl (et rfl))) ?_
  refine W_end (gen_Q fun A16 hA16 => ?_)
  have hsz16 := szq hA16
  have hdf16 := dfE hA16 hdf9
  have l7_16 := lookE hA16 7 (et rfl)
  clear hA16 hsz9 hdf9 l1_9 l5_9 l14_9
  have hS17 : St w NoX [] w15 := hS15.sel [] (by decide) rfl
  refine then_n (hK14 _ _ ?_)
  clear hK14
  refine wp_seq_k fun K18 hK18 => ?_
  refine region_in ?_
  refine W_v rfl rfl (V_mov rfl l7_16) ?_
  refine W_v rfl rfl (V_asg rfl (et rfl)) ?_
  refine W_v rfl rfl (V_asg rfl rfl) ?_
  refine W_end (gen_Q fun A19 hA19 => ?_)
  have hsz19 := szq hA19
  have hdf19 := dfE hA19 hdf16
  have l2_19 := lookE hA19 2 (es rfl (et rfl))
  have l3_19 := lookE hA19 3 (et rfl)
  clear hA19 hsz16 hdf16 l7_16
  refine then_n (hK18 _ _ ?_)
  clear hK18
  refine wp_ret ?_
  refine ret_in (results_2 Try.results58 (rv_tmp l2_19) (rv_tmp l3_19)) hdf19 ?_
  have r0 : lnN c = ((adr c : Nat) : Int) := by unfold lnN; rw [if_neg (by omega)]
  have r1 : (ckS c).2 = 0 := by omega
  rw [r0, r1]
  exact ⟨rfl, hS17.fin0⟩

set_option maxHeartbeats 4000000 in
theorem kList_c {cv : Value} {c : List Int} {w : World} (h_cv : Ro w NoX (il .i64 cv c))  :
  Calls Try.prog 44 #[.agg #[cv]] w fun e w' => ∃ v, e = .returned (.tuple #[v, .int .i64 (ckS c).2]) ∧ St w NoX [io .i64 (v) (lsT c)] w' := by
 refine calls_in 17 Try.func44 rfl rfl (by simp) (fun A0 hsz0 hdf0 hargs => ?_)
 have l0_0 := hargs 0 (.agg #[cv]) rfl
 clear hargs; replace hsz0 : SzN A0 17 := ⟨hsz0⟩
 have hS := St.nil w
 have bh_cv := SlN.le (sl_SlN h_cv.at)
 refine wp_seq_k fun K1 hK1 => ?_
 refine region_in ?_
 refine W_boxS (zs := #[cv]) hS rfl rfl rfl l0_0 (by rfl) (fun g2 w2 c2 hc2 hS2 => ?_)
 replace hS2 : St w NoX [c2] w2 := hS2
 refine W_v rfl rfl (V_asg rfl rfl) ?_
 refine W_v rfl rfl (V_asg rfl rfl) ?_
 refine W_end (gen_Q fun A3 hA3 => ?_)
 have hsz3 := szq hA3
 have hdf3 := dfE hA3 hdf0
 have l1_3 := lookE hA3 1 (e2 rfl (et rfl))
 clear hA3 hsz0 hdf0 l0_0
 refine then_n (hK1 _ _ ?_)
 clear hK1
 refine wp_seq_k fun K4 hK4 => ?_
 refine wp_seq_k fun K5 hK5 => ?_
 refine region_in ?_
 refine W_r rfl rfl (VR_ldA rfl l1_3 (hS2.obj 0 rfl hc2) Try.underlying27 rfl (by kernel_rfl)) ?_
 refine W_call rfl rfl rfl Try.func42 (by kernel_rfl) rfl (args1 (et rfl)) (kCk_c (hS2.roC h_cv) ) ?_
 rintro _ w6 ⟨rfl, hP6⟩
 refine ⟨_, rfl, ?_⟩
 have hS6 := hS2.join hP6
 replace hS6 : St w NoX [c2] w6 := hS6
 refine W_v rfl rfl (V_mov rfl (et rfl)) ?_
 refine W_v rfl rfl (V_ext (v := .int .i64 ((ckS c).1)) rfl (et rfl) rfl) ?_
 refine W_v rfl rfl (V_ext (v := .int .i64 ((ckS c).2)) rfl (es rfl (et rfl)) rfl) ?_
 refine W_v rfl rfl (V_asg rfl (es rfl (et rfl))) ?_
 refine W_v rfl rfl (V_asg rfl (es rfl (et rfl))) ?_
 refine W_end (gen_Q fun A7 hA7 => ?_)
 have hsz7 := szq hA7
 have hdf7 := dfE hA7 hdf3
 have l1_7 := ek7 hA7 1 rfl l1_3
 have l5_7 := lookE hA7 5 (et rfl)
 clear hA7 hsz3 hdf3 l1_3
 refine then_n (hK5 _ _ ?_)
 clear hK5
 refine wp_seq_k fun K8 hK8 => ?_
 refine region_in ?_
 refine W_v rfl rfl (V_mov rfl l5_7) ?_
 refine W_v rfl rfl (V_neq rfl (et rfl) rfl) ?_
 refine W_end (gen_Q fun A9 hA9 => ?_)
 have hsz9 := szq hA9
 have hdf9 := dfE hA9 hdf7
 have l1_9 := ek2 hA9 1 rfl l1_7
 have l5_9 := ek2 hA9 5 rfl l5_7
 have l12_9 := lookE hA9 12 (et rfl)
 clear hA9 hsz7 hdf7 l1_7 l5_7
 refine then_n (hK8 _ _ ?_)
 clear hK8
 refine cond_dec l12_9 (fun c10 => ?_) (fun c10 => ?_)
 ·refine wp_seq_k fun K11 hK11 => ?_
  refine region_in ?_
  refine W_v rfl rfl (V_mov rfl l5_9) ?_
  refine W_v rfl rfl (V_asg rfl rfl) ?_
  refine W_v rfl rfl (V_asg rfl (es rfl (et rfl))) ?_
  refine W_end (gen_Q fun A12 hA12 => ?_)
  have hsz12 := szq hA12
  have hdf12 := dfE hA12 hdf9
  have l2_12 := lookE hA12 2 (es rfl (et rfl))
  have l3_12 := lookE hA12 3 (et rfl)
  clear hA12 hsz9 hdf9 l1_9 l5_9 l12_9
  have hS13 : St w NoX [] w6 := hS6.sel [] (by decide) rfl
  refine then_n (hK11 _ _ ?_)
  clear hK11
  refine wp_ret ?_
  refine then_ret ?_
  refine ret_in (results_2 Try.results44 (rv_tmp l2_12) (rv_tmp l3_12)) hdf12 ?_
  obtain ⟨c14, hc14, hS14⟩ := hS13.pnil (s := 1)
  exact ⟨_, rfl, (hS14.fin1 0 rfl (hc14.trans (by rw [show lsT c = [] by unfold lsT; rw [if_pos (by omega)]] <;> rfl)))⟩
 ·have hG : Gd c := ck_iff.1 (by omega)
  have hpb := hG.bd
  refine wp_skip ?_
  refine then_n (hK4 _ _ ?_)
  clear hK4
  refine wp_seq_k fun K15 hK15 => ?_
  refine region_in ?_
  refine W_v rfl rfl (V_fa (off' := 0) rfl l1_9 Try.underlying27 rfl (by decide +kernel) rfl) ?_
  refine W_r rfl rfl (VR_ldC rfl (et rfl) (cell_box (v := cv) (hS6.obj 0 rfl hc2) rfl) Try.underlying25 rfl) ?_
  refine W_call rfl rfl rfl Try.func74 (by kernel_rfl) rfl (args1 (et rfl)) (ksr_c (hS6.roC h_cv) (by first | omega | with_reducible assumption) (by first | omega | with_reducible assumption) (by first | with_reducible assumption | with_reducible exact hG.rng | with_reducible exact p1.rng | with_reducible exact hr2) (by first | with_reducible assumption | with_reducible exact hG.dst | with_reducible exact p1.dst | with_reducible exact hd2)) ?_
  rintro _ w16 ⟨v_16, rfl, hP16⟩
  refine ⟨_, rfl, ?_⟩
  obtain ⟨c_16, hc_16, hP16⟩ := gen1 hP16
  have hS16 := hS6.join hP16
  replace hS16 : St w NoX [c_16, c2] w16 := hS16
  refine W_v rfl rfl (V_asg rfl (et rfl)) ?_
  refine W_v rfl rfl (V_asg rfl rfl) ?_
  refine W_end (gen_Q fun A17 hA17 => ?_)
  have hsz17 := szq hA17
  have hdf17 := dfE hA17 hdf9
  have l2_17 := lookE hA17 2 (es rfl (et rfl))
  have l3_17 := lookE hA17 3 (et rfl)
  clear hA17 hsz9 hdf9 l1_9 l5_9 l12_9
  have hS18 : St w NoX [c_16] w16 := hS16.sel [0] (by decide) rfl
  refine then_n (hK15 _ _ ?_)
  clear hK15
  refine wp_ret ?_
  refine ret_in (results_2 Try.results44 (rv_tmp l2_17) (rv_tmp l3_17)) hdf17 ?_
  have r0 : (ckS c).2 = 0 := by omega
  rw [r0]
  exact ⟨_, rfl, (hS18.fin1 0 rfl (hc_16.trans (congrArg (io .i64 _) (by unfold lsT; rw [if_neg (by omega)]))))⟩

set_option maxHeartbeats 4000000 in
theorem qRange_c {cv : Value} {c : List Int} {f : Int} {t : Int} {w : World} (h_cv : Ro w NoX (il .i64 cv c))  :
  Calls Try.prog 67 #[.agg #[cv], .int .i64 f, .int .i64 t] w fun e w' => ∃ v, e = .returned (.tuple #[v, .int .i64 (ckS c).2]) ∧ St w NoX [io .i64 (v) (rgT c f t)] w' := by
 refine calls_in 52 Try.func67 rfl rfl (by simp) (fun A0 hsz0 hdf0 hargs => ?_)
 have l0_0 := hargs 0 (.agg #[cv]) rfl
 have l1_0 := hargs 1 (.int .i64 f) rfl
 have l2_0 := hargs 2 (.int .i64 t) rfl
 clear hargs; replace hsz0 : SzN A0 52 := ⟨hsz0⟩
 have hS := St.nil w
 have bh_cv := SlN.le (sl_SlN h_cv.at)
 refine wp_seq_k fun K1 hK1 => ?_
 refine region_in ?_
 refine W_boxS (zs := #[cv]) hS rfl rfl rfl l0_0 (by rfl) (fun g2 w2 c2 hc2 hS2 => ?_)
 replace hS2 : St w NoX [c2] w2 := hS2
 refine W_v rfl rfl (V_asg rfl rfl) ?_
 refine W_v rfl rfl (V_asg rfl rfl) ?_
 refine W_end (gen_Q fun A3 hA3 => ?_)
 have hsz3 := szq hA3
 have hdf3 := dfE hA3 hdf0
 have l1_3 := ek3 hA3 1 rfl l1_0
 have l2_3 := ek3 hA3 2 rfl l2_0
 have l3_3 := lookE hA3 3 (e2 rfl (et rfl))
 clear hA3 hsz0 hdf0 l0_0 l1_0 l2_0
 refine then_n (hK1 _ _ ?_)
 clear hK1
 refine wp_seq_k fun K4 hK4 => ?_
 refine region_in ?_
 refine W_r rfl rfl (VR_ldA rfl l3_3 (hS2.obj 0 rfl hc2) Try.underlying27 rfl (by kernel_rfl)) ?_
 refine W_call rfl rfl rfl Try.func84 (by kernel_rfl) rfl (args1 (et rfl)) (qCk_c (hS2.roC h_cv) ) ?_
 rintro _ w5 ⟨rfl, hP5⟩
 refine ⟨_, rfl, ?_⟩
 have hS5 := hS2.join hP5
 replace hS5 : St w NoX [c2] w5 := hS5
 refine W_v rfl rfl (V_mov rfl (et rfl)) ?_
 refine W_v rfl rfl (V_ext (v := .int .i64 ((ckS c).1)) rfl (et rfl) rfl) ?_
 refine W_v rfl rfl (V_ext (v := .int .i64 ((ckS c).2)) rfl (es rfl (et rfl)) rfl) ?_
 refine W_v rfl rfl (V_asg rfl (es rfl (et rfl))) ?_
 refine W_v rfl rfl (V_asg rfl (es rfl (et rfl))) ?_
 refine W_end (gen_Q fun A6 hA6 => ?_)
 have hsz6 := szq hA6
 have hdf6 := dfE hA6 hdf3
 have l1_6 := ek7 hA6 1 rfl l1_3
 have l2_6 := ek7 hA6 2 rfl l2_3
 have l3_6 := ek7 hA6 3 rfl l3_3
 have l9_6 := lookE hA6 9 (et rfl)
 clear hA6 hsz3 hdf3 l1_3 l2_3 l3_3
 refine then_n (hK4 _ _ ?_)
 clear hK4
 refine wp_seq_k fun K7 hK7 => ?_
 refine wp_seq_k fun K8 hK8 => ?_
 refine region_in ?_
 refine W_v rfl rfl (V_mov rfl l9_6) ?_
 refine W_v rfl rfl (V_neq rfl (et rfl) rfl) ?_
 refine W_end (gen_Q fun A9 hA9 => ?_)
 have hsz9 := szq hA9
 have hdf9 := dfE hA9 hdf6
 have l1_9 := ek2 hA9 1 rfl l1_6
 have l2_9 := ek2 hA9 2 rfl l2_6
 have l3_9 := ek2 hA9 3 rfl l3_6
 have l9_9 := ek2 hA9 9 rfl l9_6
 have l19_9 := lookE hA9 19 (et rfl)
 clear hA9 hsz6 hdf6 l1_6 l2_6 l3_6 l9_6
 refine then_n (hK8 _ _ ?_)
 clear hK8
 refine cond_dec l19_9 (fun c10 => ?_) (fun c10 => ?_)
 ·refine wp_seq_k fun K11 hK11 => ?_
  refine region_in ?_
  refine W_v rfl rfl (V_mov rfl l9_9) ?_
  refine W_v rfl rfl (V_asg rfl rfl) ?_
  refine W_v rfl rfl (V_asg rfl (es rfl (et rfl))) ?_
  refine W_end (gen_Q fun A12 hA12 => ?_)
  have hsz12 := szq hA12
  have hdf12 := dfE hA12 hdf9
  have l6_12 := lookE hA12 6 (es rfl (et rfl))
  have l7_12 := lookE hA12 7 (et rfl)
  clear hA12 hsz9 hdf9 l1_9 l2_9 l3_9 l9_9 l19_9
  have hS13 : St w NoX [] w5 := hS5.sel [] (by decide) rfl
  refine then_n (hK11 _ _ ?_)
  clear hK11
  refine wp_ret ?_
  refine then_ret ?_
  refine ret_in (results_2 Try.results67 (rv_tmp l6_12) (rv_tmp l7_12)) hdf12 ?_
  obtain ⟨c14, hc14, hS14⟩ := hS13.pnil (s := 1)
  exact ⟨_, rfl, (hS14.fin1 0 rfl (hc14.trans (by rw [show rgT c f t = [] by unfold rgT lsT; rw [if_pos (by omega)] <;> rfl] <;> rfl)))⟩
 ·have hG : Gd c := ck_iff.1 (by omega)
  have hpb := hG.bd
  have htl := tgK_len c 1600
  have hfl := fun k => fl_len (fun x => decide (x < f ∨ t ≤ x)) ((tgK c 1600).take k)
  refine wp_skip ?_
  refine then_n (hK7 _ _ ?_)
  clear hK7
  refine wp_seq_k fun K15 hK15 => ?_
  refine region_in ?_
  refine W_v rfl rfl (V_asg rfl rfl) ?_
  refine W_end (gen_Q fun A16 hA16 => ?_)
  have hsz16 := szq hA16
  have hdf16 := dfE hA16 hdf9
  have l1_16 := lookE hA16 1 (es rfl l1_9)
  have l2_16 := lookE hA16 2 (es rfl l2_9)
  have l3_16 := lookE hA16 3 (es rfl l3_9)
  have l10_16 := lookE hA16 10 (et rfl)
  clear hA16 hsz9 hdf9 l1_9 l2_9 l3_9 l9_9 l19_9
  refine then_n (hK15 _ _ ?_)
  clear hK15
  refine wp_seq_k fun K17 hK17 => ?_
  refine region_in ?_
  refine W_v rfl rfl (V_fa (off' := 0) rfl l3_16 Try.underlying27 rfl (by decide +kernel) rfl) ?_
  refine W_r rfl rfl (VR_ldC rfl (et rfl) (cell_box (v := cv) (hS5.obj 0 rfl hc2) rfl) Try.underlying25 rfl) ?_
  refine W_call rfl rfl rfl Try.func92 (by kernel_rfl) rfl (args1 (et rfl)) (qsr_c (hS5.roC h_cv) (by first | with_reducible assumption | with_reducible exact hG.rng | with_reducible exact p1.rng | with_reducible exact hr2)) ?_
  rintro _ w18 ⟨v_18, rfl, hP18⟩
  refine ⟨_, rfl, ?_⟩
  obtain ⟨c_18, hc_18, hP18⟩ := gen1 hP18
  have hS18 := hS5.join hP18
  replace hS18 : St w NoX [c_18, c2] w18 := hS18
  refine W_v rfl rfl (V_asg rfl (et rfl)) ?_
  refine W_end (gen_Q fun A19 hA19 => ?_)
  have hsz19 := szq hA19
  have hdf19 := dfE hA19 hdf16
  have l1_19 := ek4 hA19 1 rfl l1_16
  have l2_19 := ek4 hA19 2 rfl l2_16
  have l10_19 := ek4 hA19 10 rfl l10_16
  have l11_19 := lookE hA19 11 (et rfl)
  clear hA19 hsz16 hdf16 l1_16 l2_16 l3_16 l10_16
  have hS20 : St w NoX [c_18] w18 := hS18.sel [0] (by decide) rfl
  refine then_n (hK17 _ _ ?_)
  clear hK17
  refine wp_seq_k fun K21 hK21 => ?_
  refine wp_seq_k fun K22 hK22 => ?_
  refine region_in ?_
  refine W_v rfl rfl (V_asg rfl rfl) ?_
  refine W_end (gen_Q fun A23 hA23 => ?_)
  have hsz23 := szq hA23
  have hdf23 := dfE hA23 hdf19
  have l1_23 := lookE hA23 1 (es rfl l1_19)
  have l2_23 := lookE hA23 2 (es rfl l2_19)
  have l10_23 := lookE hA23 10 (es rfl l10_19)
  have l11_23 := lookE hA23 11 (es rfl l11_19)
  have l12_23 := lookE hA23 12 (et rfl)
  clear hA23 hsz19 hdf19 l1_19 l2_19 l10_19 l11_19
  refine then_n (hK22 _ _ ?_)
  clear hK22
  refine wp_block ?_
  obtain ⟨c24, hc24, hS24⟩ := hS20.pnil (s := 1)
  -- loop 7
  refine loopX (fun mz A' w' => SzN A' 52 ∧ A'.defers = [] ∧ (∃ (k : Nat) (bv : Value), (mz = (tgK c 1600).length - k) ∧ (k ≤ (tgK c 1600).length) ∧ (EV A' (.tmp 12) = .int .i64 (k : Int)) ∧ (EV A' (.tmp 10) = bv) ∧ (EV A' (.tmp 1) = EV A23 (.tmp 1)) ∧ (EV A' (.tmp 2) = EV A23 (.tmp 2)) ∧ (EV A' (.tmp 11) = EV A23 (.tmp 11)) ∧ (St w NoX [io .i64 bv (fl (fun x => decide (x < f ∨ t ≤ x)) ((tgK c 1600).take k)), io .i64 v_18 (tgK c 1600)] w'))) ((tgK c 1600).length - 0) ⟨hsz23, hdf23, 0, (.slice none 0 0), rfl, (by omega), ((l12_23).trans (by first | rfl | (simp; done) | (congr 1; omega))), ((l10_23).trans (by first | rfl | (simp; done) | (congr 1; omega))), rfl, rfl, rfl, (by have q0 : c24 = io .i64 (.slice none 0 0) (fl (fun x => decide (x < f ∨ t ≤ x)) ((tgK c 1600).take 0)) := hc24.trans (rfl); have q1 := hc_18; subst q0 q1; exact hS24)⟩ ?_
  clear hS24 hc24 hc_18
  rintro n25 A25 w25 ⟨hsz25, hdf25, k, bv, hm25, hk, l12_25, l10_25, u1_25, u2_25, u11_25, hS25⟩
  have l1_25 := u1_25.trans l1_23
  have l2_25 := u2_25.trans l2_23
  have l11_25 := u11_25.trans l11_23
  obtain ⟨c24_25, c_25, hc24_25, hc_25, hS25⟩ := gen2 hS25
  refine wp_seq_k fun K26 hK26 => ?_
  refine wp_seq_k fun K27 hK27 => ?_
  refine region_in ?_
  refine W_v rfl rfl (V_mov rfl l12_25) ?_
  refine W_v rfl rfl (V_mov rfl (es rfl l11_25)) ?_
  refine W_v rfl rfl (V_lenS rfl (et rfl) (ow_at (hS25.chq 1 rfl hc_25)) Try.underlying25) ?_
  refine W_v rfl rfl (V_lss rfl (e2 rfl (et rfl)) (et rfl)) ?_
  refine W_end (gen_Q fun A28 hA28 => ?_)
  have hsz28 := szq hA28
  have hdf28 := dfE hA28 hdf25
  have l1_28 := ek4 hA28 1 rfl l1_25
  have l2_28 := ek4 hA28 2 rfl l2_25
  have l10_28 := ek4 hA28 10 rfl l10_25
  have l11_28 := ek4 hA28 11 rfl l11_25
  have l12_28 := ek4 hA28 12 rfl l12_25
  have l27_28 := lookE hA28 27 (et rfl)
  clear hA28 hsz25 hdf25 l12_25 l10_25 l1_25 l2_25 l11_25
  refine then_n (hK27 _ _ ?_)
  clear hK27
  refine cond_dec l27_28 (fun c29 => ?_) (fun c29 => ?_)
  ·refine wp_skip ?_
   refine then_n (hK26 _ _ ?_)
   clear hK26
   refine wp_seq_k fun K30 hK30 => ?_
   refine wp_block ?_
   refine wp_seq_k fun K31 hK31 => ?_
   refine region_in ?_
   refine W_v rfl rfl (V_mov rfl l11_28) ?_
   refine W_v rfl rfl (V_mov rfl (es rfl l12_28)) ?_
   have k32 : k < (tgK c 1600).length := by first | omega | (simp only [List.length_cons, List.length_nil]; omega) | (simp only [List.length_set]; omega) | decide
   obtain ⟨y32, hy32⟩ := get_some (xs := (tgK c 1600)) (k := k) k32
   obtain ⟨B32, O32, C32, hv32⟩ := (SlN.blk (ow_at (hS25.chq 1 rfl hc_25)) (by first | omega | (simp only [List.length_cons, List.length_nil]; omega) | (simp only [List.length_set]; omega) | decide))
   refine W_v rfl rfl (V_ixS (off := O32 + k) 1 (k) rfl (es rfl (et rfl)) (et rfl) hv32 (by omega) k32 Try.underlying25 (by kernel_rfl) (congrArg _ (Nat.mul_one _))) ?_
   refine W_r rfl rfl (VR_ldC rfl (et rfl) ((ow_at (hS25.chq 1 rfl hc_25)).cell hv32 (map_get hy32)) Try.underlying3 rfl) ?_
   refine W_v rfl rfl (V_mov rfl (e4 rfl l1_28)) ?_
   refine W_v rfl rfl (V_geq rfl (es rfl (et rfl)) (et rfl)) ?_
   refine W_split rfl rfl (V_mov rfl (et rfl)) (fun c33 => ?_) (fun c33 => ?_)
   ·refine W_v rfl (wanted_t rfl rfl (et rfl) (ez rfl)) (V_mov rfl (e7 rfl l11_28)) ?_
    refine W_v rfl (wanted_t rfl rfl (es rfl (et rfl)) (ez rfl)) (V_mov rfl (e8 rfl l12_28)) ?_
    refine W_v rfl (wanted_t rfl rfl (e2 rfl (et rfl)) (ez rfl)) (V_ixS (off := O32 + k) 1 (k) rfl (es rfl (et rfl)) (et rfl) hv32 (by omega) k32 Try.underlying25 (by kernel_rfl) (congrArg _ (Nat.mul_one _))) ?_
    refine W_r rfl (wanted_t rfl rfl (e3 rfl (et rfl)) (ez rfl)) (VR_ldC rfl (et rfl) ((ow_at (hS25.chq 1 rfl hc_25)).cell hv32 (map_get hy32)) Try.underlying3 rfl) ?_
    refine W_v rfl (wanted_t rfl rfl (e4 rfl (et rfl)) (ez rfl)) (V_mov rfl (e11 rfl l2_28)) ?_
    refine W_v rfl (wanted_t rfl rfl (e5 rfl (et rfl)) (ez rfl)) (V_lss rfl (es rfl (et rfl)) (et rfl)) ?_
    refine W_v rfl rfl (V_pickT rfl (e6 rfl (et rfl)) (et rfl)) ?_
    refine W_end (gen_Q fun A35 hA35 => ?_)
    have hsz35 := szq hA35
    have hdf35 := dfE hA35 hdf28
    have l1_35 := ek14 hA35 1 rfl l1_28
    have l2_35 := ek14 hA35 2 rfl l2_28
    have l10_35 := ek14 hA35 10 rfl l10_28
    have l11_35 := ek14 hA35 11 rfl l11_28
    have l12_35 := ek14 hA35 12 rfl l12_28
    have l37_35 := lookE hA35 37 (e6 rfl (et rfl))
    have l38_35 := lookE hA35 38 (e5 rfl (et rfl))
    have l39_35 := lookE hA35 39 (e4 rfl (et rfl))
    have l40_35 := lookE hA35 40 (e3 rfl (et rfl))
    have l41_35 := lookE hA35 41 (e2 rfl (et rfl))
    have l42_35 := lookE hA35 42 (es rfl (et rfl))
    have l43_35 := lookE hA35 43 (et rfl)
    clear hA35 hsz28 hdf28 l1_28 l2_28 l10_28 l11_28 l12_28 l27_28
    refine then_n (hK31 _ _ ?_)
    clear hK31
    refine cond_dec l43_35 (fun c36 => ?_) (fun c36 => ?_)
    ·refine region_in ?_
     refine W_v rfl rfl (V_mov rfl l10_35) ?_
     refine W_v rfl rfl (V_mov rfl (es rfl l11_35)) ?_
     refine W_v rfl rfl (V_mov rfl (e2 rfl l12_35)) ?_
     refine W_v rfl rfl (V_ixS (off := O32 + k) 1 (k) rfl (es rfl (et rfl)) (et rfl) hv32 (by omega) k32 Try.underlying25 (by kernel_rfl) (congrArg _ (Nat.mul_one _))) ?_
     refine W_r rfl rfl (VR_ldC rfl (et rfl) ((ow_at (hS25.chq 1 rfl hc_25)).cell hv32 (map_get hy32)) Try.underlying3 rfl) ?_
     have hll38 : [y32].length = 1 := rfl
     refine W_litS (vs := [.int .i64 (y32)]) (xs := ([y32].map (Value.int .i64))) 1 hS25 rfl rfl rfl (parts1 (et rfl)) rfl Try.underlying25 (by kernel_rfl) (by decide) (by intro v hv; simp only [List.mem_cons, List.not_mem_nil, or_false] at hv; rcases hv with rfl <;> rfl) (by rfl) (fun g38 w38 c38 hc38 hS38 => ?_)
     replace hc38 : c38 = io .i64 (.slice (some ⟨g38, 0, none⟩) 1 1) [y32] := hc38
     replace hS38 : St w NoX [c38, c24_25, c_25] w38 := hS38
     refine W_appS 1 1 hS38 rfl hc24_25 rfl rfl rfl (e5 rfl (et rfl)) (et rfl) Try.underlying25 Try.underlying25 (z := .int .i64 0) (bytes := 8) (by kernel_rfl) rfl (by decide) (ow_at (hS38.chq 0 rfl hc38)) ones_i (by have h1 := fl_len (fun x => decide (x < f ∨ t ≤ x)) ((tgK c 1600).take k); have h2 := List.length_take_le k (tgK c 1600); simp only [List.length_singleton, List.length_cons, List.length_nil]; omega) (by have h1 := fl_len (fun x => decide (x < f ∨ t ≤ x)) ((tgK c 1600).take k); have h2 := List.length_take_le k (tgK c 1600); simp only [List.length_singleton, List.length_cons, List.length_nil]; omega) (fun v39 w39 c39 hc39 hS39 => ?_)
     replace hc39 : c39 = io .i64 v39 ((fl (fun x => decide (x < f ∨ t ≤ x)) ((tgK c 1600).take k)) ++ [y32]) := hc39.trans (app_eq (by first | (simp; done) | (rw [List.take_of_length_le (l := List.drop _ _) (by rw [List.length_drop]; exact Nat.le_refl _)])))
     replace hS39 : St w NoX [c38, c39, c_25] w39 := hS39
     refine W_v rfl rfl (V_asg rfl (et rfl)) ?_
     refine W_end (gen_Q fun A40 hA40 => ?_)
     have hsz40 := szq hA40
     have hdf40 := dfE hA40 hdf35
     have l1_40 := ek8 hA40 1 rfl l1_35
     have l2_40 := ek8 hA40 2 rfl l2_35
     have l10_40 := lookE hA40 10 (et rfl)
     have l11_40 := ek8 hA40 11 rfl l11_35
     have l12_40 := ek8 hA40 12 rfl l12_35
     have l37_40 := ek8 hA40 37 rfl l37_35
     have l38_40 := ek8 hA40 38 rfl l38_35
     have l39_40 := ek8 hA40 39 rfl l39_35
     have l40_40 := ek8 hA40 40 rfl l40_35
     have l41_40 := ek8 hA40 41 rfl l41_35
     have l42_40 := ek8 hA40 42 rfl l42_35
     clear hA40 hsz35 hdf35 l1_35 l2_35 l10_35 l11_35 l12_35 l37_35 l38_35 l39_35 l40_35 l41_35 l42_35 l43_35
     have hS41 : St w NoX [c39, c_25] w39 := hS39.sel [1, 2] (by decide) rfl
     refine inb_n ?_
     refine then_n (hK30 _ _ ?_)
     clear hK30
     refine region_in ?_
     refine W_v rfl rfl (V_mov rfl l12_40) ?_
     refine W_v rfl rfl (V_add rfl (et rfl) rfl (by omega) (by omega)) ?_
     refine W_v rfl rfl (V_asg rfl (et rfl)) ?_
     refine W_end (gen_Q fun A42 hA42 => ?_)
     have hsz42 := szq hA42
     have hdf42 := dfE hA42 hdf40
     have l1_42 := ek3 hA42 1 rfl l1_40
     have l2_42 := ek3 hA42 2 rfl l2_40
     have l10_42 := ek3 hA42 10 rfl l10_40
     have l11_42 := ek3 hA42 11 rfl l11_40
     have l12_42 := lookE hA42 12 (et rfl)
     have l37_42 := ek3 hA42 37 rfl l37_40
     have l38_42 := ek3 hA42 38 rfl l38_40
     have l39_42 := ek3 hA42 39 rfl l39_40
     have l40_42 := ek3 hA42 40 rfl l40_40
     have l41_42 := ek3 hA42 41 rfl l41_40
     have l42_42 := ek3 hA42 42 rfl l42_40
     clear hA42 hsz40 hdf40 l1_40 l2_40 l10_40 l11_40 l12_40 l37_40 l38_40 l39_40 l40_40 l41_40 l42_40
     refine then_n ⟨(tgK c 1600).length - (k + 1), by simp only [hm25]; omega, hsz42, hdf42, (k + 1), v39, rfl, (by omega), ((l12_42).trans (by first | rfl | (simp; done) | (congr 1; omega))), ((l10_42).trans (by first | rfl | (simp; done) | (congr 1; omega))), ((l1_42).trans l1_23.symm), ((l2_42).trans l2_23.symm), ((l11_42).trans l11_23.symm), (by have q0 : c39 = io .i64 v39 (fl (fun x => decide (x < f ∨ t ≤ x)) ((tgK c 1600).take (k + 1))) := hc39.trans ((congrArg (io .i64 _) (fl_in hy32 (show (fun x => decide (x < f ∨ t ≤ x)) y32 = false by first | exact decide_eq_false (by omega))))); have q1 := hc_25; subst q0 q1; exact hS41)⟩
    ·refine wp_skip ?_
     refine inb_n ?_
     refine then_n (hK30 _ _ ?_)
     clear hK30
     refine region_in ?_
     refine W_v rfl rfl (V_mov rfl l12_35) ?_
     refine W_v rfl rfl (V_add rfl (et rfl) rfl (by omega) (by omega)) ?_
     refine W_v rfl rfl (V_asg rfl (et rfl)) ?_
     refine W_end (gen_Q fun A43 hA43 => ?_)
     have hsz43 := szq hA43
     have hdf43 := dfE hA43 hdf35
     have l1_43 := ek3 hA43 1 rfl l1_35
     have l2_43 := ek3 hA43 2 rfl l2_35
     have l10_43 := ek3 hA43 10 rfl l10_35
     have l11_43 := ek3 hA43 11 rfl l11_35
     have l12_43 := lookE hA43 12 (et rfl)
     have l37_43 := ek3 hA43 37 rfl l37_35
     have l38_43 := ek3 hA43 38 rfl l38_35
     have l39_43 := ek3 hA43 39 rfl l39_35
     have l40_43 := ek3 hA43 40 rfl l40_35
     have l41_43 := ek3 hA43 41 rfl l41_35
     have l42_43 := ek3 hA43 42 rfl l42_35
     clear hA43 hsz35 hdf35 l1_35 l2_35 l10_35 l11_35 l12_35 l37_35 l38_35 l39_35 l40_35 l41_35 l42_35 l43_35
     refine then_n ⟨(tgK c 1600).length - (k + 1), by simp only [hm25]; omega, hsz43, hdf43, (k + 1), bv, rfl, (by omega), ((l12_43).trans (by first | rfl | (simp; done) | (congr 1; omega))), ((l10_43).trans (by first | rfl | (simp; done) | (congr 1; omega))), ((l1_43).trans l1_23.symm), ((l2_43).trans l2_23.symm), ((l11_43).trans l11_23.symm), (by have q0 : c24_25 = io .i64 bv (fl (fun x => decide (x < f ∨ t ≤ x)) ((tgK c 1600).take (k + 1))) := hc24_25.trans ((congrArg (io .i64 _) (fl_out hy32 (show (fun x => decide (x < f ∨ t ≤ x)) y32 = true by first | exact decide_eq_true (by omega))))); have q1 := hc_25; subst q0 q1; exact hS25)⟩
   ·refine W_off rfl (wanted_f rfl rfl (et rfl) (ez rfl) rfl) ?_
    refine W_off rfl (wanted_f rfl rfl (es rfl (et rfl)) (ez rfl) rfl) ?_
    refine W_off rfl (wanted_f rfl rfl (e2 rfl (et rfl)) (ez rfl) rfl) ?_
    refine W_off rfl (wanted_f rfl rfl (e3 rfl (et rfl)) (ez rfl) rfl) ?_
    refine W_off rfl (wanted_f rfl rfl (e4 rfl (et rfl)) (ez rfl) rfl) ?_
    refine W_off rfl (wanted_f rfl rfl (e5 rfl (et rfl)) (ez rfl) rfl) ?_
    refine W_v rfl rfl (V_pickF rfl (e6 rfl (et rfl)) rfl) ?_
    refine W_end (gen_Q fun A44 hA44 => ?_)
    have hsz44 := szq hA44
    have hdf44 := dfE hA44 hdf28
    have l1_44 := ek14 hA44 1 rfl l1_28
    have l2_44 := ek14 hA44 2 rfl l2_28
    have l10_44 := ek14 hA44 10 rfl l10_28
    have l11_44 := ek14 hA44 11 rfl l11_28
    have l12_44 := ek14 hA44 12 rfl l12_28
    have l37_44 := lookE hA44 37 (e6 rfl (et rfl))
    have l38_44 := lookE hA44 38 (e5 rfl (et rfl))
    have l39_44 := lookE hA44 39 (e4 rfl (et rfl))
    have l40_44 := lookE hA44 40 (e3 rfl (et rfl))
    have l41_44 := lookE hA44 41 (e2 rfl (et rfl))
    have l42_44 := lookE hA44 42 (es rfl (et rfl))
    have l43_44 := lookE hA44 43 (et rfl)
    clear hA44 hsz28 hdf28 l1_28 l2_28 l10_28 l11_28 l12_28 l27_28
    refine then_n (hK31 _ _ ?_)
    clear hK31
    refine cond_f l43_44 ?_
    refine wp_skip ?_
    refine inb_n ?_
    refine then_n (hK30 _ _ ?_)
    clear hK30
    refine region_in ?_
    refine W_v rfl rfl (V_mov rfl l12_44) ?_
    refine W_v rfl rfl (V_add rfl (et rfl) rfl (by omega) (by omega)) ?_
    refine W_v rfl rfl (V_asg rfl (et rfl)) ?_
    refine W_end (gen_Q fun A45 hA45 => ?_)
    have hsz45 := szq hA45
    have hdf45 := dfE hA45 hdf44
    have l1_45 := ek3 hA45 1 rfl l1_44
    have l2_45 := ek3 hA45 2 rfl l2_44
    have l10_45 := ek3 hA45 10 rfl l10_44
    have l11_45 := ek3 hA45 11 rfl l11_44
    have l12_45 := lookE hA45 12 (et rfl)
    have l37_45 := ek3 hA45 37 rfl l37_44
    have l38_45 := ek3 hA45 38 rfl l38_44
    have l39_45 := ek3 hA45 39 rfl l39_44
    have l40_45 := ek3 hA45 40 rfl l40_44
    have l41_45 := ek3 hA45 41 rfl l41_44
    have l42_45 := ek3 hA45 42 rfl l42_44
    clear hA45 hsz44 hdf44 l1_44 l2_44 l10_44 l11_44 l12_44 l37_44 l38_44 l39_44 l40_44 l41_44 l42_44 l43_44
    refine then_n ⟨(tgK c 1600).length - (k + 1), by simp only [hm25]; omega, hsz45, hdf45, (k + 1), bv, rfl, (by omega), ((l12_45).trans (by first | rfl | (simp; done) | (congr 1; omega))), ((l10_45).trans (by first | rfl | (simp; done) | (congr 1; omega))), ((l1_45).trans l1_23.symm), ((l2_45).trans l2_23.symm), ((l11_45).trans l11_23.symm), (by have q0 : c24_25 = io .i64 bv (fl (fun x => decide (x < f ∨ t ≤ x)) ((tgK c 1600).take (k + 1))) := hc24_25.trans ((congrArg (io .i64 _) (fl_out hy32 (show (fun x => decide (x < f ∨ t ≤ x)) y32 = true by first | exact decide_eq_true (by omega))))); have q1 := hc_25; subst q0 q1; exact hS25)⟩
  ·refine wp_exit ?_
   refine then_exit ?_
   refine then_exit ?_
   refine inb_hit ?_
   refine then_n (hK21 _ _ ?_)
   clear hK21
   refine wp_seq_k fun K46 hK46 => ?_
   refine region_in ?_
   refine W_v rfl rfl (V_mov rfl l10_28) ?_
   refine W_v rfl rfl (V_asg rfl (et rfl)) ?_
   refine W_v rfl rfl (V_asg rfl rfl) ?_
   refine W_end (gen_Q fun A47 hA47 => ?_)
   have hsz47 := szq hA47
   have hdf47 := dfE hA47 hdf28
   have l6_47 := lookE hA47 6 (es rfl (et rfl))
   have l7_47 := lookE hA47 7 (et rfl)
   clear hA47 hsz28 hdf28 l1_28 l2_28 l10_28 l11_28 l12_28 l27_28
   have hS48 : St w NoX [c24_25] w25 := hS25.sel [0] (by decide) rfl
   refine then_n (hK46 _ _ ?_)
   clear hK46
   refine wp_ret ?_
   refine ret_in (results_2 Try.results67 (rv_tmp l6_47) (rv_tmp l7_47)) hdf47 ?_
   have r0 : (ckS c).2 = 0 := by omega
   rw [r0]
   exact ⟨_, rfl, (hS48.fin1 0 rfl (hc24_25.trans (congrArg (io .i64 _) (by unfold rgT lsT; rw [if_neg (by omega), List.take_of_length_le (by omega)]))))⟩

set_option maxHeartbeats 4000000 in
theorem qList_c {cv : Value} {c : List Int} {w : World} (h_cv : Ro w NoX (il .i64 cv c))  :
  Calls Try.prog 65 #[.agg #[cv]] w fun e w' => ∃ v, e = .returned (.tuple #[v, .int .i64 (ckS c).2]) ∧ St w NoX [io .i64 (v) (lsT c)] w' := by
 refine calls_in 8 Try.func65 rfl rfl (by simp) (fun A0 hsz0 hdf0 hargs => ?_)
 have l0_0 := hargs 0 (.agg #[cv]) rfl
 clear hargs; replace hsz0 : SzN A0 8 := ⟨hsz0⟩
 have hS := St.nil w
 have bh_cv := SlN.le (sl_SlN h_cv.at)
 refine wp_seq_k fun K1 hK1 => ?_
 refine region_in ?_
 refine W_boxS (zs := #[cv]) hS rfl rfl rfl l0_0 (by rfl) (fun g2 w2 c2 hc2 hS2 => ?_)
 replace hS2 : St w NoX [c2] w2 := hS2
 refine W_v rfl rfl (V_asg rfl rfl) ?_
 refine W_v rfl rfl (V_asg rfl rfl) ?_
 refine W_end (gen_Q fun A3 hA3 => ?_)
 have hsz3 := szq hA3
 have hdf3 := dfE hA3 hdf0
 have l1_3 := lookE hA3 1 (e2 rfl (et rfl))
 clear hA3 hsz0 hdf0 l0_0
 refine then_n (hK1 _ _ ?_)
 clear hK1
 refine wp_seq_k fun K4 hK4 => ?_
 refine region_in ?_
 refine W_r rfl rfl (VR_ldA rfl l1_3 (hS2.obj 0 rfl hc2) Try.underlying27 rfl (by kernel_rfl)) ?_
 refine W_call rfl rfl rfl Try.func67 (by kernel_rfl) rfl (args3 (et rfl) rfl rfl) (qRange_c (f := 1) (t := 1601) (hS2.roC h_cv) ) ?_
 rintro _ w5 ⟨v_5, rfl, hP5⟩
 refine ⟨_, rfl, ?_⟩
 obtain ⟨c_5, hc_5, hP5⟩ := gen1 hP5
 have hS5 := hS2.join hP5
 replace hS5 : St w NoX [c_5, c2] w5 := hS5
 refine W_v rfl rfl (V_ext (v := v_5) rfl (et rfl) rfl) ?_
 refine W_v rfl rfl (V_ext (v := .int .i64 ((ckS c).2)) rfl (es rfl (et rfl)) rfl) ?_
 refine W_v rfl rfl (V_asg rfl (es rfl (et rfl))) ?_
 refine W_v rfl rfl (V_asg rfl (es rfl (et rfl))) ?_
 refine W_end (gen_Q fun A6 hA6 => ?_)
 have hsz6 := szq hA6
 have hdf6 := dfE hA6 hdf3
 have l2_6 := lookE hA6 2 (es rfl (et rfl))
 have l3_6 := lookE hA6 3 (et rfl)
 clear hA6 hsz3 hdf3 l1_3
 have hS7 : St w NoX [c_5] w5 := hS5.sel [0] (by decide) rfl
 refine then_n (hK4 _ _ ?_)
 clear hK4
 refine wp_ret ?_
 refine ret_in (results_2 Try.results65 (rv_tmp l2_6) (rv_tmp l3_6)) hdf6 ?_
 exact ⟨_, rfl, (hS7.fin1 0 rfl (hc_5.trans (congrArg (io .i64 _) (rg_all c))))⟩

end Go.Proofs.Yteppjefmlibmoaa