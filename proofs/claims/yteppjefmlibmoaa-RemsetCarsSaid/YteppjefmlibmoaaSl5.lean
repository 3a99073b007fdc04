import Derived.Test.YteppjefmlibmoaaProg
import Derived.Test.YteppjefmlibmoaaSl4
namespace Go.Proofs.Yteppjefmlibmoaa
open Go.RowKit Go.Own Go.Own.R Go.Own.S


set_option maxHeartbeats 4000000 in
theorem kch_c {cv : Value} {c : List Int} {a : Int} {w : World} (h_cv : Ro w NoX (il .i64 cv c))  :
  Calls Try.prog 114 #[.agg #[cv], .int .i64 a] w fun e w' => e = .returned (.int .i64 (chE c a)) ∧ St w NoX [] w' := by
 refine calls_in 18 Try.func114 rfl rfl (by simp) (fun A0 Y0 hdf0 hargs => ?_)
 have l0_0 := hargs 0 (.agg #[cv]) rfl
 have l1_0 := hargs 1 (.int .i64 a) rfl
 clear hargs; replace Y0 : SzN A0 18 := ⟨Y0⟩
 have hS := St.nil w
 have bh_cv := SlN.le (sl_SlN h_cv.at)
 refine wp_seq_k fun K1 H1 => ?_
 refine region_in ?_
 refine W_boxS (zs := #[cv]) hS rfl rfl rfl l0_0 (by rfl) (fun g2 w2 c2 hc2 S2 => ?_)
 replace S2 : St w NoX [c2] w2 := S2
 refine W_v rfl rfl (V_asg rfl rfl) ?_
 refine W_end (gen_Q fun A3 E3 => ?_)
 have Y3 := szq E3
 have F3 := (fsE E3 (cq1 (ck (FS.n hdf0) rfl rfl) rfl)).c (lookE E3 1 (es2 rfl l1_0))
 clear E3 Y0 hdf0 l0_0 l1_0
 refine tk H1 ?_
 refine wp_seq_k fun K4 H4 => ?_
 refine wp_seq_k fun K5 H5 => ?_
 refine region_in ?_
 refine W_r rfl rfl (VR_ldA rfl (fg1 F3) (S2.obj 0 rfl hc2) Try.underlying27 rfl (by kernel_rfl)) ?_
 refine W_call rfl rfl rfl Try.func42 (by kernel_rfl) rfl (args1 (et rfl)) (kCk_c (S2.roC h_cv) ) ?_
 rintro _ w6 ⟨rfl, hP6⟩
 refine ⟨_, rfl, ?_⟩
 have S6 := S2.join hP6
 replace S6 : St w NoX [c2] w6 := S6
 refine W_v rfl rfl (V_mov rfl (et rfl)) ?_
 refine W_v rfl rfl (V_ext (v := .int .i64 ((ckS c).1)) rfl (et rfl) rfl) ?_
 refine W_v rfl rfl (V_ext (v := .int .i64 ((ckS c).2)) rfl (es rfl (et rfl)) rfl) ?_
 refine W_v rfl rfl (V_asg rfl (es rfl (et rfl))) ?_
 refine W_v rfl rfl (V_asg rfl (es rfl (et rfl))) ?_
 refine W_end (gen_Q fun A7 E7 => ?_)
 have Y7 := szq E7
 have F7 := fsE E7 (ck (cq6 F3 rfl) rfl rfl)
 clear E7 Y3 F3
 have S8 : St w NoX [] w6 := S6.sel [] (by decide) rfl
 refine tk H5 ?_
 refine wp_seq_k fun K9 H9 => ?_
 refine region_in ?_
 refine W_v rfl rfl (V_mov rfl (fg0 F7)) ?_
 refine W_v rfl rfl (V_neq rfl (et rfl) rfl) ?_
 refine W_end (gen_Q fun A10 E10 => ?_)
 have Y10 := szq E10
 have F10 := fsE E10 (ck (cq1 F7 rfl) rfl rfl)
 clear E10 Y7 F7
 refine tk H9 ?_
 refine cond_dec (fg0 F10) (fun c11 => ?_) (fun c11 => ?_)
 ·refine wp_seq_k fun K12 H12 => ?_
  refine region_in ?_
  refine W_v rfl rfl (V_mov rfl (fg1 F10)) ?_
  refine W_v rfl rfl (V_asg rfl (et rfl)) ?_
  refine W_end (gen_Q fun A13 E13 => ?_)
  have Y13 := szq E13
  have F13 := fsE E13 (ck (cq1 F10 rfl) rfl rfl)
  clear E13 Y10 F10
  refine tk H12 ?_
  refine wp_ret ?_
  refine then_ret ?_
  refine ret_in (results_1 Try.results114 (rv_tmp (fg0 F13))) F13.d ?_
  have h : chE c a = (ckS c).2 := (chE_ck (by omega))
  rw [h]
  exact ⟨rfl, S8.fin0⟩
 refine wp_skip ?_
 refine tk H4 ?_
 refine wp_seq_k fun K14 H14 => ?_
 refine wp_seq_k fun K15 H15 => ?_
 refine region_in ?_
 refine W_v rfl rfl (V_mov rfl (fg2 F10)) ?_
 refine W_call rfl rfl rfl Try.func125 (by kernel_rfl) rfl (args1 (et rfl)) (kadr_c (a := a)  ) ?_
 rintro _ w16 ⟨rfl, hP16⟩
 refine ⟨_, rfl, ?_⟩
 have S16 := S8.join hP16
 replace S16 : St w NoX [] w16 := S16
 refine W_v rfl rfl (V_notd rfl (et rfl)) ?_
 refine W_end (gen_Q fun A17 E17 => ?_)
 have Y17 := szq E17
 have F17 := fsE E17 (ck (cq2 F10 rfl) rfl rfl)
 clear E17 Y10 F10
 refine tk H15 ?_
 refine cond_dec (fg0 F17) (fun c18 => ?_) (fun c18 => ?_)
 ·refine wp_seq_k fun K19 H19 => ?_
  refine region_in ?_
  refine W_v rfl rfl (V_asg rfl rfl) ?_
  refine W_end (gen_Q fun A20 E20 => ?_)
  have Y20 := szq E20
  have F20 := fsE E20 (ck F17 rfl rfl)
  clear E20 Y17 F17
  refine tk H19 ?_
  refine wp_ret ?_
  refine then_ret ?_
  refine ret_in (results_1 Try.results114 (rv_tmp (fg0 F20))) F20.d ?_
  have h : chE c a = 7 := chE_rg (by omega) (by have hc := c18; simpa using hc)
  rw [h]
  exact ⟨rfl, S16.fin0⟩
 refine wp_skip ?_
 refine tk H14 ?_
 refine wp_seq_k fun K21 H21 => ?_
 refine region_in ?_
 refine W_v rfl rfl (V_asg rfl rfl) ?_
 refine W_end (gen_Q fun A22 E22 => ?_)
 have Y22 := szq E22
 have F22 := fsE E22 (ck F17 rfl rfl)
 clear E22 Y17 F17
 refine tk H21 ?_
 refine wp_ret ?_
 refine ret_in (results_1 Try.results114 (rv_tmp (fg0 F22))) F22.d ?_
 have h : chE c a = 0 := chE_ok (by omega) (by have hc := c18; simpa using hc)
 rw [h]
 exact ⟨rfl, S16.fin0⟩

set_option maxHeartbeats 4000000 in
theorem kAdd_c {cv : Value} {c : List Int} {a : Int} {w : World} (h_cv : Ro w NoX (il .i64 cv c))  :
  Calls Try.prog 87 #[.agg #[cv], .int .i64 a] w fun e w' => ∃ v, e = .returned (.tuple #[.agg #[v], .bool (adB c a), .int .i64 (chE c a)]) ∧ St w NoX [io .i64 (v) (adT c a)] w' := by
 refine calls_in 28 Try.func87 rfl rfl (by simp) (fun A0 hsz0 hdf0 hargs => ?_)
 have l0_0 := hargs 0 (.agg #[cv]) rfl
 have l1_0 := hargs 1 (.int .i64 a) rfl
 clear hargs; replace hsz0 : SzN A0 28 := ⟨hsz0⟩
 have hS := St.nil w
 have bh_cv := SlN.le (sl_SlN h_cv.at)
 refine wp_seq_k fun K1 H1 => ?_
 refine region_in ?_
 refine W_boxS (zs := #[cv]) hS rfl rfl rfl l0_0 (by rfl) (fun g2 w2 c2 hc2 S2 => ?_)
 replace S2 : St w NoX [c2] w2 := S2
 refine W_allocS (z := .agg #[.slice none 0 0]) (zs := #[.slice none 0 0]) S2 rfl rfl rfl (by kernel_rfl) (by rfl) (fun g3 w3 c3 hc3 S3 => ?_)
 replace S3 : St w NoX [c3, c2] w3 := S3
 refine W_v rfl rfl (V_asg rfl rfl) ?_
 refine W_v rfl rfl (V_asg rfl rfl) ?_
 refine W_end (gen_Q fun A4 E4 => ?_)
 have hsz4 := szq E4
 have F4 := (fsE E4 (cq2 (ck (ck (FS.n hdf0) rfl rfl) rfl rfl) rfl)).c (lookE E4 1 (es4 rfl l1_0))
 clear E4 hsz0 hdf0 l0_0 l1_0
 refine tk H1 ?_
 refine wp_seq_k fun K5 H5 => ?_
 refine wp_seq_k fun K6 H6 => ?_
 refine region_in ?_
 refine W_r rfl rfl (VR_ldA rfl (fg2 F4) (S3.obj 1 rfl hc2) Try.underlying27 rfl (by kernel_rfl)) ?_
 refine W_v rfl rfl (V_mov rfl (es rfl (fg0 F4))) ?_
 refine W_call rfl rfl rfl Try.func114 (by kernel_rfl) rfl (args2 (es rfl (et rfl)) (et rfl)) (kch_c (a := a) (S3.roC h_cv) ) ?_
 rintro _ w7 ⟨rfl, hP7⟩
 refine ⟨_, rfl, ?_⟩
 have S7 := S3.join hP7
 replace S7 : St w NoX [c3, c2] w7 := S7
 refine W_v rfl rfl (V_asg rfl (et rfl)) ?_
 refine W_end (gen_Q fun A8 E8 => ?_)
 have hsz8 := szq E8
 have F8 := fsE E8 (ck (cq3 F4 rfl) rfl rfl)
 clear E8 hsz4 F4
 refine tk H6 ?_
 refine wp_seq_k fun K9 H9 => ?_
 refine region_in ?_
 refine W_v rfl rfl (V_mov rfl (fg0 F8)) ?_
 refine W_v rfl rfl (V_neq rfl (et rfl) rfl) ?_
 refine W_end (gen_Q fun A10 E10 => ?_)
 have hsz10 := szq E10
 have F10 := fsE E10 (ck (cq1 F8 rfl) rfl rfl)
 clear E10 hsz8 F8
 refine tk H9 ?_
 refine cond_dec (fg0 F10) (fun c11 => ?_) (fun c11 => ?_)
 ·refine wp_seq_k fun K12 H12 => ?_
  refine region_in ?_
  refine W_v rfl rfl (V_bldS (n := 1) (z := .agg #[.slice none 0 0]) rfl (parts0) (by kernel_rfl) (by simp only [List.all_cons, List.all_nil, Bool.and_true] <;> rfl) (by kernel_rfl) (by simp only [List.foldl_cons, List.foldl_nil, Value.cells, List.setIfInBounds_toArray, List.set_cons_succ, List.set_cons_zero] <;> rfl)) ?_
  refine W_v rfl rfl (V_mov rfl (es rfl (fg1 F10))) ?_
  refine W_stAS 0 S7 rfl hc3 rfl rfl rfl (es2 rfl (fg3 F10)) (es rfl (et rfl)) (by first | (rw [List.all_toArray] <;> rfl) | (simp only [List.all_toArray, List.all_cons, List.all_nil] <;> rfl)) (by rfl) (by kernel_rfl) (fun w13 c13 hc13 S13 => ?_)
  replace S13 : St w NoX [c13, c2] w13 := S13
  refine W_v rfl rfl (V_asg rfl rfl) ?_
  refine W_v rfl rfl (V_asg rfl (es rfl (et rfl))) ?_
  refine W_end (gen_Q fun A14 E14 => ?_)
  have hsz14 := szq E14
  have F14 := fsE E14 (ck (ck (cq2 F10 rfl) rfl rfl) rfl rfl)
  clear E14 hsz10 F10
  have S15 : St w NoX [c13] w13 := S13.sel [0] (by decide) rfl
  refine tk H12 ?_
  refine wp_ret ?_
  refine then_ret ?_
  refine ret_in (results_3 Try.results87 (rv_cellA (fg5 F14) (S15.obj 0 rfl hc13) Try.underlying27 rfl (by kernel_rfl)) (rv_tmp (fg1 F14)) (rv_tmp (fg0 F14))) F14.d ?_
  obtain ⟨c16, hc16, S16⟩ := S15.pnil (s := 1)
  have r0 : adB c a = false := by unfold adB; exact decide_eq_false (by omega)
  have r1 : chE c a = (chE c a) := by omega
  rw [r0, r1]
  exact ⟨_, rfl, (S16.fin1 0 rfl (hc16.trans (by rw [show adT c a = [] by unfold adT; rw [if_pos (by omega)]] <;> rfl)))⟩
 obtain ⟨hG, ha⟩ := ch0 (c := c) (a := a) (by omega)
 have hpb := hG.bd
 have hh : chE c a = 0 := by omega
 refine wp_skip ?_
 refine tk H5 ?_
 refine wp_seq_k fun K17 H17 => ?_
 refine region_in ?_
 refine W_r rfl rfl (VR_ldA rfl (fg4 F10) (S7.obj 1 rfl hc2) Try.underlying27 rfl (by kernel_rfl)) ?_
 refine W_call rfl rfl rfl Try.func81 (by kernel_rfl) rfl (args1 (et rfl)) (kown_c (S7.roC h_cv) (by first | omega | with_reducible assumption)) ?_
 rintro _ w18 ⟨v_18, rfl, hP18⟩
 refine ⟨_, rfl, ?_⟩
 obtain ⟨c_18, hc_18, hP18⟩ := gen1 hP18
 have S18 := S7.join hP18
 replace S18 : St w NoX [c_18, c3, c2] w18 := S18
 refine W_v rfl rfl (V_asg rfl (et rfl)) ?_
 refine W_end (gen_Q fun A19 E19 => ?_)
 have hsz19 := szq E19
 have F19 := fsE E19 (ck (cq2 F10 rfl) rfl rfl)
 clear E19 hsz10 F10
 have S20 : St w NoX [c_18, c3] w18 := S18.sel [0, 1] (by decide) rfl
 refine tk H17 ?_
 refine wp_seq_k fun K21 H21 => ?_
 refine wp_seq_k fun K22 H22 => ?_
 refine region_in ?_
 refine W_v rfl rfl (V_mov rfl (fg0 F19)) ?_
 refine W_v rfl rfl (V_mov rfl (es rfl (fg3 F19))) ?_
 refine W_call rfl rfl rfl Try.func115 (by kernel_rfl) rfl (args2 (es rfl (et rfl)) (et rfl)) (kfind_c (a := a) (S20.chC 0 rfl hc_18).own (by first | with_reducible assumption | with_reducible exact hG.p2 | with_reducible exact hG2.p2 | (rw [hbl]; exact n1) | (simp only [List.length_set, List.length_replicate] <;> assumption)) (by first | omega | with_reducible assumption)) ?_
 rintro _ w23 ⟨rfl, hP23⟩
 refine ⟨_, rfl, ?_⟩
 have S23 := S20.join hP23
 replace S23 : St w NoX [c_18, c3] w23 := S23
 refine W_v rfl rfl (V_geq rfl (et rfl) rfl) ?_
 refine W_end (gen_Q fun A24 E24 => ?_)
 have hsz24 := szq E24
 have F24 := fsE E24 (ck (cq3 F19 rfl) rfl rfl)
 clear E24 hsz19 F19
 refine tk H22 ?_
 refine cond_dec (fg0 F24) (fun c25 => ?_) (fun c25 => ?_)
 ·refine wp_seq_k fun K26 H26 => ?_
  refine region_in ?_
  refine W_v rfl rfl (V_mov rfl (fg1 F24)) ?_
  refine W_v rfl rfl (V_bldS (n := 1) (z := .agg #[.slice none 0 0]) rfl (parts1 (et rfl)) (by kernel_rfl) (by simp only [List.all_cons, List.all_nil, SlN_one (ow_at (S23.chq 0 rfl hc_18)), Bool.and_true] <;> rfl) (by kernel_rfl) (by simp only [List.foldl_cons, List.foldl_nil, Value.cells, List.setIfInBounds_toArray, List.set_cons_succ, List.set_cons_zero] <;> rfl)) ?_
  refine W_stAS 1 S23 rfl hc3 rfl rfl rfl (es2 rfl (fg5 F24)) (et rfl) (by simp only [List.all_toArray, List.all_cons, List.all_nil, SlN_one (ow_at (S23.chq 0 rfl hc_18))] <;> rfl) (by rfl) (by kernel_rfl) (fun w27 c27 hc27 S27 => ?_)
  replace S27 : St w NoX [c_18, c27] w27 := S27
  refine W_v rfl rfl (V_asg rfl rfl) ?_
  refine W_v rfl rfl (V_asg rfl rfl) ?_
  refine W_end (gen_Q fun A28 E28 => ?_)
  have hsz28 := szq E28
  have F28 := fsE E28 (ck (ck (cq2 F24 rfl) rfl rfl) rfl rfl)
  clear E28 hsz24 F24
  refine tk H26 ?_
  refine wp_ret ?_
  refine then_ret ?_
  refine ret_in (results_3 Try.results87 (rv_cellA (fg7 F28) (S27.obj 1 rfl hc27) Try.underlying27 rfl (by kernel_rfl)) (rv_tmp (fg1 F28)) (rv_tmp (fg0 F28))) F28.d ?_
  have r0 : adB c a = false := by unfold adB; exact decide_eq_false (by omega)
  have r1 : chE c a = 0 := by omega
  rw [r0, r1]
  exact ⟨_, rfl, (S27.fin1 0 rfl (hc_18.trans (congrArg (io .i64 _) (by unfold adT; rw [if_neg (by omega), if_pos (by omega)]))))⟩
 refine wp_skip ?_
 refine tk H21 ?_
 refine wp_seq_k fun K29 H29 => ?_
 refine region_in ?_
 refine W_v rfl rfl (V_mov rfl (fg1 F24)) ?_
 refine W_v rfl rfl (V_mov rfl (es rfl (fg4 F24))) ?_
 obtain ⟨Y30, hP30, hR30, hF30, hB30⟩ := St.call (pre := [c_18]) (fr := [c3]) S23
 rw [hc_18] at hP30
 refine W_call rfl rfl rfl Try.func116 (by kernel_rfl) rfl (args2 (es rfl (et rfl)) (et rfl)) (kadd_c (a := a)  hP30 (by first | with_reducible assumption | with_reducible exact gd_new) (by first | omega | with_reducible assumption) (by first | with_reducible assumption | exact fnd_not (by assumption) (by omega) (by omega))) ?_
 rintro _ w31 ⟨v_31, rfl, hP31⟩
 refine ⟨_, rfl, ?_⟩
 obtain ⟨c_31, hc_31, hP31⟩ := gen1 hP31
 have S31 := hB30 _ _ hP31
 replace S31 : St w NoX [c_31, c3] w31 := S31
 refine W_v rfl rfl (V_bldS (n := 1) (z := .agg #[.slice none 0 0]) rfl (parts1 (et rfl)) (by kernel_rfl) (by simp only [List.all_cons, List.all_nil, SlN_one (ow_at (S31.chq 0 rfl hc_31)), Bool.and_true] <;> rfl) (by kernel_rfl) (by simp only [List.foldl_cons, List.foldl_nil, Value.cells, List.setIfInBounds_toArray, List.set_cons_succ, List.set_cons_zero] <;> rfl)) ?_
 refine W_stAS 1 S31 rfl hc3 rfl rfl rfl (es4 rfl (fg5 F24)) (et rfl) (by simp only [List.all_toArray, List.all_cons, List.all_nil, SlN_one (ow_at (S31.chq 0 rfl hc_31))] <;> rfl) (by rfl) (by kernel_rfl) (fun w32 c32 hc32 S32 => ?_)
 replace S32 : St w NoX [c_31, c32] w32 := S32
 refine W_v rfl rfl (V_asg rfl rfl) ?_
 refine W_v rfl rfl (V_asg rfl rfl) ?_
 refine W_end (gen_Q fun A33 E33 => ?_)
 have hsz33 := szq E33
 have F33 := fsE E33 (ck (ck (cq4 F24 rfl) rfl rfl) rfl rfl)
 clear E33 hsz24 F24
 refine tk H29 ?_
 refine wp_ret ?_
 refine ret_in (results_3 Try.results87 (rv_cellA (fg7 F33) (S32.obj 1 rfl hc32) Try.underlying27 rfl (by kernel_rfl)) (rv_tmp (fg1 F33)) (rv_tmp (fg0 F33))) F33.d ?_
 have r0 : adB c a = true := by unfold adB; exact decide_eq_true (by omega)
 have r1 : chE c a = 0 := by omega
 rw [r0, r1]
 exact ⟨_, rfl, (S32.fin1 0 rfl (hc_31.trans (congrArg (io .i64 _) (by unfold adT; rw [if_neg (by omega), if_neg (by omega)]))))⟩

set_option maxHeartbeats 4000000 in
theorem kDrop_c {cv : Value} {c : List Int} {a : Int} {w : World} (h_cv : Ro w NoX (il .i64 cv c))  :
  Calls Try.prog 88 #[.agg #[cv], .int .i64 a] w fun e w' => ∃ v, e = .returned (.tuple #[.agg #[v], .bool (hsB c a), .int .i64 (chE c a)]) ∧ St w NoX [io .i64 (v) (drT c a)] w' := by
 refine calls_in 31 Try.func88 rfl rfl (by simp) (fun A0 Y0 hdf0 hargs => ?_)
 have l0_0 := hargs 0 (.agg #[cv]) rfl
 have l1_0 := hargs 1 (.int .i64 a) rfl
 clear hargs; replace Y0 : SzN A0 31 := ⟨Y0⟩
 have hS := St.nil w
 have bh_cv := SlN.le (sl_SlN h_cv.at)
 refine wp_seq_k fun K1 H1 => ?_
 refine region_in ?_
 refine W_boxS (zs := #[cv]) hS rfl rfl rfl l0_0 (by rfl) (fun g2 w2 c2 hc2 S2 => ?_)
 replace S2 : St w NoX [c2] w2 := S2
 refine W_allocS (z := .agg #[.slice none 0 0]) (zs := #[.slice none 0 0]) S2 rfl rfl rfl (by kernel_rfl) (by rfl) (fun g3 w3 c3 hc3 S3 => ?_)
 replace S3 : St w NoX [c3, c2] w3 := S3
 refine W_v rfl rfl (V_asg rfl rfl) ?_
 refine W_v rfl rfl (V_asg rfl rfl) ?_
 refine W_end (gen_Q fun A4 E4 => ?_)
 have Y4 := szq E4
 have F4 := (fsE E4 (cq2 (ck (ck (FS.n hdf0) rfl rfl) rfl rfl) rfl)).c (lookE E4 1 (es4 rfl l1_0))
 clear E4 Y0 hdf0 l0_0 l1_0
 refine tk H1 ?_
 refine wp_seq_k fun K5 H5 => ?_
 refine wp_seq_k fun K6 H6 => ?_
 refine region_in ?_
 refine W_r rfl rfl (VR_ldA rfl (fg2 F4) (S3.obj 1 rfl hc2) Try.underlying27 rfl (by kernel_rfl)) ?_
 refine W_v rfl rfl (V_mov rfl (es rfl (fg0 F4))) ?_
 refine W_call rfl rfl rfl Try.func114 (by kernel_rfl) rfl (args2 (es rfl (et rfl)) (et rfl)) (kch_c (a := a) (S3.roC h_cv) ) ?_
 rintro _ w7 ⟨rfl, hP7⟩
 refine ⟨_, rfl, ?_⟩
 have S7 := S3.join hP7
 replace S7 : St w NoX [c3, c2] w7 := S7
 refine W_v rfl rfl (V_asg rfl (et rfl)) ?_
 refine W_end (gen_Q fun A8 E8 => ?_)
 have Y8 := szq E8
 have F8 := fsE E8 (ck (cq3 F4 rfl) rfl rfl)
 clear E8 Y4 F4
 refine tk H6 ?_
 refine wp_seq_k fun K9 H9 => ?_
 refine region_in ?_
 refine W_v rfl rfl (V_mov rfl (fg0 F8)) ?_
 refine W_v rfl rfl (V_neq rfl (et rfl) rfl) ?_
 refine W_end (gen_Q fun A10 E10 => ?_)
 have Y10 := szq E10
 have F10 := fsE E10 (ck (cq1 F8 rfl) rfl rfl)
 clear E10 Y8 F8
 refine tk H9 ?_
 refine cond_dec (fg0 F10) (fun c11 => ?_) (fun c11 => ?_)
 ·refine wp_seq_k fun K12 H12 => ?_
  refine region_in ?_
  refine W_v rfl rfl (V_bldS (n := 1) (z := .agg #[.slice none 0 0]) rfl (parts0) (by kernel_rfl) (by simp only [List.all_cons, List.all_nil, Bool.and_true] <;> rfl) (by kernel_rfl) (by simp only [List.foldl_cons, List.foldl_nil, Value.cells, List.setIfInBounds_toArray, List.set_cons_succ, List.set_cons_zero] <;> rfl)) ?_
  refine W_v rfl rfl (V_mov rfl (es rfl (fg1 F10))) ?_
  refine W_stAS 0 S7 rfl hc3 rfl rfl rfl (es2 rfl (fg3 F10)) (es rfl (et rfl)) (by first | (rw [List.all_toArray] <;> rfl) | (simp only [List.all_toArray, List.all_cons, List.all_nil] <;> rfl)) (by rfl) (by kernel_rfl) (fun w13 c13 hc13 S13 => ?_)
  replace S13 : St w NoX [c13, c2] w13 := S13
  refine W_v rfl rfl (V_asg rfl rfl) ?_
  refine W_v rfl rfl (V_asg rfl (es rfl (et rfl))) ?_
  refine W_end (gen_Q fun A14 E14 => ?_)
  have Y14 := szq E14
  have F14 := fsE E14 (ck (ck (cq2 F10 rfl) rfl rfl) rfl rfl)
  clear E14 Y10 F10
  have S15 : St w NoX [c13] w13 := S13.sel [0] (by decide) rfl
  refine tk H12 ?_
  refine wp_ret ?_
  refine then_ret ?_
  refine ret_in (results_3 Try.results88 (rv_cellA (fg5 F14) (S15.obj 0 rfl hc13) Try.underlying27 rfl (by kernel_rfl)) (rv_tmp (fg1 F14)) (rv_tmp (fg0 F14))) F14.d ?_
  obtain ⟨c16, hc16, S16⟩ := S15.pnil (s := 1)
  have r0 : hsB c a = false := by unfold hsB; exact decide_eq_false (by omega)
  have r1 : chE c a = (chE c a) := by omega
  rw [r0, r1]
  exact ⟨_, rfl, (S16.fin1 0 rfl (hc16.trans (by rw [show drT c a = [] by unfold drT; rw [if_pos (by omega)]] <;> rfl)))⟩
 obtain ⟨hG, ha⟩ := ch0 (c := c) (a := a) (by omega)
 have hpb := hG.bd
 have hh : chE c a = 0 := by omega
 have hfb := fnd_bd (c := c) (by omega) a
 refine wp_skip ?_
 refine tk H5 ?_
 refine wp_seq_k fun K17 H17 => ?_
 refine region_in ?_
 refine W_r rfl rfl (VR_ldA rfl (fg4 F10) (S7.obj 1 rfl hc2) Try.underlying27 rfl (by kernel_rfl)) ?_
 refine W_call rfl rfl rfl Try.func81 (by kernel_rfl) rfl (args1 (et rfl)) (kown_c (S7.roC h_cv) (by first | omega | with_reducible assumption)) ?_
 rintro _ w18 ⟨v_18, rfl, hP18⟩
 refine ⟨_, rfl, ?_⟩
 obtain ⟨c_18, hc_18, hP18⟩ := gen1 hP18
 have S18 := S7.join hP18
 replace S18 : St w NoX [c_18, c3, c2] w18 := S18
 refine W_v rfl rfl (V_asg rfl (et rfl)) ?_
 refine W_end (gen_Q fun A19 E19 => ?_)
 have Y19 := szq E19
 have F19 := fsE E19 (ck (cq2 F10 rfl) rfl rfl)
 clear E19 Y10 F10
 have S20 : St w NoX [c_18, c3] w18 := S18.sel [0, 1] (by decide) rfl
 refine tk H17 ?_
 refine wp_seq_k fun K21 H21 => ?_
 refine region_in ?_
 refine W_v rfl rfl (V_mov rfl (fg0 F19)) ?_
 refine W_v rfl rfl (V_mov rfl (es rfl (fg3 F19))) ?_
 refine W_call rfl rfl rfl Try.func115 (by kernel_rfl) rfl (args2 (es rfl (et rfl)) (et rfl)) (kfind_c (a := a) (S20.chC 0 rfl hc_18).own (by first | with_reducible assumption | with_reducible exact hG.p2 | with_reducible exact hG2.p2 | (rw [hbl]; exact n1) | (simp only [List.length_set, List.length_replicate] <;> assumption)) (by first | omega | with_reducible assumption)) ?_
 rintro _ w22 ⟨rfl, hP22⟩
 refine ⟨_, rfl, ?_⟩
 have S22 := S20.join hP22
 replace S22 : St w NoX [c_18, c3] w22 := S22
 refine W_v rfl rfl (V_asg rfl (et rfl)) ?_
 refine W_end (gen_Q fun A23 E23 => ?_)
 have Y23 := szq E23
 have F23 := fsE E23 (ck (cq3 F19 rfl) rfl rfl)
 clear E23 Y19 F19
 refine tk H21 ?_
 refine wp_seq_k fun K24 H24 => ?_
 refine wp_seq_k fun K25 H25 => ?_
 refine region_in ?_
 refine W_v rfl rfl (V_mov rfl (fg0 F23)) ?_
 refine W_v rfl rfl (V_geq rfl (et rfl) rfl) ?_
 refine W_end (gen_Q fun A26 E26 => ?_)
 have Y26 := szq E26
 have F26 := fsE E26 (ck (cq1 F23 rfl) rfl rfl)
 clear E26 Y23 F23
 refine tk H25 ?_
 refine cond_dec (fg0 F26) (fun c27 => ?_) (fun c27 => ?_)
 ·refine region_in ?_
  refine W_v rfl rfl (V_mov rfl (fg2 F26)) ?_
  refine W_v rfl rfl (V_mov rfl (es rfl (fg1 F26))) ?_
  have k28 : (fnd c a).toNat < c.length := by first | omega | (simp only [List.length_cons, List.length_nil]; omega) | (simp only [List.length_set]; omega) | decide
  obtain ⟨y28, hy28⟩ := get_some (xs := c) (k := (fnd c a).toNat) k28
  obtain ⟨B28, O28, C28, hv28⟩ := (SlN.blk (ow_at (S22.chq 0 rfl hc_18)) (by first | omega | (simp only [List.length_cons, List.length_nil]; omega) | (simp only [List.length_set]; omega) | decide))
  refine W_v rfl rfl (V_ixS (off := O28 + ((fnd c a).toNat)) 1 ((fnd c a).toNat) rfl (es rfl (et rfl)) (et rfl) hv28 (by omega) k28 Try.underlying25 (by kernel_rfl) (congrArg _ (Nat.mul_one _))) ?_
  refine W_stE 0 S22 rfl hc_18 hv28 rfl rfl rfl (et rfl) rfl (by rfl) rfl (by first | (simp only [List.length_map]; omega) | omega) (by kernel_rfl) (fun w29 c29 hc29 S29 => ?_)
  replace hc29 : c29 = io .i64 v_18 (c.set ((fnd c a).toNat) (-1)) := hc29.trans (by simp [io, bo, List.map_set] <;> rfl)
  replace S29 : St w NoX [c29, c3] w29 := S29
  refine W_end (gen_Q fun A30 E30 => ?_)
  have Y30 := szq E30
  have F30 := fsE E30 (cq3 F26 rfl)
  clear E30 Y26 F26
  refine tk H24 ?_
  refine wp_seq_k fun K31 H31 => ?_
  refine region_in ?_
  refine W_v rfl rfl (V_mov rfl (fg2 F30)) ?_
  refine W_v rfl rfl (V_bldS (n := 1) (z := .agg #[.slice none 0 0]) rfl (parts1 (et rfl)) (by kernel_rfl) (by simp only [List.all_cons, List.all_nil, SlN_one (ow_at (S29.chq 0 rfl hc29)), Bool.and_true] <;> rfl) (by kernel_rfl) (by simp only [List.foldl_cons, List.foldl_nil, Value.cells, List.setIfInBounds_toArray, List.set_cons_succ, List.set_cons_zero] <;> rfl)) ?_
  refine W_v rfl rfl (V_mov rfl (es2 rfl (fg1 F30))) ?_
  refine W_v rfl rfl (V_geq rfl (et rfl) rfl) ?_
  refine W_stAS 1 S29 rfl hc3 rfl rfl rfl (es4 rfl (fg6 F30)) (es2 rfl (et rfl)) (by simp only [List.all_toArray, List.all_cons, List.all_nil, SlN_one (ow_at (S29.chq 0 rfl hc29))] <;> rfl) (by rfl) (by kernel_rfl) (fun w32 c32 hc32 S32 => ?_)
  replace S32 : St w NoX [c29, c32] w32 := S32
  refine W_v rfl rfl (V_asg rfl (et rfl)) ?_
  refine W_v rfl rfl (V_asg rfl rfl) ?_
  refine W_end (gen_Q fun A33 E33 => ?_)
  have Y33 := szq E33
  have F33 := fsE E33 (ck (ck (cq4 F30 rfl) rfl rfl) rfl rfl)
  clear E33 Y30 F30
  refine tk H31 ?_
  refine wp_ret ?_
  refine ret_in (results_3 Try.results88 (rv_cellA (fg8 F33) (S32.obj 1 rfl hc32) Try.underlying27 rfl (by kernel_rfl)) (rv_tmp (fg1 F33)) (rv_tmp (fg0 F33))) F33.d ?_
  have r0 : hsB c a = decide (0 ≤ (fnd c a)) := by unfold hsB; exact decide_eq_decide.2 (by omega)
  have r1 : chE c a = 0 := by omega
  rw [r0, r1]
  exact ⟨_, rfl, (S32.fin1 0 rfl (hc29.trans (congrArg (io .i64 _) (by unfold drT drpT; rw [if_neg (by omega), if_pos (by omega)]))))⟩
 refine wp_skip ?_
 refine tk H24 ?_
 refine wp_seq_k fun K34 H34 => ?_
 refine region_in ?_
 refine W_v rfl rfl (V_mov rfl (fg2 F26)) ?_
 refine W_v rfl rfl (V_bldS (n := 1) (z := .agg #[.slice none 0 0]) rfl (parts1 (et rfl)) (by kernel_rfl) (by simp only [List.all_cons, List.all_nil, SlN_one (ow_at (S22.chq 0 rfl hc_18)), Bool.and_true] <;> rfl) (by kernel_rfl) (by simp only [List.foldl_cons, List.foldl_nil, Value.cells, List.setIfInBounds_toArray, List.set_cons_succ, List.set_cons_zero] <;> rfl)) ?_
 refine W_v rfl rfl (V_mov rfl (es2 rfl (fg1 F26))) ?_
 refine W_v rfl rfl (V_geq rfl (et rfl) rfl) ?_
 refine W_stAS 1 S22 rfl hc3 rfl rfl rfl (es4 rfl (fg6 F26)) (es2 rfl (et rfl)) (by simp only [List.all_toArray, List.all_cons, List.all_nil, SlN_one (ow_at (S22.chq 0 rfl hc_18))] <;> rfl) (by rfl) (by kernel_rfl) (fun w35 c35 hc35 S35 => ?_)
 replace S35 : St w NoX [c_18, c35] w35 := S35
 refine W_v rfl rfl (V_asg rfl (et rfl)) ?_
 refine W_v rfl rfl (V_asg rfl rfl) ?_
 refine W_end (gen_Q fun A36 E36 => ?_)
 have Y36 := szq E36
 have F36 := fsE E36 (ck (ck (cq4 F26 rfl) rfl rfl) rfl rfl)
 clear E36 Y26 F26
 refine tk H34 ?_
 refine wp_ret ?_
 refine ret_in (results_3 Try.results88 (rv_cellA (fg8 F36) (S35.obj 1 rfl hc35) Try.underlying27 rfl (by kernel_rfl)) (rv_tmp (fg1 F36)) (rv_tmp (fg0 F36))) F36.d ?_
 have r0 : hsB c a = decide (0 ≤ (fnd c a)) := by unfold hsB; exact decide_eq_decide.2 (by omega)
 have r1 : chE c a = 0 := by omega
 rw [r0, r1]
 exact ⟨_, rfl, (S35.fin1 0 rfl (hc_18.trans (congrArg (io .i64 _) (by unfold drT drpT; rw [if_neg (by omega), if_neg (by omega)]))))⟩

set_option maxHeartbeats 4000000 in
theorem kLen_c {cv : Value} {c : List Int} {w : World} (h_cv : Ro w NoX (il .i64 cv c))  :
  Calls Try.prog 51 #[.agg #[cv]] w fun e w' => e = .returned (.tuple #[.int .i64 (lnN c), .int .i64 (ckS c).2]) ∧ St w NoX [] w' := by
 refine calls_in 23 Try.func51 rfl rfl (by simp) (fun A0 Y0 hdf0 hargs => ?_)
 have l0_0 := hargs 0 (.agg #[cv]) rfl
 clear hargs; replace Y0 : SzN A0 23 := ⟨Y0⟩
 have hS := St.nil w
 have bh_cv := SlN.le (sl_SlN h_cv.at)
 refine wp_seq_k fun K1 H1 => ?_
 refine region_in ?_
 refine W_boxS (zs := #[cv]) hS rfl rfl rfl l0_0 (by rfl) (fun g2 w2 c2 hc2 S2 => ?_)
 replace S2 : St w NoX [c2] w2 := S2
 refine W_v rfl rfl (V_asg rfl rfl) ?_
 refine W_v rfl rfl (V_asg rfl rfl) ?_
 refine W_end (gen_Q fun A3 E3 => ?_)
 have Y3 := szq E3
 have F3 := fsE E3 (cq2 (ck (FS.n hdf0) rfl rfl) rfl)
 clear E3 Y0 hdf0 l0_0
 refine tk H1 ?_
 refine wp_seq_k fun K4 H4 => ?_
 refine wp_seq_k fun K5 H5 => ?_
 refine region_in ?_
 refine W_r rfl rfl (VR_ldA rfl (fg0 F3) (S2.obj 0 rfl hc2) Try.underlying27 rfl (by kernel_rfl)) ?_
 refine W_call rfl rfl rfl Try.func42 (by kernel_rfl) rfl (args1 (et rfl)) (kCk_c (S2.roC h_cv) ) ?_
 rintro _ w6 ⟨rfl, hP6⟩
 refine ⟨_, rfl, ?_⟩
 have S6 := S2.join hP6
 replace S6 : St w NoX [c2] w6 := S6
 refine W_v rfl rfl (V_mov rfl (et rfl)) ?_
 refine W_v rfl rfl (V_ext (v := .int .i64 ((ckS c).1)) rfl (et rfl) rfl) ?_
 refine W_v rfl rfl (V_ext (v := .int .i64 ((ckS c).2)) rfl (es rfl (et rfl)) rfl) ?_
 refine W_v rfl rfl (V_asg rfl (es rfl (et rfl))) ?_
 refine W_v rfl rfl (V_asg rfl (es rfl (et rfl))) ?_
 refine W_end (gen_Q fun A7 E7 => ?_)
 have Y7 := szq E7
 have F7 := fsE E7 (ck (cq6 F3 rfl) rfl rfl)
 clear E7 Y3 F3
 refine tk H5 ?_
 refine wp_seq_k fun K8 H8 => ?_
 refine region_in ?_
 refine W_v rfl rfl (V_mov rfl (fg0 F7)) ?_
 refine W_v rfl rfl (V_neq rfl (et rfl) rfl) ?_
 refine W_end (gen_Q fun A9 E9 => ?_)
 have Y9 := szq E9
 have F9 := fsE E9 (ck (cq1 F7 rfl) rfl rfl)
 clear E9 Y7 F7
 refine tk H8 ?_
 refine cond_dec (fg0 F9) (fun c10 => ?_) (fun c10 => ?_)
 ·refine wp_seq_k fun K11 H11 => ?_
  refine region_in ?_
  refine W_v rfl rfl (V_mov rfl (fg1 F9)) ?_
  refine W_v rfl rfl (V_asg rfl rfl) ?_
  refine W_v rfl rfl (V_asg rfl (es rfl (et rfl))) ?_
  refine W_end (gen_Q fun A12 E12 => ?_)
  have Y12 := szq E12
  have F12 := fsE E12 (ck (ck (cq1 F9 rfl) rfl rfl) rfl rfl)
  clear E12 Y9 F9
  have S13 : St w NoX [] w6 := S6.sel [] (by decide) rfl
  refine tk H11 ?_
  refine wp_ret ?_
  refine then_ret ?_
  refine ret_in (results_2 Try.results51 (rv_tmp (fg1 F12)) (rv_tmp (fg0 F12))) F12.d ?_
  have r0 : lnN c = 0 := by unfold lnN; rw [if_pos (by omega)]
  rw [r0]
  exact ⟨rfl, S13.fin0⟩
 have hG : Gd c := ck_iff.1 (by omega)
 have hpb := hG.bd
 refine wp_skip ?_
 refine tk H4 ?_
 refine wp_seq_k fun K14 H14 => ?_
 refine region_in ?_
 refine W_v rfl rfl (V_fa (off' := 0) rfl (fg2 F9) Try.underlying27 rfl (by decide +kernel) rfl) ?_
 refine W_r rfl rfl (VR_ldC rfl (et rfl) (cell_box (v := cv) (S6.obj 0 rfl hc2) rfl) Try.underlying25 rfl) ?_
 refine W_call rfl rfl rfl Try.func82 (by kernel_rfl) rfl (args1 (et rfl)) (kcnt_c (S6.roC h_cv) ) ?_
 rintro _ w15 ⟨rfl, hP15⟩
 refine ⟨_, rfl, ?_⟩
 have S15 := S6.join hP15
 replace S15 : St w NoX [c2] w15 := S15
 refine W_v rfl rfl (V_mov rfl (et rfl)) ?_
 refine W_v rfl rfl (V_ext (v := .int .i64 (((usd c : Nat) : Int))) rfl (et rfl) rfl) ?_
 refine W_v rfl rfl (V_ext (v := .int .i64 (((adr c : Nat) : Int))) rfl (es rfl (et rfl)) rfl) ?_
 refine W_v rfl rfl (V_asg rfl (es rfl (et rfl))) ?_
 refine W_v rfl rfl (V_asg rfl (es rfl (et rfl))) ?_
 refine W_end (gen_Q fun A16 E16 => ?_)
 have Y16 := szq E16
 have F16 := fsE E16 (ck (cq7 F9 rfl) rfl rfl)
 clear E16 Y9 F9
 have S17 : St w NoX [] w15 := S15.sel [] (by decide) rfl
 refine tk H14 ?_
 refine wp_seq_k fun K18 H18 => ?_
 refine region_in ?_
 refine W_v rfl rfl (V_mov rfl (fg0 F16)) ?_
 refine W_v rfl rfl (V_asg rfl (et rfl)) ?_
 refine W_v rfl rfl (V_asg rfl rfl) ?_
 refine W_end (gen_Q fun A19 E19 => ?_)
 have Y19 := szq E19
 have F19 := fsE E19 (ck (ck (cq1 F16 rfl) rfl rfl) rfl rfl)
 clear E19 Y16 F16
 refine tk H18 ?_
 refine wp_ret ?_
 refine ret_in (results_2 Try.results51 (rv_tmp (fg1 F19)) (rv_tmp (fg0 F19))) F19.d ?_
 have r0 : lnN c = ((adr c : Nat) : Int) := by unfold lnN; rw [if_neg (by omega)]
 have r1 : (ckS c).2 = 0 := by omega
 rw [r0, r1]
 exact ⟨rfl, S17.fin0⟩

set_option maxHeartbeats 4000000 in
theorem kList_c {cv : Value} {c : List Int} {w : World} (h_cv : Ro w NoX (il .i64 cv c))  :
  Calls Try.prog 44 #[.agg #[cv]] w fun e w' => ∃ v, e = .returned (.tuple #[v, .int .i64 (ckS c).2]) ∧ St w NoX [io .i64 (v) (lsT c)] w' := by
 refine calls_in 17 Try.func44 rfl rfl (by simp) (fun A0 Y0 hdf0 hargs => ?_)
 have l0_0 := hargs 0 (.agg #[cv]) rfl
 clear hargs; replace Y0 : SzN A0 17 := ⟨Y0⟩
 have hS := St.nil w
 have bh_cv := SlN.le (sl_SlN h_cv.at)
 refine wp_seq_k fun K1 H1 => ?_
 refine region_in ?_
 refine W_boxS (zs := #[cv]) hS rfl rfl rfl l0_0 (by rfl) (fun g2 w2 c2 hc2 S2 => ?_)
 replace S2 : St w NoX [c2] w2 := S2
 refine W_v rfl rfl (V_asg rfl rfl) ?_
 refine W_v rfl rfl (V_asg rfl rfl) ?_
 refine W_end (gen_Q fun A3 E3 => ?_)
 have Y3 := szq E3
 have F3 := fsE E3 (cq2 (ck (FS.n hdf0) rfl rfl) rfl)
 clear E3 Y0 hdf0 l0_0
 refine tk H1 ?_
 refine wp_seq_k fun K4 H4 => ?_
 refine wp_seq_k fun K5 H5 => ?_
 refine region_in ?_
 refine W_r rfl rfl (VR_ldA rfl (fg0 F3) (S2.obj 0 rfl hc2) Try.underlying27 rfl (by kernel_rfl)) ?_
 refine W_call rfl rfl rfl Try.func42 (by kernel_rfl) rfl (args1 (et rfl)) (kCk_c (S2.roC h_cv) ) ?_
 rintro _ w6 ⟨rfl, hP6⟩
 refine ⟨_, rfl, ?_⟩
 have S6 := S2.join hP6
 replace S6 : St w NoX [c2] w6 := S6
 refine W_v rfl rfl (V_mov rfl (et rfl)) ?_
 refine W_v rfl rfl (V_ext (v := .int .i64 ((ckS c).1)) rfl (et rfl) rfl) ?_
 refine W_v rfl rfl (V_ext (v := .int .i64 ((ckS c).2)) rfl (es rfl (et rfl)) rfl) ?_
 refine W_v rfl rfl (V_asg rfl (es rfl (et rfl))) ?_
 refine W_v rfl rfl (V_asg rfl (es rfl (et rfl))) ?_
 refine W_end (gen_Q fun A7 E7 => ?_)
 have Y7 := szq E7
 have F7 := fsE E7 (ck (cq6 F3 rfl) rfl rfl)
 clear E7 Y3 F3
 refine tk H5 ?_
 refine wp_seq_k fun K8 H8 => ?_
 refine region_in ?_
 refine W_v rfl rfl (V_mov rfl (fg0 F7)) ?_
 refine W_v rfl rfl (V_neq rfl (et rfl) rfl) ?_
 refine W_end (gen_Q fun A9 E9 => ?_)
 have Y9 := szq E9
 have F9 := fsE E9 (ck (cq1 F7 rfl) rfl rfl)
 clear E9 Y7 F7
 refine tk H8 ?_
 refine cond_dec (fg0 F9) (fun c10 => ?_) (fun c10 => ?_)
 ·refine wp_seq_k fun K11 H11 => ?_
  refine region_in ?_
  refine W_v rfl rfl (V_mov rfl (fg1 F9)) ?_
  refine W_v rfl rfl (V_asg rfl rfl) ?_
  refine W_v rfl rfl (V_asg rfl (es rfl (et rfl))) ?_
  refine W_end (gen_Q fun A12 E12 => ?_)
  have Y12 := szq E12
  have F12 := fsE E12 (ck (ck (cq1 F9 rfl) rfl rfl) rfl rfl)
  clear E12 Y9 F9
  have S13 : St w NoX [] w6 := S6.sel [] (by decide) rfl
  refine tk H11 ?_
  refine wp_ret ?_
  refine then_ret ?_
  refine ret_in (results_2 Try.results44 (rv_tmp (fg1 F12)) (rv_tmp (fg0 F12))) F12.d ?_
  obtain ⟨c14, hc14, S14⟩ := S13.pnil (s := 1)
  exact ⟨_, rfl, (S14.fin1 0 rfl (hc14.trans (by rw [show lsT c = [] by unfold lsT; rw [if_pos (by omega)]] <;> rfl)))⟩
 have hG : Gd c := ck_iff.1 (by omega)
 have hpb := hG.bd
 refine wp_skip ?_
 refine tk H4 ?_
 refine wp_seq_k fun K15 H15 => ?_
 refine region_in ?_
 refine W_v rfl rfl (V_fa (off' := 0) rfl (fg2 F9) Try.underlying27 rfl (by decide +kernel) rfl) ?_
 refine W_r rfl rfl (VR_ldC rfl (et rfl) (cell_box (v := cv) (S6.obj 0 rfl hc2) rfl) Try.underlying25 rfl) ?_
 refine W_call rfl rfl rfl Try.func74 (by kernel_rfl) rfl (args1 (et rfl)) (ksr_c (S6.roC h_cv) (by first | omega | with_reducible assumption) (by first | omega | with_reducible assumption) (by first | with_reducible assumption | with_reducible exact hG.rng | with_reducible exact p1.rng | with_reducible exact hr2) (by first | with_reducible assumption | with_reducible exact hG.dst | with_reducible exact p1.dst | with_reducible exact hd2)) ?_
 rintro _ w16 ⟨v_16, rfl, hP16⟩
 refine ⟨_, rfl, ?_⟩
 obtain ⟨c_16, hc_16, hP16⟩ := gen1 hP16
 have S16 := S6.join hP16
 replace S16 : St w NoX [c_16, c2] w16 := S16
 refine W_v rfl rfl (V_asg rfl (et rfl)) ?_
 refine W_v rfl rfl (V_asg rfl rfl) ?_
 refine W_end (gen_Q fun A17 E17 => ?_)
 have Y17 := szq E17
 have F17 := fsE E17 (ck (ck (cq3 F9 rfl) rfl rfl) rfl rfl)
 clear E17 Y9 F9
 have S18 : St w NoX [c_16] w16 := S16.sel [0] (by decide) rfl
 refine tk H15 ?_
 refine wp_ret ?_
 refine ret_in (results_2 Try.results44 (rv_tmp (fg1 F17)) (rv_tmp (fg0 F17))) F17.d ?_
 have r0 : (ckS c).2 = 0 := by omega
 rw [r0]
 exact ⟨_, rfl, (S18.fin1 0 rfl (hc_16.trans (congrArg (io .i64 _) (by unfold lsT; rw [if_neg (by omega)]))))⟩

set_option maxHeartbeats 4000000 in
theorem kRange_c {cv : Value} {c : List Int} {f : Int} {t : Int} {w : World} (h_cv : Ro w NoX (il .i64 cv c))  :
  Calls Try.prog 46 #[.agg #[cv], .int .i64 f, .int .i64 t] w fun e w' => ∃ v, e = .returned (.tuple #[v, .int .i64 (ckS c).2]) ∧ St w NoX [io .i64 (v) (rgT c f t)] w' := by
 refine calls_in 19 Try.func46 rfl rfl (by simp) (fun A0 hsz0 hdf0 hargs => ?_)
 have l0_0 := hargs 0 (.agg #[cv]) rfl
 have l1_0 := hargs 1 (.int .i64 f) rfl
 have l2_0 := hargs 2 (.int .i64 t) rfl
 clear hargs; replace hsz0 : SzN A0 19 := ⟨hsz0⟩
 have hS := St.nil w
 have bh_cv := SlN.le (sl_SlN h_cv.at)
 refine wp_seq_k fun K1 H1 => ?_
 refine region_in ?_
 refine W_boxS (zs := #[cv]) hS rfl rfl rfl l0_0 (by rfl) (fun g2 w2 c2 hc2 S2 => ?_)
 replace S2 : St w NoX [c2] w2 := S2
 refine W_boxS (zs := #[.int .i64 (f)]) S2 rfl rfl rfl (es rfl l1_0) (by rfl) (fun g3 w3 c3 hc3 S3 => ?_)
 replace S3 : St w NoX [c3, c2] w3 := S3
 refine W_boxS (zs := #[.int .i64 (t)]) S3 rfl rfl rfl (es2 rfl l2_0) (by rfl) (fun g4 w4 c4 hc4 S4 => ?_)
 replace S4 : St w NoX [c4, c3, c2] w4 := S4
 refine W_v rfl rfl (V_asg rfl rfl) ?_
 refine W_v rfl rfl (V_asg rfl rfl) ?_
 refine W_end (gen_Q fun A5 E5 => ?_)
 have hsz5 := szq E5
 have F5 := fsE E5 (cq2 (ck (ck (ck (FS.n hdf0) rfl rfl) rfl rfl) rfl rfl) rfl)
 clear E5 hsz0 hdf0 l0_0 l1_0 l2_0
 refine tk H1 ?_
 refine wp_seq_k fun K6 H6 => ?_
 refine region_in ?_
 refine W_r rfl rfl (VR_ldA rfl (fg2 F5) (S4.obj 2 rfl hc2) Try.underlying27 rfl (by kernel_rfl)) ?_
 refine W_call rfl rfl rfl Try.func44 (by kernel_rfl) rfl (args1 (et rfl)) (kList_c (S4.roC h_cv) ) ?_
 rintro _ w7 ⟨v_7, rfl, hP7⟩
 refine ⟨_, rfl, ?_⟩
 obtain ⟨c_7, hc_7, hP7⟩ := gen1 hP7
 have S7 := S4.join hP7
 replace S7 : St w NoX [c_7, c4, c3, c2] w7 := S7
 refine W_v rfl rfl (V_mov rfl (et rfl)) ?_
 refine W_v rfl rfl (V_ext (v := v_7) rfl (et rfl) rfl) ?_
 refine W_v rfl rfl (V_ext (v := .int .i64 ((ckS c).2)) rfl (es rfl (et rfl)) rfl) ?_
 refine W_v rfl rfl (V_asg rfl (es rfl (et rfl))) ?_
 refine W_v rfl rfl (V_asg rfl (es rfl (et rfl))) ?_
 refine W_end (gen_Q fun A8 E8 => ?_)
 have hsz8 := szq E8
 have F8 := fsE E8 (ck (ck (cq5 F5 rfl) rfl rfl) rfl rfl)
 clear E8 hsz5 F5
 have S9 : St w NoX [c_7, c4, c3] w7 := S7.sel [0, 1, 2] (by decide) rfl
 refine tk H6 ?_
 refine wp_seq_k fun K10 H10 => ?_
 refine region_in ?_
 refine W_v rfl rfl (V_mov rfl (fg1 F8)) ?_
 refine W_v rfl rfl (V_mkf rfl (args0) (args2 (es rfl (fg3 F8)) (es rfl (fg2 F8)))) ?_
 obtain ⟨Y11, hP11, hR11, hF11, hB11⟩ := St.call (pre := [c_7]) (fr := [c4, c3]) S9
 rw [hc_7] at hP11
 refine W_call rfl rfl rfl Try.func76 (by kernel_rfl) rfl (args2 (es rfl (et rfl)) (et rfl)) (kdlr_c (f := f) (gf := g3) (t := t) (gt := g4) (hc3 ▸ hF11 1 _ rfl) (hc4 ▸ hF11 0 _ rfl) hP11 ) ?_
 rintro _ w12 ⟨u_12, rfl, hcap_12, hP12⟩
 refine ⟨_, rfl, ?_⟩
 obtain ⟨c_12, hc_12, hP12⟩ := gen1 hP12
 have S12 := hB11 _ _ hP12
 replace S12 : St w NoX [c_12, c4, c3] w12 := S12
 refine W_v rfl rfl (V_mov rfl (es3 rfl (fg0 F8))) ?_
 refine W_v rfl rfl (V_asg rfl (es rfl (et rfl))) ?_
 refine W_v rfl rfl (V_asg rfl (es rfl (et rfl))) ?_
 refine W_end (gen_Q fun A13 E13 => ?_)
 have hsz13 := szq E13
 have F13 := fsE E13 (ck (ck (cq4 F8 rfl) rfl rfl) rfl rfl)
 clear E13 hsz8 F8
 have S14 : St w NoX [c_12] w12 := S12.sel [0] (by decide) rfl
 refine tk H10 ?_
 refine wp_ret ?_
 refine ret_in (results_2 Try.results46 (rv_tmp (fg1 F13)) (rv_tmp (fg0 F13))) F13.d ?_
 exact ⟨_, rfl, (S14.fin1 0 rfl (hc_12))⟩

set_option maxHeartbeats 4000000 in
theorem kPurge_c {cv : Value} {c : List Int} {f : Int} {t : Int} {w : World} (h_cv : Ro w NoX (il .i64 cv c))  :
  Calls Try.prog 50 #[.agg #[cv], .int .i64 f, .int .i64 t] w fun e w' => ∃ v, e = .returned (.tuple #[.agg #[v], .int .i64 (pgN c f t), .int .i64 (ckS c).2]) ∧ St w NoX [io .i64 (v) (pgT c f t)] w' := by
 refine calls_in 53 Try.func50 rfl rfl (by simp) (fun A0 Y0 hdf0 hargs => ?_)
 have l0_0 := hargs 0 (.agg #[cv]) rfl
 have l1_0 := hargs 1 (.int .i64 f) rfl
 have l2_0 := hargs 2 (.int .i64 t) rfl
 clear hargs; replace Y0 : SzN A0 53 := ⟨Y0⟩
 have hS := St.nil w
 have bh_cv := SlN.le (sl_SlN h_cv.at)
 refine wp_seq_k fun K1 H1 => ?_
 refine region_in ?_
 refine W_boxS (zs := #[cv]) hS rfl rfl rfl l0_0 (by rfl) (fun g2 w2 c2 hc2 S2 => ?_)
 replace S2 : St w NoX [c2] w2 := S2
 refine W_allocS (z := .agg #[.slice none 0 0]) (zs := #[.slice none 0 0]) S2 rfl rfl rfl (by kernel_rfl) (by rfl) (fun g3 w3 c3 hc3 S3 => ?_)
 replace S3 : St w NoX [c3, c2] w3 := S3
 refine W_v rfl rfl (V_asg rfl rfl) ?_
 refine W_v rfl rfl (V_asg rfl rfl) ?_
 refine W_end (gen_Q fun A4 E4 => ?_)
 have Y4 := szq E4
 have F4 := ((fsE E4 (cq1 (ck (ck (ck (FS.n hdf0) rfl rfl) rfl rfl) rfl rfl) rfl)).c (lookE E4 1 (es4 rfl l1_0))).c (lookE E4 2 (es4 rfl l2_0))
 clear E4 Y0 hdf0 l0_0 l1_0 l2_0
 refine tk H1 ?_
 refine wp_seq_k fun K5 H5 => ?_
 refine wp_seq_k fun K6 H6 => ?_
 refine region_in ?_
 refine W_r rfl rfl (VR_ldA rfl (fg4 F4) (S3.obj 1 rfl hc2) Try.underlying27 rfl (by kernel_rfl)) ?_
 refine W_call rfl rfl rfl Try.func42 (by kernel_rfl) rfl (args1 (et rfl)) (kCk_c (S3.roC h_cv) ) ?_
 rintro _ w7 ⟨rfl, hP7⟩
 refine ⟨_, rfl, ?_⟩
 have S7 := S3.join hP7
 replace S7 : St w NoX [c3, c2] w7 := S7
 refine W_v rfl rfl (V_mov rfl (et rfl)) ?_
 refine W_v rfl rfl (V_ext (v := .int .i64 ((ckS c).1)) rfl (et rfl) rfl) ?_
 refine W_v rfl rfl (V_ext (v := .int .i64 ((ckS c).2)) rfl (es rfl (et rfl)) rfl) ?_
 refine W_v rfl rfl (V_asg rfl (es rfl (et rfl))) ?_
 refine W_v rfl rfl (V_asg rfl (es rfl (et rfl))) ?_
 refine W_end (gen_Q fun A8 E8 => ?_)
 have Y8 := szq E8
 have F8 := fsE E8 (ck (cq6 F4 rfl) rfl rfl)
 clear E8 Y4 F4
 refine tk H6 ?_
 refine wp_seq_k fun K9 H9 => ?_
 refine region_in ?_
 refine W_v rfl rfl (V_mov rfl (fg0 F8)) ?_
 refine W_v rfl rfl (V_neq rfl (et rfl) rfl) ?_
 refine W_end (gen_Q fun A10 E10 => ?_)
 have Y10 := szq E10
 have F10 := fsE E10 (ck (cq1 F8 rfl) rfl rfl)
 clear E10 Y8 F8
 refine tk H9 ?_
 refine cond_dec (fg0 F10) (fun c11 => ?_) (fun c11 => ?_)
 ·refine wp_seq_k fun K12 H12 => ?_
  refine region_in ?_
  refine W_v rfl rfl (V_bldS (n := 1) (z := .agg #[.slice none 0 0]) rfl (parts0) (by kernel_rfl) (by simp only [List.all_cons, List.all_nil, Bool.and_true] <;> rfl) (by kernel_rfl) (by simp only [List.foldl_cons, List.foldl_nil, Value.cells, List.setIfInBounds_toArray, List.set_cons_succ, List.set_cons_zero] <;> rfl)) ?_
  refine W_v rfl rfl (V_mov rfl (es rfl (fg1 F10))) ?_
  refine W_stAS 0 S7 rfl hc3 rfl rfl rfl (es2 rfl (fg5 F10)) (es rfl (et rfl)) (by first | (rw [List.all_toArray] <;> rfl) | (simp only [List.all_toArray, List.all_cons, List.all_nil] <;> rfl)) (by rfl) (by kernel_rfl) (fun w13 c13 hc13 S13 => ?_)
  replace S13 : St w NoX [c13, c2] w13 := S13
  refine W_v rfl rfl (V_asg rfl rfl) ?_
  refine W_v rfl rfl (V_asg rfl (es rfl (et rfl))) ?_
  refine W_end (gen_Q fun A14 E14 => ?_)
  have Y14 := szq E14
  have F14 := fsE E14 (ck (ck (cq2 (fx4 F10) rfl) rfl rfl) rfl rfl)
  clear E14 Y10 F10
  have S15 : St w NoX [c13] w13 := S13.sel [0] (by decide) rfl
  refine tk H12 ?_
  refine wp_ret ?_
  refine then_ret ?_
  refine ret_in (results_3 Try.results50 (rv_cellA (fg6 F14) (S15.obj 0 rfl hc13) Try.underlying27 rfl (by kernel_rfl)) (rv_tmp (fg1 F14)) (rv_tmp (fg0 F14))) F14.d ?_
  obtain ⟨c16, hc16, S16⟩ := S15.pnil (s := 1)
  have r0 : pgN c f t = 0 := by unfold pgN; rw [if_pos (by omega)]
  rw [r0]
  exact ⟨_, rfl, (S16.fin1 0 rfl (hc16.trans (by rw [show pgT c f t = [] by unfold pgT; rw [if_pos (by omega)]] <;> rfl)))⟩
 have hG : Gd c := ck_iff.1 (by omega)
 have hpb := hG.bd
 refine wp_skip ?_
 refine tk H5 ?_
 refine wp_seq_k fun K17 H17 => ?_
 refine region_in ?_
 refine W_r rfl rfl (VR_ldA rfl (fg6 F10) (S7.obj 1 rfl hc2) Try.underlying27 rfl (by kernel_rfl)) ?_
 refine W_call rfl rfl rfl Try.func81 (by kernel_rfl) rfl (args1 (et rfl)) (kown_c (S7.roC h_cv) (by first | omega | with_reducible assumption)) ?_
 rintro _ w18 ⟨v_18, rfl, hP18⟩
 refine ⟨_, rfl, ?_⟩
 obtain ⟨c_18, hc_18, hP18⟩ := gen1 hP18
 have S18 := S7.join hP18
 replace S18 : St w NoX [c_18, c3, c2] w18 := S18
 refine W_v rfl rfl (V_asg rfl (et rfl)) ?_
 refine W_end (gen_Q fun A19 E19 => ?_)
 have Y19 := szq E19
 have F19 := fsE E19 (ck (cq2 F10 rfl) rfl rfl)
 clear E19 Y10 F10
 have S20 : St w NoX [c_18, c3] w18 := S18.sel [0, 1] (by decide) rfl
 refine tk H17 ?_
 refine wp_seq_k fun K21 H21 => ?_
 refine wp_seq_k fun K22 H22 => ?_
 refine region_in ?_
 refine W_v rfl rfl (V_mov rfl (fg0 F19)) ?_
 refine W_v rfl rfl (V_lenS rfl (et rfl) (ow_at (S20.chq 0 rfl hc_18)) Try.underlying25) ?_
 refine W_v rfl rfl (V_mov rfl rfl) ?_
 refine W_end (gen_Q fun A23 E23 => ?_)
 have Y23 := szq E23
 have F23 := fsE E23 (ck (ck (ck F19 rfl rfl) rfl rfl) rfl rfl)
 clear E23 Y19 F19
 refine tk H22 ?_
 refine wp_block ?_
 -- loop 6
 refine loopX (fun mz A' w' => SzN A' 53 ∧ A'.defers = [] ∧ (∃ (k : Nat), (mz = c.length - k) ∧ (k ≤ c.length) ∧ ((pgK c f t k).length = c.length) ∧ ((c.take k).countP (pgB f t) ≤ k) ∧ (EV A' (.tmp 27) = .int .i64 (k : Int)) ∧ (EV A' (.tmp 7) = .int .i64 ((((c.take k).countP (pgB f t) : Nat)) : Int)) ∧ (EV A' (.tmp 1) = EV A23 (.tmp 1)) ∧ (EV A' (.tmp 2) = EV A23 (.tmp 2)) ∧ (EV A' (.tmp 6) = EV A23 (.tmp 6)) ∧ (EV A' (.tmp 11) = EV A23 (.tmp 11)) ∧ (EV A' (.tmp 25) = EV A23 (.tmp 25)) ∧ (EV A' (.tmp 26) = EV A23 (.tmp 26)) ∧ (St w NoX [io .i64 v_18 (pgK c f t k), bx g3 27 #[.slice none 0 0]] w'))) (c.length - 0) ⟨Y23, F23.d, 0, rfl, (by omega), (pgK_len _ _ _ _), (cP_bd _ _ _), (((fg0 F23)).trans (by first | rfl | (simp; done) | (congr 1; omega))), (((fg8 F23)).trans (rfl)), rfl, rfl, rfl, rfl, rfl, rfl, (by have q0 : c_18 = io .i64 v_18 (pgK c f t 0) := hc_18.trans ((congrArg (io .i64 _) (pgK_zero _ _ _).symm)); have q1 := hc3; subst q0 q1; exact S20)⟩ ?_
 clear S20 hc_18 hc3
 rintro n24 A24 w24 ⟨Y24, hdf24, k, hm24, hk, hpl, hcb, l27_24, l7_24, u1_24, u2_24, u6_24, u11_24, u25_24, u26_24, S24⟩
 have l1_24 := u1_24.trans (fg7 F23)
 have l2_24 := u2_24.trans (fg6 F23)
 have l6_24 := u6_24.trans (fg9 F23)
 have l11_24 := u11_24.trans (fg3 F23)
 have l25_24 := u25_24.trans (fg2 F23)
 have l26_24 := u26_24.trans (fg1 F23)
 obtain ⟨c_24, c3_24, hc_24, hc3_24, S24⟩ := gen2 S24
 refine wp_seq_k fun K25 H25 => ?_
 refine region_in ?_
 refine W_v rfl rfl (V_lss rfl l27_24 l26_24) ?_
 refine W_end (gen_Q fun A26 E26 => ?_)
 have Y26 := szq E26
 have F26 := ((((((((fsE E26 (ck (FS.n hdf24) rfl rfl)).c (lookE E26 1 (es rfl l1_24))).c (lookE E26 2 (es rfl l2_24))).c (lookE E26 6 (es rfl l6_24))).c (lookE E26 7 (es rfl l7_24))).c (lookE E26 11 (es rfl l11_24))).c (lookE E26 25 (es rfl l25_24))).c (lookE E26 26 (es rfl l26_24))).c (lookE E26 27 (es rfl l27_24))
 clear E26 Y24 hdf24 l27_24 l7_24 l1_24 l2_24 l6_24 l11_24 l25_24 l26_24
 refine tk H25 ?_
 refine wp_seq_k fun K27 H27 => ?_
 refine cond_dec (fg8 F26) (fun c28 => ?_) (fun c28 => ?_)
 ·refine wp_skip ?_
  refine tk H27 ?_
  refine wp_seq_k fun K29 H29 => ?_
  refine wp_block ?_
  refine wp_seq_k fun K30 H30 => ?_
  refine region_in ?_
  refine W_v rfl rfl (V_mov rfl (fg0 F26)) ?_
  have k31 : k < (pgK c f t k).length := by first | omega | (simp only [List.length_cons, List.length_nil]; omega) | (simp only [List.length_set]; omega) | decide
  obtain ⟨y31, hy31⟩ := get_some (xs := (pgK c f t k)) (k := k) k31
  have hq31 := pgK_get (by omega) hy31
  obtain ⟨B31, O31, C31, hv31⟩ := (SlN.blk (ow_at (S24.chq 0 rfl hc_24)) (by first | omega | (simp only [List.length_cons, List.length_nil]; omega) | (simp only [List.length_set]; omega) | decide))
  refine W_v rfl rfl (V_ixS (off := O31 + k) 1 (k) rfl (es rfl (fg2 F26)) (es rfl (fg0 F26)) hv31 (by omega) k31 Try.underlying25 (by kernel_rfl) (congrArg _ (Nat.mul_one _))) ?_
  refine W_r rfl rfl (VR_ldC rfl (et rfl) ((ow_at (S24.chq 0 rfl hc_24)).cell hv31 (map_get hy31)) Try.underlying3 rfl) ?_
  refine W_v rfl rfl (V_asg rfl (es2 rfl (et rfl))) ?_
  refine W_v rfl rfl (V_asg rfl (es rfl (et rfl))) ?_
  refine W_end (gen_Q fun A32 E32 => ?_)
  have Y32 := szq E32
  have F32 := fsE E32 (ck (ck (cq3 F26 rfl) rfl rfl) rfl rfl)
  clear E32 Y26 F26
  refine tk H30 ?_
  refine wp_seq_k fun K33 H33 => ?_
  refine region_in ?_
  refine W_v rfl rfl (V_mov rfl (fg0 F32)) ?_
  refine W_v rfl rfl (V_gtr rfl (et rfl) rfl) ?_
  refine W_split rfl rfl (V_mov rfl (et rfl)) (fun c34 => ?_) (fun c34 => ?_)
  ·refine W_v rfl (wanted_t rfl rfl (et rfl) (ez rfl)) (V_mov rfl (es3 rfl (fg0 F32))) ?_
   refine W_v rfl (wanted_t rfl rfl (es rfl (et rfl)) (ez rfl)) (V_mov rfl (es4 rfl (fg9 F32))) ?_
   refine W_v rfl (wanted_t rfl rfl (es2 rfl (et rfl)) (ez rfl)) (V_geq rfl (es rfl (et rfl)) (et rfl)) ?_
   refine W_v rfl rfl (V_pickT rfl (es3 rfl (et rfl)) (et rfl)) ?_
   refine W_split rfl rfl (V_mov rfl (et rfl)) (fun c35 => ?_) (fun c35 => ?_)
   ·refine W_v rfl (wanted_t rfl rfl (et rfl) (ez rfl)) (V_mov rfl (es8 rfl (fg0 F32))) ?_
    refine W_v rfl (wanted_t rfl rfl (es rfl (et rfl)) (ez rfl)) (V_mov rfl (es8 rfl (es rfl (fg8 F32)))) ?_
    refine W_v rfl (wanted_t rfl rfl (es2 rfl (et rfl)) (ez rfl)) (V_lss rfl (es rfl (et rfl)) (et rfl)) ?_
    refine W_v rfl rfl (V_pickT rfl (es3 rfl (et rfl)) (et rfl)) ?_
    refine W_end (gen_Q fun A36 E36 => ?_)
    have Y36 := szq E36
    have F36 := fsE E36 (ck (ck (ck (ck (cq2 (ck (ck (ck (cq3 F32 rfl) rfl rfl) rfl rfl) rfl rfl) rfl) rfl rfl) rfl rfl) rfl rfl) rfl rfl)
    clear E36 Y32 F32
    refine tk H33 ?_
    refine cond_dec (fg0 F36) (fun c37 => ?_) (fun c37 => ?_)
    ·refine wp_seq_k fun K38 H38 => ?_
     refine region_in ?_
     refine W_v rfl rfl (V_mov rfl (fg12 F36)) ?_
     refine W_v rfl rfl (V_mov rfl (es rfl (fg8 F36))) ?_
     refine W_v rfl rfl (V_ixS (off := O31 + k) 1 (k) rfl (es rfl (et rfl)) (et rfl) hv31 (by omega) k31 Try.underlying25 (by kernel_rfl) (congrArg _ (Nat.mul_one _))) ?_
     refine W_stE 0 S24 rfl hc_24 hv31 rfl rfl rfl (et rfl) rfl (by rfl) rfl (by first | (simp only [List.length_map]; omega) | omega) (by kernel_rfl) (fun w40 c40 hc40 S40 => ?_)
     replace hc40 : c40 = io .i64 v_18 ((pgK c f t k).set k (-1)) := hc40.trans (by simp [io, bo, List.map_set] <;> rfl)
     replace S40 : St w NoX [c40, c3_24] w40 := S40
     refine W_end (gen_Q fun A41 E41 => ?_)
     have Y41 := szq E41
     have F41 := fsE E41 (cq3 F36 rfl)
     clear E41 Y36 F36
     refine tk H38 ?_
     refine region_in ?_
     refine W_v rfl rfl (V_mov rfl (fg13 F41)) ?_
     refine W_v rfl rfl (V_add rfl (et rfl) rfl (by omega) (by omega)) ?_
     refine W_v rfl rfl (V_asg rfl (et rfl)) ?_
     refine W_end (gen_Q fun A42 E42 => ?_)
     have Y42 := szq E42
     have F42 := fsE E42 (ck (cq2 (fx13 F41) rfl) rfl rfl)
     clear E42 Y41 F41
     refine inb_n ?_
     refine tk H29 ?_
     refine region_in ?_
     refine W_v rfl rfl (V_add rfl (fg10 F42) rfl (by omega) (by omega)) ?_
     refine W_v rfl rfl (V_mov rfl (et rfl)) ?_
     refine W_end (gen_Q fun A43 E43 => ?_)
     have Y43 := szq E43
     have F43 := fsE E43 (ck (cq1 (fx10 F42) rfl) rfl rfl)
     clear E43 Y42 F42
     refine then_n ⟨c.length - (k + 1), by simp only [hm24]; omega, Y43, F43.d, (k + 1), rfl, (by omega), (pgK_len _ _ _ _), (cP_bd _ _ _), (((fg0 F43)).trans (by first | rfl | (simp; done) | (congr 1; omega))), (((fg1 F43)).trans ((by rw [(pgK_set (f := f) (t := t) hq31 (by omega)).2] <;> rfl))), (((fg16 F43)).trans (fg7 F23).symm), (((fg15 F43)).trans (fg6 F23).symm), (((fg14 F43)).trans (fg9 F23).symm), (((fg13 F43)).trans (fg3 F23).symm), (((fg12 F43)).trans (fg2 F23).symm), (((fg11 F43)).trans (fg1 F23).symm), (by have q0 : c40 = io .i64 v_18 (pgK c f t (k + 1)) := hc40.trans ((congrArg (io .i64 _) (pgK_set (f := f) (t := t) hq31 (by omega)).1)); have q1 := hc3_24; subst q0 q1; exact S40)⟩
    refine wp_skip ?_
    refine inb_n ?_
    refine tk H29 ?_
    refine region_in ?_
    refine W_v rfl rfl (V_add rfl (fg9 F36) rfl (by omega) (by omega)) ?_
    refine W_v rfl rfl (V_mov rfl (et rfl)) ?_
    refine W_end (gen_Q fun A44 E44 => ?_)
    have Y44 := szq E44
    have F44 := fsE E44 (ck (cq1 (fx9 F36) rfl) rfl rfl)
    clear E44 Y36 F36
    refine then_n ⟨c.length - (k + 1), by simp only [hm24]; omega, Y44, F44.d, (k + 1), rfl, (by omega), (pgK_len _ _ _ _), (cP_bd _ _ _), (((fg0 F44)).trans (by first | rfl | (simp; done) | (congr 1; omega))), (((fg13 F44)).trans ((by rw [(pgK_skip (f := f) (t := t) hq31 (by omega)).2] <;> rfl))), (((fg16 F44)).trans (fg7 F23).symm), (((fg15 F44)).trans (fg6 F23).symm), (((fg14 F44)).trans (fg9 F23).symm), (((fg12 F44)).trans (fg3 F23).symm), (((fg11 F44)).trans (fg2 F23).symm), (((fg10 F44)).trans (fg1 F23).symm), (by have q0 : c_24 = io .i64 v_18 (pgK c f t (k + 1)) := hc_24.trans ((congrArg (io .i64 _) (pgK_skip (f := f) (t := t) hq31 (by omega)).1)); have q1 := hc3_24; subst q0 q1; exact S24)⟩
   refine W_off rfl (wanted_f rfl rfl (et rfl) (ez rfl) rfl) ?_
   refine W_off rfl (wanted_f rfl rfl (es rfl (et rfl)) (ez rfl) rfl) ?_
   refine W_off rfl (wanted_f rfl rfl (es2 rfl (et rfl)) (ez rfl) rfl) ?_
   refine W_v rfl rfl (V_pickF rfl (es3 rfl (et rfl)) rfl) ?_
   refine W_end (gen_Q fun A45 E45 => ?_)
   have Y45 := szq E45
   have F45 := fsE E45 (ck (ck (ck (ck (cq2 (ck (ck (ck (cq3 F32 rfl) rfl rfl) rfl rfl) rfl rfl) rfl) rfl rfl) rfl rfl) rfl rfl) rfl rfl)
   clear E45 Y32 F32
   refine tk H33 ?_
   refine cond_f (fg0 F45) ?_
   refine wp_skip ?_
   refine inb_n ?_
   refine tk H29 ?_
   refine region_in ?_
   refine W_v rfl rfl (V_add rfl (fg9 F45) rfl (by omega) (by omega)) ?_
   refine W_v rfl rfl (V_mov rfl (et rfl)) ?_
   refine W_end (gen_Q fun A46 E46 => ?_)
   have Y46 := szq E46
   have F46 := fsE E46 (ck (cq1 (fx9 F45) rfl) rfl rfl)
   clear E46 Y45 F45
   refine then_n ⟨c.length - (k + 1), by simp only [hm24]; omega, Y46, F46.d, (k + 1), rfl, (by omega), (pgK_len _ _ _ _), (cP_bd _ _ _), (((fg0 F46)).trans (by first | rfl | (simp; done) | (congr 1; omega))), (((fg13 F46)).trans ((by rw [(pgK_skip (f := f) (t := t) hq31 (by omega)).2] <;> rfl))), (((fg16 F46)).trans (fg7 F23).symm), (((fg15 F46)).trans (fg6 F23).symm), (((fg14 F46)).trans (fg9 F23).symm), (((fg12 F46)).trans (fg3 F23).symm), (((fg11 F46)).trans (fg2 F23).symm), (((fg10 F46)).trans (fg1 F23).symm), (by have q0 : c_24 = io .i64 v_18 (pgK c f t (k + 1)) := hc_24.trans ((congrArg (io .i64 _) (pgK_skip (f := f) (t := t) hq31 (by omega)).1)); have q1 := hc3_24; subst q0 q1; exact S24)⟩
  refine W_off rfl (wanted_f rfl rfl (et rfl) (ez rfl) rfl) ?_
  refine W_off rfl (wanted_f rfl rfl (es rfl (et rfl)) (ez rfl) rfl) ?_
  refine W_off rfl (wanted_f rfl rfl (es2 rfl (et rfl)) (ez rfl) rfl) ?_
  refine W_v rfl rfl (V_pickF rfl (es3 rfl (et rfl)) rfl) ?_
  refine W_v rfl rfl (V_mov rfl (et rfl)) ?_
  refine W_off rfl (wanted_f rfl rfl (et rfl) (ez rfl) rfl) ?_
  refine W_off rfl (wanted_f rfl rfl (es rfl (et rfl)) (ez rfl) rfl) ?_
  refine W_off rfl (wanted_f rfl rfl (es2 rfl (et rfl)) (ez rfl) rfl) ?_
  refine W_v rfl rfl (V_pickF rfl (es3 rfl (et rfl)) rfl) ?_
  refine W_end (gen_Q fun A47 E47 => ?_)
  have Y47 := szq E47
  have F47 := fsE E47 (ck (ck (ck (ck (cq2 (ck (ck (ck (cq3 F32 rfl) rfl rfl) rfl rfl) rfl rfl) rfl) rfl rfl) rfl rfl) rfl rfl) rfl rfl)
  clear E47 Y32 F32
  refine tk H33 ?_
  refine cond_f (fg0 F47) ?_
  refine wp_skip ?_
  refine inb_n ?_
  refine tk H29 ?_
  refine region_in ?_
  refine W_v rfl rfl (V_add rfl (fg9 F47) rfl (by omega) (by omega)) ?_
  refine W_v rfl rfl (V_mov rfl (et rfl)) ?_
  refine W_end (gen_Q fun A48 E48 => ?_)
  have Y48 := szq E48
  have F48 := fsE E48 (ck (cq1 (fx9 F47) rfl) rfl rfl)
  clear E48 Y47 F47
  refine then_n ⟨c.length - (k + 1), by simp only [hm24]; omega, Y48, F48.d, (k + 1), rfl, (by omega), (pgK_len _ _ _ _), (cP_bd _ _ _), (((fg0 F48)).trans (by first | rfl | (simp; done) | (congr 1; omega))), (((fg13 F48)).trans ((by rw [(pgK_skip (f := f) (t := t) hq31 (by omega)).2] <;> rfl))), (((fg16 F48)).trans (fg7 F23).symm), (((fg15 F48)).trans (fg6 F23).symm), (((fg14 F48)).trans (fg9 F23).symm), (((fg12 F48)).trans (fg3 F23).symm), (((fg11 F48)).trans (fg2 F23).symm), (((fg10 F48)).trans (fg1 F23).symm), (by have q0 : c_24 = io .i64 v_18 (pgK c f t (k + 1)) := hc_24.trans ((congrArg (io .i64 _) (pgK_skip (f := f) (t := t) hq31 (by omega)).1)); have q1 := hc3_24; subst q0 q1; exact S24)⟩
 refine wp_exit ?_
 refine then_exit ?_
 refine then_exit ?_
 refine inb_hit ?_
 refine tk H21 ?_
 refine wp_seq_k fun K49 H49 => ?_
 refine region_in ?_
 refine W_v rfl rfl (V_mov rfl (fg3 F26)) ?_
 refine W_v rfl rfl (V_bldS (n := 1) (z := .agg #[.slice none 0 0]) rfl (parts1 (et rfl)) (by kernel_rfl) (by simp only [List.all_cons, List.all_nil, SlN_one (ow_at (S24.chq 0 rfl hc_24)), Bool.and_true] <;> rfl) (by kernel_rfl) (by simp only [List.foldl_cons, List.foldl_nil, Value.cells, List.setIfInBounds_toArray, List.set_cons_succ, List.set_cons_zero] <;> rfl)) ?_
 refine W_v rfl rfl (V_mov rfl (es2 rfl (fg4 F26))) ?_
 refine W_stAS 1 S24 rfl hc3_24 rfl rfl rfl (es3 rfl (fg5 F26)) (es rfl (et rfl)) (by simp only [List.all_toArray, List.all_cons, List.all_nil, SlN_one (ow_at (S24.chq 0 rfl hc_24))] <;> rfl) (by rfl) (by kernel_rfl) (fun w50 c50 hc50 S50 => ?_)
 replace S50 : St w NoX [c_24, c50] w50 := S50
 refine W_v rfl rfl (V_asg rfl (et rfl)) ?_
 refine W_v rfl rfl (V_asg rfl rfl) ?_
 refine W_end (gen_Q fun A51 E51 => ?_)
 have Y51 := szq E51
 have F51 := fsE E51 (ck (ck (cq3 (fx4 F26) rfl) rfl rfl) rfl rfl)
 clear E51 Y26 F26
 refine tk H49 ?_
 refine wp_ret ?_
 refine ret_in (results_3 Try.results50 (rv_cellA (fg6 F51) (S50.obj 1 rfl hc50) Try.underlying27 rfl (by kernel_rfl)) (rv_tmp (fg1 F51)) (rv_tmp (fg0 F51))) F51.d ?_
 have r0 : pgN c f t = ((((c.take k).countP (pgB f t) : Nat)) : Int) := by unfold pgN; rw [if_neg (by omega), List.take_of_length_le (by omega)]
 have r1 : (ckS c).2 = 0 := by omega
 rw [r0, r1]
 exact ⟨_, rfl, (S50.fin1 0 rfl (hc_24.trans (congrArg (io .i64 _) (by unfold pgT; rw [if_neg (by omega), pgK_all (by omega)]))))⟩

end Go.Proofs.Yteppjefmlibmoaa