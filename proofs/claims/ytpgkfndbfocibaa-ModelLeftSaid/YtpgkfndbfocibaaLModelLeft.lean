import Derived.Test.YtpgkfndbfocibaaProg
import Derived.Test.YtpgkfndbfocibaaMs14
import Derived.Test.YtpgkfndbfocibaaSep29g
import Derived.Test.YtpgkfndbfocibaaPl29i
namespace Go.Proofs.Ytpgkfndbfocibaa
open Go.RowKit Go.Own Go.Own.R Go.Own.G Go.Own.Gr Go.Own.Ml


set_option maxHeartbeats 4000000 in
theorem ModelLeft_c {C : Int} {N : Int} {Z : Int} {K : Int} {Q : Int} {lv : Value} {os : List OpC} {fv : Value} {full : List Int} {w : World} (h_lv : Ro w NoX (rl 7 opC lv os)) (h_fv : Ro w NoX (il .i64 fv full))  :
  Calls Try.prog 3 #[.agg #[.int .i64 C, .int .i64 N, .int .i64 Z, .int .i64 K, .int .i64 Q], lv, fv] w fun e w' => e = .returned (.bool true) ∧ St w NoX [] w' := by
 refine calls_in 102 Try.func3 rfl rfl (by simp) (fun A0 Y0 hdf0 hargs => ?_)
 have l0_0 := hargs 0 (.agg #[.int .i64 C, .int .i64 N, .int .i64 Z, .int .i64 K, .int .i64 Q]) rfl
 have l1_0 := hargs 1 (lv) rfl
 have l2_0 := hargs 2 (fv) rfl
 clear hargs; replace Y0 : SzN A0 102 := ⟨Y0⟩
 have hS := St.nil w
 have bh_lv := SlN.le (sl_SlN h_lv.at)
 have bh_fv := SlN.le (sl_SlN h_fv.at)
 refine wp_seq_k fun K1 H1 => ?_
 refine region_in ?_
 refine W_boxS (zs := #[.int .i64 (C), .int .i64 (N), .int .i64 (Z), .int .i64 (K), .int .i64 (Q)]) hS rfl rfl rfl l0_0 (by rfl) (fun g2 w2 c2 hc2 S2 => ?_)
 replace S2 : St w NoX [c2] w2 := S2
 refine W_v rfl rfl (V_asg rfl rfl) ?_
 refine W_end (gen_Q fun A3 E3 => ?_)
 have Y3 := szq E3
 have F3 := ((fsE E3 (cq1 (ck (FS.n hdf0) rfl rfl) rfl)).c (lookE E3 1 (es2 rfl l1_0))).c (lookE E3 2 (es2 rfl l2_0))
 clear E3 Y0 hdf0 l0_0 l1_0 l2_0
 refine tk H1 ?_
 refine wp_seq_k fun K4 H4 => ?_
 refine wp_seq_k fun K5 H5 => ?_
 refine region_in ?_
 refine W_v rfl rfl (V_mov rfl (fg1 F3)) ?_
 refine W_v rfl rfl (V_mov rfl (es rfl (fg0 F3))) ?_
 refine W_call rfl rfl rfl Try.func8 (by kernel_rfl) rfl (args2 (es rfl (et rfl)) (et rfl)) (kfar_c (S2.roC h_lv) (S2.roC h_fv) ) ?_
 rintro _ w6 ⟨rfl, hP6⟩
 refine ⟨_, rfl, ?_⟩
 have S6 := S2.join hP6
 replace S6 : St w NoX [c2] w6 := S6
 refine W_split rfl rfl (V_mov rfl (et rfl)) (fun c7 => ?_) (fun c7 => ?_)
 ·refine xof rfl rfl rfl (et rfl) ?_
  refine xof rfl rfl rfl (es rfl (et rfl)) ?_
  refine xof rfl rfl rfl (es2 rfl (et rfl)) ?_
  refine W_v rfl rfl (V_pickT rfl (es3 rfl (et rfl)) rfl) ?_
  refine W_end (gen_Q fun A8 E8 => ?_)
  have Y8 := szq E8
  have F8 := fsE E8 (ck (cq7 F3 rfl) rfl rfl)
  clear E8 Y3 F3
  refine tk H5 ?_
  refine cond_t (fg0 F8) ?_
  refine wp_seq_k fun K9 H9 => ?_
  refine region_in ?_
  refine W_call rfl rfl rfl Try.func9 (by kernel_rfl) rfl (args0) (kshn_c  ) ?_
  rintro _ w10 ⟨rfl, hP10⟩
  refine ⟨_, rfl, ?_⟩
  have S10 := S6.join hP10
  replace S10 : St w NoX [c2] w10 := S10
  refine W_v rfl rfl (V_asg rfl (et rfl)) ?_
  refine W_end (gen_Q fun A11 E11 => ?_)
  have Y11 := szq E11
  have F11 := fsE E11 (ck (cq1 F8 rfl) rfl rfl)
  clear E11 Y8 F8
  have S12 : St w NoX [] w10 := S10.sel [] (by decide) rfl
  refine tk H9 ?_
  refine wp_ret ?_
  refine then_ret ?_
  refine ret_in (results_1 Try.results3 (rv_tmp (fg0 F11))) F11.d ?_
  exact ⟨rfl, S12.fin0⟩
 refine W_v rfl (xwt rfl rfl (et rfl)) (V_mov rfl (es4 rfl (fg1 F3))) ?_
 refine W_v rfl (xwt rfl rfl (es rfl (et rfl))) (V_lenS rfl (et rfl) (sl_SlN h_lv.at) Try.underlying24) ?_
 refine W_v rfl (xwt rfl rfl (es2 rfl (et rfl))) (V_gtr rfl (et rfl) rfl) ?_
 refine W_v rfl rfl (V_pickF rfl (es3 rfl (et rfl)) (et rfl)) ?_
 refine W_end (gen_Q fun A13 E13 => ?_)
 have Y13 := szq E13
 have F13 := fsE E13 (ck (cq7 F3 rfl) rfl rfl)
 clear E13 Y3 F3
 refine tk H5 ?_
 refine cond_dec (fg0 F13) (fun c14 => ?_) (fun c14 => ?_)
 ·refine wp_seq_k fun K15 H15 => ?_
  refine region_in ?_
  refine W_call rfl rfl rfl Try.func9 (by kernel_rfl) rfl (args0) (kshn_c  ) ?_
  rintro _ w16 ⟨rfl, hP16⟩
  refine ⟨_, rfl, ?_⟩
  have S16 := S6.join hP16
  replace S16 : St w NoX [c2] w16 := S16
  refine W_v rfl rfl (V_asg rfl (et rfl)) ?_
  refine W_end (gen_Q fun A17 E17 => ?_)
  have Y17 := szq E17
  have F17 := fsE E17 (ck (cq1 F13 rfl) rfl rfl)
  clear E17 Y13 F13
  have S18 : St w NoX [] w16 := S16.sel [] (by decide) rfl
  refine tk H15 ?_
  refine wp_ret ?_
  refine then_ret ?_
  refine ret_in (results_1 Try.results3 (rv_tmp (fg0 F17))) F17.d ?_
  exact ⟨rfl, S18.fin0⟩
 refine wp_skip ?_
 refine tk H4 ?_
 refine wp_seq_k fun K19 H19 => ?_
 refine region_in ?_
 refine W_r rfl rfl (VR_ldA rfl (fg3 F13) (S6.obj 0 rfl hc2) Try.underlying23 rfl (by kernel_rfl)) ?_
 refine W_v rfl rfl (V_mov rfl (es rfl (fg2 F13))) ?_
 refine W_v rfl rfl (V_mov rfl (es2 rfl (fg1 F13))) ?_
 refine W_call rfl rfl rfl Try.func10 (by kernel_rfl) rfl (args3 (es2 rfl (et rfl)) (es rfl (et rfl)) (et rfl)) (kLi_c (C := C) (N := N) (Z := Z) (K := K) (Q := Q) (S6.roC h_lv) (S6.roC h_fv) ) ?_
 rintro _ w20 (⟨rfl, hz_20, hP20⟩ | ⟨lw_20, rfl, hz_20, hP20⟩)
 ·refine ⟨_, rfl, ?_⟩
  have S20 := S6.join hP20
  replace S20 : St w NoX [c2] w20 := S20
  refine W_v rfl rfl (V_mov rfl (et rfl)) ?_
  refine W_v rfl rfl (V_ext (v := .slice none 0 0) rfl (et rfl) rfl) ?_
  refine W_v rfl rfl (V_ext (v := .int .i64 ((plF (cfE C N Z K Q) (lgN C N Z K Q) K os full).2)) rfl (es rfl (et rfl)) rfl) ?_
  refine W_v rfl rfl (V_asg rfl (es rfl (et rfl))) ?_
  refine W_v rfl rfl (V_asg rfl (es rfl (et rfl))) ?_
  refine W_end (gen_Q fun A21 E21 => ?_)
  have Y21 := szq E21
  have F21 := fsE E21 (ck (ck (cq7 F13 rfl) rfl rfl) rfl rfl)
  clear E21 Y13 F13
  refine tk H19 ?_
  refine wp_seq_k fun K22 H22 => ?_
  refine wp_seq_k fun K23 H23 => ?_
  refine region_in ?_
  refine W_v rfl rfl (V_mov rfl (fg0 F21)) ?_
  refine W_v rfl rfl (V_neq rfl (et rfl) rfl) ?_
  refine W_end (gen_Q fun A24 E24 => ?_)
  have Y24 := szq E24
  have F24 := fsE E24 (ck (cq1 F21 rfl) rfl rfl)
  clear E24 Y21 F21
  refine tk H23 ?_
  refine cond_sure (fg0 F24) (by rw [decide_eq_true_eq]; exact hz_20) ?_
  refine wp_seq_k fun K25 H25 => ?_
  refine region_in ?_
  refine W_v rfl rfl (V_mov rfl (fg2 F24)) ?_
  refine W_v rfl rfl (V_len rfl (et rfl) rfl Try.underlying25) ?_
  refine W_v rfl rfl (V_eql rfl (et rfl) rfl) ?_
  refine W_sure (c' := true) rfl rfl (V_mov rfl (et rfl)) (by simp) ?_
  refine W_call rfl (xwt rfl rfl (et rfl)) rfl Try.func9 (by kernel_rfl) rfl (args0) (kshn_c  ) ?_
  rintro _ w26 ⟨rfl, hP26⟩
  refine ⟨_, rfl, ?_⟩
  have S26 := S20.join hP26
  replace S26 : St w NoX [c2] w26 := S26
  refine W_v rfl rfl (V_pickT rfl (es rfl (et rfl)) (et rfl)) ?_
  refine W_v rfl rfl (V_asg rfl (et rfl)) ?_
  refine W_end (gen_Q fun A27 E27 => ?_)
  have Y27 := szq E27
  have F27 := fsE E27 (ck (cq6 F24 rfl) rfl rfl)
  clear E27 Y24 F24
  have S28 : St w NoX [] w26 := S26.sel [] (by decide) rfl
  refine tk H25 ?_
  refine wp_ret ?_
  refine then_ret ?_
  refine ret_in (results_1 Try.results3 (rv_tmp (fg0 F27))) F27.d ?_
  exact ⟨rfl, S28.fin0⟩
 refine ⟨_, rfl, ?_⟩
 obtain ⟨cL_20, hcL_20, hP20⟩ := gen1 hP20
 have S20 := S6.join hP20
 replace S20 : St w NoX [cL_20, c2] w20 := S20
 have hol := pl_len hz_20
 have hLl : (List.map WF (plG (cfE C N Z K Q) (lgN C N Z K Q) K os full)).length = os.length + 1 := by rw [List.length_map, plG_len hz_20]
 refine W_v rfl rfl (V_mov rfl (et rfl)) ?_
 refine W_v rfl rfl (V_ext (v := lw_20) rfl (et rfl) rfl) ?_
 refine W_v rfl rfl (V_ext (v := .int .i64 0) rfl (es rfl (et rfl)) rfl) ?_
 refine W_v rfl rfl (V_asg rfl (es rfl (et rfl))) ?_
 refine W_v rfl rfl (V_asg rfl (es rfl (et rfl))) ?_
 refine W_end (gen_Q fun A29 E29 => ?_)
 have Y29 := szq E29
 have F29 := fsE E29 (ck (ck (cq7 F13 rfl) rfl rfl) rfl rfl)
 clear E29 Y13 F13
 refine tk H19 ?_
 refine wp_seq_k fun K30 H30 => ?_
 refine wp_seq_k fun K31 H31 => ?_
 refine region_in ?_
 refine W_v rfl rfl (V_mov rfl (fg0 F29)) ?_
 refine W_v rfl rfl (V_neq rfl (et rfl) rfl) ?_
 refine W_end (gen_Q fun A32 E32 => ?_)
 have Y32 := szq E32
 have F32 := fsE E32 (ck (cq1 F29 rfl) rfl rfl)
 clear E32 Y29 F29
 refine tk H31 ?_
 refine cond_not (fg0 F32) (by decide) ?_
 refine wp_skip ?_
 refine tk H30 ?_
 refine wp_seq_k fun K33 H33 => ?_
 refine wp_seq_k fun K34 H34 => ?_
 refine region_in ?_
 refine W_v rfl rfl (V_mov rfl (fg2 F32)) ?_
 refine W_v rfl rfl (V_lenS rfl (et rfl) (ow_at (S20.chq 0 rfl hcL_20)) Try.underlying25) ?_
 refine W_v rfl rfl (V_mov rfl (es2 rfl (fg5 F32))) ?_
 refine W_v rfl rfl (V_lenS rfl (et rfl) (sl_SlN h_lv.at) Try.underlying24) ?_
 refine W_v rfl rfl (V_add rfl (et rfl) rfl (by omega) (by omega)) ?_
 refine W_v rfl rfl (V_neq rfl (es3 rfl (et rfl)) (et rfl)) ?_
 refine W_sure (c' := false) rfl rfl (V_mov rfl (et rfl)) (by rw [decide_eq_false_iff_not]; omega) ?_
 refine W_v rfl (xwt rfl rfl (et rfl)) (V_mov rfl (es7 rfl (fg2 F32))) ?_
 have k35 : 0 < (List.map WF (plG (cfE C N Z K Q) (lgN C N Z K Q) K os full)).length := by first | omega | (simp only [List.length_cons, List.length_nil]; omega) | (simp only [List.length_set]; omega) | decide
 obtain ⟨y35, hy35⟩ := get_some (xs := (List.map WF (plG (cfE C N Z K Q) (lgN C N Z K Q) K os full))) (k := 0) k35
 have hw35 := lf_w hz_20 (j := 0) (by omega)
 rw [hy35] at hw35
 have hw350 := Option.some.inj hw35
 have hg0 := lf_g0 hz_20
 obtain ⟨B35, O35, C35, hv35⟩ := (SlN.blk (ow_at (S20.chq 0 rfl hcL_20)) (by first | omega | (simp only [List.length_cons, List.length_nil]; omega) | (simp only [List.length_set]; omega) | decide))
 refine W_v rfl (xwt rfl rfl (es rfl (et rfl))) (V_ixS (off := O35 + 0) 1 (0) rfl (et rfl) rfl hv35 (by omega) k35 Try.underlying25 (by kernel_rfl) (congrArg _ (Nat.mul_one _))) ?_
 refine W_r rfl (xwt rfl rfl (es2 rfl (et rfl))) (VR_ldC rfl (et rfl) ((ow_at (S20.chq 0 rfl hcL_20)).cell hv35 (map_get hy35)) Try.underlying3 rfl) ?_
 refine W_v rfl (xwt rfl rfl (es3 rfl (et rfl))) (V_neq rfl (et rfl) rfl) ?_
 refine W_v rfl rfl (V_pickF rfl (es4 rfl (et rfl)) (et rfl)) ?_
 refine W_end (gen_Q fun A36 E36 => ?_)
 have Y36 := szq E36
 have F36 := fsE E36 (ck (cq3 (cq8 F32 rfl) rfl) rfl rfl)
 clear E36 Y32 F32
 refine tk H34 ?_
 refine cond_not (fg0 F36) (by rw [decide_eq_false_iff_not]; rw [hw350, hg0]; decide) ?_
 refine wp_skip ?_
 refine tk H33 ?_
 refine wp_seq_k fun K37 H37 => ?_
 refine wp_seq_k fun K38 H38 => ?_
 refine region_in ?_
 refine W_v rfl rfl (V_asg rfl rfl) ?_
 refine W_end (gen_Q fun A39 E39 => ?_)
 have Y39 := szq E39
 have F39 := fsE E39 (ck F36 rfl rfl)
 clear E39 Y36 F36
 refine tk H38 ?_
 refine wp_block ?_
 -- loop 9
 refine loopX (fun mz A' w' => SzN A' 102 ∧ A'.defers = [] ∧ (∃ (i : Nat), (mz = os.length + 1 - i) ∧ (i ≤ os.length + 1) ∧ (EV A' (.tmp 9) = .int .i64 (i : Int)) ∧ (EV A' (.tmp 1) = EV A39 (.tmp 1)) ∧ (EV A' (.tmp 2) = EV A39 (.tmp 2)) ∧ (EV A' (.tmp 3) = EV A39 (.tmp 3)) ∧ (EV A' (.tmp 7) = EV A39 (.tmp 7)) ∧ (St w NoX [io .i64 lw_20 (List.map WF (plG (cfE C N Z K Q) (lgN C N Z K Q) K os full)), bx g2 23 #[.int .i64 (C), .int .i64 (N), .int .i64 (Z), .int .i64 (K), .int .i64 (Q)]] w'))) (os.length + 1 - 0) ⟨Y39, F39.d, 0, rfl, (by omega), (((fg0 F39)).trans (by first | rfl | (simp; done) | (congr 1; omega))), rfl, rfl, rfl, rfl, (by subst hcL_20 hc2; exact S20)⟩ ?_
 clear S20 hcL_20 hc2
 rintro n40 A40 w40 ⟨Y40, hdf40, i, hm40, hi, l9_40, u1_40, u2_40, u3_40, u7_40, S40⟩
 have l1_40 := u1_40.trans (fg7 F39)
 have l2_40 := u2_40.trans (fg6 F39)
 have l3_40 := u3_40.trans (fg8 F39)
 have l7_40 := u7_40.trans (fg4 F39)
 obtain ⟨cL_40, c2_40, hcL_40, hc2_40, S40⟩ := gen2 S40
 refine wp_seq_k fun K41 H41 => ?_
 refine wp_seq_k fun K42 H42 => ?_
 refine region_in ?_
 refine W_v rfl rfl (V_mov rfl l9_40) ?_
 refine W_v rfl rfl (V_mov rfl (es rfl l1_40)) ?_
 refine W_v rfl rfl (V_lenS rfl (et rfl) (sl_SlN h_lv.at) Try.underlying24) ?_
 refine W_v rfl rfl (V_leq rfl (es2 rfl (et rfl)) (et rfl)) ?_
 refine W_end (gen_Q fun A43 E43 => ?_)
 have Y43 := szq E43
 have F43 := (((((fsE E43 (ck (cq3 (FS.n hdf40) rfl) rfl rfl)).c (lookE E43 1 (es4 rfl l1_40))).c (lookE E43 2 (es4 rfl l2_40))).c (lookE E43 3 (es4 rfl l3_40))).c (lookE E43 7 (es4 rfl l7_40))).c (lookE E43 9 (es4 rfl l9_40))
 clear E43 Y40 hdf40 l9_40 l1_40 l2_40 l3_40 l7_40
 refine tk H42 ?_
 refine cond_dec (fg5 F43) (fun c44 => ?_) (fun c44 => ?_)
 ·refine wp_skip ?_
  refine tk H41 ?_
  refine wp_seq_k fun K45 H45 => ?_
  refine wp_block ?_
  refine wp_seq_k fun K46 H46 => ?_
  refine region_in ?_
  refine W_v rfl rfl (V_asg rfl rfl) ?_
  refine W_end (gen_Q fun A47 E47 => ?_)
  have Y47 := szq E47
  have F47 := fsE E47 (ck F43 rfl rfl)
  clear E47 Y43 F43
  refine tk H46 ?_
  refine wp_seq_k fun K48 H48 => ?_
  refine region_in ?_
  refine W_v rfl rfl (V_mov rfl (fg1 F47)) ?_
  refine W_v rfl rfl (V_asg rfl (et rfl)) ?_
  refine W_end (gen_Q fun A49 E49 => ?_)
  have Y49 := szq E49
  have F49 := fsE E49 (ck (cq1 F47 rfl) rfl rfl)
  clear E49 Y47 F47
  refine tk H48 ?_
  refine wp_block ?_
  -- loop 13
  refine loopX (fun mz A' w' => SzN A' 102 ∧ A'.defers = [] ∧ (∃ (j : Nat) (last : Int), (mz = os.length + 1 - j) ∧ (i ≤ j ∧ j ≤ os.length + 1) ∧ (j ≤ os.length → last ≤ lfV ((plG (cfE C N Z K Q) (lgN C N Z K Q) K os full).getD i dG) ((plG (cfE C N Z K Q) (lgN C N Z K Q) K os full).getD j dG)) ∧ (EV A' (.tmp 11) = .int .i64 (j : Int)) ∧ (EV A' (.tmp 10) = .int .i64 last) ∧ (EV A' (.tmp 1) = EV A49 (.tmp 1)) ∧ (EV A' (.tmp 2) = EV A49 (.tmp 2)) ∧ (EV A' (.tmp 3) = EV A49 (.tmp 3)) ∧ (EV A' (.tmp 7) = EV A49 (.tmp 7)) ∧ (EV A' (.tmp 9) = EV A49 (.tmp 9)) ∧ (St w NoX [io .i64 lw_20 (List.map WF (plG (cfE C N Z K Q) (lgN C N Z K Q) K os full)), bx g2 23 #[.int .i64 (C), .int .i64 (N), .int .i64 (Z), .int .i64 (K), .int .i64 (Q)]] w'))) (os.length + 1 - i) ⟨Y49, F49.d, i, 0, rfl, (by omega), (fun _ => by rw [lfV_self]; exact WF_nn _), (((fg0 F49)).trans (by first | rfl | (simp; done) | (congr 1; omega))), (((fg1 F49)).trans (by first | rfl | (simp; done) | (congr 1; omega))), rfl, rfl, rfl, rfl, rfl, (by subst hcL_40 hc2_40; exact S40)⟩ ?_
  clear S40 hcL_40 hc2_40
  rintro n50 A50 w50 ⟨Y50, hdf50, j, last, hm50, hj, hla, l11_50, l10_50, u1_50, u2_50, u3_50, u7_50, u9_50, S50⟩
  have l1_50 := u1_50.trans (fg6 F49)
  have l2_50 := u2_50.trans (fg5 F49)
  have l3_50 := u3_50.trans (fg4 F49)
  have l7_50 := u7_50.trans (fg3 F49)
  have l9_50 := u9_50.trans (fg2 F49)
  obtain ⟨cL_50, c2_50, hcL_50, hc2_50, S50⟩ := gen2 S50
  refine wp_seq_k fun K51 H51 => ?_
  refine wp_seq_k fun K52 H52 => ?_
  refine region_in ?_
  refine W_v rfl rfl (V_mov rfl l11_50) ?_
  refine W_v rfl rfl (V_mov rfl (es rfl l1_50)) ?_
  refine W_v rfl rfl (V_lenS rfl (et rfl) (sl_SlN h_lv.at) Try.underlying24) ?_
  refine W_v rfl rfl (V_leq rfl (es2 rfl (et rfl)) (et rfl)) ?_
  refine W_end (gen_Q fun A53 E53 => ?_)
  have Y53 := szq E53
  have F53 := (((((((fsE E53 (ck (cq3 (FS.n hdf50) rfl) rfl rfl)).c (lookE E53 1 (es4 rfl l1_50))).c (lookE E53 2 (es4 rfl l2_50))).c (lookE E53 3 (es4 rfl l3_50))).c (lookE E53 7 (es4 rfl l7_50))).c (lookE E53 9 (es4 rfl l9_50))).c (lookE E53 10 (es4 rfl l10_50))).c (lookE E53 11 (es4 rfl l11_50))
  clear E53 Y50 hdf50 l11_50 l10_50 l1_50 l2_50 l3_50 l7_50 l9_50
  refine tk H52 ?_
  refine cond_dec (fg7 F53) (fun c54 => ?_) (fun c54 => ?_)
  ·refine wp_skip ?_
   refine tk H51 ?_
   refine wp_seq_k fun K55 H55 => ?_
   refine wp_block ?_
   refine wp_seq_k fun K56 H56 => ?_
   refine region_in ?_
   refine W_r rfl rfl (VR_ldA rfl (fg4 F53) (S50.obj 1 rfl hc2_50) Try.underlying23 rfl (by kernel_rfl)) ?_
   refine W_v rfl rfl (V_mov rfl (es rfl (fg6 F53))) ?_
   refine W_v rfl rfl (V_mov rfl (es2 rfl (fg5 F53))) ?_
   refine W_v rfl rfl (V_mov rfl (es3 rfl (fg2 F53))) ?_
   refine W_v rfl rfl (V_mov rfl (es4 rfl (fg0 F53))) ?_
   refine W_call rfl rfl rfl Try.func11 (by kernel_rfl) rfl (args5 (es4 rfl (et rfl)) (es3 rfl (et rfl)) (es2 rfl (et rfl)) (es rfl (et rfl)) (et rfl)) (kLf_c (C := C) (N := N) (Z := Z) (K := K) (Q := Q) (a := (i : Int)) (b := (j : Int)) (S50.roC h_lv) (S50.roC h_fv) ) ?_
   rintro _ w57 ⟨rfl, hP57⟩
   refine ⟨_, rfl, ?_⟩
   have S57 := S50.join hP57
   replace S57 : St w NoX [cL_50, c2_50] w57 := S57
   have hv := lf_V (i := i) (j := j) hz_20 (by omega) (by omega)
   refine W_v rfl rfl (V_mov rfl (et rfl)) ?_
   refine W_v rfl rfl (V_ext (v := .int .i64 ((lfF (cfE C N Z K Q) (lgN C N Z K Q) K os full (i : Int) (j : Int)).1)) rfl (et rfl) rfl) ?_
   refine W_v rfl rfl (V_ext (v := .int .i64 ((lfF (cfE C N Z K Q) (lgN C N Z K Q) K os full (i : Int) (j : Int)).2)) rfl (es rfl (et rfl)) rfl) ?_
   refine W_v rfl rfl (V_asg rfl (es rfl (et rfl))) ?_
   refine W_v rfl rfl (V_asg rfl (es rfl (et rfl))) ?_
   refine W_end (gen_Q fun A58 E58 => ?_)
   have Y58 := szq E58
   have F58 := fsE E58 (ck (ck (cq1 (cq8 F53 rfl) rfl) rfl rfl) rfl rfl)
   clear E58 Y53 F53
   refine tk H56 ?_
   refine wp_seq_k fun K59 H59 => ?_
   refine wp_seq_k fun K60 H60 => ?_
   refine region_in ?_
   refine W_v rfl rfl (V_mov rfl (fg0 F58)) ?_
   refine W_v rfl rfl (V_neq rfl (et rfl) rfl) ?_
   refine W_sure (c' := false) rfl rfl (V_mov rfl (et rfl)) (by rw [decide_eq_false_iff_not]; rw [hv]; simp) ?_
   refine W_v rfl (xwt rfl rfl (et rfl)) (V_mov rfl (es3 rfl (fg5 F58))) ?_
   refine W_v rfl (xwt rfl rfl (es rfl (et rfl))) (V_mov rfl (es4 rfl (fg2 F58))) ?_
   have k61 : j < (List.map WF (plG (cfE C N Z K Q) (lgN C N Z K Q) K os full)).length := by first | omega | (simp only [List.length_cons, List.length_nil]; omega) | (simp only [List.length_set]; omega) | decide
   obtain ⟨y61, hy61⟩ := get_some (xs := (List.map WF (plG (cfE C N Z K Q) (lgN C N Z K Q) K os full))) (k := j) k61
   have hw61 := Option.some.inj (hy61.symm.trans (lf_w hz_20 (j := j) (by omega)))
   obtain ⟨B61, O61, C61, hv61⟩ := (SlN.blk (ow_at (S57.chq 0 rfl hcL_50)) (by first | omega | (simp only [List.length_cons, List.length_nil]; omega) | (simp only [List.length_set]; omega) | decide))
   refine W_v rfl (xwt rfl rfl (es2 rfl (et rfl))) (V_ixS (off := O61 + j) 1 (j) rfl (es rfl (et rfl)) (et rfl) hv61 (by omega) k61 Try.underlying25 (by kernel_rfl) (congrArg _ (Nat.mul_one _))) ?_
   refine W_r rfl (xwt rfl rfl (es3 rfl (et rfl))) (VR_ldC rfl (et rfl) ((ow_at (S57.chq 0 rfl hcL_50)).cell hv61 (map_get hy61)) Try.underlying3 rfl) ?_
   refine W_v rfl (xwt rfl rfl (es4 rfl (et rfl))) (V_mov rfl (es7 rfl (fg1 F58))) ?_
   refine W_v rfl (xwt rfl rfl (es5 rfl (et rfl))) (V_gtr rfl (es rfl (et rfl)) (et rfl)) ?_
   refine W_v rfl rfl (V_pickF rfl (es6 rfl (et rfl)) (et rfl)) ?_
   refine W_sure (c' := false) rfl rfl (V_mov rfl (et rfl)) (by rw [decide_eq_false_iff_not]; rw [hv, hw61]; have := WF_le (lf_two hz_20 (by omega : i ≤ j) (by omega)).1 (lf_two hz_20 (by omega : i ≤ j) (by omega)).2; simp only; omega) ?_
   refine W_v rfl (xwt rfl rfl (et rfl)) (V_mov rfl (es8 rfl (es3 rfl (fg2 F58)))) ?_
   refine W_v rfl (xwt rfl rfl (es rfl (et rfl))) (V_mov rfl (es8 rfl (es4 rfl (fg4 F58)))) ?_
   refine W_v rfl (xwt rfl rfl (es2 rfl (et rfl))) (V_eql rfl (es rfl (et rfl)) (et rfl)) ?_
   refine W_split rfl (xwt rfl rfl (es3 rfl (et rfl))) (V_mov rfl (et rfl)) (fun c62 => ?_) (fun c62 => ?_)
   ·refine W_v rfl (xwt rfl rfl (et rfl)) (V_mov rfl (es8 rfl (es7 rfl (fg1 F58)))) ?_
    refine W_v rfl (xwt rfl rfl (es rfl (et rfl))) (V_mov rfl (es8 rfl (es8 rfl (fg5 F58)))) ?_
    refine W_v rfl (xwt rfl rfl (es2 rfl (et rfl))) (V_mov rfl (es8 rfl (es8 rfl (es rfl (fg4 F58))))) ?_
    have k63 : i < (List.map WF (plG (cfE C N Z K Q) (lgN C N Z K Q) K os full)).length := by first | omega | (simp only [List.length_cons, List.length_nil]; omega) | (simp only [List.length_set]; omega) | decide
    obtain ⟨y63, hy63⟩ := get_some (xs := (List.map WF (plG (cfE C N Z K Q) (lgN C N Z K Q) K os full))) (k := i) k63
    have hw63 := Option.some.inj (hy63.symm.trans (lf_w hz_20 (j := i) (by omega)))
    refine W_v rfl (xwt rfl rfl (es3 rfl (et rfl))) (V_ixS (off := O61 + i) 1 (i) rfl (es rfl (et rfl)) (et rfl) hv61 (by omega) k63 Try.underlying25 (by kernel_rfl) (congrArg _ (Nat.mul_one _))) ?_
    refine W_r rfl (xwt rfl rfl (es4 rfl (et rfl))) (VR_ldC rfl (et rfl) ((ow_at (S57.chq 0 rfl hcL_50)).cell hv61 (map_get hy63)) Try.underlying3 rfl) ?_
    refine W_v rfl (xwt rfl rfl (es5 rfl (et rfl))) (V_neq rfl (es4 rfl (et rfl)) (et rfl)) ?_
    refine W_v rfl (xwt rfl rfl (es8 rfl (es2 rfl (et rfl)))) (V_pickT rfl (es6 rfl (et rfl)) (et rfl)) ?_
    refine W_v rfl rfl (V_pickF rfl (es8 rfl (es3 rfl (et rfl))) (et rfl)) ?_
    refine W_sure (c' := false) rfl rfl (V_mov rfl (et rfl)) (by rw [decide_eq_false_iff_not]; have e : j = i := (by omega); subst e; rw [hv, hw63, lfV_self]; simp) ?_
    refine W_v rfl (xwt rfl rfl (et rfl)) (V_mov rfl (es8 rfl (es8 rfl (es8 rfl (fg1 F58))))) ?_
    refine W_v rfl (xwt rfl rfl (es rfl (et rfl))) (V_mov rfl (es8 rfl (es8 rfl (es8 rfl (es rfl (fg3 F58)))))) ?_
    refine W_v rfl (xwt rfl rfl (es2 rfl (et rfl))) (V_lss rfl (es rfl (et rfl)) (et rfl)) ?_
    refine W_v rfl rfl (V_pickF rfl (es3 rfl (et rfl)) (et rfl)) ?_
    refine W_end (gen_Q fun A64 E64 => ?_)
    have Y64 := szq E64
    have F64 := fsE E64 (ck (ck (ck (ck (cq2 (ck (ck (ck (ck (ck (ck (ck (ck (ck (ck (ck (cq2 (ck (ck (ck (ck (ck (ck (cq3 F58 rfl) rfl rfl) rfl rfl) rfl rfl) rfl rfl) rfl rfl) rfl rfl) rfl) rfl rfl) rfl rfl) rfl rfl) rfl rfl) rfl rfl) rfl rfl) rfl rfl) rfl rfl) rfl rfl) rfl rfl) rfl rfl) rfl) rfl rfl) rfl rfl) rfl rfl) rfl rfl)
    clear E64 Y58 F58
    refine tk H60 ?_
    refine cond_not (fg0 F64) (by rw [decide_eq_false_iff_not]; rw [hv]; have := hla (by omega); simp only; omega) ?_
    refine wp_skip ?_
    refine tk H59 ?_
    refine region_in ?_
    refine W_v rfl rfl (V_mov rfl (fg22 F64)) ?_
    refine W_v rfl rfl (V_asg rfl (et rfl)) ?_
    refine W_end (gen_Q fun A65 E65 => ?_)
    have Y65 := szq E65
    have F65 := fsE E65 (ck (cq1 (fx26 (fx21 (fx20 (fx20 (fx0 F64))))) rfl) rfl rfl)
    clear E65 Y64 F64
    refine inb_n ?_
    refine tk H55 ?_
    refine region_in ?_
    refine W_v rfl rfl (V_mov rfl (fg21 F65)) ?_
    refine W_v rfl rfl (V_add rfl (et rfl) rfl (by omega) (by omega)) ?_
    refine W_v rfl rfl (V_asg rfl (et rfl)) ?_
    refine W_end (gen_Q fun A66 E66 => ?_)
    have Y66 := szq E66
    have F66 := fsE E66 (ck (cq2 (fx21 F65) rfl) rfl rfl)
    clear E66 Y65 F65
    refine then_n ⟨os.length + 1 - (j + 1), by simp only [hm50]; omega, Y66, F66.d, (j + 1), (lfF (cfE C N Z K Q) (lgN C N Z K Q) K os full (i : Int) (j : Int)).1, rfl, (by omega), (fun hq => by rw [hv]; exact lfV_mono (lf_two hz_20 (by omega : j ≤ j + 1) hq).2 (lf_two hz_20 (by omega : i ≤ j) (by omega)).1.len), (((fg0 F66)).trans (by first | rfl | (simp; done) | (congr 1; omega))), (((fg1 F66)).trans (by first | rfl | (simp; done) | (congr 1; omega))), (((fg26 F66)).trans (fg6 F49).symm), (((fg25 F66)).trans (fg5 F49).symm), (((fg24 F66)).trans (fg4 F49).symm), (((fg23 F66)).trans (fg3 F49).symm), (((fg22 F66)).trans (fg2 F49).symm), (by subst hcL_50 hc2_50; exact S57)⟩
   refine xof rfl rfl rfl (et rfl) ?_
   refine xof rfl rfl rfl (es rfl (et rfl)) ?_
   refine xof rfl rfl rfl (es2 rfl (et rfl)) ?_
   refine xof rfl rfl rfl (es3 rfl (et rfl)) ?_
   refine xof rfl rfl rfl (es4 rfl (et rfl)) ?_
   refine xof rfl rfl rfl (es5 rfl (et rfl)) ?_
   refine W_v rfl (xwt rfl rfl (es8 rfl (es2 rfl (et rfl)))) (V_pickF rfl (es6 rfl (et rfl)) rfl) ?_
   refine W_v rfl rfl (V_pickF rfl (es8 rfl (es3 rfl (et rfl))) (et rfl)) ?_
   refine W_v rfl rfl (V_mov rfl (et rfl)) ?_
   refine W_v rfl (xwt rfl rfl (et rfl)) (V_mov rfl (es8 rfl (es8 rfl (es8 rfl (fg1 F58))))) ?_
   refine W_v rfl (xwt rfl rfl (es rfl (et rfl))) (V_mov rfl (es8 rfl (es8 rfl (es8 rfl (es rfl (fg3 F58)))))) ?_
   refine W_v rfl (xwt rfl rfl (es2 rfl (et rfl))) (V_lss rfl (es rfl (et rfl)) (et rfl)) ?_
   refine W_v rfl rfl (V_pickF rfl (es3 rfl (et rfl)) (et rfl)) ?_
   refine W_end (gen_Q fun A67 E67 => ?_)
   have Y67 := szq E67
   have F67 := fsE E67 (ck (ck (ck (ck (cq2 (ck (ck (ck (ck (ck (ck (ck (ck (ck (ck (ck (cq2 (ck (ck (ck (ck (ck (ck (cq3 F58 rfl) rfl rfl) rfl rfl) rfl rfl) rfl rfl) rfl rfl) rfl rfl) rfl) rfl rfl) rfl rfl) rfl rfl) rfl rfl) rfl rfl) rfl rfl) rfl rfl) rfl rfl) rfl rfl) rfl rfl) rfl rfl) rfl) rfl rfl) rfl rfl) rfl rfl) rfl rfl)
   clear E67 Y58 F58
   refine tk H60 ?_
   refine cond_not (fg0 F67) (by rw [decide_eq_false_iff_not]; rw [hv]; have := hla (by omega); simp only; omega) ?_
   refine wp_skip ?_
   refine tk H59 ?_
   refine region_in ?_
   refine W_v rfl rfl (V_mov rfl (fg22 F67)) ?_
   refine W_v rfl rfl (V_asg rfl (et rfl)) ?_
   refine W_end (gen_Q fun A68 E68 => ?_)
   have Y68 := szq E68
   have F68 := fsE E68 (ck (cq1 (fx26 (fx21 (fx20 (fx20 (fx0 F67))))) rfl) rfl rfl)
   clear E68 Y67 F67
   refine inb_n ?_
   refine tk H55 ?_
   refine region_in ?_
   refine W_v rfl rfl (V_mov rfl (fg21 F68)) ?_
   refine W_v rfl rfl (V_add rfl (et rfl) rfl (by omega) (by omega)) ?_
   refine W_v rfl rfl (V_asg rfl (et rfl)) ?_
   refine W_end (gen_Q fun A69 E69 => ?_)
   have Y69 := szq E69
   have F69 := fsE E69 (ck (cq2 (fx21 F68) rfl) rfl rfl)
   clear E69 Y68 F68
   refine then_n ⟨os.length + 1 - (j + 1), by simp only [hm50]; omega, Y69, F69.d, (j + 1), (lfF (cfE C N Z K Q) (lgN C N Z K Q) K os full (i : Int) (j : Int)).1, rfl, (by omega), (fun hq => by rw [hv]; exact lfV_mono (lf_two hz_20 (by omega : j ≤ j + 1) hq).2 (lf_two hz_20 (by omega : i ≤ j) (by omega)).1.len), (((fg0 F69)).trans (by first | rfl | (simp; done) | (congr 1; omega))), (((fg1 F69)).trans (by first | rfl | (simp; done) | (congr 1; omega))), (((fg26 F69)).trans (fg6 F49).symm), (((fg25 F69)).trans (fg5 F49).symm), (((fg24 F69)).trans (fg4 F49).symm), (((fg23 F69)).trans (fg3 F49).symm), (((fg22 F69)).trans (fg2 F49).symm), (by subst hcL_50 hc2_50; exact S57)⟩
  refine wp_exit ?_
  refine then_exit ?_
  refine then_exit ?_
  refine inb_hit ?_
  refine inb_n ?_
  refine tk H45 ?_
  refine region_in ?_
  refine W_v rfl rfl (V_mov rfl (fg2 F53)) ?_
  refine W_v rfl rfl (V_add rfl (et rfl) rfl (by omega) (by omega)) ?_
  refine W_v rfl rfl (V_asg rfl (et rfl)) ?_
  refine W_end (gen_Q fun A70 E70 => ?_)
  have Y70 := szq E70
  have F70 := fsE E70 (ck (cq2 (fx2 F53) rfl) rfl rfl)
  clear E70 Y53 F53
  refine then_n ⟨os.length + 1 - (i + 1), by simp only [hm40]; omega, Y70, F70.d, (i + 1), rfl, (by omega), (((fg0 F70)).trans (by first | rfl | (simp; done) | (congr 1; omega))), (((fg6 F70)).trans (fg7 F39).symm), (((fg5 F70)).trans (fg6 F39).symm), (((fg4 F70)).trans (fg8 F39).symm), (((fg3 F70)).trans (fg4 F39).symm), (by subst hcL_50 hc2_50; exact S50)⟩
 refine wp_exit ?_
 refine then_exit ?_
 refine then_exit ?_
 refine inb_hit ?_
 refine tk H37 ?_
 refine wp_seq_k fun K71 H71 => ?_
 refine region_in ?_
 refine W_call rfl rfl rfl Try.func9 (by kernel_rfl) rfl (args0) (kshn_c  ) ?_
 rintro _ w72 ⟨rfl, hP72⟩
 refine ⟨_, rfl, ?_⟩
 have S72 := S40.join hP72
 replace S72 : St w NoX [cL_40, c2_40] w72 := S72
 refine W_v rfl rfl (V_asg rfl (et rfl)) ?_
 refine W_end (gen_Q fun A73 E73 => ?_)
 have Y73 := szq E73
 have F73 := fsE E73 (ck (cq1 F43 rfl) rfl rfl)
 clear E73 Y43 F43
 have S74 : St w NoX [] w72 := S72.sel [] (by decide) rfl
 refine tk H71 ?_
 refine wp_ret ?_
 refine ret_in (results_1 Try.results3 (rv_tmp (fg0 F73))) F73.d ?_
 exact ⟨rfl, S74.fin0⟩

end Go.Proofs.Ytpgkfndbfocibaa