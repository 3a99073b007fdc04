import Derived.Test.YtpgkfndbfocibaaProg
import Derived.Test.YtpgkfndbfocibaaMs14
import Derived.Test.YtpgkfndbfocibaaSep29g
import Derived.Test.YtpgkfndbfocibaaPl29m
namespace Go.Proofs.Ytpgkfndbfocibaa
open Go.RowKit Go.Own Go.Own.R Go.Own.G Go.Own.Gr Go.Own.Ml


set_option maxHeartbeats 4000000 in
theorem ModelRefused_c {C : Int} {N : Int} {Z : Int} {K : Int} {Q : Int} {lv : Value} {os : List OpC} {fv : Value} {full : List Int} {w : World} (h_lv : Ro w NoX (rl 7 opC lv os)) (h_fv : Ro w NoX (il .i64 fv full))  :
  Calls Try.prog 4 #[.agg #[.int .i64 C, .int .i64 N, .int .i64 Z, .int .i64 K, .int .i64 Q], lv, fv] w fun e w' => e = .returned (.bool true) ∧ St w NoX [] w' := by
 refine calls_in 102 Try.func4 V V (by simp) (fun A0 Y0 hdf0 hargs => ?_)
 have l0_0 := hargs 0 (.agg #[.int .i64 C, .int .i64 N, .int .i64 Z, .int .i64 K, .int .i64 Q]) V
 have l1_0 := hargs 1 (lv) V
 have l2_0 := hargs 2 (fv) V
 clear hargs; replace Y0 : SzN A0 102 := ⟨Y0⟩
 have hS := St.nil w
 have bh_lv := SlN.le (sl_SlN h_lv.at)
 have bh_fv := SlN.le (sl_SlN h_fv.at)
 refine wp_seq_k fun K1 H1 => region_in ?_
 refine W_boxS (zs := #[.int .i64 (C), .int .i64 (N), .int .i64 (Z), .int .i64 (K), .int .i64 (Q)]) hS V V V l0_0 (by rfl) (fun g2 w2 c2 hc2 S2 => ?_)
 replace S2 : St w NoX [c2] w2 := S2
 refine W_v V V (V_asg V V) ?_
 refine W_end (gen_Q fun A3 E3 => ?_)
 have Y3 := szq E3
 have F3 := ((fsE E3 (cq1 (ck (FS.n hdf0) V V) V)).c (lookE E3 1 (es2 V l1_0))).c (lookE E3 2 (es2 V l2_0))
 clear E3 Y0 hdf0 l0_0 l1_0 l2_0
 refine tk H1 (wp_seq_k fun K4 H4 => ?_)
 refine wp_seq_k fun K5 H5 => region_in ?_
 refine W_v V V (V_mov V (fg1 F3)) ?_
 refine W_v V V (V_mov V (es V (fg0 F3))) ?_
 refine W_call V V V Try.func8 (by kernel_rfl) V (args2 (es V (et V)) (et V)) (kfar_c (S2.roC h_lv) (S2.roC h_fv) ) ?_
 rintro _ w6 ⟨rfl, hP6⟩
 refine ⟨_, rfl, ?_⟩
 have S6 := S2.join hP6
 replace S6 : St w NoX [c2] w6 := S6
 refine W_split V V (V_mov V (et V)) (fun c7 => ?_) (fun c7 => ?_)
 ·refine xof V V V (et V) ?_
  refine xof V V V (es V (et V)) ?_
  refine xof V V V (es2 V (et V)) ?_
  refine W_v V V (V_pickT V (es3 V (et V)) V) ?_
  refine W_end (gen_Q fun A8 E8 => ?_)
  have Y8 := szq E8
  have F8 := fsE E8 (ck (cq7 F3 V) V V)
  clear E8 Y3 F3
  refine tk H5 ?_
  refine cond_t (fg0 F8) ?_
  refine wp_seq_k fun K9 H9 => region_in ?_
  refine W_call V V V Try.func9 (by kernel_rfl) V (args0) (kshn_c  ) ?_
  rintro _ w10 ⟨rfl, hP10⟩
  refine ⟨_, rfl, ?_⟩
  have S10 := S6.join hP10
  replace S10 : St w NoX [c2] w10 := S10
  refine W_v V V (V_asg V (et V)) ?_
  refine W_end (gen_Q fun A11 E11 => ?_)
  have Y11 := szq E11
  have F11 := fsE E11 (ck (cq1 F8 V) V V)
  clear E11 Y8 F8
  have S12 : St w NoX [] w10 := S10.sel [] (by decide) V
  refine tk H9 ?_
  refine wp_ret ?_
  refine then_ret ?_
  refine ret_in (results_1 Try.results4 (rv_tmp (fg0 F11))) F11.d ?_
  exact ⟨rfl, S12.fin0⟩
 refine W_v V (xwt V V (et V)) (V_mov V (es4 V (fg1 F3))) ?_
 refine W_v V (xwt V V (es V (et V))) (V_lenS V (et V) (sl_SlN h_lv.at) Try.underlying24) ?_
 refine W_v V (xwt V V (es2 V (et V))) (V_gtr V (et V) V) ?_
 refine W_v V V (V_pickF V (es3 V (et V)) (et V)) ?_
 refine W_end (gen_Q fun A13 E13 => ?_)
 have Y13 := szq E13
 have F13 := fsE E13 (ck (cq7 F3 V) V V)
 clear E13 Y3 F3
 refine tk H5 ?_
 refine cond_dec (fg0 F13) (fun c14 => ?_) (fun c14 => ?_)
 ·refine wp_seq_k fun K15 H15 => region_in ?_
  refine W_call V V V Try.func9 (by kernel_rfl) V (args0) (kshn_c  ) ?_
  rintro _ w16 ⟨rfl, hP16⟩
  refine ⟨_, rfl, ?_⟩
  have S16 := S6.join hP16
  replace S16 : St w NoX [c2] w16 := S16
  refine W_v V V (V_asg V (et V)) ?_
  refine W_end (gen_Q fun A17 E17 => ?_)
  have Y17 := szq E17
  have F17 := fsE E17 (ck (cq1 F13 V) V V)
  clear E17 Y13 F13
  have S18 : St w NoX [] w16 := S16.sel [] (by decide) V
  refine tk H15 ?_
  refine wp_ret ?_
  refine then_ret ?_
  refine ret_in (results_1 Try.results4 (rv_tmp (fg0 F17))) F17.d ?_
  exact ⟨rfl, S18.fin0⟩
 refine wp_skip ?_
 refine tk H4 (wp_seq_k fun K19 H19 => region_in ?_)
 refine W_r V V (VR_ldA V (fg3 F13) (S6.obj 0 V hc2) Try.underlying23 V (by kernel_rfl)) ?_
 refine W_v V V (V_mov V (es V (fg2 F13))) ?_
 refine W_v V V (V_mov V (es2 V (fg1 F13))) ?_
 refine W_call V V V Try.func12 (by kernel_rfl) V (args3 (es2 V (et V)) (es V (et V)) (et V)) (kPl_c (C := C) (N := N) (Z := Z) (K := K) (Q := Q) (S6.roC h_lv) (S6.roC h_fv) ) ?_
 rintro _ w20 (⟨rfl, hz_20, hP20⟩ | ⟨G_20, av_20, rfl, hz_20, hg_20, hP20⟩)
 ·refine ⟨_, rfl, ?_⟩
  have S20 := S6.join hP20
  replace S20 : St w NoX [c2] w20 := S20
  refine W_v V V (V_mov V (et V)) ?_
  refine W_v V V (V_ext (v := .agg #[.slice none 0 0, .slice none 0 0]) V (et V) V) ?_
  refine W_v V V (V_ext (v := .slice none 0 0) V (es V (et V)) V) ?_
  refine W_v V V (V_ext (v := .int .i64 ((plF (cfE C N Z K Q) (lgN C N Z K Q) K os full).1)) V (es2 V (et V)) V) ?_
  refine W_v V V (V_ext (v := .int .i64 ((plF (cfE C N Z K Q) (lgN C N Z K Q) K os full).2)) V (es3 V (et V)) V) ?_
  refine W_allocS (z := .agg #[.slice none 0 0, .slice none 0 0]) (zs := #[.slice none 0 0, .slice none 0 0]) S20 V V V (by kernel_rfl) (by rfl) (fun g21 w21 c21 hc21 S21 => ?_)
  replace S21 : St w NoX [c21, c2] w21 := S21
  refine xsA 0 S21 V hc21 V V V (et V) (es4 V (et V)) (fun w22 c22 hc22 S22 => ?_)
  replace S22 : St w NoX [c22, c2] w22 := S22
  refine W_v V V (V_asg V (es3 V (et V))) ?_
  refine W_v V V (V_asg V (es3 V (et V))) ?_
  refine W_v V V (V_asg V (es3 V (et V))) ?_
  refine W_end (gen_Q fun A23 E23 => ?_)
  have Y23 := szq E23
  have F23 := fsE E23 (ck (cq1 (ck (ck (cq1 (cq8 F13 V) V) V V) V V) V) V V)
  clear E23 Y13 F13
  refine tk H19 (wp_seq_k fun K24 H24 => ?_)
  refine wp_seq_k fun K25 H25 => region_in ?_
  refine W_v V V (V_mov V (fg0 F23)) ?_
  refine W_v V V (V_neq V (et V) V) ?_
  refine W_end (gen_Q fun A26 E26 => ?_)
  have Y26 := szq E26
  have F26 := fsE E26 (ck (cq1 F23 V) V V)
  clear E26 Y23 F23
  refine tk H25 ?_
  refine cond_sure (fg0 F26) (by rw [decide_eq_true_eq]; exact hz_20) ?_
  refine wp_seq_k fun K27 H27 => region_in ?_
  refine W_call V V V Try.func9 (by kernel_rfl) V (args0) (kshn_c  ) ?_
  rintro _ w28 ⟨rfl, hP28⟩
  refine ⟨_, rfl, ?_⟩
  have S28 := S22.join hP28
  replace S28 : St w NoX [c22, c2] w28 := S28
  refine W_v V V (V_asg V (et V)) ?_
  refine W_end (gen_Q fun A29 E29 => ?_)
  have Y29 := szq E29
  have F29 := fsE E29 (ck (cq1 F26 V) V V)
  clear E29 Y26 F26
  have S30 : St w NoX [] w28 := S28.sel [] (by decide) V
  refine tk H27 ?_
  refine wp_ret ?_
  refine then_ret ?_
  refine ret_in (results_1 Try.results4 (rv_tmp (fg0 F29))) F29.d ?_
  exact ⟨rfl, S30.fin0⟩
 refine ⟨_, rfl, ?_⟩
 obtain ⟨cK_20, cA_20, hcK_20, hcA_20, hP20⟩ := gen2 hP20
 have S20 := S6.join hP20
 replace S20 : St w NoX [cK_20, cA_20, c2] w20 := S20
 have hol := pl_len hz_20
 have hAl := plA_len hz_20
 have hfu := pl_full hz_20
 have hasc := (fc_asc full (-1) os.length hfu.2).2
 have S31 := S20.sel [0, 2, 1] (by decide) (l' := [cK_20, c2, cA_20]) V
 replace S31 : St w NoX [cK_20, c2, cA_20] w20 := S31
 obtain ⟨Yb32, S32, hY32, hF32, hB32⟩ := St.call (pre := [cK_20, c2]) (fr := [cA_20]) S31
 have back32 : ∀ w2 post, St w20 Yb32 post w2 → St w NoX post w2 := fun _ _ h => (hB32 _ _ h).left
 have h_lv_32 := hY32 _ h_lv
 have h_fv_32 := hY32 _ h_fv
 have fz32_0 : Ro w20 Yb32 (rl 3 anC av_20 (plA (cfE C N Z K Q) (lgN C N Z K Q) K os full)) := (hcA_20 ▸ hF32 0 _ V : Ro w20 Yb32 (ro 3 anC av_20 (plA (cfE C N Z K Q) (lgN C N Z K Q) K os full))).own
 refine W_v V V (V_mov V (et V)) ?_
 refine W_v V V (V_ext (v := .agg #[G_20.1.1, G_20.2.1]) V (et V) V) ?_
 refine W_v V V (V_ext (v := av_20) V (es V (et V)) V) ?_
 refine W_v V V (V_ext (v := .int .i64 0) V (es2 V (et V)) V) ?_
 refine W_v V V (V_ext (v := .int .i64 0) V (es3 V (et V)) V) ?_
 refine W_allocS (z := .agg #[.slice none 0 0, .slice none 0 0]) (zs := #[.slice none 0 0, .slice none 0 0]) S32 V V V (by kernel_rfl) (by rfl) (fun g33 w33 c33 hc33 S33 => ?_)
 replace S33 : St w20 Yb32 [c33, cK_20, c2] w33 := S33
 refine xsB 0 S33 V hc33 V V V (et V) (es4 V (et V)) (by simp only [List.all_toArray, List.all_cons, List.all_nil, grC, SlN_one (sl_SlN (gl_oa m1 (S33.chq 1 V hcK_20))), SlN_one (sl_SlN (gl_ra m1 (S33.chq 1 V hcK_20)))] <;> rfl) (fun w34 c34 hc34 S34 => ?_)
 replace S34 : St w20 Yb32 [c34, cK_20, c2] w34 := S34
 refine W_v V V (V_asg V (es3 V (et V))) ?_
 refine W_v V V (V_asg V (es3 V (et V))) ?_
 refine W_v V V (V_asg V (es3 V (et V))) ?_
 refine W_end (gen_Q fun A35 E35 => ?_)
 have Y35 := szq E35
 have F35 := fsE E35 (ck (cq1 (ck (ck (cq1 (cq8 F13 V) V) V V) V V) V) V V)
 clear E35 Y13 F13
 refine tk H19 (wp_seq_k fun K36 H36 => ?_)
 refine wp_seq_k fun K37 H37 => region_in ?_
 refine W_v V V (V_mov V (fg0 F35)) ?_
 refine W_v V V (V_neq V (et V) V) ?_
 refine W_end (gen_Q fun A38 E38 => ?_)
 have Y38 := szq E38
 have F38 := fsE E38 (ck (cq1 F35 V) V V)
 clear E38 Y35 F35
 refine tk H37 ?_
 refine cond_not (fg0 F38) (by decide) ?_
 refine wp_skip ?_
 refine tk H36 (wp_seq_k fun K39 H39 => ?_)
 refine wp_seq_k fun K40 H40 => region_in ?_
 refine W_v V V (V_mov V (fg2 F38)) ?_
 refine W_v V V (V_lenS V (et V) (sl_SlN fz32_0.at) Try.underlying37) ?_
 refine W_v V V (V_mov V (es2 V (fg6 F38))) ?_
 refine W_v V V (V_lenS V (et V) (sl_SlN h_lv_32.at) Try.underlying24) ?_
 refine W_v V V (V_neq V (es2 V (et V)) (et V)) ?_
 refine W_end (gen_Q fun A41 E41 => ?_)
 have Y41 := szq E41
 have F41 := fsE E41 (ck (cq4 F38 V) V V)
 clear E41 Y38 F38
 refine tk H40 ?_
 refine cond_not (fg0 F41) (by rw [decide_eq_false_iff_not]; omega) ?_
 refine wp_skip ?_
 refine tk H39 (wp_seq_k fun K42 H42 => region_in ?_)
 refine W_v V V (V_asg V V) ?_
 refine W_end (gen_Q fun A43 E43 => ?_)
 have Y43 := szq E43
 have F43 := fsE E43 (ck F41 V V)
 clear E43 Y41 F41
 refine tk H42 (wp_seq_k fun K44 H44 => region_in ?_)
 refine W_v V V (V_asg V V) ?_
 refine W_end (gen_Q fun A45 E45 => ?_)
 have Y45 := szq E45
 have F45 := fsE E45 (ck F43 V V)
 clear E45 Y43 F43
 refine tk H44 (wp_seq_k fun K46 H46 => region_in ?_)
 refine W_v V V (V_asg V V) ?_
 refine W_end (gen_Q fun A47 E47 => ?_)
 have Y47 := szq E47
 have F47 := fsE E47 (ck F45 V V)
 clear E47 Y45 F45
 refine tk H46 (wp_seq_k fun K48 H48 => ?_)
 refine wp_seq_k fun K49 H49 => region_in ?_
 refine W_v V V (V_asg V V) ?_
 refine W_end (gen_Q fun A50 E50 => ?_)
 have Y50 := szq E50
 have F50 := fsE E50 (ck F47 V V)
 clear E50 Y47 F47
 refine tk H49 ?_
 refine wp_block ?_
 obtain ⟨c51, hc51, S51⟩ := S34.pnil (s := 7)
 obtain ⟨c52, hc52, S52⟩ := S51.pnil (s := 3)
 -- loop 12
 refine loopX (fun mz A' w' => SzN A' 102 ∧ A'.defers = [] ∧ (∃ (i : Nat) (j : Nat) (bv : Value) (cv : Value), (mz = os.length - i) ∧ (i ≤ os.length) ∧ (KP full i j) ∧ (EV A' (.tmp 14) = .int .i64 (i : Int)) ∧ (EV A' (.tmp 13) = .int .i64 (j : Int)) ∧ (EV A' (.tmp 11) = bv) ∧ (EV A' (.tmp 12) = cv) ∧ (EV A' (.tmp 1) = EV A50 (.tmp 1)) ∧ (EV A' (.tmp 2) = EV A50 (.tmp 2)) ∧ (EV A' (.tmp 3) = EV A50 (.tmp 3)) ∧ (EV A' (.tmp 7) = EV A50 (.tmp 7)) ∧ (EV A' (.tmp 8) = EV A50 (.tmp 8)) ∧ (St w20 Yb32 [ro 3 anC cv (kpK (rfP full) 0 ((plA (cfE C N Z K Q) (lgN C N Z K Q) K os full).take i)), ro 7 opC bv (kpK (rfP full) 0 (os.take i)), bx g33 36 #[G_20.1.1, G_20.2.1], gls [G_20], bx g2 23 #[.int .i64 (C), .int .i64 (N), .int .i64 (Z), .int .i64 (K), .int .i64 (Q)]] w'))) (os.length - 0) ⟨Y50, F50.d, 0, 0, (.slice none 0 0), (.slice none 0 0), rfl, (by omega), (KP.init hfu.2), (((fg0 F50)).trans (by first | rfl | (simp; done) | (congr 1; omega))), (((fg1 F50)).trans (by first | rfl | (simp; done) | (congr 1; omega))), (((fg3 F50)).trans (by first | rfl | (simp; done) | (congr 1; omega))), (((fg2 F50)).trans (by first | rfl | (simp; done) | (congr 1; omega))), rfl, rfl, rfl, rfl, rfl, (by have q0 : c52 = ro 3 anC (.slice none 0 0) (kpK (rfP full) 0 ((plA (cfE C N Z K Q) (lgN C N Z K Q) K os full).take 0)) := hc52.trans (rfl); have q1 : c51 = ro 7 opC (.slice none 0 0) (kpK (rfP full) 0 (os.take 0)) := hc51.trans (rfl); have q2 := hc34; have q3 := hcK_20; have q4 := hc2; subst q0 q1 q2 q3 q4; exact S52)⟩ ?_
 clear S52 hc52 hc51 hc34 hcK_20 hc2
 rintro n53 A53 w53 ⟨Y53, hdf53, i, j, bv, cv, hm53, hi, hkp, l14_53, l13_53, l11_53, l12_53, u1_53, u2_53, u3_53, u7_53, u8_53, S53⟩
 have l1_53 := u1_53.trans (fg11 F50)
 have l2_53 := u2_53.trans (fg10 F50)
 have l3_53 := u3_53.trans (fg12 F50)
 have l7_53 := u7_53.trans (fg8 F50)
 have l8_53 := u8_53.trans (fg7 F50)
 obtain ⟨c52_53, c51_53, c34_53, cK_53, c2_53, hc52_53, hc51_53, hc34_53, hcK_53, hc2_53, S53⟩ := gen5 S53
 refine wp_seq_k fun K54 H54 => ?_
 refine wp_seq_k fun K55 H55 => region_in ?_
 refine W_v V V (V_mov V l14_53) ?_
 refine W_v V V (V_mov V (es V l1_53)) ?_
 refine W_v V V (V_lenS V (et V) (sl_SlN h_lv_32.at) Try.underlying24) ?_
 refine W_v V V (V_lss V (es2 V (et V)) (et V)) ?_
 refine W_end (gen_Q fun A56 E56 => ?_)
 have Y56 := szq E56
 have F56 := (((((((((fsE E56 (ck (cq3 (FS.n hdf53) V) V V)).c (lookE E56 1 (es4 V l1_53))).c (lookE E56 2 (es4 V l2_53))).c (lookE E56 3 (es4 V l3_53))).c (lookE E56 7 (es4 V l7_53))).c (lookE E56 8 (es4 V l8_53))).c (lookE E56 11 (es4 V l11_53))).c (lookE E56 12 (es4 V l12_53))).c (lookE E56 13 (es4 V l13_53))).c (lookE E56 14 (es4 V l14_53))
 clear E56 Y53 hdf53 l14_53 l13_53 l11_53 l12_53 l1_53 l2_53 l3_53 l7_53 l8_53
 refine tk H55 ?_
 refine cond_dec (fg9 F56) (fun c57 => ?_) (fun c57 => ?_)
 ·refine wp_skip ?_
  refine tk H54 (wp_seq_k fun K58 H58 => ?_)
  refine wp_block ?_
  refine wp_seq_k fun K59 H59 => ?_
  refine wp_seq_k fun K60 H60 => ?_
  refine wp_mid (G := fun A' w' => SzN A' 102 ∧ A'.defers = [] ∧ (EV A' (.tmp 1) = EV A56 (.tmp 1)) ∧ (EV A' (.tmp 2) = EV A56 (.tmp 2)) ∧ (EV A' (.tmp 3) = EV A56 (.tmp 3)) ∧ (EV A' (.tmp 7) = EV A56 (.tmp 7)) ∧ (EV A' (.tmp 8) = EV A56 (.tmp 8)) ∧ (EV A' (.tmp 11) = EV A56 (.tmp 11)) ∧ (EV A' (.tmp 12) = EV A56 (.tmp 12)) ∧ (EV A' (.tmp 13) = EV A56 (.tmp 13)) ∧ (EV A' (.tmp 14) = EV A56 (.tmp 14)) ∧ (EV A' (.tmp 62) = .bool (decide (((j : Int) < (full.length : Int)) ∧ (full.getD j 0 = (i : Int))))) ∧ St w20 Yb32 [c52_53, c51_53, c34_53, cK_53, c2_53] w') ?_ ?_
  ·have j1_61 := (fg8 F56)
   have j2_61 := (fg7 F56)
   have j3_61 := (fg6 F56)
   have j7_61 := (fg5 F56)
   have j8_61 := (fg4 F56)
   have j11_61 := (fg3 F56)
   have j12_61 := (fg2 F56)
   have j13_61 := (fg1 F56)
   have j14_61 := (fg0 F56)
   refine region_in ?_
   refine W_v V V (V_mov V (fg1 F56)) ?_
   refine W_v V V (V_mov V (es V (fg7 F56))) ?_
   refine W_v V V (V_lenS V (et V) (sl_SlN h_fv_32.at) Try.underlying25) ?_
   refine W_v V V (V_lss V (es2 V (et V)) (et V)) ?_
   refine W_split V V (V_mov V (et V)) (fun c62 => ?_) (fun c62 => ?_)
   ·refine W_v V (xwt V V (et V)) (V_mov V (es5 V (fg7 F56))) ?_
    refine W_v V (xwt V V (es V (et V))) (V_mov V (es6 V (fg1 F56))) ?_
    have k63 : j < full.length := by first | omega | (simp only [List.length_cons, List.length_nil]; omega) | (simp only [List.length_set]; omega) | decide
    obtain ⟨y63, hy63⟩ := get_some (xs := full) (k := j) k63
    have gy63 := gD0 hy63
    obtain ⟨B63, O63, C63, hv63⟩ := (SlN.blk (sl_SlN h_fv_32.at) (by first | omega | (simp only [List.length_cons, List.length_nil]; omega) | (simp only [List.length_set]; omega) | decide))
    refine W_v V (xwt V V (es2 V (et V))) (V_ixS (off := O63 + j) 1 (j) V (es V (et V)) (et V) hv63 (by omega) k63 Try.underlying25 (by kernel_rfl) (congrArg _ (Nat.mul_one _))) ?_
    refine W_r V (xwt V V (es3 V (et V))) (VR_ldC V (et V) ((sl_SlN (S53.ro h_fv_32)).cell hv63 (map_get hy63)) Try.underlying3 V) ?_
    refine W_v V (xwt V V (es4 V (et V))) (V_mov V (es8 V (es V (fg0 F56)))) ?_
    refine W_v V (xwt V V (es5 V (et V))) (V_eql V (es V (et V)) (et V)) ?_
    refine W_v V V (V_pickT V (es6 V (et V)) (et V)) ?_
    refine W_end (gen_Q fun A64 E64 => ?_)
    have Y64 := szq E64
    have F64 := fsE E64 (ck (ck (ck (ck (ck (ck (ck (cq5 F56 V) V V) V V) V V) V V) V V) V V) V V)
    clear E64 Y56 F56
    exact Mid_n ⟨Y64, F64.d, ((fg15 F64).trans j1_61.symm), ((fg14 F64).trans j2_61.symm), ((fg13 F64).trans j3_61.symm), ((fg12 F64).trans j7_61.symm), ((fg11 F64).trans j8_61.symm), ((fg10 F64).trans j11_61.symm), ((fg9 F64).trans j12_61.symm), ((fg8 F64).trans j13_61.symm), ((fg7 F64).trans j14_61.symm), ((fg0 F64).trans (congrArg Value.bool (decide_eq_decide.2 ⟨fun q => ⟨c62, gy63.trans q⟩, fun q => gy63.symm.trans q.2⟩))), S53⟩
   refine xof V V V (et V) ?_
   refine xof V V V (es V (et V)) ?_
   refine xof V V V (es2 V (et V)) ?_
   refine xof V V V (es3 V (et V)) ?_
   refine xof V V V (es4 V (et V)) ?_
   refine xof V V V (es5 V (et V)) ?_
   refine W_v V V (V_pickF V (es6 V (et V)) V) ?_
   refine W_end (gen_Q fun A65 E65 => ?_)
   have Y65 := szq E65
   have F65 := fsE E65 (ck (ck (ck (ck (ck (ck (ck (cq5 F56 V) V V) V V) V V) V V) V V) V V) V V)
   clear E65 Y56 F56
   exact Mid_n ⟨Y65, F65.d, ((fg15 F65).trans j1_61.symm), ((fg14 F65).trans j2_61.symm), ((fg13 F65).trans j3_61.symm), ((fg12 F65).trans j7_61.symm), ((fg11 F65).trans j8_61.symm), ((fg10 F65).trans j11_61.symm), ((fg9 F65).trans j12_61.symm), ((fg8 F65).trans j13_61.symm), ((fg7 F65).trans j14_61.symm), ((fg0 F65).trans (congrArg Value.bool ((decide_eq_false (fun q => c62 q.1)).symm))), S53⟩
  rintro A61 w61 ⟨Y61, hdf61, u1_61, u2_61, u3_61, u7_61, u8_61, u11_61, u12_61, u13_61, u14_61, l62_61, S61⟩
  have l1_61 := u1_61.trans (fg8 F56)
  have l2_61 := u2_61.trans (fg7 F56)
  have l3_61 := u3_61.trans (fg6 F56)
  have l7_61 := u7_61.trans (fg5 F56)
  have l8_61 := u8_61.trans (fg4 F56)
  have l11_61 := u11_61.trans (fg3 F56)
  have l12_61 := u12_61.trans (fg2 F56)
  have l13_61 := u13_61.trans (fg1 F56)
  have l14_61 := u14_61.trans (fg0 F56)
  refine tk H60 ?_
  refine cond_dec l62_61 (fun c66 => ?_) (fun c66 => ?_)
  ·refine wp_seq_k fun K67 H67 => region_in ?_
   refine W_v V V (V_mov V l13_61) ?_
   refine W_v V V (V_add V (et V) V (by omega) (by omega)) ?_
   refine W_v V V (V_asg V (et V)) ?_
   refine W_end (gen_Q fun A68 E68 => ?_)
   have Y68 := szq E68
   have F68 := ((((((((fsE E68 (ck (cq2 (FS.n hdf61) V) V V)).c (lookE E68 1 (es3 V l1_61))).c (lookE E68 2 (es3 V l2_61))).c (lookE E68 3 (es3 V l3_61))).c (lookE E68 7 (es3 V l7_61))).c (lookE E68 8 (es3 V l8_61))).c (lookE E68 11 (es3 V l11_61))).c (lookE E68 12 (es3 V l12_61))).c (lookE E68 14 (es3 V l14_61))
   clear E68 Y61 hdf61 l1_61 l2_61 l3_61 l7_61 l8_61 l11_61 l12_61 l13_61 l14_61 l62_61
   refine tk H67 ?_
   refine wp_exit ?_
   refine then_exit ?_
   refine inb_hit ?_
   refine tk H58 ?_
   refine region_in ?_
   refine W_v V V (V_mov V (fg0 F68)) ?_
   refine W_v V V (V_add V (et V) V (by omega) (by omega)) ?_
   refine W_v V V (V_asg V (et V)) ?_
   refine W_end (gen_Q fun A69 E69 => ?_)
   have Y69 := szq E69
   have F69 := fsE E69 (ck (cq2 (fx0 F68) V) V V)
   clear E69 Y68 F68
   refine then_n ⟨os.length - (i + 1), by simp only [hm53]; omega, Y69, F69.d, (i + 1), (j + 1), bv, cv, rfl, (by omega), (hkp.stT hasc c66), (((fg0 F69)).trans (by first | rfl | (simp; done) | (congr 1; omega))), (((fg8 F69)).trans (by first | rfl | (simp; done) | (congr 1; omega))), (((fg2 F69)).trans (by first | rfl | (simp; done) | (congr 1; omega))), (((fg1 F69)).trans (by first | rfl | (simp; done) | (congr 1; omega))), (((fg7 F69)).trans (fg11 F50).symm), (((fg6 F69)).trans (fg10 F50).symm), (((fg5 F69)).trans (fg12 F50).symm), (((fg4 F69)).trans (fg8 F50).symm), (((fg3 F69)).trans (fg7 F50).symm), (by have q0 : c52_53 = ro 3 anC cv (kpK (rfP full) 0 ((plA (cfE C N Z K Q) (lgN C N Z K Q) K os full).take (i + 1))) := hc52_53.trans ((congrArg (ro 3 anC _) (kp_T (by omega) (KP.in ⟨by omega, c66.2⟩)).symm)); have q1 : c51_53 = ro 7 opC bv (kpK (rfP full) 0 (os.take (i + 1))) := hc51_53.trans ((congrArg (ro 7 opC _) (kp_T (by omega) (KP.in ⟨by omega, c66.2⟩)).symm)); have q2 := hc34_53; have q3 := hcK_53; have q4 := hc2_53; subst q0 q1 q2 q3 q4; exact S61)⟩
  refine wp_skip ?_
  refine tk H59 ?_
  have k70 : i < os.length := by first | omega | (simp only [List.length_cons, List.length_nil]; omega) | (simp only [List.length_set]; omega) | decide
  obtain ⟨y70, hy70⟩ := get_some (xs := os) (k := i) k70
  obtain ⟨B70, O70, C70, hv70⟩ := (SlN.blk (sl_SlN h_lv_32.at) (by first | omega | (simp only [List.length_cons, List.length_nil]; omega) | (simp only [List.length_set]; omega) | decide))
  have hll71 : [(OpC.mk y70.kd y70.a y70.b y70.f y70.p y70.q y70.u)].length = 1 := rfl
  have k73 : i < (plA (cfE C N Z K Q) (lgN C N Z K Q) K os full).length := by first | omega | (simp only [List.length_cons, List.length_nil]; omega) | (simp only [List.length_set]; omega) | decide
  obtain ⟨y73, hy73⟩ := get_some (xs := (plA (cfE C N Z K Q) (lgN C N Z K Q) K os full)) (k := i) k73
  obtain ⟨B73, O73, C73, hv73⟩ := (SlN.blk (sl_SlN fz32_0.at) (by first | omega | (simp only [List.length_cons, List.length_nil]; omega) | (simp only [List.length_set]; omega) | decide))
  have hll74 : [(AnC.mk y73.e y73.t y73.v)].length = 1 := rfl
  refine region_anyQ (by kernel_rfl) 16 V (fun w190 hx190 => ?_)
  have S190 := S61.grow hx190
  refine AX_parL (l0 := [c52_53, c51_53, c34_53, cK_53, c2_53]) (k := 2) [⟨[], [], [65], fun vs => [], fun vs => (vs.getD 0 undef) = bv⟩, ⟨[], [], [66], fun vs => [], fun vs => (vs.getD 0 undef) = lv⟩, ⟨[], [], [67], fun vs => [], fun vs => (vs.getD 0 undef) = .int .i64 ((i : Int))⟩, ⟨[], [], [68], fun vs => [], fun vs => (vs.getD 0 undef) = .pointer (some ⟨B70, O70 + i * 7, none⟩)⟩, ⟨[], [], [69], fun vs => [], fun vs => (vs.getD 0 undef) = .agg #[.int .i64 (y70.kd), .int .i64 (y70.a), .int .i64 (y70.b), .int .i64 (y70.f), .int .i64 (y70.p), .int .i64 (y70.q), .int .u64 (y70.u)]⟩, ⟨[], [5], [70], fun vs => [ro 7 opC (vs.getD 0 undef) [(OpC.mk y70.kd y70.a y70.b y70.f y70.p y70.q y70.u)]], fun vs => True⟩, ⟨[5], [1], [71], fun vs => [ro 7 opC (vs.getD 0 undef) ((kpK (rfP full) 0 (os.take i)) ++ [(OpC.mk y70.kd y70.a y70.b y70.f y70.p y70.q y70.u)])], fun vs => True⟩, ⟨[], [], [72], fun vs => [], fun vs => (vs.getD 0 undef) = cv⟩, ⟨[], [], [73], fun vs => [], fun vs => (vs.getD 0 undef) = av_20⟩, ⟨[], [], [74], fun vs => [], fun vs => (vs.getD 0 undef) = .int .i64 ((i : Int))⟩, ⟨[], [], [75], fun vs => [], fun vs => (vs.getD 0 undef) = .pointer (some ⟨B73, O73 + i * 3, none⟩)⟩, ⟨[], [], [76], fun vs => [], fun vs => (vs.getD 0 undef) = .agg #[.int .i64 (y73.e), .bool (y73.t), .int .u64 (y73.v)]⟩, ⟨[], [6], [77], fun vs => [ro 3 anC (vs.getD 0 undef) [(AnC.mk y73.e y73.t y73.v)]], fun vs => True⟩, ⟨[6], [0], [78], fun vs => [ro 3 anC (vs.getD 0 undef) ((kpK (rfP full) 0 ((plA (cfE C N Z K Q) (lgN C N Z K Q) K os full).take i)) ++ [(AnC.mk y73.e y73.t y73.v)])], fun vs => True⟩, ⟨[], [], [11, 71], fun vs => [], fun vs => (vs.getD 0 undef) = (vs.getD 1 undef)⟩, ⟨[], [], [12, 78], fun vs => [], fun vs => (vs.getD 0 undef) = (vs.getD 1 undef)⟩] [c52_53, c51_53, c34_53, cK_53, c2_53, pu True, pu True] S190 V (by kernel_rfl) V ⟨?_, ?_, ?_, ?_, ?_, ?_, ?_, ?_, ?_, ?_, ?_, ?_, ?_, ?_, ?_, ?_, trivial⟩ ?_
  ·refine stepI [] (fun vs => []) V (fun a => by kernel_rfl) ?_
   intro A191 w191 rst hFr hF S191
   replace S191 : St w20 Yb32 [rst] w191 := S191
   have Y191 : SzN A191 102 := ⟨hFr.sz.trans Y61.out⟩
   have hdf191 : A191.defers = [] := hFr.df.trans hdf61
   have l11_191 := (oldS hFr 11 (by kernel_rfl)).trans l11_61
   refine W_v V V (V_mov V l11_191) ?_
   refine W_end ?_
   refine kq _ ?_
   exact ⟨_, [bv], rfl, ts1 (et V), rfl, rfl, S191⟩
  ·refine stepI [] (fun vs => []) V (fun a => by kernel_rfl) ?_
   intro A192 w192 rst hFr hF S192
   replace S192 : St w20 Yb32 [rst] w192 := S192
   have Y192 : SzN A192 102 := ⟨hFr.sz.trans Y61.out⟩
   have hdf192 : A192.defers = [] := hFr.df.trans hdf61
   have l1_192 := (oldS hFr 1 (by kernel_rfl)).trans l1_61
   refine W_v V V (V_mov V l1_192) ?_
   refine W_end ?_
   refine kq _ ?_
   exact ⟨_, [lv], rfl, ts1 (et V), rfl, rfl, S192⟩
  ·refine stepI [] (fun vs => []) V (fun a => by kernel_rfl) ?_
   intro A193 w193 rst hFr hF S193
   replace S193 : St w20 Yb32 [rst] w193 := S193
   have Y193 : SzN A193 102 := ⟨hFr.sz.trans Y61.out⟩
   have hdf193 : A193.defers = [] := hFr.df.trans hdf61
   have l14_193 := (oldS hFr 14 (by kernel_rfl)).trans l14_61
   refine W_v V V (V_mov V l14_193) ?_
   refine W_end ?_
   refine kq _ ?_
   exact ⟨_, [.int .i64 ((i : Int))], rfl, ts1 (et V), rfl, rfl, S193⟩
  ·refine stepI [] (fun vs => []) V (fun a => by kernel_rfl) ?_
   intro A194 w194 rst hFr hF S194
   replace S194 : St w20 Yb32 [rst] w194 := S194
   have f66_194 : EV A194 (.tmp 66) = lv := hF 1 (by kernel_rfl)
   have f67_194 : EV A194 (.tmp 67) = .int .i64 ((i : Int)) := hF 2 (by kernel_rfl)
   generalize q66_194 : EV A194 (.tmp 66) = us66 at S194 f66_194 f67_194
   generalize q67_194 : EV A194 (.tmp 67) = us67 at S194 f66_194 f67_194
   have l66_194 := q66_194.trans f66_194
   have l67_194 := q67_194.trans f67_194
   have Y194 : SzN A194 102 := ⟨hFr.sz.trans Y61.out⟩
   have hdf194 : A194.defers = [] := hFr.df.trans hdf61
   refine W_v V V (V_ixS (off := O70 + i * 7) 7 (i) V l66_194 l67_194 hv70 (by omega) k70 Try.underlying24 (by kernel_rfl) V) ?_
   refine W_end ?_
   refine kq _ ?_
   subst q66_194 q67_194
   exact ⟨_, [.pointer (some ⟨B70, O70 + i * 7, none⟩)], rfl, ts1 (et V), rfl, rfl, S194⟩
  ·refine stepI [] (fun vs => []) V (fun a => by kernel_rfl) ?_
   intro A196 w196 rst hFr hF S196
   replace S196 : St w20 Yb32 [rst] w196 := S196
   have f68_196 : EV A196 (.tmp 68) = .pointer (some ⟨B70, O70 + i * 7, none⟩) := hF 3 (by kernel_rfl)
   generalize q68_196 : EV A196 (.tmp 68) = us68 at S196 f68_196
   have l68_196 := q68_196.trans f68_196
   have Y196 : SzN A196 102 := ⟨hFr.sz.trans Y61.out⟩
   have hdf196 : A196.defers = [] := hFr.df.trans hdf61
   refine W_r V V (VR_ldR (ys := opC y70) V l68_196 (SlN.row opC_len (sl_SlN (S196.ro h_lv_32)) hv70 hy70 V) Try.underlying42 V (by kernel_rfl)) ?_
   refine W_end ?_
   refine kq _ ?_
   subst q68_196
   exact ⟨_, [.agg #[.int .i64 (y70.kd), .int .i64 (y70.a), .int .i64 (y70.b), .int .i64 (y70.f), .int .i64 (y70.p), .int .i64 (y70.q), .int .u64 (y70.u)]], rfl, ts1 (et V), rfl, rfl, S196⟩
  ·refine stepI [] (fun vs => [pu True]) V (fun a => by kernel_rfl) ?_
   intro A197 w197 rst hFr hF S197
   replace S197 : St w20 Yb32 [pu True, rst] w197 := S197
   have f69_197 : EV A197 (.tmp 69) = .agg #[.int .i64 (y70.kd), .int .i64 (y70.a), .int .i64 (y70.b), .int .i64 (y70.f), .int .i64 (y70.p), .int .i64 (y70.q), .int .u64 (y70.u)] := hF 4 (by kernel_rfl)
   generalize q69_197 : EV A197 (.tmp 69) = us69 at S197 f69_197
   have l69_197 := q69_197.trans f69_197
   have Y197 : SzN A197 102 := ⟨hFr.sz.trans Y61.out⟩
   have hdf197 : A197.defers = [] := hFr.df.trans hdf61
   obtain ⟨cz_197, hcz_197, S197⟩ := gen1 S197
   have hll198 : [(OpC.mk y70.kd y70.a y70.b y70.f y70.p y70.q y70.u)].length = 1 := rfl
   refine xsL (vs := [.agg #[.int .i64 (y70.kd), .int .i64 (y70.a), .int .i64 (y70.b), .int .i64 (y70.f), .int .i64 (y70.p), .int .i64 (y70.q), .int .u64 (y70.u)]]) (xs := ([(OpC.mk y70.kd y70.a y70.b y70.f y70.p y70.q y70.u)].flatMap opC)) 7 S197 V V V (parts1 l69_197) Try.underlying24 (fun g198 w198 c198 hc198 S198 => ?_)
   replace hc198 : c198 = ro 7 opC (.slice (some ⟨g198, 0, none⟩) 1 1) [(OpC.mk y70.kd y70.a y70.b y70.f y70.p y70.q y70.u)] := hc198
   replace S198 : St w20 Yb32 (c198 :: cz_197 :: [rst]) w198 := S198
   refine W_end ?_
   refine kq _ ?_
   have S200 := S198.del 1
   replace S200 : St w20 Yb32 (c198 :: [rst]) w198 := S200
   subst q69_197
   exact ⟨_, [(.slice (some ⟨g198, 0, none⟩) 1 1)], rfl, ts1 (et V), trivial, rfl, by subst hc198; exact S200⟩
  ·refine stepI [70] (fun vs => [ro 7 opC (vs.getD 0 undef) [(OpC.mk y70.kd y70.a y70.b y70.f y70.p y70.q y70.u)], c51_53]) V (fun a => by kernel_rfl) ?_
   intro A201 w201 rst hFr hF S201
   replace S201 : St w20 Yb32 [ro 7 opC (EV A201 (.tmp 70)) [(OpC.mk y70.kd y70.a y70.b y70.f y70.p y70.q y70.u)], c51_53, rst] w201 := S201
   have f65_201 : EV A201 (.tmp 65) = bv := hF 0 (by kernel_rfl)
   generalize q65_201 : EV A201 (.tmp 65) = us65 at S201 f65_201
   generalize q70_201 : EV A201 (.tmp 70) = us70 at S201 f65_201
   have l65_201 := q65_201.trans f65_201
   have l70_201 := q70_201
   have Y201 : SzN A201 102 := ⟨hFr.sz.trans Y61.out⟩
   have hdf201 : A201.defers = [] := hFr.df.trans hdf61
   obtain ⟨c131_201, c51_201, hc131_201, hc51_201, S201⟩ := gen2 S201
   replace hc51_201 := hc51_201.trans hc51_53
   refine W_appS 7 1 S201 V hc51_201 V V V l65_201 l70_201 Try.underlying24 Try.underlying24 (z := .agg #[.int .i64 0, .int .i64 0, .int .i64 0, .int .i64 0, .int .i64 0, .int .i64 0, .int .u64 0]) (bytes := 56) (by kernel_rfl) V (by decide) (ow_at (S201.chq 0 V hc131_201)) (ones_r opC_one) (by have := kp_tl (p := rfP full) (l := os) (i := i); simp; omega) (by have := kp_tl (p := rfP full) (l := os) (i := i); simp; omega) (fun v202 w202 c202 hc202 S202 => ?_)
   replace hc202 : c202 = ro 7 opC v202 ((kpK (rfP full) 0 (os.take i)) ++ [(OpC.mk y70.kd y70.a y70.b y70.f y70.p y70.q y70.u)]) := hc202.trans (app_eqR (by first | (simp; done) | (rw [List.take_of_length_le (l := List.drop _ _) (by rw [List.length_drop]; exact Nat.le_refl _)])))
   replace S202 : St w20 Yb32 (c131_201 :: c202 :: [rst]) w202 := S202
   refine W_end ?_
   refine kq _ ?_
   subst q65_201 q70_201
   exact ⟨_, [v202], rfl, ts1 (et V), trivial, rfl, by subst hc131_201 hc202 hc51_53; exact S202⟩
  ·refine stepI [] (fun vs => []) V (fun a => by kernel_rfl) ?_
   intro A203 w203 rst hFr hF S203
   replace S203 : St w20 Yb32 [rst] w203 := S203
   have Y203 : SzN A203 102 := ⟨hFr.sz.trans Y61.out⟩
   have hdf203 : A203.defers = [] := hFr.df.trans hdf61
   have l12_203 := (oldS hFr 12 (by kernel_rfl)).trans l12_61
   refine W_v V V (V_mov V l12_203) ?_
   refine W_end ?_
   refine kq _ ?_
   exact ⟨_, [cv], rfl, ts1 (et V), rfl, rfl, S203⟩
  ·refine stepI [] (fun vs => []) V (fun a => by kernel_rfl) ?_
   intro A204 w204 rst hFr hF S204
   replace S204 : St w20 Yb32 [rst] w204 := S204
   have Y204 : SzN A204 102 := ⟨hFr.sz.trans Y61.out⟩
   have hdf204 : A204.defers = [] := hFr.df.trans hdf61
   have l8_204 := (oldS hFr 8 (by kernel_rfl)).trans l8_61
   refine W_v V V (V_mov V l8_204) ?_
   refine W_end ?_
   refine kq _ ?_
   exact ⟨_, [av_20], rfl, ts1 (et V), rfl, rfl, S204⟩
  ·refine stepI [] (fun vs => []) V (fun a => by kernel_rfl) ?_
   intro A205 w205 rst hFr hF S205
   replace S205 : St w20 Yb32 [rst] w205 := S205
   have Y205 : SzN A205 102 := ⟨hFr.sz.trans Y61.out⟩
   have hdf205 : A205.defers = [] := hFr.df.trans hdf61
   have l14_205 := (oldS hFr 14 (by kernel_rfl)).trans l14_61
   refine W_v V V (V_mov V l14_205) ?_
   refine W_end ?_
   refine kq _ ?_
   exact ⟨_, [.int .i64 ((i : Int))], rfl, ts1 (et V), rfl, rfl, S205⟩
  ·refine stepI [] (fun vs => []) V (fun a => by kernel_rfl) ?_
   intro A206 w206 rst hFr hF S206
   replace S206 : St w20 Yb32 [rst] w206 := S206
   have f73_206 : EV A206 (.tmp 73) = av_20 := hF 8 (by kernel_rfl)
   have f74_206 : EV A206 (.tmp 74) = .int .i64 ((i : Int)) := hF 9 (by kernel_rfl)
   generalize q73_206 : EV A206 (.tmp 73) = us73 at S206 f73_206 f74_206
   generalize q74_206 : EV A206 (.tmp 74) = us74 at S206 f73_206 f74_206
   have l73_206 := q73_206.trans f73_206
   have l74_206 := q74_206.trans f74_206
   have Y206 : SzN A206 102 := ⟨hFr.sz.trans Y61.out⟩
   have hdf206 : A206.defers = [] := hFr.df.trans hdf61
   refine W_v V V (V_ixS (off := O73 + i * 3) 3 (i) V l73_206 l74_206 hv73 (by omega) k73 Try.underlying37 (by kernel_rfl) V) ?_
   refine W_end ?_
   refine kq _ ?_
   subst q73_206 q74_206
   exact ⟨_, [.pointer (some ⟨B73, O73 + i * 3, none⟩)], rfl, ts1 (et V), rfl, rfl, S206⟩
  ·refine stepI [] (fun vs => []) V (fun a => by kernel_rfl) ?_
   intro A208 w208 rst hFr hF S208
   replace S208 : St w20 Yb32 [rst] w208 := S208
   have f75_208 : EV A208 (.tmp 75) = .pointer (some ⟨B73, O73 + i * 3, none⟩) := hF 10 (by kernel_rfl)
   generalize q75_208 : EV A208 (.tmp 75) = us75 at S208 f75_208
   have l75_208 := q75_208.trans f75_208
   have Y208 : SzN A208 102 := ⟨hFr.sz.trans Y61.out⟩
   have hdf208 : A208.defers = [] := hFr.df.trans hdf61
   refine W_r V V (VR_ldR (ys := anC y73) V l75_208 (SlN.row anC_len (sl_SlN (S208.ro fz32_0)) hv73 hy73 V) Try.underlying44 V (by kernel_rfl)) ?_
   refine W_end ?_
   refine kq _ ?_
   subst q75_208
   exact ⟨_, [.agg #[.int .i64 (y73.e), .bool (y73.t), .int .u64 (y73.v)]], rfl, ts1 (et V), rfl, rfl, S208⟩
  ·refine stepI [] (fun vs => [pu True]) V (fun a => by kernel_rfl) ?_
   intro A209 w209 rst hFr hF S209
   replace S209 : St w20 Yb32 [pu True, rst] w209 := S209
   have f76_209 : EV A209 (.tmp 76) = .agg #[.int .i64 (y73.e), .bool (y73.t), .int .u64 (y73.v)] := hF 11 (by kernel_rfl)
   generalize q76_209 : EV A209 (.tmp 76) = us76 at S209 f76_209
   have l76_209 := q76_209.trans f76_209
   have Y209 : SzN A209 102 := ⟨hFr.sz.trans Y61.out⟩
   have hdf209 : A209.defers = [] := hFr.df.trans hdf61
   obtain ⟨cz_209, hcz_209, S209⟩ := gen1 S209
   have hll210 : [(AnC.mk y73.e y73.t y73.v)].length = 1 := rfl
   refine xsL (vs := [.agg #[.int .i64 (y73.e), .bool (y73.t), .int .u64 (y73.v)]]) (xs := ([(AnC.mk y73.e y73.t y73.v)].flatMap anC)) 3 S209 V V V (parts1 l76_209) Try.underlying37 (fun g210 w210 c210 hc210 S210 => ?_)
   replace hc210 : c210 = ro 3 anC (.slice (some ⟨g210, 0, none⟩) 1 1) [(AnC.mk y73.e y73.t y73.v)] := hc210
   replace S210 : St w20 Yb32 (c210 :: cz_209 :: [rst]) w210 := S210
   refine W_end ?_
   refine kq _ ?_
   have S212 := S210.del 1
   replace S212 : St w20 Yb32 (c210 :: [rst]) w210 := S212
   subst q76_209
   exact ⟨_, [(.slice (some ⟨g210, 0, none⟩) 1 1)], rfl, ts1 (et V), trivial, rfl, by subst hc210; exact S212⟩
  ·refine stepI [77] (fun vs => [ro 3 anC (vs.getD 0 undef) [(AnC.mk y73.e y73.t y73.v)], c52_53]) V (fun a => by kernel_rfl) ?_
   intro A213 w213 rst hFr hF S213
   replace S213 : St w20 Yb32 [ro 3 anC (EV A213 (.tmp 77)) [(AnC.mk y73.e y73.t y73.v)], c52_53, rst] w213 := S213
   have f72_213 : EV A213 (.tmp 72) = cv := hF 7 (by kernel_rfl)
   generalize q72_213 : EV A213 (.tmp 72) = us72 at S213 f72_213
   generalize q77_213 : EV A213 (.tmp 77) = us77 at S213 f72_213
   have l72_213 := q72_213.trans f72_213
   have l77_213 := q77_213
   have Y213 : SzN A213 102 := ⟨hFr.sz.trans Y61.out⟩
   have hdf213 : A213.defers = [] := hFr.df.trans hdf61
   obtain ⟨c134_213, c52_213, hc134_213, hc52_213, S213⟩ := gen2 S213
   replace hc52_213 := hc52_213.trans hc52_53
   refine W_appS 3 1 S213 V hc52_213 V V V l72_213 l77_213 Try.underlying37 Try.underlying37 (z := .agg #[.int .i64 0, .bool false, .int .u64 0]) (bytes := 24) (by kernel_rfl) V (by decide) (ow_at (S213.chq 0 V hc134_213)) (ones_r anC_one) (by have := kp_tl (p := rfP full) (l := (plA (cfE C N Z K Q) (lgN C N Z K Q) K os full)) (i := i); simp; omega) (by have := kp_tl (p := rfP full) (l := (plA (cfE C N Z K Q) (lgN C N Z K Q) K os full)) (i := i); simp; omega) (fun v214 w214 c214 hc214 S214 => ?_)
   replace hc214 : c214 = ro 3 anC v214 ((kpK (rfP full) 0 ((plA (cfE C N Z K Q) (lgN C N Z K Q) K os full).take i)) ++ [(AnC.mk y73.e y73.t y73.v)]) := hc214.trans (app_eqR (by first | (simp; done) | (rw [List.take_of_length_le (l := List.drop _ _) (by rw [List.length_drop]; exact Nat.le_refl _)])))
   replace S214 : St w20 Yb32 (c134_213 :: c214 :: [rst]) w214 := S214
   refine W_end ?_
   refine kq _ ?_
   subst q72_213 q77_213
   exact ⟨_, [v214], rfl, ts1 (et V), trivial, rfl, by subst hc134_213 hc214 hc52_53; exact S214⟩
  ·refine stepI [] (fun vs => []) V (fun a => by kernel_rfl) ?_
   intro A215 w215 rst hFr hF S215
   replace S215 : St w20 Yb32 [rst] w215 := S215
   generalize q71_215 : EV A215 (.tmp 71) = us71 at S215
   have l71_215 := q71_215
   have Y215 : SzN A215 102 := ⟨hFr.sz.trans Y61.out⟩
   have hdf215 : A215.defers = [] := hFr.df.trans hdf61
   refine W_v V V (V_asg V l71_215) ?_
   refine W_end ?_
   refine kq _ ?_
   subst q71_215
   exact ⟨_, [(EV A215 (.tmp 71)), EV A215 (.tmp 71)], rfl, ts2 (et V) (es V V), rfl, rfl, S215⟩
  ·refine stepI [] (fun vs => []) V (fun a => by kernel_rfl) ?_
   intro A216 w216 rst hFr hF S216
   replace S216 : St w20 Yb32 [rst] w216 := S216
   generalize q78_216 : EV A216 (.tmp 78) = us78 at S216
   have l78_216 := q78_216
   have Y216 : SzN A216 102 := ⟨hFr.sz.trans Y61.out⟩
   have hdf216 : A216.defers = [] := hFr.df.trans hdf61
   refine W_v V V (V_asg V l78_216) ?_
   refine W_end ?_
   refine kq _ ?_
   subst q78_216
   exact ⟨_, [(EV A216 (.tmp 78)), EV A216 (.tmp 78)], rfl, ts2 (et V) (es V V), rfl, rfl, S216⟩
  intro A217 w217 hFr hF S217
  replace S217 : St w20 Yb32 [ro 3 anC (EV A217 (.tmp 78)) ((kpK (rfP full) 0 ((plA (cfE C N Z K Q) (lgN C N Z K Q) K os full).take i)) ++ [(AnC.mk y73.e y73.t y73.v)]), ro 7 opC (EV A217 (.tmp 71)) ((kpK (rfP full) 0 (os.take i)) ++ [(OpC.mk y70.kd y70.a y70.b y70.f y70.p y70.q y70.u)]), c34_53, cK_53, c2_53, ro 7 opC (EV A217 (.tmp 70)) [(OpC.mk y70.kd y70.a y70.b y70.f y70.p y70.q y70.u)], ro 3 anC (EV A217 (.tmp 77)) [(AnC.mk y73.e y73.t y73.v)]] w217 := S217.cast (by kernel_rfl)
  have f11_217 : EV A217 (.tmp 11) = (EV A217 (.tmp 71)) := hF 14 (by decide)
  have f12_217 : EV A217 (.tmp 12) = (EV A217 (.tmp 78)) := hF 15 (by decide)
  generalize q11_217 : EV A217 (.tmp 11) = us11 at S217 f11_217 f12_217
  generalize q71_217 : EV A217 (.tmp 71) = us71 at S217 f11_217 f12_217
  generalize q12_217 : EV A217 (.tmp 12) = us12 at S217 f11_217 f12_217
  generalize q78_217 : EV A217 (.tmp 78) = us78 at S217 f11_217 f12_217
  generalize q70_217 : EV A217 (.tmp 70) = us70 at S217 f11_217 f12_217
  generalize q77_217 : EV A217 (.tmp 77) = us77 at S217 f11_217 f12_217
  have l11_217 := q11_217.trans f11_217
  have l71_217 := q71_217
  have l12_217 := q12_217.trans f12_217
  have l78_217 := q78_217
  have l70_217 := q70_217
  have l77_217 := q77_217
  have Y217 : SzN A217 102 := ⟨hFr.sz.trans Y61.out⟩
  have hdf217 : A217.defers = [] := hFr.df.trans hdf61
  obtain ⟨c135_217, c132_217, c34_217, cK_217, c2_217, c131_217, c134_217, hc135_217, hc132_217, hc34_217, hcK_217, hc2_217, hc131_217, hc134_217, S217⟩ := gen7 S217
  replace hc34_217 := hc34_217.trans hc34_53
  replace hcK_217 := hcK_217.trans hcK_53
  replace hc2_217 := hc2_217.trans hc2_53
  have l1_217 := (oldS hFr 1 (by kernel_rfl)).trans l1_61
  have l2_217 := (oldS hFr 2 (by kernel_rfl)).trans l2_61
  have l3_217 := (oldS hFr 3 (by kernel_rfl)).trans l3_61
  have l7_217 := (oldS hFr 7 (by kernel_rfl)).trans l7_61
  have l8_217 := (oldS hFr 8 (by kernel_rfl)).trans l8_61
  have l13_217 := (oldS hFr 13 (by kernel_rfl)).trans l13_61
  have l14_217 := (oldS hFr 14 (by kernel_rfl)).trans l14_61
  clear Y61 hdf61 S61 l1_61 l2_61 l3_61 l7_61 l8_61 l11_61 l12_61 l13_61 l14_61 l62_61
  refine Qo_normal ?_
  have S218 : St w20 Yb32 [c135_217, c132_217, c34_217, cK_217, c2_217] w217 := S217.sel [0, 1, 2, 3, 4] (by decide) V
  refine inb_n ?_
  refine tk H58 ?_
  refine region_in ?_
  refine W_v V V (V_mov V l14_217) ?_
  refine W_v V V (V_add V (et V) V (by omega) (by omega)) ?_
  refine W_v V V (V_asg V (et V)) ?_
  refine W_end (gen_Q fun A219 E219 => ?_)
  have Y219 := szq E219
  have F219 := ((((((((fsE E219 (ck (cq2 (FS.n hdf217) V) V V)).c (lookE E219 1 (es3 V l1_217))).c (lookE E219 2 (es3 V l2_217))).c (lookE E219 3 (es3 V l3_217))).c (lookE E219 7 (es3 V l7_217))).c (lookE E219 8 (es3 V l8_217))).c (lookE E219 11 (es3 V l11_217))).c (lookE E219 12 (es3 V l12_217))).c (lookE E219 13 (es3 V l13_217))
  clear E219 Y217 hdf217 l11_217 l12_217 l1_217 l2_217 l3_217 l7_217 l8_217 l13_217 l14_217
  refine then_n ⟨os.length - (i + 1), by simp only [hm53]; omega, Y219, F219.d, (i + 1), j, us71, us78, rfl, (by omega), (hkp.stF hasc c66), (((fg8 F219)).trans (by first | rfl | (simp; done) | (congr 1; omega))), (((fg0 F219)).trans (by first | rfl | (simp; done) | (congr 1; omega))), (((fg2 F219)).trans (by first | rfl | (simp; done) | (congr 1; omega))), (((fg1 F219)).trans (by first | rfl | (simp; done) | (congr 1; omega))), (((fg7 F219)).trans (fg11 F50).symm), (((fg6 F219)).trans (fg10 F50).symm), (((fg5 F219)).trans (fg12 F50).symm), (((fg4 F219)).trans (fg8 F50).symm), (((fg3 F219)).trans (fg7 F50).symm), (by have q0 : c135_217 = ro 3 anC us78 (kpK (rfP full) 0 ((plA (cfE C N Z K Q) (lgN C N Z K Q) K os full).take (i + 1))) := hc135_217.trans ((congrArg (ro 3 anC _) (kp_F hy73 (hkp.out hasc c66)).symm)); have q1 : c132_217 = ro 7 opC us71 (kpK (rfP full) 0 (os.take (i + 1))) := hc132_217.trans ((congrArg (ro 7 opC _) (kp_F hy70 (hkp.out hasc c66)).symm)); have q2 := hc34_217; have q3 := hcK_217; have q4 := hc2_217; subst q0 q1 q2 q3 q4; exact S218)⟩
 have hi2 : os.take i = os := List.take_of_length_le (by omega)
 refine wp_exit ?_
 refine then_exit ?_
 refine then_exit ?_
 refine inb_hit ?_
 refine tk H48 (wp_seq_k fun K220 H220 => region_in ?_)
 refine W_r V V (VR_ldA V (fg6 F56) (S53.obj 4 V hc2_53) Try.underlying23 V (by kernel_rfl)) ?_
 refine W_v V V (V_mov V (es V (fg3 F56))) ?_
 refine W_call V V V Try.func12 (by kernel_rfl) V (args3 (es V (et V)) (et V) V) (kPl_c (C := C) (N := N) (Z := Z) (K := K) (Q := Q) (full := []) (fv := .slice none 0 0) (S53.chC 1 V hc51_53).own ro_nil ) ?_
 rintro _ w221 (⟨rfl, hz_221, hP221⟩ | ⟨G_221, av_221, rfl, hz_221, hg_221, hP221⟩)
 ·refine ⟨_, rfl, ?_⟩
  have S221 := S53.join hP221
  replace S221 : St w20 Yb32 [c52_53, c51_53, c34_53, cK_53, c2_53] w221 := S221
  exact absurd (by rw [hi2, (kp_pl hz_20).1]) hz_221
 refine ⟨_, rfl, ?_⟩
 obtain ⟨cK_221, cA_221, hcK_221, hcA_221, hP221⟩ := gen2 hP221
 have S221 := S53.join hP221
 replace S221 : St w20 Yb32 [cK_221, cA_221, c52_53, c51_53, c34_53, cK_53, c2_53] w221 := S221
 refine W_v V V (V_mov V (et V)) ?_
 refine W_v V V (V_ext (v := .agg #[G_221.1.1, G_221.2.1]) V (et V) V) ?_
 refine W_v V V (V_ext (v := av_221) V (es V (et V)) V) ?_
 refine W_v V V (V_ext (v := .int .i64 0) V (es2 V (et V)) V) ?_
 refine W_v V V (V_ext (v := .int .i64 0) V (es3 V (et V)) V) ?_
 refine W_allocS (z := .agg #[.slice none 0 0, .slice none 0 0]) (zs := #[.slice none 0 0, .slice none 0 0]) S221 V V V (by kernel_rfl) (by rfl) (fun g222 w222 c222 hc222 S222 => ?_)
 replace S222 : St w20 Yb32 [c222, cK_221, cA_221, c52_53, c51_53, c34_53, cK_53, c2_53] w222 := S222
 refine xsB 0 S222 V hc222 V V V (et V) (es4 V (et V)) (by simp only [List.all_toArray, List.all_cons, List.all_nil, grC, SlN_one (sl_SlN (gl_oa m1 (S222.chq 1 V hcK_221))), SlN_one (sl_SlN (gl_ra m1 (S222.chq 1 V hcK_221)))] <;> rfl) (fun w223 c223 hc223 S223 => ?_)
 replace S223 : St w20 Yb32 [c223, cK_221, cA_221, c52_53, c51_53, c34_53, cK_53, c2_53] w223 := S223
 refine W_v V V (V_asg V (es3 V (et V))) ?_
 refine W_v V V (V_asg V (es3 V (et V))) ?_
 refine W_v V V (V_asg V (es3 V (et V))) ?_
 refine W_end (gen_Q fun A224 E224 => ?_)
 have Y224 := szq E224
 have F224 := fsE E224 (ck (cq1 (ck (ck (cq8 F56 V) V V) V V) V) V V)
 clear E224 Y56 F56
 have S225 : St w20 Yb32 [c223, cK_221, cA_221, c52_53, c34_53, cK_53] w223 := S223.sel [0, 1, 2, 3, 5, 6] (by decide) V
 refine tk H220 (wp_seq_k fun K226 H226 => region_in ?_)
 refine W_r V V (VR_ldA V (fg8 F224) (S225.obj 4 V hc34_53) Try.underlying36 V (by kernel_rfl)) ?_
 refine W_r V V (VR_ldA V (es V (fg2 F224)) (S225.obj 0 V hc223) Try.underlying36 V (by kernel_rfl)) ?_
 refine W_call V V V Try.func13 (by kernel_rfl) V (args2 (es V (et V)) (et V)) (qsm_c (gl_oaR m1 (S225.chC 5 V hcK_53)) (gl_naR m1 (S225.chC 5 V hcK_53)) (gl_raR m1 (S225.chC 5 V hcK_53)) (gl_oaR m1 (S225.chC 1 V hcK_221)) (gl_naR m1 (S225.chC 1 V hcK_221)) (gl_raR m1 (S225.chC 1 V hcK_221)) ) ?_
 rintro _ w227 ⟨rfl, hP227⟩
 refine ⟨_, rfl, ?_⟩
 have S227 := S225.join hP227
 replace S227 : St w20 Yb32 [c223, cK_221, cA_221, c52_53, c34_53, cK_53] w227 := S227
 refine W_sure (c' := true) V V (V_mov V (et V)) (as_sm (G := G_20) (hg_221.trans (by rw [hi2, (kp_pl hz_20).2.2, hg_20]))) ?_
 refine W_v V (xwt V V (et V)) (V_mov V (es4 V (fg1 F224))) ?_
 refine W_v V (xwt V V (es V (et V))) (V_mov V (es5 V (fg5 F224))) ?_
 refine W_call V (xwt V V (es2 V (et V))) V Try.func14 (by kernel_rfl) V (args2 (es V (et V)) (et V)) (ksm29_c (S227.chC 2 V hcA_221).own (S227.chC 3 V hc52_53).own ) ?_
 rintro _ w228 ⟨rfl, hP228⟩
 refine ⟨_, rfl, ?_⟩
 have S228 := S227.join hP228
 replace S228 : St w20 Yb32 [c223, cK_221, cA_221, c52_53, c34_53, cK_53] w228 := S228
 refine W_v V V (V_pickT V (es3 V (et V)) (et V)) ?_
 refine W_sure (c' := true) V V (V_mov V (et V)) (by rw [decide_eq_true_eq]; rw [hi2, (kp_pl hz_20).2.1, List.take_of_length_le (by omega)]) ?_
 refine W_v V (xwt V V (et V)) (V_mov V (es8 V (es V (fg0 F224)))) ?_
 refine W_v V (xwt V V (es V (et V))) (V_eql V (et V) V) ?_
 refine W_v V V (V_pickT V (es2 V (et V)) (et V)) ?_
 refine W_sure (c' := true) V V (V_mov V (et V)) (by simp) ?_
 refine W_call V (xwt V V (et V)) V Try.func9 (by kernel_rfl) V (args0) (kshn_c  ) ?_
 rintro _ w229 ⟨rfl, hP229⟩
 refine ⟨_, rfl, ?_⟩
 have S229 := S228.join hP229
 replace S229 : St w20 Yb32 [c223, cK_221, cA_221, c52_53, c34_53, cK_53] w229 := S229
 refine W_v V V (V_pickT V (es V (et V)) (et V)) ?_
 refine W_v V V (V_asg V (et V)) ?_
 refine W_end (gen_Q fun A230 E230 => ?_)
 have Y230 := szq E230
 have F230 := fsE E230 (ck (cq7 (cq8 F224 V) V) V V)
 clear E230 Y224 F224
 have S231 : St w20 Yb32 [cK_221, cK_53] w229 := S229.sel [1, 5] (by decide) V
 refine tk H226 ?_
 refine wp_ret ?_
 refine ret_in (results_1 Try.results4 (rv_tmp (fg0 F230))) F230.d ?_
 exact ⟨rfl, (back32 _ _ S231.fin0)⟩

end Go.Proofs.Ytpgkfndbfocibaa