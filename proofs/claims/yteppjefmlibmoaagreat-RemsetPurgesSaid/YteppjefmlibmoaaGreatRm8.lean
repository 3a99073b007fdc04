import Derived.Test.YteppjefmlibmoaaGreatProg
import Derived.Test.YteppjefmlibmoaaGreatRm7
import Derived.Test.YteppjefmlibmoaaGreatPl8g
namespace Go.Proofs.YteppjefmlibmoaaGreat
open Go.RowKit Go.Own Go.Own.R Go.Own.S Go.Own.E


set_option maxHeartbeats 4000000 in
theorem qPr8_c {C : Int} {N : Int} {Z : Int} {K : Int} {Q : Int} {cv : Value} {X : List (List Int)} {nv : Value} {ns : List Int} {i : Int} {w : World} (h_cv : Ro w NoX (rmR cv X)) (h_nv : Ro w NoX (il .i64 nv ns))  :
  Calls Tryz.prog 8 #[.agg #[.int .i64 C, .int .i64 N, .int .i64 Z, .int .i64 K, .int .i64 Q], .agg #[cv, nv], .int .i64 i] w fun e w' => ∃ v z, e = .returned (.tuple #[.agg #[v, z], .int .i64 (prS C N Z K Q X ns i), .int .i64 (frE C N Z K Q X ns i)]) ∧ St w NoX [rmO v (prC C N Z K Q X ns i), io .i64 (z) (prN C N Z K Q X ns i)] w' := by
 obtain ⟨Xu, hXu, k_cv, n_cv⟩ := rmR_open h_cv
 subst hXu
 have b_cv := SlN.le (sl_SlN k_cv.at)
 refine calls_in 117 Tryz.func8 rfl rfl (by simp) (fun A0 Y0 hdf0 hargs => ?_)
 have l0_0 := hargs 0 (.agg #[.int .i64 C, .int .i64 N, .int .i64 Z, .int .i64 K, .int .i64 Q]) rfl
 have l1_0 := hargs 1 (.agg #[cv, nv]) rfl
 have l2_0 := hargs 2 (.int .i64 i) rfl
 clear hargs; replace Y0 : SzN A0 117 := ⟨Y0⟩
 have hS := St.nil w
 have bh_nv := SlN.le (sl_SlN h_nv.at)
 have bk_cv := SlN.le (sl_SlN k_cv.at)
 refine wp_seq_k fun K1 H1 => ?_
 refine region_in ?_
 refine W_boxS (zs := #[.int .i64 (C), .int .i64 (N), .int .i64 (Z), .int .i64 (K), .int .i64 (Q)]) hS rfl rfl rfl l0_0 (by rfl) (fun g2 w2 c2 hc2 S2 => ?_)
 replace S2 : St w NoX [c2] w2 := S2
 refine W_boxS (zs := #[cv, nv]) S2 rfl rfl rfl (es rfl l1_0) (by rfl) (fun g3 w3 c3 hc3 S3 => ?_)
 replace S3 : St w NoX [c3, c2] w3 := S3
 refine W_allocS (z := .agg #[.slice none 0 0, .slice none 0 0]) (zs := #[.slice none 0 0, .slice none 0 0]) S3 rfl rfl rfl (by kernel_rfl) (by rfl) (fun g4 w4 c4 hc4 S4 => ?_)
 replace S4 : St w NoX [c4, c3, c2] w4 := S4
 refine W_v rfl rfl (V_asg rfl rfl) ?_
 refine W_v rfl rfl (V_asg rfl rfl) ?_
 refine W_end (gen_Q fun A5 E5 => ?_)
 have Y5 := szq E5
 have F5 := (fsE E5 (cq2 (ck (ck (ck (FS.n hdf0) rfl rfl) rfl rfl) rfl rfl) rfl)).c (lookE E5 2 (es5 rfl l2_0))
 clear E5 Y0 hdf0 l0_0 l1_0 l2_0
 refine tk H1 ?_
 refine wp_seq_k fun K6 H6 => ?_
 refine region_in ?_
 refine W_r rfl rfl (VR_ldA rfl (fg3 F5) (S4.obj 2 rfl hc2) Tryz.underlying23 rfl (by kernel_rfl)) ?_
 refine W_r rfl rfl (VR_ldA rfl (es rfl (fg2 F5)) (S4.obj 1 rfl hc3) Tryz.underlying29 rfl (by kernel_rfl)) ?_
 refine W_call rfl rfl rfl Tryz.func31 (by kernel_rfl) rfl (args2 (es rfl (et rfl)) (et rfl)) (qCk8_c (C := C) (N := N) (Z := Z) (K := K) (Q := Q) (rmR_of (S4.roC k_cv) (S4.roC n_cv)) (S4.roC h_nv) ) ?_
 rintro _ w7 ⟨rfl, hP7⟩
 refine ⟨_, rfl, ?_⟩
 have S7 := S4.join hP7
 replace S7 : St w NoX [c4, c3, c2] w7 := S7
 refine W_v rfl rfl (V_mov rfl (et rfl)) ?_
 refine W_v rfl rfl (V_ext (v := .int .i64 ((rmP C N Z K Q (csF Xu) ns).1)) rfl (et rfl) rfl) ?_
 refine W_v rfl rfl (V_ext (v := .int .i64 ((rmP C N Z K Q (csF Xu) ns).2)) rfl (es rfl (et rfl)) rfl) ?_
 refine W_v rfl rfl (V_asg rfl (es rfl (et rfl))) ?_
 refine W_v rfl rfl (V_asg rfl (es rfl (et rfl))) ?_
 refine W_end (gen_Q fun A8 E8 => ?_)
 have Y8 := szq E8
 have F8 := fsE E8 (ck (cq7 F5 rfl) rfl rfl)
 clear E8 Y5 F5
 refine tk H6 ?_
 refine wp_seq_k fun K9 H9 => ?_
 refine wp_seq_k fun K10 H10 => ?_
 refine region_in ?_
 refine W_v rfl rfl (V_mov rfl (fg0 F8)) ?_
 refine W_v rfl rfl (V_eql rfl (et rfl) rfl) ?_
 refine W_split rfl rfl (V_mov rfl (et rfl)) (fun c11 => ?_) (fun c11 => ?_)
 ·refine W_v rfl (wanted_t rfl rfl (et rfl) (ez rfl)) (V_mov rfl (es3 rfl (fg1 F8))) ?_
  refine W_v rfl (wanted_t rfl rfl (es rfl (et rfl)) (ez rfl)) (V_lss rfl (et rfl) rfl) ?_
  refine W_split rfl (wanted_t rfl rfl (es2 rfl (et rfl)) (ez rfl)) (V_mov rfl (et rfl)) (fun c12 => ?_) (fun c12 => ?_)
  ·refine W_off rfl (wanted_f rfl rfl (et rfl) (ez rfl) rfl) ?_
   refine W_off rfl (wanted_f rfl rfl (es rfl (et rfl)) (ez rfl) rfl) ?_
   refine W_off rfl (wanted_f rfl rfl (es2 rfl (et rfl)) (ez rfl) rfl) ?_
   refine W_off rfl (wanted_f rfl rfl (es3 rfl (et rfl)) (ez rfl) rfl) ?_
   refine W_v rfl (wanted_t rfl rfl (es7 rfl (et rfl)) (ez rfl)) (V_pickT rfl (es4 rfl (et rfl)) rfl) ?_
   refine W_v rfl rfl (V_pickT rfl (es8 rfl (et rfl)) (et rfl)) ?_
   refine W_end (gen_Q fun A13 E13 => ?_)
   have Y13 := szq E13
   have F13 := fsE E13 (ck (cq3 (cq8 F8 rfl) rfl) rfl rfl)
   clear E13 Y8 F8
   refine tk H10 ?_
   refine cond_t (fg0 F13) ?_
   refine region_in ?_
   refine W_v rfl rfl (V_asg rfl rfl) ?_
   refine W_end (gen_Q fun A14 E14 => ?_)
   have Y14 := szq E14
   have F14 := fsE E14 (ck (fx1 F13) rfl rfl)
   clear E14 Y13 F13
   refine tk H9 ?_
   refine wp_seq_k fun K15 H15 => ?_
   refine wp_seq_k fun K16 H16 => ?_
   refine region_in ?_
   refine W_v rfl rfl (V_mov rfl (fg0 F14)) ?_
   refine W_v rfl rfl (V_neq rfl (et rfl) rfl) ?_
   refine W_end (gen_Q fun A17 E17 => ?_)
   have Y17 := szq E17
   have F17 := fsE E17 (ck (cq1 F14 rfl) rfl rfl)
   clear E17 Y14 F14
   refine tk H16 ?_
   refine cond_sure (fg0 F17) (by decide) ?_
   refine wp_seq_k fun K18 H18 => ?_
   refine region_in ?_
   refine W_v rfl rfl (V_bldS (n := 2) (z := .agg #[.slice none 0 0, .slice none 0 0]) rfl (parts0) (by kernel_rfl) (by simp only [List.all_cons, List.all_nil, Bool.and_true] <;> rfl) (by kernel_rfl) (by simp only [List.foldl_cons, List.foldl_nil, Value.cells, List.setIfInBounds_toArray, List.set_cons_succ, List.set_cons_zero] <;> rfl)) ?_
   refine W_v rfl rfl (V_mov rfl (es rfl (fg1 F17))) ?_
   refine W_stAS 0 S7 rfl hc4 rfl rfl rfl (es2 rfl (fg4 F17)) (es rfl (et rfl)) (by first | (rw [List.all_toArray] <;> rfl) | (simp only [List.all_toArray, List.all_cons, List.all_nil] <;> rfl)) (by rfl) (by kernel_rfl) (fun w19 c19 hc19 S19 => ?_)
   replace S19 : St w NoX [c19, c3, c2] w19 := S19
   refine W_v rfl rfl (V_asg rfl rfl) ?_
   refine W_v rfl rfl (V_asg rfl (es rfl (et rfl))) ?_
   refine W_end (gen_Q fun A20 E20 => ?_)
   have Y20 := szq E20
   have F20 := fsE E20 (ck (ck (cq2 F17 rfl) rfl rfl) rfl rfl)
   clear E20 Y17 F17
   have S21 : St w NoX [c19] w19 := S19.sel [0] (by decide) rfl
   refine tk H18 ?_
   refine wp_ret ?_
   refine then_ret ?_
   refine ret_in (results_3 Tryz.results8 (rv_cellA (fg6 F20) (S21.obj 0 rfl hc19) Tryz.underlying29 rfl (by kernel_rfl)) (rv_tmp (fg1 F20)) (rv_tmp (fg0 F20))) F20.d ?_
   obtain ⟨c22, hc22, S22⟩ := S21.rmNil
   obtain ⟨c23, hc23, S23⟩ := S22.pnil (s := 1)
   have he : frE C N Z K Q (csF Xu) ns i = 7 := fr_e2 (by omega) (by omega)
   have hb := pr_bad (show frE C N Z K Q (csF Xu) ns i ≠ 0 by omega)
   rw [he, hb.2.2]
   exact ⟨_, _, rfl, (S23.fin2 1 rfl (hc22.trans (by rw [hb.1])) 0 rfl (hc23.trans (by rw [show prN C N Z K Q (csF Xu) ns i = [] by exact hb.2.1] <;> rfl)) (by decide))⟩
  refine W_v rfl (wanted_t rfl rfl (et rfl) (ez rfl)) (V_mov rfl (es6 rfl (fg1 F8))) ?_
  refine W_v rfl (wanted_t rfl rfl (es rfl (et rfl)) (ez rfl)) (V_fa (off' := 1) rfl (es7 rfl (fg4 F8)) Tryz.underlying23 rfl (by decide +kernel) rfl) ?_
  refine W_r rfl (wanted_t rfl rfl (es2 rfl (et rfl)) (ez rfl)) (VR_ldC rfl (et rfl) (cell_box (v := .int .i64 (N)) (S7.obj 2 rfl hc2) rfl) Tryz.underlying3 rfl) ?_
  refine W_v rfl (wanted_t rfl rfl (es3 rfl (et rfl)) (ez rfl)) (V_geq rfl (es2 rfl (et rfl)) (et rfl)) ?_
  refine W_v rfl (wanted_t rfl rfl (es7 rfl (et rfl)) (ez rfl)) (V_pickF rfl (es4 rfl (et rfl)) (et rfl)) ?_
  refine W_v rfl rfl (V_pickT rfl (es8 rfl (et rfl)) (et rfl)) ?_
  refine W_end (gen_Q fun A24 E24 => ?_)
  have Y24 := szq E24
  have F24 := fsE E24 (ck (cq3 (cq8 F8 rfl) rfl) rfl rfl)
  clear E24 Y8 F8
  refine tk H10 ?_
  refine cond_dec (fg0 F24) (fun c25 => ?_) (fun c25 => ?_)
  ·refine region_in ?_
   refine W_v rfl rfl (V_asg rfl rfl) ?_
   refine W_end (gen_Q fun A26 E26 => ?_)
   have Y26 := szq E26
   have F26 := fsE E26 (ck (fx1 F24) rfl rfl)
   clear E26 Y24 F24
   refine tk H9 ?_
   refine wp_seq_k fun K27 H27 => ?_
   refine wp_seq_k fun K28 H28 => ?_
   refine region_in ?_
   refine W_v rfl rfl (V_mov rfl (fg0 F26)) ?_
   refine W_v rfl rfl (V_neq rfl (et rfl) rfl) ?_
   refine W_end (gen_Q fun A29 E29 => ?_)
   have Y29 := szq E29
   have F29 := fsE E29 (ck (cq1 F26 rfl) rfl rfl)
   clear E29 Y26 F26
   refine tk H28 ?_
   refine cond_sure (fg0 F29) (by decide) ?_
   refine wp_seq_k fun K30 H30 => ?_
   refine region_in ?_
   refine W_v rfl rfl (V_bldS (n := 2) (z := .agg #[.slice none 0 0, .slice none 0 0]) rfl (parts0) (by kernel_rfl) (by simp only [List.all_cons, List.all_nil, Bool.and_true] <;> rfl) (by kernel_rfl) (by simp only [List.foldl_cons, List.foldl_nil, Value.cells, List.setIfInBounds_toArray, List.set_cons_succ, List.set_cons_zero] <;> rfl)) ?_
   refine W_v rfl rfl (V_mov rfl (es rfl (fg1 F29))) ?_
   refine W_stAS 0 S7 rfl hc4 rfl rfl rfl (es2 rfl (fg4 F29)) (es rfl (et rfl)) (by first | (rw [List.all_toArray] <;> rfl) | (simp only [List.all_toArray, List.all_cons, List.all_nil] <;> rfl)) (by rfl) (by kernel_rfl) (fun w31 c31 hc31 S31 => ?_)
   replace S31 : St w NoX [c31, c3, c2] w31 := S31
   refine W_v rfl rfl (V_asg rfl rfl) ?_
   refine W_v rfl rfl (V_asg rfl (es rfl (et rfl))) ?_
   refine W_end (gen_Q fun A32 E32 => ?_)
   have Y32 := szq E32
   have F32 := fsE E32 (ck (ck (cq2 F29 rfl) rfl rfl) rfl rfl)
   clear E32 Y29 F29
   have S33 : St w NoX [c31] w31 := S31.sel [0] (by decide) rfl
   refine tk H30 ?_
   refine wp_ret ?_
   refine then_ret ?_
   refine ret_in (results_3 Tryz.results8 (rv_cellA (fg6 F32) (S33.obj 0 rfl hc31) Tryz.underlying29 rfl (by kernel_rfl)) (rv_tmp (fg1 F32)) (rv_tmp (fg0 F32))) F32.d ?_
   obtain ⟨c34, hc34, S34⟩ := S33.rmNil
   obtain ⟨c35, hc35, S35⟩ := S34.pnil (s := 1)
   have he : frE C N Z K Q (csF Xu) ns i = 7 := fr_e2 (by omega) (by omega)
   have hb := pr_bad (show frE C N Z K Q (csF Xu) ns i ≠ 0 by omega)
   rw [he, hb.2.2]
   exact ⟨_, _, rfl, (S35.fin2 1 rfl (hc34.trans (by rw [hb.1])) 0 rfl (hc35.trans (by rw [show prN C N Z K Q (csF Xu) ns i = [] by exact hb.2.1] <;> rfl)) (by decide))⟩
  have he : frE C N Z K Q (csF Xu) ns i = 0 := fr_e0 (by omega) (by omega)
  have hfr := fr_0 he
  obtain ⟨s1, s2, s3, s4, s5⟩ := sg_ok he
  rw [csF_len] at s5
  have hk0 := (fr_0 he).1
  have hx24 := (rm_lens hk0).1
  rw [csF_len] at hx24
  have hpnn := pgN_bd ns (spA C N Z K Q i) (spB C N Z K Q i)
  refine wp_skip ?_
  refine tk H9 ?_
  refine wp_seq_k fun K36 H36 => ?_
  refine wp_seq_k fun K37 H37 => ?_
  refine region_in ?_
  refine W_v rfl rfl (V_mov rfl (fg1 F24)) ?_
  refine W_v rfl rfl (V_neq rfl (et rfl) rfl) ?_
  refine W_end (gen_Q fun A38 E38 => ?_)
  have Y38 := szq E38
  have F38 := fsE E38 (ck (cq1 F24 rfl) rfl rfl)
  clear E38 Y24 F24
  refine tk H37 ?_
  refine cond_not (fg0 F38) (by first | (simp [c11]; done) | exact decide_eq_true (by omega) | exact decide_eq_false (by omega)) ?_
  refine wp_skip ?_
  refine tk H36 ?_
  refine wp_seq_k fun K39 H39 => ?_
  refine region_in ?_
  refine W_r rfl rfl (VR_ldA rfl (fg6 F38) (S7.obj 2 rfl hc2) Tryz.underlying23 rfl (by kernel_rfl)) ?_
  refine W_v rfl rfl (V_mov rfl (es rfl (fg3 F38))) ?_
  refine W_call rfl rfl rfl Tryz.func32 (by kernel_rfl) rfl (args2 (es rfl (et rfl)) (et rfl)) (qsp_c (C := C) (N := N) (Z := Z) (K := K) (Q := Q) (i := i)  ) ?_
  rintro _ w40 ⟨rfl, hP40⟩
  refine ⟨_, rfl, ?_⟩
  have S40 := S7.join hP40
  replace S40 : St w NoX [c4, c3, c2] w40 := S40
  refine W_v rfl rfl (V_mov rfl (et rfl)) ?_
  refine W_v rfl rfl (V_ext (v := .int .i64 ((spA C N Z K Q i))) rfl (et rfl) rfl) ?_
  refine W_v rfl rfl (V_ext (v := .int .i64 ((spB C N Z K Q i))) rfl (es rfl (et rfl)) rfl) ?_
  refine W_v rfl rfl (V_ext (v := .int .i64 ((spE C N Z K Q i))) rfl (es2 rfl (et rfl)) rfl) ?_
  refine W_v rfl rfl (V_asg rfl (es2 rfl (et rfl))) ?_
  refine W_v rfl rfl (V_asg rfl (es2 rfl (et rfl))) ?_
  refine W_v rfl rfl (V_asg rfl (es2 rfl (et rfl))) ?_
  refine W_end (gen_Q fun A41 E41 => ?_)
  have Y41 := szq E41
  have F41 := fsE E41 (cq1 (ck (ck (cq7 F38 rfl) rfl rfl) rfl rfl) rfl)
  clear E41 Y38 F38
  refine tk H39 ?_
  refine wp_seq_k fun K42 H42 => ?_
  refine region_in ?_
  refine W_allocS (z := .agg #[.slice none 0 0, .slice none 0 0]) (zs := #[.slice none 0 0, .slice none 0 0]) S40 rfl rfl rfl (by kernel_rfl) (by rfl) (fun g43 w43 c43 hc43 S43 => ?_)
  replace S43 : St w NoX [c43, c4, c3, c2] w43 := S43
  refine W_end (gen_Q fun A44 E44 => ?_)
  have Y44 := szq E44
  have F44 := fsE E44 (ck F41 rfl rfl)
  clear E44 Y41 F41
  refine tk H42 ?_
  refine wp_seq_k fun K45 H45 => ?_
  refine region_in ?_
  refine W_v rfl rfl (V_asg rfl rfl) ?_
  refine W_end (gen_Q fun A46 E46 => ?_)
  have Y46 := szq E46
  have F46 := fsE E46 (ck F44 rfl rfl)
  clear E46 Y44 F44
  refine tk H45 ?_
  refine wp_seq_k fun K47 H47 => ?_
  refine wp_seq_k fun K48 H48 => ?_
  refine region_in ?_
  refine W_v rfl rfl (V_asg rfl rfl) ?_
  refine W_end (gen_Q fun A49 E49 => ?_)
  have Y49 := szq E49
  have F49 := fsE E49 (ck F46 rfl rfl)
  clear E49 Y46 F46
  refine tk H48 ?_
  refine wp_block ?_
  obtain ⟨c50, hc50, S50⟩ := S43.pnil (s := 1)
  replace hc50 : c50 = ro 1 fstC (.slice none 0 0) ([] : List SL) := hc50
  obtain ⟨c51, hc51, S51⟩ := owl_mt S50
  replace S51 : St w NoX [c51, c50, c43, c4, c3, c2] w43 := S51
  -- loop 10
  refine loopX (fun mz A' w' => SzN A' 117 ∧ A'.defers = [] ∧ (∃ (k : Nat) (hv : Value) (U : List SL) (n : Int), (mz = Xu.length - k) ∧ (k ≤ Xu.length) ∧ (csF U = (pgC (csF Xu) i (spA C N Z K Q i) (spB C N Z K Q i)).take k) ∧ (n = psm (pnF (csF Xu ++ [ns]) i (spA C N Z K Q i) (spB C N Z K Q i)) k) ∧ (0 ≤ n ∧ n ≤ 1600 * (k : Int)) ∧ (EV A' (.tmp 16) = .int .i64 (k : Int)) ∧ (EV A' (.tmp 15) = .int .i64 n) ∧ (EV A' (.tmp 2) = EV A49 (.tmp 2)) ∧ (EV A' (.tmp 3) = EV A49 (.tmp 3)) ∧ (EV A' (.tmp 4) = EV A49 (.tmp 4)) ∧ (EV A' (.tmp 6) = EV A49 (.tmp 6)) ∧ (EV A' (.tmp 11) = EV A49 (.tmp 11)) ∧ (EV A' (.tmp 12) = EV A49 (.tmp 12)) ∧ (EV A' (.tmp 14) = EV A49 (.tmp 14)) ∧ (St w NoX [owl .i64 U, ro 1 fstC hv U, bx g43 29 #[hv, .slice none 0 0], bx g4 29 #[.slice none 0 0, .slice none 0 0], bx g3 29 #[cv, nv], bx g2 23 #[.int .i64 (C), .int .i64 (N), .int .i64 (Z), .int .i64 (K), .int .i64 (Q)]] w'))) (Xu.length - 0) ⟨Y49, F49.d, 0, (.slice none 0 0), [], 0, rfl, (by omega), rfl, rfl, (by simp), (((fg0 F49)).trans (by first | rfl | (simp; done) | (congr 1; omega))), (((fg1 F49)).trans (by first | rfl | (simp; done) | (congr 1; omega))), rfl, rfl, rfl, rfl, rfl, rfl, rfl, (by have q0 : c51 = owl .i64 [] := hc51.trans (rfl); have q1 : c50 = ro 1 fstC (.slice none 0 0) [] := hc50.trans (rfl); have q2 := hc43; have q3 := hc4; have q4 := hc3; have q5 := hc2; subst q0 q1 q2 q3 q4 q5; exact S51)⟩ ?_
  clear S51 hc51 hc50 hc43 hc4 hc3 hc2
  rintro n52 A52 w52 ⟨Y52, hdf52, k, hv, U, n, hm52, hk, hU, hn, hnb, l16_52, l15_52, u2_52, u3_52, u4_52, u6_52, u11_52, u12_52, u14_52, S52⟩
  have l2_52 := u2_52.trans (fg8 F49)
  have l3_52 := u3_52.trans (fg11 F49)
  have l4_52 := u4_52.trans (fg10 F49)
  have l6_52 := u6_52.trans (fg9 F49)
  have l11_52 := u11_52.trans (fg4 F49)
  have l12_52 := u12_52.trans (fg3 F49)
  have l14_52 := u14_52.trans (fg2 F49)
  obtain ⟨c51_52, c50_52, c43_52, c4_52, c3_52, c2_52, hc51_52, hc50_52, hc43_52, hc4_52, hc3_52, hc2_52, S52⟩ := gen6 S52
  refine wp_seq_k fun K53 H53 => ?_
  refine wp_seq_k fun K54 H54 => ?_
  refine region_in ?_
  refine W_v rfl rfl (V_mov rfl l16_52) ?_
  refine W_v rfl rfl (V_fa (off' := 1) rfl (es rfl l3_52) Tryz.underlying23 rfl (by decide +kernel) rfl) ?_
  refine W_r rfl rfl (VR_ldC rfl (et rfl) (cell_box (v := .int .i64 (N)) (S52.obj 5 rfl hc2_52) rfl) Tryz.underlying3 rfl) ?_
  refine W_v rfl rfl (V_lss rfl (es2 rfl (et rfl)) (et rfl)) ?_
  refine W_end (gen_Q fun A55 E55 => ?_)
  have Y55 := szq E55
  have F55 := (((((((((fsE E55 (ck (cq3 (FS.n hdf52) rfl) rfl rfl)).c (lookE E55 2 (es4 rfl l2_52))).c (lookE E55 3 (es4 rfl l3_52))).c (lookE E55 4 (es4 rfl l4_52))).c (lookE E55 6 (es4 rfl l6_52))).c (lookE E55 11 (es4 rfl l11_52))).c (lookE E55 12 (es4 rfl l12_52))).c (lookE E55 14 (es4 rfl l14_52))).c (lookE E55 15 (es4 rfl l15_52))).c (lookE E55 16 (es4 rfl l16_52))
  clear E55 Y52 hdf52 l16_52 l15_52 l2_52 l3_52 l4_52 l6_52 l11_52 l12_52 l14_52
  refine tk H54 ?_
  refine cond_dec (fg9 F55) (fun c56 => ?_) (fun c56 => ?_)
  ·have hUl := tk_lenq hU
   refine wp_skip ?_
   refine tk H53 ?_
   refine wp_seq_k fun K57 H57 => ?_
   refine wp_block ?_
   refine wp_seq_k fun K58 H58 => ?_
   refine wp_seq_k fun K59 H59 => ?_
   refine region_in ?_
   refine W_v rfl rfl (V_mov rfl (fg0 F55)) ?_
   refine W_v rfl rfl (V_mov rfl (es rfl (fg8 F55))) ?_
   refine W_v rfl rfl (V_eql rfl (es rfl (et rfl)) (et rfl)) ?_
   refine W_end (gen_Q fun A60 E60 => ?_)
   have Y60 := szq E60
   have F60 := fsE E60 (ck (cq2 F55 rfl) rfl rfl)
   clear E60 Y55 F55
   refine tk H59 ?_
   refine cond_dec (fg0 F60) (fun c61 => ?_) (fun c61 => ?_)
   ·refine wp_seq_k fun K62 H62 => ?_
    refine region_in ?_
    refine W_v rfl rfl (V_fa (off' := 0) rfl (fg7 F60) Tryz.underlying29 rfl (by decide +kernel) rfl) ?_
    refine W_r rfl rfl (VR_ldC rfl (et rfl) (cell_box (v := cv) (S52.obj 4 rfl hc3_52) rfl) Tryz.underlying24 rfl) ?_
    refine W_v rfl rfl (V_mov rfl (es2 rfl (fg1 F60))) ?_
    have k63 : k < Xu.length := by first | omega | (simp only [List.length_cons, List.length_nil]; omega) | (simp only [List.length_set]; omega) | decide
    obtain ⟨y63, hy63⟩ := get_some (xs := Xu) (k := k) k63
    have hln63 := lnN_bd y63.2
    have hpn63 := pgN_bd y63.2 (spA C N Z K Q i) (spB C N Z K Q i)
    obtain ⟨B63, O63, C63, hv63⟩ := (SlN.blk (sl_SlN k_cv.at) (by first | omega | (simp only [List.length_cons, List.length_nil]; omega) | (simp only [List.length_set]; omega) | decide))
    refine W_v rfl rfl (V_ixS (off := O63 + k * 1) 1 (k) rfl (es rfl (et rfl)) (et rfl) hv63 (by omega) k63 Tryz.underlying24 (by kernel_rfl) rfl) ?_
    have fn64 : Ro w NoX (il .i64 y63.1 y63.2) := nsi_ro1 n_cv hy63
    have bfn64 := SlN.le (sl_SlN (S52.ro fn64))
    refine W_r rfl rfl (VR_ldR (ys := fstC y63) rfl (et rfl) (SlN.row fstC_len (sl_SlN (S52.ro k_cv)) hv63 hy63 rfl) Tryz.underlying27 rfl (by kernel_rfl)) ?_
    refine W_call rfl rfl rfl Tryz.func33 (by kernel_rfl) rfl (args1 (et rfl)) (qLen_c (S52.roC fn64) ) ?_
    rintro _ w65 ⟨rfl, hP65⟩
    refine ⟨_, rfl, ?_⟩
    have S65 := S52.join hP65
    replace S65 : St w NoX [c51_52, c50_52, c43_52, c4_52, c3_52, c2_52] w65 := S65
    refine W_v rfl rfl (V_mov rfl (et rfl)) ?_
    refine W_v rfl rfl (V_ext (v := .int .i64 ((lnN y63.2))) rfl (et rfl) rfl) ?_
    refine W_v rfl rfl (V_ext (v := .int .i64 ((ckS y63.2).2)) rfl (es rfl (et rfl)) rfl) ?_
    refine W_v rfl rfl (V_asg rfl (es rfl (et rfl))) ?_
    refine W_v rfl rfl (V_asg rfl (es rfl (et rfl))) ?_
    refine W_end (gen_Q fun A66 E66 => ?_)
    have Y66 := szq E66
    have F66 := fsE E66 (cq1 (ck (cq1 (cq8 F60 rfl) rfl) rfl rfl) rfl)
    clear E66 Y60 F60
    refine tk H62 ?_
    refine wp_seq_k fun K67 H67 => ?_
    refine region_in ?_
    refine W_v rfl rfl (V_mov rfl (fg3 F66)) ?_
    refine W_v rfl rfl (V_mov rfl (es rfl (fg0 F66))) ?_
    refine W_v rfl rfl (V_add rfl (es rfl (et rfl)) (et rfl) (by omega) (by omega)) ?_
    refine W_v rfl rfl (V_asg rfl (et rfl)) ?_
    refine W_end (gen_Q fun A68 E68 => ?_)
    have Y68 := szq E68
    have F68 := fsE E68 (ck (cq3 (fx3 F66) rfl) rfl rfl)
    clear E68 Y66 F66
    refine tk H67 ?_
    refine wp_seq_k fun K69 H69 => ?_
    refine region_monoS 4 5 [none, none, some (SPv [] (fun _ => fun u l' => ∃ v_s, u = .agg #[v_s] ∧ ∃ c_s, c_s = io .i64 (v_s) (List.replicate 8 (0 : Int)) ∧ l' = [c_s]) 2), some (SPv [77] (fun vs => fun u l' => ∃ g_, u = .slice (some ⟨g_, 0, none⟩) 1 1 ∧ ∃ c_, c_ = ro 1 fstC (.slice (some ⟨g_, 0, none⟩) 1 1) [(((cel (vs.getD 0 undef) 0), (List.replicate 8 (0 : Int))))] ∧ l' = [c_]) 3)] (by kernel_rfl) (by kernel_rfl) ?_
    refine D_v rfl rfl (V_fa (off' := 0) rfl (fg4 F68) Tryz.underlying29 rfl (by decide +kernel) rfl) rfl rfl ?_
    refine D_r rfl rfl (by kernel_rfl) (fun sx hx hF => (VR_ldC rfl (et rfl) (cell_box (v := hv) ((S65.grow hx).obj 2 rfl hc43_52) rfl) Tryz.underlying24 rfl)) rfl rfl ?_
    refine D_call (ts := []) (vs := []) (C0 := fun _ => fun u l' => ∃ v_s, u = .agg #[v_s] ∧ ∃ c_s, c_s = io .i64 (v_s) (List.replicate 8 (0 : Int)) ∧ l' = [c_s]) (C := fun u l' => ∃ v_s, u = .agg #[v_s] ∧ ∃ c_s, c_s = io .i64 (v_s) (List.replicate 8 (0 : Int)) ∧ l' = [c_s]) rfl rfl rfl Tryz.func34 (by kernel_rfl) rfl (args0) rfl rfl rfl rfl (fun sx hx hF => ?_) (fun u70 l70 hu70 => ?_)
    ·refine (qnew_c  ).mono ?_
     rintro _ _ ⟨v_70, rfl, hz⟩
     exact ⟨_, rfl, _, ⟨_, rfl, _, rfl, rfl⟩, hz⟩
    obtain ⟨v_70, rfl, c_70, hc_70, hl70⟩ := hu70
    have hll71 : [((v_70, (List.replicate 8 (0 : Int))))].length = 1 := rfl
    refine D_lay (ts := [77]) (vs := [.agg #[v_70]]) (C0 := fun vs => fun u l' => ∃ g_, u = .slice (some ⟨g_, 0, none⟩) 1 1 ∧ ∃ c_, c_ = ro 1 fstC (.slice (some ⟨g_, 0, none⟩) 1 1) [(((cel (vs.getD 0 undef) 0), (List.replicate 8 (0 : Int))))] ∧ l' = [c_]) (C := fun u l' => ∃ g_, u = .slice (some ⟨g_, 0, none⟩) 1 1 ∧ ∃ c_, c_ = ro 1 fstC (.slice (some ⟨g_, 0, none⟩) 1 1) [((v_70, (List.replicate 8 (0 : Int))))] ∧ l' = [c_]) rfl rfl rfl rfl (ts1 (et rfl)) rfl (fun sx hx hF => lay_lit (vs := [.agg #[v_70]]) 1 rfl (parts1 (et rfl)) rfl Tryz.underlying24 (by kernel_rfl) (by decide) (by intro v hv; simp only [List.mem_cons, List.not_mem_nil, or_false] at hv; rcases hv with rfl <;> rfl) (by rfl)) (fun u71 l71 hu71 => ?_)
    obtain ⟨g71, rfl, c71, hc71, hl71⟩ := hu71
    refine D_eff rfl ?_
    refine ZS_eff S65 rfl rfl (fun s72 hJ72 hL72 hF72 => ?_)
    obtain ⟨ll70, ws70, we70, ⟨v_70q, hq70, c_70r, hc_70r, hl70r⟩, hm70, k70, e70⟩ := L.all_get (L.all_rest hF72); cases hq70; subst hl70r
    replace hJ72 := hJ72.add hL72 (i := 2) rfl hm70 k70 e70
    obtain ⟨ll71, ws71, we71, ⟨g71q, hq71, c71r, hc71r, hl71r⟩, hm71, k71, e71⟩ := L.all_get hF72; cases hq71; subst hl71r
    replace hJ72 := hJ72.add hL72 (i := 3) rfl hm71 k71 e71
    have S72 := hJ72.st; clear hF72 hJ72 hL72
    generalize s72.1 = w72 at *
    replace S72 : St w NoX [c71r, c_70r, c51_52, c50_52, c43_52, c4_52, c3_52, c2_52] w72 := S72
    refine W_appS 1 3 S72 rfl hc50_52 rfl rfl rfl (es2 rfl (et rfl)) (et rfl) Tryz.underlying24 Tryz.underlying24 (z := .agg #[.slice none 0 0]) (bytes := 24) (by kernel_rfl) rfl (by decide) (ow_at (S72.chq 0 rfl hc71r)) (by intro u hu; simp only [List.flatMap_cons, List.flatMap_nil, fstC, List.append_nil, List.cons_append, List.nil_append, List.mem_cons, List.not_mem_nil, or_false] at hu; rcases hu with rfl <;> first | exact SlN_one (ow_at (S72.chq 1 rfl hc_70r))) (by first | omega | (simp; done) | (simp; omega)) (by first | omega | (simp; done) | (simp; omega)) (fun v73 w73 c73 hc73 S73 => ?_)
    replace hc73 : c73 = ro 1 fstC v73 (U ++ [((v_70, (List.replicate 8 (0 : Int))))]) := hc73.trans (app_eqR (by first | (simp; done) | (rw [List.take_of_length_le (l := List.drop _ _) (by rw [List.length_drop]; exact Nat.le_refl _)])))
    replace S73 : St w NoX [c71r, c_70r, c51_52, c73, c43_52, c4_52, c3_52, c2_52] w73 := S73
    have S74 := S73.sel [1, 2, 0, 3, 4, 5, 6, 7] (by decide) (l' := [c_70r, c51_52, c71r, c73, c43_52, c4_52, c3_52, c2_52]) rfl
    replace S74 : St w NoX [c_70r, c51_52, c71r, c73, c43_52, c4_52, c3_52, c2_52] w73 := S74
    rw [hc_70r, hc51_52] at S74
    obtain ⟨c75, hc75, S75⟩ := gen1 (owl_push (v := v_70) (xs := (List.replicate 8 (0 : Int))) (L := U) S74)
    replace S75 : St w NoX [c75, c71r, c73, c43_52, c4_52, c3_52, c2_52] w73 := S75
    replace hc75 : c75 = owl .i64 (U ++ [((v_70, (List.replicate 8 (0 : Int))))]) := hc75
    refine W_v rfl rfl (V_fa (off' := 0) rfl (es5 rfl (fg4 F68)) Tryz.underlying29 rfl (by decide +kernel) rfl) ?_
    refine W_stCS (zs' := #[v73, .slice none 0 0]) 3 S75 rfl hc43_52 rfl rfl rfl (et rfl) (es rfl (et rfl)) (SlN_one (ow_at (S75.chq 2 rfl hc73))) (by rfl) (by kernel_rfl) (by first | rfl | (simp only [List.setIfInBounds_toArray, List.set_cons_succ, List.set_cons_zero] <;> rfl)) (fun w76 c76 hc76 S76 => ?_)
    replace S76 : St w NoX [c75, c71r, c73, c76, c4_52, c3_52, c2_52] w76 := S76
    refine W_end ?_
    refine Qo_normal ?_
    refine gen_Q (fun A77 E77 => ?_)
    have Y77 := szq E77
    have F77 := fsE E77 (cq6 F68 rfl)
    clear E77 Y68 F68
    have S78 : St w NoX [c75, c73, c76, c4_52, c3_52, c2_52] w76 := S76.sel [0, 2, 3, 4, 5, 6] (by decide) rfl
    refine tk H69 ?_
    refine wp_exit ?_
    refine then_exit ?_
    refine inb_hit ?_
    refine tk H57 ?_
    refine region_in ?_
    refine W_v rfl rfl (V_mov rfl (fg3 F77)) ?_
    refine W_v rfl rfl (V_add rfl (et rfl) rfl (by omega) (by omega)) ?_
    refine W_v rfl rfl (V_asg rfl (et rfl)) ?_
    refine W_end (gen_Q fun A79 E79 => ?_)
    have Y79 := szq E79
    have F79 := fsE E79 (ck (cq2 (fx3 F77) rfl) rfl rfl)
    clear E79 Y77 F77
    refine then_n ⟨Xu.length - (k + 1), by simp only [hm52]; omega, Y79, F79.d, (k + 1), v73, (U ++ [((v_70, (List.replicate 8 (0 : Int))))]), (n + (lnN y63.2)), rfl, (by omega), (by rw [csF_app, hU]; exact tkC (pgC_at (csF_at hy63) (pgF_car (by omega)))), (by rw [hn]; exact ps_nx (pnq_car (csF_at hy63) (by omega))), (by omega), (((fg0 F79)).trans (by first | rfl | (simp; done) | (congr 1; omega))), (((fg1 F79)).trans (by first | rfl | (simp; done) | (congr 1; omega))), (((fg10 F79)).trans (fg8 F49).symm), (((fg9 F79)).trans (fg11 F49).symm), (((fg8 F79)).trans (fg10 F49).symm), (((fg7 F79)).trans (fg9 F49).symm), (((fg6 F79)).trans (fg4 F49).symm), (((fg5 F79)).trans (fg3 F49).symm), (((fg4 F79)).trans (fg2 F49).symm), (by have q0 : c75 = owl .i64 (U ++ [((v_70, (List.replicate 8 (0 : Int))))]) := hc75.trans (rfl); have q1 : c73 = ro 1 fstC v73 (U ++ [((v_70, (List.replicate 8 (0 : Int))))]) := hc73.trans (rfl); have q2 := hc76; have q3 := hc4_52; have q4 := hc3_52; have q5 := hc2_52; subst q0 q1 q2 q3 q4 q5; exact S78)⟩
   refine wp_skip ?_
   refine tk H58 ?_
   refine wp_seq_k fun K80 H80 => ?_
   refine region_in ?_
   refine W_v rfl rfl (V_fa (off' := 0) rfl (fg7 F60) Tryz.underlying29 rfl (by decide +kernel) rfl) ?_
   refine W_r rfl rfl (VR_ldC rfl (et rfl) (cell_box (v := cv) (S52.obj 4 rfl hc3_52) rfl) Tryz.underlying24 rfl) ?_
   refine W_v rfl rfl (V_mov rfl (es2 rfl (fg1 F60))) ?_
   have k81 : k < Xu.length := by first | omega | (simp only [List.length_cons, List.length_nil]; omega) | (simp only [List.length_set]; omega) | decide
   obtain ⟨y81, hy81⟩ := get_some (xs := Xu) (k := k) k81
   have hln81 := lnN_bd y81.2
   have hpn81 := pgN_bd y81.2 (spA C N Z K Q i) (spB C N Z K Q i)
   obtain ⟨B81, O81, C81, hv81⟩ := (SlN.blk (sl_SlN k_cv.at) (by first | omega | (simp only [List.length_cons, List.length_nil]; omega) | (simp only [List.length_set]; omega) | decide))
   refine W_v rfl rfl (V_ixS (off := O81 + k * 1) 1 (k) rfl (es rfl (et rfl)) (et rfl) hv81 (by omega) k81 Tryz.underlying24 (by kernel_rfl) rfl) ?_
   have fn82 : Ro w NoX (il .i64 y81.1 y81.2) := nsi_ro1 n_cv hy81
   have bfn82 := SlN.le (sl_SlN (S52.ro fn82))
   refine W_r rfl rfl (VR_ldR (ys := fstC y81) rfl (et rfl) (SlN.row fstC_len (sl_SlN (S52.ro k_cv)) hv81 hy81 rfl) Tryz.underlying27 rfl (by kernel_rfl)) ?_
   refine W_v rfl rfl (V_mov rfl (es5 rfl (fg5 F60))) ?_
   refine W_v rfl rfl (V_mov rfl (es6 rfl (fg4 F60))) ?_
   refine W_call rfl rfl rfl Tryz.func35 (by kernel_rfl) rfl (args3 (es2 rfl (et rfl)) (es rfl (et rfl)) (et rfl)) (qPurge_c (f := (spA C N Z K Q i)) (t := (spB C N Z K Q i)) (S52.roC fn82) ) ?_
   rintro _ w83 ⟨v_83, rfl, hP83⟩
   refine ⟨_, rfl, ?_⟩
   obtain ⟨c_83, hc_83, hP83⟩ := gen1 hP83
   have S83 := S52.join hP83
   replace S83 : St w NoX [c_83, c51_52, c50_52, c43_52, c4_52, c3_52, c2_52] w83 := S83
   refine W_v rfl rfl (V_mov rfl (et rfl)) ?_
   refine W_v rfl rfl (V_ext (v := .agg #[v_83]) rfl (et rfl) rfl) ?_
   refine W_v rfl rfl (V_ext (v := .int .i64 ((pgN y81.2 (spA C N Z K Q i) (spB C N Z K Q i)))) rfl (es rfl (et rfl)) rfl) ?_
   refine W_v rfl rfl (V_ext (v := .int .i64 ((ckS y81.2).2)) rfl (es2 rfl (et rfl)) rfl) ?_
   refine W_allocS (z := .agg #[.slice none 0 0]) (zs := #[.slice none 0 0]) S83 rfl rfl rfl (by kernel_rfl) (by rfl) (fun g84 w84 c84 hc84 S84 => ?_)
   replace S84 : St w NoX [c84, c_83, c51_52, c50_52, c43_52, c4_52, c3_52, c2_52] w84 := S84
   refine W_stAS 0 S84 rfl hc84 rfl rfl rfl (et rfl) (es3 rfl (et rfl)) (by simp only [List.all_toArray, List.all_cons, List.all_nil, SlN_one (ow_at (S84.chq 1 rfl hc_83))] <;> rfl) (by rfl) (by kernel_rfl) (fun w85 c85 hc85 S85 => ?_)
   replace S85 : St w NoX [c85, c_83, c51_52, c50_52, c43_52, c4_52, c3_52, c2_52] w85 := S85
   refine W_v rfl rfl (V_asg rfl (es2 rfl (et rfl))) ?_
   refine W_v rfl rfl (V_asg rfl (es2 rfl (et rfl))) ?_
   refine W_end (gen_Q fun A86 E86 => ?_)
   have Y86 := szq E86
   have F86 := fsE E86 (cq1 (ck (ck (cq4 (cq8 F60 rfl) rfl) rfl rfl) rfl rfl) rfl)
   clear E86 Y60 F60
   refine tk H80 ?_
   refine wp_seq_k fun K87 H87 => ?_
   refine region_in ?_
   refine W_v rfl rfl (V_mov rfl (fg4 F86)) ?_
   refine W_v rfl rfl (V_mov rfl (es rfl (fg0 F86))) ?_
   refine W_v rfl rfl (V_add rfl (es rfl (et rfl)) (et rfl) (by omega) (by omega)) ?_
   refine W_v rfl rfl (V_asg rfl (et rfl)) ?_
   refine W_end (gen_Q fun A88 E88 => ?_)
   have Y88 := szq E88
   have F88 := fsE E88 (ck (cq3 (fx4 F86) rfl) rfl rfl)
   clear E88 Y86 F86
   refine tk H87 ?_
   refine region_in ?_
   refine W_v rfl rfl (V_fa (off' := 0) rfl (fg5 F88) Tryz.underlying29 rfl (by decide +kernel) rfl) ?_
   refine W_r rfl rfl (VR_ldC rfl (et rfl) (cell_box (v := hv) (S85.obj 4 rfl hc43_52) rfl) Tryz.underlying24 rfl) ?_
   refine W_r rfl rfl (VR_ldA rfl (es2 rfl (fg2 F88)) (S85.obj 0 rfl hc85) Tryz.underlying27 rfl (by kernel_rfl)) ?_
   have hll89 : [((v_83, (pgT y81.2 (spA C N Z K Q i) (spB C N Z K Q i))))].length = 1 := rfl
   refine W_litS (vs := [.agg #[v_83]]) (xs := ([((v_83, (pgT y81.2 (spA C N Z K Q i) (spB C N Z K Q i))))].flatMap fstC)) 1 S85 rfl rfl rfl (parts1 (et rfl)) rfl Tryz.underlying24 (by kernel_rfl) (by decide) (by intro v hv; simp only [List.mem_cons, List.not_mem_nil, or_false] at hv; rcases hv with rfl <;> rfl) (by rfl) (fun g89 w89 c89 hc89 S89 => ?_)
   replace hc89 : c89 = ro 1 fstC (.slice (some ⟨g89, 0, none⟩) 1 1) [((v_83, (pgT y81.2 (spA C N Z K Q i) (spB C N Z K Q i))))] := hc89
   replace S89 : St w NoX [c89, c85, c_83, c51_52, c50_52, c43_52, c4_52, c3_52, c2_52] w89 := S89
   refine W_appS 1 4 S89 rfl hc50_52 rfl rfl rfl (es2 rfl (et rfl)) (et rfl) Tryz.underlying24 Tryz.underlying24 (z := .agg #[.slice none 0 0]) (bytes := 24) (by kernel_rfl) rfl (by decide) (ow_at (S89.chq 0 rfl hc89)) (by intro u hu; simp only [List.flatMap_cons, List.flatMap_nil, fstC, List.append_nil, List.cons_append, List.nil_append, List.mem_cons, List.not_mem_nil, or_false] at hu; rcases hu with rfl <;> first | exact SlN_one (ow_at (S89.chq 2 rfl hc_83))) (by first | omega | (simp; done) | (simp; omega)) (by first | omega | (simp; done) | (simp; omega)) (fun v90 w90 c90 hc90 S90 => ?_)
   replace hc90 : c90 = ro 1 fstC v90 (U ++ [((v_83, (pgT y81.2 (spA C N Z K Q i) (spB C N Z K Q i))))]) := hc90.trans (app_eqR (by first | (simp; done) | (rw [List.take_of_length_le (l := List.drop _ _) (by rw [List.length_drop]; exact Nat.le_refl _)])))
   replace S90 : St w NoX [c89, c85, c_83, c51_52, c90, c43_52, c4_52, c3_52, c2_52] w90 := S90
   have S91 := S90.sel [2, 3, 0, 1, 4, 5, 6, 7, 8] (by decide) (l' := [c_83, c51_52, c89, c85, c90, c43_52, c4_52, c3_52, c2_52]) rfl
   replace S91 : St w NoX [c_83, c51_52, c89, c85, c90, c43_52, c4_52, c3_52, c2_52] w90 := S91
   rw [hc_83, hc51_52] at S91
   obtain ⟨c92, hc92, S92⟩ := gen1 (owl_push (v := v_83) (xs := (pgT y81.2 (spA C N Z K Q i) (spB C N Z K Q i))) (L := U) S91)
   replace S92 : St w NoX [c92, c89, c85, c90, c43_52, c4_52, c3_52, c2_52] w90 := S92
   replace hc92 : c92 = owl .i64 (U ++ [((v_83, (pgT y81.2 (spA C N Z K Q i) (spB C N Z K Q i))))]) := hc92
   refine W_v rfl rfl (V_fa (off' := 0) rfl (es5 rfl (fg5 F88)) Tryz.underlying29 rfl (by decide +kernel) rfl) ?_
   refine W_stCS (zs' := #[v90, .slice none 0 0]) 4 S92 rfl hc43_52 rfl rfl rfl (et rfl) (es rfl (et rfl)) (SlN_one (ow_at (S92.chq 3 rfl hc90))) (by rfl) (by kernel_rfl) (by first | rfl | (simp only [List.setIfInBounds_toArray, List.set_cons_succ, List.set_cons_zero] <;> rfl)) (fun w93 c93 hc93 S93 => ?_)
   replace S93 : St w NoX [c92, c89, c85, c90, c93, c4_52, c3_52, c2_52] w93 := S93
   refine W_end (gen_Q fun A94 E94 => ?_)
   have Y94 := szq E94
   have F94 := fsE E94 (cq6 F88 rfl)
   clear E94 Y88 F88
   have S95 : St w NoX [c92, c90, c93, c4_52, c3_52, c2_52] w93 := S93.sel [0, 3, 4, 5, 6, 7] (by decide) rfl
   refine inb_n ?_
   refine tk H57 ?_
   refine region_in ?_
   refine W_v rfl rfl (V_mov rfl (fg4 F94)) ?_
   refine W_v rfl rfl (V_add rfl (et rfl) rfl (by omega) (by omega)) ?_
   refine W_v rfl rfl (V_asg rfl (et rfl)) ?_
   refine W_end (gen_Q fun A96 E96 => ?_)
   have Y96 := szq E96
   have F96 := fsE E96 (ck (cq2 (fx4 F94) rfl) rfl rfl)
   clear E96 Y94 F94
   refine then_n ⟨Xu.length - (k + 1), by simp only [hm52]; omega, Y96, F96.d, (k + 1), v90, (U ++ [((v_83, (pgT y81.2 (spA C N Z K Q i) (spB C N Z K Q i))))]), (n + (pgN y81.2 (spA C N Z K Q i) (spB C N Z K Q i))), rfl, (by omega), (by rw [csF_app, hU]; exact tkC (pgC_at (csF_at hy81) (pgF_no (by omega)))), (by rw [hn]; exact ps_nx (pnq_no (csF_at hy81) (by omega))), (by omega), (((fg0 F96)).trans (by first | rfl | (simp; done) | (congr 1; omega))), (((fg1 F96)).trans (by first | rfl | (simp; done) | (congr 1; omega))), (((fg11 F96)).trans (fg8 F49).symm), (((fg10 F96)).trans (fg11 F49).symm), (((fg9 F96)).trans (fg10 F49).symm), (((fg8 F96)).trans (fg9 F49).symm), (((fg7 F96)).trans (fg4 F49).symm), (((fg6 F96)).trans (fg3 F49).symm), (((fg5 F96)).trans (fg2 F49).symm), (by have q0 : c92 = owl .i64 (U ++ [((v_83, (pgT y81.2 (spA C N Z K Q i) (spB C N Z K Q i))))]) := hc92.trans (rfl); have q1 : c90 = ro 1 fstC v90 (U ++ [((v_83, (pgT y81.2 (spA C N Z K Q i) (spB C N Z K Q i))))]) := hc90.trans (rfl); have q2 := hc93; have q3 := hc4_52; have q4 := hc3_52; have q5 := hc2_52; subst q0 q1 q2 q3 q4 q5; exact S95)⟩
  refine wp_exit ?_
  refine then_exit ?_
  refine then_exit ?_
  refine inb_hit ?_
  refine tk H47 ?_
  refine wp_seq_k fun K97 H97 => ?_
  refine region_in ?_
  refine W_v rfl rfl (V_fa (off' := 1) rfl (fg6 F55) Tryz.underlying29 rfl (by decide +kernel) rfl) ?_
  refine W_r rfl rfl (VR_ldP (ys := [nv]) rfl (et rfl) (S52.obj 4 rfl hc3_52) (ldP_at rfl) Tryz.underlying27 rfl (by kernel_rfl)) ?_
  refine W_v rfl rfl (V_mov rfl (es2 rfl (fg4 F55))) ?_
  refine W_v rfl rfl (V_mov rfl (es3 rfl (fg3 F55))) ?_
  refine W_call rfl rfl rfl Tryz.func35 (by kernel_rfl) rfl (args3 (es2 rfl (et rfl)) (es rfl (et rfl)) (et rfl)) (qPurge_c (f := (spA C N Z K Q i)) (t := (spB C N Z K Q i)) (S52.roC h_nv) ) ?_
  rintro _ w98 ⟨v_98, rfl, hP98⟩
  refine ⟨_, rfl, ?_⟩
  obtain ⟨c_98, hc_98, hP98⟩ := gen1 hP98
  have S98 := S52.join hP98
  replace S98 : St w NoX [c_98, c51_52, c50_52, c43_52, c4_52, c3_52, c2_52] w98 := S98
  refine W_v rfl rfl (V_mov rfl (et rfl)) ?_
  refine W_v rfl rfl (V_ext (v := .agg #[v_98]) rfl (et rfl) rfl) ?_
  refine W_v rfl rfl (V_ext (v := .int .i64 ((pgN ns (spA C N Z K Q i) (spB C N Z K Q i)))) rfl (es rfl (et rfl)) rfl) ?_
  refine W_v rfl rfl (V_ext (v := .int .i64 ((ckS ns).2)) rfl (es2 rfl (et rfl)) rfl) ?_
  refine W_allocS (z := .agg #[.slice none 0 0]) (zs := #[.slice none 0 0]) S98 rfl rfl rfl (by kernel_rfl) (by rfl) (fun g99 w99 c99 hc99 S99 => ?_)
  replace S99 : St w NoX [c99, c_98, c51_52, c50_52, c43_52, c4_52, c3_52, c2_52] w99 := S99
  refine W_stAS 0 S99 rfl hc99 rfl rfl rfl (et rfl) (es3 rfl (et rfl)) (by simp only [List.all_toArray, List.all_cons, List.all_nil, SlN_one (ow_at (S99.chq 1 rfl hc_98))] <;> rfl) (by rfl) (by kernel_rfl) (fun w100 c100 hc100 S100 => ?_)
  replace S100 : St w NoX [c100, c_98, c51_52, c50_52, c43_52, c4_52, c3_52, c2_52] w100 := S100
  refine W_v rfl rfl (V_asg rfl (es2 rfl (et rfl))) ?_
  refine W_v rfl rfl (V_asg rfl (es2 rfl (et rfl))) ?_
  refine W_end (gen_Q fun A101 E101 => ?_)
  have Y101 := szq E101
  have F101 := fsE E101 (cq1 (ck (ck (cq1 (cq8 F55 rfl) rfl) rfl rfl) rfl rfl) rfl)
  clear E101 Y55 F55
  have S102 : St w NoX [c100, c_98, c51_52, c50_52, c43_52, c4_52] w100 := S100.sel [0, 1, 2, 3, 4, 5] (by decide) rfl
  refine tk H97 ?_
  refine wp_seq_k fun K103 H103 => ?_
  refine region_in ?_
  refine W_r rfl rfl (VR_ldA rfl (fg1 F101) (S102.obj 0 rfl hc100) Tryz.underlying27 rfl (by kernel_rfl)) ?_
  refine W_v rfl rfl (V_fa (off' := 1) rfl (es rfl (fg4 F101)) Tryz.underlying29 rfl (by decide +kernel) rfl) ?_
  refine W_stAM (ys := [v_98]) (zs' := #[hv, v_98]) 4 S102 rfl hc43_52 rfl rfl rfl (et rfl) (es rfl (et rfl)) (by intro u hu; simp only [List.mem_cons, List.not_mem_nil, or_false] at hu; rcases hu with rfl <;> first | exact SlN_one (ow_at (S102.chq 1 rfl hc_98))) (by simp) (by kernel_rfl) rfl (fun w104 c104 hc104 S104 => ?_)
  replace S104 : St w NoX [c100, c_98, c51_52, c50_52, c104, c4_52] w104 := S104
  refine W_end (gen_Q fun A105 E105 => ?_)
  have Y105 := szq E105
  have F105 := fsE E105 (cq2 F101 rfl)
  clear E105 Y101 F101
  have S106 : St w NoX [c_98, c51_52, c50_52, c104, c4_52] w104 := S104.sel [1, 2, 3, 4, 5] (by decide) rfl
  refine tk H103 ?_
  refine wp_seq_k fun K107 H107 => ?_
  refine region_in ?_
  refine W_r rfl rfl (VR_ldA rfl (fg4 F105) (S106.obj 3 rfl hc104) Tryz.underlying29 rfl (by kernel_rfl)) ?_
  refine W_v rfl rfl (V_mov rfl (es rfl (fg3 F105))) ?_
  refine W_v rfl rfl (V_mov rfl (es2 rfl (fg0 F105))) ?_
  refine W_v rfl rfl (V_add rfl (es rfl (et rfl)) (et rfl) (by omega) (by omega)) ?_
  refine W_stAS 4 S106 rfl hc4_52 rfl rfl rfl (es4 rfl (fg7 F105)) (es3 rfl (et rfl)) (by simp only [List.all_toArray, List.all_cons, List.all_nil, SlN_one (ow_at (S106.chq 2 rfl hc50_52)), SlN_one (ow_at (S106.chq 0 rfl hc_98))] <;> rfl) (by rfl) (by kernel_rfl) (fun w108 c108 hc108 S108 => ?_)
  replace S108 : St w NoX [c_98, c51_52, c50_52, c104, c108] w108 := S108
  refine W_v rfl rfl (V_asg rfl (et rfl)) ?_
  refine W_v rfl rfl (V_asg rfl rfl) ?_
  refine W_end (gen_Q fun A109 E109 => ?_)
  have Y109 := szq E109
  have F109 := fsE E109 (ck (ck (cq4 F105 rfl) rfl rfl) rfl rfl)
  clear E109 Y105 F105
  have S110 : St w NoX [c_98, c51_52, c50_52, c108] w108 := S108.sel [0, 1, 2, 4] (by decide) rfl
  refine tk H107 ?_
  refine wp_ret ?_
  refine ret_in (results_3 Tryz.results8 (rv_cellA (fg9 F109) (S110.obj 3 rfl hc108) Tryz.underlying29 rfl (by kernel_rfl)) (rv_tmp (fg1 F109)) (rv_tmp (fg0 F109))) F109.d ?_
  have S112 := S110.sel [2, 1, 0, 3] (by decide) (l' := [c50_52, c51_52, c_98, c108]) rfl
  replace S112 : St w NoX [c50_52, c51_52, c_98, c108] w108 := S112
  obtain ⟨c111, hc111, S111⟩ := St.rmClose S112 hc50_52 hc51_52
  replace S111 : St w NoX [c111, c_98, c108] w108 := S111
  have hb := pr_ok he
  rw [he, hb.2.2, ps_end (show k = (csF Xu).length by rw [csF_len]; omega) (by rw [csF_len]; omega) hn]
  exact ⟨_, _, rfl, (S111.fin2 0 rfl (hc111.trans (by rw [hb.1, hU, List.take_of_length_le (by rw [pgC_len, csF_len]; omega)])) 1 rfl (hc_98.trans (congrArg (io .i64 _) (by rw [hb.2.1]))) (by decide))⟩
 refine W_off rfl (wanted_f rfl rfl (et rfl) (ez rfl) rfl) ?_
 refine W_off rfl (wanted_f rfl rfl (es rfl (et rfl)) (ez rfl) rfl) ?_
 refine W_off rfl (wanted_f rfl rfl (es2 rfl (et rfl)) (ez rfl) rfl) ?_
 refine W_off rfl (wanted_u rfl rfl (et rfl) (ez rfl)) ?_
 refine W_off rfl (wanted_u rfl rfl (es rfl (et rfl)) (ez rfl)) ?_
 refine W_off rfl (wanted_u rfl rfl (es2 rfl (et rfl)) (ez rfl)) ?_
 refine W_off rfl (wanted_u rfl rfl (es3 rfl (et rfl)) (ez rfl)) ?_
 refine W_off rfl (wanted_f rfl rfl (es7 rfl (et rfl)) (ez rfl) rfl) ?_
 refine W_v rfl rfl (V_pickF rfl (es8 rfl (et rfl)) rfl) ?_
 refine W_end (gen_Q fun A113 E113 => ?_)
 have Y113 := szq E113
 have F113 := fsE E113 (ck (cq3 (cq8 F8 rfl) rfl) rfl rfl)
 clear E113 Y8 F8
 refine tk H10 ?_
 refine cond_f (fg0 F113) ?_
 refine wp_skip ?_
 refine tk H9 ?_
 refine wp_seq_k fun K114 H114 => ?_
 refine wp_seq_k fun K115 H115 => ?_
 refine region_in ?_
 refine W_v rfl rfl (V_mov rfl (fg1 F113)) ?_
 refine W_v rfl rfl (V_neq rfl (et rfl) rfl) ?_
 refine W_end (gen_Q fun A116 E116 => ?_)
 have Y116 := szq E116
 have F116 := fsE E116 (ck (cq1 F113 rfl) rfl rfl)
 clear E116 Y113 F113
 refine tk H115 ?_
 refine cond_sure (fg0 F116) (by first | (simp [c11]; done) | exact decide_eq_true (by omega) | exact decide_eq_false (by omega)) ?_
 refine wp_seq_k fun K117 H117 => ?_
 refine region_in ?_
 refine W_v rfl rfl (V_bldS (n := 2) (z := .agg #[.slice none 0 0, .slice none 0 0]) rfl (parts0) (by kernel_rfl) (by simp only [List.all_cons, List.all_nil, Bool.and_true] <;> rfl) (by kernel_rfl) (by simp only [List.foldl_cons, List.foldl_nil, Value.cells, List.setIfInBounds_toArray, List.set_cons_succ, List.set_cons_zero] <;> rfl)) ?_
 refine W_v rfl rfl (V_mov rfl (es rfl (fg2 F116))) ?_
 refine W_stAS 0 S7 rfl hc4 rfl rfl rfl (es2 rfl (fg4 F116)) (es rfl (et rfl)) (by first | (rw [List.all_toArray] <;> rfl) | (simp only [List.all_toArray, List.all_cons, List.all_nil] <;> rfl)) (by rfl) (by kernel_rfl) (fun w118 c118 hc118 S118 => ?_)
 replace S118 : St w NoX [c118, c3, c2] w118 := S118
 refine W_v rfl rfl (V_asg rfl rfl) ?_
 refine W_v rfl rfl (V_asg rfl (es rfl (et rfl))) ?_
 refine W_end (gen_Q fun A119 E119 => ?_)
 have Y119 := szq E119
 have F119 := fsE E119 (ck (ck (cq2 F116 rfl) rfl rfl) rfl rfl)
 clear E119 Y116 F116
 have S120 : St w NoX [c118] w118 := S118.sel [0] (by decide) rfl
 refine tk H117 ?_
 refine wp_ret ?_
 refine then_ret ?_
 refine ret_in (results_3 Tryz.results8 (rv_cellA (fg6 F119) (S120.obj 0 rfl hc118) Tryz.underlying29 rfl (by kernel_rfl)) (rv_tmp (fg1 F119)) (rv_tmp (fg0 F119))) F119.d ?_
 obtain ⟨c121, hc121, S121⟩ := S120.rmNil
 obtain ⟨c122, hc122, S122⟩ := S121.pnil (s := 1)
 have he : frE C N Z K Q (csF Xu) ns i = (rmP C N Z K Q (csF Xu) ns).2 := fr_e1 (by omega)
 have hb := pr_bad (show frE C N Z K Q (csF Xu) ns i ≠ 0 by omega)
 rw [he, hb.2.2]
 exact ⟨_, _, rfl, (S122.fin2 1 rfl (hc121.trans (by rw [hb.1])) 0 rfl (hc122.trans (by rw [show prN C N Z K Q (csF Xu) ns i = [] by exact hb.2.1] <;> rfl)) (by decide))⟩

end Go.Proofs.YteppjefmlibmoaaGreat