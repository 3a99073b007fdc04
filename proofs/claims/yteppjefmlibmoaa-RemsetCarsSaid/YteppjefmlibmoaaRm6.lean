import Derived.Test.YteppjefmlibmoaaProg
import Derived.Test.YteppjefmlibmoaaRm5
import Derived.Test.YteppjefmlibmoaaPl8f
import Derived.Test.YteppjefmlibmoaaSep8c
import Derived.Test.YteppjefmlibmoaaSl6
namespace Go.Proofs.Yteppjefmlibmoaa
open Go.RowKit Go.Own Go.Own.R Go.Own.S Go.Own.E


set_option maxHeartbeats 4000000 in
theorem ksg8_c {C : Int} {N : Int} {Z : Int} {K : Int} {Q : Int} {cv : Value} {X : List (List Int)} {nv : Value} {ns : List Int} {i : Int} {w : World} (h_cv : Ro w NoX (rmR cv X)) (h_nv : Ro w NoX (il .i64 nv ns))  :
  Calls Try.prog 45 #[.agg #[.int .i64 C, .int .i64 N, .int .i64 Z, .int .i64 K, .int .i64 Q], .agg #[cv, nv], .int .i64 i] w fun e w' => e = .returned (.tuple #[.int .i64 (sgA C N Z K Q X ns i), .int .i64 (sgB C N Z K Q X ns i), .int .i64 (frE C N Z K Q X ns i)]) ∧ St w NoX [] w' := by
 refine calls_in 34 Try.func45 rfl rfl (by simp) (fun A0 Y0 hdf0 hargs => ?_)
 have l0_0 := hargs 0 (.agg #[.int .i64 C, .int .i64 N, .int .i64 Z, .int .i64 K, .int .i64 Q]) rfl
 have l1_0 := hargs 1 (.agg #[cv, nv]) rfl
 have l2_0 := hargs 2 (.int .i64 i) rfl
 clear hargs; replace Y0 : SzN A0 34 := ⟨Y0⟩
 have hS := St.nil w
 have bh_nv := SlN.le (sl_SlN h_nv.at)
 refine wp_seq_k fun K1 H1 => ?_
 refine region_in ?_
 refine W_boxS (zs := #[.int .i64 (C), .int .i64 (N), .int .i64 (Z), .int .i64 (K), .int .i64 (Q)]) hS rfl rfl rfl l0_0 (by rfl) (fun g2 w2 c2 hc2 S2 => ?_)
 replace S2 : St w NoX [c2] w2 := S2
 refine W_boxS (zs := #[cv, nv]) S2 rfl rfl rfl (es rfl l1_0) (by rfl) (fun g3 w3 c3 hc3 S3 => ?_)
 replace S3 : St w NoX [c3, c2] w3 := S3
 refine W_v rfl rfl (V_asg rfl rfl) ?_
 refine W_v rfl rfl (V_asg rfl rfl) ?_
 refine W_v rfl rfl (V_asg rfl rfl) ?_
 refine W_end (gen_Q fun A4 E4 => ?_)
 have Y4 := szq E4
 have F4 := (fsE E4 (cq3 (ck (ck (FS.n hdf0) rfl rfl) rfl rfl) rfl)).c (lookE E4 2 (es5 rfl l2_0))
 clear E4 Y0 hdf0 l0_0 l1_0 l2_0
 refine tk H1 ?_
 refine wp_seq_k fun K5 H5 => ?_
 refine wp_seq_k fun K6 H6 => ?_
 refine region_in ?_
 refine W_r rfl rfl (VR_ldA rfl (fg2 F4) (S3.obj 1 rfl hc2) Try.underlying23 rfl (by kernel_rfl)) ?_
 refine W_r rfl rfl (VR_ldA rfl (es rfl (fg1 F4)) (S3.obj 0 rfl hc3) Try.underlying29 rfl (by kernel_rfl)) ?_
 refine W_call rfl rfl rfl Try.func11 (by kernel_rfl) rfl (args2 (es rfl (et rfl)) (et rfl)) (kCk8_c (C := C) (N := N) (Z := Z) (K := K) (Q := Q) (S3.roC h_cv) (S3.roC h_nv) ) ?_
 rintro _ w7 ⟨rfl, hP7⟩
 refine ⟨_, rfl, ?_⟩
 have S7 := S3.join hP7
 replace S7 : St w NoX [c3, c2] w7 := S7
 refine W_v rfl rfl (V_mov rfl (et rfl)) ?_
 refine W_v rfl rfl (V_ext (v := .int .i64 ((rmP C N Z K Q X ns).1)) rfl (et rfl) rfl) ?_
 refine W_v rfl rfl (V_ext (v := .int .i64 ((rmP C N Z K Q X ns).2)) rfl (es rfl (et rfl)) rfl) ?_
 refine W_v rfl rfl (V_asg rfl (es rfl (et rfl))) ?_
 refine W_v rfl rfl (V_asg rfl (es rfl (et rfl))) ?_
 refine W_end (gen_Q fun A8 E8 => ?_)
 have Y8 := szq E8
 have F8 := fsE E8 (ck (cq7 F4 rfl) rfl rfl)
 clear E8 Y4 F4
 have S9 : St w NoX [c2] w7 := S7.sel [1] (by decide) rfl
 refine tk H6 ?_
 refine wp_seq_k fun K10 H10 => ?_
 refine region_in ?_
 refine W_v rfl rfl (V_mov rfl (fg0 F8)) ?_
 refine W_v rfl rfl (V_neq rfl (et rfl) rfl) ?_
 refine W_end (gen_Q fun A11 E11 => ?_)
 have Y11 := szq E11
 have F11 := fsE E11 (ck (cq1 F8 rfl) rfl rfl)
 clear E11 Y8 F8
 refine tk H10 ?_
 refine cond_dec (fg0 F11) (fun c12 => ?_) (fun c12 => ?_)
 ·refine wp_seq_k fun K13 H13 => ?_
  refine region_in ?_
  refine W_v rfl rfl (V_mov rfl (fg1 F11)) ?_
  refine W_v rfl rfl (V_asg rfl rfl) ?_
  refine W_v rfl rfl (V_asg rfl rfl) ?_
  refine W_v rfl rfl (V_asg rfl (es2 rfl (et rfl))) ?_
  refine W_end (gen_Q fun A14 E14 => ?_)
  have Y14 := szq E14
  have F14 := fsE E14 (ck (ck (ck (cq1 F11 rfl) rfl rfl) rfl rfl) rfl rfl)
  clear E14 Y11 F11
  have S15 : St w NoX [] w7 := S9.sel [] (by decide) rfl
  refine tk H13 ?_
  refine wp_ret ?_
  refine then_ret ?_
  refine ret_in (results_3 Try.results45 (rv_tmp (fg2 F14)) (rv_tmp (fg1 F14)) (rv_tmp (fg0 F14))) F14.d ?_
  have he : frE C N Z K Q X ns i = (rmP C N Z K Q X ns).2 := fr_e1 (by omega)
  have hb := sg_bad (show frE C N Z K Q X ns i ≠ 0 by omega)
  rw [hb.1, hb.2, he]
  exact ⟨rfl, S15.fin0⟩
 refine wp_skip ?_
 refine tk H5 ?_
 refine wp_seq_k fun K16 H16 => ?_
 refine wp_seq_k fun K17 H17 => ?_
 refine region_in ?_
 refine W_v rfl rfl (V_mov rfl (fg2 F11)) ?_
 refine W_v rfl rfl (V_lss rfl (et rfl) rfl) ?_
 refine W_split rfl rfl (V_mov rfl (et rfl)) (fun c18 => ?_) (fun c18 => ?_)
 ·refine W_off rfl (wanted_f rfl rfl (et rfl) (ez rfl) rfl) ?_
  refine W_off rfl (wanted_f rfl rfl (es rfl (et rfl)) (ez rfl) rfl) ?_
  refine W_off rfl (wanted_f rfl rfl (es2 rfl (et rfl)) (ez rfl) rfl) ?_
  refine W_off rfl (wanted_f rfl rfl (es3 rfl (et rfl)) (ez rfl) rfl) ?_
  refine W_v rfl rfl (V_pickT rfl (es4 rfl (et rfl)) rfl) ?_
  refine W_end (gen_Q fun A19 E19 => ?_)
  have Y19 := szq E19
  have F19 := fsE E19 (ck (cq7 F11 rfl) rfl rfl)
  clear E19 Y11 F11
  refine tk H17 ?_
  refine cond_t (fg0 F19) ?_
  refine wp_seq_k fun K20 H20 => ?_
  refine region_in ?_
  refine W_v rfl rfl (V_asg rfl rfl) ?_
  refine W_v rfl rfl (V_asg rfl rfl) ?_
  refine W_v rfl rfl (V_asg rfl rfl) ?_
  refine W_end (gen_Q fun A21 E21 => ?_)
  have Y21 := szq E21
  have F21 := fsE E21 (ck (ck (ck F19 rfl rfl) rfl rfl) rfl rfl)
  clear E21 Y19 F19
  have S22 : St w NoX [] w7 := S9.sel [] (by decide) rfl
  refine tk H20 ?_
  refine wp_ret ?_
  refine then_ret ?_
  refine ret_in (results_3 Try.results45 (rv_tmp (fg2 F21)) (rv_tmp (fg1 F21)) (rv_tmp (fg0 F21))) F21.d ?_
  have he : frE C N Z K Q X ns i = 7 := fr_e2 (by omega) (by omega)
  have hb := sg_bad (show frE C N Z K Q X ns i ≠ 0 by omega)
  rw [hb.1, hb.2, he]
  exact ⟨rfl, S22.fin0⟩
 refine W_v rfl (wanted_t rfl rfl (et rfl) (ez rfl)) (V_mov rfl (es3 rfl (fg2 F11))) ?_
 refine W_v rfl (wanted_t rfl rfl (es rfl (et rfl)) (ez rfl)) (V_fa (off' := 1) rfl (es4 rfl (fg4 F11)) Try.underlying23 rfl (by decide +kernel) rfl) ?_
 refine W_r rfl (wanted_t rfl rfl (es2 rfl (et rfl)) (ez rfl)) (VR_ldC rfl (et rfl) (cell_box (v := .int .i64 (N)) (S9.obj 0 rfl hc2) rfl) Try.underlying3 rfl) ?_
 refine W_v rfl (wanted_t rfl rfl (es3 rfl (et rfl)) (ez rfl)) (V_geq rfl (es2 rfl (et rfl)) (et rfl)) ?_
 refine W_v rfl rfl (V_pickF rfl (es4 rfl (et rfl)) (et rfl)) ?_
 refine W_end (gen_Q fun A23 E23 => ?_)
 have Y23 := szq E23
 have F23 := fsE E23 (ck (cq7 F11 rfl) rfl rfl)
 clear E23 Y11 F11
 refine tk H17 ?_
 refine cond_dec (fg0 F23) (fun c24 => ?_) (fun c24 => ?_)
 ·refine wp_seq_k fun K25 H25 => ?_
  refine region_in ?_
  refine W_v rfl rfl (V_asg rfl rfl) ?_
  refine W_v rfl rfl (V_asg rfl rfl) ?_
  refine W_v rfl rfl (V_asg rfl rfl) ?_
  refine W_end (gen_Q fun A26 E26 => ?_)
  have Y26 := szq E26
  have F26 := fsE E26 (ck (ck (ck F23 rfl rfl) rfl rfl) rfl rfl)
  clear E26 Y23 F23
  have S27 : St w NoX [] w7 := S9.sel [] (by decide) rfl
  refine tk H25 ?_
  refine wp_ret ?_
  refine then_ret ?_
  refine ret_in (results_3 Try.results45 (rv_tmp (fg2 F26)) (rv_tmp (fg1 F26)) (rv_tmp (fg0 F26))) F26.d ?_
  have he : frE C N Z K Q X ns i = 7 := fr_e2 (by omega) (by omega)
  have hb := sg_bad (show frE C N Z K Q X ns i ≠ 0 by omega)
  rw [hb.1, hb.2, he]
  exact ⟨rfl, S27.fin0⟩
 refine wp_skip ?_
 refine tk H16 ?_
 refine wp_seq_k fun K28 H28 => ?_
 refine region_in ?_
 refine W_r rfl rfl (VR_ldA rfl (fg5 F23) (S9.obj 0 rfl hc2) Try.underlying23 rfl (by kernel_rfl)) ?_
 refine W_v rfl rfl (V_mov rfl (es rfl (fg3 F23))) ?_
 refine W_call rfl rfl rfl Try.func75 (by kernel_rfl) rfl (args2 (es rfl (et rfl)) (et rfl)) (ksp_c (C := C) (N := N) (Z := Z) (K := K) (Q := Q) (i := i)  ) ?_
 rintro _ w29 ⟨rfl, hP29⟩
 refine ⟨_, rfl, ?_⟩
 have S29 := S9.join hP29
 replace S29 : St w NoX [c2] w29 := S29
 refine W_v rfl rfl (V_ext (v := .int .i64 ((spA C N Z K Q i))) rfl (et rfl) rfl) ?_
 refine W_v rfl rfl (V_ext (v := .int .i64 ((spB C N Z K Q i))) rfl (es rfl (et rfl)) rfl) ?_
 refine W_v rfl rfl (V_ext (v := .int .i64 ((spE C N Z K Q i))) rfl (es2 rfl (et rfl)) rfl) ?_
 refine W_v rfl rfl (V_asg rfl (es2 rfl (et rfl))) ?_
 refine W_v rfl rfl (V_asg rfl (es2 rfl (et rfl))) ?_
 refine W_v rfl rfl (V_asg rfl (es2 rfl (et rfl))) ?_
 refine W_end (gen_Q fun A30 E30 => ?_)
 have Y30 := szq E30
 have F30 := fsE E30 (ck (ck (ck (cq6 F23 rfl) rfl rfl) rfl rfl) rfl rfl)
 clear E30 Y23 F23
 have S31 : St w NoX [] w29 := S29.sel [] (by decide) rfl
 refine tk H28 ?_
 refine wp_ret ?_
 refine ret_in (results_3 Try.results45 (rv_tmp (fg2 F30)) (rv_tmp (fg1 F30)) (rv_tmp (fg0 F30))) F30.d ?_
 have he : frE C N Z K Q X ns i = 0 := fr_e0 (by omega) (by omega)
 obtain ⟨s1, s2, s3, s4, s5⟩ := sg_ok he
 rw [s1, s2, he, ← s3]
 exact ⟨rfl, S31.fin0⟩

set_option maxHeartbeats 4000000 in
theorem kFr8_c {C : Int} {N : Int} {Z : Int} {K : Int} {Q : Int} {cv : Value} {X : List (List Int)} {nv : Value} {ns : List Int} {i : Int} {w : World} (h_cv : Ro w NoX (rmR cv X)) (h_nv : Ro w NoX (il .i64 nv ns))  :
  Calls Try.prog 13 #[.agg #[.int .i64 C, .int .i64 N, .int .i64 Z, .int .i64 K, .int .i64 Q], .agg #[cv, nv], .int .i64 i] w fun e w' => ∃ v, e = .returned (.tuple #[v, .int .i64 (frE C N Z K Q X ns i)]) ∧ St w NoX [io .i64 (v) (frT C N Z K Q X ns i)] w' := by
 obtain ⟨Xu, hXu, k_cv, n_cv⟩ := rmR_open h_cv
 subst hXu
 have b_cv := SlN.le (sl_SlN k_cv.at)
 have f_al := nsi_all n_cv h_nv
 refine calls_inR 48 Try.func13 rfl rfl (by simp) (fun A0 hsz0 hdf0 hargs => ?_)
 have l0_0 := hargs 0 (.agg #[.int .i64 C, .int .i64 N, .int .i64 Z, .int .i64 K, .int .i64 Q]) rfl
 have l1_0 := hargs 1 (.agg #[cv, nv]) rfl
 have l2_0 := hargs 2 (.int .i64 i) rfl
 clear hargs; replace hsz0 : SzN A0 48 := ⟨hsz0⟩
 have hS := St.nil w
 have bh_nv := SlN.le (sl_SlN h_nv.at)
 have bk_cv := SlN.le (sl_SlN k_cv.at)
 refine R_seq (fun K1 H1 => ?_)
 refine R_region (by kernel_rfl) ?_
 refine W_boxS (zs := #[.int .i64 (C), .int .i64 (N), .int .i64 (Z), .int .i64 (K), .int .i64 (Q)]) hS rfl rfl rfl l0_0 (by rfl) (fun g2 w2 c2 hc2 S2 => ?_)
 replace S2 : St w NoX [c2] w2 := S2
 refine W_boxS (zs := #[cv, nv]) S2 rfl rfl rfl (es rfl l1_0) (by rfl) (fun g3 w3 c3 hc3 S3 => ?_)
 replace S3 : St w NoX [c3, c2] w3 := S3
 refine W_allocS (z := .slice none 0 0) (zs := #[.slice none 0 0]) S3 rfl rfl rfl (by kernel_rfl) (by rfl) (fun g4 w4 c4 hc4 S4 => ?_)
 replace S4 : St w NoX [c4, c3, c2] w4 := S4
 refine W_allocS (z := .int .i64 0) (zs := #[.int .i64 0]) S4 rfl rfl rfl (by kernel_rfl) (by rfl) (fun g5 w5 c5 hc5 S5 => ?_)
 replace S5 : St w NoX [c5, c4, c3, c2] w5 := S5
 refine W_end ?_
 refine Qo_normal ?_
 refine gen_Q (fun A6 E6 => ?_)
 have hsz6 := szq E6
 have F6 := (fsE E6 (ck (ck (ck (ck (FS.n hdf0) rfl rfl) rfl rfl) rfl rfl) rfl rfl)).c (lookE E6 2 (es4 rfl l2_0))
 clear E6 hsz0 hdf0 l0_0 l1_0 l2_0
 refine tk H1 ?_
 refine R_seq (fun K7 H7 => ?_)
 refine R_region (by kernel_rfl) ?_
 refine W_r rfl rfl (VR_ldA rfl (fg4 F6) (S5.obj 3 rfl hc2) Try.underlying23 rfl (by kernel_rfl)) ?_
 refine W_r rfl rfl (VR_ldA rfl (es rfl (fg3 F6)) (S5.obj 2 rfl hc3) Try.underlying29 rfl (by kernel_rfl)) ?_
 refine W_v rfl rfl (V_mov rfl (es2 rfl (fg0 F6))) ?_
 refine W_call rfl rfl rfl Try.func45 (by kernel_rfl) rfl (args3 (es2 rfl (et rfl)) (es rfl (et rfl)) (et rfl)) (ksg8_c (C := C) (N := N) (Z := Z) (K := K) (Q := Q) (i := i) (rmR_of (S5.roC k_cv) (S5.roC n_cv)) (S5.roC h_nv) ) ?_
 rintro _ w8 ⟨rfl, hP8⟩
 refine ⟨_, rfl, ?_⟩
 have S8 := S5.join hP8
 replace S8 : St w NoX [c5, c4, c3, c2] w8 := S8
 refine W_v rfl rfl (V_mov rfl (et rfl)) ?_
 refine W_v rfl rfl (V_ext (v := .int .i64 ((sgA C N Z K Q (csF Xu) ns i))) rfl (et rfl) rfl) ?_
 refine W_v rfl rfl (V_ext (v := .int .i64 ((sgB C N Z K Q (csF Xu) ns i))) rfl (es rfl (et rfl)) rfl) ?_
 refine W_v rfl rfl (V_ext (v := .int .i64 ((frE C N Z K Q (csF Xu) ns i))) rfl (es2 rfl (et rfl)) rfl) ?_
 refine W_allocS (z := .int .i64 0) (zs := #[.int .i64 0]) S8 rfl rfl rfl (by kernel_rfl) (by rfl) (fun g9 w9 c9 hc9 S9 => ?_)
 replace S9 : St w NoX [c9, c5, c4, c3, c2] w9 := S9
 refine W_allocS (z := .int .i64 0) (zs := #[.int .i64 0]) S9 rfl rfl rfl (by kernel_rfl) (by rfl) (fun g10 w10 c10 hc10 S10 => ?_)
 replace S10 : St w NoX [c10, c9, c5, c4, c3, c2] w10 := S10
 refine W_stCS (zs' := #[.int .i64 ((sgA C N Z K Q (csF Xu) ns i))]) 1 S10 rfl hc9 rfl rfl rfl (es rfl (et rfl)) (es4 rfl (et rfl)) (by rfl) (by rfl) (by kernel_rfl) (by first | rfl | (simp only [List.setIfInBounds_toArray, List.set_cons_succ, List.set_cons_zero] <;> rfl)) (fun w11 c11 hc11 S11 => ?_)
 replace S11 : St w NoX [c10, c11, c5, c4, c3, c2] w11 := S11
 refine W_stCS (zs' := #[.int .i64 ((sgB C N Z K Q (csF Xu) ns i))]) 0 S11 rfl hc10 rfl rfl rfl (et rfl) (es3 rfl (et rfl)) (by rfl) (by rfl) (by kernel_rfl) (by first | rfl | (simp only [List.setIfInBounds_toArray, List.set_cons_succ, List.set_cons_zero] <;> rfl)) (fun w12 c12 hc12 S12 => ?_)
 replace S12 : St w NoX [c12, c11, c5, c4, c3, c2] w12 := S12
 refine W_v rfl rfl (V_asg rfl (es2 rfl (et rfl))) ?_
 refine W_end ?_
 refine Qo_normal ?_
 refine gen_Q (fun A13 E13 => ?_)
 have hsz13 := szq E13
 have F13 := fsE E13 (ck (ck (ck (cq8 F6 rfl) rfl rfl) rfl rfl) rfl rfl)
 clear E13 hsz6 F6
 have S14 : St w NoX [c12, c11, c5, c4, c3] w12 := S12.sel [0, 1, 2, 3, 4] (by decide) rfl
 refine tk H7 ?_
 refine R_seq (fun K15 H15 => ?_)
 refine R_seq (fun K16 H16 => ?_)
 refine R_region (by kernel_rfl) ?_
 refine W_v rfl rfl (V_mov rfl (fg0 F13)) ?_
 refine W_v rfl rfl (V_neq rfl (et rfl) rfl) ?_
 refine W_end ?_
 refine Qo_normal ?_
 refine gen_Q (fun A17 E17 => ?_)
 have hsz17 := szq E17
 have F17 := fsE E17 (ck (cq1 F13 rfl) rfl rfl)
 clear E17 hsz13 F13
 refine tk H16 ?_
 refine R_cond_dec (fg0 F17) (fun c18 => ?_) (fun c18 => ?_)
 ·refine R_seq (fun K19 H19 => ?_)
  refine R_region (by kernel_rfl) ?_
  refine W_v rfl rfl (V_mov rfl (fg1 F17)) ?_
  refine W_stCS (zs' := #[.slice none 0 0]) 3 S14 rfl hc4 rfl rfl rfl (es rfl (fg6 F17)) rfl (by rfl) (by rfl) (by kernel_rfl) (by first | rfl | (simp only [List.setIfInBounds_toArray, List.set_cons_succ, List.set_cons_zero] <;> rfl)) (fun w20 c20 hc20 S20 => ?_)
  replace S20 : St w NoX [c12, c11, c5, c20, c3] w20 := S20
  refine W_stCS (zs' := #[.int .i64 ((frE C N Z K Q (csF Xu) ns i))]) 2 S20 rfl hc5 rfl rfl rfl (es rfl (fg5 F17)) (et rfl) (by rfl) (by rfl) (by kernel_rfl) (by first | rfl | (simp only [List.setIfInBounds_toArray, List.set_cons_succ, List.set_cons_zero] <;> rfl)) (fun w21 c21 hc21 S21 => ?_)
  replace S21 : St w NoX [c12, c11, c21, c20, c3] w21 := S21
  refine W_end ?_
  refine Qo_normal ?_
  refine gen_Q (fun A22 E22 => ?_)
  have hsz22 := szq E22
  have F22 := fsE E22 (cq1 F17 rfl)
  clear E22 hsz17 F17
  have S23 : St w NoX [c21, c20] w21 := S21.sel [2, 3] (by decide) rfl
  refine tk H19 ?_
  refine R_ret ?_
  refine then_ret ?_
  refine ret_inR0 (results_2 Try.results13 (rv_cellC (fg6 F22) (cell_box (S23.obj 1 rfl hc20) rfl) Try.underlying25 rfl) (rv_cellC (fg5 F22) (cell_box (S23.obj 0 rfl hc21) rfl) Try.underlying34 rfl)) F22.d ?_
  obtain ⟨c24, hc24, S24⟩ := S23.pnil (s := 1)
  exact ⟨_, rfl, (S24.fin1 0 rfl (hc24.trans (by rw [show frT C N Z K Q (csF Xu) ns i = [] by exact frT_bad (by omega)] <;> rfl)))⟩
 have he : frE C N Z K Q (csF Xu) ns i = 0 := by omega
 obtain ⟨s1, s2, s3, s4, s5⟩ := sg_ok he
 have hk0 := (fr_0 he).1
 have hx24 := (rm_lens hk0).1
 rw [csF_len] at hx24
 refine R_skip ?_
 refine tk H15 ?_
 refine R_seq (fun K25 H25 => ?_)
 refine R_region (by kernel_rfl) ?_
 refine W_allocS (z := .slice none 0 0) (zs := #[.slice none 0 0]) S14 rfl rfl rfl (by kernel_rfl) (by rfl) (fun g26 w26 c26 hc26 S26 => ?_)
 replace S26 : St w NoX [c26, c12, c11, c5, c4, c3] w26 := S26
 refine W_end ?_
 refine Qo_normal ?_
 refine gen_Q (fun A27 E27 => ?_)
 have hsz27 := szq E27
 have F27 := fsE E27 (ck F17 rfl rfl)
 clear E27 hsz17 F17
 replace hc11 : c11 = bx g9 3 #[.int .i64 ((spA C N Z K Q i))] := hc11.trans (by rw [s1])
 replace hc12 : c12 = bx g10 3 #[.int .i64 ((spB C N Z K Q i))] := hc12.trans (by rw [s2])
 refine tk H25 ?_
 refine R_seq (fun K28 H28 => ?_)
 refine R_seq (fun K29 H29 => ?_)
 refine R_region (by kernel_rfl) ?_
 refine W_r rfl rfl (VR_ldA rfl (fg8 F27) (S26.obj 5 rfl hc3) Try.underlying29 rfl (by kernel_rfl)) ?_
 refine W_call rfl rfl rfl Try.func41 (by kernel_rfl) rfl (args1 (et rfl)) (kall8_c (S26.roC k_cv) (S26.roC n_cv) (S26.roC h_nv) ) ?_
 rintro _ w30 ⟨gb_30, rfl, hP30⟩
 refine ⟨_, rfl, ?_⟩
 obtain ⟨cb_30, hcb_30, hP30⟩ := gen1 hP30
 have S30 := S26.join hP30
 replace S30 : St w NoX [cb_30, c26, c12, c11, c5, c4, c3] w30 := S30
 refine W_end ?_
 refine Qo_normal ?_
 refine gen_Q (fun A31 E31 => ?_)
 have hsz31 := szq E31
 have F31 := fsE E31 (ck (cq1 F27 rfl) rfl rfl)
 clear E31 hsz27 F27
 have S32 : St w NoX [cb_30, c26, c12, c11, c5, c4] w30 := S30.sel [0, 1, 2, 3, 4, 5] (by decide) rfl
 refine tk H29 ?_
 refine R_block ?_
 obtain ⟨c33, hc33, S33⟩ := S32.pnil (s := 1)
 refine R_rangeS (α := Nat) (fg0 F31) (fun args w => calls_enter Try.func71 rfl rfl args w) (kall8_it (gb := gb_30) (cv := cv) (U := Xu) (nv := nv) (ns := ns) (Rd := fun W => (bx gb_30 29 #[cv, nv]).at W ∧ (rl 1 fstC cv Xu).at W ∧ (nsi Xu).at W ∧ (il .i64 nv ns).at W) (fun _ h => h)) (fun _ => rfl) (fun pre => pk (fun l => ∃ (bv : Value), l = [io .i64 bv (frD C N Z K Q ((csF Xu ++ [ns]).take pre.length) i), bx gb_30 29 #[cv, nv], bx g26 25 #[bv], bx g10 3 #[.int .i64 ((spB C N Z K Q i))], bx g9 3 #[.int .i64 ((spA C N Z K Q i))], bx g5 34 #[.int .i64 0], bx g4 25 #[.slice none 0 0]])) (fun cQ pre => pk (fun l => False)) (St.pack (l := [io .i64 (.slice none 0 0) (frD C N Z K Q ((csF Xu ++ [ns]).take ([] : List Nat).length) i), bx gb_30 29 #[cv, nv], bx g26 25 #[(.slice none 0 0)], bx g10 3 #[.int .i64 ((spB C N Z K Q i))], bx g9 3 #[.int .i64 ((spA C N Z K Q i))], bx g5 34 #[.int .i64 0], bx g4 25 #[.slice none 0 0]]) (fr := []) (by have q0 : c33 = io .i64 (.slice none 0 0) (frD C N Z K Q ((csF Xu ++ [ns]).take ([] : List Nat).length) i) := hc33.trans (rfl); have q1 : cb_30 = bx gb_30 29 #[cv, nv] := hcb_30; have q2 : c26 = bx g26 25 #[(.slice none 0 0)] := hc26; have q3 : c12 = bx g10 3 #[.int .i64 ((spB C N Z K Q i))] := hc12; have q4 : c11 = bx g9 3 #[.int .i64 ((spA C N Z K Q i))] := hc11; have q5 : c5 = bx g5 34 #[.int .i64 0] := hc5; have q6 : c4 = bx g4 25 #[.slice none 0 0] := hc4; subst q0 q1 q2 q3 q4 q5 q6; exact S33) ⟨(.slice none 0 0), rfl⟩)
  (fun pre W l' hS => by obtain ⟨l, ⟨bv, rfl⟩, hl⟩ := pk_at (hS.ch 0 rfl); exact ⟨(hl 1 _ rfl), hS.ro k_cv, hS.ro n_cv, hS.ro h_nv⟩)
  (fun x a' cQ => ∃ g36 : Nat, SzN a' 48 ∧ a'.defers = [] ∧ EV a' (.tmp 6) = EV A31 (.tmp 6) ∧ EV a' (.tmp 7) = EV A31 (.tmp 7) ∧ EV a' (.tmp 8) = EV A31 (.tmp 8) ∧ EV a' (.tmp 9) = EV A31 (.tmp 9) ∧ EV a' (.tmp 11) = EV A31 (.tmp 11) ∧ EV a' (.tmp 13) = .pointer (some ⟨g36, 0, none⟩) ∧ cQ = pk (·= [bx g36 27 #[(aS Xu nv ns x).1]])) ?_ ?_ ?_ ?_
 ·intro la34 pre x wa34 fr K hSa34 hK
  simp only [encA]
  rw [rnd2]
  obtain ⟨A35, E35⟩ : ∃ A, A = (PT (PT { tmps := A31.tmps, defers := [] } 29 (.int .i64 (aI Xu x))) 30 (.agg #[(aS Xu nv ns x).1])) := ⟨_, rfl⟩
  rw [← E35]
  have hsz35 := szq E35
  have hdf35 : A35.defers = [] := by rw [E35]; rfl
  have l6_35 := lookE E35 6 (es2 rfl (rnd_l (fg8 F31)))
  have l7_35 := lookE E35 7 (es2 rfl (rnd_l (fg7 F31)))
  have l8_35 := lookE E35 8 (es2 rfl (rnd_l (fg5 F31)))
  have l9_35 := lookE E35 9 (es2 rfl (rnd_l (fg4 F31)))
  have l11_35 := lookE E35 11 (es2 rfl (rnd_l (fg1 F31)))
  have l29_35 := lookE E35 29 (es rfl (et rfl))
  have l30_35 := lookE E35 30 (et rfl)
  clear E35
  obtain ⟨cI, hcI, hSa34⟩ := gen1 hSa34
  refine R_region (by kernel_rfl) ?_
  refine W_allocS (z := .agg #[.slice none 0 0]) (zs := #[.slice none 0 0]) hSa34 rfl rfl rfl (by kernel_rfl) (by rfl) (fun g36 w36 c36 hc36 S36 => ?_)
  replace S36 : St w NoX (c36 :: cI :: fr) w36 := S36
  refine W_stAS 0 S36 rfl hc36 rfl rfl rfl (et rfl) (es rfl l30_35) (by simp only [List.all_toArray, List.all_cons, List.all_nil, SlN_one (sl_SlN (f_al x).at)] <;> rfl) (by rfl) (by kernel_rfl) (fun w37 c37 hc37 S37 => ?_)
  replace S37 : St w NoX (c37 :: cI :: fr) w37 := S37
  refine W_end ?_
  refine Qo_normal ?_
  refine gen_Q (fun A38 E38 => ?_)
  have hsz38 := szq E38
  have F38 := (((((fsE E38 (ck (FS.n hdf35) rfl rfl)).c (lookE E38 6 (es rfl l6_35))).c (lookE E38 7 (es rfl l7_35))).c (lookE E38 8 (es rfl l8_35))).c (lookE E38 9 (es rfl l9_35))).c (lookE E38 11 (es rfl l11_35))
  clear E38 hsz35 hdf35 l6_35 l7_35 l8_35 l9_35 l11_35 l29_35 l30_35
  refine then_n ?_
  refine hK _ _ _ ⟨g36, hsz38, F38.d, ((fg4 F38).trans (fg8 F31).symm), ((fg3 F38).trans (fg7 F31).symm), ((fg2 F38).trans (fg5 F31).symm), ((fg1 F38).trans (fg4 F31).symm), ((fg0 F38).trans (fg1 F31).symm), (fg5 F38), rfl⟩ ?_
  subst hc37 hcI; exact S37.asg1
 ·rintro lb39 pre x A39 w39 cQ fr hAx hlr S39 hVd
  obtain ⟨g36, hsz39, hdf39, u6_39, u7_39, u8_39, u9_39, u11_39, l13_39, rfl⟩ := hAx
  have l6_39 := u6_39.trans (fg8 F31)
  have l7_39 := u7_39.trans (fg7 F31)
  have l8_39 := u8_39.trans (fg5 F31)
  have l9_39 := u9_39.trans (fg4 F31)
  have l11_39 := u11_39.trans (fg1 F31)
  obtain ⟨_, _, ⟨bv, rfl⟩, rfl, S39⟩ := S39.body2
  replace S39 : St w NoX ((io .i64 bv (frD C N Z K Q ((csF Xu ++ [ns]).take pre.length) i)) :: (bx gb_30 29 #[cv, nv]) :: (bx g26 25 #[bv]) :: (bx g10 3 #[.int .i64 ((spB C N Z K Q i))]) :: (bx g9 3 #[.int .i64 ((spA C N Z K Q i))]) :: (bx g5 34 #[.int .i64 0]) :: (bx g4 25 #[.slice none 0 0]) :: (bx g36 27 #[(aS Xu nv ns x).1]) :: fr) w39 := S39
  obtain ⟨c33_40, cb_40, c26_40, c12_40, c11_40, c5_40, c4_40, c37_40, hc33_40, hcb_40, hc26_40, hc12_40, hc11_40, hc5_40, hc4_40, hc37_40, S39⟩ := gen8 S39
  obtain ⟨hxl, hpre⟩ := rng_vd hVd
  have bf_x := SlN.le (sl_SlN (f_al x).at)
  have hcx : (csF Xu ++ [ns]).length = Xu.length + 1 := by simp [csF_len]
  have hck := ck_all (nv := nv) hk0 x hxl
  have hfl := frD_len (C := C) (N := N) (Z := Z) (K := K) (Q := Q) (i := i) (csF Xu ++ [ns])
  have hfp := frD_pre (C := C) (N := N) (Z := Z) (K := K) (Q := Q) (i := i) hpre (L := csF Xu ++ [ns])
  have hrl := rgT_len (aS Xu nv ns x).2 (spA C N Z K Q i) (spB C N Z K Q i)
  refine R_block ?_
  refine R_seq (fun K41 H41 => ?_)
  refine R_region (by kernel_rfl) ?_
  refine W_r rfl rfl (VR_ldA rfl l13_39 (S39.obj 7 rfl hc37_40) Try.underlying27 rfl (by kernel_rfl)) ?_
  refine W_r rfl rfl (VR_ldC rfl (es rfl l8_39) (cell_box (v := .int .i64 ((spA C N Z K Q i))) (S39.obj 4 rfl hc11_40) rfl) Try.underlying3 rfl) ?_
  refine W_r rfl rfl (VR_ldC rfl (es2 rfl l9_39) (cell_box (v := .int .i64 ((spB C N Z K Q i))) (S39.obj 3 rfl hc12_40) rfl) Try.underlying3 rfl) ?_
  refine W_call rfl rfl rfl Try.func46 (by kernel_rfl) rfl (args3 (es2 rfl (et rfl)) (es rfl (et rfl)) (et rfl)) (kRange_c (f := (spA C N Z K Q i)) (t := (spB C N Z K Q i)) (S39.roC (f_al x)) ) ?_
  rintro _ w42 ⟨v_42, rfl, hP42⟩
  refine ⟨_, rfl, ?_⟩
  obtain ⟨c_42, hc_42, hP42⟩ := gen1 hP42
  have S42 := S39.join hP42
  replace S42 : St w NoX (c_42 :: c33_40 :: cb_40 :: c26_40 :: c12_40 :: c11_40 :: c5_40 :: c4_40 :: c37_40 :: fr) w42 := S42
  refine W_v rfl rfl (V_mov rfl (et rfl)) ?_
  refine W_v rfl rfl (V_ext (v := v_42) rfl (et rfl) rfl) ?_
  refine W_v rfl rfl (V_ext (v := .int .i64 ((ckS ((aS Xu nv ns x).2)).2)) rfl (es rfl (et rfl)) rfl) ?_
  refine W_v rfl rfl (V_asg rfl (es rfl (et rfl))) ?_
  refine W_v rfl rfl (V_asg rfl (es rfl (et rfl))) ?_
  refine W_end ?_
  refine Qo_normal ?_
  refine gen_Q (fun A43 E43 => ?_)
  have hsz43 := szq E43
  have F43 := (((fsE E43 (ck (ck (cq7 (FS.n hdf39) rfl) rfl rfl) rfl rfl)).c (lookE E43 6 (es8 rfl (es rfl l6_39)))).c (lookE E43 7 (es8 rfl (es rfl l7_39)))).c (lookE E43 11 (es8 rfl (es rfl l11_39)))
  clear E43 hsz39 hdf39 l6_39 l7_39 l8_39 l9_39 l11_39 l13_39
  have S45 := S42.del 8
  replace S45 : St w NoX (c_42 :: c33_40 :: cb_40 :: c26_40 :: c12_40 :: c11_40 :: c5_40 :: c4_40 :: fr) w42 := S45
  refine tk H41 ?_
  refine R_seq (fun K46 H46 => ?_)
  refine R_seq (fun K47 H47 => ?_)
  refine R_region (by kernel_rfl) ?_
  refine W_v rfl rfl (V_mov rfl (fg3 F43)) ?_
  refine W_v rfl rfl (V_neq rfl (et rfl) rfl) ?_
  refine W_end ?_
  refine Qo_normal ?_
  refine gen_Q (fun A48 E48 => ?_)
  have hsz48 := szq E48
  have F48 := fsE E48 (ck (cq1 F43 rfl) rfl rfl)
  clear E48 hsz43 F43
  refine tk H47 ?_
  refine R_cond_not (fg0 F48) (by rw [decide_eq_false_iff_not, hck]; simp) ?_
  refine R_skip ?_
  refine tk H46 ?_
  refine R_region (by kernel_rfl) ?_
  refine W_r rfl rfl (VR_ldC rfl (fg1 F48) (cell_box (v := bv) (S45.obj 3 rfl hc26_40) rfl) Try.underlying25 rfl) ?_
  refine W_v rfl rfl (V_mov rfl (es rfl (fg5 F48))) ?_
  refine W_appS 1 1 S45 rfl hc33_40 rfl rfl rfl (es rfl (et rfl)) (et rfl) Try.underlying25 Try.underlying25 (z := .int .i64 0) (bytes := 8) (by kernel_rfl) rfl (by decide) (ow_at (S45.chq 0 rfl hc_42)) ones_i (by first | omega | (simp; done) | (simp; omega)) (by first | omega | (simp; done) | (simp; omega)) (fun v49 w49 c49 hc49 S49 => ?_)
  replace hc49 : c49 = io .i64 v49 ((frD C N Z K Q ((csF Xu ++ [ns]).take pre.length) i) ++ (rgT ((aS Xu nv ns x).2) (spA C N Z K Q i) (spB C N Z K Q i))) := hc49.trans (app_eq (by first | (simp; done) | (rw [List.take_of_length_le (l := List.drop _ _) (by rw [List.length_drop]; exact Nat.le_refl _)])))
  replace S49 : St w NoX (c_42 :: c49 :: cb_40 :: c26_40 :: c12_40 :: c11_40 :: c5_40 :: c4_40 :: fr) w49 := S49
  refine W_stCS (zs' := #[v49]) 3 S49 rfl hc26_40 rfl rfl rfl (es3 rfl (fg1 F48)) (et rfl) (SlN_one (ow_at (S49.chq 1 rfl hc49))) (by rfl) (by kernel_rfl) (by first | rfl | (simp only [List.setIfInBounds_toArray, List.set_cons_succ, List.set_cons_zero] <;> rfl)) (fun w50 c50 hc50 S50 => ?_)
  replace S50 : St w NoX (c_42 :: c49 :: cb_40 :: c50 :: c12_40 :: c11_40 :: c5_40 :: c4_40 :: fr) w50 := S50
  refine W_end ?_
  refine Qo_normal ?_
  refine gen_Q (fun A51 E51 => ?_)
  have hsz51 := szq E51
  have F51 := fsE E51 (cq3 F48 rfl)
  clear E51 hsz48 F48
  have S53 := S50.del 0
  replace S53 : St w NoX (c49 :: cb_40 :: c50 :: c12_40 :: c11_40 :: c5_40 :: c4_40 :: fr) w50 := S53
  refine inb_n ?_
  exact (St.pack (l := [io .i64 v49 (frD C N Z K Q ((csF Xu ++ [ns]).take (pre ++ [x]).length) i), bx gb_30 29 #[cv, nv], bx g26 25 #[v49], bx g10 3 #[.int .i64 ((spB C N Z K Q i))], bx g9 3 #[.int .i64 ((spA C N Z K Q i))], bx g5 34 #[.int .i64 0], bx g4 25 #[.slice none 0 0]]) (fr := fr) (by have q0 : c49 = io .i64 v49 (frD C N Z K Q ((csF Xu ++ [ns]).take (pre ++ [x]).length) i) := hc49.trans ((congrArg (io .i64 _) (frD_snoc hpre (al_aS (nv := nv) hxl)))); have q1 : cb_40 = bx gb_30 29 #[cv, nv] := hcb_40; have q2 : c50 = bx g26 25 #[v49] := hc50; have q3 : c12_40 = bx g10 3 #[.int .i64 ((spB C N Z K Q i))] := hc12_40; have q4 : c11_40 = bx g9 3 #[.int .i64 ((spA C N Z K Q i))] := hc11_40; have q5 : c5_40 = bx g5 34 #[.int .i64 0] := hc5_40; have q6 : c4_40 = bx g4 25 #[.slice none 0 0] := hc4_40; subst q0 q1 q2 q3 q4 q5 q6; exact S53) (⟨v49, rfl⟩))
 ·intro D54 xs w54 hxs S54
  have hxs' : xs = (List.range (Xu.length + 1)) := hxs; subst hxs'; clear hxs
  obtain ⟨_, ⟨bv, rfl⟩, S54⟩ := S54.unpack
  replace S54 : St w NoX ((io .i64 bv (frD C N Z K Q ((csF Xu ++ [ns]).take (List.range (Xu.length + 1)).length) i)) :: (bx gb_30 29 #[cv, nv]) :: (bx g26 25 #[bv]) :: (bx g10 3 #[.int .i64 ((spB C N Z K Q i))]) :: (bx g9 3 #[.int .i64 ((spA C N Z K Q i))]) :: (bx g5 34 #[.int .i64 0]) :: (bx g4 25 #[.slice none 0 0]) :: (ob D54 (.deferred (some []))) :: []) w54 := S54
  obtain ⟨c33_54, cb_54, c26_54, c12_54, c11_54, c5_54, c4_54, cD54, hc33_54, hcb_54, hc26_54, hc12_54, hc11_54, hc5_54, hc4_54, hcD54, S54⟩ := gen8 S54
  have hrn : (List.range (Xu.length + 1)).length = Xu.length + 1 := List.length_range
  have hcx : (csF Xu ++ [ns]).length = Xu.length + 1 := by simp [csF_len]
  have hfe := frD_len (C := C) (N := N) (Z := Z) (K := K) (Q := Q) (i := i) ((csF Xu ++ [ns]).take (List.range (Xu.length + 1)).length)
  have hfe2 := List.length_take_le (List.range (Xu.length + 1)).length (csF Xu ++ [ns])
  have hse := sortL_len (frD C N Z K Q ((csF Xu ++ [ns]).take (List.range (Xu.length + 1)).length) i)
  refine gen_Q (fun A54 E54 => ?_)
  have hsz54 := szq E54
  have hdf54 : A54.defers = [{ target := .collected D54, args := #[] }] := by rw [E54, df_mk, F31.d] <;> rfl
  have l6_54 := lookE E54 6 (mk_l (fg8 F31))
  have l7_54 := lookE E54 7 (mk_l (fg7 F31))
  have l11_54 := lookE E54 11 (mk_l (fg1 F31))
  clear E54
  refine inb_n ?_
  refine tk H28 ?_
  refine R_seq (fun K55 H55 => ?_)
  refine R_region (by kernel_rfl) ?_
  refine W_r rfl rfl (VR_ldC rfl l11_54 (cell_box (v := bv) (S54.obj 2 rfl hc26_54) rfl) Try.underlying25 rfl) ?_
  obtain ⟨Y56, hP56, hR56, hF56, hB56⟩ := St.call (pre := [c33_54]) (fr := [cb_54, c26_54, c12_54, c11_54, c5_54, c4_54, cD54]) S54
  rw [hc33_54] at hP56
  refine W_call rfl rfl rfl Try.func47 (by kernel_rfl) rfl (args1 (et rfl)) ((sort_St4 (us := sortL (frD C N Z K Q ((csF Xu ++ [ns]).take (List.range (Xu.length + 1)).length) i)) hP56 (sortL_len (frD C N Z K Q ((csF Xu ++ [ns]).take (List.range (Xu.length + 1)).length) i)) (fun g off cap hH hg => Try.slices_Sort_int g off cap (frD C N Z K Q ((csF Xu ++ [ns]).take (List.range (Xu.length + 1)).length) i) _ hH hg (by omega)) (fun p cap w => Try.slices_Sort_int_none p cap w))) ?_
  rintro _ w57 ⟨rfl, hP57⟩
  refine ⟨_, rfl, ?_⟩
  obtain ⟨c_57, hc_57, hP57⟩ := gen1 hP57
  have S57 := hB56 _ _ hP57
  replace S57 : St w NoX [c_57, cb_54, c26_54, c12_54, c11_54, c5_54, c4_54, cD54] w57 := S57
  refine W_end ?_
  refine Qo_normal ?_
  refine gen_Q (fun A58 E58 => ?_)
  have hsz58 := szq E58
  have F58 := (((fsE E58 (cq2 (FS.n hdf54) rfl)).c (lookE E58 6 (es2 rfl l6_54))).c (lookE E58 7 (es2 rfl l7_54))).c (lookE E58 11 (es2 rfl l11_54))
  clear E58 hsz54 hdf54 l6_54 l7_54 l11_54
  have S59 : St w NoX [c_57, c26_54, c5_54, c4_54, cD54] w57 := S57.sel [0, 2, 5, 6, 7] (by decide) rfl
  refine tk H55 ?_
  refine R_seq (fun K60 H60 => ?_)
  refine R_region (by kernel_rfl) ?_
  refine W_r rfl rfl (VR_ldC rfl (fg0 F58) (cell_box (v := bv) (S59.obj 1 rfl hc26_54) rfl) Try.underlying25 rfl) ?_
  obtain ⟨Y61, hP61, hR61, hF61, hB61⟩ := St.call (pre := [c_57]) (fr := [c26_54, c5_54, c4_54, cD54]) S59
  rw [hc_57] at hP61
  refine W_call rfl rfl rfl Try.func48 (by kernel_rfl) rfl (args1 (et rfl)) ((compact_St4 (us := Lib.compact (sortL (frD C N Z K Q ((csF Xu ++ [ns]).take (List.range (Xu.length + 1)).length) i))) hP61 (cmp_len (sortL (frD C N Z K Q ((csF Xu ++ [ns]).take (List.range (Xu.length + 1)).length) i))) (fun g off cap hH hc => Try.slices_Compact_int g off cap (sortL (frD C N Z K Q ((csF Xu ++ [ns]).take (List.range (Xu.length + 1)).length) i)) _ hH (by omega) hc) (fun p cap w => Try.slices_Compact_int_empty p cap w))) ?_
  rintro _ w62 ⟨v_62, rfl, hP62⟩
  refine ⟨_, rfl, ?_⟩
  obtain ⟨c_62, hc_62, hP62⟩ := gen1 hP62
  have S62 := hB61 _ _ hP62
  replace S62 : St w NoX [c_62, c26_54, c5_54, c4_54, cD54] w62 := S62
  refine W_stCS (zs' := #[v_62]) 3 S62 rfl hc4_54 rfl rfl rfl (es2 rfl (fg2 F58)) (et rfl) (SlN_one (ow_at (S62.chq 0 rfl hc_62))) (by rfl) (by kernel_rfl) (by first | rfl | (simp only [List.setIfInBounds_toArray, List.set_cons_succ, List.set_cons_zero] <;> rfl)) (fun w63 c63 hc63 S63 => ?_)
  replace S63 : St w NoX [c_62, c26_54, c5_54, c63, cD54] w63 := S63
  refine W_stCS (zs' := #[.int .i64 0]) 2 S63 rfl hc5_54 rfl rfl rfl (es2 rfl (fg1 F58)) rfl (by rfl) (by rfl) (by kernel_rfl) (by first | rfl | (simp only [List.setIfInBounds_toArray, List.set_cons_succ, List.set_cons_zero] <;> rfl)) (fun w64 c64 hc64 S64 => ?_)
  replace S64 : St w NoX [c_62, c26_54, c64, c63, cD54] w64 := S64
  refine W_end ?_
  refine Qo_normal ?_
  refine gen_Q (fun A65 E65 => ?_)
  have hsz65 := szq E65
  have F65 := fsE E65 (cq2 F58 rfl)
  clear E65 hsz58 F58
  have S66 : St w NoX [c_62, c64, c63, cD54] w64 := S64.sel [0, 2, 3, 4] (by decide) rfl
  refine tk H60 ?_
  refine R_ret ?_
  have hD67 := S66.obj 3 rfl hcD54
  have S67 := S66.put (o' := .deferred none) 3 rfl hcD54
  obtain ⟨w67, hw67⟩ : ∃ w', w' = w64.putObj D54 (.deferred none) := ⟨_, rfl⟩
  rw [← hw67] at S67
  replace S67 : St w NoX [c_62, c64, c63, (ob D54 (.deferred none))] w67 := S67
  refine ret_inR1' (D := D54) (w1 := w67) hw67 (results_2 Try.results13 (rv_cellC (fg2 F65) (cell_box (S67.obj 2 rfl hc63) rfl) Try.underlying25 rfl) (rv_cellC (fg1 F65) (cell_box (S67.obj 1 rfl hc64) rfl) Try.underlying34 rfl)) F65.d hD67 ?_
  rw [he]
  exact ⟨_, rfl, (S67.fin1 0 rfl (hc_62.trans (congrArg (io .i64 _) (by rw [frT_ok he, cmp_tg frD_rng, List.take_of_length_le (by simp [csF_len])]))))⟩
 intro D68 cQ pre w68 hpre S68
 obtain ⟨_, h, _⟩ := S68.unpack; exact h.elim

end Go.Proofs.Yteppjefmlibmoaa