import Derived.Test.YteppjefmlibmoaaGreatProg
import Derived.Test.YteppjefmlibmoaaGreatRm5
import Derived.Test.YteppjefmlibmoaaGreatPl8f
import Derived.Test.YteppjefmlibmoaaGreatSep8c
import Derived.Test.YteppjefmlibmoaaGreatSl6
namespace Go.Proofs.YteppjefmlibmoaaGreat
open Go.RowKit Go.Own Go.Own.R Go.Own.S Go.Own.E


set_option maxHeartbeats 4000000 in
theorem ksg8_c {C : Int} {N : Int} {Z : Int} {K : Int} {Q : Int} {cv : Value} {X : List (List Int)} {nv : Value} {ns : List Int} {i : Int} {w : World} (h_cv : Ro w NoX (rmR cv X)) (h_nv : Ro w NoX (il .i64 nv ns))  :
  Calls Tryz.prog 25 #[.agg #[.int .i64 C, .int .i64 N, .int .i64 Z, .int .i64 K, .int .i64 Q], .agg #[cv, nv], .int .i64 i] w fun e w' => e = .returned (.tuple #[.int .i64 (sgA C N Z K Q X ns i), .int .i64 (sgB C N Z K Q X ns i), .int .i64 (frE C N Z K Q X ns i)]) ∧ St w NoX [] w' := by
 refine calls_in 34 Tryz.func25 rfl rfl (by simp) (fun A0 Y0 hdf0 hargs => ?_)
 have l0_0 := hargs 0 (.agg #[.int .i64 C, .int .i64 N, .int .i64 Z, .int .i64 K, .int .i64 Q]) rfl
 have l1_0 := hargs 1 (.agg #[cv, nv]) rfl
 have l2_0 := hargs 2 (.int .i64 i) rfl
 clear hargs; replace Y0 : SzN A0 34 := ⟨Y0⟩
 have hS := St.nil w
 have bh_nv := SlN.le (sl_SlN h_nv.at)
 refine wp_seq_k fun K1 H1 => ?_
 refine region_in ?_
 refine W_boxS (zs := #[.int .i64 (C), .int .i64 (N), .int .i64 (Z), .int .i64 (K), .int .i64 (Q)]) hS rfl rfl rfl l0_0 (by rfl) (fun g2 w2 c2 hc2 S2 => ?_)
 replace S2 : St w NoX [c2] w2 := S2
 refine W_boxS (zs := #[cv, nv]) S2 rfl rfl rfl (es rfl l1_0) (by rfl) (fun g3 w3 c3 hc3 S3 => ?_)
 replace S3 : St w NoX [c3, c2] w3 := S3
 refine W_v rfl rfl (V_asg rfl rfl) ?_
 refine W_v rfl rfl (V_asg rfl rfl) ?_
 refine W_v rfl rfl (V_asg rfl rfl) ?_
 refine W_end (gen_Q fun A4 E4 => ?_)
 have Y4 := szq E4
 have F4 := (fsE E4 (cq3 (ck (ck (FS.n hdf0) rfl rfl) rfl rfl) rfl)).c (lookE E4 2 (es5 rfl l2_0))
 clear E4 Y0 hdf0 l0_0 l1_0 l2_0
 refine tk H1 ?_
 refine wp_seq_k fun K5 H5 => ?_
 refine wp_seq_k fun K6 H6 => ?_
 refine region_in ?_
 refine W_r rfl rfl (VR_ldA rfl (fg2 F4) (S3.obj 1 rfl hc2) Tryz.underlying23 rfl (by kernel_rfl)) ?_
 refine W_r rfl rfl (VR_ldA rfl (es rfl (fg1 F4)) (S3.obj 0 rfl hc3) Tryz.underlying29 rfl (by kernel_rfl)) ?_
 refine W_call rfl rfl rfl Tryz.func47 (by kernel_rfl) rfl (args2 (es rfl (et rfl)) (et rfl)) (kCk8_c (C := C) (N := N) (Z := Z) (K := K) (Q := Q) (S3.roC h_cv) (S3.roC h_nv) ) ?_
 rintro _ w7 ⟨rfl, hP7⟩
 refine ⟨_, rfl, ?_⟩
 have S7 := S3.join hP7
 replace S7 : St w NoX [c3, c2] w7 := S7
 refine W_v rfl rfl (V_mov rfl (et rfl)) ?_
 refine W_v rfl rfl (V_ext (v := .int .i64 ((rmP C N Z K Q X ns).1)) rfl (et rfl) rfl) ?_
 refine W_v rfl rfl (V_ext (v := .int .i64 ((rmP C N Z K Q X ns).2)) rfl (es rfl (et rfl)) rfl) ?_
 refine W_v rfl rfl (V_asg rfl (es rfl (et rfl))) ?_
 refine W_v rfl rfl (V_asg rfl (es rfl (et rfl))) ?_
 refine W_end (gen_Q fun A8 E8 => ?_)
 have Y8 := szq E8
 have F8 := fsE E8 (ck (cq7 F4 rfl) rfl rfl)
 clear E8 Y4 F4
 have S9 : St w NoX [c2] w7 := S7.sel [1] (by decide) rfl
 refine tk H6 ?_
 refine wp_seq_k fun K10 H10 => ?_
 refine region_in ?_
 refine W_v rfl rfl (V_mov rfl (fg0 F8)) ?_
 refine W_v rfl rfl (V_neq rfl (et rfl) rfl) ?_
 refine W_end (gen_Q fun A11 E11 => ?_)
 have Y11 := szq E11
 have F11 := fsE E11 (ck (cq1 F8 rfl) rfl rfl)
 clear E11 Y8 F8
 refine tk H10 ?_
 refine cond_dec (fg0 F11) (fun c12 => ?_) (fun c12 => ?_)
 ·refine wp_seq_k fun K13 H13 => ?_
  refine region_in ?_
  refine W_v rfl rfl (V_mov rfl (fg1 F11)) ?_
  refine W_v rfl rfl (V_asg rfl rfl) ?_
  refine W_v rfl rfl (V_asg rfl rfl) ?_
  refine W_v rfl rfl (V_asg rfl (es2 rfl (et rfl))) ?_
  refine W_end (gen_Q fun A14 E14 => ?_)
  have Y14 := szq E14
  have F14 := fsE E14 (ck (ck (ck (cq1 F11 rfl) rfl rfl) rfl rfl) rfl rfl)
  clear E14 Y11 F11
  have S15 : St w NoX [] w7 := S9.sel [] (by decide) rfl
  refine tk H13 ?_
  refine wp_ret ?_
  refine then_ret ?_
  refine ret_in (results_3 Tryz.results25 (rv_tmp (fg2 F14)) (rv_tmp (fg1 F14)) (rv_tmp (fg0 F14))) F14.d ?_
  have he : frE C N Z K Q X ns i = (rmP C N Z K Q X ns).2 := fr_e1 (by omega)
  have hb := sg_bad (show frE C N Z K Q X ns i ≠ 0 by omega)
  rw [hb.1, hb.2, he]
  exact ⟨rfl, S15.fin0⟩
 refine wp_skip ?_
 refine tk H5 ?_
 refine wp_seq_k fun K16 H16 => ?_
 refine wp_seq_k fun K17 H17 => ?_
 refine region_in ?_
 refine W_v rfl rfl (V_mov rfl (fg2 F11)) ?_
 refine W_v rfl rfl (V_lss rfl (et rfl) rfl) ?_
 refine W_split rfl rfl (V_mov rfl (et rfl)) (fun c18 => ?_) (fun c18 => ?_)
 ·refine W_off rfl (wanted_f rfl rfl (et rfl) (ez rfl) rfl) ?_
  refine W_off rfl (wanted_f rfl rfl (es rfl (et rfl)) (ez rfl) rfl) ?_
  refine W_off rfl (wanted_f rfl rfl (es2 rfl (et rfl)) (ez rfl) rfl) ?_
  refine W_off rfl (wanted_f rfl rfl (es3 rfl (et rfl)) (ez rfl) rfl) ?_
  refine W_v rfl rfl (V_pickT rfl (es4 rfl (et rfl)) rfl) ?_
  refine W_end (gen_Q fun A19 E19 => ?_)
  have Y19 := szq E19
  have F19 := fsE E19 (ck (cq7 F11 rfl) rfl rfl)
  clear E19 Y11 F11
  refine tk H17 ?_
  refine cond_t (fg0 F19) ?_
  refine wp_seq_k fun K20 H20 => ?_
  refine region_in ?_
  refine W_v rfl rfl (V_asg rfl rfl) ?_
  refine W_v rfl rfl (V_asg rfl rfl) ?_
  refine W_v rfl rfl (V_asg rfl rfl) ?_
  refine W_end (gen_Q fun A21 E21 => ?_)
  have Y21 := szq E21
  have F21 := fsE E21 (ck (ck (ck F19 rfl rfl) rfl rfl) rfl rfl)
  clear E21 Y19 F19
  have S22 : St w NoX [] w7 := S9.sel [] (by decide) rfl
  refine tk H20 ?_
  refine wp_ret ?_
  refine then_ret ?_
  refine ret_in (results_3 Tryz.results25 (rv_tmp (fg2 F21)) (rv_tmp (fg1 F21)) (rv_tmp (fg0 F21))) F21.d ?_
  have he : frE C N Z K Q X ns i = 7 := fr_e2 (by omega) (by omega)
  have hb := sg_bad (show frE C N Z K Q X ns i ≠ 0 by omega)
  rw [hb.1, hb.2, he]
  exact ⟨rfl, S22.fin0⟩
 refine W_v rfl (wanted_t rfl rfl (et rfl) (ez rfl)) (V_mov rfl (es3 rfl (fg2 F11))) ?_
 refine W_v rfl (wanted_t rfl rfl (es rfl (et rfl)) (ez rfl)) (V_fa (off' := 1) rfl (es4 rfl (fg4 F11)) Tryz.underlying23 rfl (by decide +kernel) rfl) ?_
 refine W_r rfl (wanted_t rfl rfl (es2 rfl (et rfl)) (ez rfl)) (VR_ldC rfl (et rfl) (cell_box (v := .int .i64 (N)) (S9.obj 0 rfl hc2) rfl) Tryz.underlying3 rfl) ?_
 refine W_v rfl (wanted_t rfl rfl (es3 rfl (et rfl)) (ez rfl)) (V_geq rfl (es2 rfl (et rfl)) (et rfl)) ?_
 refine W_v rfl rfl (V_pickF rfl (es4 rfl (et rfl)) (et rfl)) ?_
 refine W_end (gen_Q fun A23 E23 => ?_)
 have Y23 := szq E23
 have F23 := fsE E23 (ck (cq7 F11 rfl) rfl rfl)
 clear E23 Y11 F11
 refine tk H17 ?_
 refine cond_dec (fg0 F23) (fun c24 => ?_) (fun c24 => ?_)
 ·refine wp_seq_k fun K25 H25 => ?_
  refine region_in ?_
  refine W_v rfl rfl (V_asg rfl rfl) ?_
  refine W_v rfl rfl (V_asg rfl rfl) ?_
  refine W_v rfl rfl (V_asg rfl rfl) ?_
  refine W_end (gen_Q fun A26 E26 => ?_)
  have Y26 := szq E26
  have F26 := fsE E26 (ck (ck (ck F23 rfl rfl) rfl rfl) rfl rfl)
  clear E26 Y23 F23
  have S27 : St w NoX [] w7 := S9.sel [] (by decide) rfl
  refine tk H25 ?_
  refine wp_ret ?_
  refine then_ret ?_
  refine ret_in (results_3 Tryz.results25 (rv_tmp (fg2 F26)) (rv_tmp (fg1 F26)) (rv_tmp (fg0 F26))) F26.d ?_
  have he : frE C N Z K Q X ns i = 7 := fr_e2 (by omega) (by omega)
  have hb := sg_bad (show frE C N Z K Q X ns i ≠ 0 by omega)
  rw [hb.1, hb.2, he]
  exact ⟨rfl, S27.fin0⟩
 refine wp_skip ?_
 refine tk H16 ?_
 refine wp_seq_k fun K28 H28 => ?_
 refine region_in ?_
 refine W_r rfl rfl (VR_ldA rfl (fg5 F23) (S9.obj 0 rfl hc2) Tryz.underlying23 rfl (by kernel_rfl)) ?_
 refine W_v rfl rfl (V_mov rfl (es rfl (fg3 F23))) ?_
 refine W_call rfl rfl rfl Tryz.func48 (by kernel_rfl) rfl (args2 (es rfl (et rfl)) (et rfl)) (ksp_c (C := C) (N := N) (Z := Z) (K := K) (Q := Q) (i := i)  ) ?_
 rintro _ w29 ⟨rfl, hP29⟩
 refine ⟨_, rfl, ?_⟩
 have S29 := S9.join hP29
 replace S29 : St w NoX [c2] w29 := S29
 refine W_v rfl rfl (V_ext (v := .int .i64 ((spA C N Z K Q i))) rfl (et rfl) rfl) ?_
 refine W_v rfl rfl (V_ext (v := .int .i64 ((spB C N Z K Q i))) rfl (es rfl (et rfl)) rfl) ?_
 refine W_v rfl rfl (V_ext (v := .int .i64 ((spE C N Z K Q i))) rfl (es2 rfl (et rfl)) rfl) ?_
 refine W_v rfl rfl (V_asg rfl (es2 rfl (et rfl))) ?_
 refine W_v rfl rfl (V_asg rfl (es2 rfl (et rfl))) ?_
 refine W_v rfl rfl (V_asg rfl (es2 rfl (et rfl))) ?_
 refine W_end (gen_Q fun A30 E30 => ?_)
 have Y30 := szq E30
 have F30 := fsE E30 (ck (ck (ck (cq6 F23 rfl) rfl rfl) rfl rfl) rfl rfl)
 clear E30 Y23 F23
 have S31 : St w NoX [] w29 := S29.sel [] (by decide) rfl
 refine tk H28 ?_
 refine wp_ret ?_
 refine ret_in (results_3 Tryz.results25 (rv_tmp (fg2 F30)) (rv_tmp (fg1 F30)) (rv_tmp (fg0 F30))) F30.d ?_
 have he : frE C N Z K Q X ns i = 0 := fr_e0 (by omega) (by omega)
 obtain ⟨s1, s2, s3, s4, s5⟩ := sg_ok he
 rw [s1, s2, he, ← s3]
 exact ⟨rfl, S31.fin0⟩

end Go.Proofs.YteppjefmlibmoaaGreat