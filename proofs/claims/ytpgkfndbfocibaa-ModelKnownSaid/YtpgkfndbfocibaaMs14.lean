import Derived.Test.YtpgkfndbfocibaaProg
import Derived.Test.YtpgkfndbfocibaaMs12
import Derived.Test.YtpgkfndbfocibaaPl29h
import Derived.Test.YtpgkfndbfocibaaGh9b
import Derived.Test.YtpgkfndbfocibaaPl15j
namespace Go.Proofs.Ytpgkfndbfocibaa
open Go.RowKit Go.Own Go.Own.R Go.Own.G Go.Own.Gr Go.Own.Ml


set_option maxHeartbeats 4000000 in
theorem kPl_c {C : Int} {N : Int} {Z : Int} {K : Int} {Q : Int} {lv : Value} {os : List OpC} {fv : Value} {full : List Int} {w : World} (h_lv : Ro w NoX (rl 7 opC lv os)) (h_fv : Ro w NoX (il .i64 fv full))  :
  Calls Try.prog 12 #[.agg #[.int .i64 C, .int .i64 N, .int .i64 Z, .int .i64 K, .int .i64 Q], lv, fv] w fun e w' => (e = .returned (.tuple #[.agg #[.slice none 0 0, .slice none 0 0], .slice none 0 0, .int .i64 (plF (cfE C N Z K Q) (lgN C N Z K Q) K os full).1, .int .i64 (plF (cfE C N Z K Q) (lgN C N Z K Q) K os full).2]) ∧ ((plF (cfE C N Z K Q) (lgN C N Z K Q) K os full).2 ≠ 0) ∧ St w NoX [] w') ∨ (∃ G av, e = .returned (.tuple #[.agg #[G.1.1, G.2.1], av, .int .i64 0, .int .i64 0]) ∧ ((plF (cfE C N Z K Q) (lgN C N Z K Q) K os full) = (0, 0)) ∧ (gab G = (plL (cfE C N Z K Q) (lgN C N Z K Q) K os full)) ∧ St w NoX [gls [G], ro 3 anC av (plA (cfE C N Z K Q) (lgN C N Z K Q) K os full)] w') := by
 refine calls_in 32 Try.func12 V V (by simp) (fun A0 Y0 hdf0 hargs => ?_)
 have l0_0 := hargs 0 (.agg #[.int .i64 C, .int .i64 N, .int .i64 Z, .int .i64 K, .int .i64 Q]) V
 have l1_0 := hargs 1 (lv) V
 have l2_0 := hargs 2 (fv) V
 clear hargs; replace Y0 : SzN A0 32 := ⟨Y0⟩
 have hS := St.nil w
 have bh_lv := SlN.le (sl_SlN h_lv.at)
 have bh_fv := SlN.le (sl_SlN h_fv.at)
 refine wp_seq_k fun K1 H1 => region_in ?_
 refine W_boxS (zs := #[.int .i64 (C), .int .i64 (N), .int .i64 (Z), .int .i64 (K), .int .i64 (Q)]) hS V V V l0_0 (by rfl) (fun g2 w2 c2 hc2 S2 => ?_)
 replace S2 : St w NoX [c2] w2 := S2
 refine W_allocS (z := .agg #[.slice none 0 0, .slice none 0 0]) (zs := #[.slice none 0 0, .slice none 0 0]) S2 V V V (by kernel_rfl) (by rfl) (fun g3 w3 c3 hc3 S3 => ?_)
 replace S3 : St w NoX [c3, c2] w3 := S3
 refine W_v V V (V_asg V V) (W_v V V (V_asg V V) (W_v V V (V_asg V V) ?_))
 refine W_end (gen_Q fun A4 E4 => ?_)
 have Y4 := szq E4
 have F4 := ((fsE E4 (cq3 (ck (ck (FS.n hdf0) V V) V V) V)).c (lookE E4 1 (es5 V l1_0))).c (lookE E4 2 (es5 V l2_0))
 clear E4 Y0 hdf0 l0_0 l1_0 l2_0
 refine tk H1 (wp_seq_k fun K5 H5 => region_in ?_)
 refine W_r V V (VR_ldA V (fg3 F4) (S3.obj 1 V hc2) Try.underlying23 V (by kernel_rfl)) ?_
 refine W_v V V (V_mov V (es V (fg1 F4))) (W_v V V (V_mov V (es2 V (fg0 F4))) ?_)
 refine W_call V V V Try.func23 (by kernel_rfl) V (args3 (es2 V (et V)) (es V (et V)) (et V)) (kpl_c (C := C) (N := N) (Z := Z) (K := K) (Q := Q) (S3.roC h_lv) (S3.roC h_fv) ) ?_
 rintro _ w6 (⟨rfl, hz_6, hP6⟩ | ⟨gv_6, Gs_6, av_6, rfl, hz_6, hg_6, hP6⟩)
 ·refine ⟨_, rfl, ?_⟩
  have S6 := S3.join hP6
  replace S6 : St w NoX [c3, c2] w6 := S6
  refine W_v V V (V_mov V (et V)) ?_
  refine W_v V V (V_ext (v := .slice none 0 0) V (et V) V) ?_
  refine W_v V V (V_ext (v := .slice none 0 0) V (es V (et V)) V) ?_
  refine W_v V V (V_ext (v := .int .i64 ((plF (cfE C N Z K Q) (lgN C N Z K Q) K os full).1)) V (es2 V (et V)) V) ?_
  refine W_v V V (V_ext (v := .int .i64 ((plF (cfE C N Z K Q) (lgN C N Z K Q) K os full).2)) V (es3 V (et V)) V) ?_
  refine W_v V V (V_asg V (es3 V (et V))) (W_v V V (V_asg V (es3 V (et V))) (W_v V V (V_asg V (es3 V (et V))) (W_v V V (V_asg V (es3 V (et V))) ?_)))
  refine W_end (gen_Q fun A7 E7 => ?_)
  have Y7 := szq E7
  have F7 := fsE E7 (ck (ck (ck (ck (cq1 (cq8 F4 V) V) V V) V V) V V) V V)
  clear E7 Y4 F4
  have S8 : St w NoX [c3] w6 := S6.sel [0] (by decide) V
  refine tk H5 (wp_seq_k fun K9 H9 => ?_)
  refine wp_seq_k fun K10 H10 => region_in ?_
  refine W_v V V (V_mov V (fg0 F7)) ?_
  refine W_v V V (V_neq V (et V) V) ?_
  refine W_end (gen_Q fun A11 E11 => ?_)
  have Y11 := szq E11
  have F11 := fsE E11 (ck (cq1 F7 V) V V)
  clear E11 Y7 F7
  refine tk H10 ?_
  refine cond_sure (fg0 F11) (by rw [decide_eq_true_eq]; exact hz_6) ?_
  refine wp_seq_k fun K12 H12 => region_in ?_
  refine W_v V V (xbS (n := 2) (z := .agg #[.slice none 0 0, .slice none 0 0]) V (parts0)) ?_
  refine W_v V V (V_mov V (es V (fg2 F11))) (W_v V V (V_mov V (es2 V (fg1 F11))) ?_)
  refine xsA 0 S8 V hc3 V V V (es3 V (fg7 F11)) (es2 V (et V)) (fun w13 c13 hc13 S13 => ?_)
  replace S13 : St w NoX [c13] w13 := S13
  refine W_v V V (V_asg V V) (W_v V V (V_asg V (es2 V (et V))) (W_v V V (V_asg V (es2 V (et V))) ?_))
  refine W_end (gen_Q fun A14 E14 => ?_)
  have Y14 := szq E14
  have F14 := fsE E14 (ck (ck (ck (cq3 (fx1 (fx1 (fx1 F11))) V) V V) V V) V V)
  clear E14 Y11 F11
  refine tk H12 (wp_ret (then_ret ?_))
  refine ret_in (results_4 Try.results12 (rv_cellA (fg7 F14) (S13.obj 0 V hc13) Try.underlying36 V (by kernel_rfl)) (rv_tmp (fg2 F14)) (rv_tmp (fg1 F14)) (rv_tmp (fg0 F14))) F14.d ?_
  exact .inl ⟨rfl, hz_6, S13.fin0⟩
 refine ⟨_, rfl, ?_⟩
 obtain ⟨cG_6, cK_6, cA_6, hcG_6, hcK_6, hcA_6, hP6⟩ := gen3 hP6
 have S6 := S3.join hP6
 replace S6 : St w NoX [cG_6, cK_6, cA_6, c3, c2] w6 := S6
 have hGl : Gs_6.length = os.length + 1 := by rw [mL hg_6, plG_len hz_6]
 have hol := pl_len hz_6
 refine W_v V V (V_mov V (et V)) ?_
 refine W_v V V (V_ext (v := gv_6) V (et V) V) ?_
 refine W_v V V (V_ext (v := av_6) V (es V (et V)) V) ?_
 refine W_v V V (V_ext (v := .int .i64 0) V (es2 V (et V)) V) ?_
 refine W_v V V (V_ext (v := .int .i64 0) V (es3 V (et V)) V) ?_
 refine W_v V V (V_asg V (es3 V (et V))) (W_v V V (V_asg V (es3 V (et V))) (W_v V V (V_asg V (es3 V (et V))) (W_v V V (V_asg V (es3 V (et V))) ?_)))
 refine W_end (gen_Q fun A15 E15 => ?_)
 have Y15 := szq E15
 have F15 := fsE E15 (ck (ck (ck (ck (cq1 (cq8 F4 V) V) V V) V V) V V) V V)
 clear E15 Y4 F4
 have S16 : St w NoX [cG_6, cK_6, cA_6, c3] w6 := S6.sel [0, 1, 2, 3] (by decide) V
 refine tk H5 (wp_seq_k fun K17 H17 => ?_)
 refine wp_seq_k fun K18 H18 => region_in ?_
 refine W_v V V (V_mov V (fg0 F15)) ?_
 refine W_v V V (V_neq V (et V) V) ?_
 refine W_end (gen_Q fun A19 E19 => ?_)
 have Y19 := szq E19
 have F19 := fsE E19 (ck (cq1 F15 V) V V)
 clear E19 Y15 F15
 refine tk H18 ?_
 refine cond_not (fg0 F19) (by decide) ?_
 refine wp_skip ?_
 refine tk H17 (wp_seq_k fun K20 H20 => region_in ?_)
 refine W_v V V (V_mov V (fg4 F19)) (W_v V V (V_mov V (es V (fg4 F19))) ?_)
 refine W_v V V (V_lenS V (et V) (ow_at (S16.chq 0 V hcG_6)) Try.underlying62) ?_
 refine W_v V V (V_sb V (et V) V (by omega) (by omega)) ?_
 have k21 : (Gs_6.length - 1) < Gs_6.length := by first | omega | (simp only [List.length_cons, List.length_nil]; omega) | (simp only [List.length_set]; omega) | decide
 obtain ⟨y21, hy21⟩ := get_some (xs := Gs_6) (k := (Gs_6.length - 1)) k21
 have hsm21 := plG_at hg_6 hy21
 obtain ⟨B21, O21, C21, hv21⟩ := (SlN.blk (ow_at (S16.chq 0 rfl hcG_6)) (by first | omega | (simp only [List.length_cons, List.length_nil]; omega) | (simp only [List.length_set]; omega) | decide))
 refine W_v V V (V_ixS (off := O21 + (Gs_6.length - 1) * 2) 2 ((Gs_6.length - 1)) V (es3 V (et V)) (et V) hv21 (by omega) k21 Try.underlying62 (by kernel_rfl) V) ?_
 refine W_r V V (VR_ldR (ys := grC y21) V (et V) (SlN.row grC_len (ow_at (S16.chq 0 V hcG_6)) hv21 hy21 V) Try.underlying36 V (by kernel_rfl)) ?_
 refine W_v V V (V_mov V (es6 V (fg3 F19))) ?_
 refine xsB 3 S16 V hc3 V V V (es7 V (fg7 F19)) (es V (et V)) (by simp only [List.all_toArray, List.all_cons, List.all_nil, grC, SlN_one (sl_SlN (gl_oa (List.mem_of_getElem? hy21) (S16.chq 1 V hcK_6))), SlN_one (sl_SlN (gl_ra (List.mem_of_getElem? hy21) (S16.chq 1 V hcK_6)))] <;> rfl) (fun w22 c22 hc22 S22 => ?_)
 replace S22 : St w NoX [cG_6, cK_6, cA_6, c22] w22 := S22
 refine W_v V V (V_asg V (et V)) (W_v V V (V_asg V V) (W_v V V (V_asg V V) ?_))
 refine W_end (gen_Q fun A23 E23 => ?_)
 have Y23 := szq E23
 have F23 := fsE E23 (ck (ck (ck (cq7 (fx1 (fx1 (fx1 F19))) V) V V) V V) V V)
 clear E23 Y19 F19
 have S24 : St w NoX [cK_6, cA_6, c22] w22 := S22.sel [1, 2, 3] (by decide) V
 refine tk H20 (wp_ret ?_)
 refine ret_in (results_4 Try.results12 (rv_cellA (fg7 F23) (S24.obj 2 V hc22) Try.underlying36 V (by kernel_rfl)) (rv_tmp (fg2 F23)) (rv_tmp (fg1 F23)) (rv_tmp (fg0 F23))) F23.d ?_
 rw [hcK_6] at S24
 obtain ⟨c25, hc25, S25⟩ := gen1 (gl_subS (M := [y21]) S24 (fun G hG => by rw [List.mem_singleton] at hG; subst hG; exact List.mem_of_getElem? hy21))
 replace S25 : St w NoX [c25, cA_6, c22] w22 := S25
 exact .inr ⟨y21, _, rfl, hz_6, pl_last hg_6 hy21, (S25.fin2 0 V (hc25) 1 V (hcA_6) (by decide))⟩

set_option maxHeartbeats 4000000 in
theorem kLi_c {C : Int} {N : Int} {Z : Int} {K : Int} {Q : Int} {lv : Value} {os : List OpC} {fv : Value} {full : List Int} {w : World} (h_lv : Ro w NoX (rl 7 opC lv os)) (h_fv : Ro w NoX (il .i64 fv full))  :
  Calls Try.prog 10 #[.agg #[.int .i64 C, .int .i64 N, .int .i64 Z, .int .i64 K, .int .i64 Q], lv, fv] w fun e w' => (e = .returned (.tuple #[.slice none 0 0, .int .i64 (plF (cfE C N Z K Q) (lgN C N Z K Q) K os full).2]) ∧ ((plF (cfE C N Z K Q) (lgN C N Z K Q) K os full).2 ≠ 0) ∧ St w NoX [] w') ∨ (∃ lw, e = .returned (.tuple #[lw, .int .i64 0]) ∧ ((plF (cfE C N Z K Q) (lgN C N Z K Q) K os full) = (0, 0)) ∧ St w NoX [io .i64 lw (List.map WF (plG (cfE C N Z K Q) (lgN C N Z K Q) K os full))] w') := by
 refine calls_in 46 Try.func10 V V (by simp) (fun A0 Y0 hdf0 hargs => ?_)
 have l0_0 := hargs 0 (.agg #[.int .i64 C, .int .i64 N, .int .i64 Z, .int .i64 K, .int .i64 Q]) V
 have l1_0 := hargs 1 (lv) V
 have l2_0 := hargs 2 (fv) V
 clear hargs; replace Y0 : SzN A0 46 := ⟨Y0⟩
 have hS := St.nil w
 have bh_lv := SlN.le (sl_SlN h_lv.at)
 have bh_fv := SlN.le (sl_SlN h_fv.at)
 refine wp_seq_k fun K1 H1 => region_in ?_
 refine W_boxS (zs := #[.int .i64 (C), .int .i64 (N), .int .i64 (Z), .int .i64 (K), .int .i64 (Q)]) hS V V V l0_0 (by rfl) (fun g2 w2 c2 hc2 S2 => ?_)
 replace S2 : St w NoX [c2] w2 := S2
 refine W_v V V (V_asg V V) (W_v V V (V_asg V V) ?_)
 refine W_end (gen_Q fun A3 E3 => ?_)
 have Y3 := szq E3
 have F3 := ((fsE E3 (cq2 (ck (FS.n hdf0) V V) V)).c (lookE E3 1 (es3 V l1_0))).c (lookE E3 2 (es3 V l2_0))
 clear E3 Y0 hdf0 l0_0 l1_0 l2_0
 refine tk H1 (wp_seq_k fun K4 H4 => region_in ?_)
 refine W_r V V (VR_ldA V (fg2 F3) (S2.obj 0 V hc2) Try.underlying23 V (by kernel_rfl)) ?_
 refine W_v V V (V_mov V (es V (fg1 F3))) (W_v V V (V_mov V (es2 V (fg0 F3))) ?_)
 refine W_call V V V Try.func23 (by kernel_rfl) V (args3 (es2 V (et V)) (es V (et V)) (et V)) (kpl_c (C := C) (N := N) (Z := Z) (K := K) (Q := Q) (S2.roC h_lv) (S2.roC h_fv) ) ?_
 rintro _ w5 (⟨rfl, hz_5, hP5⟩ | ⟨gv_5, Gs_5, av_5, rfl, hz_5, hg_5, hP5⟩)
 ·refine ⟨_, rfl, ?_⟩
  have S5 := S2.join hP5
  replace S5 : St w NoX [c2] w5 := S5
  refine W_v V V (V_mov V (et V)) ?_
  refine W_v V V (V_ext (v := .slice none 0 0) V (et V) V) ?_
  refine W_v V V (V_ext (v := .slice none 0 0) V (es V (et V)) V) ?_
  refine W_v V V (V_ext (v := .int .i64 ((plF (cfE C N Z K Q) (lgN C N Z K Q) K os full).1)) V (es2 V (et V)) V) ?_
  refine W_v V V (V_ext (v := .int .i64 ((plF (cfE C N Z K Q) (lgN C N Z K Q) K os full).2)) V (es3 V (et V)) V) ?_
  refine W_v V V (V_asg V (es3 V (et V))) (W_v V V (V_asg V (es3 V (et V))) (W_v V V (V_asg V (es3 V (et V))) (W_v V V (V_asg V (es3 V (et V))) ?_)))
  refine W_end (gen_Q fun A6 E6 => ?_)
  have Y6 := szq E6
  have F6 := fsE E6 (ck (cq2 (ck (cq1 (cq8 F3 V) V) V V) V) V V)
  clear E6 Y3 F3
  have S7 : St w NoX [] w5 := S5.sel [] (by decide) V
  refine tk H4 (wp_seq_k fun K8 H8 => ?_)
  refine wp_seq_k fun K9 H9 => region_in ?_
  refine W_v V V (V_mov V (fg0 F6)) ?_
  refine W_v V V (V_neq V (et V) V) ?_
  refine W_end (gen_Q fun A10 E10 => ?_)
  have Y10 := szq E10
  have F10 := fsE E10 (ck (cq1 F6 V) V V)
  clear E10 Y6 F6
  refine tk H9 ?_
  refine cond_sure (fg0 F10) (by rw [decide_eq_true_eq]; exact hz_5) ?_
  refine wp_seq_k fun K11 H11 => region_in ?_
  refine W_v V V (V_mov V (fg1 F10)) (W_v V V (V_asg V V) (W_v V V (V_asg V (es V (et V))) ?_))
  refine W_end (gen_Q fun A12 E12 => ?_)
  have Y12 := szq E12
  have F12 := fsE E12 (ck (ck (cq1 F10 V) V V) V V)
  clear E12 Y10 F10
  refine tk H11 (wp_ret (then_ret ?_))
  refine ret_in (results_2 Try.results10 (rv_tmp (fg1 F12)) (rv_tmp (fg0 F12))) F12.d ?_
  exact .inl ⟨rfl, hz_5, S7.fin0⟩
 refine ⟨_, rfl, ?_⟩
 obtain ⟨cG_5, cK_5, cA_5, hcG_5, hcK_5, hcA_5, hP5⟩ := gen3 hP5
 have S5 := S2.join hP5
 replace S5 : St w NoX [cG_5, cK_5, cA_5, c2] w5 := S5
 have hGl : Gs_5.length = os.length + 1 := by rw [mL hg_5, plG_len hz_5]
 have hol := pl_len hz_5
 refine W_v V V (V_mov V (et V)) ?_
 refine W_v V V (V_ext (v := gv_5) V (et V) V) ?_
 refine W_v V V (V_ext (v := av_5) V (es V (et V)) V) ?_
 refine W_v V V (V_ext (v := .int .i64 0) V (es2 V (et V)) V) ?_
 refine W_v V V (V_ext (v := .int .i64 0) V (es3 V (et V)) V) ?_
 refine W_v V V (V_asg V (es3 V (et V))) (W_v V V (V_asg V (es3 V (et V))) (W_v V V (V_asg V (es3 V (et V))) (W_v V V (V_asg V (es3 V (et V))) ?_)))
 refine W_end (gen_Q fun A13 E13 => ?_)
 have Y13 := szq E13
 have F13 := fsE E13 (ck (cq2 (ck (cq1 (cq8 F3 V) V) V V) V) V V)
 clear E13 Y3 F3
 have S14 : St w NoX [cG_5, cK_5] w5 := S5.sel [0, 1] (by decide) V
 refine tk H4 (wp_seq_k fun K15 H15 => ?_)
 refine wp_seq_k fun K16 H16 => region_in ?_
 refine W_v V V (V_mov V (fg0 F13)) ?_
 refine W_v V V (V_neq V (et V) V) ?_
 refine W_end (gen_Q fun A17 E17 => ?_)
 have Y17 := szq E17
 have F17 := fsE E17 (ck (cq1 F13 V) V V)
 clear E17 Y13 F13
 refine tk H16 ?_
 refine cond_not (fg0 F17) (by decide) ?_
 refine wp_skip ?_
 refine tk H15 (wp_seq_k fun K18 H18 => region_in ?_)
 refine W_v V V (V_asg V V) ?_
 refine W_end (gen_Q fun A19 E19 => ?_)
 have Y19 := szq E19
 have F19 := fsE E19 (ck F17 V V)
 clear E19 Y17 F17
 refine tk H18 (wp_seq_k fun K20 H20 => ?_)
 refine wp_seq_k fun K21 H21 => region_in ?_
 refine W_v V V (V_mov V (fg3 F19)) ?_
 refine W_v V V (V_lenS V (et V) (ow_at (S14.chq 0 V hcG_5)) Try.underlying62) ?_
 refine W_v V V (V_mov V V) ?_
 refine W_end (gen_Q fun A22 E22 => ?_)
 have Y22 := szq E22
 have F22 := fsE E22 (ck (ck (ck F19 V V) V V) V V)
 clear E22 Y19 F19
 refine tk H21 (wp_block ?_)
 obtain ⟨c23, hc23, S23⟩ := S14.pnil (s := 1)
 -- loop 6
 refine loopX (fun mz A' w' => SzN A' 46 ∧ A'.defers = [] ∧ (∃ (k : Nat) (bv : Value), (mz = Gs_5.length - k) ∧ (k ≤ Gs_5.length) ∧ (EV A' (.tmp 31) = .int .i64 (k : Int)) ∧ (EV A' (.tmp 12) = bv) ∧ (EV A' (.tmp 29) = EV A22 (.tmp 29)) ∧ (EV A' (.tmp 30) = EV A22 (.tmp 30)) ∧ (St w NoX [io .i64 bv ((Gs_5.take k).map fun G => WF (gab G)), ro 2 grC gv_5 Gs_5, gls Gs_5] w'))) (Gs_5.length - 0) ⟨Y22, F22.d, 0, (.slice none 0 0), rfl, (by omega), (((fg0 F22)).trans (by first | rfl | (simp; done) | (congr 1; omega))), (((fg3 F22)).trans (by first | rfl | (simp; done) | (congr 1; omega))), rfl, rfl, (by have q0 : c23 = io .i64 (.slice none 0 0) ((Gs_5.take 0).map fun G => WF (gab G)) := hc23.trans (rfl); have q1 := hcG_5; have q2 := hcK_5; subst q0 q1 q2; exact S23)⟩ ?_
 clear S23 hc23 hcG_5 hcK_5
 rintro n24 A24 w24 ⟨Y24, hdf24, k, bv, hm24, hk, l31_24, l12_24, u29_24, u30_24, S24⟩
 have l29_24 := u29_24.trans (fg2 F22)
 have l30_24 := u30_24.trans (fg1 F22)
 obtain ⟨c23_24, cG_24, cK_24, hc23_24, hcG_24, hcK_24, S24⟩ := gen3 S24
 refine wp_seq_k fun K25 H25 => region_in ?_
 refine W_v V V (V_lss V l31_24 l30_24) ?_
 refine W_end (gen_Q fun A26 E26 => ?_)
 have Y26 := szq E26
 have F26 := ((((fsE E26 (ck (FS.n hdf24) V V)).c (lookE E26 12 (es V l12_24))).c (lookE E26 29 (es V l29_24))).c (lookE E26 30 (es V l30_24))).c (lookE E26 31 (es V l31_24))
 clear E26 Y24 hdf24 l31_24 l12_24 l29_24 l30_24
 refine tk H25 (wp_seq_k fun K27 H27 => ?_)
 refine cond_dec (fg4 F26) (fun c28 => ?_) (fun c28 => ?_)
 ·refine wp_skip ?_
  refine tk H27 (wp_seq_k fun K29 H29 => ?_)
  refine wp_block ?_
  refine wp_seq_k fun K30 H30 => region_in ?_
  have k31 : k < Gs_5.length := by first | omega | (simp only [List.length_cons, List.length_nil]; omega) | (simp only [List.length_set]; omega) | decide
  obtain ⟨y31, hy31⟩ := get_some (xs := Gs_5) (k := k) k31
  have hsm31 := plG_at hg_5 hy31
  obtain ⟨B31, O31, C31, hv31⟩ := (SlN.blk (ow_at (S24.chq 1 rfl hcG_24)) (by first | omega | (simp only [List.length_cons, List.length_nil]; omega) | (simp only [List.length_set]; omega) | decide))
  refine W_v V V (V_ixS (off := O31 + k * 2) 2 (k) V (fg2 F26) (fg0 F26) hv31 (by omega) k31 Try.underlying62 (by kernel_rfl) V) ?_
  refine W_r V V (VR_ldR (ys := grC y31) V (et V) (SlN.row grC_len (ow_at (S24.chq 1 V hcG_24)) hv31 hy31 V) Try.underlying36 V (by kernel_rfl)) ?_
  refine W_allocS (z := .agg #[.slice none 0 0, .slice none 0 0]) (zs := #[.slice none 0 0, .slice none 0 0]) S24 V V V (by kernel_rfl) (by rfl) (fun g32 w32 c32 hc32 S32 => ?_)
  replace S32 : St w NoX [c32, c23_24, cG_24, cK_24] w32 := S32
  refine xsB 0 S32 V hc32 V V V (et V) (es V (et V)) (by simp only [List.all_toArray, List.all_cons, List.all_nil, grC, SlN_one (sl_SlN (gl_oa (List.mem_of_getElem? hy31) (S32.chq 3 V hcK_24))), SlN_one (sl_SlN (gl_ra (List.mem_of_getElem? hy31) (S32.chq 3 V hcK_24)))] <;> rfl) (fun w33 c33 hc33 S33 => ?_)
  replace S33 : St w NoX [c33, c23_24, cG_24, cK_24] w33 := S33
  refine W_end (gen_Q fun A34 E34 => ?_)
  have Y34 := szq E34
  have F34 := fsE E34 (ck (cq2 F26 V) V V)
  clear E34 Y26 F26
  refine tk H30 (wp_seq_k fun K35 H35 => region_in ?_)
  refine W_r V V (VR_ldA V (fg0 F34) (S33.obj 0 V hc33) Try.underlying36 V (by kernel_rfl)) ?_
  refine W_call V V V Try.func24 (by kernel_rfl) V (args1 (et V)) (kWd_c (gl_oaR (List.mem_of_getElem? hy31) (S33.chC 3 V hcK_24)) (gl_naR (List.mem_of_getElem? hy31) (S33.chC 3 V hcK_24)) (gl_raR (List.mem_of_getElem? hy31) (S33.chC 3 V hcK_24)) (by first | with_reducible assumption)) ?_
  rintro _ w36 ⟨rfl, hP36⟩
  refine ⟨_, rfl, ?_⟩
  have S36 := S33.join hP36
  replace S36 : St w NoX [c33, c23_24, cG_24, cK_24] w36 := S36
  refine W_v V V (V_mov V (et V)) ?_
  refine W_v V V (V_ext (v := .int .i64 ((wdN (y31.1.2.map ab) y31.2.2))) V (et V) V) ?_
  refine W_v V V (V_ext (v := .int .i64 ((ckG (y31.1.2.map ab) y31.2.2).2)) V (es V (et V)) V) ?_
  refine W_v V V (V_asg V (es V (et V))) (W_v V V (V_asg V (es V (et V))) ?_)
  refine W_end (gen_Q fun A37 E37 => ?_)
  have Y37 := szq E37
  have F37 := fsE E37 (cq1 (ck (cq5 F34 V) V V) V)
  clear E37 Y34 F34
  have S38 : St w NoX [c23_24, cG_24, cK_24] w36 := S36.sel [1, 2, 3] (by decide) V
  refine tk H35 ?_
  refine region_in ?_
  refine W_v V V (V_mov V (fg5 F37)) (W_v V V (V_mov V (es V (fg0 F37))) ?_)
  have hll39 : [(wdN (y31.1.2.map ab) y31.2.2)].length = 1 := rfl
  refine xsL (vs := [.int .i64 ((wdN (y31.1.2.map ab) y31.2.2))]) (xs := ([(wdN (y31.1.2.map ab) y31.2.2)].map (Value.int .i64))) 1 S38 V V V (parts1 (et V)) Try.underlying25 (fun g39 w39 c39 hc39 S39 => ?_)
  replace hc39 : c39 = io .i64 (.slice (some ⟨g39, 0, none⟩) 1 1) [(wdN (y31.1.2.map ab) y31.2.2)] := hc39
  replace S39 : St w NoX [c39, c23_24, cG_24, cK_24] w39 := S39
  refine W_appS 1 1 S39 V hc23_24 V V V (es2 V (et V)) (et V) Try.underlying25 Try.underlying25 (z := .int .i64 0) (bytes := 8) (by kernel_rfl) V (by decide) (ow_at (S39.chq 0 V hc39)) ones_i (by simp [List.length_take]; omega) (by simp [List.length_take]; omega) (fun v40 w40 c40 hc40 S40 => ?_)
  replace hc40 : c40 = io .i64 v40 (((Gs_5.take k).map fun G => WF (gab G)) ++ [(wdN (y31.1.2.map ab) y31.2.2)]) := hc40.trans (app_eq (by first | (simp; done) | (rw [List.take_of_length_le (l := List.drop _ _) (by rw [List.length_drop]; exact Nat.le_refl _)])))
  replace S40 : St w NoX [c39, c40, cG_24, cK_24] w40 := S40
  refine W_v V V (V_asg V (et V)) ?_
  refine W_end (gen_Q fun A41 E41 => ?_)
  have Y41 := szq E41
  have F41 := fsE E41 (ck (cq4 (fx5 F37) V) V V)
  clear E41 Y37 F37
  have S42 : St w NoX [c40, cG_24, cK_24] w40 := S40.sel [1, 2, 3] (by decide) V
  refine inb_n (tk H29 ?_)
  refine region_in ?_
  refine W_v V V (V_add V (fg3 F41) V (by omega) (by omega)) ?_
  refine W_v V V (V_mov V (et V)) ?_
  refine W_end (gen_Q fun A43 E43 => ?_)
  have Y43 := szq E43
  have F43 := fsE E43 (ck (cq1 (fx3 F41) V) V V)
  clear E43 Y41 F41
  refine then_n ⟨Gs_5.length - (k + 1), by simp only [hm24]; omega, Y43, F43.d, (k + 1), v40, rfl, (by omega), (((fg0 F43)).trans (by first | rfl | (simp; done) | (congr 1; omega))), (((fg1 F43)).trans (by first | rfl | (simp; done) | (congr 1; omega))), (((fg5 F43)).trans (fg2 F22).symm), (((fg4 F43)).trans (fg1 F22).symm), (by have q0 : c40 = io .i64 v40 ((Gs_5.take (k + 1)).map fun G => WF (gab G)) := hc40.trans ((congrArg (io .i64 _) (Ml.tk_snoc hy31).symm)); have q1 := hcG_24; have q2 := hcK_24; subst q0 q1 q2; exact S42)⟩
 refine wp_exit (then_exit (then_exit ?_))
 refine inb_hit ?_
 refine tk H20 (wp_seq_k fun K44 H44 => region_in ?_)
 refine W_v V V (V_mov V (fg3 F26)) (W_v V V (V_asg V (et V)) (W_v V V (V_asg V V) ?_))
 refine W_end (gen_Q fun A45 E45 => ?_)
 have Y45 := szq E45
 have F45 := fsE E45 (ck (ck (cq1 F26 V) V V) V V)
 clear E45 Y26 F26
 have S46 : St w NoX [c23_24, cK_24] w24 := S24.sel [0, 2] (by decide) V
 refine tk H44 (wp_ret ?_)
 refine ret_in (results_2 Try.results10 (rv_tmp (fg1 F45)) (rv_tmp (fg0 F45))) F45.d ?_
 exact .inr ⟨_, rfl, hz_5, (S46.fin1 0 V (hc23_24.trans (congrArg (io .i64 _) (lv_end hg_5 (by omega)))))⟩

set_option maxHeartbeats 4000000 in
theorem kLf_c {C : Int} {N : Int} {Z : Int} {K : Int} {Q : Int} {lv : Value} {os : List OpC} {fv : Value} {full : List Int} {a : Int} {b : Int} {w : World} (h_lv : Ro w NoX (rl 7 opC lv os)) (h_fv : Ro w NoX (il .i64 fv full))  :
  Calls Try.prog 11 #[.agg #[.int .i64 C, .int .i64 N, .int .i64 Z, .int .i64 K, .int .i64 Q], lv, fv, .int .i64 a, .int .i64 b] w fun e w' => e = .returned (.tuple #[.int .i64 (lfF (cfE C N Z K Q) (lgN C N Z K Q) K os full a b).1, .int .i64 (lfF (cfE C N Z K Q) (lgN C N Z K Q) K os full a b).2]) ∧ St w NoX [] w' := by
 refine calls_in 81 Try.func11 V V (by simp) (fun A0 Y0 hdf0 hargs => ?_)
 have l0_0 := hargs 0 (.agg #[.int .i64 C, .int .i64 N, .int .i64 Z, .int .i64 K, .int .i64 Q]) V
 have l1_0 := hargs 1 (lv) V
 have l2_0 := hargs 2 (fv) V
 have l3_0 := hargs 3 (.int .i64 a) V
 have l4_0 := hargs 4 (.int .i64 b) V
 clear hargs; replace Y0 : SzN A0 81 := ⟨Y0⟩
 have hS := St.nil w
 have bh_lv := SlN.le (sl_SlN h_lv.at)
 have bh_fv := SlN.le (sl_SlN h_fv.at)
 refine wp_seq_k fun K1 H1 => region_in ?_
 refine W_boxS (zs := #[.int .i64 (C), .int .i64 (N), .int .i64 (Z), .int .i64 (K), .int .i64 (Q)]) hS V V V l0_0 (by rfl) (fun g2 w2 c2 hc2 S2 => ?_)
 replace S2 : St w NoX [c2] w2 := S2
 refine W_v V V (V_asg V V) (W_v V V (V_asg V V) ?_)
 refine W_end (gen_Q fun A3 E3 => ?_)
 have Y3 := szq E3
 have F3 := ((((fsE E3 (cq2 (ck (FS.n hdf0) V V) V)).c (lookE E3 1 (es3 V l1_0))).c (lookE E3 2 (es3 V l2_0))).c (lookE E3 3 (es3 V l3_0))).c (lookE E3 4 (es3 V l4_0))
 clear E3 Y0 hdf0 l0_0 l1_0 l2_0 l3_0 l4_0
 refine tk H1 (wp_seq_k fun K4 H4 => region_in ?_)
 refine W_r V V (VR_ldA V (fg4 F3) (S2.obj 0 V hc2) Try.underlying23 V (by kernel_rfl)) ?_
 refine W_v V V (V_mov V (es V (fg3 F3))) (W_v V V (V_mov V (es2 V (fg2 F3))) ?_)
 refine W_call V V V Try.func23 (by kernel_rfl) V (args3 (es2 V (et V)) (es V (et V)) (et V)) (kpl_c (C := C) (N := N) (Z := Z) (K := K) (Q := Q) (S2.roC h_lv) (S2.roC h_fv) ) ?_
 rintro _ w5 (⟨rfl, hz_5, hP5⟩ | ⟨gv_5, Gs_5, av_5, rfl, hz_5, hg_5, hP5⟩)
 ·refine ⟨_, rfl, ?_⟩
  have S5 := S2.join hP5
  replace S5 : St w NoX [c2] w5 := S5
  refine W_v V V (V_mov V (et V)) ?_
  refine W_v V V (V_ext (v := .slice none 0 0) V (et V) V) ?_
  refine W_v V V (V_ext (v := .slice none 0 0) V (es V (et V)) V) ?_
  refine W_v V V (V_ext (v := .int .i64 ((plF (cfE C N Z K Q) (lgN C N Z K Q) K os full).1)) V (es2 V (et V)) V) ?_
  refine W_v V V (V_ext (v := .int .i64 ((plF (cfE C N Z K Q) (lgN C N Z K Q) K os full).2)) V (es3 V (et V)) V) ?_
  refine W_v V V (V_asg V (es3 V (et V))) (W_v V V (V_asg V (es3 V (et V))) (W_v V V (V_asg V (es3 V (et V))) (W_v V V (V_asg V (es3 V (et V))) ?_)))
  refine W_end (gen_Q fun A6 E6 => ?_)
  have Y6 := szq E6
  have F6 := fsE E6 (ck (cq2 (ck (cq1 (cq8 F3 V) V) V V) V) V V)
  clear E6 Y3 F3
  have S7 : St w NoX [] w5 := S5.sel [] (by decide) V
  refine tk H4 (wp_seq_k fun K8 H8 => ?_)
  refine wp_block ?_
  refine wp_seq_k fun K9 H9 => region_in ?_
  refine W_v V V (V_mov V (fg0 F6)) ?_
  refine W_v V V (V_neq V (et V) V) ?_
  refine W_v V V (V_asg V (et V)) ?_
  refine W_end (gen_Q fun A10 E10 => ?_)
  have Y10 := szq E10
  have F10 := fsE E10 (ck (cq2 F6 V) V V)
  clear E10 Y6 F6
  refine tk H9 ?_
  refine cond_sure (fg0 F10) (by rw [decide_eq_true_eq]; exact hz_5) ?_
  refine wp_seq_k fun K11 H11 => region_in ?_
  refine W_v V V (V_mov V (fg1 F10)) (W_v V V (V_asg V V) (W_v V V (V_asg V (es V (et V))) ?_))
  refine W_end (gen_Q fun A12 E12 => ?_)
  have Y12 := szq E12
  have F12 := fsE E12 (ck (ck (cq1 (fx1 F10) V) V V) V V)
  clear E12 Y10 F10
  refine tk H11 (wp_ret (inb_ret (then_ret ?_)))
  refine ret_in (results_2 Try.results11 (rv_tmp (fg1 F12)) (rv_tmp (fg0 F12))) F12.d ?_
  have h : (lfF (cfE C N Z K Q) (lgN C N Z K Q) K os full a b) = (0, (plF (cfE C N Z K Q) (lgN C N Z K Q) K os full).2) := lf_e hz_5
  rw [h]
  exact ⟨rfl, S7.fin0⟩
 refine ⟨_, rfl, ?_⟩
 obtain ⟨cG_5, cK_5, cA_5, hcG_5, hcK_5, hcA_5, hP5⟩ := gen3 hP5
 have S5 := S2.join hP5
 replace S5 : St w NoX [cG_5, cK_5, cA_5, c2] w5 := S5
 have hGl : Gs_5.length = os.length + 1 := by rw [mL hg_5, plG_len hz_5]
 have hol := pl_len hz_5
 have S13 := S5.sel [2, 3, 0, 1] (by decide) (l' := [cA_5, c2, cG_5, cK_5]) V
 replace S13 : St w NoX [cA_5, c2, cG_5, cK_5] w5 := S13
 obtain ⟨Yb14, S14, hY14, hF14, hB14⟩ := St.call (pre := [cA_5, c2]) (fr := [cG_5, cK_5]) S13
 have back14 : ∀ w2 post, St w5 Yb14 post w2 → St w NoX post w2 := fun _ _ h => (hB14 _ _ h).left
 have h_lv_14 := hY14 _ h_lv
 have h_fv_14 := hY14 _ h_fv
 have fz14_0 : Ro w5 Yb14 (rl 2 grC gv_5 Gs_5) := (hcG_5 ▸ hF14 0 _ V : Ro w5 Yb14 (ro 2 grC gv_5 Gs_5)).own
 have fz14_1 : Ro w5 Yb14 (gls Gs_5) := (hcK_5 ▸ hF14 1 _ V : Ro w5 Yb14 (gls Gs_5))
 refine W_v V V (V_mov V (et V)) ?_
 refine W_v V V (V_ext (v := gv_5) V (et V) V) ?_
 refine W_v V V (V_ext (v := av_5) V (es V (et V)) V) ?_
 refine W_v V V (V_ext (v := .int .i64 0) V (es2 V (et V)) V) ?_
 refine W_v V V (V_ext (v := .int .i64 0) V (es3 V (et V)) V) ?_
 refine W_v V V (V_asg V (es3 V (et V))) (W_v V V (V_asg V (es3 V (et V))) (W_v V V (V_asg V (es3 V (et V))) (W_v V V (V_asg V (es3 V (et V))) ?_)))
 refine W_end (gen_Q fun A15 E15 => ?_)
 have Y15 := szq E15
 have F15 := fsE E15 (ck (cq2 (ck (cq1 (cq8 F3 V) V) V V) V) V V)
 clear E15 Y3 F3
 have S16 : St w5 Yb14 [] w5 := S14.sel [] (by decide) V
 refine tk H4 (wp_seq_k fun K17 H17 => ?_)
 refine wp_block ?_
 refine wp_seq_k fun K18 H18 => region_in ?_
 refine W_v V V (V_mov V (fg0 F15)) ?_
 refine W_v V V (V_neq V (et V) V) ?_
 refine W_v V V (V_asg V (et V)) ?_
 refine W_end (gen_Q fun A19 E19 => ?_)
 have Y19 := szq E19
 have F19 := fsE E19 (ck (cq2 F15 V) V V)
 clear E19 Y15 F15
 refine tk H18 ?_
 refine cond_not (fg0 F19) (by decide) ?_
 refine wp_seq_k fun K20 H20 => region_in ?_
 refine W_v V V (V_mov V (fg4 F19)) ?_
 refine W_v V V (V_lss V (et V) V) ?_
 refine W_split V V (V_mov V (et V)) (fun c21 => ?_) (fun c21 => ?_)
 ·refine xof V V V (et V) (xof V V V (es V (et V)) (xof V V V (es2 V (et V)) ?_))
  refine W_v V V (V_pickT V (es3 V (et V)) V) ?_
  refine W_v V V (V_mov V (et V)) (xof V V V (et V) (xof V V V (es V (et V)) (xof V V V (es2 V (et V)) (xof V V V (es3 V (et V)) ?_))))
  refine W_v V V (V_pickT V (es4 V (et V)) V) ?_
  refine W_v V V (V_asg V (et V)) ?_
  refine W_end (gen_Q fun A22 E22 => ?_)
  have Y22 := szq E22
  have F22 := fsE E22 (ck (cq5 (cq8 F19 V) V) V V)
  clear E22 Y19 F19
  refine tk H20 ?_
  refine cond_t (fg0 F22) ?_
  refine wp_seq_k fun K23 H23 => region_in ?_
  refine W_v V V (V_asg V V) (W_v V V (V_asg V V) ?_)
  refine W_end (gen_Q fun A24 E24 => ?_)
  have Y24 := szq E24
  have F24 := fsE E24 (ck (ck (fx2 F22) V V) V V)
  clear E24 Y22 F22
  refine tk H23 (wp_ret (inb_ret (then_ret ?_)))
  refine ret_in (results_2 Try.results11 (rv_tmp (fg1 F24)) (rv_tmp (fg0 F24))) F24.d ?_
  have h : (lfF (cfE C N Z K Q) (lgN C N Z K Q) K os full a b) = (0, 7) := lf_7 hz_5 (by omega)
  rw [h]
  exact ⟨rfl, (back14 _ _ S16.fin0)⟩
 refine W_v V (xwt V V (et V)) (V_mov V (es3 V (fg3 F19))) ?_
 refine W_v V (xwt V V (es V (et V))) (V_mov V (es4 V (fg4 F19))) ?_
 refine W_v V (xwt V V (es2 V (et V))) (V_lss V (es V (et V)) (et V)) ?_
 refine W_v V V (V_pickF V (es3 V (et V)) (et V)) ?_
 refine W_split V V (V_mov V (et V)) (fun c25 => ?_) (fun c25 => ?_)
 ·refine xof V V V (et V) (xof V V V (es V (et V)) (xof V V V (es2 V (et V)) (xof V V V (es3 V (et V)) ?_)))
  refine W_v V V (V_pickT V (es4 V (et V)) V) ?_
  refine W_v V V (V_asg V (et V)) ?_
  refine W_end (gen_Q fun A26 E26 => ?_)
  have Y26 := szq E26
  have F26 := fsE E26 (ck (cq5 (cq8 F19 V) V) V V)
  clear E26 Y19 F19
  refine tk H20 ?_
  refine cond_t (fg0 F26) ?_
  refine wp_seq_k fun K27 H27 => region_in ?_
  refine W_v V V (V_asg V V) (W_v V V (V_asg V V) ?_)
  refine W_end (gen_Q fun A28 E28 => ?_)
  have Y28 := szq E28
  have F28 := fsE E28 (ck (ck (fx2 F26) V V) V V)
  clear E28 Y26 F26
  refine tk H27 (wp_ret (inb_ret (then_ret ?_)))
  refine ret_in (results_2 Try.results11 (rv_tmp (fg1 F28)) (rv_tmp (fg0 F28))) F28.d ?_
  have h : (lfF (cfE C N Z K Q) (lgN C N Z K Q) K os full a b) = (0, 7) := lf_7 hz_5 (by omega)
  rw [h]
  exact ⟨rfl, (back14 _ _ S16.fin0)⟩
 refine W_v V (xwt V V (et V)) (V_mov V (es8 V (fg3 F19))) ?_
 refine W_v V (xwt V V (es V (et V))) (V_mov V (es8 V (es V (fg6 F19)))) ?_
 refine W_v V (xwt V V (es2 V (et V))) (V_lenS V (et V) (sl_SlN h_lv_14.at) Try.underlying24) ?_
 refine W_v V (xwt V V (es3 V (et V))) (V_gtr V (es2 V (et V)) (et V)) ?_
 refine W_v V V (V_pickF V (es4 V (et V)) (et V)) ?_
 refine W_v V V (V_asg V (et V)) ?_
 refine W_end (gen_Q fun A29 E29 => ?_)
 have Y29 := szq E29
 have F29 := fsE E29 (ck (cq5 (cq8 F19 V) V) V V)
 clear E29 Y19 F19
 refine tk H20 ?_
 refine cond_dec (fg0 F29) (fun c30 => ?_) (fun c30 => ?_)
 ·refine wp_seq_k fun K31 H31 => region_in ?_
  refine W_v V V (V_asg V V) (W_v V V (V_asg V V) ?_)
  refine W_end (gen_Q fun A32 E32 => ?_)
  have Y32 := szq E32
  have F32 := fsE E32 (ck (ck (fx2 F29) V V) V V)
  clear E32 Y29 F29
  refine tk H31 (wp_ret (inb_ret (then_ret ?_)))
  refine ret_in (results_2 Try.results11 (rv_tmp (fg1 F32)) (rv_tmp (fg0 F32))) F32.d ?_
  have h : (lfF (cfE C N Z K Q) (lgN C N Z K Q) K os full a b) = (0, 7) := lf_7 hz_5 (by omega)
  rw [h]
  exact ⟨rfl, (back14 _ _ S16.fin0)⟩
 refine wp_skip (inb_n ?_)
 refine tk H17 (wp_seq_k fun K33 H33 => region_in ?_)
 refine W_v V V (V_mov V (fg3 F29)) (W_v V V (V_mov V (es V (fg5 F29))) ?_)
 have k34 : a.toNat < Gs_5.length := by first | omega | (simp only [List.length_cons, List.length_nil]; omega) | (simp only [List.length_set]; omega) | decide
 obtain ⟨y34, hy34⟩ := get_some (xs := Gs_5) (k := a.toNat) k34
 have hsm34 := plG_at hg_5 hy34
 obtain ⟨B34, O34, C34, hv34⟩ := (SlN.blk (sl_SlN fz14_0.at) (by first | omega | (simp only [List.length_cons, List.length_nil]; omega) | (simp only [List.length_set]; omega) | decide))
 refine W_v V V (V_ixS (off := O34 + a.toNat * 2) 2 (a.toNat) V (es V (et V)) (et V) hv34 (by omega) k34 Try.underlying62 (by kernel_rfl) V) ?_
 have fgy34o := gl_o (List.mem_of_getElem? hy34) fz14_1
 have fgy34n := gl_n (List.mem_of_getElem? hy34) fz14_1
 have fgy34r := gl_r (List.mem_of_getElem? hy34) fz14_1
 refine W_r V V (VR_ldR (ys := grC y34) V (et V) (SlN.row grC_len (sl_SlN (S16.ro fz14_0)) hv34 hy34 V) Try.underlying36 V (by kernel_rfl)) ?_
 refine W_call V V V Try.func24 (by kernel_rfl) V (args1 (et V)) (kWd_c (S16.roC fgy34o) (S16.roC fgy34n) (S16.roC fgy34r) (by first | with_reducible assumption)) ?_
 rintro _ w35 ⟨rfl, hP35⟩
 refine ⟨_, rfl, ?_⟩
 have S35 := S16.join hP35
 replace S35 : St w5 Yb14 [] w35 := S35
 refine W_v V V (V_mov V (et V)) ?_
 refine W_v V V (V_ext (v := .int .i64 ((wdN (y34.1.2.map ab) y34.2.2))) V (et V) V) ?_
 refine W_v V V (V_ext (v := .int .i64 ((ckG (y34.1.2.map ab) y34.2.2).2)) V (es V (et V)) V) ?_
 refine W_v V V (V_asg V (es V (et V))) ?_
 refine W_end (gen_Q fun A36 E36 => ?_)
 have Y36 := szq E36
 have F36 := fsE E36 (ck (cq8 F29 V) V V)
 clear E36 Y29 F29
 refine tk H33 (wp_seq_k fun K37 H37 => ?_)
 refine wp_seq_k fun K38 H38 => ?_
 refine region_monoS 14 14 [] (by kernel_rfl) (by kernel_rfl) ?_
 refine D_v V V (V_mov V (fg4 F36)) V V ?_
 refine D_v V V (V_mov V (es V (fg5 F36))) V V ?_
 have k39 : b.toNat < Gs_5.length := by first | omega | (simp only [List.length_cons, List.length_nil]; omega) | (simp only [List.length_set]; omega) | decide
 obtain ⟨y39, hy39⟩ := get_some (xs := Gs_5) (k := b.toNat) k39
 have hsm39 := plG_at hg_5 hy39
 have hlf39 := lf_len hz_5 hg_5 hy34 hy39 (by omega)
 refine D_v V V (V_ixS (off := O34 + b.toNat * 2) 2 (b.toNat) V (es V (et V)) (et V) hv34 (by omega) k39 Try.underlying62 (by kernel_rfl) V) V V ?_
 refine D_v V V (V_fa (off' := O34 + b.toNat * 2 + 0) V (et V) Try.underlying36 V (by decide +kernel) V) V V ?_
 have fgy39o := gl_o (List.mem_of_getElem? hy39) fz14_1
 have fgy39n := gl_n (List.mem_of_getElem? hy39) fz14_1
 have fgy39r := gl_r (List.mem_of_getElem? hy39) fz14_1
 refine D_r V V (by kernel_rfl) (fun sx hx hF => (VR_ldC (v := y39.1.1) V (et V) (SlN.row grC_len (sl_SlN ((S35.grow hx).ro fz14_0)) hv34 hy39 V 0 _ V) Try.underlying34 V)) V V ?_
 refine D_v V V (V_mov V (es5 V (fg4 F36))) V V ?_
 refine D_v V V (V_mov V (es6 V (fg6 F36))) V V ?_
 refine D_v V V (V_ixS (off := O34 + a.toNat * 2) 2 (a.toNat) V (es V (et V)) (et V) hv34 (by omega) k34 Try.underlying62 (by kernel_rfl) V) V V ?_
 refine D_v V V (V_fa (off' := O34 + a.toNat * 2 + 0) V (et V) Try.underlying36 V (by decide +kernel) V) V V ?_
 refine D_r V V (by kernel_rfl) (fun sx hx hF => (VR_ldC (v := y34.1.1) V (et V) (SlN.row grC_len (sl_SlN ((S35.grow hx).ro fz14_0)) hv34 hy34 V 0 _ V) Try.underlying34 V)) V V ?_
 refine D_v V V (V_lenS V (et V) (sl_SlN fgy34o.at) Try.underlying34) V V ?_
 have k41 : y34.1.2.length ≤ y39.1.2.length := by omega
 have m41 : y39.1.2.length ≤ y39.1.2.length := by omega
 have f41 := Ro_partR obC_len fgy39o y34.1.2.length y39.1.2.length k41 m41
 replace f41 : Ro w5 Yb14 (rl 2 obC (subS 2 y39.1.1 y34.1.2.length y39.1.2.length) (y39.1.2.drop y34.1.2.length)) := by rw [show (y39.1.2.drop y34.1.2.length).take (y39.1.2.length - y34.1.2.length) = (y39.1.2.drop y34.1.2.length) by first | (simp; done) | exact List.take_of_length_le (by simp)] at f41; exact f41
 have fn41 := nst_drop fgy39n y34.1.2.length
 refine D_v V V (V_subS 2 (y34.1.2.length) (y39.1.2.length) V (es6 V (et V)) (.inr ⟨_, _, rfl, (et V), by omega⟩) (.inl ⟨rfl, rfl⟩) Try.underlying34 (by kernel_rfl) (sl_SlN fgy39o.at) k41 m41) V V ?_
 refine D_v V V (V_lenS V (et V) (sl_SlN f41.at) Try.underlying34) V V ?_
 refine D_v V V (V_mov V V) V V ?_
 refine ZS_none S35 (Nat.le_refl _) (Nat.le_refl _) (fun s42 hJ42 hL42 hF42 => ?_)
 have S42 := hJ42.st; clear hF42 hJ42 hL42
 generalize s42.1 = w42 at *
 replace S42 : St w5 Yb14 [] w42 := S42
 refine gen_Q (fun A43 E43 => ?_)
 have Y43 := szq E43
 have F43 := fsE E43 (ck (ck (ck (cq3 (cq8 F36 V) V) V V) V V) V V)
 clear E43 Y36 F36
 refine tk H38 (wp_block ?_)
 -- loop 8
 have hdl : (y39.1.2.drop y34.1.2.length).length ≤ 200 := by rw [List.length_drop]; omega
 have hwf := WF_bd hsm34
 refine loopX (fun mz A' w' => SzN A' 81 ∧ A'.defers = [] ∧ (∃ (k : Nat), (mz = (y39.1.2.drop y34.1.2.length).length - k) ∧ (k ≤ (y39.1.2.drop y34.1.2.length).length) ∧ (EV A' (.tmp 65) = .int .i64 (k : Int)) ∧ (EV A' (.tmp 10) = .int .i64 (WF (gab y34) + smB (y39.1.2.drop y34.1.2.length) k)) ∧ (EV A' (.tmp 63) = EV A43 (.tmp 63)) ∧ (EV A' (.tmp 64) = EV A43 (.tmp 64)) ∧ (St w5 Yb14 [] w'))) ((y39.1.2.drop y34.1.2.length).length - 0) ⟨Y43, F43.d, 0, rfl, (by omega), (((fg0 F43)).trans (by first | rfl | (simp; done) | (congr 1; omega))), (((fg3 F43)).trans ((by rw [smB_0, Int.add_zero]; rfl))), rfl, rfl, S42⟩ ?_
 clear S42
 rintro n44 A44 w44 ⟨Y44, hdf44, k, hm44, hk, l65_44, l10_44, u63_44, u64_44, S44⟩
 have l63_44 := u63_44.trans (fg2 F43)
 have l64_44 := u64_44.trans (fg1 F43)
 refine wp_seq_k fun K45 H45 => region_in ?_
 refine W_v V V (V_lss V l65_44 l64_44) ?_
 refine W_end (gen_Q fun A46 E46 => ?_)
 have Y46 := szq E46
 have F46 := ((((fsE E46 (ck (FS.n hdf44) V V)).c (lookE E46 10 (es V l10_44))).c (lookE E46 63 (es V l63_44))).c (lookE E46 64 (es V l64_44))).c (lookE E46 65 (es V l65_44))
 clear E46 Y44 hdf44 l65_44 l10_44 l63_44 l64_44
 refine tk H45 (wp_seq_k fun K47 H47 => ?_)
 refine cond_dec (fg4 F46) (fun c48 => ?_) (fun c48 => ?_)
 ·refine wp_skip ?_
  refine tk H47 (wp_seq_k fun K49 H49 => ?_)
  refine wp_block ?_
  refine wp_seq_k fun K50 H50 => region_in ?_
  have k51 : k < (y39.1.2.drop y34.1.2.length).length := by first | omega | (simp only [List.length_cons, List.length_nil]; omega) | (simp only [List.length_set]; omega) | decide
  obtain ⟨y51, hy51⟩ := get_some (xs := (y39.1.2.drop y34.1.2.length)) (k := k) k51
  have hsy51 := (SM_drop (m := y34.1.2.length) hsm39).at hy51
  have hbd51 := smB_bd (k := k) (SM_drop (m := y34.1.2.length) hsm39)
  obtain ⟨B51, O51, C51, hv51⟩ := (SlN.blk (sl_SlN f41.at) (by first | omega | (simp only [List.length_cons, List.length_nil]; omega) | (simp only [List.length_set]; omega) | decide))
  refine W_v V V (V_ixS (off := O51 + k * 2) 2 (k) V (fg2 F46) (fg0 F46) hv51 (by omega) k51 Try.underlying34 (by kernel_rfl) V) ?_
  have fn52 : Ro w5 Yb14 (il .i64 y51.1.1 y51.1.2) := nst_ro1 fn41 hy51
  have bfn52 := SlN.le (sl_SlN (S44.ro fn52))
  have fn53 : Ro w5 Yb14 (il .u64 y51.2.1 y51.2.2) := nst_ro2 fn41 hy51
  have bfn53 := SlN.le (sl_SlN (S44.ro fn53))
  refine W_r V V (VR_ldR (ys := obC y51) V (et V) (SlN.row obC_len (sl_SlN (S44.ro f41)) hv51 hy51 V) Try.underlying68 V (by kernel_rfl)) ?_
  refine W_allocS (z := .agg #[.slice none 0 0, .slice none 0 0]) (zs := #[.slice none 0 0, .slice none 0 0]) S44 V V V (by kernel_rfl) (by rfl) (fun g54 w54 c54 hc54 S54 => ?_)
  replace S54 : St w5 Yb14 [c54] w54 := S54
  refine xsB 0 S54 V hc54 V V V (et V) (es V (et V)) (by simp only [List.all_toArray, List.all_cons, List.all_nil, grC, obC, SlN_one (sl_SlN fn52.at), SlN_one (sl_SlN fn53.at)] <;> rfl) (fun w55 c55 hc55 S55 => ?_)
  replace S55 : St w5 Yb14 [c55] w55 := S55
  refine W_end (gen_Q fun A56 E56 => ?_)
  have Y56 := szq E56
  have F56 := fsE E56 (ck (cq2 F46 V) V V)
  clear E56 Y46 F46
  refine tk H50 ?_
  refine region_in ?_
  refine W_v V V (V_mov V (fg4 F56)) ?_
  refine W_v V V (V_fa (off' := 0) V (es V (fg0 F56)) Try.underlying68 V (by decide +kernel) V) ?_
  refine W_r V V (xlC (v := y51.1.1) V (et V) (S55.obj 0 V hc55) Try.underlying25) ?_
  refine W_v V V (V_lenS V (et V) (sl_SlN fn52.at) Try.underlying25) ?_
  refine W_v V V (V_add V V (et V) (by omega) (by omega)) ?_
  refine W_v V V (V_fa (off' := 1) V (es5 V (fg0 F56)) Try.underlying68 V (by decide +kernel) V) ?_
  refine W_r V V (xlC (v := y51.2.1) V (et V) (S55.obj 0 V hc55) Try.underlying66) ?_
  refine W_v V V (V_lenS V (et V) (sl_SlN fn53.at) Try.underlying66) ?_
  refine W_v V V (V_add V (es3 V (et V)) (et V) (by omega) (by omega)) ?_
  refine W_v V V (V_add V (es8 V (et V)) (et V) (by omega) (by omega)) ?_
  refine W_v V V (V_asg V (et V)) ?_
  refine W_end (gen_Q fun A57 E57 => ?_)
  have Y57 := szq E57
  have F57 := fsE E57 (ck (cq2 (cq8 (fx4 F56) V) V) V V)
  clear E57 Y56 F56
  have S58 : St w5 Yb14 [] w55 := S55.sel [] (by decide) V
  refine inb_n (tk H49 ?_)
  refine region_in ?_
  refine W_v V V (V_add V (fg2 F57) V (by omega) (by omega)) ?_
  refine W_v V V (V_mov V (et V)) ?_
  refine W_end (gen_Q fun A59 E59 => ?_)
  have Y59 := szq E59
  have F59 := fsE E59 (ck (cq1 (fx2 F57) V) V V)
  clear E59 Y57 F57
  refine then_n ⟨(y39.1.2.drop y34.1.2.length).length - (k + 1), by simp only [hm44]; omega, Y59, F59.d, (k + 1), rfl, (by omega), (((fg0 F59)).trans (by first | rfl | (simp; done) | (congr 1; omega))), (((fg1 F59)).trans ((by rw [smB_s hy51, Int.add_assoc]))), (((fg4 F59)).trans (fg2 F43).symm), (((fg3 F59)).trans (fg1 F43).symm), S58⟩
 refine wp_exit (then_exit (then_exit ?_))
 refine inb_hit ?_
 refine tk H37 (wp_seq_k fun K60 H60 => region_in ?_)
 refine W_v V V (V_mov V (fg3 F46)) (W_v V V (V_asg V (et V)) (W_v V V (V_asg V V) ?_))
 refine W_end (gen_Q fun A61 E61 => ?_)
 have Y61 := szq E61
 have F61 := fsE E61 (ck (ck (cq1 (fx3 F46) V) V V) V V)
 clear E61 Y46 F46
 refine tk H60 (wp_ret ?_)
 refine ret_in (results_2 Try.results11 (rv_tmp (fg1 F61)) (rv_tmp (fg0 F61))) F61.d ?_
 have h : (lfF (cfE C N Z K Q) (lgN C N Z K Q) K os full a b) = ((WF (gab y34) + smB (y39.1.2.drop y34.1.2.length) k), 0) := lf_k hz_5 (by omega) hg_5 hy34 hy39 (by rw [List.length_drop] at hk; have := c48; rw [List.length_drop] at this; omega)
 rw [h]
 exact ⟨rfl, (back14 _ _ S44.fin0)⟩

end Go.Proofs.Ytpgkfndbfocibaa
namespace Go.Proofs.Ytpgkfndbfocibaa
open Go.RowKit Go.Own Go.Own.R Go.Own.G Go.Own.Gr


set_option maxHeartbeats 4000000 in
theorem qInts_c {xv : Value} {xs : List Int} {yv : Value} {ys : List Int} {w : World} (h_xv : Ro w NoX (il .i64 xv xs)) (h_yv : Ro w NoX (il .i64 yv ys))  :
  Calls Try.prog 21 #[xv, yv] w fun e w' => e = .returned (.bool (decide (xs = ys))) ∧ St w NoX [] w' := by
 refine calls_in 26 Try.func21 V V (by simp) (fun A0 Y0 hdf0 hargs => ?_)
 have l0_0 := hargs 0 (xv) V
 have l1_0 := hargs 1 (yv) V
 clear hargs; replace Y0 : SzN A0 26 := ⟨Y0⟩
 have hS := St.nil w
 have bh_xv := SlN.le (sl_SlN h_xv.at)
 have bh_yv := SlN.le (sl_SlN h_yv.at)
 refine wp_seq_k fun K1 H1 => region_in ?_
 refine W_v V V (V_asg V V) ?_
 refine W_end (gen_Q fun A2 E2 => ?_)
 have Y2 := szq E2
 have F2 := ((fsE E2 (cq1 (FS.n hdf0) V)).c (lookE E2 0 (es V l0_0))).c (lookE E2 1 (es V l1_0))
 clear E2 Y0 hdf0 l0_0 l1_0
 refine tk H1 (wp_seq_k fun K3 H3 => ?_)
 refine wp_seq_k fun K4 H4 => region_in ?_
 refine W_v V V (V_mov V (fg1 F2)) ?_
 refine W_v V V (V_lenS V (et V) (sl_SlN h_xv.at) Try.underlying25) ?_
 refine W_v V V (V_mov V (es2 V (fg0 F2))) ?_
 refine W_v V V (V_lenS V (et V) (sl_SlN h_yv.at) Try.underlying25) ?_
 refine W_v V V (V_neq V (es2 V (et V)) (et V)) ?_
 refine W_end (gen_Q fun A5 E5 => ?_)
 have Y5 := szq E5
 have F5 := fsE E5 (ck (cq4 F2 V) V V)
 clear E5 Y2 F2
 refine tk H4 ?_
 refine cond_dec (fg0 F5) (fun c6 => ?_) (fun c6 => ?_)
 ·refine wp_seq_k fun K7 H7 => region_in ?_
  refine W_v V V (V_asg V V) ?_
  refine W_end (gen_Q fun A8 E8 => ?_)
  have Y8 := szq E8
  have F8 := fsE E8 (ck F5 V V)
  clear E8 Y5 F5
  refine tk H7 (wp_ret (then_ret ?_))
  refine ret_in (results_1 Try.results21 (rv_tmp (fg0 F8))) F8.d ?_
  rw [decide_eq_false (show ¬ xs = ys from fun e => absurd (congrArg List.length e) (by omega))]
  exact ⟨rfl, hS.fin0⟩
 have hl : xs.length = ys.length := by omega
 refine wp_skip ?_
 refine tk H3 (wp_seq_k fun K9 H9 => ?_)
 refine wp_seq_k fun K10 H10 => region_in ?_
 refine W_v V V (V_asg V V) ?_
 refine W_end (gen_Q fun A11 E11 => ?_)
 have Y11 := szq E11
 have F11 := fsE E11 (ck F5 V V)
 clear E11 Y5 F5
 refine tk H10 (wp_block ?_)
 -- loop 4
 refine loopX (fun mz A' w' => SzN A' 26 ∧ A'.defers = [] ∧ (∃ (k : Nat), (mz = xs.length - k) ∧ (k ≤ xs.length) ∧ (∀ i, i < k → xs[i]? = ys[i]?) ∧ (EV A' (.tmp 5) = .int .i64 (k : Int)) ∧ (EV A' (.tmp 0) = EV A11 (.tmp 0)) ∧ (EV A' (.tmp 1) = EV A11 (.tmp 1)) ∧ (St w NoX [] w'))) (xs.length - 0) ⟨Y11, F11.d, 0, rfl, (by omega), (fun i hi => by omega), (((fg0 F11)).trans (by first | rfl | (simp; done) | (congr 1; omega))), rfl, rfl, hS⟩ ?_
 clear hS
 rintro n12 A12 w12 ⟨Y12, hdf12, k, hm12, hk, hz, l5_12, u0_12, u1_12, S12⟩
 have l0_12 := u0_12.trans (fg3 F11)
 have l1_12 := u1_12.trans (fg2 F11)
 refine wp_seq_k fun K13 H13 => ?_
 refine wp_seq_k fun K14 H14 => region_in ?_
 refine W_v V V (V_mov V l5_12) (W_v V V (V_mov V (es V l0_12)) ?_)
 refine W_v V V (V_lenS V (et V) (sl_SlN h_xv.at) Try.underlying25) ?_
 refine W_v V V (V_lss V (es2 V (et V)) (et V)) ?_
 refine W_end (gen_Q fun A15 E15 => ?_)
 have Y15 := szq E15
 have F15 := (((fsE E15 (ck (cq3 (FS.n hdf12) V) V V)).c (lookE E15 0 (es4 V l0_12))).c (lookE E15 1 (es4 V l1_12))).c (lookE E15 5 (es4 V l5_12))
 clear E15 Y12 hdf12 l5_12 l0_12 l1_12
 refine tk H14 ?_
 refine cond_dec (fg3 F15) (fun c16 => ?_) (fun c16 => ?_)
 ·refine wp_skip ?_
  refine tk H13 (wp_seq_k fun K17 H17 => ?_)
  refine wp_block ?_
  refine wp_seq_k fun K18 H18 => ?_
  refine region_monoS 9 9 [] (by kernel_rfl) (by kernel_rfl) ?_
  refine D_v V V (V_mov V (fg2 F15)) V V ?_
  refine D_v V V (V_mov V (es V (fg0 F15))) V V ?_
  have k19 : k < xs.length := by first | omega | (simp only [List.length_cons, List.length_nil]; omega) | (simp only [List.length_set]; omega) | decide
  obtain ⟨y19, hy19⟩ := get_some (xs := xs) (k := k) k19
  obtain ⟨B19, O19, C19, hv19⟩ := (SlN.blk (sl_SlN h_xv.at) (by first | omega | (simp only [List.length_cons, List.length_nil]; omega) | (simp only [List.length_set]; omega) | decide))
  refine D_v V V (V_ixS (off := O19 + k) 1 (k) V (es V (et V)) (et V) hv19 (by omega) k19 Try.underlying25 (by kernel_rfl) (congrArg _ (Nat.mul_one _))) V V ?_
  refine D_r V V (by kernel_rfl) (fun sx hx hF => (VR_ldC V (et V) ((sl_SlN ((S12.grow hx).ro h_xv)).cell hv19 (map_get hy19)) Try.underlying3 V)) V V ?_
  refine D_v V V (V_mov V (es4 V (fg1 F15))) V V ?_
  refine D_v V V (V_mov V (es5 V (fg0 F15))) V V ?_
  have k20 : k < ys.length := by first | omega | (simp only [List.length_cons, List.length_nil]; omega) | (simp only [List.length_set]; omega) | decide
  obtain ⟨y20, hy20⟩ := get_some (xs := ys) (k := k) k20
  obtain ⟨B20, O20, C20, hv20⟩ := (SlN.blk (sl_SlN h_yv.at) (by first | omega | (simp only [List.length_cons, List.length_nil]; omega) | (simp only [List.length_set]; omega) | decide))
  refine D_v V V (V_ixS (off := O20 + k) 1 (k) V (es V (et V)) (et V) hv20 (by omega) k20 Try.underlying25 (by kernel_rfl) (congrArg _ (Nat.mul_one _))) V V ?_
  refine D_r V V (by kernel_rfl) (fun sx hx hF => (VR_ldC V (et V) ((sl_SlN ((S12.grow hx).ro h_yv)).cell hv20 (map_get hy20)) Try.underlying3 V)) V V ?_
  refine D_v V V (V_neq V (es4 V (et V)) (et V)) V V ?_
  refine ZS_none S12 (Nat.le_refl _) (Nat.le_refl _) (fun s21 hJ21 hL21 hF21 => ?_)
  have S21 := hJ21.st; clear hF21 hJ21 hL21
  generalize s21.1 = w21 at *
  replace S21 : St w NoX [] w21 := S21
  refine gen_Q (fun A22 E22 => ?_)
  have Y22 := szq E22
  have F22 := fsE E22 (ck (cq8 F15 V) V V)
  clear E22 Y15 F15
  refine tk H18 ?_
  refine cond_dec (fg0 F22) (fun c23 => ?_) (fun c23 => ?_)
  ·refine wp_seq_k fun K24 H24 => region_in ?_
   refine W_v V V (V_asg V V) ?_
   refine W_end (gen_Q fun A25 E25 => ?_)
   have Y25 := szq E25
   have F25 := fsE E25 (ck F22 V V)
   clear E25 Y22 F22
   refine tk H24 (wp_ret (inb_ret (then_ret (then_ret (inb_ret (then_ret ?_))))))
   refine ret_in (results_1 Try.results21 (rv_tmp (fg0 F25))) F25.d ?_
   rw [decide_eq_false (show ¬ xs = ys from eq_ne hy19 hy20 c23)]
   exact ⟨rfl, S21.fin0⟩
  refine wp_skip (inb_n (tk H17 ?_))
  refine region_in ?_
  refine W_v V V (V_mov V (fg1 F22)) ?_
  refine W_v V V (V_add V (et V) V (by omega) (by omega)) ?_
  refine W_v V V (V_asg V (et V)) ?_
  refine W_end (gen_Q fun A26 E26 => ?_)
  have Y26 := szq E26
  have F26 := fsE E26 (ck (cq2 (fx1 F22) V) V V)
  clear E26 Y22 F22
  refine then_n ⟨xs.length - (k + 1), by simp only [hm12]; omega, Y26, F26.d, (k + 1), rfl, (by omega), (eq_step hz hy19 hy20 (by omega)), (((fg0 F26)).trans (by first | rfl | (simp; done) | (congr 1; omega))), (((fg3 F26)).trans (fg3 F11).symm), (((fg2 F26)).trans (fg2 F11).symm), S21⟩
 refine wp_exit (then_exit (then_exit ?_))
 refine inb_hit ?_
 refine tk H9 (wp_seq_k fun K27 H27 => region_in ?_)
 refine W_v V V (V_asg V V) ?_
 refine W_end (gen_Q fun A28 E28 => ?_)
 have Y28 := szq E28
 have F28 := fsE E28 (ck F15 V V)
 clear E28 Y15 F15
 refine tk H27 (wp_ret ?_)
 refine ret_in (results_1 Try.results21 (rv_tmp (fg0 F28))) F28.d ?_
 rw [decide_eq_true (show xs = ys from eq_all hl (by omega) hz)]
 exact ⟨rfl, S12.fin0⟩

end Go.Proofs.Ytpgkfndbfocibaa
namespace Go.Proofs.Ytpgkfndbfocibaa
open Go.RowKit Go.Own Go.Own.R Go.Own.G Go.Own.Gr Go.Own.Ml


set_option maxHeartbeats 4000000 in
theorem kcf29_c  {w : World}   :
  Calls Try.prog 17 #[] w fun e w' => e = .returned (.agg #[.int .i64 8, .int .i64 8, .int .i64 6, .int .i64 2, .int .i64 2]) ∧ St w NoX [] w' := by
 refine calls_in 2 Try.func17 V V (by simp) (fun A0 Y0 hdf0 hargs => ?_)
 clear hargs; replace Y0 : SzN A0 2 := ⟨Y0⟩
 have hS := St.nil w
 refine wp_seq_k fun K1 H1 => region_in ?_
 refine W_allocS (z := .agg #[.int .i64 0, .int .i64 0, .int .i64 0, .int .i64 0, .int .i64 0]) (zs := #[.int .i64 0, .int .i64 0, .int .i64 0, .int .i64 0, .int .i64 0]) hS V V V (by kernel_rfl) (by rfl) (fun g2 w2 c2 hc2 S2 => ?_)
 replace S2 : St w NoX [c2] w2 := S2
 refine W_end (gen_Q fun A3 E3 => ?_)
 have Y3 := szq E3
 have F3 := fsE E3 (ck (FS.n hdf0) V V)
 clear E3 Y0 hdf0
 refine tk H1 (wp_seq_k fun K4 H4 => region_in ?_)
 refine W_v V V (xbS (n := 5) (z := .agg #[.int .i64 0, .int .i64 0, .int .i64 0, .int .i64 0, .int .i64 0]) V (parts5 V V V V V)) ?_
 refine xsA 0 S2 V hc2 V V V (es V (fg0 F3)) (et V) (fun w5 c5 hc5 S5 => ?_)
 replace S5 : St w NoX [c5] w5 := S5
 refine W_end (gen_Q fun A6 E6 => ?_)
 have Y6 := szq E6
 have F6 := fsE E6 (cq1 F3 V)
 clear E6 Y3 F3
 refine tk H4 (wp_ret ?_)
 refine ret_in (results_1 Try.results17 (rv_cellA (fg0 F6) (S5.obj 0 V hc5) Try.underlying23 V (by kernel_rfl))) F6.d ?_
 exact ⟨rfl, S5.fin0⟩

set_option maxHeartbeats 4000000 in
theorem kas_29 {ev : Value} {ei : List Int} {w : World} (h_ev : Ro w NoX (il .i64 ev ei)) (hel : ei.length ≤ 1000000) :
  Calls Try.prog 20 #[ev] w fun e w' => ∃ v, e = .returned (v) ∧ St w NoX [ro 3 anC (v) (List.map (fun x : Int => AnC.mk x false 0) ei)] w' := by
 refine calls_in 20 Try.func20 V V (by simp) (fun A0 Y0 hdf0 hargs => ?_)
 have l0_0 := hargs 0 (ev) V
 clear hargs; replace Y0 : SzN A0 20 := ⟨Y0⟩
 have hS := St.nil w
 have bh_ev := SlN.le (sl_SlN h_ev.at)
 refine wp_seq_k fun K1 H1 => region_in ?_
 refine W_v V V (V_asg V V) ?_
 refine W_end (gen_Q fun A2 E2 => ?_)
 have Y2 := szq E2
 have F2 := (fsE E2 (cq1 (FS.n hdf0) V)).c (lookE E2 0 (es V l0_0))
 clear E2 Y0 hdf0 l0_0
 refine tk H1 (wp_seq_k fun K3 H3 => region_in ?_)
 refine W_v V V (V_asg V V) ?_
 refine W_end (gen_Q fun A4 E4 => ?_)
 have Y4 := szq E4
 have F4 := fsE E4 (ck F2 V V)
 clear E4 Y2 F2
 refine tk H3 (wp_seq_k fun K5 H5 => ?_)
 refine wp_seq_k fun K6 H6 => region_in ?_
 refine W_v V V (V_asg V V) ?_
 refine W_end (gen_Q fun A7 E7 => ?_)
 have Y7 := szq E7
 have F7 := fsE E7 (ck F4 V V)
 clear E7 Y4 F4
 refine tk H6 (wp_block ?_)
 obtain ⟨c8, hc8, S8⟩ := hS.pnil (s := 3)
 -- loop 3
 refine loopX (fun mz A' w' => SzN A' 20 ∧ A'.defers = [] ∧ (∃ (k : Nat) (bv : Value), (mz = ei.length - k) ∧ (k ≤ ei.length) ∧ (EV A' (.tmp 4) = .int .i64 (k : Int)) ∧ (EV A' (.tmp 3) = bv) ∧ (EV A' (.tmp 0) = EV A7 (.tmp 0)) ∧ (St w NoX [ro 3 anC bv ((ei.take k).map fun x : Int => AnC.mk x false 0)] w'))) (ei.length - 0) ⟨Y7, F7.d, 0, (.slice none 0 0), rfl, (by omega), (((fg0 F7)).trans (by first | rfl | (simp; done) | (congr 1; omega))), (((fg1 F7)).trans (by first | rfl | (simp; done) | (congr 1; omega))), rfl, (by have q0 : c8 = ro 3 anC (.slice none 0 0) ((ei.take 0).map fun x : Int => AnC.mk x false 0) := hc8.trans (rfl); subst q0; exact S8)⟩ ?_
 clear S8 hc8
 rintro n9 A9 w9 ⟨Y9, hdf9, k, bv, hm9, hk, l4_9, l3_9, u0_9, S9⟩
 have l0_9 := u0_9.trans (fg2 F7)
 obtain ⟨c8_9, hc8_9, S9⟩ := gen1 S9
 refine wp_seq_k fun K10 H10 => ?_
 refine wp_seq_k fun K11 H11 => region_in ?_
 refine W_v V V (V_mov V l4_9) (W_v V V (V_mov V (es V l0_9)) ?_)
 refine W_v V V (V_lenS V (et V) (sl_SlN h_ev.at) Try.underlying86) ?_
 refine W_v V V (V_lss V (es2 V (et V)) (et V)) ?_
 refine W_end (gen_Q fun A12 E12 => ?_)
 have Y12 := szq E12
 have F12 := (((fsE E12 (ck (cq3 (FS.n hdf9) V) V V)).c (lookE E12 0 (es4 V l0_9))).c (lookE E12 3 (es4 V l3_9))).c (lookE E12 4 (es4 V l4_9))
 clear E12 Y9 hdf9 l4_9 l3_9 l0_9
 refine tk H11 ?_
 refine cond_dec (fg3 F12) (fun c13 => ?_) (fun c13 => ?_)
 ·refine wp_skip ?_
  refine tk H10 (wp_seq_k fun K14 H14 => ?_)
  refine wp_block ?_
  refine region_in ?_
  refine W_v V V (V_mov V (fg1 F12)) (W_v V V (V_mov V (es V (fg2 F12))) (W_v V V (V_mov V (es2 V (fg0 F12))) ?_))
  have k15 : k < ei.length := by first | omega | (simp only [List.length_cons, List.length_nil]; omega) | (simp only [List.length_set]; omega) | decide
  obtain ⟨y15, hy15⟩ := get_some (xs := ei) (k := k) k15
  obtain ⟨B15, O15, C15, hv15⟩ := (SlN.blk (sl_SlN h_ev.at) (by first | omega | (simp only [List.length_cons, List.length_nil]; omega) | (simp only [List.length_set]; omega) | decide))
  refine W_v V V (V_ixS (off := O15 + k) 1 (k) V (es V (et V)) (et V) hv15 (by omega) k15 Try.underlying86 (by kernel_rfl) (congrArg _ (Nat.mul_one _))) ?_
  refine W_r V V (VR_ldC V (et V) ((sl_SlN (S9.ro h_ev)).cell hv15 (map_get hy15)) Try.underlying28 V) ?_
  refine W_v V V (xbS (n := 3) (z := .agg #[.int .i64 0, .bool false, .int .u64 0]) V (parts1 (et V))) ?_
  have hll16 : [(AnC.mk y15 false 0)].length = 1 := rfl
  refine xsL (vs := [.agg #[.int .i64 (y15), .bool false, .int .u64 0]]) (xs := ([(AnC.mk y15 false 0)].flatMap anC)) 3 S9 V V V (parts1 (et V)) Try.underlying37 (fun g16 w16 c16 hc16 S16 => ?_)
  replace hc16 : c16 = ro 3 anC (.slice (some ⟨g16, 0, none⟩) 1 1) [(AnC.mk y15 false 0)] := hc16
  replace S16 : St w NoX [c16, c8_9] w16 := S16
  refine W_appS 3 1 S16 V hc8_9 V V V (es6 V (et V)) (et V) Try.underlying37 Try.underlying37 (z := .agg #[.int .i64 0, .bool false, .int .u64 0]) (bytes := 24) (by kernel_rfl) V (by decide) (ow_at (S16.chq 0 V hc16)) (ones_r anC_one) (by simp [List.length_take]; omega) (by simp [List.length_take]; omega) (fun v17 w17 c17 hc17 S17 => ?_)
  replace hc17 : c17 = ro 3 anC v17 (((ei.take k).map fun x : Int => AnC.mk x false 0) ++ [(AnC.mk y15 false 0)]) := hc17.trans (app_eqR (by first | (simp; done) | (rw [List.take_of_length_le (l := List.drop _ _) (by rw [List.length_drop]; exact Nat.le_refl _)])))
  replace S17 : St w NoX [c16, c17] w17 := S17
  refine W_v V V (V_asg V (et V)) ?_
  refine W_end (gen_Q fun A18 E18 => ?_)
  have Y18 := szq E18
  have F18 := fsE E18 (ck (cq8 (fx1 F12) V) V V)
  clear E18 Y12 F12
  have S19 : St w NoX [c17] w17 := S17.sel [1] (by decide) V
  refine inb_n (tk H14 ?_)
  refine region_in ?_
  refine W_v V V (V_mov V (fg1 F18)) ?_
  refine W_v V V (V_add V (et V) V (by omega) (by omega)) ?_
  refine W_v V V (V_asg V (et V)) ?_
  refine W_end (gen_Q fun A20 E20 => ?_)
  have Y20 := szq E20
  have F20 := fsE E20 (ck (cq2 (fx1 F18) V) V V)
  clear E20 Y18 F18
  refine then_n ⟨ei.length - (k + 1), by simp only [hm9]; omega, Y20, F20.d, (k + 1), v17, rfl, (by omega), (((fg0 F20)).trans (by first | rfl | (simp; done) | (congr 1; omega))), (((fg1 F20)).trans (by first | rfl | (simp; done) | (congr 1; omega))), (((fg2 F20)).trans (fg2 F7).symm), (by have q0 : c17 = ro 3 anC v17 ((ei.take (k + 1)).map fun x : Int => AnC.mk x false 0) := hc17.trans ((congrArg (ro 3 anC _) (Ml.tk_snoc hy15).symm)); subst q0; exact S19)⟩
 refine wp_exit (then_exit (then_exit ?_))
 refine inb_hit ?_
 refine tk H5 (wp_seq_k fun K21 H21 => region_in ?_)
 refine W_v V V (V_mov V (fg1 F12)) (W_v V V (V_asg V (et V)) ?_)
 refine W_end (gen_Q fun A22 E22 => ?_)
 have Y22 := szq E22
 have F22 := fsE E22 (ck (cq1 F12 V) V V)
 clear E22 Y12 F12
 refine tk H21 (wp_ret ?_)
 refine ret_in (results_1 Try.results20 (rv_tmp (fg0 F22))) F22.d ?_
 exact ⟨_, rfl, (S9.fin1 0 V (hc8_9.trans (by rw [List.take_of_length_le (by omega)])))⟩

set_option maxHeartbeats 4000000 in
theorem ksm29_c {xv : Value} {xs : List AnC} {yv : Value} {ys : List AnC} {w : World} (h_xv : Ro w NoX (rl 3 anC xv xs)) (h_yv : Ro w NoX (rl 3 anC yv ys))  :
  Calls Try.prog 14 #[xv, yv] w fun e w' => e = .returned (.bool (decide (xs = ys))) ∧ St w NoX [] w' := by
 refine calls_in 26 Try.func14 V V (by simp) (fun A0 Y0 hdf0 hargs => ?_)
 have l0_0 := hargs 0 (xv) V
 have l1_0 := hargs 1 (yv) V
 clear hargs; replace Y0 : SzN A0 26 := ⟨Y0⟩
 have hS := St.nil w
 have bh_xv := SlN.le (sl_SlN h_xv.at)
 have bh_yv := SlN.le (sl_SlN h_yv.at)
 refine wp_seq_k fun K1 H1 => region_in ?_
 refine W_v V V (V_asg V V) ?_
 refine W_end (gen_Q fun A2 E2 => ?_)
 have Y2 := szq E2
 have F2 := ((fsE E2 (cq1 (FS.n hdf0) V)).c (lookE E2 0 (es V l0_0))).c (lookE E2 1 (es V l1_0))
 clear E2 Y0 hdf0 l0_0 l1_0
 refine tk H1 (wp_seq_k fun K3 H3 => ?_)
 refine wp_seq_k fun K4 H4 => region_in ?_
 refine W_v V V (V_mov V (fg1 F2)) ?_
 refine W_v V V (V_lenS V (et V) (sl_SlN h_xv.at) Try.underlying37) ?_
 refine W_v V V (V_mov V (es2 V (fg0 F2))) ?_
 refine W_v V V (V_lenS V (et V) (sl_SlN h_yv.at) Try.underlying37) ?_
 refine W_v V V (V_neq V (es2 V (et V)) (et V)) ?_
 refine W_end (gen_Q fun A5 E5 => ?_)
 have Y5 := szq E5
 have F5 := fsE E5 (ck (cq4 F2 V) V V)
 clear E5 Y2 F2
 refine tk H4 ?_
 refine cond_dec (fg0 F5) (fun c6 => ?_) (fun c6 => ?_)
 ·refine wp_seq_k fun K7 H7 => region_in ?_
  refine W_v V V (V_asg V V) ?_
  refine W_end (gen_Q fun A8 E8 => ?_)
  have Y8 := szq E8
  have F8 := fsE E8 (ck F5 V V)
  clear E8 Y5 F5
  refine tk H7 (wp_ret (then_ret ?_))
  refine ret_in (results_1 Try.results14 (rv_tmp (fg0 F8))) F8.d ?_
  rw [decide_eq_false (show ¬ xs = ys from fun q => absurd (congrArg List.length q) (by omega))]
  exact ⟨rfl, hS.fin0⟩
 have hl : xs.length = ys.length := by omega
 refine wp_skip ?_
 refine tk H3 (wp_seq_k fun K9 H9 => ?_)
 refine wp_seq_k fun K10 H10 => region_in ?_
 refine W_v V V (V_asg V V) ?_
 refine W_end (gen_Q fun A11 E11 => ?_)
 have Y11 := szq E11
 have F11 := fsE E11 (ck F5 V V)
 clear E11 Y5 F5
 refine tk H10 (wp_block ?_)
 -- loop 4
 refine loopX (fun mz A' w' => SzN A' 26 ∧ A'.defers = [] ∧ (∃ (k : Nat), (mz = xs.length - k) ∧ (k ≤ xs.length) ∧ (∀ i, i < k → xs[i]? = ys[i]?) ∧ (EV A' (.tmp 5) = .int .i64 (k : Int)) ∧ (EV A' (.tmp 0) = EV A11 (.tmp 0)) ∧ (EV A' (.tmp 1) = EV A11 (.tmp 1)) ∧ (St w NoX [] w'))) (xs.length - 0) ⟨Y11, F11.d, 0, rfl, (by omega), (fun i hi => by omega), (((fg0 F11)).trans (by first | rfl | (simp; done) | (congr 1; omega))), rfl, rfl, hS⟩ ?_
 clear hS
 rintro n12 A12 w12 ⟨Y12, hdf12, k, hm12, hk, hz, l5_12, u0_12, u1_12, S12⟩
 have l0_12 := u0_12.trans (fg3 F11)
 have l1_12 := u1_12.trans (fg2 F11)
 refine wp_seq_k fun K13 H13 => ?_
 refine wp_seq_k fun K14 H14 => region_in ?_
 refine W_v V V (V_mov V l5_12) (W_v V V (V_mov V (es V l0_12)) ?_)
 refine W_v V V (V_lenS V (et V) (sl_SlN h_xv.at) Try.underlying37) ?_
 refine W_v V V (V_lss V (es2 V (et V)) (et V)) ?_
 refine W_end (gen_Q fun A15 E15 => ?_)
 have Y15 := szq E15
 have F15 := (((fsE E15 (ck (cq3 (FS.n hdf12) V) V V)).c (lookE E15 0 (es4 V l0_12))).c (lookE E15 1 (es4 V l1_12))).c (lookE E15 5 (es4 V l5_12))
 clear E15 Y12 hdf12 l5_12 l0_12 l1_12
 refine tk H14 ?_
 refine cond_dec (fg3 F15) (fun c16 => ?_) (fun c16 => ?_)
 ·refine wp_skip ?_
  refine tk H13 (wp_seq_k fun K17 H17 => ?_)
  refine wp_block ?_
  refine wp_seq_k fun K18 H18 => ?_
  refine region_monoS 9 9 [] (by kernel_rfl) (by kernel_rfl) ?_
  refine D_v V V (V_mov V (fg2 F15)) V V ?_
  refine D_v V V (V_mov V (es V (fg0 F15))) V V ?_
  have k19 : k < xs.length := by first | omega | (simp only [List.length_cons, List.length_nil]; omega) | (simp only [List.length_set]; omega) | decide
  obtain ⟨y19, hy19⟩ := get_some (xs := xs) (k := k) k19
  obtain ⟨B19, O19, C19, hv19⟩ := (SlN.blk (sl_SlN h_xv.at) (by first | omega | (simp only [List.length_cons, List.length_nil]; omega) | (simp only [List.length_set]; omega) | decide))
  refine D_v V V (V_ixS (off := O19 + k * 3) 3 (k) V (es V (et V)) (et V) hv19 (by omega) k19 Try.underlying37 (by kernel_rfl) V) V V ?_
  refine D_r V V (by kernel_rfl) (fun sx hx hF => (VR_ldR (ys := anC y19) V (et V) (SlN.row anC_len (sl_SlN ((S12.grow hx).ro h_xv)) hv19 hy19 V) Try.underlying44 V (by kernel_rfl))) V V ?_
  refine D_v V V (V_mov V (es4 V (fg1 F15))) V V ?_
  refine D_v V V (V_mov V (es5 V (fg0 F15))) V V ?_
  have k20 : k < ys.length := by first | omega | (simp only [List.length_cons, List.length_nil]; omega) | (simp only [List.length_set]; omega) | decide
  obtain ⟨y20, hy20⟩ := get_some (xs := ys) (k := k) k20
  obtain ⟨B20, O20, C20, hv20⟩ := (SlN.blk (sl_SlN h_yv.at) (by first | omega | (simp only [List.length_cons, List.length_nil]; omega) | (simp only [List.length_set]; omega) | decide))
  refine D_v V V (V_ixS (off := O20 + k * 3) 3 (k) V (es V (et V)) (et V) hv20 (by omega) k20 Try.underlying37 (by kernel_rfl) V) V V ?_
  refine D_r V V (by kernel_rfl) (fun sx hx hF => (VR_ldR (ys := anC y20) V (et V) (SlN.row anC_len (sl_SlN ((S12.grow hx).ro h_yv)) hv20 hy20 V) Try.underlying44 V (by kernel_rfl))) V V ?_
  refine D_v V V (V_neStA V (es4 V (et V)) (et V) (by kernel_rfl)) V V ?_
  refine ZS_none S12 (Nat.le_refl _) (Nat.le_refl _) (fun s21 hJ21 hL21 hF21 => ?_)
  have S21 := hJ21.st; clear hF21 hJ21 hL21
  generalize s21.1 = w21 at *
  replace S21 : St w NoX [] w21 := S21
  refine gen_Q (fun A22 E22 => ?_)
  have Y22 := szq E22
  have F22 := fsE E22 (ck (cq8 F15 V) V V)
  clear E22 Y15 F15
  refine tk H18 ?_
  refine cond_dec (fg0 F22) (fun c23 => ?_) (fun c23 => ?_)
  ·refine wp_seq_k fun K24 H24 => region_in ?_
   refine W_v V V (V_asg V V) ?_
   refine W_end (gen_Q fun A25 E25 => ?_)
   have Y25 := szq E25
   have F25 := fsE E25 (ck F22 V V)
   clear E25 Y22 F22
   refine tk H24 (wp_ret (inb_ret (then_ret (then_ret (inb_ret (then_ret ?_))))))
   refine ret_in (results_1 Try.results14 (rv_tmp (fg0 F25))) F25.d ?_
   rw [decide_eq_false (show ¬ xs = ys from eqA_ne hy19 hy20 (fun q => c23 (anIff.1 q)))]
   exact ⟨rfl, S21.fin0⟩
  refine wp_skip (inb_n (tk H17 ?_))
  refine region_in ?_
  refine W_v V V (V_mov V (fg1 F22)) ?_
  refine W_v V V (V_add V (et V) V (by omega) (by omega)) ?_
  refine W_v V V (V_asg V (et V)) ?_
  refine W_end (gen_Q fun A26 E26 => ?_)
  have Y26 := szq E26
  have F26 := fsE E26 (ck (cq2 (fx1 F22) V) V V)
  clear E26 Y22 F22
  refine then_n ⟨xs.length - (k + 1), by simp only [hm12]; omega, Y26, F26.d, (k + 1), rfl, (by omega), (eqA_step hz hy19 hy20 (anIff.2 (by simpa using c23))), (((fg0 F26)).trans (by first | rfl | (simp; done) | (congr 1; omega))), (((fg3 F26)).trans (fg3 F11).symm), (((fg2 F26)).trans (fg2 F11).symm), S21⟩
 refine wp_exit (then_exit (then_exit ?_))
 refine inb_hit ?_
 refine tk H9 (wp_seq_k fun K27 H27 => region_in ?_)
 refine W_v V V (V_asg V V) ?_
 refine W_end (gen_Q fun A28 E28 => ?_)
 have Y28 := szq E28
 have F28 := fsE E28 (ck F15 V V)
 clear E28 Y15 F15
 refine tk H27 (wp_ret ?_)
 refine ret_in (results_1 Try.results14 (rv_tmp (fg0 F28))) F28.d ?_
 rw [decide_eq_true (show xs = ys from eqA_all hl (by omega) hz)]
 exact ⟨rfl, S12.fin0⟩

set_option maxHeartbeats 4000000 in
theorem kshn_c  {w : World}   :
  Calls Try.prog 9 #[] w fun e w' => e = .returned (.bool true) ∧ St w NoX [] w' := by
 refine calls_in 118 Try.func9 V V (by simp) (fun A0 Y0 hdf0 hargs => ?_)
 clear hargs; replace Y0 : SzN A0 118 := ⟨Y0⟩
 have hS := St.nil w
 refine wp_seq_k fun K1 H1 => region_in ?_
 refine W_v V V (V_asg V V) ?_
 refine W_end (gen_Q fun A2 E2 => ?_)
 have Y2 := szq E2
 have F2 := fsE E2 (cq1 (FS.n hdf0) V)
 clear E2 Y0 hdf0
 refine tk H1 (wp_seq_k fun K3 H3 => region_in ?_)
 refine W_call V V V Try.func17 (by kernel_rfl) V (args0) (kcf29_c  ) ?_
 rintro _ w4 ⟨rfl, hP4⟩
 refine ⟨_, rfl, ?_⟩
 have S4 := hS.join hP4
 replace S4 : St w NoX [] w4 := S4
 refine W_call V V V Try.func18 (by kernel_rfl) V (args0) (scr_c  ) ?_
 rintro _ w5 ⟨v_5, rfl, hP5⟩
 refine ⟨_, rfl, ?_⟩
 obtain ⟨c_5, hc_5, hP5⟩ := gen1 hP5
 have S5 := S4.join hP5
 replace S5 : St w NoX [c_5] w5 := S5
 refine W_allocS (z := .agg #[.int .i64 0, .int .i64 0, .int .i64 0, .int .i64 0, .int .i64 0]) (zs := #[.int .i64 0, .int .i64 0, .int .i64 0, .int .i64 0, .int .i64 0]) S5 V V V (by kernel_rfl) (by rfl) (fun g6 w6 c6 hc6 S6 => ?_)
 replace S6 : St w NoX [c6, c_5] w6 := S6
 refine xsA 0 S6 V hc6 V V V (et V) (es2 V (et V)) (fun w7 c7 hc7 S7 => ?_)
 replace S7 : St w NoX [c7, c_5] w7 := S7
 refine W_v V V (V_asg V (es V (et V))) ?_
 refine W_end (gen_Q fun A8 E8 => ?_)
 have Y8 := szq E8
 have F8 := fsE E8 (ck (ck (cq2 F2 V) V V) V V)
 clear E8 Y2 F2
 refine tk H3 (wp_seq_k fun K9 H9 => region_in ?_)
 refine W_r V V (VR_ldA V (fg1 F8) (S7.obj 0 V hc7) Try.underlying23 V (by kernel_rfl)) ?_
 refine W_v V V (V_mov V (es V (fg0 F8))) ?_
 refine W_call V V V Try.func12 (by kernel_rfl) V (args3 (es V (et V)) (et V) V) (kPl_c (C := 8) (N := 8) (Z := 6) (K := 2) (Q := 2) (full := []) (fv := .slice none 0 0) (S7.chC 1 V hc_5).own ro_nil ) ?_
 rintro _ w10 (⟨rfl, hz_10, hP10⟩ | ⟨G_10, av_10, rfl, hz_10, hg_10, hP10⟩)
 ·refine ⟨_, rfl, ?_⟩
  have S10 := S7.join hP10
  replace S10 : St w NoX [c7, c_5] w10 := S10
  exact absurd (by decide +kernel) hz_10
 refine ⟨_, rfl, ?_⟩
 obtain ⟨cK_10, cA_10, hcK_10, hcA_10, hP10⟩ := gen2 hP10
 have S10 := S7.join hP10
 replace S10 : St w NoX [cK_10, cA_10, c7, c_5] w10 := S10
 refine W_v V V (V_mov V (et V)) ?_
 refine W_v V V (V_ext (v := .agg #[G_10.1.1, G_10.2.1]) V (et V) V) ?_
 refine W_v V V (V_ext (v := av_10) V (es V (et V)) V) ?_
 refine W_v V V (V_ext (v := .int .i64 0) V (es2 V (et V)) V) ?_
 refine W_v V V (V_ext (v := .int .i64 0) V (es3 V (et V)) V) ?_
 refine W_allocS (z := .agg #[.slice none 0 0, .slice none 0 0]) (zs := #[.slice none 0 0, .slice none 0 0]) S10 V V V (by kernel_rfl) (by rfl) (fun g11 w11 c11 hc11 S11 => ?_)
 replace S11 : St w NoX [c11, cK_10, cA_10, c7, c_5] w11 := S11
 refine xsB 0 S11 V hc11 V V V (et V) (es4 V (et V)) (by simp only [List.all_toArray, List.all_cons, List.all_nil, SlN_one (sl_SlN (gl_oa m1 (S11.chq 1 V hcK_10))), SlN_one (sl_SlN (gl_ra m1 (S11.chq 1 V hcK_10)))] <;> rfl) (fun w12 c12 hc12 S12 => ?_)
 replace S12 : St w NoX [c12, cK_10, cA_10, c7, c_5] w12 := S12
 refine W_v V V (V_asg V (es3 V (et V))) (W_v V V (V_asg V (es3 V (et V))) (W_v V V (V_asg V (es3 V (et V))) ?_))
 refine W_end (gen_Q fun A13 E13 => ?_)
 have Y13 := szq E13
 have F13 := fsE E13 (ck (cq1 (ck (cq1 (cq8 F8 V) V) V V) V) V V)
 clear E13 Y8 F8
 have S14 : St w NoX [cK_10, cA_10, c7, c_5] w12 := S12.sel [1, 2, 3, 4] (by decide) V
 refine tk H9 (wp_seq_k fun K15 H15 => region_in ?_)
 refine W_r V V (VR_ldA V (fg3 F13) (S14.obj 2 V hc7) Try.underlying23 V (by kernel_rfl)) ?_
 refine W_v V V (V_mov V (es V (fg2 F13))) ?_
 refine W_call V V V Try.func10 (by kernel_rfl) V (args3 (es V (et V)) (et V) V) (kLi_c (C := 8) (N := 8) (Z := 6) (K := 2) (Q := 2) (full := []) (fv := .slice none 0 0) (S14.chC 3 V hc_5).own ro_nil ) ?_
 rintro _ w16 (⟨rfl, hz_16, hP16⟩ | ⟨lw_16, rfl, hz_16, hP16⟩)
 ·refine ⟨_, rfl, ?_⟩
  have S16 := S14.join hP16
  replace S16 : St w NoX [cK_10, cA_10, c7, c_5] w16 := S16
  exact absurd (by decide +kernel) hz_16
 refine ⟨_, rfl, ?_⟩
 obtain ⟨cL_16, hcL_16, hP16⟩ := gen1 hP16
 have S16 := S14.join hP16
 replace S16 : St w NoX [cL_16, cK_10, cA_10, c7, c_5] w16 := S16
 refine W_v V V (V_mov V (et V)) ?_
 refine W_v V V (V_ext (v := lw_16) V (et V) V) ?_
 refine W_v V V (V_ext (v := .int .i64 0) V (es V (et V)) V) ?_
 refine W_v V V (V_asg V (es V (et V))) (W_v V V (V_asg V (es V (et V))) ?_)
 refine W_end (gen_Q fun A17 E17 => ?_)
 have Y17 := szq E17
 have F17 := fsE E17 (ck (ck (cq6 F13 V) V V) V V)
 clear E17 Y13 F13
 refine tk H15 (wp_seq_k fun K18 H18 => region_in ?_)
 refine W_r V V (VR_ldA V (fg5 F17) (S16.obj 3 V hc7) Try.underlying23 V (by kernel_rfl)) ?_
 refine W_v V V (V_mov V (es V (fg4 F17))) ?_
 refine W_call V V V Try.func11 (by kernel_rfl) V (args5 (es V (et V)) (et V) V V V) (kLf_c (C := 8) (N := 8) (Z := 6) (K := 2) (Q := 2) (full := []) (fv := .slice none 0 0) (a := 4) (b := 8) (S16.chC 4 V hc_5).own ro_nil ) ?_
 rintro _ w19 ⟨rfl, hP19⟩
 refine ⟨_, rfl, ?_⟩
 have S19 := S16.join hP19
 replace S19 : St w NoX [cL_16, cK_10, cA_10, c7, c_5] w19 := S19
 refine W_v V V (V_mov V (et V)) ?_
 refine W_v V V (V_ext (v := .int .i64 ((lfF (cfE 8 8 6 2 2) (lgN 8 8 6 2 2) 2 scr [] 4 8).1)) V (et V) V) ?_
 refine W_v V V (V_ext (v := .int .i64 ((lfF (cfE 8 8 6 2 2) (lgN 8 8 6 2 2) 2 scr [] 4 8).2)) V (es V (et V)) V) ?_
 refine W_v V V (V_asg V (es V (et V))) (W_v V V (V_asg V (es V (et V))) ?_)
 refine W_end (gen_Q fun A20 E20 => ?_)
 have Y20 := szq E20
 have F20 := fsE E20 (ck (ck (cq6 F17 V) V V) V V)
 clear E20 Y17 F17
 refine tk H18 (wp_seq_k fun K21 H21 => region_in ?_)
 refine W_r V V (VR_ldA V (fg7 F20) (S19.obj 3 V hc7) Try.underlying23 V (by kernel_rfl)) ?_
 refine W_v V V (V_mov V (es V (fg6 F20))) ?_
 refine W_call V V V Try.func11 (by kernel_rfl) V (args5 (es V (et V)) (et V) V V V) (kLf_c (C := 8) (N := 8) (Z := 6) (K := 2) (Q := 2) (full := []) (fv := .slice none 0 0) (a := 6) (b := 8) (S19.chC 4 V hc_5).own ro_nil ) ?_
 rintro _ w22 ⟨rfl, hP22⟩
 refine ⟨_, rfl, ?_⟩
 have S22 := S19.join hP22
 replace S22 : St w NoX [cL_16, cK_10, cA_10, c7, c_5] w22 := S22
 refine W_v V V (V_mov V (et V)) ?_
 refine W_v V V (V_ext (v := .int .i64 ((lfF (cfE 8 8 6 2 2) (lgN 8 8 6 2 2) 2 scr [] 6 8).1)) V (et V) V) ?_
 refine W_v V V (V_ext (v := .int .i64 ((lfF (cfE 8 8 6 2 2) (lgN 8 8 6 2 2) 2 scr [] 6 8).2)) V (es V (et V)) V) ?_
 refine W_v V V (V_asg V (es V (et V))) (W_v V V (V_asg V (es V (et V))) ?_)
 refine W_end (gen_Q fun A23 E23 => ?_)
 have Y23 := szq E23
 have F23 := fsE E23 (ck (ck (cq6 F20 V) V V) V V)
 clear E23 Y20 F20
 refine tk H21 (wp_seq_k fun K24 H24 => region_in ?_)
 refine W_r V V (VR_ldA V (fg9 F23) (S22.obj 3 V hc7) Try.underlying23 V (by kernel_rfl)) ?_
 refine W_v V V (V_mov V (es V (fg8 F23))) ?_
 have hll25 : [1].length = 1 := rfl
 refine xsL (vs := [.int .i64 1]) (xs := ([1].map (Value.int .i64))) 1 S22 V V V (parts1 V) Try.underlying25 (fun g25 w25 c25 hc25 S25 => ?_)
 replace hc25 : c25 = io .i64 (.slice (some ⟨g25, 0, none⟩) 1 1) [1] := hc25
 replace S25 : St w NoX [c25, cL_16, cK_10, cA_10, c7, c_5] w25 := S25
 refine W_call V V V Try.func12 (by kernel_rfl) V (args3 (es2 V (et V)) (es V (et V)) (et V)) (kPl_c (C := 8) (N := 8) (Z := 6) (K := 2) (Q := 2) (S25.chC 5 V hc_5).own (S25.chC 0 V hc25).own ) ?_
 rintro _ w26 (⟨rfl, hz_26, hP26⟩ | ⟨G_26, av_26, rfl, hz_26, hg_26, hP26⟩)
 ·refine ⟨_, rfl, ?_⟩
  have S26 := S25.join hP26
  replace S26 : St w NoX [c25, cL_16, cK_10, cA_10, c7, c_5] w26 := S26
  exact absurd (by decide +kernel) hz_26
 refine ⟨_, rfl, ?_⟩
 obtain ⟨cK_26, cA_26, hcK_26, hcA_26, hP26⟩ := gen2 hP26
 have S26 := S25.join hP26
 replace S26 : St w NoX [cK_26, cA_26, c25, cL_16, cK_10, cA_10, c7, c_5] w26 := S26
 refine W_v V V (V_mov V (et V)) ?_
 refine W_v V V (V_ext (v := .agg #[G_26.1.1, G_26.2.1]) V (et V) V) ?_
 refine W_v V V (V_ext (v := av_26) V (es V (et V)) V) ?_
 refine W_v V V (V_ext (v := .int .i64 0) V (es2 V (et V)) V) ?_
 refine W_v V V (V_ext (v := .int .i64 0) V (es3 V (et V)) V) ?_
 refine W_allocS (z := .agg #[.slice none 0 0, .slice none 0 0]) (zs := #[.slice none 0 0, .slice none 0 0]) S26 V V V (by kernel_rfl) (by rfl) (fun g27 w27 c27 hc27 S27 => ?_)
 replace S27 : St w NoX [c27, cK_26, cA_26, c25, cL_16, cK_10, cA_10, c7, c_5] w27 := S27
 refine xsB 0 S27 V hc27 V V V (et V) (es4 V (et V)) (by simp only [List.all_toArray, List.all_cons, List.all_nil, SlN_one (sl_SlN (gl_oa m1 (S27.chq 1 V hcK_26))), SlN_one (sl_SlN (gl_ra m1 (S27.chq 1 V hcK_26)))] <;> rfl) (fun w28 c28 hc28 S28 => ?_)
 replace S28 : St w NoX [c28, cK_26, cA_26, c25, cL_16, cK_10, cA_10, c7, c_5] w28 := S28
 refine W_v V V (V_asg V (es3 V (et V))) (W_v V V (V_asg V (es3 V (et V))) (W_v V V (V_asg V (es3 V (et V))) ?_))
 refine W_end (gen_Q fun A29 E29 => ?_)
 have Y29 := szq E29
 have F29 := fsE E29 (ck (cq1 (ck (cq2 (cq8 F23 V) V) V V) V) V V)
 clear E29 Y23 F23
 have S30 : St w NoX [cK_26, cA_26, cL_16, cK_10, cA_10, c7, c_5] w28 := S28.sel [1, 2, 4, 5, 6, 7, 8] (by decide) V
 refine tk H24 (wp_seq_k fun K31 H31 => region_in ?_)
 refine W_r V V (VR_ldA V (fg11 F29) (S30.obj 5 V hc7) Try.underlying23 V (by kernel_rfl)) ?_
 refine W_v V V (V_mov V (es V (fg10 F29))) ?_
 have hll32 : [2].length = 1 := rfl
 refine xsL (vs := [.int .i64 2]) (xs := ([2].map (Value.int .i64))) 1 S30 V V V (parts1 V) Try.underlying25 (fun g32 w32 c32 hc32 S32 => ?_)
 replace hc32 : c32 = io .i64 (.slice (some ⟨g32, 0, none⟩) 1 1) [2] := hc32
 replace S32 : St w NoX [c32, cK_26, cA_26, cL_16, cK_10, cA_10, c7, c_5] w32 := S32
 refine W_call V V V Try.func12 (by kernel_rfl) V (args3 (es2 V (et V)) (es V (et V)) (et V)) (kPl_c (C := 8) (N := 8) (Z := 6) (K := 2) (Q := 2) (S32.chC 7 V hc_5).own (S32.chC 0 V hc32).own ) ?_
 rintro _ w33 (⟨rfl, hz_33, hP33⟩ | ⟨G_33, av_33, rfl, hz_33, hg_33, hP33⟩)
 ·refine ⟨_, rfl, ?_⟩
  have S33 := S32.join hP33
  replace S33 : St w NoX [c32, cK_26, cA_26, cL_16, cK_10, cA_10, c7, c_5] w33 := S33
  refine W_v V V (V_mov V (et V)) ?_
  refine W_v V V (V_ext (v := .agg #[.slice none 0 0, .slice none 0 0]) V (et V) V) ?_
  refine W_v V V (V_ext (v := .slice none 0 0) V (es V (et V)) V) ?_
  refine W_v V V (V_ext (v := .int .i64 ((plF (cfE 8 8 6 2 2) (lgN 8 8 6 2 2) 2 scr [2]).1)) V (es2 V (et V)) V) ?_
  refine W_v V V (V_ext (v := .int .i64 ((plF (cfE 8 8 6 2 2) (lgN 8 8 6 2 2) 2 scr [2]).2)) V (es3 V (et V)) V) ?_
  refine W_allocS (z := .agg #[.slice none 0 0, .slice none 0 0]) (zs := #[.slice none 0 0, .slice none 0 0]) S33 V V V (by kernel_rfl) (by rfl) (fun g34 w34 c34 hc34 S34 => ?_)
  replace S34 : St w NoX [c34, c32, cK_26, cA_26, cL_16, cK_10, cA_10, c7, c_5] w34 := S34
  refine xsA 0 S34 V hc34 V V V (et V) (es4 V (et V)) (fun w35 c35 hc35 S35 => ?_)
  replace S35 : St w NoX [c35, c32, cK_26, cA_26, cL_16, cK_10, cA_10, c7, c_5] w35 := S35
  refine W_v V V (V_asg V (es3 V (et V))) (W_v V V (V_asg V (es3 V (et V))) (W_v V V (V_asg V (es3 V (et V))) ?_))
  refine W_end (gen_Q fun A36 E36 => ?_)
  have Y36 := szq E36
  have F36 := fsE E36 (ck (ck (cq3 (cq8 F29 V) V) V V) V V)
  clear E36 Y29 F29
  have S37 : St w NoX [cK_26, cA_26, cL_16, cK_10, cA_10] w35 := S35.sel [2, 3, 4, 5, 6] (by decide) V
  refine tk H31 (wp_seq_k fun K38 H38 => region_in ?_)
  refine W_v V V (V_mov V (fg11 F36)) ?_
  have hll39 : [0, 0, 0, 0, 0, 0, 11, 10].length = 8 := rfl
  refine xsL (vs := [.int .i64 0, .int .i64 0, .int .i64 0, .int .i64 0, .int .i64 0, .int .i64 0, .int .i64 11, .int .i64 10]) (xs := ([0, 0, 0, 0, 0, 0, 11, 10].map (Value.int .i64))) 1 S37 V V V (parts8 V V V V V V V V) Try.underlying86 (fun g39 w39 c39 hc39 S39 => ?_)
  replace hc39 : c39 = io .i64 (.slice (some ⟨g39, 0, none⟩) 8 8) [0, 0, 0, 0, 0, 0, 11, 10] := hc39
  replace S39 : St w NoX [c39, cK_26, cA_26, cL_16, cK_10, cA_10] w39 := S39
  refine W_call V V V Try.func20 (by kernel_rfl) V (args1 (et V)) (kas_29 (S39.chC 0 V hc39).own (by first | with_reducible assumption | decide | (simp; done) | omega)) ?_
  rintro _ w40 ⟨v_40, rfl, hP40⟩
  refine ⟨_, rfl, ?_⟩
  obtain ⟨c_40, hc_40, hP40⟩ := gen1 hP40
  have S40 := S39.join hP40
  replace S40 : St w NoX [c_40, c39, cK_26, cA_26, cL_16, cK_10, cA_10] w40 := S40
  refine W_call V V V Try.func14 (by kernel_rfl) V (args2 (es2 V (et V)) (et V)) (ksm29_c (S40.chC 6 V hcA_10).own (S40.chC 0 V hc_40).own ) ?_
  rintro _ w41 ⟨rfl, hP41⟩
  refine ⟨_, rfl, ?_⟩
  have S41 := S40.join hP41
  replace S41 : St w NoX [c_40, c39, cK_26, cA_26, cL_16, cK_10, cA_10] w41 := S41
  refine W_sure (c' := true) V V (V_mov V (et V)) (by decide +kernel) ?_
  refine W_v V (xwt V V (et V)) (V_mov V (es5 V (fg10 F36))) ?_
  refine W_v V (xwt V V (es V (et V))) (V_eql V (et V) V) ?_
  refine W_v V V (V_pickT V (es2 V (et V)) (et V)) ?_
  refine W_sure (c' := true) V V (V_mov V (et V)) (by simp) ?_
  refine W_v V (xwt V V (et V)) (V_mov V (es8 V (es V (fg9 F36)))) ?_
  have hll42 : [0, 3, 5, 5, 5, 5, 2, 2, 2].length = 9 := rfl
  refine xsL (vs := [.int .i64 0, .int .i64 3, .int .i64 5, .int .i64 5, .int .i64 5, .int .i64 5, .int .i64 2, .int .i64 2, .int .i64 2]) (xs := ([0, 3, 5, 5, 5, 5, 2, 2, 2].map (Value.int .i64))) 1 S41 V (xwt V V (es V (et V))) V (parts9 V V V V V V V V V) Try.underlying25 (fun g42 w42 c42 hc42 S42 => ?_)
  replace hc42 : c42 = io .i64 (.slice (some ⟨g42, 0, none⟩) 9 9) [0, 3, 5, 5, 5, 5, 2, 2, 2] := hc42
  replace S42 : St w NoX [c42, c_40, c39, cK_26, cA_26, cL_16, cK_10, cA_10] w42 := S42
  refine W_call V (xwt V V (es2 V (et V))) V Try.func21 (by kernel_rfl) V (args2 (es V (et V)) (et V)) (qInts_c (S42.chC 5 V hcL_16).own (S42.chC 0 V hc42).own ) ?_
  rintro _ w43 ⟨rfl, hP43⟩
  refine ⟨_, rfl, ?_⟩
  have S43 := S42.join hP43
  replace S43 : St w NoX [c42, c_40, c39, cK_26, cA_26, cL_16, cK_10, cA_10] w43 := S43
  refine W_v V V (V_pickT V (es3 V (et V)) (et V)) ?_
  refine W_sure (c' := true) V V (V_mov V (et V)) (by decide +kernel) ?_
  refine W_v V (xwt V V (et V)) (V_mov V (es8 V (es6 V (fg8 F36)))) ?_
  refine W_v V (xwt V V (es V (et V))) (V_eql V (et V) V) ?_
  refine W_v V V (V_pickT V (es2 V (et V)) (et V)) ?_
  refine W_sure (c' := true) V V (V_mov V (et V)) (by simp) ?_
  refine W_v V (xwt V V (et V)) (V_mov V (es8 V (es8 V (es2 V (fg7 F36))))) ?_
  refine W_v V (xwt V V (es V (et V))) (V_eql V (et V) V) ?_
  refine W_v V V (V_pickT V (es2 V (et V)) (et V)) ?_
  refine W_sure (c' := true) V V (V_mov V (et V)) (by decide +kernel) ?_
  refine W_v V (xwt V V (et V)) (V_mov V (es8 V (es8 V (es6 V (fg6 F36))))) ?_
  refine W_v V (xwt V V (es V (et V))) (V_eql V (et V) V) ?_
  refine W_v V V (V_pickT V (es2 V (et V)) (et V)) ?_
  refine W_sure (c' := true) V V (V_mov V (et V)) (by decide +kernel) ?_
  refine W_v V (xwt V V (et V)) (V_mov V (es8 V (es8 V (es8 V (es2 V (fg5 F36)))))) ?_
  refine W_v V (xwt V V (es V (et V))) (V_eql V (et V) V) ?_
  refine W_v V V (V_pickT V (es2 V (et V)) (et V)) ?_
  refine W_sure (c' := true) V V (V_mov V (et V)) (by decide +kernel) ?_
  refine W_v V (xwt V V (et V)) (V_mov V (es8 V (es8 V (es8 V (es6 V (fg4 F36)))))) ?_
  refine W_v V (xwt V V (es V (et V))) (V_eql V (et V) V) ?_
  refine W_v V V (V_pickT V (es2 V (et V)) (et V)) ?_
  refine W_sure (c' := true) V V (V_mov V (et V)) (by decide +kernel) ?_
  refine W_v V (xwt V V (et V)) (V_mov V (es8 V (es8 V (es8 V (es8 V (es2 V (fg3 F36))))))) ?_
  have hll44 : [0, 5, 0, 0, 0, 0, 11, 10].length = 8 := rfl
  refine xsL (vs := [.int .i64 0, .int .i64 5, .int .i64 0, .int .i64 0, .int .i64 0, .int .i64 0, .int .i64 11, .int .i64 10]) (xs := ([0, 5, 0, 0, 0, 0, 11, 10].map (Value.int .i64))) 1 S43 V (xwt V V (es V (et V))) V (parts8 V V V V V V V V) Try.underlying86 (fun g44 w44 c44 hc44 S44 => ?_)
  replace hc44 : c44 = io .i64 (.slice (some ⟨g44, 0, none⟩) 8 8) [0, 5, 0, 0, 0, 0, 11, 10] := hc44
  replace S44 : St w NoX [c44, c42, c_40, c39, cK_26, cA_26, cL_16, cK_10, cA_10] w44 := S44
  refine W_call V (xwt V V (es2 V (et V))) V Try.func20 (by kernel_rfl) V (args1 (et V)) (kas_29 (S44.chC 0 V hc44).own (by first | with_reducible assumption | decide | (simp; done) | omega)) ?_
  rintro _ w45 ⟨v_45, rfl, hP45⟩
  refine ⟨_, rfl, ?_⟩
  obtain ⟨c_45, hc_45, hP45⟩ := gen1 hP45
  have S45 := S44.join hP45
  replace S45 : St w NoX [c_45, c44, c42, c_40, c39, cK_26, cA_26, cL_16, cK_10, cA_10] w45 := S45
  refine W_call V (xwt V V (es3 V (et V))) V Try.func14 (by kernel_rfl) V (args2 (es2 V (et V)) (et V)) (ksm29_c (S45.chC 6 V hcA_26).own (S45.chC 0 V hc_45).own ) ?_
  rintro _ w46 ⟨rfl, hP46⟩
  refine ⟨_, rfl, ?_⟩
  have S46 := S45.join hP46
  replace S46 : St w NoX [c_45, c44, c42, c_40, c39, cK_26, cA_26, cL_16, cK_10, cA_10] w46 := S46
  refine W_v V V (V_pickT V (es4 V (et V)) (et V)) ?_
  refine W_sure (c' := true) V V (V_mov V (et V)) (by decide +kernel) ?_
  refine W_v V (xwt V V (et V)) (V_mov V (es8 V (es8 V (es8 V (es8 V (es8 V (fg2 F36))))))) ?_
  refine W_v V (xwt V V (es V (et V))) (V_eql V (et V) V) ?_
  refine W_v V V (V_pickT V (es2 V (et V)) (et V)) ?_
  refine W_sure (c' := true) V V (V_mov V (et V)) (by simp) ?_
  refine W_v V (xwt V V (et V)) (V_mov V (es8 V (es8 V (es8 V (es8 V (es8 V (es4 V (fg1 F36)))))))) ?_
  refine W_v V (xwt V V (es V (et V))) (V_eql V (et V) V) ?_
  refine W_v V V (V_pickT V (es2 V (et V)) (et V)) ?_
  refine W_sure (c' := true) V V (V_mov V (et V)) (by decide +kernel) ?_
  refine W_v V (xwt V V (et V)) (V_mov V (es8 V (es8 V (es8 V (es8 V (es8 V (es8 V (fg0 F36)))))))) ?_
  refine W_v V (xwt V V (es V (et V))) (V_eql V (et V) V) ?_
  refine W_v V V (V_pickT V (es2 V (et V)) (et V)) ?_
  refine W_v V V (V_asg V (et V)) ?_
  refine W_end (gen_Q fun A47 E47 => ?_)
  have Y47 := szq E47
  have F47 := fsE E47 (ck (cq3 (cq8 (cq8 (cq8 (cq8 (cq8 (cq8 F36 V) V) V) V) V) V) V) V V)
  clear E47 Y36 F36
  have S48 : St w NoX [cK_26, cK_10] w46 := S46.sel [5, 8] (by decide) V
  refine tk H38 (wp_ret ?_)
  refine ret_in (results_1 Try.results9 (rv_tmp (fg0 F47))) F47.d ?_
  rw [show true = decide ((plF (cfE 8 8 6 2 2) (lgN 8 8 6 2 2) 2 scr [2]).2 = 2) by first | rfl | decide +kernel]
  exact ⟨rfl, S48.fin0⟩
 refine ⟨_, rfl, ?_⟩
 obtain ⟨cK_33, cA_33, hcK_33, hcA_33, hP33⟩ := gen2 hP33
 have S33 := S32.join hP33
 replace S33 : St w NoX [cK_33, cA_33, c32, cK_26, cA_26, cL_16, cK_10, cA_10, c7, c_5] w33 := S33
 exact absurd hz_33 (by decide +kernel)

end Go.Proofs.Ytpgkfndbfocibaa