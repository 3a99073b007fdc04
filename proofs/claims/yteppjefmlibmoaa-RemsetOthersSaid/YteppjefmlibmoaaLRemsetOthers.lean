import Derived.Test.YteppjefmlibmoaaProg
import Derived.Test.YteppjefmlibmoaaRl8
import Derived.Test.YteppjefmlibmoaaRl9
namespace Go.Proofs.Yteppjefmlibmoaa
open Go.RowKit Go.Own Go.Own.R Go.Own.S Go.Own.E


set_option maxHeartbeats 4000000 in
theorem RemsetOthers_c {C : Int} {N : Int} {Z : Int} {K : Int} {Q : Int} {cv : Value} {X : List (List Int)} {nv : Value} {ns : List Int} {slot : Int} {t : Int} {w : World} (h_cv : Ro w NoX (rmR cv X)) (h_nv : Ro w NoX (il .i64 nv ns))  :
  Calls Try.prog 5 #[.agg #[.int .i64 C, .int .i64 N, .int .i64 Z, .int .i64 K, .int .i64 Q, cv, nv], .int .i64 slot, .int .i64 t] w fun e w' => e = .returned (.bool true) ∧ St w NoX [] w' := by
 obtain ⟨Xu, hXu, k_cv, n_cv⟩ := rmR_open h_cv
 subst hXu
 have b_cv := SlN.le (sl_SlN k_cv.at)
 refine calls_in 182 Try.func5 rfl rfl (by simp) (fun A0 Y0 hdf0 hargs => ?_)
 have l0_0 := hargs 0 (.agg #[.int .i64 C, .int .i64 N, .int .i64 Z, .int .i64 K, .int .i64 Q, cv, nv]) rfl
 have l1_0 := hargs 1 (.int .i64 slot) rfl
 have l2_0 := hargs 2 (.int .i64 t) rfl
 clear hargs; replace Y0 : SzN A0 182 := ⟨Y0⟩
 have hS := St.nil w
 have bh_nv := SlN.le (sl_SlN h_nv.at)
 have bk_cv := SlN.le (sl_SlN k_cv.at)
 refine wp_seq_k fun K1 H1 => ?_
 refine region_in ?_
 refine W_boxS (zs := #[.int .i64 (C), .int .i64 (N), .int .i64 (Z), .int .i64 (K), .int .i64 (Q), cv, nv]) hS rfl rfl rfl l0_0 (by rfl) (fun g2 w2 c2 hc2 S2 => ?_)
 replace S2 : St w NoX [c2] w2 := S2
 refine W_v rfl rfl (V_asg rfl rfl) ?_
 refine W_end (gen_Q fun A3 E3 => ?_)
 have Y3 := szq E3
 have F3 := ((fsE E3 (cq1 (ck (FS.n hdf0) rfl rfl) rfl)).c (lookE E3 1 (es2 rfl l1_0))).c (lookE E3 2 (es2 rfl l2_0))
 clear E3 Y0 hdf0 l0_0 l1_0 l2_0
 refine tk H1 ?_
 refine wp_seq_k fun K4 H4 => ?_
 refine wp_seq_k fun K5 H5 => ?_
 refine region_in ?_
 refine W_v rfl rfl (V_fa (off' := 5) rfl (fg2 F3) Try.underlying31 rfl (by decide +kernel) rfl) ?_
 refine W_r rfl rfl (VR_ldP (ys := [cv, nv]) rfl (et rfl) (S2.obj 0 rfl hc2) (ldP_at rfl) Try.underlying29 rfl (by kernel_rfl)) ?_
 refine W_call rfl rfl rfl Try.func9 (by kernel_rfl) rfl (args1 (et rfl)) (lFar_c (rmR_of (S2.roC k_cv) (S2.roC n_cv)) (S2.roC h_nv) ) ?_
 rintro _ w6 ⟨rfl, hP6⟩
 refine ⟨_, rfl, ?_⟩
 have S6 := S2.join hP6
 replace S6 : St w NoX [c2] w6 := S6
 refine W_end (gen_Q fun A7 E7 => ?_)
 have Y7 := szq E7
 have F7 := fsE E7 (ck (cq2 F3 rfl) rfl rfl)
 clear E7 Y3 F3
 refine tk H5 ?_
 refine cond_b (fg0 F7) (fun c8 => ?_) (fun c8 => ?_)
 ·refine wp_seq_k fun K9 H9 => ?_
  refine region_in ?_
  refine W_call rfl rfl rfl Try.func10 (by kernel_rfl) rfl (args0) (lawk_c  ) ?_
  rintro _ w10 ⟨rfl, hP10⟩
  refine ⟨_, rfl, ?_⟩
  have S10 := S6.join hP10
  replace S10 : St w NoX [c2] w10 := S10
  refine W_v rfl rfl (V_asg rfl (et rfl)) ?_
  refine W_end (gen_Q fun A11 E11 => ?_)
  have Y11 := szq E11
  have F11 := fsE E11 (ck (cq1 F7 rfl) rfl rfl)
  clear E11 Y7 F7
  have S12 : St w NoX [] w10 := S10.sel [] (by decide) rfl
  refine tk H9 ?_
  refine wp_ret ?_
  refine then_ret ?_
  refine ret_in (results_1 Try.results5 (rv_tmp (fg0 F11))) F11.d ?_
  exact ⟨rfl, S12.fin0⟩
 obtain ⟨hfx, hfr, hfn⟩ := far_ok (by simpa using c8)
 rw [csF_len] at hfx
 refine wp_skip ?_
 refine tk H4 ?_
 refine wp_seq_k fun K13 H13 => ?_
 refine region_in ?_
 refine W_v rfl rfl (V_fa (off' := 0) rfl (fg3 F7) Try.underlying31 rfl (by decide +kernel) rfl) ?_
 refine W_r rfl rfl (VR_ldP (ys := [.int .i64 (C), .int .i64 (N), .int .i64 (Z), .int .i64 (K), .int .i64 (Q)]) rfl (et rfl) (S6.obj 0 rfl hc2) (ldP_at rfl) Try.underlying23 rfl (by kernel_rfl)) ?_
 refine W_v rfl rfl (V_fa (off' := 5) rfl (es2 rfl (fg3 F7)) Try.underlying31 rfl (by decide +kernel) rfl) ?_
 refine W_r rfl rfl (VR_ldP (ys := [cv, nv]) rfl (et rfl) (S6.obj 0 rfl hc2) (ldP_at rfl) Try.underlying29 rfl (by kernel_rfl)) ?_
 refine W_call rfl rfl rfl Try.func11 (by kernel_rfl) rfl (args2 (es2 rfl (et rfl)) (et rfl)) (kCk8_c (C := C) (N := N) (Z := Z) (K := K) (Q := Q) (rmR_of (S6.roC k_cv) (S6.roC n_cv)) (S6.roC h_nv) ) ?_
 rintro _ w14 ⟨rfl, hP14⟩
 refine ⟨_, rfl, ?_⟩
 have S14 := S6.join hP14
 replace S14 : St w NoX [c2] w14 := S14
 refine W_v rfl rfl (V_mov rfl (et rfl)) ?_
 refine W_v rfl rfl (V_ext (v := .int .i64 ((rmP C N Z K Q (csF Xu) ns).1)) rfl (et rfl) rfl) ?_
 refine W_v rfl rfl (V_ext (v := .int .i64 ((rmP C N Z K Q (csF Xu) ns).2)) rfl (es rfl (et rfl)) rfl) ?_
 refine W_v rfl rfl (V_asg rfl (es rfl (et rfl))) ?_
 refine W_v rfl rfl (V_asg rfl (es rfl (et rfl))) ?_
 refine W_end (gen_Q fun A15 E15 => ?_)
 have Y15 := szq E15
 have F15 := fsE E15 (ck (cq1 (cq8 F7 rfl) rfl) rfl rfl)
 clear E15 Y7 F7
 refine tk H13 ?_
 refine wp_seq_k fun K16 H16 => ?_
 refine region_in ?_
 refine W_v rfl rfl (V_fa (off' := 0) rfl (fg4 F15) Try.underlying31 rfl (by decide +kernel) rfl) ?_
 refine W_r rfl rfl (VR_ldP (ys := [.int .i64 (C), .int .i64 (N), .int .i64 (Z), .int .i64 (K), .int .i64 (Q)]) rfl (et rfl) (S14.obj 0 rfl hc2) (ldP_at rfl) Try.underlying23 rfl (by kernel_rfl)) ?_
 refine W_v rfl rfl (V_fa (off' := 5) rfl (es2 rfl (fg4 F15)) Try.underlying31 rfl (by decide +kernel) rfl) ?_
 refine W_r rfl rfl (VR_ldP (ys := [cv, nv]) rfl (et rfl) (S14.obj 0 rfl hc2) (ldP_at rfl) Try.underlying29 rfl (by kernel_rfl)) ?_
 refine W_v rfl rfl (V_mov rfl (es4 rfl (fg3 F15))) ?_
 refine W_v rfl rfl (V_mov rfl (es5 rfl (fg2 F15))) ?_
 refine W_call rfl rfl rfl Try.func22 (by kernel_rfl) rfl (args4 (es4 rfl (et rfl)) (es2 rfl (et rfl)) (es rfl (et rfl)) (et rfl)) (kRec_c (C := C) (N := N) (Z := Z) (K := K) (Q := Q) (slot := slot) (now := t) (rmR_of (S14.roC k_cv) (S14.roC n_cv)) (S14.roC h_nv) ) ?_
 rintro _ w17 ⟨v_17, z_17, rfl, hP17⟩
 refine ⟨_, rfl, ?_⟩
 obtain ⟨c_17, cz_17, hc_17, hcz_17, hP17⟩ := gen2 hP17
 have S17 := S14.join hP17
 replace S17 : St w NoX [c_17, cz_17, c2] w17 := S17
 refine W_v rfl rfl (V_mov rfl (et rfl)) ?_
 refine W_v rfl rfl (V_ext (v := .agg #[v_17, z_17]) rfl (et rfl) rfl) ?_
 refine W_v rfl rfl (V_ext (v := .int .i64 ((chE8 C N Z K Q (csF Xu) ns slot 0 t))) rfl (es rfl (et rfl)) rfl) ?_
 refine W_allocS (z := .agg #[.slice none 0 0, .slice none 0 0]) (zs := #[.slice none 0 0, .slice none 0 0]) S17 rfl rfl rfl (by kernel_rfl) (by rfl) (fun g18 w18 c18 hc18 S18 => ?_)
 replace S18 : St w NoX [c18, c_17, cz_17, c2] w18 := S18
 refine W_stAS 0 S18 rfl hc18 rfl rfl rfl (et rfl) (es2 rfl (et rfl)) (by simp only [List.all_toArray, List.all_cons, List.all_nil, rmO_one (S18.chq 1 rfl hc_17), SlN_one (ow_at (S18.chq 2 rfl hcz_17))] <;> rfl) (by rfl) (by kernel_rfl) (fun w19 c19 hc19 S19 => ?_)
 replace S19 : St w NoX [c19, c_17, cz_17, c2] w19 := S19
 refine W_v rfl rfl (V_asg rfl (es rfl (et rfl))) ?_
 refine W_end (gen_Q fun A20 E20 => ?_)
 have Y20 := szq E20
 have F20 := fsE E20 (ck (ck (cq2 (cq8 F15 rfl) rfl) rfl rfl) rfl rfl)
 clear E20 Y15 F15
 refine tk H16 ?_
 refine wp_seq_k fun K21 H21 => ?_
 refine region_in ?_
 refine W_v rfl rfl (V_fa (off' := 0) rfl (fg6 F20) Try.underlying31 rfl (by decide +kernel) rfl) ?_
 refine W_r rfl rfl (VR_ldP (ys := [.int .i64 (C), .int .i64 (N), .int .i64 (Z), .int .i64 (K), .int .i64 (Q)]) rfl (et rfl) (S19.obj 3 rfl hc2) (ldP_at rfl) Try.underlying23 rfl (by kernel_rfl)) ?_
 refine W_v rfl rfl (V_fa (off' := 5) rfl (es2 rfl (fg6 F20)) Try.underlying31 rfl (by decide +kernel) rfl) ?_
 refine W_r rfl rfl (VR_ldP (ys := [cv, nv]) rfl (et rfl) (S19.obj 3 rfl hc2) (ldP_at rfl) Try.underlying29 rfl (by kernel_rfl)) ?_
 refine W_v rfl rfl (V_mov rfl (es4 rfl (fg5 F20))) ?_
 refine W_v rfl rfl (V_mov rfl (es5 rfl (fg4 F20))) ?_
 refine W_call rfl rfl rfl Try.func23 (by kernel_rfl) rfl (args4 (es4 rfl (et rfl)) (es2 rfl (et rfl)) (es rfl (et rfl)) (et rfl)) (kFor_c (C := C) (N := N) (Z := Z) (K := K) (Q := Q) (slot := slot) (old := t) (rmR_of (S19.roC k_cv) (S19.roC n_cv)) (S19.roC h_nv) ) ?_
 rintro _ w22 ⟨v_22, z_22, rfl, hP22⟩
 refine ⟨_, rfl, ?_⟩
 obtain ⟨c_22, cz_22, hc_22, hcz_22, hP22⟩ := gen2 hP22
 have S22 := S19.join hP22
 replace S22 : St w NoX [c_22, cz_22, c19, c_17, cz_17, c2] w22 := S22
 refine W_v rfl rfl (V_mov rfl (et rfl)) ?_
 refine W_v rfl rfl (V_ext (v := .agg #[v_22, z_22]) rfl (et rfl) rfl) ?_
 refine W_v rfl rfl (V_ext (v := .int .i64 ((chE8 C N Z K Q (csF Xu) ns slot t 0))) rfl (es rfl (et rfl)) rfl) ?_
 refine W_allocS (z := .agg #[.slice none 0 0, .slice none 0 0]) (zs := #[.slice none 0 0, .slice none 0 0]) S22 rfl rfl rfl (by kernel_rfl) (by rfl) (fun g23 w23 c23 hc23 S23 => ?_)
 replace S23 : St w NoX [c23, c_22, cz_22, c19, c_17, cz_17, c2] w23 := S23
 refine W_stAS 0 S23 rfl hc23 rfl rfl rfl (et rfl) (es2 rfl (et rfl)) (by simp only [List.all_toArray, List.all_cons, List.all_nil, rmO_one (S23.chq 1 rfl hc_22), SlN_one (ow_at (S23.chq 2 rfl hcz_22))] <;> rfl) (by rfl) (by kernel_rfl) (fun w24 c24 hc24 S24 => ?_)
 replace S24 : St w NoX [c24, c_22, cz_22, c19, c_17, cz_17, c2] w24 := S24
 refine W_v rfl rfl (V_asg rfl (es rfl (et rfl))) ?_
 refine W_end (gen_Q fun A25 E25 => ?_)
 have Y25 := szq E25
 have F25 := fsE E25 (ck (ck (cq2 (cq8 F20 rfl) rfl) rfl rfl) rfl rfl)
 clear E25 Y20 F20
 refine tk H21 ?_
 refine wp_seq_k fun K26 H26 => ?_
 refine wp_seq_k fun K27 H27 => ?_
 refine region_in ?_
 refine W_v rfl rfl (V_mov rfl (fg4 F25)) ?_
 refine W_v rfl rfl (V_neq rfl (et rfl) rfl) ?_
 refine W_split rfl rfl (V_mov rfl (et rfl)) (fun c28 => ?_) (fun c28 => ?_)
 ·refine W_off rfl (wanted_f rfl rfl (et rfl) (ez rfl) rfl) ?_
  refine W_off rfl (wanted_f rfl rfl (es rfl (et rfl)) (ez rfl) rfl) ?_
  refine W_v rfl rfl (V_pickT rfl (es2 rfl (et rfl)) rfl) ?_
  refine W_v rfl rfl (V_mov rfl (et rfl)) ?_
  refine W_off rfl (wanted_f rfl rfl (et rfl) (ez rfl) rfl) ?_
  refine W_off rfl (wanted_f rfl rfl (es rfl (et rfl)) (ez rfl) rfl) ?_
  refine W_v rfl rfl (V_pickT rfl (es2 rfl (et rfl)) rfl) ?_
  refine W_end (gen_Q fun A29 E29 => ?_)
  have Y29 := szq E29
  have F29 := fsE E29 (ck (cq1 (cq8 F25 rfl) rfl) rfl rfl)
  clear E29 Y25 F25
  refine tk H27 ?_
  refine cond_t (fg0 F29) ?_
  refine wp_seq_k fun K30 H30 => ?_
  refine region_in ?_
  refine W_v rfl rfl (V_mov rfl (fg3 F29)) ?_
  refine W_v rfl rfl (V_mov rfl (es rfl (fg1 F29))) ?_
  refine W_v rfl rfl (V_eql rfl (es rfl (et rfl)) (et rfl)) ?_
  refine W_sure (c' := true) rfl rfl (V_mov rfl (et rfl)) (by rw [decide_eq_true_eq]; rw [as_rec, as_for]) ?_
  refine W_call rfl (wanted_t rfl rfl (et rfl) (ez rfl)) rfl Try.func10 (by kernel_rfl) rfl (args0) (lawk_c  ) ?_
  rintro _ w31 ⟨rfl, hP31⟩
  refine ⟨_, rfl, ?_⟩
  have S31 := S24.join hP31
  replace S31 : St w NoX [c24, c_22, cz_22, c19, c_17, cz_17, c2] w31 := S31
  refine W_v rfl rfl (V_pickT rfl (es rfl (et rfl)) (et rfl)) ?_
  refine W_v rfl rfl (V_asg rfl (et rfl)) ?_
  refine W_end (gen_Q fun A32 E32 => ?_)
  have Y32 := szq E32
  have F32 := fsE E32 (ck (cq6 F29 rfl) rfl rfl)
  clear E32 Y29 F29
  have S33 : St w NoX [] w31 := S31.sel [] (by decide) rfl
  refine tk H30 ?_
  refine wp_ret ?_
  refine then_ret ?_
  refine ret_in (results_1 Try.results5 (rv_tmp (fg0 F32))) F32.d ?_
  exact ⟨rfl, S33.fin0⟩
 refine W_v rfl (wanted_t rfl rfl (et rfl) (ez rfl)) (V_mov rfl (es3 rfl (fg2 F25))) ?_
 refine W_v rfl (wanted_t rfl rfl (es rfl (et rfl)) (ez rfl)) (V_neq rfl (et rfl) rfl) ?_
 refine W_v rfl rfl (V_pickF rfl (es2 rfl (et rfl)) (et rfl)) ?_
 refine W_split rfl rfl (V_mov rfl (et rfl)) (fun c34 => ?_) (fun c34 => ?_)
 ·refine W_off rfl (wanted_f rfl rfl (et rfl) (ez rfl) rfl) ?_
  refine W_off rfl (wanted_f rfl rfl (es rfl (et rfl)) (ez rfl) rfl) ?_
  refine W_v rfl rfl (V_pickT rfl (es2 rfl (et rfl)) rfl) ?_
  refine W_end (gen_Q fun A35 E35 => ?_)
  have Y35 := szq E35
  have F35 := fsE E35 (ck (cq1 (cq8 F25 rfl) rfl) rfl rfl)
  clear E35 Y25 F25
  refine tk H27 ?_
  refine cond_t (fg0 F35) ?_
  refine wp_seq_k fun K36 H36 => ?_
  refine region_in ?_
  refine W_v rfl rfl (V_mov rfl (fg3 F35)) ?_
  refine W_v rfl rfl (V_mov rfl (es rfl (fg1 F35))) ?_
  refine W_v rfl rfl (V_eql rfl (es rfl (et rfl)) (et rfl)) ?_
  refine W_sure (c' := true) rfl rfl (V_mov rfl (et rfl)) (by rw [decide_eq_true_eq]; rw [as_rec, as_for]) ?_
  refine W_call rfl (wanted_t rfl rfl (et rfl) (ez rfl)) rfl Try.func10 (by kernel_rfl) rfl (args0) (lawk_c  ) ?_
  rintro _ w37 ⟨rfl, hP37⟩
  refine ⟨_, rfl, ?_⟩
  have S37 := S24.join hP37
  replace S37 : St w NoX [c24, c_22, cz_22, c19, c_17, cz_17, c2] w37 := S37
  refine W_v rfl rfl (V_pickT rfl (es rfl (et rfl)) (et rfl)) ?_
  refine W_v rfl rfl (V_asg rfl (et rfl)) ?_
  refine W_end (gen_Q fun A38 E38 => ?_)
  have Y38 := szq E38
  have F38 := fsE E38 (ck (cq6 F35 rfl) rfl rfl)
  clear E38 Y35 F35
  have S39 : St w NoX [] w37 := S37.sel [] (by decide) rfl
  refine tk H36 ?_
  refine wp_ret ?_
  refine then_ret ?_
  refine ret_in (results_1 Try.results5 (rv_tmp (fg0 F38))) F38.d ?_
  exact ⟨rfl, S39.fin0⟩
 refine W_v rfl (wanted_t rfl rfl (et rfl) (ez rfl)) (V_mov rfl (es7 rfl (fg0 F25))) ?_
 refine W_v rfl (wanted_t rfl rfl (es rfl (et rfl)) (ez rfl)) (V_neq rfl (et rfl) rfl) ?_
 refine W_v rfl rfl (V_pickF rfl (es2 rfl (et rfl)) (et rfl)) ?_
 refine W_end (gen_Q fun A40 E40 => ?_)
 have Y40 := szq E40
 have F40 := fsE E40 (ck (cq1 (cq8 F25 rfl) rfl) rfl rfl)
 clear E40 Y25 F25
 refine tk H27 ?_
 refine cond_dec (fg0 F40) (fun c41 => ?_) (fun c41 => ?_)
 ·refine wp_seq_k fun K42 H42 => ?_
  refine region_in ?_
  refine W_v rfl rfl (V_mov rfl (fg3 F40)) ?_
  refine W_v rfl rfl (V_mov rfl (es rfl (fg1 F40))) ?_
  refine W_v rfl rfl (V_eql rfl (es rfl (et rfl)) (et rfl)) ?_
  refine W_sure (c' := true) rfl rfl (V_mov rfl (et rfl)) (by rw [decide_eq_true_eq]; rw [as_rec, as_for]) ?_
  refine W_call rfl (wanted_t rfl rfl (et rfl) (ez rfl)) rfl Try.func10 (by kernel_rfl) rfl (args0) (lawk_c  ) ?_
  rintro _ w43 ⟨rfl, hP43⟩
  refine ⟨_, rfl, ?_⟩
  have S43 := S24.join hP43
  replace S43 : St w NoX [c24, c_22, cz_22, c19, c_17, cz_17, c2] w43 := S43
  refine W_v rfl rfl (V_pickT rfl (es rfl (et rfl)) (et rfl)) ?_
  refine W_v rfl rfl (V_asg rfl (et rfl)) ?_
  refine W_end (gen_Q fun A44 E44 => ?_)
  have Y44 := szq E44
  have F44 := fsE E44 (ck (cq6 F40 rfl) rfl rfl)
  clear E44 Y40 F40
  have S45 : St w NoX [] w43 := S43.sel [] (by decide) rfl
  refine tk H42 ?_
  refine wp_ret ?_
  refine then_ret ?_
  refine ret_in (results_1 Try.results5 (rv_tmp (fg0 F44))) F44.d ?_
  exact ⟨rfl, S45.fin0⟩
 have hV := VL_iff.1 (show (rmP C N Z K Q (csF Xu) ns).2 = 0 by omega)
 have hrc : chE8 C N Z K Q (csF Xu) ns slot 0 t = 0 := by omega
 have hfc : chE8 C N Z K Q (csF Xu) ns slot t 0 = 0 := by omega
 have hpe := (ch_VL hV hrc).2.2.2
 have hXN := hV.len
 rw [csF_len] at hXN
 refine wp_skip ?_
 refine tk H26 ?_
 refine wp_seq_k fun K46 H46 => ?_
 refine wp_seq_k fun K47 H47 => ?_
 refine region_in ?_
 refine W_v rfl rfl (V_fa (off' := 5) rfl (fg9 F40) Try.underlying31 rfl (by decide +kernel) rfl) ?_
 refine W_v rfl rfl (V_fa (off' := 5) rfl (et rfl) Try.underlying29 rfl (by decide +kernel) rfl) ?_
 refine W_r rfl rfl (VR_ldC rfl (et rfl) (cell_box (v := cv) (S24.obj 6 rfl hc2) rfl) Try.underlying24 rfl) ?_
 refine W_v rfl rfl (V_lenS rfl (et rfl) (sl_SlN k_cv.at) Try.underlying24) ?_
 refine W_v rfl rfl (V_fa (off' := 0) rfl (es4 rfl (fg9 F40)) Try.underlying31 rfl (by decide +kernel) rfl) ?_
 refine W_v rfl rfl (V_fa (off' := 1) rfl (et rfl) Try.underlying23 rfl (by decide +kernel) rfl) ?_
 refine W_r rfl rfl (VR_ldC rfl (et rfl) (cell_box (v := .int .i64 (N)) (S24.obj 6 rfl hc2) rfl) Try.underlying3 rfl) ?_
 refine W_v rfl rfl (V_neq rfl (es3 rfl (et rfl)) (et rfl)) ?_
 refine W_sure (c' := false) rfl rfl (V_mov rfl (et rfl)) (by rw [decide_eq_false_iff_not]; omega) ?_
 refine W_v rfl (wanted_t rfl rfl (et rfl) (ez rfl)) (V_fa (off' := 0) rfl (es8 rfl (es rfl (fg4 F40))) Try.underlying29 rfl (by decide +kernel) rfl) ?_
 refine W_r rfl (wanted_t rfl rfl (es rfl (et rfl)) (ez rfl)) (VR_ldC rfl (et rfl) (cell_box (v := v_17) (S24.obj 3 rfl hc19) rfl) Try.underlying24 rfl) ?_
 refine W_v rfl (wanted_t rfl rfl (es2 rfl (et rfl)) (ez rfl)) (V_lenS rfl (et rfl) (rmO_SlN (S24.chq 4 rfl hc_17)).choose_spec Try.underlying24) ?_
 refine W_v rfl (wanted_t rfl rfl (es3 rfl (et rfl)) (ez rfl)) (V_fa (off' := 0) rfl (es8 rfl (es4 rfl (fg9 F40))) Try.underlying31 rfl (by decide +kernel) rfl) ?_
 refine W_v rfl (wanted_t rfl rfl (es4 rfl (et rfl)) (ez rfl)) (V_fa (off' := 1) rfl (et rfl) Try.underlying23 rfl (by decide +kernel) rfl) ?_
 refine W_r rfl (wanted_t rfl rfl (es5 rfl (et rfl)) (ez rfl)) (VR_ldC rfl (et rfl) (cell_box (v := .int .i64 (N)) (S24.obj 6 rfl hc2) rfl) Try.underlying3 rfl) ?_
 refine W_v rfl (wanted_t rfl rfl (es6 rfl (et rfl)) (ez rfl)) (V_neq rfl (es3 rfl (et rfl)) (et rfl)) ?_
 refine W_v rfl rfl (V_pickF rfl (es7 rfl (et rfl)) (et rfl)) ?_
 refine W_sure (c' := false) rfl rfl (V_mov rfl (et rfl)) (by rw [decide_eq_false_iff_not]; rw [chl hV hrc]; simp) ?_
 refine W_v rfl (wanted_t rfl rfl (et rfl) (ez rfl)) (V_fa (off' := 0) rfl (es8 rfl (es8 rfl (es2 rfl (fg2 F40)))) Try.underlying29 rfl (by decide +kernel) rfl) ?_
 refine W_r rfl (wanted_t rfl rfl (es rfl (et rfl)) (ez rfl)) (VR_ldC rfl (et rfl) (cell_box (v := v_22) (S24.obj 0 rfl hc24) rfl) Try.underlying24 rfl) ?_
 refine W_v rfl (wanted_t rfl rfl (es2 rfl (et rfl)) (ez rfl)) (V_lenS rfl (et rfl) (rmO_SlN (S24.chq 1 rfl hc_22)).choose_spec Try.underlying24) ?_
 refine W_v rfl (wanted_t rfl rfl (es3 rfl (et rfl)) (ez rfl)) (V_fa (off' := 0) rfl (es8 rfl (es8 rfl (es5 rfl (fg9 F40)))) Try.underlying31 rfl (by decide +kernel) rfl) ?_
 refine W_v rfl (wanted_t rfl rfl (es4 rfl (et rfl)) (ez rfl)) (V_fa (off' := 1) rfl (et rfl) Try.underlying23 rfl (by decide +kernel) rfl) ?_
 refine W_r rfl (wanted_t rfl rfl (es5 rfl (et rfl)) (ez rfl)) (VR_ldC rfl (et rfl) (cell_box (v := .int .i64 (N)) (S24.obj 6 rfl hc2) rfl) Try.underlying3 rfl) ?_
 refine W_v rfl (wanted_t rfl rfl (es6 rfl (et rfl)) (ez rfl)) (V_neq rfl (es3 rfl (et rfl)) (et rfl)) ?_
 refine W_v rfl rfl (V_pickF rfl (es7 rfl (et rfl)) (et rfl)) ?_
 refine W_end (gen_Q fun A48 E48 => ?_)
 have Y48 := szq E48
 have F48 := fsE E48 (ck (cq1 (cq8 (cq8 (cq8 F40 rfl) rfl) rfl) rfl) rfl rfl)
 clear E48 Y40 F40
 refine tk H47 ?_
 refine cond_not (fg0 F48) (by rw [decide_eq_false_iff_not]; rw [chl hV hfc]; simp) ?_
 refine wp_skip ?_
 refine tk H46 ?_
 refine wp_seq_k fun K49 H49 => ?_
 refine region_in ?_
 refine W_v rfl rfl (V_fa (off' := 0) rfl (fg10 F48) Try.underlying31 rfl (by decide +kernel) rfl) ?_
 refine W_r rfl rfl (VR_ldP (ys := [.int .i64 (C), .int .i64 (N), .int .i64 (Z), .int .i64 (K), .int .i64 (Q)]) rfl (et rfl) (S24.obj 6 rfl hc2) (ldP_at rfl) Try.underlying23 rfl (by kernel_rfl)) ?_
 refine W_v rfl rfl (V_mov rfl (es2 rfl (fg9 F48))) ?_
 refine W_call rfl rfl rfl Try.func24 (by kernel_rfl) rfl (args2 (es rfl (et rfl)) (et rfl)) (qca_c (C := C) (N := N) (Z := Z) (K := K) (Q := Q) (a := slot)  ) ?_
 rintro _ w50 ⟨rfl, hP50⟩
 refine ⟨_, rfl, ?_⟩
 have S50 := S24.join hP50
 replace S50 : St w NoX [c24, c_22, cz_22, c19, c_17, cz_17, c2] w50 := S50
 refine W_v rfl rfl (V_mov rfl (et rfl)) ?_
 refine W_v rfl rfl (V_ext (v := .int .i64 ((caN C N Z K Q slot))) rfl (et rfl) rfl) ?_
 refine W_v rfl rfl (V_ext (v := .int .i64 ((caE C N Z K Q slot))) rfl (es rfl (et rfl)) rfl) ?_
 refine W_v rfl rfl (V_asg rfl (es rfl (et rfl))) ?_
 refine W_v rfl rfl (V_asg rfl (es rfl (et rfl))) ?_
 refine W_end (gen_Q fun A51 E51 => ?_)
 have Y51 := szq E51
 have F51 := fsE E51 (cq1 (ck (cq7 F48 rfl) rfl rfl) rfl)
 clear E51 Y48 F48
 refine tk H49 ?_
 refine wp_seq_k fun K52 H52 => ?_
 refine region_in ?_
 refine W_v rfl rfl (V_asg rfl rfl) ?_
 refine W_end (gen_Q fun A53 E53 => ?_)
 have Y53 := szq E53
 have F53 := fsE E53 (ck F51 rfl rfl)
 clear E53 Y51 F51
 refine tk H52 ?_
 refine wp_seq_k fun K54 H54 => ?_
 refine wp_seq_k fun K55 H55 => ?_
 refine region_in ?_
 refine W_v rfl rfl (V_mov rfl (fg10 F53)) ?_
 refine W_v rfl rfl (V_neq rfl (et rfl) rfl) ?_
 refine W_end (gen_Q fun A56 E56 => ?_)
 have Y56 := szq E56
 have F56 := fsE E56 (ck (cq1 F53 rfl) rfl rfl)
 clear E56 Y53 F53
 refine tk H55 ?_
 refine cond_dec (fg0 F56) (fun c57 => ?_) (fun c57 => ?_)
 ·refine region_in ?_
  refine W_v rfl rfl (V_fa (off' := 0) rfl (fg13 F56) Try.underlying31 rfl (by decide +kernel) rfl) ?_
  refine W_r rfl rfl (VR_ldP (ys := [.int .i64 (C), .int .i64 (N), .int .i64 (Z), .int .i64 (K), .int .i64 (Q)]) rfl (et rfl) (S50.obj 6 rfl hc2) (ldP_at rfl) Try.underlying23 rfl (by kernel_rfl)) ?_
  refine W_v rfl rfl (V_mov rfl (es2 rfl (fg11 F56))) ?_
  refine W_call rfl rfl rfl Try.func24 (by kernel_rfl) rfl (args2 (es rfl (et rfl)) (et rfl)) (qca_c (C := C) (N := N) (Z := Z) (K := K) (Q := Q) (a := t)  ) ?_
  rintro _ w58 ⟨rfl, hP58⟩
  refine ⟨_, rfl, ?_⟩
  have S58 := S50.join hP58
  replace S58 : St w NoX [c24, c_22, cz_22, c19, c_17, cz_17, c2] w58 := S58
  refine W_v rfl rfl (V_mov rfl (et rfl)) ?_
  refine W_v rfl rfl (V_ext (v := .int .i64 ((caN C N Z K Q t))) rfl (et rfl) rfl) ?_
  refine W_v rfl rfl (V_ext (v := .int .i64 ((caE C N Z K Q t))) rfl (es rfl (et rfl)) rfl) ?_
  refine W_v rfl rfl (V_asg rfl (es rfl (et rfl))) ?_
  refine W_end (gen_Q fun A59 E59 => ?_)
  have Y59 := szq E59
  have F59 := fsE E59 (ck (cq7 (fx1 F56) rfl) rfl rfl)
  clear E59 Y56 F56
  refine tk H54 ?_
  refine wp_seq_k fun K60 H60 => ?_
  refine region_in ?_
  refine W_v rfl rfl (V_mov rfl (fg11 F59)) ?_
  refine W_v rfl rfl (V_neq rfl (et rfl) rfl) ?_
  refine W_sure (c' := true) rfl rfl (V_mov rfl (et rfl)) (by first | (simp [c57]; done) | exact decide_eq_true (by omega) | exact decide_eq_false (by omega)) ?_
  refine W_v rfl (wanted_t rfl rfl (et rfl) (ez rfl)) (V_mov rfl (es3 rfl (fg2 F59))) ?_
  refine W_v rfl (wanted_t rfl rfl (es rfl (et rfl)) (ez rfl)) (V_geq rfl (et rfl) rfl) ?_
  refine W_v rfl rfl (V_pickT rfl (es2 rfl (et rfl)) (et rfl)) ?_
  refine W_split rfl rfl (V_mov rfl (et rfl)) (fun c61 => ?_) (fun c61 => ?_)
  ·refine W_v rfl (wanted_t rfl rfl (et rfl) (ez rfl)) (V_mov rfl (es7 rfl (fg2 F59))) ?_
   refine W_v rfl (wanted_t rfl rfl (es rfl (et rfl)) (ez rfl)) (V_mov rfl (es8 rfl (fg0 F59))) ?_
   refine W_v rfl (wanted_t rfl rfl (es2 rfl (et rfl)) (ez rfl)) (V_neq rfl (es rfl (et rfl)) (et rfl)) ?_
   refine W_v rfl rfl (V_pickT rfl (es3 rfl (et rfl)) (et rfl)) ?_
   refine W_v rfl rfl (V_asg rfl (et rfl)) ?_
   refine W_end (gen_Q fun A62 E62 => ?_)
   have Y62 := szq E62
   have F62 := fsE E62 (ck (cq3 (cq8 F59 rfl) rfl) rfl rfl)
   clear E62 Y59 F59
   refine tk H60 ?_
   refine wp_seq_k fun K63 H63 => ?_
   refine wp_seq_k fun K64 H64 => ?_
   refine region_in ?_
   refine W_v rfl rfl (V_asg rfl rfl) ?_
   refine W_end (gen_Q fun A65 E65 => ?_)
   have Y65 := szq E65
   have F65 := fsE E65 (ck F62 rfl rfl)
   clear E65 Y62 F62
   refine tk H64 ?_
   refine wp_block ?_
   have S66 := S58.sel [0, 3, 6, 4, 5, 1, 2] (by decide) (l' := [c24, c19, c2, c_17, cz_17, c_22, cz_22]) rfl
   replace S66 : St w NoX [c24, c19, c2, c_17, cz_17, c_22, cz_22] w58 := S66
   obtain ⟨Yb67, S67, hY67, hF67, hB67⟩ := St.call (pre := [c24, c19, c2]) (fr := [c_17, cz_17, c_22, cz_22]) S66
   have back67 : ∀ w2 post, St w58 Yb67 post w2 → St w NoX post w2 := fun _ _ h => (hB67 _ _ h).left
   have h_cv_67 := hY67 _ h_cv
   have h_nv_67 := hY67 _ h_nv
   have k_cv_67 := hY67 _ k_cv
   have n_cv_67 := hY67 _ n_cv
   have fz67_0 : Ro w58 Yb67 (rmR v_17 (chC C N Z K Q (csF Xu) ns slot 0 t)) := (hc_17 ▸ hF67 0 _ rfl : Ro w58 Yb67 (rmO v_17 (chC C N Z K Q (csF Xu) ns slot 0 t))).rm
   have fz67_1 : Ro w58 Yb67 (il .i64 z_17 (chN C N Z K Q (csF Xu) ns slot 0 t)) := (hcz_17 ▸ hF67 1 _ rfl : Ro w58 Yb67 (io .i64 z_17 (chN C N Z K Q (csF Xu) ns slot 0 t))).own
   have fz67_2 : Ro w58 Yb67 (rmR v_22 (chC C N Z K Q (csF Xu) ns slot t 0)) := (hc_22 ▸ hF67 2 _ rfl : Ro w58 Yb67 (rmO v_22 (chC C N Z K Q (csF Xu) ns slot t 0))).rm
   have fz67_3 : Ro w58 Yb67 (il .i64 z_22 (chN C N Z K Q (csF Xu) ns slot t 0)) := (hcz_22 ▸ hF67 3 _ rfl : Ro w58 Yb67 (io .i64 z_22 (chN C N Z K Q (csF Xu) ns slot t 0))).own
   have f_Xu := nsi_all n_cv_67 h_nv_67
   obtain ⟨Uy, hUy, kUy, nUy⟩ := rmR_open fz67_0
   have bUy := SlN.le (sl_SlN kUy.at)
   have f_Uy := nsi_all nUy fz67_1
   have hlUy := cs_len hUy
   obtain ⟨Uz, hUz, kUz, nUz⟩ := rmR_open fz67_2
   have bUz := SlN.le (sl_SlN kUz.at)
   have f_Uz := nsi_all nUz fz67_3
   have hlUz := cs_len hUz
   have hLy := rec_VL hV hrc
   have hLz := for_VL hV hfc
   have hny : (Uy.length : Int) = N := by rw [← csF_len, hUy]; exact chl hV hrc
   have hnz : (Uz.length : Int) = N := by rw [← csF_len, hUz]; exact chl hV hfc
   rw [← hUy] at hLy
   rw [← hUz] at hLz
   obtain ⟨hp1, hp2⟩ := pl_all hpe
   have hrg := (pl2_of hpe).r
   -- loop 16
   refine loopX (fun mz A' w' => SzN A' 182 ∧ A'.defers = [] ∧ (∃ (k : Nat), (mz = N.toNat + 1 - k) ∧ ((k : Int) ≤ N + 1) ∧ (EV A' (.tmp 17) = .int .i64 ((k : Int) - 1)) ∧ (EV A' (.tmp 1) = EV A65 (.tmp 1)) ∧ (EV A' (.tmp 3) = EV A65 (.tmp 3)) ∧ (EV A' (.tmp 9) = EV A65 (.tmp 9)) ∧ (EV A' (.tmp 11) = EV A65 (.tmp 11)) ∧ (EV A' (.tmp 15) = EV A65 (.tmp 15)) ∧ (EV A' (.tmp 16) = EV A65 (.tmp 16)) ∧ (St w58 Yb67 [bx g23 29 #[v_22, z_22], bx g18 29 #[v_17, z_17], bx g2 31 #[.int .i64 (C), .int .i64 (N), .int .i64 (Z), .int .i64 (K), .int .i64 (Q), cv, nv]] w'))) (N.toNat + 1 - 0) ⟨Y65, F65.d, 0, rfl, (by omega), (((fg0 F65)).trans (by first | rfl | (simp; done) | (congr 1; omega))), rfl, rfl, rfl, rfl, rfl, rfl, (by subst hc24 hc19 hc2; exact S67)⟩ ?_
   clear S67 hc24 hc19 hc2
   rintro n68 A68 w68 ⟨Y68, hdf68, k, hm68, hk, l17_68, u1_68, u3_68, u9_68, u11_68, u15_68, u16_68, S68⟩
   have l1_68 := u1_68.trans (fg14 F65)
   have l3_68 := u3_68.trans (fg15 F65)
   have l9_68 := u9_68.trans (fg10 F65)
   have l11_68 := u11_68.trans (fg8 F65)
   have l15_68 := u15_68.trans (fg2 F65)
   have l16_68 := u16_68.trans (fg1 F65)
   obtain ⟨c24_68, c19_68, c2_68, hc24_68, hc19_68, hc2_68, S68⟩ := gen3 S68
   refine wp_seq_k fun K69 H69 => ?_
   refine wp_seq_k fun K70 H70 => ?_
   refine region_in ?_
   refine W_v rfl rfl (V_mov rfl l17_68) ?_
   refine W_v rfl rfl (V_fa (off' := 0) rfl (es rfl l3_68) Try.underlying31 rfl (by decide +kernel) rfl) ?_
   refine W_v rfl rfl (V_fa (off' := 1) rfl (et rfl) Try.underlying23 rfl (by decide +kernel) rfl) ?_
   refine W_r rfl rfl (VR_ldC rfl (et rfl) (cell_box (v := .int .i64 (N)) (S68.obj 2 rfl hc2_68) rfl) Try.underlying3 rfl) ?_
   refine W_v rfl rfl (V_lss rfl (es3 rfl (et rfl)) (et rfl)) ?_
   refine W_end (gen_Q fun A71 E71 => ?_)
   have Y71 := szq E71
   have F71 := (((((((fsE E71 (ck (cq4 (FS.n hdf68) rfl) rfl rfl)).c (lookE E71 1 (es5 rfl l1_68))).c (lookE E71 3 (es5 rfl l3_68))).c (lookE E71 9 (es5 rfl l9_68))).c (lookE E71 11 (es5 rfl l11_68))).c (lookE E71 15 (es5 rfl l15_68))).c (lookE E71 16 (es5 rfl l16_68))).c (lookE E71 17 (es5 rfl l17_68))
   clear E71 Y68 hdf68 l17_68 l1_68 l3_68 l9_68 l11_68 l15_68 l16_68
   refine tk H70 ?_
   refine cond_dec (fg7 F71) (fun c72 => ?_) (fun c72 => ?_)
   ·refine wp_skip ?_
    refine tk H69 ?_
    refine wp_seq_k fun K73 H73 => ?_
    refine wp_block ?_
    refine wp_seq_k fun K74 H74 => ?_
    refine region_monoS 13 14 [none, none, none, some (SPv [] (fun _ => fun u l' => u = .agg #[(aS Xu nv ns (jS Xu ((k : Int) - 1))).1] ∧ l' = []) 3), none, none, some (SPv [] (fun _ => fun u l' => u = .agg #[(aS Uy z_17 (chN C N Z K Q (csF Xu) ns slot 0 t) (jS Uy ((k : Int) - 1))).1] ∧ l' = []) 6), none, none, some (SPv [] (fun _ => fun u l' => u = .agg #[(aS Uz z_22 (chN C N Z K Q (csF Xu) ns slot t 0) (jS Uz ((k : Int) - 1))).1] ∧ l' = []) 9), some (SPv [] (fun _ => fun u l' => ∃ g_, u = .pointer (some ⟨g_, 0, none⟩) ∧ ∃ c_, c_ = bx g_ 27 #[.slice none 0 0] ∧ l' = [c_]) 10), some (SPv [] (fun _ => fun u l' => ∃ g_, u = .pointer (some ⟨g_, 0, none⟩) ∧ ∃ c_, c_ = bx g_ 27 #[.slice none 0 0] ∧ l' = [c_]) 11), some (SPv [] (fun _ => fun u l' => ∃ g_, u = .pointer (some ⟨g_, 0, none⟩) ∧ ∃ c_, c_ = bx g_ 27 #[.slice none 0 0] ∧ l' = [c_]) 12)] (by kernel_rfl) (by kernel_rfl) ?_
    refine D_v rfl rfl (V_fa (off' := 5) rfl (fg5 F71) Try.underlying31 rfl (by decide +kernel) rfl) rfl rfl ?_
    refine D_r rfl rfl (by kernel_rfl) (fun sx hx hF => (VR_ldP (ys := [cv, nv]) rfl (et rfl) ((S68.grow hx).obj 2 rfl hc2_68) (ldP_at rfl) Try.underlying29 rfl (by kernel_rfl))) rfl rfl ?_
    refine D_v rfl rfl (V_mov rfl (es2 rfl (fg0 F71))) rfl rfl ?_
    refine D_call (ts := []) (vs := []) (C0 := fun _ => fun u l' => u = .agg #[(aS Xu nv ns (jS Xu ((k : Int) - 1))).1] ∧ l' = []) (C := fun u l' => u = .agg #[(aS Xu nv ns (jS Xu ((k : Int) - 1))).1] ∧ l' = []) rfl rfl rfl Try.func25 (by kernel_rfl) rfl (args2 (es rfl (et rfl)) (et rfl)) rfl rfl rfl rfl (fun sx hx hF => ?_) (fun u75 l75 hu75 => ?_)
    ·refine (lset_c (i := ((k : Int) - 1)) ((S68.grow hx).roC k_cv_67) ((S68.grow hx).roC n_cv_67) ((S68.grow hx).roC h_nv_67) (by omega)).mono ?_
     rintro _ _ ⟨rfl, hz⟩
     exact ⟨_, rfl, _, ⟨rfl, rfl⟩, hz⟩
    obtain ⟨rfl, hl75⟩ := hu75
    refine D_r rfl rfl (by kernel_rfl) (fun sx hx hF => (VR_ldA rfl (es4 rfl (fg4 F71)) ((S68.grow hx).obj 1 rfl hc19_68) Try.underlying29 rfl (by kernel_rfl))) rfl rfl ?_
    refine D_v rfl rfl (V_mov rfl (es5 rfl (fg0 F71))) rfl rfl ?_
    refine D_call (ts := []) (vs := []) (C0 := fun _ => fun u l' => u = .agg #[(aS Uy z_17 (chN C N Z K Q (csF Xu) ns slot 0 t) (jS Uy ((k : Int) - 1))).1] ∧ l' = []) (C := fun u l' => u = .agg #[(aS Uy z_17 (chN C N Z K Q (csF Xu) ns slot 0 t) (jS Uy ((k : Int) - 1))).1] ∧ l' = []) rfl rfl rfl Try.func25 (by kernel_rfl) rfl (args2 (es rfl (et rfl)) (et rfl)) rfl rfl rfl rfl (fun sx hx hF => ?_) (fun u76 l76 hu76 => ?_)
    ·refine (lset_c (i := ((k : Int) - 1)) ((S68.grow hx).roC kUy) ((S68.grow hx).roC nUy) ((S68.grow hx).roC fz67_1) (by omega)).mono ?_
     rintro _ _ ⟨rfl, hz⟩
     exact ⟨_, rfl, _, ⟨rfl, rfl⟩, hz⟩
    obtain ⟨rfl, hl76⟩ := hu76
    refine D_r rfl rfl (by kernel_rfl) (fun sx hx hF => (VR_ldA rfl (es7 rfl (fg3 F71)) ((S68.grow hx).obj 0 rfl hc24_68) Try.underlying29 rfl (by kernel_rfl))) rfl rfl ?_
    refine D_v rfl rfl (V_mov rfl (es8 rfl (fg0 F71))) rfl rfl ?_
    refine D_call (ts := []) (vs := []) (C0 := fun _ => fun u l' => u = .agg #[(aS Uz z_22 (chN C N Z K Q (csF Xu) ns slot t 0) (jS Uz ((k : Int) - 1))).1] ∧ l' = []) (C := fun u l' => u = .agg #[(aS Uz z_22 (chN C N Z K Q (csF Xu) ns slot t 0) (jS Uz ((k : Int) - 1))).1] ∧ l' = []) rfl rfl rfl Try.func25 (by kernel_rfl) rfl (args2 (es rfl (et rfl)) (et rfl)) rfl rfl rfl rfl (fun sx hx hF => ?_) (fun u77 l77 hu77 => ?_)
    ·refine (lset_c (i := ((k : Int) - 1)) ((S68.grow hx).roC kUz) ((S68.grow hx).roC nUz) ((S68.grow hx).roC fz67_3) (by omega)).mono ?_
     rintro _ _ ⟨rfl, hz⟩
     exact ⟨_, rfl, _, ⟨rfl, rfl⟩, hz⟩
    obtain ⟨rfl, hl77⟩ := hu77
    refine D_lay (ts := []) (vs := []) (C0 := fun _ => fun u l' => ∃ g_, u = .pointer (some ⟨g_, 0, none⟩) ∧ ∃ c_, c_ = bx g_ 27 #[.slice none 0 0] ∧ l' = [c_]) (C := fun u l' => ∃ g_, u = .pointer (some ⟨g_, 0, none⟩) ∧ ∃ c_, c_ = bx g_ 27 #[.slice none 0 0] ∧ l' = [c_]) rfl rfl rfl rfl rfl rfl (fun sx hx hF => lay_alloc (z := .agg #[.slice none 0 0]) rfl (by kernel_rfl) (by rfl)) (fun u78 l78 hu78 => ?_)
    obtain ⟨g78, rfl, c78, hc78, hl78⟩ := hu78
    refine D_lay (ts := []) (vs := []) (C0 := fun _ => fun u l' => ∃ g_, u = .pointer (some ⟨g_, 0, none⟩) ∧ ∃ c_, c_ = bx g_ 27 #[.slice none 0 0] ∧ l' = [c_]) (C := fun u l' => ∃ g_, u = .pointer (some ⟨g_, 0, none⟩) ∧ ∃ c_, c_ = bx g_ 27 #[.slice none 0 0] ∧ l' = [c_]) rfl rfl rfl rfl rfl rfl (fun sx hx hF => lay_alloc (z := .agg #[.slice none 0 0]) rfl (by kernel_rfl) (by rfl)) (fun u79 l79 hu79 => ?_)
    obtain ⟨g79, rfl, c79, hc79, hl79⟩ := hu79
    refine D_lay (ts := []) (vs := []) (C0 := fun _ => fun u l' => ∃ g_, u = .pointer (some ⟨g_, 0, none⟩) ∧ ∃ c_, c_ = bx g_ 27 #[.slice none 0 0] ∧ l' = [c_]) (C := fun u l' => ∃ g_, u = .pointer (some ⟨g_, 0, none⟩) ∧ ∃ c_, c_ = bx g_ 27 #[.slice none 0 0] ∧ l' = [c_]) rfl rfl rfl rfl rfl rfl (fun sx hx hF => lay_alloc (z := .agg #[.slice none 0 0]) rfl (by kernel_rfl) (by rfl)) (fun u80 l80 hu80 => ?_)
    obtain ⟨g80, rfl, c80, hc80, hl80⟩ := hu80
    refine D_eff rfl ?_
    refine ZS_eff S68 rfl rfl (fun s81 hJ81 hL81 hF81 => ?_)
    obtain ⟨ll75, ws75, we75, ⟨hq75, hl75r⟩, hm75, k75, e75⟩ := L.all_get (L.all_rest (L.all_rest (L.all_rest (L.all_rest (L.all_rest hF81))))); cases hq75; subst hl75r
    replace hJ81 := hJ81.add hL81 (i := 3) rfl hm75 k75 e75
    obtain ⟨ll76, ws76, we76, ⟨hq76, hl76r⟩, hm76, k76, e76⟩ := L.all_get (L.all_rest (L.all_rest (L.all_rest (L.all_rest hF81)))); cases hq76; subst hl76r
    replace hJ81 := hJ81.add hL81 (i := 6) rfl hm76 k76 e76
    obtain ⟨ll77, ws77, we77, ⟨hq77, hl77r⟩, hm77, k77, e77⟩ := L.all_get (L.all_rest (L.all_rest (L.all_rest hF81))); cases hq77; subst hl77r
    replace hJ81 := hJ81.add hL81 (i := 9) rfl hm77 k77 e77
    obtain ⟨ll78, ws78, we78, ⟨g78q, hq78, c78r, hc78r, hl78r⟩, hm78, k78, e78⟩ := L.all_get (L.all_rest (L.all_rest hF81)); cases hq78; subst hl78r
    replace hJ81 := hJ81.add hL81 (i := 10) rfl hm78 k78 e78
    obtain ⟨ll79, ws79, we79, ⟨g79q, hq79, c79r, hc79r, hl79r⟩, hm79, k79, e79⟩ := L.all_get (L.all_rest hF81); cases hq79; subst hl79r
    replace hJ81 := hJ81.add hL81 (i := 11) rfl hm79 k79 e79
    obtain ⟨ll80, ws80, we80, ⟨g80q, hq80, c80r, hc80r, hl80r⟩, hm80, k80, e80⟩ := L.all_get hF81; cases hq80; subst hl80r
    replace hJ81 := hJ81.add hL81 (i := 12) rfl hm80 k80 e80
    have S81 := hJ81.st; clear hF81 hJ81 hL81
    generalize s81.1 = w81 at *
    replace S81 : St w58 Yb67 [c80r, c79r, c78r, c24_68, c19_68, c2_68] w81 := S81
    refine W_stAS 2 S81 rfl hc78r rfl rfl rfl (es2 rfl (et rfl)) (es8 rfl (es rfl (et rfl))) (by simp only [List.all_toArray, List.all_cons, List.all_nil, SlN_one (sl_SlN (f_Xu (jS Xu ((k : Int) - 1))).at)] <;> rfl) (by rfl) (by kernel_rfl) (fun w82 c82 hc82 S82 => ?_)
    replace S82 : St w58 Yb67 [c80r, c79r, c82, c24_68, c19_68, c2_68] w82 := S82
    refine W_stAS 1 S82 rfl hc79r rfl rfl rfl (es rfl (et rfl)) (es6 rfl (et rfl)) (by simp only [List.all_toArray, List.all_cons, List.all_nil, SlN_one (sl_SlN (f_Uy (jS Uy ((k : Int) - 1))).at)] <;> rfl) (by rfl) (by kernel_rfl) (fun w83 c83 hc83 S83 => ?_)
    replace S83 : St w58 Yb67 [c80r, c83, c82, c24_68, c19_68, c2_68] w83 := S83
    refine W_stAS 0 S83 rfl hc80r rfl rfl rfl (et rfl) (es3 rfl (et rfl)) (by simp only [List.all_toArray, List.all_cons, List.all_nil, SlN_one (sl_SlN (f_Uz (jS Uz ((k : Int) - 1))).at)] <;> rfl) (by rfl) (by kernel_rfl) (fun w84 c84 hc84 S84 => ?_)
    replace S84 : St w58 Yb67 [c84, c83, c82, c24_68, c19_68, c2_68] w84 := S84
    refine W_end ?_
    refine Qo_normal ?_
    refine gen_Q (fun A85 E85 => ?_)
    have Y85 := szq E85
    have F85 := fsE E85 (ck (ck (ck (cq2 (cq8 F71 rfl) rfl) rfl rfl) rfl rfl) rfl rfl)
    clear E85 Y71 F71
    refine tk H74 ?_
    refine wp_seq_k fun K86 H86 => ?_
    refine wp_seq_k fun K87 H87 => ?_
    refine region_in ?_
    refine W_v rfl rfl (V_mov rfl (fg3 F85)) ?_
    refine W_v rfl rfl (V_mov rfl (es rfl (fg5 F85))) ?_
    refine W_v rfl rfl (V_neq rfl (es rfl (et rfl)) (et rfl)) ?_
    refine W_split rfl rfl (V_mov rfl (et rfl)) (fun c88 => ?_) (fun c88 => ?_)
    ·refine W_off rfl (wanted_f rfl rfl (et rfl) (ez rfl) rfl) ?_
     refine W_off rfl (wanted_f rfl rfl (es rfl (et rfl)) (ez rfl) rfl) ?_
     refine W_v rfl rfl (V_pickT rfl (es2 rfl (et rfl)) rfl) ?_
     refine W_end (gen_Q fun A89 E89 => ?_)
     have Y89 := szq E89
     have F89 := fsE E89 (ck (ck (ck (cq4 F85 rfl) rfl rfl) rfl rfl) rfl rfl)
     clear E89 Y85 F85
     refine tk H87 ?_
     refine cond_t (fg0 F89) ?_
     refine wp_seq_k fun K90 H90 => ?_
     refine wp_seq_k fun K91 H91 => ?_
     refine region_in ?_
     refine W_v rfl rfl (V_fa (off' := 0) rfl (fg5 F89) Try.underlying27 rfl (by decide +kernel) rfl) ?_
     refine W_r rfl rfl (VR_ldC rfl (et rfl) (cell_box (v := (aS Xu nv ns (jS Xu ((k : Int) - 1))).1) (S84.obj 2 rfl hc82) rfl) Try.underlying25 rfl) ?_
     refine W_v rfl rfl (V_fa (off' := 0) rfl (es2 rfl (fg4 F89)) Try.underlying27 rfl (by decide +kernel) rfl) ?_
     refine W_r rfl rfl (VR_ldC rfl (et rfl) (cell_box (v := (aS Uy z_17 (chN C N Z K Q (csF Xu) ns slot 0 t) (jS Uy ((k : Int) - 1))).1) (S84.obj 1 rfl hc83) rfl) Try.underlying25 rfl) ?_
     refine W_call rfl rfl rfl Try.func26 (by kernel_rfl) rfl (args2 (es2 rfl (et rfl)) (et rfl)) (qInts_c (S84.roC (f_Xu (jS Xu ((k : Int) - 1)))) (S84.roC (f_Uy (jS Uy ((k : Int) - 1)))) ) ?_
     rintro _ w92 ⟨rfl, hP92⟩
     refine ⟨_, rfl, ?_⟩
     have S92 := S84.join hP92
     replace S92 : St w58 Yb67 [c84, c83, c82, c24_68, c19_68, c2_68] w92 := S92
     refine W_v rfl rfl (V_notd rfl (et rfl)) ?_
     refine W_sure (c' := false) rfl rfl (V_mov rfl (et rfl)) (by rw [decide_eq_false_iff_not]; exact fun h => h (ot_ne hXN hny hLy hrg ⟨by omega, by omega⟩ (by omega))) ?_
     refine W_v rfl (wanted_t rfl rfl (et rfl) (ez rfl)) (V_fa (off' := 0) rfl (es7 rfl (fg5 F89)) Try.underlying27 rfl (by decide +kernel) rfl) ?_
     refine W_r rfl (wanted_t rfl rfl (es rfl (et rfl)) (ez rfl)) (VR_ldC rfl (et rfl) (cell_box (v := (aS Xu nv ns (jS Xu ((k : Int) - 1))).1) (S92.obj 2 rfl hc82) rfl) Try.underlying25 rfl) ?_
     refine W_v rfl (wanted_t rfl rfl (es2 rfl (et rfl)) (ez rfl)) (V_fa (off' := 0) rfl (es8 rfl (es rfl (fg3 F89))) Try.underlying27 rfl (by decide +kernel) rfl) ?_
     refine W_r rfl (wanted_t rfl rfl (es3 rfl (et rfl)) (ez rfl)) (VR_ldC rfl (et rfl) (cell_box (v := (aS Uz z_22 (chN C N Z K Q (csF Xu) ns slot t 0) (jS Uz ((k : Int) - 1))).1) (S92.obj 0 rfl hc84) rfl) Try.underlying25 rfl) ?_
     refine W_call rfl (wanted_t rfl rfl (es4 rfl (et rfl)) (ez rfl)) rfl Try.func26 (by kernel_rfl) rfl (args2 (es2 rfl (et rfl)) (et rfl)) (qInts_c (S92.roC (f_Xu (jS Xu ((k : Int) - 1)))) (S92.roC (f_Uz (jS Uz ((k : Int) - 1)))) ) ?_
     rintro _ w93 ⟨rfl, hP93⟩
     refine ⟨_, rfl, ?_⟩
     have S93 := S92.join hP93
     replace S93 : St w58 Yb67 [c84, c83, c82, c24_68, c19_68, c2_68] w93 := S93
     refine W_v rfl (wanted_t rfl rfl (es5 rfl (et rfl)) (ez rfl)) (V_notd rfl (et rfl)) ?_
     refine W_v rfl rfl (V_pickF rfl (es6 rfl (et rfl)) (et rfl)) ?_
     refine W_end (gen_Q fun A94 E94 => ?_)
     have Y94 := szq E94
     have F94 := fsE E94 (ck (ck (ck (ck (ck (ck (ck (cq7 F89 rfl) rfl rfl) rfl rfl) rfl rfl) rfl rfl) rfl rfl) rfl rfl) rfl rfl)
     clear E94 Y89 F89
     have S95 : St w58 Yb67 [c84, c82, c24_68, c19_68, c2_68] w93 := S93.sel [0, 2, 3, 4, 5] (by decide) rfl
     refine tk H91 ?_
     refine cond_not (fg0 F94) (by rw [decide_eq_false_iff_not]; exact fun h => h (ot_ne hXN hnz hLz hrg ⟨by omega, by omega⟩ (by omega))) ?_
     refine wp_skip ?_
     refine tk H90 ?_
     refine wp_exit ?_
     refine then_exit ?_
     refine inb_hit ?_
     refine tk H73 ?_
     refine region_in ?_
     refine W_v rfl rfl (V_mov rfl (fg13 F94)) ?_
     refine W_v rfl rfl (V_add rfl (et rfl) rfl (by omega) (by omega)) ?_
     refine W_v rfl rfl (V_asg rfl (et rfl)) ?_
     refine W_end (gen_Q fun A96 E96 => ?_)
     have Y96 := szq E96
     have F96 := fsE E96 (ck (cq2 (fx13 F94) rfl) rfl rfl)
     clear E96 Y94 F94
     have S97 : St w58 Yb67 [c24_68, c19_68, c2_68] w93 := S95.sel [2, 3, 4] (by decide) rfl
     refine then_n ⟨N.toNat + 1 - (k + 1), by simp only [hm68]; omega, Y96, F96.d, (k + 1), rfl, (by omega), (((fg0 F96)).trans (by first | rfl | (simp; done) | (congr 1; omega))), (((fg19 F96)).trans (fg14 F65).symm), (((fg18 F96)).trans (fg15 F65).symm), (((fg17 F96)).trans (fg10 F65).symm), (((fg16 F96)).trans (fg8 F65).symm), (((fg15 F96)).trans (fg2 F65).symm), (((fg14 F96)).trans (fg1 F65).symm), (by subst hc24_68 hc19_68 hc2_68; exact S97)⟩
    refine W_v rfl (wanted_t rfl rfl (et rfl) (ez rfl)) (V_mov rfl (es4 rfl (fg4 F85))) ?_
    refine W_v rfl (wanted_t rfl rfl (es rfl (et rfl)) (ez rfl)) (V_notd rfl (et rfl)) ?_
    refine W_v rfl rfl (V_pickF rfl (es2 rfl (et rfl)) (et rfl)) ?_
    refine W_end (gen_Q fun A98 E98 => ?_)
    have Y98 := szq E98
    have F98 := fsE E98 (ck (ck (ck (cq4 F85 rfl) rfl rfl) rfl rfl) rfl rfl)
    clear E98 Y85 F85
    refine tk H87 ?_
    refine cond_dec (fg0 F98) (fun c99 => ?_) (fun c99 => ?_)
    ·refine wp_seq_k fun K100 H100 => ?_
     refine wp_seq_k fun K101 H101 => ?_
     refine region_in ?_
     refine W_v rfl rfl (V_fa (off' := 0) rfl (fg5 F98) Try.underlying27 rfl (by decide +kernel) rfl) ?_
     refine W_r rfl rfl (VR_ldC rfl (et rfl) (cell_box (v := (aS Xu nv ns (jS Xu ((k : Int) - 1))).1) (S84.obj 2 rfl hc82) rfl) Try.underlying25 rfl) ?_
     refine W_v rfl rfl (V_fa (off' := 0) rfl (es2 rfl (fg4 F98)) Try.underlying27 rfl (by decide +kernel) rfl) ?_
     refine W_r rfl rfl (VR_ldC rfl (et rfl) (cell_box (v := (aS Uy z_17 (chN C N Z K Q (csF Xu) ns slot 0 t) (jS Uy ((k : Int) - 1))).1) (S84.obj 1 rfl hc83) rfl) Try.underlying25 rfl) ?_
     refine W_call rfl rfl rfl Try.func26 (by kernel_rfl) rfl (args2 (es2 rfl (et rfl)) (et rfl)) (qInts_c (S84.roC (f_Xu (jS Xu ((k : Int) - 1)))) (S84.roC (f_Uy (jS Uy ((k : Int) - 1)))) ) ?_
     rintro _ w102 ⟨rfl, hP102⟩
     refine ⟨_, rfl, ?_⟩
     have S102 := S84.join hP102
     replace S102 : St w58 Yb67 [c84, c83, c82, c24_68, c19_68, c2_68] w102 := S102
     refine W_v rfl rfl (V_notd rfl (et rfl)) ?_
     refine W_sure (c' := false) rfl rfl (V_mov rfl (et rfl)) (by rw [decide_eq_false_iff_not]; exact fun h => h (ot_ne hXN hny hLy hrg ⟨by omega, by omega⟩ (by omega))) ?_
     refine W_v rfl (wanted_t rfl rfl (et rfl) (ez rfl)) (V_fa (off' := 0) rfl (es7 rfl (fg5 F98)) Try.underlying27 rfl (by decide +kernel) rfl) ?_
     refine W_r rfl (wanted_t rfl rfl (es rfl (et rfl)) (ez rfl)) (VR_ldC rfl (et rfl) (cell_box (v := (aS Xu nv ns (jS Xu ((k : Int) - 1))).1) (S102.obj 2 rfl hc82) rfl) Try.underlying25 rfl) ?_
     refine W_v rfl (wanted_t rfl rfl (es2 rfl (et rfl)) (ez rfl)) (V_fa (off' := 0) rfl (es8 rfl (es rfl (fg3 F98))) Try.underlying27 rfl (by decide +kernel) rfl) ?_
     refine W_r rfl (wanted_t rfl rfl (es3 rfl (et rfl)) (ez rfl)) (VR_ldC rfl (et rfl) (cell_box (v := (aS Uz z_22 (chN C N Z K Q (csF Xu) ns slot t 0) (jS Uz ((k : Int) - 1))).1) (S102.obj 0 rfl hc84) rfl) Try.underlying25 rfl) ?_
     refine W_call rfl (wanted_t rfl rfl (es4 rfl (et rfl)) (ez rfl)) rfl Try.func26 (by kernel_rfl) rfl (args2 (es2 rfl (et rfl)) (et rfl)) (qInts_c (S102.roC (f_Xu (jS Xu ((k : Int) - 1)))) (S102.roC (f_Uz (jS Uz ((k : Int) - 1)))) ) ?_
     rintro _ w103 ⟨rfl, hP103⟩
     refine ⟨_, rfl, ?_⟩
     have S103 := S102.join hP103
     replace S103 : St w58 Yb67 [c84, c83, c82, c24_68, c19_68, c2_68] w103 := S103
     refine W_v rfl (wanted_t rfl rfl (es5 rfl (et rfl)) (ez rfl)) (V_notd rfl (et rfl)) ?_
     refine W_v rfl rfl (V_pickF rfl (es6 rfl (et rfl)) (et rfl)) ?_
     refine W_end (gen_Q fun A104 E104 => ?_)
     have Y104 := szq E104
     have F104 := fsE E104 (ck (ck (ck (ck (ck (ck (ck (cq7 F98 rfl) rfl rfl) rfl rfl) rfl rfl) rfl rfl) rfl rfl) rfl rfl) rfl rfl)
     clear E104 Y98 F98
     have S105 : St w58 Yb67 [c84, c82, c24_68, c19_68, c2_68] w103 := S103.sel [0, 2, 3, 4, 5] (by decide) rfl
     refine tk H101 ?_
     refine cond_not (fg0 F104) (by rw [decide_eq_false_iff_not]; exact fun h => h (ot_ne hXN hnz hLz hrg ⟨by omega, by omega⟩ (by omega))) ?_
     refine wp_skip ?_
     refine tk H100 ?_
     refine wp_exit ?_
     refine then_exit ?_
     refine inb_hit ?_
     refine tk H73 ?_
     refine region_in ?_
     refine W_v rfl rfl (V_mov rfl (fg13 F104)) ?_
     refine W_v rfl rfl (V_add rfl (et rfl) rfl (by omega) (by omega)) ?_
     refine W_v rfl rfl (V_asg rfl (et rfl)) ?_
     refine W_end (gen_Q fun A106 E106 => ?_)
     have Y106 := szq E106
     have F106 := fsE E106 (ck (cq2 (fx13 F104) rfl) rfl rfl)
     clear E106 Y104 F104
     have S107 : St w58 Yb67 [c24_68, c19_68, c2_68] w103 := S105.sel [2, 3, 4] (by decide) rfl
     refine then_n ⟨N.toNat + 1 - (k + 1), by simp only [hm68]; omega, Y106, F106.d, (k + 1), rfl, (by omega), (((fg0 F106)).trans (by first | rfl | (simp; done) | (congr 1; omega))), (((fg19 F106)).trans (fg14 F65).symm), (((fg18 F106)).trans (fg15 F65).symm), (((fg17 F106)).trans (fg10 F65).symm), (((fg16 F106)).trans (fg8 F65).symm), (((fg15 F106)).trans (fg2 F65).symm), (((fg14 F106)).trans (fg1 F65).symm), (by subst hc24_68 hc19_68 hc2_68; exact S107)⟩
    refine wp_skip ?_
    refine tk H86 ?_
    refine wp_seq_k fun K108 H108 => ?_
    refine region_in ?_
    refine W_r rfl rfl (VR_ldA rfl (fg4 F98) (S84.obj 1 rfl hc83) Try.underlying27 rfl (by kernel_rfl)) ?_
    refine W_v rfl rfl (V_mov rfl (es rfl (fg12 F98))) ?_
    refine W_call rfl rfl rfl Try.func27 (by kernel_rfl) rfl (args2 (es rfl (et rfl)) (et rfl)) (qHas_c (a := slot) (S84.roC (f_Uy (jS Uy ((k : Int) - 1)))) ) ?_
    rintro _ w109 ⟨rfl, hP109⟩
    refine ⟨_, rfl, ?_⟩
    have S109 := S84.join hP109
    replace S109 : St w58 Yb67 [c84, c83, c82, c24_68, c19_68, c2_68] w109 := S109
    refine W_v rfl rfl (V_mov rfl (et rfl)) ?_
    refine W_v rfl rfl (V_ext (v := .bool ((hsB ((aS Uy z_17 (chN C N Z K Q (csF Xu) ns slot 0 t) (jS Uy ((k : Int) - 1))).2) slot))) rfl (et rfl) rfl) ?_
    refine W_v rfl rfl (V_ext (v := .int .i64 ((chE ((aS Uy z_17 (chN C N Z K Q (csF Xu) ns slot 0 t) (jS Uy ((k : Int) - 1))).2) slot))) rfl (es rfl (et rfl)) rfl) ?_
    refine W_v rfl rfl (V_asg rfl (es rfl (et rfl))) ?_
    refine W_v rfl rfl (V_asg rfl (es rfl (et rfl))) ?_
    refine W_end (gen_Q fun A110 E110 => ?_)
    have Y110 := szq E110
    have F110 := fsE E110 (cq1 (ck (cq6 F98 rfl) rfl rfl) rfl)
    clear E110 Y98 F98
    have S111 : St w58 Yb67 [c84, c24_68, c19_68, c2_68] w109 := S109.sel [0, 3, 4, 5] (by decide) rfl
    refine tk H108 ?_
    refine wp_seq_k fun K112 H112 => ?_
    refine region_in ?_
    refine W_r rfl rfl (VR_ldA rfl (fg4 F110) (S111.obj 0 rfl hc84) Try.underlying27 rfl (by kernel_rfl)) ?_
    refine W_v rfl rfl (V_mov rfl (es rfl (fg13 F110))) ?_
    refine W_call rfl rfl rfl Try.func27 (by kernel_rfl) rfl (args2 (es rfl (et rfl)) (et rfl)) (qHas_c (a := slot) (S111.roC (f_Uz (jS Uz ((k : Int) - 1)))) ) ?_
    rintro _ w113 ⟨rfl, hP113⟩
    refine ⟨_, rfl, ?_⟩
    have S113 := S111.join hP113
    replace S113 : St w58 Yb67 [c84, c24_68, c19_68, c2_68] w113 := S113
    refine W_v rfl rfl (V_mov rfl (et rfl)) ?_
    refine W_v rfl rfl (V_ext (v := .bool ((hsB ((aS Uz z_22 (chN C N Z K Q (csF Xu) ns slot t 0) (jS Uz ((k : Int) - 1))).2) slot))) rfl (et rfl) rfl) ?_
    refine W_v rfl rfl (V_ext (v := .int .i64 ((chE ((aS Uz z_22 (chN C N Z K Q (csF Xu) ns slot t 0) (jS Uz ((k : Int) - 1))).2) slot))) rfl (es rfl (et rfl)) rfl) ?_
    refine W_v rfl rfl (V_asg rfl (es rfl (et rfl))) ?_
    refine W_v rfl rfl (V_asg rfl (es rfl (et rfl))) ?_
    refine W_end (gen_Q fun A114 E114 => ?_)
    have Y114 := szq E114
    have F114 := fsE E114 (cq1 (ck (cq6 F110 rfl) rfl rfl) rfl)
    clear E114 Y110 F110
    have S115 : St w58 Yb67 [c24_68, c19_68, c2_68] w113 := S113.sel [1, 2, 3] (by decide) rfl
    refine tk H112 ?_
    refine wp_seq_k fun K116 H116 => ?_
    refine region_in ?_
    refine W_v rfl rfl (V_mov rfl (fg1 F114)) ?_
    refine W_v rfl rfl (V_not rfl (et rfl)) ?_
    refine W_sure (c' := false) rfl rfl (V_mov rfl (et rfl)) (by rw [ot_has hV hny hLy (pl_slot hpe) ⟨by omega, by omega⟩ (by omega)]; rfl) ?_
    refine W_v rfl (wanted_t rfl rfl (et rfl) (ez rfl)) (V_mov rfl (es3 rfl (fg0 F114))) ?_
    refine W_v rfl rfl (V_pickF rfl (es rfl (et rfl)) (et rfl)) ?_
    refine W_end (gen_Q fun A117 E117 => ?_)
    have Y117 := szq E117
    have F117 := fsE E117 (ck (ck (cq3 F114 rfl) rfl rfl) rfl rfl)
    clear E117 Y114 F114
    refine tk H116 ?_
    refine cond_not (fg0 F117) (ot_has hV hnz hLz (pl_slot hpe) ⟨by omega, by omega⟩ (by omega)) ?_
    refine wp_skip ?_
    refine inb_n ?_
    refine tk H73 ?_
    refine region_in ?_
    refine W_v rfl rfl (V_mov rfl (fg10 F117)) ?_
    refine W_v rfl rfl (V_add rfl (et rfl) rfl (by omega) (by omega)) ?_
    refine W_v rfl rfl (V_asg rfl (et rfl)) ?_
    refine W_end (gen_Q fun A118 E118 => ?_)
    have Y118 := szq E118
    have F118 := fsE E118 (ck (cq2 (fx10 F117) rfl) rfl rfl)
    clear E118 Y117 F117
    refine then_n ⟨N.toNat + 1 - (k + 1), by simp only [hm68]; omega, Y118, F118.d, (k + 1), rfl, (by omega), (((fg0 F118)).trans (by first | rfl | (simp; done) | (congr 1; omega))), (((fg16 F118)).trans (fg14 F65).symm), (((fg15 F118)).trans (fg15 F65).symm), (((fg14 F118)).trans (fg10 F65).symm), (((fg13 F118)).trans (fg8 F65).symm), (((fg12 F118)).trans (fg2 F65).symm), (((fg11 F118)).trans (fg1 F65).symm), (by subst hc24_68 hc19_68 hc2_68; exact S115)⟩
   refine wp_exit ?_
   refine then_exit ?_
   refine then_exit ?_
   refine inb_hit ?_
   refine tk H63 ?_
   refine wp_seq_k fun K119 H119 => ?_
   refine region_in ?_
   refine W_call rfl rfl rfl Try.func10 (by kernel_rfl) rfl (args0) (lawk_c  ) ?_
   rintro _ w120 ⟨rfl, hP120⟩
   refine ⟨_, rfl, ?_⟩
   have S120 := S68.join hP120
   replace S120 : St w58 Yb67 [c24_68, c19_68, c2_68] w120 := S120
   refine W_v rfl rfl (V_asg rfl (et rfl)) ?_
   refine W_end (gen_Q fun A121 E121 => ?_)
   have Y121 := szq E121
   have F121 := fsE E121 (ck (cq1 F71 rfl) rfl rfl)
   clear E121 Y71 F71
   have S122 : St w58 Yb67 [] w120 := S120.sel [] (by decide) rfl
   refine tk H119 ?_
   refine wp_ret ?_
   refine ret_in (results_1 Try.results5 (rv_tmp (fg0 F121))) F121.d ?_
   exact ⟨rfl, (back67 _ _ S122.fin0)⟩
  refine W_off rfl (wanted_f rfl rfl (et rfl) (ez rfl) rfl) ?_
  refine W_off rfl (wanted_f rfl rfl (es rfl (et rfl)) (ez rfl) rfl) ?_
  refine W_off rfl (wanted_f rfl rfl (es2 rfl (et rfl)) (ez rfl) rfl) ?_
  refine W_v rfl rfl (V_pickF rfl (es3 rfl (et rfl)) rfl) ?_
  refine W_v rfl rfl (V_asg rfl (et rfl)) ?_
  refine W_end (gen_Q fun A123 E123 => ?_)
  have Y123 := szq E123
  have F123 := fsE E123 (ck (cq3 (cq8 F59 rfl) rfl) rfl rfl)
  clear E123 Y59 F59
  refine tk H60 ?_
  refine wp_seq_k fun K124 H124 => ?_
  refine wp_seq_k fun K125 H125 => ?_
  refine region_in ?_
  refine W_v rfl rfl (V_asg rfl rfl) ?_
  refine W_end (gen_Q fun A126 E126 => ?_)
  have Y126 := szq E126
  have F126 := fsE E126 (ck F123 rfl rfl)
  clear E126 Y123 F123
  refine tk H125 ?_
  refine wp_block ?_
  have S127 := S58.sel [0, 3, 6, 4, 5, 1, 2] (by decide) (l' := [c24, c19, c2, c_17, cz_17, c_22, cz_22]) rfl
  replace S127 : St w NoX [c24, c19, c2, c_17, cz_17, c_22, cz_22] w58 := S127
  obtain ⟨Yb128, S128, hY128, hF128, hB128⟩ := St.call (pre := [c24, c19, c2]) (fr := [c_17, cz_17, c_22, cz_22]) S127
  have back128 : ∀ w2 post, St w58 Yb128 post w2 → St w NoX post w2 := fun _ _ h => (hB128 _ _ h).left
  have h_cv_128 := hY128 _ h_cv
  have h_nv_128 := hY128 _ h_nv
  have k_cv_128 := hY128 _ k_cv
  have n_cv_128 := hY128 _ n_cv
  have fz128_0 : Ro w58 Yb128 (rmR v_17 (chC C N Z K Q (csF Xu) ns slot 0 t)) := (hc_17 ▸ hF128 0 _ rfl : Ro w58 Yb128 (rmO v_17 (chC C N Z K Q (csF Xu) ns slot 0 t))).rm
  have fz128_1 : Ro w58 Yb128 (il .i64 z_17 (chN C N Z K Q (csF Xu) ns slot 0 t)) := (hcz_17 ▸ hF128 1 _ rfl : Ro w58 Yb128 (io .i64 z_17 (chN C N Z K Q (csF Xu) ns slot 0 t))).own
  have fz128_2 : Ro w58 Yb128 (rmR v_22 (chC C N Z K Q (csF Xu) ns slot t 0)) := (hc_22 ▸ hF128 2 _ rfl : Ro w58 Yb128 (rmO v_22 (chC C N Z K Q (csF Xu) ns slot t 0))).rm
  have fz128_3 : Ro w58 Yb128 (il .i64 z_22 (chN C N Z K Q (csF Xu) ns slot t 0)) := (hcz_22 ▸ hF128 3 _ rfl : Ro w58 Yb128 (io .i64 z_22 (chN C N Z K Q (csF Xu) ns slot t 0))).own
  have f_Xu := nsi_all n_cv_128 h_nv_128
  obtain ⟨Uy, hUy, kUy, nUy⟩ := rmR_open fz128_0
  have bUy := SlN.le (sl_SlN kUy.at)
  have f_Uy := nsi_all nUy fz128_1
  have hlUy := cs_len hUy
  obtain ⟨Uz, hUz, kUz, nUz⟩ := rmR_open fz128_2
  have bUz := SlN.le (sl_SlN kUz.at)
  have f_Uz := nsi_all nUz fz128_3
  have hlUz := cs_len hUz
  have hLy := rec_VL hV hrc
  have hLz := for_VL hV hfc
  have hny : (Uy.length : Int) = N := by rw [← csF_len, hUy]; exact chl hV hrc
  have hnz : (Uz.length : Int) = N := by rw [← csF_len, hUz]; exact chl hV hfc
  rw [← hUy] at hLy
  rw [← hUz] at hLz
  obtain ⟨hp1, hp2⟩ := pl_all hpe
  have hrg := (pl2_of hpe).r
  -- loop 16
  refine loopX (fun mz A' w' => SzN A' 182 ∧ A'.defers = [] ∧ (∃ (k : Nat), (mz = N.toNat + 1 - k) ∧ ((k : Int) ≤ N + 1) ∧ (EV A' (.tmp 17) = .int .i64 ((k : Int) - 1)) ∧ (EV A' (.tmp 1) = EV A126 (.tmp 1)) ∧ (EV A' (.tmp 3) = EV A126 (.tmp 3)) ∧ (EV A' (.tmp 9) = EV A126 (.tmp 9)) ∧ (EV A' (.tmp 11) = EV A126 (.tmp 11)) ∧ (EV A' (.tmp 15) = EV A126 (.tmp 15)) ∧ (EV A' (.tmp 16) = EV A126 (.tmp 16)) ∧ (St w58 Yb128 [bx g23 29 #[v_22, z_22], bx g18 29 #[v_17, z_17], bx g2 31 #[.int .i64 (C), .int .i64 (N), .int .i64 (Z), .int .i64 (K), .int .i64 (Q), cv, nv]] w'))) (N.toNat + 1 - 0) ⟨Y126, F126.d, 0, rfl, (by omega), (((fg0 F126)).trans (by first | rfl | (simp; done) | (congr 1; omega))), rfl, rfl, rfl, rfl, rfl, rfl, (by subst hc24 hc19 hc2; exact S128)⟩ ?_
  clear S128 hc24 hc19 hc2
  rintro n129 A129 w129 ⟨Y129, hdf129, k, hm129, hk, l17_129, u1_129, u3_129, u9_129, u11_129, u15_129, u16_129, S129⟩
  have l1_129 := u1_129.trans (fg14 F126)
  have l3_129 := u3_129.trans (fg15 F126)
  have l9_129 := u9_129.trans (fg10 F126)
  have l11_129 := u11_129.trans (fg8 F126)
  have l15_129 := u15_129.trans (fg2 F126)
  have l16_129 := u16_129.trans (fg1 F126)
  obtain ⟨c24_129, c19_129, c2_129, hc24_129, hc19_129, hc2_129, S129⟩ := gen3 S129
  refine wp_seq_k fun K130 H130 => ?_
  refine wp_seq_k fun K131 H131 => ?_
  refine region_in ?_
  refine W_v rfl rfl (V_mov rfl l17_129) ?_
  refine W_v rfl rfl (V_fa (off' := 0) rfl (es rfl l3_129) Try.underlying31 rfl (by decide +kernel) rfl) ?_
  refine W_v rfl rfl (V_fa (off' := 1) rfl (et rfl) Try.underlying23 rfl (by decide +kernel) rfl) ?_
  refine W_r rfl rfl (VR_ldC rfl (et rfl) (cell_box (v := .int .i64 (N)) (S129.obj 2 rfl hc2_129) rfl) Try.underlying3 rfl) ?_
  refine W_v rfl rfl (V_lss rfl (es3 rfl (et rfl)) (et rfl)) ?_
  refine W_end (gen_Q fun A132 E132 => ?_)
  have Y132 := szq E132
  have F132 := (((((((fsE E132 (ck (cq4 (FS.n hdf129) rfl) rfl rfl)).c (lookE E132 1 (es5 rfl l1_129))).c (lookE E132 3 (es5 rfl l3_129))).c (lookE E132 9 (es5 rfl l9_129))).c (lookE E132 11 (es5 rfl l11_129))).c (lookE E132 15 (es5 rfl l15_129))).c (lookE E132 16 (es5 rfl l16_129))).c (lookE E132 17 (es5 rfl l17_129))
  clear E132 Y129 hdf129 l17_129 l1_129 l3_129 l9_129 l11_129 l15_129 l16_129
  refine tk H131 ?_
  refine cond_dec (fg7 F132) (fun c133 => ?_) (fun c133 => ?_)
  ·refine wp_skip ?_
   refine tk H130 ?_
   refine wp_seq_k fun K134 H134 => ?_
   refine wp_block ?_
   refine wp_seq_k fun K135 H135 => ?_
   refine region_monoS 13 14 [none, none, none, some (SPv [] (fun _ => fun u l' => u = .agg #[(aS Xu nv ns (jS Xu ((k : Int) - 1))).1] ∧ l' = []) 3), none, none, some (SPv [] (fun _ => fun u l' => u = .agg #[(aS Uy z_17 (chN C N Z K Q (csF Xu) ns slot 0 t) (jS Uy ((k : Int) - 1))).1] ∧ l' = []) 6), none, none, some (SPv [] (fun _ => fun u l' => u = .agg #[(aS Uz z_22 (chN C N Z K Q (csF Xu) ns slot t 0) (jS Uz ((k : Int) - 1))).1] ∧ l' = []) 9), some (SPv [] (fun _ => fun u l' => ∃ g_, u = .pointer (some ⟨g_, 0, none⟩) ∧ ∃ c_, c_ = bx g_ 27 #[.slice none 0 0] ∧ l' = [c_]) 10), some (SPv [] (fun _ => fun u l' => ∃ g_, u = .pointer (some ⟨g_, 0, none⟩) ∧ ∃ c_, c_ = bx g_ 27 #[.slice none 0 0] ∧ l' = [c_]) 11), some (SPv [] (fun _ => fun u l' => ∃ g_, u = .pointer (some ⟨g_, 0, none⟩) ∧ ∃ c_, c_ = bx g_ 27 #[.slice none 0 0] ∧ l' = [c_]) 12)] (by kernel_rfl) (by kernel_rfl) ?_
   refine D_v rfl rfl (V_fa (off' := 5) rfl (fg5 F132) Try.underlying31 rfl (by decide +kernel) rfl) rfl rfl ?_
   refine D_r rfl rfl (by kernel_rfl) (fun sx hx hF => (VR_ldP (ys := [cv, nv]) rfl (et rfl) ((S129.grow hx).obj 2 rfl hc2_129) (ldP_at rfl) Try.underlying29 rfl (by kernel_rfl))) rfl rfl ?_
   refine D_v rfl rfl (V_mov rfl (es2 rfl (fg0 F132))) rfl rfl ?_
   refine D_call (ts := []) (vs := []) (C0 := fun _ => fun u l' => u = .agg #[(aS Xu nv ns (jS Xu ((k : Int) - 1))).1] ∧ l' = []) (C := fun u l' => u = .agg #[(aS Xu nv ns (jS Xu ((k : Int) - 1))).1] ∧ l' = []) rfl rfl rfl Try.func25 (by kernel_rfl) rfl (args2 (es rfl (et rfl)) (et rfl)) rfl rfl rfl rfl (fun sx hx hF => ?_) (fun u136 l136 hu136 => ?_)
   ·refine (lset_c (i := ((k : Int) - 1)) ((S129.grow hx).roC k_cv_128) ((S129.grow hx).roC n_cv_128) ((S129.grow hx).roC h_nv_128) (by omega)).mono ?_
    rintro _ _ ⟨rfl, hz⟩
    exact ⟨_, rfl, _, ⟨rfl, rfl⟩, hz⟩
   obtain ⟨rfl, hl136⟩ := hu136
   refine D_r rfl rfl (by kernel_rfl) (fun sx hx hF => (VR_ldA rfl (es4 rfl (fg4 F132)) ((S129.grow hx).obj 1 rfl hc19_129) Try.underlying29 rfl (by kernel_rfl))) rfl rfl ?_
   refine D_v rfl rfl (V_mov rfl (es5 rfl (fg0 F132))) rfl rfl ?_
   refine D_call (ts := []) (vs := []) (C0 := fun _ => fun u l' => u = .agg #[(aS Uy z_17 (chN C N Z K Q (csF Xu) ns slot 0 t) (jS Uy ((k : Int) - 1))).1] ∧ l' = []) (C := fun u l' => u = .agg #[(aS Uy z_17 (chN C N Z K Q (csF Xu) ns slot 0 t) (jS Uy ((k : Int) - 1))).1] ∧ l' = []) rfl rfl rfl Try.func25 (by kernel_rfl) rfl (args2 (es rfl (et rfl)) (et rfl)) rfl rfl rfl rfl (fun sx hx hF => ?_) (fun u137 l137 hu137 => ?_)
   ·refine (lset_c (i := ((k : Int) - 1)) ((S129.grow hx).roC kUy) ((S129.grow hx).roC nUy) ((S129.grow hx).roC fz128_1) (by omega)).mono ?_
    rintro _ _ ⟨rfl, hz⟩
    exact ⟨_, rfl, _, ⟨rfl, rfl⟩, hz⟩
   obtain ⟨rfl, hl137⟩ := hu137
   refine D_r rfl rfl (by kernel_rfl) (fun sx hx hF => (VR_ldA rfl (es7 rfl (fg3 F132)) ((S129.grow hx).obj 0 rfl hc24_129) Try.underlying29 rfl (by kernel_rfl))) rfl rfl ?_
   refine D_v rfl rfl (V_mov rfl (es8 rfl (fg0 F132))) rfl rfl ?_
   refine D_call (ts := []) (vs := []) (C0 := fun _ => fun u l' => u = .agg #[(aS Uz z_22 (chN C N Z K Q (csF Xu) ns slot t 0) (jS Uz ((k : Int) - 1))).1] ∧ l' = []) (C := fun u l' => u = .agg #[(aS Uz z_22 (chN C N Z K Q (csF Xu) ns slot t 0) (jS Uz ((k : Int) - 1))).1] ∧ l' = []) rfl rfl rfl Try.func25 (by kernel_rfl) rfl (args2 (es rfl (et rfl)) (et rfl)) rfl rfl rfl rfl (fun sx hx hF => ?_) (fun u138 l138 hu138 => ?_)
   ·refine (lset_c (i := ((k : Int) - 1)) ((S129.grow hx).roC kUz) ((S129.grow hx).roC nUz) ((S129.grow hx).roC fz128_3) (by omega)).mono ?_
    rintro _ _ ⟨rfl, hz⟩
    exact ⟨_, rfl, _, ⟨rfl, rfl⟩, hz⟩
   obtain ⟨rfl, hl138⟩ := hu138
   refine D_lay (ts := []) (vs := []) (C0 := fun _ => fun u l' => ∃ g_, u = .pointer (some ⟨g_, 0, none⟩) ∧ ∃ c_, c_ = bx g_ 27 #[.slice none 0 0] ∧ l' = [c_]) (C := fun u l' => ∃ g_, u = .pointer (some ⟨g_, 0, none⟩) ∧ ∃ c_, c_ = bx g_ 27 #[.slice none 0 0] ∧ l' = [c_]) rfl rfl rfl rfl rfl rfl (fun sx hx hF => lay_alloc (z := .agg #[.slice none 0 0]) rfl (by kernel_rfl) (by rfl)) (fun u139 l139 hu139 => ?_)
   obtain ⟨g139, rfl, c139, hc139, hl139⟩ := hu139
   refine D_lay (ts := []) (vs := []) (C0 := fun _ => fun u l' => ∃ g_, u = .pointer (some ⟨g_, 0, none⟩) ∧ ∃ c_, c_ = bx g_ 27 #[.slice none 0 0] ∧ l' = [c_]) (C := fun u l' => ∃ g_, u = .pointer (some ⟨g_, 0, none⟩) ∧ ∃ c_, c_ = bx g_ 27 #[.slice none 0 0] ∧ l' = [c_]) rfl rfl rfl rfl rfl rfl (fun sx hx hF => lay_alloc (z := .agg #[.slice none 0 0]) rfl (by kernel_rfl) (by rfl)) (fun u140 l140 hu140 => ?_)
   obtain ⟨g140, rfl, c140, hc140, hl140⟩ := hu140
   refine D_lay (ts := []) (vs := []) (C0 := fun _ => fun u l' => ∃ g_, u = .pointer (some ⟨g_, 0, none⟩) ∧ ∃ c_, c_ = bx g_ 27 #[.slice none 0 0] ∧ l' = [c_]) (C := fun u l' => ∃ g_, u = .pointer (some ⟨g_, 0, none⟩) ∧ ∃ c_, c_ = bx g_ 27 #[.slice none 0 0] ∧ l' = [c_]) rfl rfl rfl rfl rfl rfl (fun sx hx hF => lay_alloc (z := .agg #[.slice none 0 0]) rfl (by kernel_rfl) (by rfl)) (fun u141 l141 hu141 => ?_)
   obtain ⟨g141, rfl, c141, hc141, hl141⟩ := hu141
   refine D_eff rfl ?_
   refine ZS_eff S129 rfl rfl (fun s142 hJ142 hL142 hF142 => ?_)
   obtain ⟨ll136, ws136, we136, ⟨hq136, hl136r⟩, hm136, k136, e136⟩ := L.all_get (L.all_rest (L.all_rest (L.all_rest (L.all_rest (L.all_rest hF142))))); cases hq136; subst hl136r
   replace hJ142 := hJ142.add hL142 (i := 3) rfl hm136 k136 e136
   obtain ⟨ll137, ws137, we137, ⟨hq137, hl137r⟩, hm137, k137, e137⟩ := L.all_get (L.all_rest (L.all_rest (L.all_rest (L.all_rest hF142)))); cases hq137; subst hl137r
   replace hJ142 := hJ142.add hL142 (i := 6) rfl hm137 k137 e137
   obtain ⟨ll138, ws138, we138, ⟨hq138, hl138r⟩, hm138, k138, e138⟩ := L.all_get (L.all_rest (L.all_rest (L.all_rest hF142))); cases hq138; subst hl138r
   replace hJ142 := hJ142.add hL142 (i := 9) rfl hm138 k138 e138
   obtain ⟨ll139, ws139, we139, ⟨g139q, hq139, c139r, hc139r, hl139r⟩, hm139, k139, e139⟩ := L.all_get (L.all_rest (L.all_rest hF142)); cases hq139; subst hl139r
   replace hJ142 := hJ142.add hL142 (i := 10) rfl hm139 k139 e139
   obtain ⟨ll140, ws140, we140, ⟨g140q, hq140, c140r, hc140r, hl140r⟩, hm140, k140, e140⟩ := L.all_get (L.all_rest hF142); cases hq140; subst hl140r
   replace hJ142 := hJ142.add hL142 (i := 11) rfl hm140 k140 e140
   obtain ⟨ll141, ws141, we141, ⟨g141q, hq141, c141r, hc141r, hl141r⟩, hm141, k141, e141⟩ := L.all_get hF142; cases hq141; subst hl141r
   replace hJ142 := hJ142.add hL142 (i := 12) rfl hm141 k141 e141
   have S142 := hJ142.st; clear hF142 hJ142 hL142
   generalize s142.1 = w142 at *
   replace S142 : St w58 Yb128 [c141r, c140r, c139r, c24_129, c19_129, c2_129] w142 := S142
   refine W_stAS 2 S142 rfl hc139r rfl rfl rfl (es2 rfl (et rfl)) (es8 rfl (es rfl (et rfl))) (by simp only [List.all_toArray, List.all_cons, List.all_nil, SlN_one (sl_SlN (f_Xu (jS Xu ((k : Int) - 1))).at)] <;> rfl) (by rfl) (by kernel_rfl) (fun w143 c143 hc143 S143 => ?_)
   replace S143 : St w58 Yb128 [c141r, c140r, c143, c24_129, c19_129, c2_129] w143 := S143
   refine W_stAS 1 S143 rfl hc140r rfl rfl rfl (es rfl (et rfl)) (es6 rfl (et rfl)) (by simp only [List.all_toArray, List.all_cons, List.all_nil, SlN_one (sl_SlN (f_Uy (jS Uy ((k : Int) - 1))).at)] <;> rfl) (by rfl) (by kernel_rfl) (fun w144 c144 hc144 S144 => ?_)
   replace S144 : St w58 Yb128 [c141r, c144, c143, c24_129, c19_129, c2_129] w144 := S144
   refine W_stAS 0 S144 rfl hc141r rfl rfl rfl (et rfl) (es3 rfl (et rfl)) (by simp only [List.all_toArray, List.all_cons, List.all_nil, SlN_one (sl_SlN (f_Uz (jS Uz ((k : Int) - 1))).at)] <;> rfl) (by rfl) (by kernel_rfl) (fun w145 c145 hc145 S145 => ?_)
   replace S145 : St w58 Yb128 [c145, c144, c143, c24_129, c19_129, c2_129] w145 := S145
   refine W_end ?_
   refine Qo_normal ?_
   refine gen_Q (fun A146 E146 => ?_)
   have Y146 := szq E146
   have F146 := fsE E146 (ck (ck (ck (cq2 (cq8 F132 rfl) rfl) rfl rfl) rfl rfl) rfl rfl)
   clear E146 Y132 F132
   refine tk H135 ?_
   refine wp_seq_k fun K147 H147 => ?_
   refine wp_seq_k fun K148 H148 => ?_
   refine region_in ?_
   refine W_v rfl rfl (V_mov rfl (fg3 F146)) ?_
   refine W_v rfl rfl (V_mov rfl (es rfl (fg5 F146))) ?_
   refine W_v rfl rfl (V_neq rfl (es rfl (et rfl)) (et rfl)) ?_
   refine W_split rfl rfl (V_mov rfl (et rfl)) (fun c149 => ?_) (fun c149 => ?_)
   ·refine W_off rfl (wanted_f rfl rfl (et rfl) (ez rfl) rfl) ?_
    refine W_off rfl (wanted_f rfl rfl (es rfl (et rfl)) (ez rfl) rfl) ?_
    refine W_v rfl rfl (V_pickT rfl (es2 rfl (et rfl)) rfl) ?_
    refine W_end (gen_Q fun A150 E150 => ?_)
    have Y150 := szq E150
    have F150 := fsE E150 (ck (ck (ck (cq4 F146 rfl) rfl rfl) rfl rfl) rfl rfl)
    clear E150 Y146 F146
    refine tk H148 ?_
    refine cond_t (fg0 F150) ?_
    refine wp_seq_k fun K151 H151 => ?_
    refine wp_seq_k fun K152 H152 => ?_
    refine region_in ?_
    refine W_v rfl rfl (V_fa (off' := 0) rfl (fg5 F150) Try.underlying27 rfl (by decide +kernel) rfl) ?_
    refine W_r rfl rfl (VR_ldC rfl (et rfl) (cell_box (v := (aS Xu nv ns (jS Xu ((k : Int) - 1))).1) (S145.obj 2 rfl hc143) rfl) Try.underlying25 rfl) ?_
    refine W_v rfl rfl (V_fa (off' := 0) rfl (es2 rfl (fg4 F150)) Try.underlying27 rfl (by decide +kernel) rfl) ?_
    refine W_r rfl rfl (VR_ldC rfl (et rfl) (cell_box (v := (aS Uy z_17 (chN C N Z K Q (csF Xu) ns slot 0 t) (jS Uy ((k : Int) - 1))).1) (S145.obj 1 rfl hc144) rfl) Try.underlying25 rfl) ?_
    refine W_call rfl rfl rfl Try.func26 (by kernel_rfl) rfl (args2 (es2 rfl (et rfl)) (et rfl)) (qInts_c (S145.roC (f_Xu (jS Xu ((k : Int) - 1)))) (S145.roC (f_Uy (jS Uy ((k : Int) - 1)))) ) ?_
    rintro _ w153 ⟨rfl, hP153⟩
    refine ⟨_, rfl, ?_⟩
    have S153 := S145.join hP153
    replace S153 : St w58 Yb128 [c145, c144, c143, c24_129, c19_129, c2_129] w153 := S153
    refine W_v rfl rfl (V_notd rfl (et rfl)) ?_
    refine W_sure (c' := false) rfl rfl (V_mov rfl (et rfl)) (by rw [decide_eq_false_iff_not]; exact fun h => h (ot_ne hXN hny hLy hrg ⟨by omega, by omega⟩ (by omega))) ?_
    refine W_v rfl (wanted_t rfl rfl (et rfl) (ez rfl)) (V_fa (off' := 0) rfl (es7 rfl (fg5 F150)) Try.underlying27 rfl (by decide +kernel) rfl) ?_
    refine W_r rfl (wanted_t rfl rfl (es rfl (et rfl)) (ez rfl)) (VR_ldC rfl (et rfl) (cell_box (v := (aS Xu nv ns (jS Xu ((k : Int) - 1))).1) (S153.obj 2 rfl hc143) rfl) Try.underlying25 rfl) ?_
    refine W_v rfl (wanted_t rfl rfl (es2 rfl (et rfl)) (ez rfl)) (V_fa (off' := 0) rfl (es8 rfl (es rfl (fg3 F150))) Try.underlying27 rfl (by decide +kernel) rfl) ?_
    refine W_r rfl (wanted_t rfl rfl (es3 rfl (et rfl)) (ez rfl)) (VR_ldC rfl (et rfl) (cell_box (v := (aS Uz z_22 (chN C N Z K Q (csF Xu) ns slot t 0) (jS Uz ((k : Int) - 1))).1) (S153.obj 0 rfl hc145) rfl) Try.underlying25 rfl) ?_
    refine W_call rfl (wanted_t rfl rfl (es4 rfl (et rfl)) (ez rfl)) rfl Try.func26 (by kernel_rfl) rfl (args2 (es2 rfl (et rfl)) (et rfl)) (qInts_c (S153.roC (f_Xu (jS Xu ((k : Int) - 1)))) (S153.roC (f_Uz (jS Uz ((k : Int) - 1)))) ) ?_
    rintro _ w154 ⟨rfl, hP154⟩
    refine ⟨_, rfl, ?_⟩
    have S154 := S153.join hP154
    replace S154 : St w58 Yb128 [c145, c144, c143, c24_129, c19_129, c2_129] w154 := S154
    refine W_v rfl (wanted_t rfl rfl (es5 rfl (et rfl)) (ez rfl)) (V_notd rfl (et rfl)) ?_
    refine W_v rfl rfl (V_pickF rfl (es6 rfl (et rfl)) (et rfl)) ?_
    refine W_end (gen_Q fun A155 E155 => ?_)
    have Y155 := szq E155
    have F155 := fsE E155 (ck (ck (ck (ck (ck (ck (ck (cq7 F150 rfl) rfl rfl) rfl rfl) rfl rfl) rfl rfl) rfl rfl) rfl rfl) rfl rfl)
    clear E155 Y150 F150
    have S156 : St w58 Yb128 [c145, c143, c24_129, c19_129, c2_129] w154 := S154.sel [0, 2, 3, 4, 5] (by decide) rfl
    refine tk H152 ?_
    refine cond_not (fg0 F155) (by rw [decide_eq_false_iff_not]; exact fun h => h (ot_ne hXN hnz hLz hrg ⟨by omega, by omega⟩ (by omega))) ?_
    refine wp_skip ?_
    refine tk H151 ?_
    refine wp_exit ?_
    refine then_exit ?_
    refine inb_hit ?_
    refine tk H134 ?_
    refine region_in ?_
    refine W_v rfl rfl (V_mov rfl (fg13 F155)) ?_
    refine W_v rfl rfl (V_add rfl (et rfl) rfl (by omega) (by omega)) ?_
    refine W_v rfl rfl (V_asg rfl (et rfl)) ?_
    refine W_end (gen_Q fun A157 E157 => ?_)
    have Y157 := szq E157
    have F157 := fsE E157 (ck (cq2 (fx13 F155) rfl) rfl rfl)
    clear E157 Y155 F155
    have S158 : St w58 Yb128 [c24_129, c19_129, c2_129] w154 := S156.sel [2, 3, 4] (by decide) rfl
    refine then_n ⟨N.toNat + 1 - (k + 1), by simp only [hm129]; omega, Y157, F157.d, (k + 1), rfl, (by omega), (((fg0 F157)).trans (by first | rfl | (simp; done) | (congr 1; omega))), (((fg19 F157)).trans (fg14 F126).symm), (((fg18 F157)).trans (fg15 F126).symm), (((fg17 F157)).trans (fg10 F126).symm), (((fg16 F157)).trans (fg8 F126).symm), (((fg15 F157)).trans (fg2 F126).symm), (((fg14 F157)).trans (fg1 F126).symm), (by subst hc24_129 hc19_129 hc2_129; exact S158)⟩
   refine W_v rfl (wanted_t rfl rfl (et rfl) (ez rfl)) (V_mov rfl (es4 rfl (fg4 F146))) ?_
   refine W_v rfl (wanted_t rfl rfl (es rfl (et rfl)) (ez rfl)) (V_notF rfl (et rfl)) ?_
   refine W_v rfl rfl (V_pickF rfl (es2 rfl (et rfl)) (et rfl)) ?_
   refine W_end (gen_Q fun A159 E159 => ?_)
   have Y159 := szq E159
   have F159 := fsE E159 (ck (ck (ck (cq4 F146 rfl) rfl rfl) rfl rfl) rfl rfl)
   clear E159 Y146 F146
   refine tk H148 ?_
   refine cond_t (fg0 F159) ?_
   refine wp_seq_k fun K160 H160 => ?_
   refine wp_seq_k fun K161 H161 => ?_
   refine region_in ?_
   refine W_v rfl rfl (V_fa (off' := 0) rfl (fg5 F159) Try.underlying27 rfl (by decide +kernel) rfl) ?_
   refine W_r rfl rfl (VR_ldC rfl (et rfl) (cell_box (v := (aS Xu nv ns (jS Xu ((k : Int) - 1))).1) (S145.obj 2 rfl hc143) rfl) Try.underlying25 rfl) ?_
   refine W_v rfl rfl (V_fa (off' := 0) rfl (es2 rfl (fg4 F159)) Try.underlying27 rfl (by decide +kernel) rfl) ?_
   refine W_r rfl rfl (VR_ldC rfl (et rfl) (cell_box (v := (aS Uy z_17 (chN C N Z K Q (csF Xu) ns slot 0 t) (jS Uy ((k : Int) - 1))).1) (S145.obj 1 rfl hc144) rfl) Try.underlying25 rfl) ?_
   refine W_call rfl rfl rfl Try.func26 (by kernel_rfl) rfl (args2 (es2 rfl (et rfl)) (et rfl)) (qInts_c (S145.roC (f_Xu (jS Xu ((k : Int) - 1)))) (S145.roC (f_Uy (jS Uy ((k : Int) - 1)))) ) ?_
   rintro _ w162 ⟨rfl, hP162⟩
   refine ⟨_, rfl, ?_⟩
   have S162 := S145.join hP162
   replace S162 : St w58 Yb128 [c145, c144, c143, c24_129, c19_129, c2_129] w162 := S162
   refine W_v rfl rfl (V_notd rfl (et rfl)) ?_
   refine W_sure (c' := false) rfl rfl (V_mov rfl (et rfl)) (by rw [decide_eq_false_iff_not]; exact fun h => h (ot_ne hXN hny hLy hrg ⟨by omega, by omega⟩ (by omega))) ?_
   refine W_v rfl (wanted_t rfl rfl (et rfl) (ez rfl)) (V_fa (off' := 0) rfl (es7 rfl (fg5 F159)) Try.underlying27 rfl (by decide +kernel) rfl) ?_
   refine W_r rfl (wanted_t rfl rfl (es rfl (et rfl)) (ez rfl)) (VR_ldC rfl (et rfl) (cell_box (v := (aS Xu nv ns (jS Xu ((k : Int) - 1))).1) (S162.obj 2 rfl hc143) rfl) Try.underlying25 rfl) ?_
   refine W_v rfl (wanted_t rfl rfl (es2 rfl (et rfl)) (ez rfl)) (V_fa (off' := 0) rfl (es8 rfl (es rfl (fg3 F159))) Try.underlying27 rfl (by decide +kernel) rfl) ?_
   refine W_r rfl (wanted_t rfl rfl (es3 rfl (et rfl)) (ez rfl)) (VR_ldC rfl (et rfl) (cell_box (v := (aS Uz z_22 (chN C N Z K Q (csF Xu) ns slot t 0) (jS Uz ((k : Int) - 1))).1) (S162.obj 0 rfl hc145) rfl) Try.underlying25 rfl) ?_
   refine W_call rfl (wanted_t rfl rfl (es4 rfl (et rfl)) (ez rfl)) rfl Try.func26 (by kernel_rfl) rfl (args2 (es2 rfl (et rfl)) (et rfl)) (qInts_c (S162.roC (f_Xu (jS Xu ((k : Int) - 1)))) (S162.roC (f_Uz (jS Uz ((k : Int) - 1)))) ) ?_
   rintro _ w163 ⟨rfl, hP163⟩
   refine ⟨_, rfl, ?_⟩
   have S163 := S162.join hP163
   replace S163 : St w58 Yb128 [c145, c144, c143, c24_129, c19_129, c2_129] w163 := S163
   refine W_v rfl (wanted_t rfl rfl (es5 rfl (et rfl)) (ez rfl)) (V_notd rfl (et rfl)) ?_
   refine W_v rfl rfl (V_pickF rfl (es6 rfl (et rfl)) (et rfl)) ?_
   refine W_end (gen_Q fun A164 E164 => ?_)
   have Y164 := szq E164
   have F164 := fsE E164 (ck (ck (ck (ck (ck (ck (ck (cq7 F159 rfl) rfl rfl) rfl rfl) rfl rfl) rfl rfl) rfl rfl) rfl rfl) rfl rfl)
   clear E164 Y159 F159
   have S165 : St w58 Yb128 [c145, c143, c24_129, c19_129, c2_129] w163 := S163.sel [0, 2, 3, 4, 5] (by decide) rfl
   refine tk H161 ?_
   refine cond_not (fg0 F164) (by rw [decide_eq_false_iff_not]; exact fun h => h (ot_ne hXN hnz hLz hrg ⟨by omega, by omega⟩ (by omega))) ?_
   refine wp_skip ?_
   refine tk H160 ?_
   refine wp_exit ?_
   refine then_exit ?_
   refine inb_hit ?_
   refine tk H134 ?_
   refine region_in ?_
   refine W_v rfl rfl (V_mov rfl (fg13 F164)) ?_
   refine W_v rfl rfl (V_add rfl (et rfl) rfl (by omega) (by omega)) ?_
   refine W_v rfl rfl (V_asg rfl (et rfl)) ?_
   refine W_end (gen_Q fun A166 E166 => ?_)
   have Y166 := szq E166
   have F166 := fsE E166 (ck (cq2 (fx13 F164) rfl) rfl rfl)
   clear E166 Y164 F164
   have S167 : St w58 Yb128 [c24_129, c19_129, c2_129] w163 := S165.sel [2, 3, 4] (by decide) rfl
   refine then_n ⟨N.toNat + 1 - (k + 1), by simp only [hm129]; omega, Y166, F166.d, (k + 1), rfl, (by omega), (((fg0 F166)).trans (by first | rfl | (simp; done) | (congr 1; omega))), (((fg19 F166)).trans (fg14 F126).symm), (((fg18 F166)).trans (fg15 F126).symm), (((fg17 F166)).trans (fg10 F126).symm), (((fg16 F166)).trans (fg8 F126).symm), (((fg15 F166)).trans (fg2 F126).symm), (((fg14 F166)).trans (fg1 F126).symm), (by subst hc24_129 hc19_129 hc2_129; exact S167)⟩
  refine wp_exit ?_
  refine then_exit ?_
  refine then_exit ?_
  refine inb_hit ?_
  refine tk H124 ?_
  refine wp_seq_k fun K168 H168 => ?_
  refine region_in ?_
  refine W_call rfl rfl rfl Try.func10 (by kernel_rfl) rfl (args0) (lawk_c  ) ?_
  rintro _ w169 ⟨rfl, hP169⟩
  refine ⟨_, rfl, ?_⟩
  have S169 := S129.join hP169
  replace S169 : St w58 Yb128 [c24_129, c19_129, c2_129] w169 := S169
  refine W_v rfl rfl (V_asg rfl (et rfl)) ?_
  refine W_end (gen_Q fun A170 E170 => ?_)
  have Y170 := szq E170
  have F170 := fsE E170 (ck (cq1 F132 rfl) rfl rfl)
  clear E170 Y132 F132
  have S171 : St w58 Yb128 [] w169 := S169.sel [] (by decide) rfl
  refine tk H168 ?_
  refine wp_ret ?_
  refine ret_in (results_1 Try.results5 (rv_tmp (fg0 F170))) F170.d ?_
  exact ⟨rfl, (back128 _ _ S171.fin0)⟩
 refine wp_skip ?_
 refine tk H54 ?_
 refine wp_seq_k fun K172 H172 => ?_
 refine region_in ?_
 refine W_v rfl rfl (V_mov rfl (fg11 F56)) ?_
 refine W_v rfl rfl (V_neq rfl (et rfl) rfl) ?_
 refine W_sure (c' := false) rfl rfl (V_mov rfl (et rfl)) (by first | (simp [c57]; done) | exact decide_eq_true (by omega) | exact decide_eq_false (by omega)) ?_
 refine W_off rfl (wanted_f rfl rfl (et rfl) (ez rfl) rfl) ?_
 refine W_off rfl (wanted_f rfl rfl (es rfl (et rfl)) (ez rfl) rfl) ?_
 refine W_v rfl rfl (V_pickF rfl (es2 rfl (et rfl)) rfl) ?_
 refine W_v rfl rfl (V_mov rfl (et rfl)) ?_
 refine W_off rfl (wanted_f rfl rfl (et rfl) (ez rfl) rfl) ?_
 refine W_off rfl (wanted_f rfl rfl (es rfl (et rfl)) (ez rfl) rfl) ?_
 refine W_off rfl (wanted_f rfl rfl (es2 rfl (et rfl)) (ez rfl) rfl) ?_
 refine W_v rfl rfl (V_pickF rfl (es3 rfl (et rfl)) rfl) ?_
 refine W_v rfl rfl (V_asg rfl (et rfl)) ?_
 refine W_end (gen_Q fun A173 E173 => ?_)
 have Y173 := szq E173
 have F173 := fsE E173 (ck (cq3 (cq8 F56 rfl) rfl) rfl rfl)
 clear E173 Y56 F56
 refine tk H172 ?_
 refine wp_seq_k fun K174 H174 => ?_
 refine wp_seq_k fun K175 H175 => ?_
 refine region_in ?_
 refine W_v rfl rfl (V_asg rfl rfl) ?_
 refine W_end (gen_Q fun A176 E176 => ?_)
 have Y176 := szq E176
 have F176 := fsE E176 (ck F173 rfl rfl)
 clear E176 Y173 F173
 refine tk H175 ?_
 refine wp_block ?_
 have S177 := S50.sel [0, 3, 6, 4, 5, 1, 2] (by decide) (l' := [c24, c19, c2, c_17, cz_17, c_22, cz_22]) rfl
 replace S177 : St w NoX [c24, c19, c2, c_17, cz_17, c_22, cz_22] w50 := S177
 obtain ⟨Yb178, S178, hY178, hF178, hB178⟩ := St.call (pre := [c24, c19, c2]) (fr := [c_17, cz_17, c_22, cz_22]) S177
 have back178 : ∀ w2 post, St w50 Yb178 post w2 → St w NoX post w2 := fun _ _ h => (hB178 _ _ h).left
 have h_cv_178 := hY178 _ h_cv
 have h_nv_178 := hY178 _ h_nv
 have k_cv_178 := hY178 _ k_cv
 have n_cv_178 := hY178 _ n_cv
 have fz178_0 : Ro w50 Yb178 (rmR v_17 (chC C N Z K Q (csF Xu) ns slot 0 t)) := (hc_17 ▸ hF178 0 _ rfl : Ro w50 Yb178 (rmO v_17 (chC C N Z K Q (csF Xu) ns slot 0 t))).rm
 have fz178_1 : Ro w50 Yb178 (il .i64 z_17 (chN C N Z K Q (csF Xu) ns slot 0 t)) := (hcz_17 ▸ hF178 1 _ rfl : Ro w50 Yb178 (io .i64 z_17 (chN C N Z K Q (csF Xu) ns slot 0 t))).own
 have fz178_2 : Ro w50 Yb178 (rmR v_22 (chC C N Z K Q (csF Xu) ns slot t 0)) := (hc_22 ▸ hF178 2 _ rfl : Ro w50 Yb178 (rmO v_22 (chC C N Z K Q (csF Xu) ns slot t 0))).rm
 have fz178_3 : Ro w50 Yb178 (il .i64 z_22 (chN C N Z K Q (csF Xu) ns slot t 0)) := (hcz_22 ▸ hF178 3 _ rfl : Ro w50 Yb178 (io .i64 z_22 (chN C N Z K Q (csF Xu) ns slot t 0))).own
 have f_Xu := nsi_all n_cv_178 h_nv_178
 obtain ⟨Uy, hUy, kUy, nUy⟩ := rmR_open fz178_0
 have bUy := SlN.le (sl_SlN kUy.at)
 have f_Uy := nsi_all nUy fz178_1
 have hlUy := cs_len hUy
 obtain ⟨Uz, hUz, kUz, nUz⟩ := rmR_open fz178_2
 have bUz := SlN.le (sl_SlN kUz.at)
 have f_Uz := nsi_all nUz fz178_3
 have hlUz := cs_len hUz
 have hLy := rec_VL hV hrc
 have hLz := for_VL hV hfc
 have hny : (Uy.length : Int) = N := by rw [← csF_len, hUy]; exact chl hV hrc
 have hnz : (Uz.length : Int) = N := by rw [← csF_len, hUz]; exact chl hV hfc
 rw [← hUy] at hLy
 rw [← hUz] at hLz
 obtain ⟨hp1, hp2⟩ := pl_all hpe
 have hrg := (pl2_of hpe).r
 -- loop 16
 refine loopX (fun mz A' w' => SzN A' 182 ∧ A'.defers = [] ∧ (∃ (k : Nat), (mz = N.toNat + 1 - k) ∧ ((k : Int) ≤ N + 1) ∧ (EV A' (.tmp 17) = .int .i64 ((k : Int) - 1)) ∧ (EV A' (.tmp 1) = EV A176 (.tmp 1)) ∧ (EV A' (.tmp 3) = EV A176 (.tmp 3)) ∧ (EV A' (.tmp 9) = EV A176 (.tmp 9)) ∧ (EV A' (.tmp 11) = EV A176 (.tmp 11)) ∧ (EV A' (.tmp 15) = EV A176 (.tmp 15)) ∧ (EV A' (.tmp 16) = EV A176 (.tmp 16)) ∧ (St w50 Yb178 [bx g23 29 #[v_22, z_22], bx g18 29 #[v_17, z_17], bx g2 31 #[.int .i64 (C), .int .i64 (N), .int .i64 (Z), .int .i64 (K), .int .i64 (Q), cv, nv]] w'))) (N.toNat + 1 - 0) ⟨Y176, F176.d, 0, rfl, (by omega), (((fg0 F176)).trans (by first | rfl | (simp; done) | (congr 1; omega))), rfl, rfl, rfl, rfl, rfl, rfl, (by subst hc24 hc19 hc2; exact S178)⟩ ?_
 clear S178 hc24 hc19 hc2
 rintro n179 A179 w179 ⟨Y179, hdf179, k, hm179, hk, l17_179, u1_179, u3_179, u9_179, u11_179, u15_179, u16_179, S179⟩
 have l1_179 := u1_179.trans (fg14 F176)
 have l3_179 := u3_179.trans (fg15 F176)
 have l9_179 := u9_179.trans (fg10 F176)
 have l11_179 := u11_179.trans (fg8 F176)
 have l15_179 := u15_179.trans (fg3 F176)
 have l16_179 := u16_179.trans (fg1 F176)
 obtain ⟨c24_179, c19_179, c2_179, hc24_179, hc19_179, hc2_179, S179⟩ := gen3 S179
 refine wp_seq_k fun K180 H180 => ?_
 refine wp_seq_k fun K181 H181 => ?_
 refine region_in ?_
 refine W_v rfl rfl (V_mov rfl l17_179) ?_
 refine W_v rfl rfl (V_fa (off' := 0) rfl (es rfl l3_179) Try.underlying31 rfl (by decide +kernel) rfl) ?_
 refine W_v rfl rfl (V_fa (off' := 1) rfl (et rfl) Try.underlying23 rfl (by decide +kernel) rfl) ?_
 refine W_r rfl rfl (VR_ldC rfl (et rfl) (cell_box (v := .int .i64 (N)) (S179.obj 2 rfl hc2_179) rfl) Try.underlying3 rfl) ?_
 refine W_v rfl rfl (V_lss rfl (es3 rfl (et rfl)) (et rfl)) ?_
 refine W_end (gen_Q fun A182 E182 => ?_)
 have Y182 := szq E182
 have F182 := (((((((fsE E182 (ck (cq4 (FS.n hdf179) rfl) rfl rfl)).c (lookE E182 1 (es5 rfl l1_179))).c (lookE E182 3 (es5 rfl l3_179))).c (lookE E182 9 (es5 rfl l9_179))).c (lookE E182 11 (es5 rfl l11_179))).c (lookE E182 15 (es5 rfl l15_179))).c (lookE E182 16 (es5 rfl l16_179))).c (lookE E182 17 (es5 rfl l17_179))
 clear E182 Y179 hdf179 l17_179 l1_179 l3_179 l9_179 l11_179 l15_179 l16_179
 refine tk H181 ?_
 refine cond_dec (fg7 F182) (fun c183 => ?_) (fun c183 => ?_)
 ·refine wp_skip ?_
  refine tk H180 ?_
  refine wp_seq_k fun K184 H184 => ?_
  refine wp_block ?_
  refine wp_seq_k fun K185 H185 => ?_
  refine region_monoS 13 14 [none, none, none, some (SPv [] (fun _ => fun u l' => u = .agg #[(aS Xu nv ns (jS Xu ((k : Int) - 1))).1] ∧ l' = []) 3), none, none, some (SPv [] (fun _ => fun u l' => u = .agg #[(aS Uy z_17 (chN C N Z K Q (csF Xu) ns slot 0 t) (jS Uy ((k : Int) - 1))).1] ∧ l' = []) 6), none, none, some (SPv [] (fun _ => fun u l' => u = .agg #[(aS Uz z_22 (chN C N Z K Q (csF Xu) ns slot t 0) (jS Uz ((k : Int) - 1))).1] ∧ l' = []) 9), some (SPv [] (fun _ => fun u l' => ∃ g_, u = .pointer (some ⟨g_, 0, none⟩) ∧ ∃ c_, c_ = bx g_ 27 #[.slice none 0 0] ∧ l' = [c_]) 10), some (SPv [] (fun _ => fun u l' => ∃ g_, u = .pointer (some ⟨g_, 0, none⟩) ∧ ∃ c_, c_ = bx g_ 27 #[.slice none 0 0] ∧ l' = [c_]) 11), some (SPv [] (fun _ => fun u l' => ∃ g_, u = .pointer (some ⟨g_, 0, none⟩) ∧ ∃ c_, c_ = bx g_ 27 #[.slice none 0 0] ∧ l' = [c_]) 12)] (by kernel_rfl) (by kernel_rfl) ?_
  refine D_v rfl rfl (V_fa (off' := 5) rfl (fg5 F182) Try.underlying31 rfl (by decide +kernel) rfl) rfl rfl ?_
  refine D_r rfl rfl (by kernel_rfl) (fun sx hx hF => (VR_ldP (ys := [cv, nv]) rfl (et rfl) ((S179.grow hx).obj 2 rfl hc2_179) (ldP_at rfl) Try.underlying29 rfl (by kernel_rfl))) rfl rfl ?_
  refine D_v rfl rfl (V_mov rfl (es2 rfl (fg0 F182))) rfl rfl ?_
  refine D_call (ts := []) (vs := []) (C0 := fun _ => fun u l' => u = .agg #[(aS Xu nv ns (jS Xu ((k : Int) - 1))).1] ∧ l' = []) (C := fun u l' => u = .agg #[(aS Xu nv ns (jS Xu ((k : Int) - 1))).1] ∧ l' = []) rfl rfl rfl Try.func25 (by kernel_rfl) rfl (args2 (es rfl (et rfl)) (et rfl)) rfl rfl rfl rfl (fun sx hx hF => ?_) (fun u186 l186 hu186 => ?_)
  ·refine (lset_c (i := ((k : Int) - 1)) ((S179.grow hx).roC k_cv_178) ((S179.grow hx).roC n_cv_178) ((S179.grow hx).roC h_nv_178) (by omega)).mono ?_
   rintro _ _ ⟨rfl, hz⟩
   exact ⟨_, rfl, _, ⟨rfl, rfl⟩, hz⟩
  obtain ⟨rfl, hl186⟩ := hu186
  refine D_r rfl rfl (by kernel_rfl) (fun sx hx hF => (VR_ldA rfl (es4 rfl (fg4 F182)) ((S179.grow hx).obj 1 rfl hc19_179) Try.underlying29 rfl (by kernel_rfl))) rfl rfl ?_
  refine D_v rfl rfl (V_mov rfl (es5 rfl (fg0 F182))) rfl rfl ?_
  refine D_call (ts := []) (vs := []) (C0 := fun _ => fun u l' => u = .agg #[(aS Uy z_17 (chN C N Z K Q (csF Xu) ns slot 0 t) (jS Uy ((k : Int) - 1))).1] ∧ l' = []) (C := fun u l' => u = .agg #[(aS Uy z_17 (chN C N Z K Q (csF Xu) ns slot 0 t) (jS Uy ((k : Int) - 1))).1] ∧ l' = []) rfl rfl rfl Try.func25 (by kernel_rfl) rfl (args2 (es rfl (et rfl)) (et rfl)) rfl rfl rfl rfl (fun sx hx hF => ?_) (fun u187 l187 hu187 => ?_)
  ·refine (lset_c (i := ((k : Int) - 1)) ((S179.grow hx).roC kUy) ((S179.grow hx).roC nUy) ((S179.grow hx).roC fz178_1) (by omega)).mono ?_
   rintro _ _ ⟨rfl, hz⟩
   exact ⟨_, rfl, _, ⟨rfl, rfl⟩, hz⟩
  obtain ⟨rfl, hl187⟩ := hu187
  refine D_r rfl rfl (by kernel_rfl) (fun sx hx hF => (VR_ldA rfl (es7 rfl (fg3 F182)) ((S179.grow hx).obj 0 rfl hc24_179) Try.underlying29 rfl (by kernel_rfl))) rfl rfl ?_
  refine D_v rfl rfl (V_mov rfl (es8 rfl (fg0 F182))) rfl rfl ?_
  refine D_call (ts := []) (vs := []) (C0 := fun _ => fun u l' => u = .agg #[(aS Uz z_22 (chN C N Z K Q (csF Xu) ns slot t 0) (jS Uz ((k : Int) - 1))).1] ∧ l' = []) (C := fun u l' => u = .agg #[(aS Uz z_22 (chN C N Z K Q (csF Xu) ns slot t 0) (jS Uz ((k : Int) - 1))).1] ∧ l' = []) rfl rfl rfl Try.func25 (by kernel_rfl) rfl (args2 (es rfl (et rfl)) (et rfl)) rfl rfl rfl rfl (fun sx hx hF => ?_) (fun u188 l188 hu188 => ?_)
  ·refine (lset_c (i := ((k : Int) - 1)) ((S179.grow hx).roC kUz) ((S179.grow hx).roC nUz) ((S179.grow hx).roC fz178_3) (by omega)).mono ?_
   rintro _ _ ⟨rfl, hz⟩
   exact ⟨_, rfl, _, ⟨rfl, rfl⟩, hz⟩
  obtain ⟨rfl, hl188⟩ := hu188
  refine D_lay (ts := []) (vs := []) (C0 := fun _ => fun u l' => ∃ g_, u = .pointer (some ⟨g_, 0, none⟩) ∧ ∃ c_, c_ = bx g_ 27 #[.slice none 0 0] ∧ l' = [c_]) (C := fun u l' => ∃ g_, u = .pointer (some ⟨g_, 0, none⟩) ∧ ∃ c_, c_ = bx g_ 27 #[.slice none 0 0] ∧ l' = [c_]) rfl rfl rfl rfl rfl rfl (fun sx hx hF => lay_alloc (z := .agg #[.slice none 0 0]) rfl (by kernel_rfl) (by rfl)) (fun u189 l189 hu189 => ?_)
  obtain ⟨g189, rfl, c189, hc189, hl189⟩ := hu189
  refine D_lay (ts := []) (vs := []) (C0 := fun _ => fun u l' => ∃ g_, u = .pointer (some ⟨g_, 0, none⟩) ∧ ∃ c_, c_ = bx g_ 27 #[.slice none 0 0] ∧ l' = [c_]) (C := fun u l' => ∃ g_, u = .pointer (some ⟨g_, 0, none⟩) ∧ ∃ c_, c_ = bx g_ 27 #[.slice none 0 0] ∧ l' = [c_]) rfl rfl rfl rfl rfl rfl (fun sx hx hF => lay_alloc (z := .agg #[.slice none 0 0]) rfl (by kernel_rfl) (by rfl)) (fun u190 l190 hu190 => ?_)
  obtain ⟨g190, rfl, c190, hc190, hl190⟩ := hu190
  refine D_lay (ts := []) (vs := []) (C0 := fun _ => fun u l' => ∃ g_, u = .pointer (some ⟨g_, 0, none⟩) ∧ ∃ c_, c_ = bx g_ 27 #[.slice none 0 0] ∧ l' = [c_]) (C := fun u l' => ∃ g_, u = .pointer (some ⟨g_, 0, none⟩) ∧ ∃ c_, c_ = bx g_ 27 #[.slice none 0 0] ∧ l' = [c_]) rfl rfl rfl rfl rfl rfl (fun sx hx hF => lay_alloc (z := .agg #[.slice none 0 0]) rfl (by kernel_rfl) (by rfl)) (fun u191 l191 hu191 => ?_)
  obtain ⟨g191, rfl, c191, hc191, hl191⟩ := hu191
  refine D_eff rfl ?_
  refine ZS_eff S179 rfl rfl (fun s192 hJ192 hL192 hF192 => ?_)
  obtain ⟨ll186, ws186, we186, ⟨hq186, hl186r⟩, hm186, k186, e186⟩ := L.all_get (L.all_rest (L.all_rest (L.all_rest (L.all_rest (L.all_rest hF192))))); cases hq186; subst hl186r
  replace hJ192 := hJ192.add hL192 (i := 3) rfl hm186 k186 e186
  obtain ⟨ll187, ws187, we187, ⟨hq187, hl187r⟩, hm187, k187, e187⟩ := L.all_get (L.all_rest (L.all_rest (L.all_rest (L.all_rest hF192)))); cases hq187; subst hl187r
  replace hJ192 := hJ192.add hL192 (i := 6) rfl hm187 k187 e187
  obtain ⟨ll188, ws188, we188, ⟨hq188, hl188r⟩, hm188, k188, e188⟩ := L.all_get (L.all_rest (L.all_rest (L.all_rest hF192))); cases hq188; subst hl188r
  replace hJ192 := hJ192.add hL192 (i := 9) rfl hm188 k188 e188
  obtain ⟨ll189, ws189, we189, ⟨g189q, hq189, c189r, hc189r, hl189r⟩, hm189, k189, e189⟩ := L.all_get (L.all_rest (L.all_rest hF192)); cases hq189; subst hl189r
  replace hJ192 := hJ192.add hL192 (i := 10) rfl hm189 k189 e189
  obtain ⟨ll190, ws190, we190, ⟨g190q, hq190, c190r, hc190r, hl190r⟩, hm190, k190, e190⟩ := L.all_get (L.all_rest hF192); cases hq190; subst hl190r
  replace hJ192 := hJ192.add hL192 (i := 11) rfl hm190 k190 e190
  obtain ⟨ll191, ws191, we191, ⟨g191q, hq191, c191r, hc191r, hl191r⟩, hm191, k191, e191⟩ := L.all_get hF192; cases hq191; subst hl191r
  replace hJ192 := hJ192.add hL192 (i := 12) rfl hm191 k191 e191
  have S192 := hJ192.st; clear hF192 hJ192 hL192
  generalize s192.1 = w192 at *
  replace S192 : St w50 Yb178 [c191r, c190r, c189r, c24_179, c19_179, c2_179] w192 := S192
  refine W_stAS 2 S192 rfl hc189r rfl rfl rfl (es2 rfl (et rfl)) (es8 rfl (es rfl (et rfl))) (by simp only [List.all_toArray, List.all_cons, List.all_nil, SlN_one (sl_SlN (f_Xu (jS Xu ((k : Int) - 1))).at)] <;> rfl) (by rfl) (by kernel_rfl) (fun w193 c193 hc193 S193 => ?_)
  replace S193 : St w50 Yb178 [c191r, c190r, c193, c24_179, c19_179, c2_179] w193 := S193
  refine W_stAS 1 S193 rfl hc190r rfl rfl rfl (es rfl (et rfl)) (es6 rfl (et rfl)) (by simp only [List.all_toArray, List.all_cons, List.all_nil, SlN_one (sl_SlN (f_Uy (jS Uy ((k : Int) - 1))).at)] <;> rfl) (by rfl) (by kernel_rfl) (fun w194 c194 hc194 S194 => ?_)
  replace S194 : St w50 Yb178 [c191r, c194, c193, c24_179, c19_179, c2_179] w194 := S194
  refine W_stAS 0 S194 rfl hc191r rfl rfl rfl (et rfl) (es3 rfl (et rfl)) (by simp only [List.all_toArray, List.all_cons, List.all_nil, SlN_one (sl_SlN (f_Uz (jS Uz ((k : Int) - 1))).at)] <;> rfl) (by rfl) (by kernel_rfl) (fun w195 c195 hc195 S195 => ?_)
  replace S195 : St w50 Yb178 [c195, c194, c193, c24_179, c19_179, c2_179] w195 := S195
  refine W_end ?_
  refine Qo_normal ?_
  refine gen_Q (fun A196 E196 => ?_)
  have Y196 := szq E196
  have F196 := fsE E196 (ck (ck (ck (cq2 (cq8 F182 rfl) rfl) rfl rfl) rfl rfl) rfl rfl)
  clear E196 Y182 F182
  refine tk H185 ?_
  refine wp_seq_k fun K197 H197 => ?_
  refine wp_seq_k fun K198 H198 => ?_
  refine region_in ?_
  refine W_v rfl rfl (V_mov rfl (fg3 F196)) ?_
  refine W_v rfl rfl (V_mov rfl (es rfl (fg5 F196))) ?_
  refine W_v rfl rfl (V_neq rfl (es rfl (et rfl)) (et rfl)) ?_
  refine W_split rfl rfl (V_mov rfl (et rfl)) (fun c199 => ?_) (fun c199 => ?_)
  ·refine W_off rfl (wanted_f rfl rfl (et rfl) (ez rfl) rfl) ?_
   refine W_off rfl (wanted_f rfl rfl (es rfl (et rfl)) (ez rfl) rfl) ?_
   refine W_v rfl rfl (V_pickT rfl (es2 rfl (et rfl)) rfl) ?_
   refine W_end (gen_Q fun A200 E200 => ?_)
   have Y200 := szq E200
   have F200 := fsE E200 (ck (ck (ck (cq4 F196 rfl) rfl rfl) rfl rfl) rfl rfl)
   clear E200 Y196 F196
   refine tk H198 ?_
   refine cond_t (fg0 F200) ?_
   refine wp_seq_k fun K201 H201 => ?_
   refine wp_seq_k fun K202 H202 => ?_
   refine region_in ?_
   refine W_v rfl rfl (V_fa (off' := 0) rfl (fg5 F200) Try.underlying27 rfl (by decide +kernel) rfl) ?_
   refine W_r rfl rfl (VR_ldC rfl (et rfl) (cell_box (v := (aS Xu nv ns (jS Xu ((k : Int) - 1))).1) (S195.obj 2 rfl hc193) rfl) Try.underlying25 rfl) ?_
   refine W_v rfl rfl (V_fa (off' := 0) rfl (es2 rfl (fg4 F200)) Try.underlying27 rfl (by decide +kernel) rfl) ?_
   refine W_r rfl rfl (VR_ldC rfl (et rfl) (cell_box (v := (aS Uy z_17 (chN C N Z K Q (csF Xu) ns slot 0 t) (jS Uy ((k : Int) - 1))).1) (S195.obj 1 rfl hc194) rfl) Try.underlying25 rfl) ?_
   refine W_call rfl rfl rfl Try.func26 (by kernel_rfl) rfl (args2 (es2 rfl (et rfl)) (et rfl)) (qInts_c (S195.roC (f_Xu (jS Xu ((k : Int) - 1)))) (S195.roC (f_Uy (jS Uy ((k : Int) - 1)))) ) ?_
   rintro _ w203 ⟨rfl, hP203⟩
   refine ⟨_, rfl, ?_⟩
   have S203 := S195.join hP203
   replace S203 : St w50 Yb178 [c195, c194, c193, c24_179, c19_179, c2_179] w203 := S203
   refine W_v rfl rfl (V_notd rfl (et rfl)) ?_
   refine W_sure (c' := false) rfl rfl (V_mov rfl (et rfl)) (by rw [decide_eq_false_iff_not]; exact fun h => h (ot_ne hXN hny hLy hrg ⟨by omega, by omega⟩ (by omega))) ?_
   refine W_v rfl (wanted_t rfl rfl (et rfl) (ez rfl)) (V_fa (off' := 0) rfl (es7 rfl (fg5 F200)) Try.underlying27 rfl (by decide +kernel) rfl) ?_
   refine W_r rfl (wanted_t rfl rfl (es rfl (et rfl)) (ez rfl)) (VR_ldC rfl (et rfl) (cell_box (v := (aS Xu nv ns (jS Xu ((k : Int) - 1))).1) (S203.obj 2 rfl hc193) rfl) Try.underlying25 rfl) ?_
   refine W_v rfl (wanted_t rfl rfl (es2 rfl (et rfl)) (ez rfl)) (V_fa (off' := 0) rfl (es8 rfl (es rfl (fg3 F200))) Try.underlying27 rfl (by decide +kernel) rfl) ?_
   refine W_r rfl (wanted_t rfl rfl (es3 rfl (et rfl)) (ez rfl)) (VR_ldC rfl (et rfl) (cell_box (v := (aS Uz z_22 (chN C N Z K Q (csF Xu) ns slot t 0) (jS Uz ((k : Int) - 1))).1) (S203.obj 0 rfl hc195) rfl) Try.underlying25 rfl) ?_
   refine W_call rfl (wanted_t rfl rfl (es4 rfl (et rfl)) (ez rfl)) rfl Try.func26 (by kernel_rfl) rfl (args2 (es2 rfl (et rfl)) (et rfl)) (qInts_c (S203.roC (f_Xu (jS Xu ((k : Int) - 1)))) (S203.roC (f_Uz (jS Uz ((k : Int) - 1)))) ) ?_
   rintro _ w204 ⟨rfl, hP204⟩
   refine ⟨_, rfl, ?_⟩
   have S204 := S203.join hP204
   replace S204 : St w50 Yb178 [c195, c194, c193, c24_179, c19_179, c2_179] w204 := S204
   refine W_v rfl (wanted_t rfl rfl (es5 rfl (et rfl)) (ez rfl)) (V_notd rfl (et rfl)) ?_
   refine W_v rfl rfl (V_pickF rfl (es6 rfl (et rfl)) (et rfl)) ?_
   refine W_end (gen_Q fun A205 E205 => ?_)
   have Y205 := szq E205
   have F205 := fsE E205 (ck (ck (ck (ck (ck (ck (ck (cq7 F200 rfl) rfl rfl) rfl rfl) rfl rfl) rfl rfl) rfl rfl) rfl rfl) rfl rfl)
   clear E205 Y200 F200
   have S206 : St w50 Yb178 [c195, c193, c24_179, c19_179, c2_179] w204 := S204.sel [0, 2, 3, 4, 5] (by decide) rfl
   refine tk H202 ?_
   refine cond_not (fg0 F205) (by rw [decide_eq_false_iff_not]; exact fun h => h (ot_ne hXN hnz hLz hrg ⟨by omega, by omega⟩ (by omega))) ?_
   refine wp_skip ?_
   refine tk H201 ?_
   refine wp_exit ?_
   refine then_exit ?_
   refine inb_hit ?_
   refine tk H184 ?_
   refine region_in ?_
   refine W_v rfl rfl (V_mov rfl (fg13 F205)) ?_
   refine W_v rfl rfl (V_add rfl (et rfl) rfl (by omega) (by omega)) ?_
   refine W_v rfl rfl (V_asg rfl (et rfl)) ?_
   refine W_end (gen_Q fun A207 E207 => ?_)
   have Y207 := szq E207
   have F207 := fsE E207 (ck (cq2 (fx13 F205) rfl) rfl rfl)
   clear E207 Y205 F205
   have S208 : St w50 Yb178 [c24_179, c19_179, c2_179] w204 := S206.sel [2, 3, 4] (by decide) rfl
   refine then_n ⟨N.toNat + 1 - (k + 1), by simp only [hm179]; omega, Y207, F207.d, (k + 1), rfl, (by omega), (((fg0 F207)).trans (by first | rfl | (simp; done) | (congr 1; omega))), (((fg19 F207)).trans (fg14 F176).symm), (((fg18 F207)).trans (fg15 F176).symm), (((fg17 F207)).trans (fg10 F176).symm), (((fg16 F207)).trans (fg8 F176).symm), (((fg15 F207)).trans (fg3 F176).symm), (((fg14 F207)).trans (fg1 F176).symm), (by subst hc24_179 hc19_179 hc2_179; exact S208)⟩
  refine W_v rfl (wanted_t rfl rfl (et rfl) (ez rfl)) (V_mov rfl (es4 rfl (fg4 F196))) ?_
  refine W_v rfl (wanted_t rfl rfl (es rfl (et rfl)) (ez rfl)) (V_notF rfl (et rfl)) ?_
  refine W_v rfl rfl (V_pickF rfl (es2 rfl (et rfl)) (et rfl)) ?_
  refine W_end (gen_Q fun A209 E209 => ?_)
  have Y209 := szq E209
  have F209 := fsE E209 (ck (ck (ck (cq4 F196 rfl) rfl rfl) rfl rfl) rfl rfl)
  clear E209 Y196 F196
  refine tk H198 ?_
  refine cond_t (fg0 F209) ?_
  refine wp_seq_k fun K210 H210 => ?_
  refine wp_seq_k fun K211 H211 => ?_
  refine region_in ?_
  refine W_v rfl rfl (V_fa (off' := 0) rfl (fg5 F209) Try.underlying27 rfl (by decide +kernel) rfl) ?_
  refine W_r rfl rfl (VR_ldC rfl (et rfl) (cell_box (v := (aS Xu nv ns (jS Xu ((k : Int) - 1))).1) (S195.obj 2 rfl hc193) rfl) Try.underlying25 rfl) ?_
  refine W_v rfl rfl (V_fa (off' := 0) rfl (es2 rfl (fg4 F209)) Try.underlying27 rfl (by decide +kernel) rfl) ?_
  refine W_r rfl rfl (VR_ldC rfl (et rfl) (cell_box (v := (aS Uy z_17 (chN C N Z K Q (csF Xu) ns slot 0 t) (jS Uy ((k : Int) - 1))).1) (S195.obj 1 rfl hc194) rfl) Try.underlying25 rfl) ?_
  refine W_call rfl rfl rfl Try.func26 (by kernel_rfl) rfl (args2 (es2 rfl (et rfl)) (et rfl)) (qInts_c (S195.roC (f_Xu (jS Xu ((k : Int) - 1)))) (S195.roC (f_Uy (jS Uy ((k : Int) - 1)))) ) ?_
  rintro _ w212 ⟨rfl, hP212⟩
  refine ⟨_, rfl, ?_⟩
  have S212 := S195.join hP212
  replace S212 : St w50 Yb178 [c195, c194, c193, c24_179, c19_179, c2_179] w212 := S212
  refine W_v rfl rfl (V_notd rfl (et rfl)) ?_
  refine W_sure (c' := false) rfl rfl (V_mov rfl (et rfl)) (by rw [decide_eq_false_iff_not]; exact fun h => h (ot_ne hXN hny hLy hrg ⟨by omega, by omega⟩ (by omega))) ?_
  refine W_v rfl (wanted_t rfl rfl (et rfl) (ez rfl)) (V_fa (off' := 0) rfl (es7 rfl (fg5 F209)) Try.underlying27 rfl (by decide +kernel) rfl) ?_
  refine W_r rfl (wanted_t rfl rfl (es rfl (et rfl)) (ez rfl)) (VR_ldC rfl (et rfl) (cell_box (v := (aS Xu nv ns (jS Xu ((k : Int) - 1))).1) (S212.obj 2 rfl hc193) rfl) Try.underlying25 rfl) ?_
  refine W_v rfl (wanted_t rfl rfl (es2 rfl (et rfl)) (ez rfl)) (V_fa (off' := 0) rfl (es8 rfl (es rfl (fg3 F209))) Try.underlying27 rfl (by decide +kernel) rfl) ?_
  refine W_r rfl (wanted_t rfl rfl (es3 rfl (et rfl)) (ez rfl)) (VR_ldC rfl (et rfl) (cell_box (v := (aS Uz z_22 (chN C N Z K Q (csF Xu) ns slot t 0) (jS Uz ((k : Int) - 1))).1) (S212.obj 0 rfl hc195) rfl) Try.underlying25 rfl) ?_
  refine W_call rfl (wanted_t rfl rfl (es4 rfl (et rfl)) (ez rfl)) rfl Try.func26 (by kernel_rfl) rfl (args2 (es2 rfl (et rfl)) (et rfl)) (qInts_c (S212.roC (f_Xu (jS Xu ((k : Int) - 1)))) (S212.roC (f_Uz (jS Uz ((k : Int) - 1)))) ) ?_
  rintro _ w213 ⟨rfl, hP213⟩
  refine ⟨_, rfl, ?_⟩
  have S213 := S212.join hP213
  replace S213 : St w50 Yb178 [c195, c194, c193, c24_179, c19_179, c2_179] w213 := S213
  refine W_v rfl (wanted_t rfl rfl (es5 rfl (et rfl)) (ez rfl)) (V_notd rfl (et rfl)) ?_
  refine W_v rfl rfl (V_pickF rfl (es6 rfl (et rfl)) (et rfl)) ?_
  refine W_end (gen_Q fun A214 E214 => ?_)
  have Y214 := szq E214
  have F214 := fsE E214 (ck (ck (ck (ck (ck (ck (ck (cq7 F209 rfl) rfl rfl) rfl rfl) rfl rfl) rfl rfl) rfl rfl) rfl rfl) rfl rfl)
  clear E214 Y209 F209
  have S215 : St w50 Yb178 [c195, c193, c24_179, c19_179, c2_179] w213 := S213.sel [0, 2, 3, 4, 5] (by decide) rfl
  refine tk H211 ?_
  refine cond_not (fg0 F214) (by rw [decide_eq_false_iff_not]; exact fun h => h (ot_ne hXN hnz hLz hrg ⟨by omega, by omega⟩ (by omega))) ?_
  refine wp_skip ?_
  refine tk H210 ?_
  refine wp_exit ?_
  refine then_exit ?_
  refine inb_hit ?_
  refine tk H184 ?_
  refine region_in ?_
  refine W_v rfl rfl (V_mov rfl (fg13 F214)) ?_
  refine W_v rfl rfl (V_add rfl (et rfl) rfl (by omega) (by omega)) ?_
  refine W_v rfl rfl (V_asg rfl (et rfl)) ?_
  refine W_end (gen_Q fun A216 E216 => ?_)
  have Y216 := szq E216
  have F216 := fsE E216 (ck (cq2 (fx13 F214) rfl) rfl rfl)
  clear E216 Y214 F214
  have S217 : St w50 Yb178 [c24_179, c19_179, c2_179] w213 := S215.sel [2, 3, 4] (by decide) rfl
  refine then_n ⟨N.toNat + 1 - (k + 1), by simp only [hm179]; omega, Y216, F216.d, (k + 1), rfl, (by omega), (((fg0 F216)).trans (by first | rfl | (simp; done) | (congr 1; omega))), (((fg19 F216)).trans (fg14 F176).symm), (((fg18 F216)).trans (fg15 F176).symm), (((fg17 F216)).trans (fg10 F176).symm), (((fg16 F216)).trans (fg8 F176).symm), (((fg15 F216)).trans (fg3 F176).symm), (((fg14 F216)).trans (fg1 F176).symm), (by subst hc24_179 hc19_179 hc2_179; exact S217)⟩
 refine wp_exit ?_
 refine then_exit ?_
 refine then_exit ?_
 refine inb_hit ?_
 refine tk H174 ?_
 refine wp_seq_k fun K218 H218 => ?_
 refine region_in ?_
 refine W_call rfl rfl rfl Try.func10 (by kernel_rfl) rfl (args0) (lawk_c  ) ?_
 rintro _ w219 ⟨rfl, hP219⟩
 refine ⟨_, rfl, ?_⟩
 have S219 := S179.join hP219
 replace S219 : St w50 Yb178 [c24_179, c19_179, c2_179] w219 := S219
 refine W_v rfl rfl (V_asg rfl (et rfl)) ?_
 refine W_end (gen_Q fun A220 E220 => ?_)
 have Y220 := szq E220
 have F220 := fsE E220 (ck (cq1 F182 rfl) rfl rfl)
 clear E220 Y182 F182
 have S221 : St w50 Yb178 [] w219 := S219.sel [] (by decide) rfl
 refine tk H218 ?_
 refine wp_ret ?_
 refine ret_in (results_1 Try.results5 (rv_tmp (fg0 F220))) F220.d ?_
 exact ⟨rfl, (back178 _ _ S221.fin0)⟩

end Go.Proofs.Yteppjefmlibmoaa