import Derived.Test.YteppjefmlibmoaaGreatProg
import Derived.Test.YteppjefmlibmoaaGreatRl8
namespace Go.Proofs.YteppjefmlibmoaaGreat
open Go.RowKit Go.Own Go.Own.R Go.Own.S Go.Own.E


set_option maxHeartbeats 4000000 in
theorem RemsetStores_c {C : Int} {N : Int} {Z : Int} {K : Int} {Q : Int} {cv : Value} {X : List (List Int)} {nv : Value} {ns : List Int} {slot : Int} {a : Int} {b : Int} {w : World} (h_cv : Ro w NoX (rmR cv X)) (h_nv : Ro w NoX (il .i64 nv ns))  :
  Calls Tryz.prog 4 #[.agg #[.int .i64 C, .int .i64 N, .int .i64 Z, .int .i64 K, .int .i64 Q, cv, nv], .int .i64 slot, .agg #[.int .i64 a, .int .i64 b]] w fun e w' => e = .returned (.bool true) ∧ St w NoX [] w' := by
 refine calls_in 114 Tryz.func4 rfl rfl (by simp) (fun A0 Y0 hdf0 hargs => ?_)
 have l0_0 := hargs 0 (.agg #[.int .i64 C, .int .i64 N, .int .i64 Z, .int .i64 K, .int .i64 Q, cv, nv]) rfl
 have l1_0 := hargs 1 (.int .i64 slot) rfl
 have l2_0 := hargs 2 (.agg #[.int .i64 a, .int .i64 b]) rfl
 clear hargs; replace Y0 : SzN A0 114 := ⟨Y0⟩
 have hS := St.nil w
 have bh_nv := SlN.le (sl_SlN h_nv.at)
 refine wp_seq_k fun K1 H1 => ?_
 refine region_in ?_
 refine W_boxS (zs := #[.int .i64 (C), .int .i64 (N), .int .i64 (Z), .int .i64 (K), .int .i64 (Q), cv, nv]) hS rfl rfl rfl l0_0 (by rfl) (fun g2 w2 c2 hc2 S2 => ?_)
 replace S2 : St w NoX [c2] w2 := S2
 refine W_boxS (zs := #[.int .i64 (a), .int .i64 (b)]) S2 rfl rfl rfl (es rfl l2_0) (by rfl) (fun g3 w3 c3 hc3 S3 => ?_)
 replace S3 : St w NoX [c3, c2] w3 := S3
 refine W_v rfl rfl (V_asg rfl rfl) ?_
 refine W_end (gen_Q fun A4 E4 => ?_)
 have Y4 := szq E4
 have F4 := (fsE E4 (cq1 (ck (ck (FS.n hdf0) rfl rfl) rfl rfl) rfl)).c (lookE E4 1 (es3 rfl l1_0))
 clear E4 Y0 hdf0 l0_0 l1_0 l2_0
 refine tk H1 ?_
 refine wp_seq_k fun K5 H5 => ?_
 refine wp_seq_k fun K6 H6 => ?_
 refine region_in ?_
 refine W_v rfl rfl (V_fa (off' := 5) rfl (fg2 F4) Tryz.underlying31 rfl (by decide +kernel) rfl) ?_
 refine W_r rfl rfl (VR_ldP (ys := [cv, nv]) rfl (et rfl) (S3.obj 1 rfl hc2) (ldP_at rfl) Tryz.underlying29 rfl (by kernel_rfl)) ?_
 refine W_call rfl rfl rfl Tryz.func5 (by kernel_rfl) rfl (args1 (et rfl)) (lFar_c (S3.roC h_cv) (S3.roC h_nv) ) ?_
 rintro _ w7 ⟨rfl, hP7⟩
 refine ⟨_, rfl, ?_⟩
 have S7 := S3.join hP7
 replace S7 : St w NoX [c3, c2] w7 := S7
 refine W_end (gen_Q fun A8 E8 => ?_)
 have Y8 := szq E8
 have F8 := fsE E8 (ck (cq2 F4 rfl) rfl rfl)
 clear E8 Y4 F4
 refine tk H6 ?_
 refine cond_b (fg0 F8) (fun c9 => ?_) (fun c9 => ?_)
 ·refine wp_seq_k fun K10 H10 => ?_
  refine region_in ?_
  refine W_call rfl rfl rfl Tryz.func6 (by kernel_rfl) rfl (args0) (lawk_c  ) ?_
  rintro _ w11 ⟨rfl, hP11⟩
  refine ⟨_, rfl, ?_⟩
  have S11 := S7.join hP11
  replace S11 : St w NoX [c3, c2] w11 := S11
  refine W_v rfl rfl (V_asg rfl (et rfl)) ?_
  refine W_end (gen_Q fun A12 E12 => ?_)
  have Y12 := szq E12
  have F12 := fsE E12 (ck (cq1 F8 rfl) rfl rfl)
  clear E12 Y8 F8
  have S13 : St w NoX [] w11 := S11.sel [] (by decide) rfl
  refine tk H10 ?_
  refine wp_ret ?_
  refine then_ret ?_
  refine ret_in (results_1 Tryz.results4 (rv_tmp (fg0 F12))) F12.d ?_
  exact ⟨rfl, S13.fin0⟩
 obtain ⟨hfx, hfr, hfn⟩ := far_ok (by simpa using c9)
 have hxl : X.length ≤ 1000000 := by omega
 refine wp_skip ?_
 refine tk H5 ?_
 refine wp_seq_k fun K14 H14 => ?_
 refine region_in ?_
 refine W_v rfl rfl (V_fa (off' := 0) rfl (fg3 F8) Tryz.underlying31 rfl (by decide +kernel) rfl) ?_
 refine W_r rfl rfl (VR_ldP (ys := [.int .i64 (C), .int .i64 (N), .int .i64 (Z), .int .i64 (K), .int .i64 (Q)]) rfl (et rfl) (S7.obj 1 rfl hc2) (ldP_at rfl) Tryz.underlying23 rfl (by kernel_rfl)) ?_
 refine W_v rfl rfl (V_fa (off' := 5) rfl (es2 rfl (fg3 F8)) Tryz.underlying31 rfl (by decide +kernel) rfl) ?_
 refine W_r rfl rfl (VR_ldP (ys := [cv, nv]) rfl (et rfl) (S7.obj 1 rfl hc2) (ldP_at rfl) Tryz.underlying29 rfl (by kernel_rfl)) ?_
 refine W_v rfl rfl (V_mov rfl (es4 rfl (fg1 F8))) ?_
 refine W_v rfl rfl (V_ixA (sz := 1) (off' := 0) 0 rfl (es5 rfl (fg2 F8)) rfl (by rfl) Tryz.underlying39 (by decide) (by kernel_rfl) rfl) ?_
 refine W_r rfl rfl (VR_ldC rfl (et rfl) (cell_box (v := .int .i64 (a)) (S7.obj 0 rfl hc3) rfl) Tryz.underlying3 rfl) ?_
 refine W_call rfl rfl rfl Tryz.func12 (by kernel_rfl) rfl (args4 (es5 rfl (et rfl)) (es3 rfl (et rfl)) (es2 rfl (et rfl)) (et rfl)) (kRec_c (C := C) (N := N) (Z := Z) (K := K) (Q := Q) (slot := slot) (now := a) (S7.roC h_cv) (S7.roC h_nv) ) ?_
 rintro _ w16 ⟨v_16, z_16, rfl, hP16⟩
 refine ⟨_, rfl, ?_⟩
 obtain ⟨c_16, cz_16, hc_16, hcz_16, hP16⟩ := gen2 hP16
 have S16 := S7.join hP16
 replace S16 : St w NoX [c_16, cz_16, c3, c2] w16 := S16
 refine W_v rfl rfl (V_mov rfl (et rfl)) ?_
 refine W_v rfl rfl (V_ext (v := .agg #[v_16, z_16]) rfl (et rfl) rfl) ?_
 refine W_v rfl rfl (V_ext (v := .int .i64 ((chE8 C N Z K Q X ns slot 0 a))) rfl (es rfl (et rfl)) rfl) ?_
 refine W_allocS (z := .agg #[.slice none 0 0, .slice none 0 0]) (zs := #[.slice none 0 0, .slice none 0 0]) S16 rfl rfl rfl (by kernel_rfl) (by rfl) (fun g17 w17 c17 hc17 S17 => ?_)
 replace S17 : St w NoX [c17, c_16, cz_16, c3, c2] w17 := S17
 refine W_stAS 0 S17 rfl hc17 rfl rfl rfl (et rfl) (es2 rfl (et rfl)) (by simp only [List.all_toArray, List.all_cons, List.all_nil, rmO_one (S17.chq 1 rfl hc_16), SlN_one (ow_at (S17.chq 2 rfl hcz_16))] <;> rfl) (by rfl) (by kernel_rfl) (fun w18 c18 hc18 S18 => ?_)
 replace S18 : St w NoX [c18, c_16, cz_16, c3, c2] w18 := S18
 refine W_v rfl rfl (V_asg rfl (es rfl (et rfl))) ?_
 refine W_end (gen_Q fun A19 E19 => ?_)
 have Y19 := szq E19
 have F19 := fsE E19 (ck (ck (cq3 (cq8 F8 rfl) rfl) rfl rfl) rfl rfl)
 clear E19 Y8 F8
 refine tk H14 ?_
 refine wp_seq_k fun K20 H20 => ?_
 refine region_in ?_
 refine W_v rfl rfl (V_fa (off' := 0) rfl (fg5 F19) Tryz.underlying31 rfl (by decide +kernel) rfl) ?_
 refine W_r rfl rfl (VR_ldP (ys := [.int .i64 (C), .int .i64 (N), .int .i64 (Z), .int .i64 (K), .int .i64 (Q)]) rfl (et rfl) (S18.obj 4 rfl hc2) (ldP_at rfl) Tryz.underlying23 rfl (by kernel_rfl)) ?_
 refine W_v rfl rfl (V_fa (off' := 5) rfl (es2 rfl (fg5 F19)) Tryz.underlying31 rfl (by decide +kernel) rfl) ?_
 refine W_r rfl rfl (VR_ldP (ys := [cv, nv]) rfl (et rfl) (S18.obj 4 rfl hc2) (ldP_at rfl) Tryz.underlying29 rfl (by kernel_rfl)) ?_
 refine W_v rfl rfl (V_mov rfl (es4 rfl (fg3 F19))) ?_
 refine W_v rfl rfl (V_ixA (sz := 1) (off' := 0) 0 rfl (es5 rfl (fg4 F19)) rfl (by rfl) Tryz.underlying39 (by decide) (by kernel_rfl) rfl) ?_
 refine W_r rfl rfl (VR_ldC rfl (et rfl) (cell_box (v := .int .i64 (a)) (S18.obj 3 rfl hc3) rfl) Tryz.underlying3 rfl) ?_
 refine W_call rfl rfl rfl Tryz.func13 (by kernel_rfl) rfl (args4 (es5 rfl (et rfl)) (es3 rfl (et rfl)) (es2 rfl (et rfl)) (et rfl)) (qRec_c (C := C) (N := N) (Z := Z) (K := K) (Q := Q) (slot := slot) (now := a) (S18.roC h_cv) (S18.roC h_nv) ) ?_
 rintro _ w22 ⟨v_22, z_22, rfl, hP22⟩
 refine ⟨_, rfl, ?_⟩
 obtain ⟨c_22, cz_22, hc_22, hcz_22, hP22⟩ := gen2 hP22
 have S22 := S18.join hP22
 replace S22 : St w NoX [c_22, cz_22, c18, c_16, cz_16, c3, c2] w22 := S22
 refine W_v rfl rfl (V_mov rfl (et rfl)) ?_
 refine W_v rfl rfl (V_ext (v := .agg #[v_22, z_22]) rfl (et rfl) rfl) ?_
 refine W_v rfl rfl (V_ext (v := .int .i64 ((chE8 C N Z K Q X ns slot 0 a))) rfl (es rfl (et rfl)) rfl) ?_
 refine W_allocS (z := .agg #[.slice none 0 0, .slice none 0 0]) (zs := #[.slice none 0 0, .slice none 0 0]) S22 rfl rfl rfl (by kernel_rfl) (by rfl) (fun g23 w23 c23 hc23 S23 => ?_)
 replace S23 : St w NoX [c23, c_22, cz_22, c18, c_16, cz_16, c3, c2] w23 := S23
 refine W_stAS 0 S23 rfl hc23 rfl rfl rfl (et rfl) (es2 rfl (et rfl)) (by simp only [List.all_toArray, List.all_cons, List.all_nil, rmO_one (S23.chq 1 rfl hc_22), SlN_one (ow_at (S23.chq 2 rfl hcz_22))] <;> rfl) (by rfl) (by kernel_rfl) (fun w24 c24 hc24 S24 => ?_)
 replace S24 : St w NoX [c24, c_22, cz_22, c18, c_16, cz_16, c3, c2] w24 := S24
 refine W_v rfl rfl (V_asg rfl (es rfl (et rfl))) ?_
 refine W_end (gen_Q fun A25 E25 => ?_)
 have Y25 := szq E25
 have F25 := fsE E25 (ck (ck (cq3 (cq8 F19 rfl) rfl) rfl rfl) rfl rfl)
 clear E25 Y19 F19
 refine tk H20 ?_
 refine wp_seq_k fun K26 H26 => ?_
 refine wp_seq_k fun K27 H27 => ?_
 refine region_in ?_
 refine W_r rfl rfl (VR_ldA rfl (fg3 F25) (S24.obj 3 rfl hc18) Tryz.underlying29 rfl (by kernel_rfl)) ?_
 refine W_r rfl rfl (VR_ldA rfl (es rfl (fg1 F25)) (S24.obj 0 rfl hc24) Tryz.underlying29 rfl (by kernel_rfl)) ?_
 refine W_call rfl rfl rfl Tryz.func9 (by kernel_rfl) rfl (args2 (es rfl (et rfl)) (et rfl)) (qEq8_c (S24.chC 4 rfl hc_16).rm (S24.chC 5 rfl hcz_16).own (S24.chC 1 rfl hc_22).rm (S24.chC 2 rfl hcz_22).own (by first | with_reducible assumption | omega | with_reducible exact nwX_len (by omega) | with_reducible exact chX_len (by omega) | with_reducible exact prX_len (by omega) | decide +kernel | (simp; omega)) (by first | with_reducible assumption | omega | with_reducible exact nwX_len (by omega) | with_reducible exact chX_len (by omega) | with_reducible exact prX_len (by omega) | decide +kernel | (simp; omega))) ?_
 rintro _ w28 ⟨rfl, hP28⟩
 refine ⟨_, rfl, ?_⟩
 have S28 := S24.join hP28
 replace S28 : St w NoX [c24, c_22, cz_22, c18, c_16, cz_16, c3, c2] w28 := S28
 refine W_v rfl rfl (V_notd rfl (et rfl)) ?_
 refine W_sure (c' := false) rfl rfl (V_mov rfl (et rfl)) (by simp) ?_
 refine W_v rfl (wanted_t rfl rfl (et rfl) (ez rfl)) (V_mov rfl (es5 rfl (fg2 F25))) ?_
 refine W_v rfl (wanted_t rfl rfl (es rfl (et rfl)) (ez rfl)) (V_mov rfl (es6 rfl (fg0 F25))) ?_
 refine W_v rfl (wanted_t rfl rfl (es2 rfl (et rfl)) (ez rfl)) (V_neq rfl (es rfl (et rfl)) (et rfl)) ?_
 refine W_v rfl rfl (V_pickF rfl (es3 rfl (et rfl)) (et rfl)) ?_
 refine W_end (gen_Q fun A29 E29 => ?_)
 have Y29 := szq E29
 have F29 := fsE E29 (ck (cq8 F25 rfl) rfl rfl)
 clear E29 Y25 F25
 refine tk H27 ?_
 refine cond_not (fg0 F29) (by simp) ?_
 refine wp_skip ?_
 refine tk H26 ?_
 refine wp_seq_k fun K30 H30 => ?_
 refine region_in ?_
 refine W_v rfl rfl (V_fa (off' := 0) rfl (fg8 F29) Tryz.underlying31 rfl (by decide +kernel) rfl) ?_
 refine W_r rfl rfl (VR_ldP (ys := [.int .i64 (C), .int .i64 (N), .int .i64 (Z), .int .i64 (K), .int .i64 (Q)]) rfl (et rfl) (S28.obj 7 rfl hc2) (ldP_at rfl) Tryz.underlying23 rfl (by kernel_rfl)) ?_
 refine W_v rfl rfl (V_fa (off' := 5) rfl (es2 rfl (fg8 F29)) Tryz.underlying31 rfl (by decide +kernel) rfl) ?_
 refine W_r rfl rfl (VR_ldP (ys := [cv, nv]) rfl (et rfl) (S28.obj 7 rfl hc2) (ldP_at rfl) Tryz.underlying29 rfl (by kernel_rfl)) ?_
 refine W_v rfl rfl (V_mov rfl (es4 rfl (fg6 F29))) ?_
 refine W_v rfl rfl (V_ixA (sz := 1) (off' := 0) 0 rfl (es5 rfl (fg7 F29)) rfl (by rfl) Tryz.underlying39 (by decide) (by kernel_rfl) rfl) ?_
 refine W_r rfl rfl (VR_ldC rfl (et rfl) (cell_box (v := .int .i64 (a)) (S28.obj 6 rfl hc3) rfl) Tryz.underlying3 rfl) ?_
 refine W_call rfl rfl rfl Tryz.func14 (by kernel_rfl) rfl (args4 (es5 rfl (et rfl)) (es3 rfl (et rfl)) (es2 rfl (et rfl)) (et rfl)) (kFor_c (C := C) (N := N) (Z := Z) (K := K) (Q := Q) (slot := slot) (old := a) (S28.roC h_cv) (S28.roC h_nv) ) ?_
 rintro _ w32 ⟨v_32, z_32, rfl, hP32⟩
 refine ⟨_, rfl, ?_⟩
 obtain ⟨c_32, cz_32, hc_32, hcz_32, hP32⟩ := gen2 hP32
 have S32 := S28.join hP32
 replace S32 : St w NoX [c_32, cz_32, c24, c_22, cz_22, c18, c_16, cz_16, c3, c2] w32 := S32
 refine W_v rfl rfl (V_mov rfl (et rfl)) ?_
 refine W_v rfl rfl (V_ext (v := .agg #[v_32, z_32]) rfl (et rfl) rfl) ?_
 refine W_v rfl rfl (V_ext (v := .int .i64 ((chE8 C N Z K Q X ns slot a 0))) rfl (es rfl (et rfl)) rfl) ?_
 refine W_stAS 5 S32 rfl hc18 rfl rfl rfl (es8 rfl (es3 rfl (fg4 F29))) (es rfl (et rfl)) (by simp only [List.all_toArray, List.all_cons, List.all_nil, rmO_one (S32.chq 0 rfl hc_32), SlN_one (ow_at (S32.chq 1 rfl hcz_32))] <;> rfl) (by rfl) (by kernel_rfl) (fun w33 c33 hc33 S33 => ?_)
 replace S33 : St w NoX [c_32, cz_32, c24, c_22, cz_22, c33, c_16, cz_16, c3, c2] w33 := S33
 refine W_v rfl rfl (V_asg rfl (et rfl)) ?_
 refine W_end (gen_Q fun A34 E34 => ?_)
 have Y34 := szq E34
 have F34 := fsE E34 (ck (cq3 (cq8 (fx3 F29) rfl) rfl) rfl rfl)
 clear E34 Y29 F29
 have S35 : St w NoX [c_32, cz_32, c24, c_22, cz_22, c33, c3, c2] w33 := S33.sel [0, 1, 2, 3, 4, 5, 8, 9] (by decide) rfl
 refine tk H30 ?_
 refine wp_seq_k fun K36 H36 => ?_
 refine region_in ?_
 refine W_v rfl rfl (V_fa (off' := 0) rfl (fg8 F34) Tryz.underlying31 rfl (by decide +kernel) rfl) ?_
 refine W_r rfl rfl (VR_ldP (ys := [.int .i64 (C), .int .i64 (N), .int .i64 (Z), .int .i64 (K), .int .i64 (Q)]) rfl (et rfl) (S35.obj 7 rfl hc2) (ldP_at rfl) Tryz.underlying23 rfl (by kernel_rfl)) ?_
 refine W_v rfl rfl (V_fa (off' := 5) rfl (es2 rfl (fg8 F34)) Tryz.underlying31 rfl (by decide +kernel) rfl) ?_
 refine W_r rfl rfl (VR_ldP (ys := [cv, nv]) rfl (et rfl) (S35.obj 7 rfl hc2) (ldP_at rfl) Tryz.underlying29 rfl (by kernel_rfl)) ?_
 refine W_v rfl rfl (V_mov rfl (es4 rfl (fg6 F34))) ?_
 refine W_v rfl rfl (V_ixA (sz := 1) (off' := 0) 0 rfl (es5 rfl (fg7 F34)) rfl (by rfl) Tryz.underlying39 (by decide) (by kernel_rfl) rfl) ?_
 refine W_r rfl rfl (VR_ldC rfl (et rfl) (cell_box (v := .int .i64 (a)) (S35.obj 6 rfl hc3) rfl) Tryz.underlying3 rfl) ?_
 refine W_call rfl rfl rfl Tryz.func15 (by kernel_rfl) rfl (args4 (es5 rfl (et rfl)) (es3 rfl (et rfl)) (es2 rfl (et rfl)) (et rfl)) (qFor_c (C := C) (N := N) (Z := Z) (K := K) (Q := Q) (slot := slot) (old := a) (S35.roC h_cv) (S35.roC h_nv) ) ?_
 rintro _ w38 ⟨v_38, z_38, rfl, hP38⟩
 refine ⟨_, rfl, ?_⟩
 obtain ⟨c_38, cz_38, hc_38, hcz_38, hP38⟩ := gen2 hP38
 have S38 := S35.join hP38
 replace S38 : St w NoX [c_38, cz_38, c_32, cz_32, c24, c_22, cz_22, c33, c3, c2] w38 := S38
 refine W_v rfl rfl (V_mov rfl (et rfl)) ?_
 refine W_v rfl rfl (V_ext (v := .agg #[v_38, z_38]) rfl (et rfl) rfl) ?_
 refine W_v rfl rfl (V_ext (v := .int .i64 ((chE8 C N Z K Q X ns slot a 0))) rfl (es rfl (et rfl)) rfl) ?_
 refine W_stAS 4 S38 rfl hc24 rfl rfl rfl (es8 rfl (es3 rfl (fg3 F34))) (es rfl (et rfl)) (by simp only [List.all_toArray, List.all_cons, List.all_nil, rmO_one (S38.chq 0 rfl hc_38), SlN_one (ow_at (S38.chq 1 rfl hcz_38))] <;> rfl) (by rfl) (by kernel_rfl) (fun w39 c39 hc39 S39 => ?_)
 replace S39 : St w NoX [c_38, cz_38, c_32, cz_32, c39, c_22, cz_22, c33, c3, c2] w39 := S39
 refine W_v rfl rfl (V_asg rfl (et rfl)) ?_
 refine W_end (gen_Q fun A40 E40 => ?_)
 have Y40 := szq E40
 have F40 := fsE E40 (ck (cq3 (cq8 (fx2 F34) rfl) rfl) rfl rfl)
 clear E40 Y34 F34
 have S41 : St w NoX [c_38, cz_38, c_32, cz_32, c39, c33, c3, c2] w39 := S39.sel [0, 1, 2, 3, 4, 7, 8, 9] (by decide) rfl
 refine tk H36 ?_
 refine wp_seq_k fun K42 H42 => ?_
 refine wp_seq_k fun K43 H43 => ?_
 refine region_in ?_
 refine W_r rfl rfl (VR_ldA rfl (fg4 F40) (S41.obj 5 rfl hc33) Tryz.underlying29 rfl (by kernel_rfl)) ?_
 refine W_r rfl rfl (VR_ldA rfl (es rfl (fg3 F40)) (S41.obj 4 rfl hc39) Tryz.underlying29 rfl (by kernel_rfl)) ?_
 refine W_call rfl rfl rfl Tryz.func9 (by kernel_rfl) rfl (args2 (es rfl (et rfl)) (et rfl)) (qEq8_c (S41.chC 2 rfl hc_32).rm (S41.chC 3 rfl hcz_32).own (S41.chC 0 rfl hc_38).rm (S41.chC 1 rfl hcz_38).own (by first | with_reducible assumption | omega | with_reducible exact nwX_len (by omega) | with_reducible exact chX_len (by omega) | with_reducible exact prX_len (by omega) | decide +kernel | (simp; omega)) (by first | with_reducible assumption | omega | with_reducible exact nwX_len (by omega) | with_reducible exact chX_len (by omega) | with_reducible exact prX_len (by omega) | decide +kernel | (simp; omega))) ?_
 rintro _ w44 ⟨rfl, hP44⟩
 refine ⟨_, rfl, ?_⟩
 have S44 := S41.join hP44
 replace S44 : St w NoX [c_38, cz_38, c_32, cz_32, c39, c33, c3, c2] w44 := S44
 refine W_v rfl rfl (V_notd rfl (et rfl)) ?_
 refine W_sure (c' := false) rfl rfl (V_mov rfl (et rfl)) (by simp) ?_
 refine W_v rfl (wanted_t rfl rfl (et rfl) (ez rfl)) (V_mov rfl (es5 rfl (fg1 F40))) ?_
 refine W_v rfl (wanted_t rfl rfl (es rfl (et rfl)) (ez rfl)) (V_mov rfl (es6 rfl (fg0 F40))) ?_
 refine W_v rfl (wanted_t rfl rfl (es2 rfl (et rfl)) (ez rfl)) (V_neq rfl (es rfl (et rfl)) (et rfl)) ?_
 refine W_v rfl rfl (V_pickF rfl (es3 rfl (et rfl)) (et rfl)) ?_
 refine W_end (gen_Q fun A45 E45 => ?_)
 have Y45 := szq E45
 have F45 := fsE E45 (ck (cq8 F40 rfl) rfl rfl)
 clear E45 Y40 F40
 refine tk H43 ?_
 refine cond_not (fg0 F45) (by simp) ?_
 refine wp_skip ?_
 refine tk H42 ?_
 refine wp_seq_k fun K46 H46 => ?_
 refine region_in ?_
 refine W_v rfl rfl (V_fa (off' := 0) rfl (fg9 F45) Tryz.underlying31 rfl (by decide +kernel) rfl) ?_
 refine W_r rfl rfl (VR_ldP (ys := [.int .i64 (C), .int .i64 (N), .int .i64 (Z), .int .i64 (K), .int .i64 (Q)]) rfl (et rfl) (S44.obj 7 rfl hc2) (ldP_at rfl) Tryz.underlying23 rfl (by kernel_rfl)) ?_
 refine W_v rfl rfl (V_fa (off' := 5) rfl (es2 rfl (fg9 F45)) Tryz.underlying31 rfl (by decide +kernel) rfl) ?_
 refine W_r rfl rfl (VR_ldP (ys := [cv, nv]) rfl (et rfl) (S44.obj 7 rfl hc2) (ldP_at rfl) Tryz.underlying29 rfl (by kernel_rfl)) ?_
 refine W_v rfl rfl (V_mov rfl (es4 rfl (fg7 F45))) ?_
 refine W_v rfl rfl (V_ixA (sz := 1) (off' := 0) 0 rfl (es5 rfl (fg8 F45)) rfl (by rfl) Tryz.underlying39 (by decide) (by kernel_rfl) rfl) ?_
 refine W_r rfl rfl (VR_ldC rfl (et rfl) (cell_box (v := .int .i64 (a)) (S44.obj 6 rfl hc3) rfl) Tryz.underlying3 rfl) ?_
 refine W_v rfl rfl (V_ixA (sz := 1) (off' := 1) 1 rfl (es7 rfl (fg8 F45)) rfl (by rfl) Tryz.underlying39 (by decide) (by kernel_rfl) rfl) ?_
 refine W_r rfl rfl (VR_ldC rfl (et rfl) (cell_box (v := .int .i64 (b)) (S44.obj 6 rfl hc3) rfl) Tryz.underlying3 rfl) ?_
 refine W_call rfl rfl rfl Tryz.func16 (by kernel_rfl) rfl (args5 (es7 rfl (et rfl)) (es5 rfl (et rfl)) (es4 rfl (et rfl)) (es2 rfl (et rfl)) (et rfl)) (kSto_c (C := C) (N := N) (Z := Z) (K := K) (Q := Q) (slot := slot) (old := a) (now := b) (S44.roC h_cv) (S44.roC h_nv) ) ?_
 rintro _ w49 ⟨v_49, z_49, rfl, hP49⟩
 refine ⟨_, rfl, ?_⟩
 obtain ⟨c_49, cz_49, hc_49, hcz_49, hP49⟩ := gen2 hP49
 have S49 := S44.join hP49
 replace S49 : St w NoX [c_49, cz_49, c_38, cz_38, c_32, cz_32, c39, c33, c3, c2] w49 := S49
 refine W_v rfl rfl (V_mov rfl (et rfl)) ?_
 refine W_v rfl rfl (V_ext (v := .agg #[v_49, z_49]) rfl (et rfl) rfl) ?_
 refine W_v rfl rfl (V_ext (v := .int .i64 ((chE8 C N Z K Q X ns slot a b))) rfl (es rfl (et rfl)) rfl) ?_
 refine W_stAS 7 S49 rfl hc33 rfl rfl rfl (es8 rfl (es5 rfl (fg5 F45))) (es rfl (et rfl)) (by simp only [List.all_toArray, List.all_cons, List.all_nil, rmO_one (S49.chq 0 rfl hc_49), SlN_one (ow_at (S49.chq 1 rfl hcz_49))] <;> rfl) (by rfl) (by kernel_rfl) (fun w50 c50 hc50 S50 => ?_)
 replace S50 : St w NoX [c_49, cz_49, c_38, cz_38, c_32, cz_32, c39, c50, c3, c2] w50 := S50
 refine W_v rfl rfl (V_asg rfl (et rfl)) ?_
 refine W_end (gen_Q fun A51 E51 => ?_)
 have Y51 := szq E51
 have F51 := fsE E51 (ck (cq5 (cq8 (fx2 F45) rfl) rfl) rfl rfl)
 clear E51 Y45 F45
 have S52 : St w NoX [c_49, cz_49, c_38, cz_38, c39, c50, c3, c2] w50 := S50.sel [0, 1, 2, 3, 6, 7, 8, 9] (by decide) rfl
 refine tk H46 ?_
 refine wp_seq_k fun K53 H53 => ?_
 refine region_in ?_
 refine W_v rfl rfl (V_fa (off' := 0) rfl (fg9 F51) Tryz.underlying31 rfl (by decide +kernel) rfl) ?_
 refine W_r rfl rfl (VR_ldP (ys := [.int .i64 (C), .int .i64 (N), .int .i64 (Z), .int .i64 (K), .int .i64 (Q)]) rfl (et rfl) (S52.obj 7 rfl hc2) (ldP_at rfl) Tryz.underlying23 rfl (by kernel_rfl)) ?_
 refine W_v rfl rfl (V_fa (off' := 5) rfl (es2 rfl (fg9 F51)) Tryz.underlying31 rfl (by decide +kernel) rfl) ?_
 refine W_r rfl rfl (VR_ldP (ys := [cv, nv]) rfl (et rfl) (S52.obj 7 rfl hc2) (ldP_at rfl) Tryz.underlying29 rfl (by kernel_rfl)) ?_
 refine W_v rfl rfl (V_mov rfl (es4 rfl (fg7 F51))) ?_
 refine W_v rfl rfl (V_ixA (sz := 1) (off' := 0) 0 rfl (es5 rfl (fg8 F51)) rfl (by rfl) Tryz.underlying39 (by decide) (by kernel_rfl) rfl) ?_
 refine W_r rfl rfl (VR_ldC rfl (et rfl) (cell_box (v := .int .i64 (a)) (S52.obj 6 rfl hc3) rfl) Tryz.underlying3 rfl) ?_
 refine W_v rfl rfl (V_ixA (sz := 1) (off' := 1) 1 rfl (es7 rfl (fg8 F51)) rfl (by rfl) Tryz.underlying39 (by decide) (by kernel_rfl) rfl) ?_
 refine W_r rfl rfl (VR_ldC rfl (et rfl) (cell_box (v := .int .i64 (b)) (S52.obj 6 rfl hc3) rfl) Tryz.underlying3 rfl) ?_
 refine W_call rfl rfl rfl Tryz.func17 (by kernel_rfl) rfl (args5 (es7 rfl (et rfl)) (es5 rfl (et rfl)) (es4 rfl (et rfl)) (es2 rfl (et rfl)) (et rfl)) (qSto_c (C := C) (N := N) (Z := Z) (K := K) (Q := Q) (slot := slot) (old := a) (now := b) (S52.roC h_cv) (S52.roC h_nv) ) ?_
 rintro _ w56 ⟨v_56, z_56, rfl, hP56⟩
 refine ⟨_, rfl, ?_⟩
 obtain ⟨c_56, cz_56, hc_56, hcz_56, hP56⟩ := gen2 hP56
 have S56 := S52.join hP56
 replace S56 : St w NoX [c_56, cz_56, c_49, cz_49, c_38, cz_38, c39, c50, c3, c2] w56 := S56
 refine W_v rfl rfl (V_mov rfl (et rfl)) ?_
 refine W_v rfl rfl (V_ext (v := .agg #[v_56, z_56]) rfl (et rfl) rfl) ?_
 refine W_v rfl rfl (V_ext (v := .int .i64 ((chE8 C N Z K Q X ns slot a b))) rfl (es rfl (et rfl)) rfl) ?_
 refine W_stAS 6 S56 rfl hc39 rfl rfl rfl (es8 rfl (es5 rfl (fg4 F51))) (es rfl (et rfl)) (by simp only [List.all_toArray, List.all_cons, List.all_nil, rmO_one (S56.chq 0 rfl hc_56), SlN_one (ow_at (S56.chq 1 rfl hcz_56))] <;> rfl) (by rfl) (by kernel_rfl) (fun w57 c57 hc57 S57 => ?_)
 replace S57 : St w NoX [c_56, cz_56, c_49, cz_49, c_38, cz_38, c57, c50, c3, c2] w57 := S57
 refine W_v rfl rfl (V_asg rfl (et rfl)) ?_
 refine W_end (gen_Q fun A58 E58 => ?_)
 have Y58 := szq E58
 have F58 := fsE E58 (ck (cq5 (cq8 (fx2 F51) rfl) rfl) rfl rfl)
 clear E58 Y51 F51
 have S59 : St w NoX [c_56, cz_56, c_49, cz_49, c57, c50] w57 := S57.sel [0, 1, 2, 3, 6, 7] (by decide) rfl
 refine tk H53 ?_
 refine wp_seq_k fun K60 H60 => ?_
 refine region_in ?_
 refine W_r rfl rfl (VR_ldA rfl (fg5 F58) (S59.obj 5 rfl hc50) Tryz.underlying29 rfl (by kernel_rfl)) ?_
 refine W_r rfl rfl (VR_ldA rfl (es rfl (fg4 F58)) (S59.obj 4 rfl hc57) Tryz.underlying29 rfl (by kernel_rfl)) ?_
 refine W_call rfl rfl rfl Tryz.func9 (by kernel_rfl) rfl (args2 (es rfl (et rfl)) (et rfl)) (qEq8_c (S59.chC 2 rfl hc_49).rm (S59.chC 3 rfl hcz_49).own (S59.chC 0 rfl hc_56).rm (S59.chC 1 rfl hcz_56).own (by first | with_reducible assumption | omega | with_reducible exact nwX_len (by omega) | with_reducible exact chX_len (by omega) | with_reducible exact prX_len (by omega) | decide +kernel | (simp; omega)) (by first | with_reducible assumption | omega | with_reducible exact nwX_len (by omega) | with_reducible exact chX_len (by omega) | with_reducible exact prX_len (by omega) | decide +kernel | (simp; omega))) ?_
 rintro _ w61 ⟨rfl, hP61⟩
 refine ⟨_, rfl, ?_⟩
 have S61 := S59.join hP61
 replace S61 : St w NoX [c_56, cz_56, c_49, cz_49, c57, c50] w61 := S61
 refine W_sure (c' := true) rfl rfl (V_mov rfl (et rfl)) (by simp) ?_
 refine W_v rfl (wanted_t rfl rfl (et rfl) (ez rfl)) (V_mov rfl (es4 rfl (fg1 F58))) ?_
 refine W_v rfl (wanted_t rfl rfl (es rfl (et rfl)) (ez rfl)) (V_mov rfl (es5 rfl (fg0 F58))) ?_
 refine W_v rfl (wanted_t rfl rfl (es2 rfl (et rfl)) (ez rfl)) (V_eql rfl (es rfl (et rfl)) (et rfl)) ?_
 refine W_v rfl rfl (V_pickT rfl (es3 rfl (et rfl)) (et rfl)) ?_
 refine W_sure (c' := true) rfl rfl (V_mov rfl (et rfl)) (by simp) ?_
 refine W_call rfl (wanted_t rfl rfl (et rfl) (ez rfl)) rfl Tryz.func6 (by kernel_rfl) rfl (args0) (lawk_c  ) ?_
 rintro _ w62 ⟨rfl, hP62⟩
 refine ⟨_, rfl, ?_⟩
 have S62 := S61.join hP62
 replace S62 : St w NoX [c_56, cz_56, c_49, cz_49, c57, c50] w62 := S62
 refine W_v rfl rfl (V_pickT rfl (es rfl (et rfl)) (et rfl)) ?_
 refine W_v rfl rfl (V_asg rfl (et rfl)) ?_
 refine W_end (gen_Q fun A63 E63 => ?_)
 have Y63 := szq E63
 have F63 := fsE E63 (ck (cq3 (cq8 F58 rfl) rfl) rfl rfl)
 clear E63 Y58 F58
 have S64 : St w NoX [] w62 := S62.sel [] (by decide) rfl
 refine tk H60 ?_
 refine wp_ret ?_
 refine ret_in (results_1 Tryz.results4 (rv_tmp (fg0 F63))) F63.d ?_
 exact ⟨rfl, S64.fin0⟩

end Go.Proofs.YteppjefmlibmoaaGreat