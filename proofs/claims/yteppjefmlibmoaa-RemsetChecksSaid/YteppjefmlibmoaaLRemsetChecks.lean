import Derived.Test.YteppjefmlibmoaaProg
import Derived.Test.YteppjefmlibmoaaRl8
namespace Go.Proofs.Yteppjefmlibmoaa
open Go.RowKit Go.Own Go.Own.R Go.Own.S Go.Own.E


set_option maxHeartbeats 4000000 in
theorem RemsetChecks_c {C : Int} {N : Int} {Z : Int} {K : Int} {Q : Int} {cv : Value} {X : List (List Int)} {nv : Value} {ns : List Int} {w : World} (h_cv : Ro w NoX (rmR cv X)) (h_nv : Ro w NoX (il .i64 nv ns))  :
  Calls Try.prog 4 #[.agg #[.int .i64 C, .int .i64 N, .int .i64 Z, .int .i64 K, .int .i64 Q, cv, nv]] w fun e w' => e = .returned (.bool true) ∧ St w NoX [] w' := by
 refine calls_in 85 Try.func4 rfl rfl (by simp) (fun A0 Y0 hdf0 hargs => ?_)
 have l0_0 := hargs 0 (.agg #[.int .i64 C, .int .i64 N, .int .i64 Z, .int .i64 K, .int .i64 Q, cv, nv]) rfl
 clear hargs; replace Y0 : SzN A0 85 := ⟨Y0⟩
 have hS := St.nil w
 have bh_nv := SlN.le (sl_SlN h_nv.at)
 refine wp_seq_k fun K1 H1 => ?_
 refine region_in ?_
 refine W_boxS (zs := #[.int .i64 (C), .int .i64 (N), .int .i64 (Z), .int .i64 (K), .int .i64 (Q), cv, nv]) hS rfl rfl rfl l0_0 (by rfl) (fun g2 w2 c2 hc2 S2 => ?_)
 replace S2 : St w NoX [c2] w2 := S2
 refine W_v rfl rfl (V_asg rfl rfl) ?_
 refine W_end (gen_Q fun A3 E3 => ?_)
 have Y3 := szq E3
 have F3 := fsE E3 (cq1 (ck (FS.n hdf0) rfl rfl) rfl)
 clear E3 Y0 hdf0 l0_0
 refine tk H1 ?_
 refine wp_seq_k fun K4 H4 => ?_
 refine wp_seq_k fun K5 H5 => ?_
 refine region_in ?_
 refine W_v rfl rfl (V_fa (off' := 5) rfl (fg0 F3) Try.underlying31 rfl (by decide +kernel) rfl) ?_
 refine W_r rfl rfl (VR_ldP (ys := [cv, nv]) rfl (et rfl) (S2.obj 0 rfl hc2) (ldP_at rfl) Try.underlying29 rfl (by kernel_rfl)) ?_
 refine W_call rfl rfl rfl Try.func9 (by kernel_rfl) rfl (args1 (et rfl)) (lFar_c (S2.roC h_cv) (S2.roC h_nv) ) ?_
 rintro _ w6 ⟨rfl, hP6⟩
 refine ⟨_, rfl, ?_⟩
 have S6 := S2.join hP6
 replace S6 : St w NoX [c2] w6 := S6
 refine W_end (gen_Q fun A7 E7 => ?_)
 have Y7 := szq E7
 have F7 := fsE E7 (ck (cq2 F3 rfl) rfl rfl)
 clear E7 Y3 F3
 refine tk H5 ?_
 refine cond_b (fg0 F7) (fun c8 => ?_) (fun c8 => ?_)
 ·refine wp_seq_k fun K9 H9 => ?_
  refine region_in ?_
  refine W_call rfl rfl rfl Try.func10 (by kernel_rfl) rfl (args0) (lawk_c  ) ?_
  rintro _ w10 ⟨rfl, hP10⟩
  refine ⟨_, rfl, ?_⟩
  have S10 := S6.join hP10
  replace S10 : St w NoX [c2] w10 := S10
  refine W_v rfl rfl (V_asg rfl (et rfl)) ?_
  refine W_end (gen_Q fun A11 E11 => ?_)
  have Y11 := szq E11
  have F11 := fsE E11 (ck (cq1 F7 rfl) rfl rfl)
  clear E11 Y7 F7
  have S12 : St w NoX [] w10 := S10.sel [] (by decide) rfl
  refine tk H9 ?_
  refine wp_ret ?_
  refine then_ret ?_
  refine ret_in (results_1 Try.results4 (rv_tmp (fg0 F11))) F11.d ?_
  exact ⟨rfl, S12.fin0⟩
 obtain ⟨hfx, hfr, hfn⟩ := far_ok (by simpa using c8)
 have hxl : X.length ≤ 1000000 := by omega
 refine wp_skip ?_
 refine tk H4 ?_
 refine wp_seq_k fun K13 H13 => ?_
 refine region_in ?_
 refine W_v rfl rfl (V_fa (off' := 0) rfl (fg1 F7) Try.underlying31 rfl (by decide +kernel) rfl) ?_
 refine W_r rfl rfl (VR_ldP (ys := [.int .i64 (C), .int .i64 (N), .int .i64 (Z), .int .i64 (K), .int .i64 (Q)]) rfl (et rfl) (S6.obj 0 rfl hc2) (ldP_at rfl) Try.underlying23 rfl (by kernel_rfl)) ?_
 refine W_call rfl rfl rfl Try.func16 (by kernel_rfl) rfl (args1 (et rfl)) (kNew8_c (C := C) (N := N) (Z := Z) (K := K) (Q := Q)  ) ?_
 rintro _ w14 ⟨v_14, z_14, rfl, hP14⟩
 refine ⟨_, rfl, ?_⟩
 obtain ⟨c_14, cz_14, hc_14, hcz_14, hP14⟩ := gen2 hP14
 have S14 := S6.join hP14
 replace S14 : St w NoX [c_14, cz_14, c2] w14 := S14
 refine W_v rfl rfl (V_mov rfl (et rfl)) ?_
 refine W_v rfl rfl (V_ext (v := .agg #[v_14, z_14]) rfl (et rfl) rfl) ?_
 refine W_v rfl rfl (V_ext (v := .int .i64 ((cfE C N Z K Q))) rfl (es rfl (et rfl)) rfl) ?_
 refine W_allocS (z := .agg #[.slice none 0 0, .slice none 0 0]) (zs := #[.slice none 0 0, .slice none 0 0]) S14 rfl rfl rfl (by kernel_rfl) (by rfl) (fun g15 w15 c15 hc15 S15 => ?_)
 replace S15 : St w NoX [c15, c_14, cz_14, c2] w15 := S15
 refine W_stAS 0 S15 rfl hc15 rfl rfl rfl (et rfl) (es2 rfl (et rfl)) (by simp only [List.all_toArray, List.all_cons, List.all_nil, rmO_one (S15.chq 1 rfl hc_14), SlN_one (ow_at (S15.chq 2 rfl hcz_14))] <;> rfl) (by rfl) (by kernel_rfl) (fun w16 c16 hc16 S16 => ?_)
 replace S16 : St w NoX [c16, c_14, cz_14, c2] w16 := S16
 refine W_v rfl rfl (V_asg rfl (es rfl (et rfl))) ?_
 refine W_end (gen_Q fun A17 E17 => ?_)
 have Y17 := szq E17
 have F17 := fsE E17 (ck (ck (cq6 F7 rfl) rfl rfl) rfl rfl)
 clear E17 Y7 F7
 refine tk H13 ?_
 refine wp_seq_k fun K18 H18 => ?_
 refine region_in ?_
 refine W_v rfl rfl (V_fa (off' := 0) rfl (fg3 F17) Try.underlying31 rfl (by decide +kernel) rfl) ?_
 refine W_r rfl rfl (VR_ldP (ys := [.int .i64 (C), .int .i64 (N), .int .i64 (Z), .int .i64 (K), .int .i64 (Q)]) rfl (et rfl) (S16.obj 3 rfl hc2) (ldP_at rfl) Try.underlying23 rfl (by kernel_rfl)) ?_
 refine W_call rfl rfl rfl Try.func18 (by kernel_rfl) rfl (args1 (et rfl)) (qNew8_c (C := C) (N := N) (Z := Z) (K := K) (Q := Q)  ) ?_
 rintro _ w19 ⟨v_19, z_19, rfl, hP19⟩
 refine ⟨_, rfl, ?_⟩
 obtain ⟨c_19, cz_19, hc_19, hcz_19, hP19⟩ := gen2 hP19
 have S19 := S16.join hP19
 replace S19 : St w NoX [c_19, cz_19, c16, c_14, cz_14, c2] w19 := S19
 refine W_v rfl rfl (V_mov rfl (et rfl)) ?_
 refine W_v rfl rfl (V_ext (v := .agg #[v_19, z_19]) rfl (et rfl) rfl) ?_
 refine W_v rfl rfl (V_ext (v := .int .i64 ((cfE C N Z K Q))) rfl (es rfl (et rfl)) rfl) ?_
 refine W_allocS (z := .agg #[.slice none 0 0, .slice none 0 0]) (zs := #[.slice none 0 0, .slice none 0 0]) S19 rfl rfl rfl (by kernel_rfl) (by rfl) (fun g20 w20 c20 hc20 S20 => ?_)
 replace S20 : St w NoX [c20, c_19, cz_19, c16, c_14, cz_14, c2] w20 := S20
 refine W_stAS 0 S20 rfl hc20 rfl rfl rfl (et rfl) (es2 rfl (et rfl)) (by simp only [List.all_toArray, List.all_cons, List.all_nil, rmO_one (S20.chq 1 rfl hc_19), SlN_one (ow_at (S20.chq 2 rfl hcz_19))] <;> rfl) (by rfl) (by kernel_rfl) (fun w21 c21 hc21 S21 => ?_)
 replace S21 : St w NoX [c21, c_19, cz_19, c16, c_14, cz_14, c2] w21 := S21
 refine W_v rfl rfl (V_asg rfl (es rfl (et rfl))) ?_
 refine W_end (gen_Q fun A22 E22 => ?_)
 have Y22 := szq E22
 have F22 := fsE E22 (ck (ck (cq6 F17 rfl) rfl rfl) rfl rfl)
 clear E22 Y17 F17
 refine tk H18 ?_
 refine wp_seq_k fun K23 H23 => ?_
 refine region_in ?_
 refine W_v rfl rfl (V_fa (off' := 0) rfl (fg5 F22) Try.underlying31 rfl (by decide +kernel) rfl) ?_
 refine W_r rfl rfl (VR_ldP (ys := [.int .i64 (C), .int .i64 (N), .int .i64 (Z), .int .i64 (K), .int .i64 (Q)]) rfl (et rfl) (S21.obj 6 rfl hc2) (ldP_at rfl) Try.underlying23 rfl (by kernel_rfl)) ?_
 refine W_v rfl rfl (V_fa (off' := 5) rfl (es2 rfl (fg5 F22)) Try.underlying31 rfl (by decide +kernel) rfl) ?_
 refine W_r rfl rfl (VR_ldP (ys := [cv, nv]) rfl (et rfl) (S21.obj 6 rfl hc2) (ldP_at rfl) Try.underlying29 rfl (by kernel_rfl)) ?_
 refine W_call rfl rfl rfl Try.func11 (by kernel_rfl) rfl (args2 (es2 rfl (et rfl)) (et rfl)) (kCk8_c (C := C) (N := N) (Z := Z) (K := K) (Q := Q) (S21.roC h_cv) (S21.roC h_nv) ) ?_
 rintro _ w24 ⟨rfl, hP24⟩
 refine ⟨_, rfl, ?_⟩
 have S24 := S21.join hP24
 replace S24 : St w NoX [c21, c_19, cz_19, c16, c_14, cz_14, c2] w24 := S24
 refine W_v rfl rfl (V_mov rfl (et rfl)) ?_
 refine W_v rfl rfl (V_ext (v := .int .i64 ((rmP C N Z K Q X ns).1)) rfl (et rfl) rfl) ?_
 refine W_v rfl rfl (V_ext (v := .int .i64 ((rmP C N Z K Q X ns).2)) rfl (es rfl (et rfl)) rfl) ?_
 refine W_v rfl rfl (V_asg rfl (es rfl (et rfl))) ?_
 refine W_v rfl rfl (V_asg rfl (es rfl (et rfl))) ?_
 refine W_end (gen_Q fun A25 E25 => ?_)
 have Y25 := szq E25
 have F25 := fsE E25 (ck (ck (cq8 F22 rfl) rfl rfl) rfl rfl)
 clear E25 Y22 F22
 refine tk H23 ?_
 refine wp_seq_k fun K26 H26 => ?_
 refine region_in ?_
 refine W_v rfl rfl (V_fa (off' := 0) rfl (fg7 F25) Try.underlying31 rfl (by decide +kernel) rfl) ?_
 refine W_r rfl rfl (VR_ldP (ys := [.int .i64 (C), .int .i64 (N), .int .i64 (Z), .int .i64 (K), .int .i64 (Q)]) rfl (et rfl) (S24.obj 6 rfl hc2) (ldP_at rfl) Try.underlying23 rfl (by kernel_rfl)) ?_
 refine W_v rfl rfl (V_fa (off' := 5) rfl (es2 rfl (fg7 F25)) Try.underlying31 rfl (by decide +kernel) rfl) ?_
 refine W_r rfl rfl (VR_ldP (ys := [cv, nv]) rfl (et rfl) (S24.obj 6 rfl hc2) (ldP_at rfl) Try.underlying29 rfl (by kernel_rfl)) ?_
 refine W_call rfl rfl rfl Try.func19 (by kernel_rfl) rfl (args2 (es2 rfl (et rfl)) (et rfl)) (qCk8_c (C := C) (N := N) (Z := Z) (K := K) (Q := Q) (S24.roC h_cv) (S24.roC h_nv) ) ?_
 rintro _ w27 ⟨rfl, hP27⟩
 refine ⟨_, rfl, ?_⟩
 have S27 := S24.join hP27
 replace S27 : St w NoX [c21, c_19, cz_19, c16, c_14, cz_14, c2] w27 := S27
 refine W_v rfl rfl (V_mov rfl (et rfl)) ?_
 refine W_v rfl rfl (V_ext (v := .int .i64 ((rmP C N Z K Q X ns).1)) rfl (et rfl) rfl) ?_
 refine W_v rfl rfl (V_ext (v := .int .i64 ((rmP C N Z K Q X ns).2)) rfl (es rfl (et rfl)) rfl) ?_
 refine W_v rfl rfl (V_asg rfl (es rfl (et rfl))) ?_
 refine W_v rfl rfl (V_asg rfl (es rfl (et rfl))) ?_
 refine W_end (gen_Q fun A28 E28 => ?_)
 have Y28 := szq E28
 have F28 := fsE E28 (ck (ck (cq8 F25 rfl) rfl rfl) rfl rfl)
 clear E28 Y25 F25
 refine tk H26 ?_
 refine wp_seq_k fun K29 H29 => ?_
 refine wp_seq_k fun K30 H30 => ?_
 refine region_in ?_
 refine W_r rfl rfl (VR_ldA rfl (fg7 F28) (S27.obj 3 rfl hc16) Try.underlying29 rfl (by kernel_rfl)) ?_
 refine W_r rfl rfl (VR_ldA rfl (es rfl (fg5 F28)) (S27.obj 0 rfl hc21) Try.underlying29 rfl (by kernel_rfl)) ?_
 refine W_call rfl rfl rfl Try.func20 (by kernel_rfl) rfl (args2 (es rfl (et rfl)) (et rfl)) (qEq8_c (S27.chC 4 rfl hc_14).rm (S27.chC 5 rfl hcz_14).own (S27.chC 1 rfl hc_19).rm (S27.chC 2 rfl hcz_19).own (by first | with_reducible assumption | omega | with_reducible exact nwX_len (by omega) | with_reducible exact chX_len (by omega) | with_reducible exact prX_len (by omega) | decide +kernel | (simp; omega)) (by first | with_reducible assumption | omega | with_reducible exact nwX_len (by omega) | with_reducible exact chX_len (by omega) | with_reducible exact prX_len (by omega) | decide +kernel | (simp; omega))) ?_
 rintro _ w31 ⟨rfl, hP31⟩
 refine ⟨_, rfl, ?_⟩
 have S31 := S27.join hP31
 replace S31 : St w NoX [c21, c_19, cz_19, c16, c_14, cz_14, c2] w31 := S31
 refine W_v rfl rfl (V_notd rfl (et rfl)) ?_
 refine W_sure (c' := false) rfl rfl (V_mov rfl (et rfl)) (by simp) ?_
 refine W_v rfl (wanted_t rfl rfl (et rfl) (ez rfl)) (V_mov rfl (es5 rfl (fg6 F28))) ?_
 refine W_v rfl (wanted_t rfl rfl (es rfl (et rfl)) (ez rfl)) (V_mov rfl (es6 rfl (fg4 F28))) ?_
 refine W_v rfl (wanted_t rfl rfl (es2 rfl (et rfl)) (ez rfl)) (V_neq rfl (es rfl (et rfl)) (et rfl)) ?_
 refine W_v rfl rfl (V_pickF rfl (es3 rfl (et rfl)) (et rfl)) ?_
 refine W_sure (c' := false) rfl rfl (V_mov rfl (et rfl)) (by simp) ?_
 refine W_v rfl (wanted_t rfl rfl (et rfl) (ez rfl)) (V_mov rfl (es8 rfl (es2 rfl (fg3 F28)))) ?_
 refine W_v rfl (wanted_t rfl rfl (es rfl (et rfl)) (ez rfl)) (V_mov rfl (es8 rfl (es3 rfl (fg1 F28)))) ?_
 refine W_v rfl (wanted_t rfl rfl (es2 rfl (et rfl)) (ez rfl)) (V_neq rfl (es rfl (et rfl)) (et rfl)) ?_
 refine W_v rfl rfl (V_pickF rfl (es3 rfl (et rfl)) (et rfl)) ?_
 refine W_sure (c' := false) rfl rfl (V_mov rfl (et rfl)) (by simp) ?_
 refine W_v rfl (wanted_t rfl rfl (et rfl) (ez rfl)) (V_mov rfl (es8 rfl (es7 rfl (fg2 F28)))) ?_
 refine W_v rfl (wanted_t rfl rfl (es rfl (et rfl)) (ez rfl)) (V_mov rfl (es8 rfl (es8 rfl (fg0 F28)))) ?_
 refine W_v rfl (wanted_t rfl rfl (es2 rfl (et rfl)) (ez rfl)) (V_neq rfl (es rfl (et rfl)) (et rfl)) ?_
 refine W_v rfl rfl (V_pickF rfl (es3 rfl (et rfl)) (et rfl)) ?_
 refine W_end (gen_Q fun A32 E32 => ?_)
 have Y32 := szq E32
 have F32 := fsE E32 (ck (cq2 (cq8 (cq8 F28 rfl) rfl) rfl) rfl rfl)
 clear E32 Y28 F28
 have S33 : St w NoX [c2] w31 := S31.sel [6] (by decide) rfl
 refine tk H30 ?_
 refine cond_not (fg0 F32) (by simp) ?_
 refine wp_skip ?_
 refine tk H29 ?_
 refine wp_seq_k fun K34 H34 => ?_
 refine region_in ?_
 refine W_v rfl rfl (V_fa (off' := 5) rfl (fg10 F32) Try.underlying31 rfl (by decide +kernel) rfl) ?_
 refine W_r rfl rfl (VR_ldP (ys := [cv, nv]) rfl (et rfl) (S33.obj 0 rfl hc2) (ldP_at rfl) Try.underlying29 rfl (by kernel_rfl)) ?_
 refine W_call rfl rfl rfl Try.func15 (by kernel_rfl) rfl (args1 (et rfl)) (kCt8_c (S33.roC h_cv) (S33.roC h_nv) (by first | with_reducible assumption | omega | with_reducible exact nwX_len (by omega) | with_reducible exact chX_len (by omega) | with_reducible exact prX_len (by omega) | decide +kernel | (simp; omega))) ?_
 rintro _ w35 ⟨rfl, hP35⟩
 refine ⟨_, rfl, ?_⟩
 have S35 := S33.join hP35
 replace S35 : St w NoX [c2] w35 := S35
 refine W_v rfl rfl (V_mov rfl (et rfl)) ?_
 refine W_v rfl rfl (V_ext (v := .int .i64 ((ctP (X ++ [ns])).1)) rfl (et rfl) rfl) ?_
 refine W_v rfl rfl (V_ext (v := .int .i64 ((ctP (X ++ [ns])).2)) rfl (es rfl (et rfl)) rfl) ?_
 refine W_v rfl rfl (V_asg rfl (es rfl (et rfl))) ?_
 refine W_v rfl rfl (V_asg rfl (es rfl (et rfl))) ?_
 refine W_end (gen_Q fun A36 E36 => ?_)
 have Y36 := szq E36
 have F36 := fsE E36 (ck (ck (cq6 (fx3 (fx3 F32)) rfl) rfl rfl) rfl rfl)
 clear E36 Y32 F32
 refine tk H34 ?_
 refine wp_seq_k fun K37 H37 => ?_
 refine region_in ?_
 refine W_v rfl rfl (V_fa (off' := 5) rfl (fg10 F36) Try.underlying31 rfl (by decide +kernel) rfl) ?_
 refine W_r rfl rfl (VR_ldP (ys := [cv, nv]) rfl (et rfl) (S35.obj 0 rfl hc2) (ldP_at rfl) Try.underlying29 rfl (by kernel_rfl)) ?_
 refine W_call rfl rfl rfl Try.func21 (by kernel_rfl) rfl (args1 (et rfl)) (qCt8_c (S35.roC h_cv) (S35.roC h_nv) (by first | with_reducible assumption | omega | with_reducible exact nwX_len (by omega) | with_reducible exact chX_len (by omega) | with_reducible exact prX_len (by omega) | decide +kernel | (simp; omega))) ?_
 rintro _ w38 ⟨rfl, hP38⟩
 refine ⟨_, rfl, ?_⟩
 have S38 := S35.join hP38
 replace S38 : St w NoX [c2] w38 := S38
 refine W_v rfl rfl (V_mov rfl (et rfl)) ?_
 refine W_v rfl rfl (V_ext (v := .int .i64 ((ctP (X ++ [ns])).1)) rfl (et rfl) rfl) ?_
 refine W_v rfl rfl (V_ext (v := .int .i64 ((ctP (X ++ [ns])).2)) rfl (es rfl (et rfl)) rfl) ?_
 refine W_v rfl rfl (V_asg rfl (es rfl (et rfl))) ?_
 refine W_v rfl rfl (V_asg rfl (es rfl (et rfl))) ?_
 refine W_end (gen_Q fun A39 E39 => ?_)
 have Y39 := szq E39
 have F39 := fsE E39 (ck (ck (cq6 (fx3 (fx3 F36)) rfl) rfl rfl) rfl rfl)
 clear E39 Y36 F36
 have S40 : St w NoX [] w38 := S38.sel [] (by decide) rfl
 refine tk H37 ?_
 refine wp_seq_k fun K41 H41 => ?_
 refine region_in ?_
 refine W_v rfl rfl (V_mov rfl (fg3 F39)) ?_
 refine W_v rfl rfl (V_mov rfl (es rfl (fg1 F39))) ?_
 refine W_v rfl rfl (V_eql rfl (es rfl (et rfl)) (et rfl)) ?_
 refine W_sure (c' := true) rfl rfl (V_mov rfl (et rfl)) (by simp) ?_
 refine W_v rfl (wanted_t rfl rfl (et rfl) (ez rfl)) (V_mov rfl (es4 rfl (fg2 F39))) ?_
 refine W_v rfl (wanted_t rfl rfl (es rfl (et rfl)) (ez rfl)) (V_mov rfl (es5 rfl (fg0 F39))) ?_
 refine W_v rfl (wanted_t rfl rfl (es2 rfl (et rfl)) (ez rfl)) (V_eql rfl (es rfl (et rfl)) (et rfl)) ?_
 refine W_v rfl rfl (V_pickT rfl (es3 rfl (et rfl)) (et rfl)) ?_
 refine W_sure (c' := true) rfl rfl (V_mov rfl (et rfl)) (by simp) ?_
 refine W_call rfl (wanted_t rfl rfl (et rfl) (ez rfl)) rfl Try.func10 (by kernel_rfl) rfl (args0) (lawk_c  ) ?_
 rintro _ w42 ⟨rfl, hP42⟩
 refine ⟨_, rfl, ?_⟩
 have S42 := S40.join hP42
 replace S42 : St w NoX [] w42 := S42
 refine W_v rfl rfl (V_pickT rfl (es rfl (et rfl)) (et rfl)) ?_
 refine W_v rfl rfl (V_asg rfl (et rfl)) ?_
 refine W_end (gen_Q fun A43 E43 => ?_)
 have Y43 := szq E43
 have F43 := fsE E43 (ck (cq3 (cq8 F39 rfl) rfl) rfl rfl)
 clear E43 Y39 F39
 refine tk H41 ?_
 refine wp_ret ?_
 refine ret_in (results_1 Try.results4 (rv_tmp (fg0 F43))) F43.d ?_
 exact ⟨rfl, S42.fin0⟩

end Go.Proofs.Yteppjefmlibmoaa