import Derived.Test.YteppjefmlibmoaaProg
import Derived.Test.YteppjefmlibmoaaRl8
import Derived.Test.YteppjefmlibmoaaRl9
namespace Go.Proofs.Yteppjefmlibmoaa
open Go.RowKit Go.Own Go.Own.R Go.Own.S Go.Own.E


set_option maxHeartbeats 4000000 in
theorem RemsetBack_c {C : Int} {N : Int} {Z : Int} {K : Int} {Q : Int} {cv : Value} {X : List (List Int)} {nv : Value} {ns : List Int} {slot : Int} {a : Int} {b : Int} {w : World} (h_cv : Ro w NoX (rmR cv X)) (h_nv : Ro w NoX (il .i64 nv ns))  :
  Calls Try.prog 7 #[.agg #[.int .i64 C, .int .i64 N, .int .i64 Z, .int .i64 K, .int .i64 Q, cv, nv], .int .i64 slot, .agg #[.int .i64 a, .int .i64 b]] w fun e w' => e = .returned (.bool true) ∧ St w NoX [] w' := by
 refine calls_in 154 Try.func7 rfl rfl (by simp) (fun A0 Y0 hdf0 hargs => ?_)
 have l0_0 := hargs 0 (.agg #[.int .i64 C, .int .i64 N, .int .i64 Z, .int .i64 K, .int .i64 Q, cv, nv]) rfl
 have l1_0 := hargs 1 (.int .i64 slot) rfl
 have l2_0 := hargs 2 (.agg #[.int .i64 a, .int .i64 b]) rfl
 clear hargs; replace Y0 : SzN A0 154 := ⟨Y0⟩
 have hS := St.nil w
 have bh_nv := SlN.le (sl_SlN h_nv.at)
 refine wp_seq_k fun K1 H1 => ?_
 refine region_in ?_
 refine W_boxS (zs := #[.int .i64 (C), .int .i64 (N), .int .i64 (Z), .int .i64 (K), .int .i64 (Q), cv, nv]) hS rfl rfl rfl l0_0 (by rfl) (fun g2 w2 c2 hc2 S2 => ?_)
 replace S2 : St w NoX [c2] w2 := S2
 refine W_boxS (zs := #[.int .i64 (a), .int .i64 (b)]) S2 rfl rfl rfl (es rfl l2_0) (by rfl) (fun g3 w3 c3 hc3 S3 => ?_)
 replace S3 : St w NoX [c3, c2] w3 := S3
 refine W_v rfl rfl (V_asg rfl rfl) ?_
 refine W_end (gen_Q fun A4 E4 => ?_)
 have Y4 := szq E4
 have F4 := (fsE E4 (cq1 (ck (ck (FS.n hdf0) rfl rfl) rfl rfl) rfl)).c (lookE E4 1 (es3 rfl l1_0))
 clear E4 Y0 hdf0 l0_0 l1_0 l2_0
 refine tk H1 ?_
 refine wp_seq_k fun K5 H5 => ?_
 refine wp_seq_k fun K6 H6 => ?_
 refine region_in ?_
 refine W_v rfl rfl (V_fa (off' := 5) rfl (fg2 F4) Try.underlying31 rfl (by decide +kernel) rfl) ?_
 refine W_r rfl rfl (VR_ldP (ys := [cv, nv]) rfl (et rfl) (S3.obj 1 rfl hc2) (ldP_at rfl) Try.underlying29 rfl (by kernel_rfl)) ?_
 refine W_call rfl rfl rfl Try.func9 (by kernel_rfl) rfl (args1 (et rfl)) (lFar_c (S3.roC h_cv) (S3.roC h_nv) ) ?_
 rintro _ w7 ⟨rfl, hP7⟩
 refine ⟨_, rfl, ?_⟩
 have S7 := S3.join hP7
 replace S7 : St w NoX [c3, c2] w7 := S7
 refine W_end (gen_Q fun A8 E8 => ?_)
 have Y8 := szq E8
 have F8 := fsE E8 (ck (cq2 F4 rfl) rfl rfl)
 clear E8 Y4 F4
 refine tk H6 ?_
 refine cond_b (fg0 F8) (fun c9 => ?_) (fun c9 => ?_)
 ·refine wp_seq_k fun K10 H10 => ?_
  refine region_in ?_
  refine W_call rfl rfl rfl Try.func10 (by kernel_rfl) rfl (args0) (lawk_c  ) ?_
  rintro _ w11 ⟨rfl, hP11⟩
  refine ⟨_, rfl, ?_⟩
  have S11 := S7.join hP11
  replace S11 : St w NoX [c3, c2] w11 := S11
  refine W_v rfl rfl (V_asg rfl (et rfl)) ?_
  refine W_end (gen_Q fun A12 E12 => ?_)
  have Y12 := szq E12
  have F12 := fsE E12 (ck (cq1 F8 rfl) rfl rfl)
  clear E12 Y8 F8
  have S13 : St w NoX [] w11 := S11.sel [] (by decide) rfl
  refine tk H10 ?_
  refine wp_ret ?_
  refine then_ret ?_
  refine ret_in (results_1 Try.results7 (rv_tmp (fg0 F12))) F12.d ?_
  exact ⟨rfl, S13.fin0⟩
 obtain ⟨hfx, hfr, hfn⟩ := far_ok (by simpa using c9)
 have hxl : X.length ≤ 1000000 := by omega
 refine wp_skip ?_
 refine tk H5 ?_
 refine wp_seq_k fun K14 H14 => ?_
 refine region_in ?_
 refine W_v rfl rfl (V_fa (off' := 0) rfl (fg3 F8) Try.underlying31 rfl (by decide +kernel) rfl) ?_
 refine W_r rfl rfl (VR_ldP (ys := [.int .i64 (C), .int .i64 (N), .int .i64 (Z), .int .i64 (K), .int .i64 (Q)]) rfl (et rfl) (S7.obj 1 rfl hc2) (ldP_at rfl) Try.underlying23 rfl (by kernel_rfl)) ?_
 refine W_v rfl rfl (V_fa (off' := 5) rfl (es2 rfl (fg3 F8)) Try.underlying31 rfl (by decide +kernel) rfl) ?_
 refine W_r rfl rfl (VR_ldP (ys := [cv, nv]) rfl (et rfl) (S7.obj 1 rfl hc2) (ldP_at rfl) Try.underlying29 rfl (by kernel_rfl)) ?_
 refine W_call rfl rfl rfl Try.func11 (by kernel_rfl) rfl (args2 (es2 rfl (et rfl)) (et rfl)) (kCk8_c (C := C) (N := N) (Z := Z) (K := K) (Q := Q) (S7.roC h_cv) (S7.roC h_nv) ) ?_
 rintro _ w15 ⟨rfl, hP15⟩
 refine ⟨_, rfl, ?_⟩
 have S15 := S7.join hP15
 replace S15 : St w NoX [c3, c2] w15 := S15
 refine W_v rfl rfl (V_mov rfl (et rfl)) ?_
 refine W_v rfl rfl (V_ext (v := .int .i64 ((rmP C N Z K Q X ns).1)) rfl (et rfl) rfl) ?_
 refine W_v rfl rfl (V_ext (v := .int .i64 ((rmP C N Z K Q X ns).2)) rfl (es rfl (et rfl)) rfl) ?_
 refine W_v rfl rfl (V_asg rfl (es rfl (et rfl))) ?_
 refine W_v rfl rfl (V_asg rfl (es rfl (et rfl))) ?_
 refine W_end (gen_Q fun A16 E16 => ?_)
 have Y16 := szq E16
 have F16 := fsE E16 (ck (cq1 (cq8 F8 rfl) rfl) rfl rfl)
 clear E16 Y8 F8
 refine tk H14 ?_
 refine wp_seq_k fun K17 H17 => ?_
 refine region_in ?_
 refine W_v rfl rfl (V_fa (off' := 5) rfl (fg4 F16) Try.underlying31 rfl (by decide +kernel) rfl) ?_
 refine W_r rfl rfl (VR_ldP (ys := [cv, nv]) rfl (et rfl) (S15.obj 1 rfl hc2) (ldP_at rfl) Try.underlying29 rfl (by kernel_rfl)) ?_
 refine W_call rfl rfl rfl Try.func15 (by kernel_rfl) rfl (args1 (et rfl)) (kCt8_c (S15.roC h_cv) (S15.roC h_nv) (by first | with_reducible assumption | omega | with_reducible exact nwX_len (by omega) | with_reducible exact chX_len (by omega) | with_reducible exact prX_len (by omega) | decide +kernel | (simp; omega))) ?_
 rintro _ w18 ⟨rfl, hP18⟩
 refine ⟨_, rfl, ?_⟩
 have S18 := S15.join hP18
 replace S18 : St w NoX [c3, c2] w18 := S18
 refine W_v rfl rfl (V_mov rfl (et rfl)) ?_
 refine W_v rfl rfl (V_ext (v := .int .i64 ((ctP (X ++ [ns])).1)) rfl (et rfl) rfl) ?_
 refine W_v rfl rfl (V_ext (v := .int .i64 ((ctP (X ++ [ns])).2)) rfl (es rfl (et rfl)) rfl) ?_
 refine W_v rfl rfl (V_asg rfl (es rfl (et rfl))) ?_
 refine W_v rfl rfl (V_asg rfl (es rfl (et rfl))) ?_
 refine W_end (gen_Q fun A19 E19 => ?_)
 have Y19 := szq E19
 have F19 := fsE E19 (ck (ck (cq6 F16 rfl) rfl rfl) rfl rfl)
 clear E19 Y16 F16
 refine tk H17 ?_
 refine wp_seq_k fun K20 H20 => ?_
 refine region_in ?_
 refine W_v rfl rfl (V_fa (off' := 0) rfl (fg6 F19) Try.underlying31 rfl (by decide +kernel) rfl) ?_
 refine W_r rfl rfl (VR_ldP (ys := [.int .i64 (C), .int .i64 (N), .int .i64 (Z), .int .i64 (K), .int .i64 (Q)]) rfl (et rfl) (S18.obj 1 rfl hc2) (ldP_at rfl) Try.underlying23 rfl (by kernel_rfl)) ?_
 refine W_v rfl rfl (V_fa (off' := 5) rfl (es2 rfl (fg6 F19)) Try.underlying31 rfl (by decide +kernel) rfl) ?_
 refine W_r rfl rfl (VR_ldP (ys := [cv, nv]) rfl (et rfl) (S18.obj 1 rfl hc2) (ldP_at rfl) Try.underlying29 rfl (by kernel_rfl)) ?_
 refine W_v rfl rfl (V_mov rfl (es4 rfl (fg4 F19))) ?_
 refine W_v rfl rfl (V_ixA (sz := 1) (off' := 0) 0 rfl (es5 rfl (fg5 F19)) rfl (by rfl) Try.underlying64 (by decide) (by kernel_rfl) rfl) ?_
 refine W_r rfl rfl (VR_ldC rfl (et rfl) (cell_box (v := .int .i64 (a)) (S18.obj 0 rfl hc3) rfl) Try.underlying3 rfl) ?_
 refine W_call rfl rfl rfl Try.func22 (by kernel_rfl) rfl (args4 (es5 rfl (et rfl)) (es3 rfl (et rfl)) (es2 rfl (et rfl)) (et rfl)) (kRec_c (C := C) (N := N) (Z := Z) (K := K) (Q := Q) (slot := slot) (now := a) (S18.roC h_cv) (S18.roC h_nv) ) ?_
 rintro _ w22 ⟨v_22, z_22, rfl, hP22⟩
 refine ⟨_, rfl, ?_⟩
 obtain ⟨c_22, cz_22, hc_22, hcz_22, hP22⟩ := gen2 hP22
 have S22 := S18.join hP22
 replace S22 : St w NoX [c_22, cz_22, c3, c2] w22 := S22
 refine W_v rfl rfl (V_mov rfl (et rfl)) ?_
 refine W_v rfl rfl (V_ext (v := .agg #[v_22, z_22]) rfl (et rfl) rfl) ?_
 refine W_v rfl rfl (V_ext (v := .int .i64 ((chE8 C N Z K Q X ns slot 0 a))) rfl (es rfl (et rfl)) rfl) ?_
 refine W_allocS (z := .agg #[.slice none 0 0, .slice none 0 0]) (zs := #[.slice none 0 0, .slice none 0 0]) S22 rfl rfl rfl (by kernel_rfl) (by rfl) (fun g23 w23 c23 hc23 S23 => ?_)
 replace S23 : St w NoX [c23, c_22, cz_22, c3, c2] w23 := S23
 refine W_stAS 0 S23 rfl hc23 rfl rfl rfl (et rfl) (es2 rfl (et rfl)) (by simp only [List.all_toArray, List.all_cons, List.all_nil, rmO_one (S23.chq 1 rfl hc_22), SlN_one (ow_at (S23.chq 2 rfl hcz_22))] <;> rfl) (by rfl) (by kernel_rfl) (fun w24 c24 hc24 S24 => ?_)
 replace S24 : St w NoX [c24, c_22, cz_22, c3, c2] w24 := S24
 refine W_v rfl rfl (V_asg rfl (es rfl (et rfl))) ?_
 refine W_end (gen_Q fun A25 E25 => ?_)
 have Y25 := szq E25
 have F25 := fsE E25 (ck (ck (cq3 (cq8 F19 rfl) rfl) rfl rfl) rfl rfl)
 clear E25 Y19 F19
 refine tk H20 ?_
 refine wp_seq_k fun K26 H26 => ?_
 refine wp_seq_k fun K27 H27 => ?_
 refine region_in ?_
 refine W_v rfl rfl (V_mov rfl (fg4 F25)) ?_
 refine W_v rfl rfl (V_neq rfl (et rfl) rfl) ?_
 refine W_split rfl rfl (V_mov rfl (et rfl)) (fun c28 => ?_) (fun c28 => ?_)
 ·refine W_off rfl (wanted_f rfl rfl (et rfl) (ez rfl) rfl) ?_
  refine W_off rfl (wanted_f rfl rfl (es rfl (et rfl)) (ez rfl) rfl) ?_
  refine W_v rfl rfl (V_pickT rfl (es2 rfl (et rfl)) rfl) ?_
  refine W_v rfl rfl (V_mov rfl (et rfl)) ?_
  refine W_off rfl (wanted_f rfl rfl (et rfl) (ez rfl) rfl) ?_
  refine W_off rfl (wanted_f rfl rfl (es rfl (et rfl)) (ez rfl) rfl) ?_
  refine W_v rfl rfl (V_pickT rfl (es2 rfl (et rfl)) rfl) ?_
  refine W_end (gen_Q fun A29 E29 => ?_)
  have Y29 := szq E29
  have F29 := fsE E29 (ck (cq1 (cq8 F25 rfl) rfl) rfl rfl)
  clear E29 Y25 F25
  refine tk H27 ?_
  refine cond_t (fg0 F29) ?_
  refine wp_seq_k fun K30 H30 => ?_
  refine region_in ?_
  refine W_v rfl rfl (V_mov rfl (fg5 F29)) ?_
  refine W_v rfl rfl (V_eql rfl (et rfl) rfl) ?_
  refine W_sure (c' := false) rfl rfl (V_mov rfl (et rfl)) (by first | (simp [c28]; done) | exact decide_eq_true (by omega) | exact decide_eq_false (by omega)) ?_
  refine W_v rfl (wanted_t rfl rfl (et rfl) (ez rfl)) (V_mov rfl (es3 rfl (fg1 F29))) ?_
  refine W_v rfl (wanted_t rfl rfl (es rfl (et rfl)) (ez rfl)) (V_mov rfl (es4 rfl (fg5 F29))) ?_
  refine W_v rfl (wanted_t rfl rfl (es2 rfl (et rfl)) (ez rfl)) (V_eql rfl (es rfl (et rfl)) (et rfl)) ?_
  refine W_v rfl rfl (V_pickF rfl (es3 rfl (et rfl)) (et rfl)) ?_
  refine W_sure (c' := true) rfl rfl (V_mov rfl (et rfl)) (by rw [decide_eq_true_eq]; exact ch8_e1 (by omega)) ?_
  refine W_call rfl (wanted_t rfl rfl (et rfl) (ez rfl)) rfl Try.func10 (by kernel_rfl) rfl (args0) (lawk_c  ) ?_
  rintro _ w31 ⟨rfl, hP31⟩
  refine ⟨_, rfl, ?_⟩
  have S31 := S24.join hP31
  replace S31 : St w NoX [c24, c_22, cz_22, c3, c2] w31 := S31
  refine W_v rfl rfl (V_pickT rfl (es rfl (et rfl)) (et rfl)) ?_
  refine W_v rfl rfl (V_asg rfl (et rfl)) ?_
  refine W_end (gen_Q fun A32 E32 => ?_)
  have Y32 := szq E32
  have F32 := fsE E32 (ck (cq2 (cq8 F29 rfl) rfl) rfl rfl)
  clear E32 Y29 F29
  have S33 : St w NoX [] w31 := S31.sel [] (by decide) rfl
  refine tk H30 ?_
  refine wp_ret ?_
  refine then_ret ?_
  refine ret_in (results_1 Try.results7 (rv_tmp (fg0 F32))) F32.d ?_
  exact ⟨rfl, S33.fin0⟩
 have hV := VL_iff.1 (show (rmP C N Z K Q X ns).2 = 0 by omega)
 have hcb := hV.cb
 refine W_v rfl (wanted_t rfl rfl (et rfl) (ez rfl)) (V_mov rfl (es3 rfl (fg2 F25))) ?_
 refine W_v rfl (wanted_t rfl rfl (es rfl (et rfl)) (ez rfl)) (V_neq rfl (et rfl) rfl) ?_
 refine W_v rfl rfl (V_pickF rfl (es2 rfl (et rfl)) (et rfl)) ?_
 refine W_sure (c' := false) rfl rfl (V_mov rfl (et rfl)) (by rw [decide_eq_false_iff_not]; rw [hV.ct]; simp) ?_
 refine W_v rfl (wanted_t rfl rfl (et rfl) (ez rfl)) (V_mov rfl (es7 rfl (fg0 F25))) ?_
 refine W_v rfl (wanted_t rfl rfl (es rfl (et rfl)) (ez rfl)) (V_neq rfl (et rfl) rfl) ?_
 refine W_v rfl rfl (V_pickF rfl (es2 rfl (et rfl)) (et rfl)) ?_
 refine W_end (gen_Q fun A34 E34 => ?_)
 have Y34 := szq E34
 have F34 := fsE E34 (ck (cq1 (cq8 F25 rfl) rfl) rfl rfl)
 clear E34 Y25 F25
 refine tk H27 ?_
 refine cond_dec (fg0 F34) (fun c35 => ?_) (fun c35 => ?_)
 ·refine wp_seq_k fun K36 H36 => ?_
  refine region_in ?_
  refine W_v rfl rfl (V_mov rfl (fg5 F34)) ?_
  refine W_v rfl rfl (V_eql rfl (et rfl) rfl) ?_
  refine W_sure (c' := true) rfl rfl (V_mov rfl (et rfl)) (by first | (simp [c28]; done) | exact decide_eq_true (by omega) | exact decide_eq_false (by omega)) ?_
  refine W_off rfl (wanted_f rfl rfl (et rfl) (ez rfl) rfl) ?_
  refine W_off rfl (wanted_f rfl rfl (es rfl (et rfl)) (ez rfl) rfl) ?_
  refine W_off rfl (wanted_f rfl rfl (es2 rfl (et rfl)) (ez rfl) rfl) ?_
  refine W_v rfl rfl (V_pickT rfl (es3 rfl (et rfl)) rfl) ?_
  refine W_v rfl rfl (V_mov rfl (et rfl)) ?_
  refine W_call rfl (wanted_t rfl rfl (et rfl) (ez rfl)) rfl Try.func10 (by kernel_rfl) rfl (args0) (lawk_c  ) ?_
  rintro _ w37 ⟨rfl, hP37⟩
  refine ⟨_, rfl, ?_⟩
  have S37 := S24.join hP37
  replace S37 : St w NoX [c24, c_22, cz_22, c3, c2] w37 := S37
  refine W_v rfl rfl (V_pickT rfl (es rfl (et rfl)) (et rfl)) ?_
  refine W_v rfl rfl (V_asg rfl (et rfl)) ?_
  refine W_end (gen_Q fun A38 E38 => ?_)
  have Y38 := szq E38
  have F38 := fsE E38 (ck (cq2 (cq8 F34 rfl) rfl) rfl rfl)
  clear E38 Y34 F34
  have S39 : St w NoX [] w37 := S37.sel [] (by decide) rfl
  refine tk H36 ?_
  refine wp_ret ?_
  refine then_ret ?_
  refine ret_in (results_1 Try.results7 (rv_tmp (fg0 F38))) F38.d ?_
  exact ⟨rfl, S39.fin0⟩
 obtain ⟨k1, k2, k3⟩ := bk_1 hV (show chE8 C N Z K Q X ns slot 0 a = 0 by omega)
 have hcY := (ch_VL hV (show chE8 C N Z K Q X ns slot 0 a = 0 by omega)).2.1.cb
 refine wp_skip ?_
 refine tk H26 ?_
 refine wp_seq_k fun K40 H40 => ?_
 refine region_in ?_
 refine W_r rfl rfl (VR_ldA rfl (fg2 F34) (S24.obj 0 rfl hc24) Try.underlying29 rfl (by kernel_rfl)) ?_
 refine W_call rfl rfl rfl Try.func15 (by kernel_rfl) rfl (args1 (et rfl)) (kCt8_c (S24.chC 1 rfl hc_22).rm (S24.chC 2 rfl hcz_22).own (by first | with_reducible assumption | omega | with_reducible exact nwX_len (by omega) | with_reducible exact chX_len (by omega) | with_reducible exact prX_len (by omega) | decide +kernel | (simp; omega))) ?_
 rintro _ w41 ⟨rfl, hP41⟩
 refine ⟨_, rfl, ?_⟩
 have S41 := S24.join hP41
 replace S41 : St w NoX [c24, c_22, cz_22, c3, c2] w41 := S41
 refine W_v rfl rfl (V_mov rfl (et rfl)) ?_
 refine W_v rfl rfl (V_ext (v := .int .i64 ((ctP ((chC C N Z K Q X ns slot 0 a) ++ [(chN C N Z K Q X ns slot 0 a)])).1)) rfl (et rfl) rfl) ?_
 refine W_v rfl rfl (V_ext (v := .int .i64 ((ctP ((chC C N Z K Q X ns slot 0 a) ++ [(chN C N Z K Q X ns slot 0 a)])).2)) rfl (es rfl (et rfl)) rfl) ?_
 refine W_v rfl rfl (V_asg rfl (es rfl (et rfl))) ?_
 refine W_v rfl rfl (V_asg rfl (es rfl (et rfl))) ?_
 refine W_end (gen_Q fun A42 E42 => ?_)
 have Y42 := szq E42
 have F42 := fsE E42 (ck (ck (cq5 (fx3 F34) rfl) rfl rfl) rfl rfl)
 clear E42 Y34 F34
 refine tk H40 ?_
 refine wp_seq_k fun K43 H43 => ?_
 refine region_in ?_
 refine W_v rfl rfl (V_fa (off' := 0) rfl (fg10 F42) Try.underlying31 rfl (by decide +kernel) rfl) ?_
 refine W_r rfl rfl (VR_ldP (ys := [.int .i64 (C), .int .i64 (N), .int .i64 (Z), .int .i64 (K), .int .i64 (Q)]) rfl (et rfl) (S41.obj 4 rfl hc2) (ldP_at rfl) Try.underlying23 rfl (by kernel_rfl)) ?_
 refine W_r rfl rfl (VR_ldA rfl (es2 rfl (fg4 F42)) (S41.obj 0 rfl hc24) Try.underlying29 rfl (by kernel_rfl)) ?_
 refine W_v rfl rfl (V_mov rfl (es3 rfl (fg8 F42))) ?_
 refine W_v rfl rfl (V_ixA (sz := 1) (off' := 0) 0 rfl (es4 rfl (fg9 F42)) rfl (by rfl) Try.underlying64 (by decide) (by kernel_rfl) rfl) ?_
 refine W_r rfl rfl (VR_ldC rfl (et rfl) (cell_box (v := .int .i64 (a)) (S41.obj 3 rfl hc3) rfl) Try.underlying3 rfl) ?_
 refine W_call rfl rfl rfl Try.func23 (by kernel_rfl) rfl (args4 (es4 rfl (et rfl)) (es3 rfl (et rfl)) (es2 rfl (et rfl)) (et rfl)) (kFor_c (C := C) (N := N) (Z := Z) (K := K) (Q := Q) (slot := slot) (old := a) (S41.chC 1 rfl hc_22).rm (S41.chC 2 rfl hcz_22).own ) ?_
 rintro _ w45 ⟨v_45, z_45, rfl, hP45⟩
 refine ⟨_, rfl, ?_⟩
 obtain ⟨c_45, cz_45, hc_45, hcz_45, hP45⟩ := gen2 hP45
 have S45 := S41.join hP45
 replace S45 : St w NoX [c_45, cz_45, c24, c_22, cz_22, c3, c2] w45 := S45
 refine W_v rfl rfl (V_mov rfl (et rfl)) ?_
 refine W_v rfl rfl (V_ext (v := .agg #[v_45, z_45]) rfl (et rfl) rfl) ?_
 refine W_v rfl rfl (V_ext (v := .int .i64 ((chE8 C N Z K Q (chC C N Z K Q X ns slot 0 a) (chN C N Z K Q X ns slot 0 a) slot a 0))) rfl (es rfl (et rfl)) rfl) ?_
 refine W_allocS (z := .agg #[.slice none 0 0, .slice none 0 0]) (zs := #[.slice none 0 0, .slice none 0 0]) S45 rfl rfl rfl (by kernel_rfl) (by rfl) (fun g46 w46 c46 hc46 S46 => ?_)
 replace S46 : St w NoX [c46, c_45, cz_45, c24, c_22, cz_22, c3, c2] w46 := S46
 refine W_stAS 0 S46 rfl hc46 rfl rfl rfl (et rfl) (es2 rfl (et rfl)) (by simp only [List.all_toArray, List.all_cons, List.all_nil, rmO_one (S46.chq 1 rfl hc_45), SlN_one (ow_at (S46.chq 2 rfl hcz_45))] <;> rfl) (by rfl) (by kernel_rfl) (fun w47 c47 hc47 S47 => ?_)
 replace S47 : St w NoX [c47, c_45, cz_45, c24, c_22, cz_22, c3, c2] w47 := S47
 refine W_v rfl rfl (V_asg rfl (es rfl (et rfl))) ?_
 refine W_end (gen_Q fun A48 E48 => ?_)
 have Y48 := szq E48
 have F48 := fsE E48 (ck (ck (cq2 (cq8 (fx3 F42) rfl) rfl) rfl rfl) rfl rfl)
 clear E48 Y42 F42
 refine tk H43 ?_
 refine wp_seq_k fun K49 H49 => ?_
 refine wp_seq_k fun K50 H50 => ?_
 refine region_in ?_
 refine W_v rfl rfl (V_mov rfl (fg2 F48)) ?_
 refine W_v rfl rfl (V_neq rfl (et rfl) rfl) ?_
 refine W_sure (c' := false) rfl rfl (V_mov rfl (et rfl)) (by rw [decide_eq_false_iff_not]; rw [k1]; simp) ?_
 refine W_v rfl (wanted_t rfl rfl (et rfl) (ez rfl)) (V_mov rfl (es3 rfl (fg0 F48))) ?_
 refine W_v rfl (wanted_t rfl rfl (es rfl (et rfl)) (ez rfl)) (V_neq rfl (et rfl) rfl) ?_
 refine W_v rfl rfl (V_pickF rfl (es2 rfl (et rfl)) (et rfl)) ?_
 refine W_sure (c' := false) rfl rfl (V_mov rfl (et rfl)) (by rw [decide_eq_false_iff_not]; rw [k2]; simp) ?_
 refine W_v rfl (wanted_t rfl rfl (et rfl) (ez rfl)) (V_mov rfl (es7 rfl (fg3 F48))) ?_
 refine W_v rfl (wanted_t rfl rfl (es rfl (et rfl)) (ez rfl)) (V_mov rfl (es8 rfl (fg6 F48))) ?_
 refine W_v rfl (wanted_t rfl rfl (es2 rfl (et rfl)) (ez rfl)) (V_neq rfl (es rfl (et rfl)) (et rfl)) ?_
 refine W_split rfl (wanted_t rfl rfl (es3 rfl (et rfl)) (ez rfl)) (V_mov rfl (et rfl)) (fun c51 => ?_) (fun c51 => ?_)
 ·refine W_v rfl (wanted_t rfl rfl (et rfl) (ez rfl)) (V_mov rfl (es8 rfl (es3 rfl (fg3 F48)))) ?_
  refine W_v rfl (wanted_t rfl rfl (es rfl (et rfl)) (ez rfl)) (V_mov rfl (es8 rfl (es4 rfl (fg6 F48)))) ?_
  refine W_v rfl (wanted_t rfl rfl (es2 rfl (et rfl)) (ez rfl)) (V_add rfl (et rfl) rfl (by omega) (by omega)) ?_
  refine W_v rfl (wanted_t rfl rfl (es3 rfl (et rfl)) (ez rfl)) (V_neq rfl (es2 rfl (et rfl)) (et rfl)) ?_
  refine W_v rfl (wanted_t rfl rfl (es8 rfl (et rfl)) (ez rfl)) (V_pickT rfl (es4 rfl (et rfl)) (et rfl)) ?_
  refine W_v rfl rfl (V_pickF rfl (es8 rfl (es rfl (et rfl))) (et rfl)) ?_
  refine W_sure (c' := false) rfl rfl (V_mov rfl (et rfl)) (by rw [decide_eq_false_iff_not]; rcases k3 with q | ⟨q, _⟩ <;> omega) ?_
  refine W_v rfl (wanted_t rfl rfl (et rfl) (ez rfl)) (V_mov rfl (es8 rfl (es8 rfl (es2 rfl (fg3 F48))))) ?_
  refine W_v rfl (wanted_t rfl rfl (es rfl (et rfl)) (ez rfl)) (V_mov rfl (es8 rfl (es8 rfl (es3 rfl (fg6 F48))))) ?_
  refine W_v rfl (wanted_t rfl rfl (es2 rfl (et rfl)) (ez rfl)) (V_add rfl (et rfl) rfl (by omega) (by omega)) ?_
  refine W_v rfl (wanted_t rfl rfl (es3 rfl (et rfl)) (ez rfl)) (V_eql rfl (es2 rfl (et rfl)) (et rfl)) ?_
  refine W_sure (c' := true) rfl (wanted_t rfl rfl (es4 rfl (et rfl)) (ez rfl)) (V_mov rfl (et rfl)) (by rw [decide_eq_true_eq]; exact (k3.resolve_left (by omega)).1) ?_
  refine W_r rfl (wanted_t rfl rfl (et rfl) (ez rfl)) (VR_ldA rfl (es8 rfl (es8 rfl (es7 rfl (fg1 F48)))) (S47.obj 0 rfl hc47) Try.underlying29 rfl (by kernel_rfl)) ?_
  refine W_v rfl (wanted_t rfl rfl (es rfl (et rfl)) (ez rfl)) (V_fa (off' := 5) rfl (es8 rfl (es8 rfl (es8 rfl (fg11 F48)))) Try.underlying31 rfl (by decide +kernel) rfl) ?_
  refine W_r rfl (wanted_t rfl rfl (es2 rfl (et rfl)) (ez rfl)) (VR_ldP (ys := [cv, nv]) rfl (et rfl) (S47.obj 7 rfl hc2) (ldP_at rfl) Try.underlying29 rfl (by kernel_rfl)) ?_
  refine W_call rfl (wanted_t rfl rfl (es3 rfl (et rfl)) (ez rfl)) rfl Try.func17 (by kernel_rfl) rfl (args2 (es2 rfl (et rfl)) (et rfl)) (kSm8_c (S47.chC 1 rfl hc_45).rm (S47.chC 2 rfl hcz_45).own (S47.roC h_cv) (S47.roC h_nv) ) ?_
  rintro _ w52 ⟨rfl, hP52⟩
  refine ⟨_, rfl, ?_⟩
  have S52 := S47.join hP52
  replace S52 : St w NoX [c47, c_45, cz_45, c24, c_22, cz_22, c3, c2] w52 := S52
  refine W_v rfl (wanted_t rfl rfl (es4 rfl (et rfl)) (ez rfl)) (V_not rfl (et rfl)) ?_
  refine W_v rfl (wanted_t rfl rfl (es8 rfl (es2 rfl (et rfl))) (ez rfl)) (V_pickT rfl (es5 rfl (et rfl)) (et rfl)) ?_
  refine W_v rfl rfl (V_pickF rfl (es8 rfl (es3 rfl (et rfl))) (et rfl)) ?_
  refine W_end (gen_Q fun A53 E53 => ?_)
  have Y53 := szq E53
  have F53 := fsE E53 (ck (cq5 (cq8 (cq8 (cq8 F48 rfl) rfl) rfl) rfl) rfl rfl)
  clear E53 Y48 F48
  have S54 : St w NoX [c24, c_22, cz_22, c3, c2] w52 := S52.sel [3, 4, 5, 6, 7] (by decide) rfl
  refine tk H50 ?_
  refine cond_not (fg0 F53) (by rw [(k3.resolve_left (by omega)).2]; rfl) ?_
  refine wp_skip ?_
  refine tk H49 ?_
  refine wp_seq_k fun K55 H55 => ?_
  refine region_in ?_
  refine W_v rfl rfl (V_fa (off' := 0) rfl (fg12 F53) Try.underlying31 rfl (by decide +kernel) rfl) ?_
  refine W_r rfl rfl (VR_ldP (ys := [.int .i64 (C), .int .i64 (N), .int .i64 (Z), .int .i64 (K), .int .i64 (Q)]) rfl (et rfl) (S54.obj 4 rfl hc2) (ldP_at rfl) Try.underlying23 rfl (by kernel_rfl)) ?_
  refine W_r rfl rfl (VR_ldA rfl (es2 rfl (fg6 F53)) (S54.obj 0 rfl hc24) Try.underlying29 rfl (by kernel_rfl)) ?_
  refine W_v rfl rfl (V_mov rfl (es3 rfl (fg10 F53))) ?_
  refine W_v rfl rfl (V_ixA (sz := 1) (off' := 0) 0 rfl (es4 rfl (fg11 F53)) rfl (by rfl) Try.underlying64 (by decide) (by kernel_rfl) rfl) ?_
  refine W_r rfl rfl (VR_ldC rfl (et rfl) (cell_box (v := .int .i64 (a)) (S54.obj 3 rfl hc3) rfl) Try.underlying3 rfl) ?_
  refine W_v rfl rfl (V_ixA (sz := 1) (off' := 1) 1 rfl (es6 rfl (fg11 F53)) rfl (by rfl) Try.underlying64 (by decide) (by kernel_rfl) rfl) ?_
  refine W_r rfl rfl (VR_ldC rfl (et rfl) (cell_box (v := .int .i64 (b)) (S54.obj 3 rfl hc3) rfl) Try.underlying3 rfl) ?_
  refine W_call rfl rfl rfl Try.func29 (by kernel_rfl) rfl (args5 (es6 rfl (et rfl)) (es5 rfl (et rfl)) (es4 rfl (et rfl)) (es2 rfl (et rfl)) (et rfl)) (kSto_c (C := C) (N := N) (Z := Z) (K := K) (Q := Q) (slot := slot) (old := a) (now := b) (S54.chC 1 rfl hc_22).rm (S54.chC 2 rfl hcz_22).own ) ?_
  rintro _ w58 ⟨v_58, z_58, rfl, hP58⟩
  refine ⟨_, rfl, ?_⟩
  obtain ⟨c_58, cz_58, hc_58, hcz_58, hP58⟩ := gen2 hP58
  have S58 := S54.join hP58
  replace S58 : St w NoX [c_58, cz_58, c24, c_22, cz_22, c3, c2] w58 := S58
  refine W_v rfl rfl (V_mov rfl (et rfl)) ?_
  refine W_v rfl rfl (V_ext (v := .agg #[v_58, z_58]) rfl (et rfl) rfl) ?_
  refine W_v rfl rfl (V_ext (v := .int .i64 ((chE8 C N Z K Q (chC C N Z K Q X ns slot 0 a) (chN C N Z K Q X ns slot 0 a) slot a b))) rfl (es rfl (et rfl)) rfl) ?_
  refine W_allocS (z := .agg #[.slice none 0 0, .slice none 0 0]) (zs := #[.slice none 0 0, .slice none 0 0]) S58 rfl rfl rfl (by kernel_rfl) (by rfl) (fun g59 w59 c59 hc59 S59 => ?_)
  replace S59 : St w NoX [c59, c_58, cz_58, c24, c_22, cz_22, c3, c2] w59 := S59
  refine W_stAS 0 S59 rfl hc59 rfl rfl rfl (et rfl) (es2 rfl (et rfl)) (by simp only [List.all_toArray, List.all_cons, List.all_nil, rmO_one (S59.chq 1 rfl hc_58), SlN_one (ow_at (S59.chq 2 rfl hcz_58))] <;> rfl) (by rfl) (by kernel_rfl) (fun w60 c60 hc60 S60 => ?_)
  replace S60 : St w NoX [c60, c_58, cz_58, c24, c_22, cz_22, c3, c2] w60 := S60
  refine W_v rfl rfl (V_asg rfl (es rfl (et rfl))) ?_
  refine W_end (gen_Q fun A61 E61 => ?_)
  have Y61 := szq E61
  have F61 := fsE E61 (ck (ck (cq4 (cq8 (fx8 F53) rfl) rfl) rfl rfl) rfl rfl)
  clear E61 Y53 F53
  refine tk H55 ?_
  refine wp_seq_k fun K62 H62 => ?_
  refine wp_seq_k fun K63 H63 => ?_
  refine region_in ?_
  refine W_v rfl rfl (V_mov rfl (fg0 F61)) ?_
  refine W_v rfl rfl (V_neq rfl (et rfl) rfl) ?_
  refine W_end (gen_Q fun A64 E64 => ?_)
  have Y64 := szq E64
  have F64 := fsE E64 (ck (cq1 F61 rfl) rfl rfl)
  clear E64 Y61 F61
  refine tk H63 ?_
  refine cond_dec (fg0 F64) (fun c65 => ?_) (fun c65 => ?_)
  ·refine wp_seq_k fun K66 H66 => ?_
   refine region_in ?_
   refine W_call rfl rfl rfl Try.func10 (by kernel_rfl) rfl (args0) (lawk_c  ) ?_
   rintro _ w67 ⟨rfl, hP67⟩
   refine ⟨_, rfl, ?_⟩
   have S67 := S60.join hP67
   replace S67 : St w NoX [c60, c_58, cz_58, c24, c_22, cz_22, c3, c2] w67 := S67
   refine W_v rfl rfl (V_asg rfl (et rfl)) ?_
   refine W_end (gen_Q fun A68 E68 => ?_)
   have Y68 := szq E68
   have F68 := fsE E68 (ck (cq1 F64 rfl) rfl rfl)
   clear E68 Y64 F64
   have S69 : St w NoX [] w67 := S67.sel [] (by decide) rfl
   refine tk H66 ?_
   refine wp_ret ?_
   refine then_ret ?_
   refine ret_in (results_1 Try.results7 (rv_tmp (fg0 F68))) F68.d ?_
   exact ⟨rfl, S69.fin0⟩
  obtain ⟨m1, m2⟩ := bk_2 hV (show chE8 C N Z K Q X ns slot 0 a = 0 by omega) (show chE8 C N Z K Q (chC C N Z K Q X ns slot 0 a) (chN C N Z K Q X ns slot 0 a) slot a b = 0 by omega)
  refine wp_skip ?_
  refine tk H62 ?_
  refine wp_seq_k fun K70 H70 => ?_
  refine region_in ?_
  refine W_v rfl rfl (V_fa (off' := 0) rfl (fg14 F64) Try.underlying31 rfl (by decide +kernel) rfl) ?_
  refine W_r rfl rfl (VR_ldP (ys := [.int .i64 (C), .int .i64 (N), .int .i64 (Z), .int .i64 (K), .int .i64 (Q)]) rfl (et rfl) (S60.obj 7 rfl hc2) (ldP_at rfl) Try.underlying23 rfl (by kernel_rfl)) ?_
  refine W_r rfl rfl (VR_ldA rfl (es2 rfl (fg2 F64)) (S60.obj 0 rfl hc60) Try.underlying29 rfl (by kernel_rfl)) ?_
  refine W_v rfl rfl (V_mov rfl (es3 rfl (fg12 F64))) ?_
  refine W_v rfl rfl (V_ixA (sz := 1) (off' := 1) 1 rfl (es4 rfl (fg13 F64)) rfl (by rfl) Try.underlying64 (by decide) (by kernel_rfl) rfl) ?_
  refine W_r rfl rfl (VR_ldC rfl (et rfl) (cell_box (v := .int .i64 (b)) (S60.obj 6 rfl hc3) rfl) Try.underlying3 rfl) ?_
  refine W_v rfl rfl (V_ixA (sz := 1) (off' := 0) 0 rfl (es6 rfl (fg13 F64)) rfl (by rfl) Try.underlying64 (by decide) (by kernel_rfl) rfl) ?_
  refine W_r rfl rfl (VR_ldC rfl (et rfl) (cell_box (v := .int .i64 (a)) (S60.obj 6 rfl hc3) rfl) Try.underlying3 rfl) ?_
  refine W_call rfl rfl rfl Try.func29 (by kernel_rfl) rfl (args5 (es6 rfl (et rfl)) (es5 rfl (et rfl)) (es4 rfl (et rfl)) (es2 rfl (et rfl)) (et rfl)) (kSto_c (C := C) (N := N) (Z := Z) (K := K) (Q := Q) (slot := slot) (old := b) (now := a) (S60.chC 1 rfl hc_58).rm (S60.chC 2 rfl hcz_58).own ) ?_
  rintro _ w73 ⟨v_73, z_73, rfl, hP73⟩
  refine ⟨_, rfl, ?_⟩
  obtain ⟨c_73, cz_73, hc_73, hcz_73, hP73⟩ := gen2 hP73
  have S73 := S60.join hP73
  replace S73 : St w NoX [c_73, cz_73, c60, c_58, cz_58, c24, c_22, cz_22, c3, c2] w73 := S73
  refine W_v rfl rfl (V_mov rfl (et rfl)) ?_
  refine W_v rfl rfl (V_ext (v := .agg #[v_73, z_73]) rfl (et rfl) rfl) ?_
  refine W_v rfl rfl (V_ext (v := .int .i64 ((chE8 C N Z K Q (chC C N Z K Q (chC C N Z K Q X ns slot 0 a) (chN C N Z K Q X ns slot 0 a) slot a b) (chN C N Z K Q (chC C N Z K Q X ns slot 0 a) (chN C N Z K Q X ns slot 0 a) slot a b) slot b a))) rfl (es rfl (et rfl)) rfl) ?_
  refine W_allocS (z := .agg #[.slice none 0 0, .slice none 0 0]) (zs := #[.slice none 0 0, .slice none 0 0]) S73 rfl rfl rfl (by kernel_rfl) (by rfl) (fun g74 w74 c74 hc74 S74 => ?_)
  replace S74 : St w NoX [c74, c_73, cz_73, c60, c_58, cz_58, c24, c_22, cz_22, c3, c2] w74 := S74
  refine W_stAS 0 S74 rfl hc74 rfl rfl rfl (et rfl) (es2 rfl (et rfl)) (by simp only [List.all_toArray, List.all_cons, List.all_nil, rmO_one (S74.chq 1 rfl hc_73), SlN_one (ow_at (S74.chq 2 rfl hcz_73))] <;> rfl) (by rfl) (by kernel_rfl) (fun w75 c75 hc75 S75 => ?_)
  replace S75 : St w NoX [c75, c_73, cz_73, c60, c_58, cz_58, c24, c_22, cz_22, c3, c2] w75 := S75
  refine W_v rfl rfl (V_asg rfl (es rfl (et rfl))) ?_
  refine W_end (gen_Q fun A76 E76 => ?_)
  have Y76 := szq E76
  have F76 := fsE E76 (ck (ck (cq4 (cq8 (fx6 F64) rfl) rfl) rfl rfl) rfl rfl)
  clear E76 Y64 F64
  have S77 : St w NoX [c75, c_73, cz_73, c24, c_22, cz_22, c2] w75 := S75.sel [0, 1, 2, 6, 7, 8, 10] (by decide) rfl
  refine tk H70 ?_
  refine wp_seq_k fun K78 H78 => ?_
  refine region_in ?_
  refine W_v rfl rfl (V_mov rfl (fg0 F76)) ?_
  refine W_v rfl rfl (V_eql rfl (et rfl) rfl) ?_
  refine W_sure (c' := true) rfl rfl (V_mov rfl (et rfl)) (by rw [decide_eq_true_eq]; exact m1) ?_
  refine W_v rfl (wanted_t rfl rfl (et rfl) (ez rfl)) (V_fa (off' := 5) rfl (es3 rfl (fg15 F76)) Try.underlying31 rfl (by decide +kernel) rfl) ?_
  refine W_r rfl (wanted_t rfl rfl (es rfl (et rfl)) (ez rfl)) (VR_ldP (ys := [cv, nv]) rfl (et rfl) (S77.obj 6 rfl hc2) (ldP_at rfl) Try.underlying29 rfl (by kernel_rfl)) ?_
  refine W_v rfl (wanted_t rfl rfl (es2 rfl (et rfl)) (ez rfl)) (V_mov rfl (es5 rfl (fg13 F76))) ?_
  refine W_call rfl (wanted_t rfl rfl (es3 rfl (et rfl)) (ez rfl)) rfl Try.func32 (by kernel_rfl) rfl (args2 (es rfl (et rfl)) (et rfl)) (lhas_c (a := slot) (S77.roC h_cv) (S77.roC h_nv) (by first | with_reducible assumption | omega | with_reducible exact nwX_len (by omega) | with_reducible exact chX_len (by omega) | with_reducible exact prX_len (by omega) | decide +kernel | (simp; omega))) ?_
  rintro _ w79 ⟨rfl, hP79⟩
  refine ⟨_, rfl, ?_⟩
  have S79 := S77.join hP79
  replace S79 : St w NoX [c75, c_73, cz_73, c24, c_22, cz_22, c2] w79 := S79
  refine W_splitB rfl (wanted_t rfl rfl (es4 rfl (et rfl)) (ez rfl)) (V_mov rfl (et rfl)) (fun c80 => ?_) (fun c80 => ?_)
  ·refine W_off rfl (wanted_f rfl rfl (et rfl) (ez rfl) rfl) ?_
   refine W_off rfl (wanted_f rfl rfl (es rfl (et rfl)) (ez rfl) rfl) ?_
   refine W_off rfl (wanted_f rfl rfl (es2 rfl (et rfl)) (ez rfl) rfl) ?_
   refine W_v rfl (wanted_t rfl rfl (es8 rfl (et rfl)) (ez rfl)) (V_pickT rfl (es3 rfl (et rfl)) rfl) ?_
   refine W_v rfl rfl (V_pickT rfl (es8 rfl (es rfl (et rfl))) (et rfl)) ?_
   refine W_v rfl rfl (V_mov rfl (et rfl)) ?_
   refine W_call rfl (wanted_t rfl rfl (et rfl) (ez rfl)) rfl Try.func10 (by kernel_rfl) rfl (args0) (lawk_c  ) ?_
   rintro _ w81 ⟨rfl, hP81⟩
   refine ⟨_, rfl, ?_⟩
   have S81 := S79.join hP81
   replace S81 : St w NoX [c75, c_73, cz_73, c24, c_22, cz_22, c2] w81 := S81
   refine W_v rfl rfl (V_pickT rfl (es rfl (et rfl)) (et rfl)) ?_
   refine W_v rfl rfl (V_asg rfl (et rfl)) ?_
   refine W_end (gen_Q fun A82 E82 => ?_)
   have Y82 := szq E82
   have F82 := fsE E82 (ck (cq8 (cq8 F76 rfl) rfl) rfl rfl)
   clear E82 Y76 F76
   have S83 : St w NoX [] w81 := S81.sel [] (by decide) rfl
   refine tk H78 ?_
   refine wp_ret ?_
   refine ret_in (results_1 Try.results7 (rv_tmp (fg0 F82))) F82.d ?_
   exact ⟨rfl, S83.fin0⟩
  refine W_r rfl (wanted_t rfl rfl (et rfl) (ez rfl)) (VR_ldA rfl (es8 rfl (fg1 F76)) (S79.obj 0 rfl hc75) Try.underlying29 rfl (by kernel_rfl)) ?_
  refine W_r rfl (wanted_t rfl rfl (es rfl (et rfl)) (ez rfl)) (VR_ldA rfl (es8 rfl (es rfl (fg10 F76))) (S79.obj 3 rfl hc24) Try.underlying29 rfl (by kernel_rfl)) ?_
  refine W_call rfl (wanted_t rfl rfl (es2 rfl (et rfl)) (ez rfl)) rfl Try.func17 (by kernel_rfl) rfl (args2 (es rfl (et rfl)) (et rfl)) (kSm8_c (S79.chC 1 rfl hc_73).rm (S79.chC 2 rfl hcz_73).own (S79.chC 4 rfl hc_22).rm (S79.chC 5 rfl hcz_22).own ) ?_
  rintro _ w84 ⟨rfl, hP84⟩
  refine ⟨_, rfl, ?_⟩
  have S84 := S79.join hP84
  replace S84 : St w NoX [c75, c_73, cz_73, c24, c_22, cz_22, c2] w84 := S84
  refine W_v rfl (wanted_t rfl rfl (es8 rfl (et rfl)) (ez rfl)) (V_pickF rfl (es3 rfl (et rfl)) (et rfl)) ?_
  refine W_v rfl rfl (V_pickT rfl (es8 rfl (es rfl (et rfl))) (et rfl)) ?_
  refine W_sure (c' := true) rfl rfl (V_mov rfl (et rfl)) (m2 (by simpa using c80)) ?_
  refine W_call rfl (wanted_t rfl rfl (et rfl) (ez rfl)) rfl Try.func10 (by kernel_rfl) rfl (args0) (lawk_c  ) ?_
  rintro _ w85 ⟨rfl, hP85⟩
  refine ⟨_, rfl, ?_⟩
  have S85 := S84.join hP85
  replace S85 : St w NoX [c75, c_73, cz_73, c24, c_22, cz_22, c2] w85 := S85
  refine W_v rfl rfl (V_pickT rfl (es rfl (et rfl)) (et rfl)) ?_
  refine W_v rfl rfl (V_asg rfl (et rfl)) ?_
  refine W_end (gen_Q fun A86 E86 => ?_)
  have Y86 := szq E86
  have F86 := fsE E86 (ck (cq8 (cq8 F76 rfl) rfl) rfl rfl)
  clear E86 Y76 F76
  have S87 : St w NoX [] w85 := S85.sel [] (by decide) rfl
  refine tk H78 ?_
  refine wp_ret ?_
  refine ret_in (results_1 Try.results7 (rv_tmp (fg0 F86))) F86.d ?_
  exact ⟨rfl, S87.fin0⟩
 refine W_off rfl (wanted_f rfl rfl (et rfl) (ez rfl) rfl) ?_
 refine W_off rfl (wanted_f rfl rfl (es rfl (et rfl)) (ez rfl) rfl) ?_
 refine W_off rfl (wanted_f rfl rfl (es2 rfl (et rfl)) (ez rfl) rfl) ?_
 refine W_off rfl (wanted_f rfl rfl (es3 rfl (et rfl)) (ez rfl) rfl) ?_
 refine W_v rfl (wanted_t rfl rfl (es8 rfl (et rfl)) (ez rfl)) (V_pickF rfl (es4 rfl (et rfl)) rfl) ?_
 refine W_v rfl rfl (V_pickF rfl (es8 rfl (es rfl (et rfl))) (et rfl)) ?_
 refine W_v rfl rfl (V_mov rfl (et rfl)) ?_
 refine W_v rfl (wanted_t rfl rfl (et rfl) (ez rfl)) (V_mov rfl (es8 rfl (es8 rfl (es2 rfl (fg3 F48))))) ?_
 refine W_v rfl (wanted_t rfl rfl (es rfl (et rfl)) (ez rfl)) (V_mov rfl (es8 rfl (es8 rfl (es3 rfl (fg6 F48))))) ?_
 refine W_v rfl (wanted_t rfl rfl (es2 rfl (et rfl)) (ez rfl)) (V_add rfl (et rfl) rfl (by omega) (by omega)) ?_
 refine W_v rfl (wanted_t rfl rfl (es3 rfl (et rfl)) (ez rfl)) (V_eql rfl (es2 rfl (et rfl)) (et rfl)) ?_
 refine W_sure (c' := false) rfl (wanted_t rfl rfl (es4 rfl (et rfl)) (ez rfl)) (V_mov rfl (et rfl)) (by rw [decide_eq_false_iff_not]; omega) ?_
 refine W_off rfl (wanted_f rfl rfl (et rfl) (ez rfl) rfl) ?_
 refine W_off rfl (wanted_f rfl rfl (es rfl (et rfl)) (ez rfl) rfl) ?_
 refine W_off rfl (wanted_f rfl rfl (es2 rfl (et rfl)) (ez rfl) rfl) ?_
 refine W_off rfl (wanted_f rfl rfl (es3 rfl (et rfl)) (ez rfl) rfl) ?_
 refine W_off rfl (wanted_f rfl rfl (es4 rfl (et rfl)) (ez rfl) rfl) ?_
 refine W_v rfl (wanted_t rfl rfl (es8 rfl (es2 rfl (et rfl))) (ez rfl)) (V_pickF rfl (es5 rfl (et rfl)) rfl) ?_
 refine W_v rfl rfl (V_pickF rfl (es8 rfl (es3 rfl (et rfl))) (et rfl)) ?_
 refine W_end (gen_Q fun A88 E88 => ?_)
 have Y88 := szq E88
 have F88 := fsE E88 (ck (cq5 (cq8 (cq8 (cq8 F48 rfl) rfl) rfl) rfl) rfl rfl)
 clear E88 Y48 F48
 have S89 : St w NoX [c24, c_22, cz_22, c3, c2] w47 := S47.sel [3, 4, 5, 6, 7] (by decide) rfl
 refine tk H50 ?_
 refine cond_f (fg0 F88) ?_
 refine wp_skip ?_
 refine tk H49 ?_
 refine wp_seq_k fun K90 H90 => ?_
 refine region_in ?_
 refine W_v rfl rfl (V_fa (off' := 0) rfl (fg12 F88) Try.underlying31 rfl (by decide +kernel) rfl) ?_
 refine W_r rfl rfl (VR_ldP (ys := [.int .i64 (C), .int .i64 (N), .int .i64 (Z), .int .i64 (K), .int .i64 (Q)]) rfl (et rfl) (S89.obj 4 rfl hc2) (ldP_at rfl) Try.underlying23 rfl (by kernel_rfl)) ?_
 refine W_r rfl rfl (VR_ldA rfl (es2 rfl (fg6 F88)) (S89.obj 0 rfl hc24) Try.underlying29 rfl (by kernel_rfl)) ?_
 refine W_v rfl rfl (V_mov rfl (es3 rfl (fg10 F88))) ?_
 refine W_v rfl rfl (V_ixA (sz := 1) (off' := 0) 0 rfl (es4 rfl (fg11 F88)) rfl (by rfl) Try.underlying64 (by decide) (by kernel_rfl) rfl) ?_
 refine W_r rfl rfl (VR_ldC rfl (et rfl) (cell_box (v := .int .i64 (a)) (S89.obj 3 rfl hc3) rfl) Try.underlying3 rfl) ?_
 refine W_v rfl rfl (V_ixA (sz := 1) (off' := 1) 1 rfl (es6 rfl (fg11 F88)) rfl (by rfl) Try.underlying64 (by decide) (by kernel_rfl) rfl) ?_
 refine W_r rfl rfl (VR_ldC rfl (et rfl) (cell_box (v := .int .i64 (b)) (S89.obj 3 rfl hc3) rfl) Try.underlying3 rfl) ?_
 refine W_call rfl rfl rfl Try.func29 (by kernel_rfl) rfl (args5 (es6 rfl (et rfl)) (es5 rfl (et rfl)) (es4 rfl (et rfl)) (es2 rfl (et rfl)) (et rfl)) (kSto_c (C := C) (N := N) (Z := Z) (K := K) (Q := Q) (slot := slot) (old := a) (now := b) (S89.chC 1 rfl hc_22).rm (S89.chC 2 rfl hcz_22).own ) ?_
 rintro _ w93 ⟨v_93, z_93, rfl, hP93⟩
 refine ⟨_, rfl, ?_⟩
 obtain ⟨c_93, cz_93, hc_93, hcz_93, hP93⟩ := gen2 hP93
 have S93 := S89.join hP93
 replace S93 : St w NoX [c_93, cz_93, c24, c_22, cz_22, c3, c2] w93 := S93
 refine W_v rfl rfl (V_mov rfl (et rfl)) ?_
 refine W_v rfl rfl (V_ext (v := .agg #[v_93, z_93]) rfl (et rfl) rfl) ?_
 refine W_v rfl rfl (V_ext (v := .int .i64 ((chE8 C N Z K Q (chC C N Z K Q X ns slot 0 a) (chN C N Z K Q X ns slot 0 a) slot a b))) rfl (es rfl (et rfl)) rfl) ?_
 refine W_allocS (z := .agg #[.slice none 0 0, .slice none 0 0]) (zs := #[.slice none 0 0, .slice none 0 0]) S93 rfl rfl rfl (by kernel_rfl) (by rfl) (fun g94 w94 c94 hc94 S94 => ?_)
 replace S94 : St w NoX [c94, c_93, cz_93, c24, c_22, cz_22, c3, c2] w94 := S94
 refine W_stAS 0 S94 rfl hc94 rfl rfl rfl (et rfl) (es2 rfl (et rfl)) (by simp only [List.all_toArray, List.all_cons, List.all_nil, rmO_one (S94.chq 1 rfl hc_93), SlN_one (ow_at (S94.chq 2 rfl hcz_93))] <;> rfl) (by rfl) (by kernel_rfl) (fun w95 c95 hc95 S95 => ?_)
 replace S95 : St w NoX [c95, c_93, cz_93, c24, c_22, cz_22, c3, c2] w95 := S95
 refine W_v rfl rfl (V_asg rfl (es rfl (et rfl))) ?_
 refine W_end (gen_Q fun A96 E96 => ?_)
 have Y96 := szq E96
 have F96 := fsE E96 (ck (ck (cq4 (cq8 (fx8 F88) rfl) rfl) rfl rfl) rfl rfl)
 clear E96 Y88 F88
 refine tk H90 ?_
 refine wp_seq_k fun K97 H97 => ?_
 refine wp_seq_k fun K98 H98 => ?_
 refine region_in ?_
 refine W_v rfl rfl (V_mov rfl (fg0 F96)) ?_
 refine W_v rfl rfl (V_neq rfl (et rfl) rfl) ?_
 refine W_end (gen_Q fun A99 E99 => ?_)
 have Y99 := szq E99
 have F99 := fsE E99 (ck (cq1 F96 rfl) rfl rfl)
 clear E99 Y96 F96
 refine tk H98 ?_
 refine cond_dec (fg0 F99) (fun c100 => ?_) (fun c100 => ?_)
 ·refine wp_seq_k fun K101 H101 => ?_
  refine region_in ?_
  refine W_call rfl rfl rfl Try.func10 (by kernel_rfl) rfl (args0) (lawk_c  ) ?_
  rintro _ w102 ⟨rfl, hP102⟩
  refine ⟨_, rfl, ?_⟩
  have S102 := S95.join hP102
  replace S102 : St w NoX [c95, c_93, cz_93, c24, c_22, cz_22, c3, c2] w102 := S102
  refine W_v rfl rfl (V_asg rfl (et rfl)) ?_
  refine W_end (gen_Q fun A103 E103 => ?_)
  have Y103 := szq E103
  have F103 := fsE E103 (ck (cq1 F99 rfl) rfl rfl)
  clear E103 Y99 F99
  have S104 : St w NoX [] w102 := S102.sel [] (by decide) rfl
  refine tk H101 ?_
  refine wp_ret ?_
  refine then_ret ?_
  refine ret_in (results_1 Try.results7 (rv_tmp (fg0 F103))) F103.d ?_
  exact ⟨rfl, S104.fin0⟩
 obtain ⟨m1, m2⟩ := bk_2 hV (show chE8 C N Z K Q X ns slot 0 a = 0 by omega) (show chE8 C N Z K Q (chC C N Z K Q X ns slot 0 a) (chN C N Z K Q X ns slot 0 a) slot a b = 0 by omega)
 refine wp_skip ?_
 refine tk H97 ?_
 refine wp_seq_k fun K105 H105 => ?_
 refine region_in ?_
 refine W_v rfl rfl (V_fa (off' := 0) rfl (fg14 F99) Try.underlying31 rfl (by decide +kernel) rfl) ?_
 refine W_r rfl rfl (VR_ldP (ys := [.int .i64 (C), .int .i64 (N), .int .i64 (Z), .int .i64 (K), .int .i64 (Q)]) rfl (et rfl) (S95.obj 7 rfl hc2) (ldP_at rfl) Try.underlying23 rfl (by kernel_rfl)) ?_
 refine W_r rfl rfl (VR_ldA rfl (es2 rfl (fg2 F99)) (S95.obj 0 rfl hc95) Try.underlying29 rfl (by kernel_rfl)) ?_
 refine W_v rfl rfl (V_mov rfl (es3 rfl (fg12 F99))) ?_
 refine W_v rfl rfl (V_ixA (sz := 1) (off' := 1) 1 rfl (es4 rfl (fg13 F99)) rfl (by rfl) Try.underlying64 (by decide) (by kernel_rfl) rfl) ?_
 refine W_r rfl rfl (VR_ldC rfl (et rfl) (cell_box (v := .int .i64 (b)) (S95.obj 6 rfl hc3) rfl) Try.underlying3 rfl) ?_
 refine W_v rfl rfl (V_ixA (sz := 1) (off' := 0) 0 rfl (es6 rfl (fg13 F99)) rfl (by rfl) Try.underlying64 (by decide) (by kernel_rfl) rfl) ?_
 refine W_r rfl rfl (VR_ldC rfl (et rfl) (cell_box (v := .int .i64 (a)) (S95.obj 6 rfl hc3) rfl) Try.underlying3 rfl) ?_
 refine W_call rfl rfl rfl Try.func29 (by kernel_rfl) rfl (args5 (es6 rfl (et rfl)) (es5 rfl (et rfl)) (es4 rfl (et rfl)) (es2 rfl (et rfl)) (et rfl)) (kSto_c (C := C) (N := N) (Z := Z) (K := K) (Q := Q) (slot := slot) (old := b) (now := a) (S95.chC 1 rfl hc_93).rm (S95.chC 2 rfl hcz_93).own ) ?_
 rintro _ w108 ⟨v_108, z_108, rfl, hP108⟩
 refine ⟨_, rfl, ?_⟩
 obtain ⟨c_108, cz_108, hc_108, hcz_108, hP108⟩ := gen2 hP108
 have S108 := S95.join hP108
 replace S108 : St w NoX [c_108, cz_108, c95, c_93, cz_93, c24, c_22, cz_22, c3, c2] w108 := S108
 refine W_v rfl rfl (V_mov rfl (et rfl)) ?_
 refine W_v rfl rfl (V_ext (v := .agg #[v_108, z_108]) rfl (et rfl) rfl) ?_
 refine W_v rfl rfl (V_ext (v := .int .i64 ((chE8 C N Z K Q (chC C N Z K Q (chC C N Z K Q X ns slot 0 a) (chN C N Z K Q X ns slot 0 a) slot a b) (chN C N Z K Q (chC C N Z K Q X ns slot 0 a) (chN C N Z K Q X ns slot 0 a) slot a b) slot b a))) rfl (es rfl (et rfl)) rfl) ?_
 refine W_allocS (z := .agg #[.slice none 0 0, .slice none 0 0]) (zs := #[.slice none 0 0, .slice none 0 0]) S108 rfl rfl rfl (by kernel_rfl) (by rfl) (fun g109 w109 c109 hc109 S109 => ?_)
 replace S109 : St w NoX [c109, c_108, cz_108, c95, c_93, cz_93, c24, c_22, cz_22, c3, c2] w109 := S109
 refine W_stAS 0 S109 rfl hc109 rfl rfl rfl (et rfl) (es2 rfl (et rfl)) (by simp only [List.all_toArray, List.all_cons, List.all_nil, rmO_one (S109.chq 1 rfl hc_108), SlN_one (ow_at (S109.chq 2 rfl hcz_108))] <;> rfl) (by rfl) (by kernel_rfl) (fun w110 c110 hc110 S110 => ?_)
 replace S110 : St w NoX [c110, c_108, cz_108, c95, c_93, cz_93, c24, c_22, cz_22, c3, c2] w110 := S110
 refine W_v rfl rfl (V_asg rfl (es rfl (et rfl))) ?_
 refine W_end (gen_Q fun A111 E111 => ?_)
 have Y111 := szq E111
 have F111 := fsE E111 (ck (ck (cq4 (cq8 (fx6 F99) rfl) rfl) rfl rfl) rfl rfl)
 clear E111 Y99 F99
 have S112 : St w NoX [c110, c_108, cz_108, c24, c_22, cz_22, c2] w110 := S110.sel [0, 1, 2, 6, 7, 8, 10] (by decide) rfl
 refine tk H105 ?_
 refine wp_seq_k fun K113 H113 => ?_
 refine region_in ?_
 refine W_v rfl rfl (V_mov rfl (fg0 F111)) ?_
 refine W_v rfl rfl (V_eql rfl (et rfl) rfl) ?_
 refine W_sure (c' := true) rfl rfl (V_mov rfl (et rfl)) (by rw [decide_eq_true_eq]; exact m1) ?_
 refine W_v rfl (wanted_t rfl rfl (et rfl) (ez rfl)) (V_fa (off' := 5) rfl (es3 rfl (fg15 F111)) Try.underlying31 rfl (by decide +kernel) rfl) ?_
 refine W_r rfl (wanted_t rfl rfl (es rfl (et rfl)) (ez rfl)) (VR_ldP (ys := [cv, nv]) rfl (et rfl) (S112.obj 6 rfl hc2) (ldP_at rfl) Try.underlying29 rfl (by kernel_rfl)) ?_
 refine W_v rfl (wanted_t rfl rfl (es2 rfl (et rfl)) (ez rfl)) (V_mov rfl (es5 rfl (fg13 F111))) ?_
 refine W_call rfl (wanted_t rfl rfl (es3 rfl (et rfl)) (ez rfl)) rfl Try.func32 (by kernel_rfl) rfl (args2 (es rfl (et rfl)) (et rfl)) (lhas_c (a := slot) (S112.roC h_cv) (S112.roC h_nv) (by first | with_reducible assumption | omega | with_reducible exact nwX_len (by omega) | with_reducible exact chX_len (by omega) | with_reducible exact prX_len (by omega) | decide +kernel | (simp; omega))) ?_
 rintro _ w114 ⟨rfl, hP114⟩
 refine ⟨_, rfl, ?_⟩
 have S114 := S112.join hP114
 replace S114 : St w NoX [c110, c_108, cz_108, c24, c_22, cz_22, c2] w114 := S114
 refine W_splitB rfl (wanted_t rfl rfl (es4 rfl (et rfl)) (ez rfl)) (V_mov rfl (et rfl)) (fun c115 => ?_) (fun c115 => ?_)
 ·refine W_off rfl (wanted_f rfl rfl (et rfl) (ez rfl) rfl) ?_
  refine W_off rfl (wanted_f rfl rfl (es rfl (et rfl)) (ez rfl) rfl) ?_
  refine W_off rfl (wanted_f rfl rfl (es2 rfl (et rfl)) (ez rfl) rfl) ?_
  refine W_v rfl (wanted_t rfl rfl (es8 rfl (et rfl)) (ez rfl)) (V_pickT rfl (es3 rfl (et rfl)) rfl) ?_
  refine W_v rfl rfl (V_pickT rfl (es8 rfl (es rfl (et rfl))) (et rfl)) ?_
  refine W_v rfl rfl (V_mov rfl (et rfl)) ?_
  refine W_call rfl (wanted_t rfl rfl (et rfl) (ez rfl)) rfl Try.func10 (by kernel_rfl) rfl (args0) (lawk_c  ) ?_
  rintro _ w116 ⟨rfl, hP116⟩
  refine ⟨_, rfl, ?_⟩
  have S116 := S114.join hP116
  replace S116 : St w NoX [c110, c_108, cz_108, c24, c_22, cz_22, c2] w116 := S116
  refine W_v rfl rfl (V_pickT rfl (es rfl (et rfl)) (et rfl)) ?_
  refine W_v rfl rfl (V_asg rfl (et rfl)) ?_
  refine W_end (gen_Q fun A117 E117 => ?_)
  have Y117 := szq E117
  have F117 := fsE E117 (ck (cq8 (cq8 F111 rfl) rfl) rfl rfl)
  clear E117 Y111 F111
  have S118 : St w NoX [] w116 := S116.sel [] (by decide) rfl
  refine tk H113 ?_
  refine wp_ret ?_
  refine ret_in (results_1 Try.results7 (rv_tmp (fg0 F117))) F117.d ?_
  exact ⟨rfl, S118.fin0⟩
 refine W_r rfl (wanted_t rfl rfl (et rfl) (ez rfl)) (VR_ldA rfl (es8 rfl (fg1 F111)) (S114.obj 0 rfl hc110) Try.underlying29 rfl (by kernel_rfl)) ?_
 refine W_r rfl (wanted_t rfl rfl (es rfl (et rfl)) (ez rfl)) (VR_ldA rfl (es8 rfl (es rfl (fg10 F111))) (S114.obj 3 rfl hc24) Try.underlying29 rfl (by kernel_rfl)) ?_
 refine W_call rfl (wanted_t rfl rfl (es2 rfl (et rfl)) (ez rfl)) rfl Try.func17 (by kernel_rfl) rfl (args2 (es rfl (et rfl)) (et rfl)) (kSm8_c (S114.chC 1 rfl hc_108).rm (S114.chC 2 rfl hcz_108).own (S114.chC 4 rfl hc_22).rm (S114.chC 5 rfl hcz_22).own ) ?_
 rintro _ w119 ⟨rfl, hP119⟩
 refine ⟨_, rfl, ?_⟩
 have S119 := S114.join hP119
 replace S119 : St w NoX [c110, c_108, cz_108, c24, c_22, cz_22, c2] w119 := S119
 refine W_v rfl (wanted_t rfl rfl (es8 rfl (et rfl)) (ez rfl)) (V_pickF rfl (es3 rfl (et rfl)) (et rfl)) ?_
 refine W_v rfl rfl (V_pickT rfl (es8 rfl (es rfl (et rfl))) (et rfl)) ?_
 refine W_sure (c' := true) rfl rfl (V_mov rfl (et rfl)) (m2 (by simpa using c115)) ?_
 refine W_call rfl (wanted_t rfl rfl (et rfl) (ez rfl)) rfl Try.func10 (by kernel_rfl) rfl (args0) (lawk_c  ) ?_
 rintro _ w120 ⟨rfl, hP120⟩
 refine ⟨_, rfl, ?_⟩
 have S120 := S119.join hP120
 replace S120 : St w NoX [c110, c_108, cz_108, c24, c_22, cz_22, c2] w120 := S120
 refine W_v rfl rfl (V_pickT rfl (es rfl (et rfl)) (et rfl)) ?_
 refine W_v rfl rfl (V_asg rfl (et rfl)) ?_
 refine W_end (gen_Q fun A121 E121 => ?_)
 have Y121 := szq E121
 have F121 := fsE E121 (ck (cq8 (cq8 F111 rfl) rfl) rfl rfl)
 clear E121 Y111 F111
 have S122 : St w NoX [] w120 := S120.sel [] (by decide) rfl
 refine tk H113 ?_
 refine wp_ret ?_
 refine ret_in (results_1 Try.results7 (rv_tmp (fg0 F121))) F121.d ?_
 exact ⟨rfl, S122.fin0⟩

end Go.Proofs.Yteppjefmlibmoaa