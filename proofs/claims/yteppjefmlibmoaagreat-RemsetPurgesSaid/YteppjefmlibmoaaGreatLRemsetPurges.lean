import Derived.Test.YteppjefmlibmoaaGreatProg
import Derived.Test.YteppjefmlibmoaaGreatRl8
namespace Go.Proofs.YteppjefmlibmoaaGreat
open Go.RowKit Go.Own Go.Own.R Go.Own.S Go.Own.E


set_option maxHeartbeats 4000000 in
theorem RemsetPurges_c {C : Int} {N : Int} {Z : Int} {K : Int} {Q : Int} {cv : Value} {X : List (List Int)} {nv : Value} {ns : List Int} {i : Int} {dv : Value} {Y : List (List Int)} {mv : Value} {ms : List Int} {w : World} (h_cv : Ro w NoX (rmR cv X)) (h_nv : Ro w NoX (il .i64 nv ns)) (h_dv : Ro w NoX (rmR dv Y)) (h_mv : Ro w NoX (il .i64 mv ms))  :
  Calls Tryz.prog 3 #[.agg #[.int .i64 C, .int .i64 N, .int .i64 Z, .int .i64 K, .int .i64 Q, cv, nv], .int .i64 i, .agg #[dv, mv]] w fun e w' => e = .returned (.bool true) ∧ St w NoX [] w' := by
 refine calls_in 81 Tryz.func3 rfl rfl (by simp) (fun A0 Y0 hdf0 hargs => ?_)
 have l0_0 := hargs 0 (.agg #[.int .i64 C, .int .i64 N, .int .i64 Z, .int .i64 K, .int .i64 Q, cv, nv]) rfl
 have l1_0 := hargs 1 (.int .i64 i) rfl
 have l2_0 := hargs 2 (.agg #[dv, mv]) rfl
 clear hargs; replace Y0 : SzN A0 81 := ⟨Y0⟩
 have hS := St.nil w
 have bh_nv := SlN.le (sl_SlN h_nv.at)
 have bh_mv := SlN.le (sl_SlN h_mv.at)
 refine wp_seq_k fun K1 H1 => ?_
 refine region_in ?_
 refine W_boxS (zs := #[.int .i64 (C), .int .i64 (N), .int .i64 (Z), .int .i64 (K), .int .i64 (Q), cv, nv]) hS rfl rfl rfl l0_0 (by rfl) (fun g2 w2 c2 hc2 S2 => ?_)
 replace S2 : St w NoX [c2] w2 := S2
 refine W_boxS (zs := #[dv, mv]) S2 rfl rfl rfl (es rfl l2_0) (by rfl) (fun g3 w3 c3 hc3 S3 => ?_)
 replace S3 : St w NoX [c3, c2] w3 := S3
 refine W_v rfl rfl (V_asg rfl rfl) ?_
 refine W_end (gen_Q fun A4 E4 => ?_)
 have Y4 := szq E4
 have F4 := (fsE E4 (cq1 (ck (ck (FS.n hdf0) rfl rfl) rfl rfl) rfl)).c (lookE E4 1 (es3 rfl l1_0))
 clear E4 Y0 hdf0 l0_0 l1_0 l2_0
 refine tk H1 ?_
 refine wp_seq_k fun K5 H5 => ?_
 refine wp_seq_k fun K6 H6 => ?_
 refine region_in ?_
 refine W_v rfl rfl (V_fa (off' := 5) rfl (fg2 F4) Tryz.underlying31 rfl (by decide +kernel) rfl) ?_
 refine W_r rfl rfl (VR_ldP (ys := [cv, nv]) rfl (et rfl) (S3.obj 1 rfl hc2) (ldP_at rfl) Tryz.underlying29 rfl (by kernel_rfl)) ?_
 refine W_call rfl rfl rfl Tryz.func5 (by kernel_rfl) rfl (args1 (et rfl)) (lFar_c (S3.roC h_cv) (S3.roC h_nv) ) ?_
 rintro _ w7 ⟨rfl, hP7⟩
 refine ⟨_, rfl, ?_⟩
 have S7 := S3.join hP7
 replace S7 : St w NoX [c3, c2] w7 := S7
 refine W_splitB rfl rfl (V_mov rfl (et rfl)) (fun c8 => ?_) (fun c8 => ?_)
 ·refine W_off rfl (wanted_f rfl rfl (et rfl) (ez rfl) rfl) ?_
  refine W_off rfl (wanted_f rfl rfl (es rfl (et rfl)) (ez rfl) rfl) ?_
  refine W_v rfl rfl (V_pickT rfl (es2 rfl (et rfl)) rfl) ?_
  refine W_end (gen_Q fun A9 E9 => ?_)
  have Y9 := szq E9
  have F9 := fsE E9 (ck (cq6 F4 rfl) rfl rfl)
  clear E9 Y4 F4
  refine tk H6 ?_
  refine cond_t (fg0 F9) ?_
  refine wp_seq_k fun K10 H10 => ?_
  refine region_in ?_
  refine W_call rfl rfl rfl Tryz.func6 (by kernel_rfl) rfl (args0) (lawk_c  ) ?_
  rintro _ w11 ⟨rfl, hP11⟩
  refine ⟨_, rfl, ?_⟩
  have S11 := S7.join hP11
  replace S11 : St w NoX [c3, c2] w11 := S11
  refine W_v rfl rfl (V_asg rfl (et rfl)) ?_
  refine W_end (gen_Q fun A12 E12 => ?_)
  have Y12 := szq E12
  have F12 := fsE E12 (ck (cq1 F9 rfl) rfl rfl)
  clear E12 Y9 F9
  have S13 : St w NoX [] w11 := S11.sel [] (by decide) rfl
  refine tk H10 ?_
  refine wp_ret ?_
  refine then_ret ?_
  refine ret_in (results_1 Tryz.results3 (rv_tmp (fg0 F12))) F12.d ?_
  exact ⟨rfl, S13.fin0⟩
 obtain ⟨hfx, hfr, hfn⟩ := far_ok (by simpa using c8)
 have hxl : X.length ≤ 1000000 := by omega
 refine W_r rfl (wanted_t rfl rfl (et rfl) (ez rfl)) (VR_ldA rfl (es4 rfl (fg1 F4)) (S7.obj 0 rfl hc3) Tryz.underlying29 rfl (by kernel_rfl)) ?_
 refine W_call rfl (wanted_t rfl rfl (es rfl (et rfl)) (ez rfl)) rfl Tryz.func5 (by kernel_rfl) rfl (args1 (et rfl)) (lFar_c (S7.roC h_dv) (S7.roC h_mv) ) ?_
 rintro _ w14 ⟨rfl, hP14⟩
 refine ⟨_, rfl, ?_⟩
 have S14 := S7.join hP14
 replace S14 : St w NoX [c3, c2] w14 := S14
 refine W_v rfl rfl (V_pickF rfl (es2 rfl (et rfl)) (et rfl)) ?_
 refine W_end (gen_Q fun A15 E15 => ?_)
 have Y15 := szq E15
 have F15 := fsE E15 (ck (cq6 F4 rfl) rfl rfl)
 clear E15 Y4 F4
 refine tk H6 ?_
 refine cond_b (fg0 F15) (fun c16 => ?_) (fun c16 => ?_)
 ·refine wp_seq_k fun K17 H17 => ?_
  refine region_in ?_
  refine W_call rfl rfl rfl Tryz.func6 (by kernel_rfl) rfl (args0) (lawk_c  ) ?_
  rintro _ w18 ⟨rfl, hP18⟩
  refine ⟨_, rfl, ?_⟩
  have S18 := S14.join hP18
  replace S18 : St w NoX [c3, c2] w18 := S18
  refine W_v rfl rfl (V_asg rfl (et rfl)) ?_
  refine W_end (gen_Q fun A19 E19 => ?_)
  have Y19 := szq E19
  have F19 := fsE E19 (ck (cq1 F15 rfl) rfl rfl)
  clear E19 Y15 F15
  have S20 : St w NoX [] w18 := S18.sel [] (by decide) rfl
  refine tk H17 ?_
  refine wp_ret ?_
  refine then_ret ?_
  refine ret_in (results_1 Tryz.results3 (rv_tmp (fg0 F19))) F19.d ?_
  exact ⟨rfl, S20.fin0⟩
 obtain ⟨hgx, hgr, hgn⟩ := far_ok (X := Y) (by simpa using c16)
 have hyl : Y.length ≤ 1000000 := by omega
 refine wp_skip ?_
 refine tk H5 ?_
 refine wp_seq_k fun K21 H21 => ?_
 refine region_in ?_
 refine W_v rfl rfl (V_fa (off' := 0) rfl (fg3 F15) Tryz.underlying31 rfl (by decide +kernel) rfl) ?_
 refine W_r rfl rfl (VR_ldP (ys := [.int .i64 (C), .int .i64 (N), .int .i64 (Z), .int .i64 (K), .int .i64 (Q)]) rfl (et rfl) (S14.obj 1 rfl hc2) (ldP_at rfl) Tryz.underlying23 rfl (by kernel_rfl)) ?_
 refine W_v rfl rfl (V_fa (off' := 5) rfl (es2 rfl (fg3 F15)) Tryz.underlying31 rfl (by decide +kernel) rfl) ?_
 refine W_r rfl rfl (VR_ldP (ys := [cv, nv]) rfl (et rfl) (S14.obj 1 rfl hc2) (ldP_at rfl) Tryz.underlying29 rfl (by kernel_rfl)) ?_
 refine W_v rfl rfl (V_mov rfl (es4 rfl (fg1 F15))) ?_
 refine W_call rfl rfl rfl Tryz.func7 (by kernel_rfl) rfl (args3 (es3 rfl (et rfl)) (es rfl (et rfl)) (et rfl)) (kPr8_c (C := C) (N := N) (Z := Z) (K := K) (Q := Q) (i := i) (S14.roC h_cv) (S14.roC h_nv) ) ?_
 rintro _ w22 ⟨v_22, z_22, rfl, hP22⟩
 refine ⟨_, rfl, ?_⟩
 obtain ⟨c_22, cz_22, hc_22, hcz_22, hP22⟩ := gen2 hP22
 have S22 := S14.join hP22
 replace S22 : St w NoX [c_22, cz_22, c3, c2] w22 := S22
 refine W_v rfl rfl (V_mov rfl (et rfl)) ?_
 refine W_v rfl rfl (V_ext (v := .agg #[v_22, z_22]) rfl (et rfl) rfl) ?_
 refine W_v rfl rfl (V_ext (v := .int .i64 ((prS C N Z K Q X ns i))) rfl (es rfl (et rfl)) rfl) ?_
 refine W_v rfl rfl (V_ext (v := .int .i64 ((frE C N Z K Q X ns i))) rfl (es2 rfl (et rfl)) rfl) ?_
 refine W_allocS (z := .agg #[.slice none 0 0, .slice none 0 0]) (zs := #[.slice none 0 0, .slice none 0 0]) S22 rfl rfl rfl (by kernel_rfl) (by rfl) (fun g23 w23 c23 hc23 S23 => ?_)
 replace S23 : St w NoX [c23, c_22, cz_22, c3, c2] w23 := S23
 refine W_stAS 0 S23 rfl hc23 rfl rfl rfl (et rfl) (es3 rfl (et rfl)) (by simp only [List.all_toArray, List.all_cons, List.all_nil, rmO_one (S23.chq 1 rfl hc_22), SlN_one (ow_at (S23.chq 2 rfl hcz_22))] <;> rfl) (by rfl) (by kernel_rfl) (fun w24 c24 hc24 S24 => ?_)
 replace S24 : St w NoX [c24, c_22, cz_22, c3, c2] w24 := S24
 refine W_v rfl rfl (V_asg rfl (es2 rfl (et rfl))) ?_
 refine W_v rfl rfl (V_asg rfl (es2 rfl (et rfl))) ?_
 refine W_end (gen_Q fun A25 E25 => ?_)
 have Y25 := szq E25
 have F25 := fsE E25 (ck (ck (ck (cq2 (cq8 F15 rfl) rfl) rfl rfl) rfl rfl) rfl rfl)
 clear E25 Y15 F15
 refine tk H21 ?_
 refine wp_seq_k fun K26 H26 => ?_
 refine region_in ?_
 refine W_v rfl rfl (V_fa (off' := 0) rfl (fg6 F25) Tryz.underlying31 rfl (by decide +kernel) rfl) ?_
 refine W_r rfl rfl (VR_ldP (ys := [.int .i64 (C), .int .i64 (N), .int .i64 (Z), .int .i64 (K), .int .i64 (Q)]) rfl (et rfl) (S24.obj 4 rfl hc2) (ldP_at rfl) Tryz.underlying23 rfl (by kernel_rfl)) ?_
 refine W_v rfl rfl (V_fa (off' := 5) rfl (es2 rfl (fg6 F25)) Tryz.underlying31 rfl (by decide +kernel) rfl) ?_
 refine W_r rfl rfl (VR_ldP (ys := [cv, nv]) rfl (et rfl) (S24.obj 4 rfl hc2) (ldP_at rfl) Tryz.underlying29 rfl (by kernel_rfl)) ?_
 refine W_v rfl rfl (V_mov rfl (es4 rfl (fg4 F25))) ?_
 refine W_call rfl rfl rfl Tryz.func8 (by kernel_rfl) rfl (args3 (es3 rfl (et rfl)) (es rfl (et rfl)) (et rfl)) (qPr8_c (C := C) (N := N) (Z := Z) (K := K) (Q := Q) (i := i) (S24.roC h_cv) (S24.roC h_nv) ) ?_
 rintro _ w27 ⟨v_27, z_27, rfl, hP27⟩
 refine ⟨_, rfl, ?_⟩
 obtain ⟨c_27, cz_27, hc_27, hcz_27, hP27⟩ := gen2 hP27
 have S27 := S24.join hP27
 replace S27 : St w NoX [c_27, cz_27, c24, c_22, cz_22, c3, c2] w27 := S27
 refine W_v rfl rfl (V_mov rfl (et rfl)) ?_
 refine W_v rfl rfl (V_ext (v := .agg #[v_27, z_27]) rfl (et rfl) rfl) ?_
 refine W_v rfl rfl (V_ext (v := .int .i64 ((prS C N Z K Q X ns i))) rfl (es rfl (et rfl)) rfl) ?_
 refine W_v rfl rfl (V_ext (v := .int .i64 ((frE C N Z K Q X ns i))) rfl (es2 rfl (et rfl)) rfl) ?_
 refine W_allocS (z := .agg #[.slice none 0 0, .slice none 0 0]) (zs := #[.slice none 0 0, .slice none 0 0]) S27 rfl rfl rfl (by kernel_rfl) (by rfl) (fun g28 w28 c28 hc28 S28 => ?_)
 replace S28 : St w NoX [c28, c_27, cz_27, c24, c_22, cz_22, c3, c2] w28 := S28
 refine W_stAS 0 S28 rfl hc28 rfl rfl rfl (et rfl) (es3 rfl (et rfl)) (by simp only [List.all_toArray, List.all_cons, List.all_nil, rmO_one (S28.chq 1 rfl hc_27), SlN_one (ow_at (S28.chq 2 rfl hcz_27))] <;> rfl) (by rfl) (by kernel_rfl) (fun w29 c29 hc29 S29 => ?_)
 replace S29 : St w NoX [c29, c_27, cz_27, c24, c_22, cz_22, c3, c2] w29 := S29
 refine W_v rfl rfl (V_asg rfl (es2 rfl (et rfl))) ?_
 refine W_v rfl rfl (V_asg rfl (es2 rfl (et rfl))) ?_
 refine W_end (gen_Q fun A30 E30 => ?_)
 have Y30 := szq E30
 have F30 := fsE E30 (ck (ck (ck (cq2 (cq8 F25 rfl) rfl) rfl rfl) rfl rfl) rfl rfl)
 clear E30 Y25 F25
 refine tk H26 ?_
 refine wp_seq_k fun K31 H31 => ?_
 refine region_monoS 41 41 [none, none, some (SPv [] (fun _ => fun u l' => u = .bool (decide ((prC C N Z K Q X ns i) = (prC C N Z K Q X ns i) ∧ (prN C N Z K Q X ns i) = (prN C N Z K Q X ns i))) ∧ l' = []) 2), none, none, none, none, none, none, none, none, none, none, none, none, none, none, some (SPv [] (fun _ => fun u l' => u = .bool (smB (X ++ [ns]) (Y ++ [ms])) ∧ l' = []) 17), none, none, none, some (SPv [] (fun _ => fun u l' => u = .bool (smB (X ++ [ns]) (Y ++ [ms])) ∧ l' = []) 21), none, none, none, none, none, none, none, some (SPv [] (fun _ => fun u l' => u = .bool (smB (X ++ [ns]) (X ++ [ns])) ∧ l' = []) 29), none, none, none, none, some (SPv [] (fun _ => fun u l' => u = .bool (smB (X ++ [ns]) (X ++ [ns])) ∧ l' = []) 34), none, none, none, some (SPv [] (fun _ => fun u l' => u = .bool true ∧ l' = []) 38)] (by kernel_rfl) (by kernel_rfl) ?_
 refine D_r rfl rfl (by kernel_rfl) (fun sx hx hF => (VR_ldA rfl (fg5 F30) ((S29.grow hx).obj 3 rfl hc24) Tryz.underlying29 rfl (by kernel_rfl))) rfl rfl ?_
 refine D_r rfl rfl (by kernel_rfl) (fun sx hx hF => (VR_ldA rfl (es rfl (fg2 F30)) ((S29.grow hx).obj 0 rfl hc29) Tryz.underlying29 rfl (by kernel_rfl))) rfl rfl ?_
 refine D_call (ts := []) (vs := []) (C0 := fun _ => fun u l' => u = .bool (decide ((prC C N Z K Q X ns i) = (prC C N Z K Q X ns i) ∧ (prN C N Z K Q X ns i) = (prN C N Z K Q X ns i))) ∧ l' = []) (C := fun u l' => u = .bool (decide ((prC C N Z K Q X ns i) = (prC C N Z K Q X ns i) ∧ (prN C N Z K Q X ns i) = (prN C N Z K Q X ns i))) ∧ l' = []) rfl rfl rfl Tryz.func9 (by kernel_rfl) rfl (args2 (es rfl (et rfl)) (et rfl)) rfl rfl rfl rfl (fun sx hx hF => ?_) (fun u32 l32 hu32 => ?_)
 ·refine (qEq8_c ((S29.grow hx).chC 4 rfl hc_22).rm ((S29.grow hx).chC 5 rfl hcz_22).own ((S29.grow hx).chC 1 rfl hc_27).rm ((S29.grow hx).chC 2 rfl hcz_27).own (by first | with_reducible assumption | omega | with_reducible exact nwX_len (by omega) | with_reducible exact chX_len (by omega) | with_reducible exact prX_len (by omega) | decide +kernel | (simp; omega)) (by first | with_reducible assumption | omega | with_reducible exact nwX_len (by omega) | with_reducible exact chX_len (by omega) | with_reducible exact prX_len (by omega) | decide +kernel | (simp; omega))).mono ?_
  rintro _ _ ⟨rfl, hz⟩
  exact ⟨_, rfl, _, ⟨rfl, rfl⟩, hz⟩
 obtain ⟨rfl, hl32⟩ := hu32
 refine D_sure (c' := true) rfl rfl (V_mov rfl (et rfl)) (by simp) rfl rfl ?_
 refine D_v rfl (wanted_t rfl rfl (et rfl) (ez rfl)) (V_mov rfl (es4 rfl (fg4 F30))) rfl rfl ?_
 refine D_v rfl (wanted_t rfl rfl (es rfl (et rfl)) (ez rfl)) (V_mov rfl (es5 rfl (fg1 F30))) rfl rfl ?_
 refine D_v rfl (wanted_t rfl rfl (es2 rfl (et rfl)) (ez rfl)) (V_eql rfl (es rfl (et rfl)) (et rfl)) rfl rfl ?_
 refine D_v rfl rfl (V_pickT rfl (es3 rfl (et rfl)) (et rfl)) rfl rfl ?_
 refine D_sure (c' := true) rfl rfl (V_mov rfl (et rfl)) (by simp) rfl rfl ?_
 refine D_v rfl (wanted_t rfl rfl (et rfl) (ez rfl)) (V_mov rfl (es8 rfl (es rfl (fg3 F30)))) rfl rfl ?_
 refine D_v rfl (wanted_t rfl rfl (es rfl (et rfl)) (ez rfl)) (V_mov rfl (es8 rfl (es2 rfl (fg0 F30)))) rfl rfl ?_
 refine D_v rfl (wanted_t rfl rfl (es2 rfl (et rfl)) (ez rfl)) (V_eql rfl (es rfl (et rfl)) (et rfl)) rfl rfl ?_
 refine D_v rfl rfl (V_pickT rfl (es3 rfl (et rfl)) (et rfl)) rfl rfl ?_
 refine D_sure (c' := true) rfl rfl (V_mov rfl (et rfl)) (by simp) rfl rfl ?_
 refine D_v rfl (wanted_t rfl rfl (et rfl) (ez rfl)) (V_fa (off' := 5) rfl (es8 rfl (es6 rfl (fg9 F30))) Tryz.underlying31 rfl (by decide +kernel) rfl) rfl rfl ?_
 refine D_r rfl (wanted_t rfl rfl (es rfl (et rfl)) (ez rfl)) (by kernel_rfl) (fun sx hx hF => (VR_ldP (ys := [cv, nv]) rfl (et rfl) ((S29.grow hx).obj 7 rfl hc2) (ldP_at rfl) Tryz.underlying29 rfl (by kernel_rfl))) rfl rfl ?_
 refine D_r rfl (wanted_t rfl rfl (es2 rfl (et rfl)) (ez rfl)) (by kernel_rfl) (fun sx hx hF => (VR_ldA rfl (es8 rfl (es8 rfl (fg8 F30))) ((S29.grow hx).obj 6 rfl hc3) Tryz.underlying29 rfl (by kernel_rfl))) rfl rfl ?_
 refine D_call (ts := []) (vs := []) (C0 := fun _ => fun u l' => u = .bool (smB (X ++ [ns]) (Y ++ [ms])) ∧ l' = []) (C := fun u l' => u = .bool (smB (X ++ [ns]) (Y ++ [ms])) ∧ l' = []) rfl (wanted_t rfl rfl (es3 rfl (et rfl)) (ez rfl)) rfl Tryz.func10 (by kernel_rfl) rfl (args2 (es rfl (et rfl)) (et rfl)) rfl rfl rfl rfl (fun sx hx hF => ?_) (fun u33 l33 hu33 => ?_)
 ·refine (kSm8_c ((S29.grow hx).roC h_cv) ((S29.grow hx).roC h_nv) ((S29.grow hx).roC h_dv) ((S29.grow hx).roC h_mv) ).mono ?_
  rintro _ _ ⟨rfl, hz⟩
  exact ⟨_, rfl, _, ⟨rfl, rfl⟩, hz⟩
 obtain ⟨rfl, hl33⟩ := hu33
 refine D_v rfl (wanted_t rfl rfl (es4 rfl (et rfl)) (ez rfl)) (V_fa (off' := 5) rfl (es8 rfl (es8 rfl (es2 rfl (fg9 F30)))) Tryz.underlying31 rfl (by decide +kernel) rfl) rfl rfl ?_
 refine D_r rfl (wanted_t rfl rfl (es5 rfl (et rfl)) (ez rfl)) (by kernel_rfl) (fun sx hx hF => (VR_ldP (ys := [cv, nv]) rfl (et rfl) ((S29.grow hx).obj 7 rfl hc2) (ldP_at rfl) Tryz.underlying29 rfl (by kernel_rfl))) rfl rfl ?_
 refine D_r rfl (wanted_t rfl rfl (es6 rfl (et rfl)) (ez rfl)) (by kernel_rfl) (fun sx hx hF => (VR_ldA rfl (es8 rfl (es8 rfl (es4 rfl (fg8 F30)))) ((S29.grow hx).obj 6 rfl hc3) Tryz.underlying29 rfl (by kernel_rfl))) rfl rfl ?_
 refine D_call (ts := []) (vs := []) (C0 := fun _ => fun u l' => u = .bool (smB (X ++ [ns]) (Y ++ [ms])) ∧ l' = []) (C := fun u l' => u = .bool (smB (X ++ [ns]) (Y ++ [ms])) ∧ l' = []) rfl (wanted_t rfl rfl (es7 rfl (et rfl)) (ez rfl)) rfl Tryz.func11 (by kernel_rfl) rfl (args2 (es rfl (et rfl)) (et rfl)) rfl rfl rfl rfl (fun sx hx hF => ?_) (fun u34 l34 hu34 => ?_)
 ·refine (qSm8_c ((S29.grow hx).roC h_cv) ((S29.grow hx).roC h_nv) ((S29.grow hx).roC h_dv) ((S29.grow hx).roC h_mv) (by first | with_reducible assumption | omega | with_reducible exact nwX_len (by omega) | with_reducible exact chX_len (by omega) | with_reducible exact prX_len (by omega) | decide +kernel | (simp; omega)) (by first | with_reducible assumption | omega | with_reducible exact nwX_len (by omega) | with_reducible exact chX_len (by omega) | with_reducible exact prX_len (by omega) | decide +kernel | (simp; omega))).mono ?_
  rintro _ _ ⟨rfl, hz⟩
  exact ⟨_, rfl, _, ⟨rfl, rfl⟩, hz⟩
 obtain ⟨rfl, hl34⟩ := hu34
 refine D_v rfl (wanted_t rfl rfl (es8 rfl (et rfl)) (ez rfl)) (V_eqB rfl (es4 rfl (et rfl)) (et rfl) Tryz.underlying4) rfl rfl ?_
 refine D_v rfl rfl (V_pickT rfl (es8 rfl (es rfl (et rfl))) (et rfl)) rfl rfl ?_
 refine D_sure (c' := true) rfl rfl (V_mov rfl (et rfl)) (by simp) rfl rfl ?_
 refine D_v rfl (wanted_t rfl rfl (et rfl) (ez rfl)) (V_fa (off' := 5) rfl (es8 rfl (es8 rfl (es8 rfl (es rfl (fg9 F30))))) Tryz.underlying31 rfl (by decide +kernel) rfl) rfl rfl ?_
 refine D_r rfl (wanted_t rfl rfl (es rfl (et rfl)) (ez rfl)) (by kernel_rfl) (fun sx hx hF => (VR_ldP (ys := [cv, nv]) rfl (et rfl) ((S29.grow hx).obj 7 rfl hc2) (ldP_at rfl) Tryz.underlying29 rfl (by kernel_rfl))) rfl rfl ?_
 refine D_v rfl (wanted_t rfl rfl (es2 rfl (et rfl)) (ez rfl)) (V_fa (off' := 5) rfl (es8 rfl (es8 rfl (es8 rfl (es3 rfl (fg9 F30))))) Tryz.underlying31 rfl (by decide +kernel) rfl) rfl rfl ?_
 refine D_r rfl (wanted_t rfl rfl (es3 rfl (et rfl)) (ez rfl)) (by kernel_rfl) (fun sx hx hF => (VR_ldP (ys := [cv, nv]) rfl (et rfl) ((S29.grow hx).obj 7 rfl hc2) (ldP_at rfl) Tryz.underlying29 rfl (by kernel_rfl))) rfl rfl ?_
 refine D_call (ts := []) (vs := []) (C0 := fun _ => fun u l' => u = .bool (smB (X ++ [ns]) (X ++ [ns])) ∧ l' = []) (C := fun u l' => u = .bool (smB (X ++ [ns]) (X ++ [ns])) ∧ l' = []) rfl (wanted_t rfl rfl (es4 rfl (et rfl)) (ez rfl)) rfl Tryz.func10 (by kernel_rfl) rfl (args2 (es2 rfl (et rfl)) (et rfl)) rfl rfl rfl rfl (fun sx hx hF => ?_) (fun u35 l35 hu35 => ?_)
 ·refine (kSm8_c ((S29.grow hx).roC h_cv) ((S29.grow hx).roC h_nv) ((S29.grow hx).roC h_cv) ((S29.grow hx).roC h_nv) ).mono ?_
  rintro _ _ ⟨rfl, hz⟩
  exact ⟨_, rfl, _, ⟨rfl, rfl⟩, hz⟩
 obtain ⟨rfl, hl35⟩ := hu35
 refine D_v rfl (wanted_t rfl rfl (es5 rfl (et rfl)) (ez rfl)) (V_fa (off' := 5) rfl (es8 rfl (es8 rfl (es8 rfl (es6 rfl (fg9 F30))))) Tryz.underlying31 rfl (by decide +kernel) rfl) rfl rfl ?_
 refine D_r rfl (wanted_t rfl rfl (es6 rfl (et rfl)) (ez rfl)) (by kernel_rfl) (fun sx hx hF => (VR_ldP (ys := [cv, nv]) rfl (et rfl) ((S29.grow hx).obj 7 rfl hc2) (ldP_at rfl) Tryz.underlying29 rfl (by kernel_rfl))) rfl rfl ?_
 refine D_v rfl (wanted_t rfl rfl (es7 rfl (et rfl)) (ez rfl)) (V_fa (off' := 5) rfl (es8 rfl (es8 rfl (es8 rfl (es8 rfl (fg9 F30))))) Tryz.underlying31 rfl (by decide +kernel) rfl) rfl rfl ?_
 refine D_r rfl (wanted_t rfl rfl (es8 rfl (et rfl)) (ez rfl)) (by kernel_rfl) (fun sx hx hF => (VR_ldP (ys := [cv, nv]) rfl (et rfl) ((S29.grow hx).obj 7 rfl hc2) (ldP_at rfl) Tryz.underlying29 rfl (by kernel_rfl))) rfl rfl ?_
 refine D_call (ts := []) (vs := []) (C0 := fun _ => fun u l' => u = .bool (smB (X ++ [ns]) (X ++ [ns])) ∧ l' = []) (C := fun u l' => u = .bool (smB (X ++ [ns]) (X ++ [ns])) ∧ l' = []) rfl (wanted_t rfl rfl (es8 rfl (es rfl (et rfl))) (ez rfl)) rfl Tryz.func11 (by kernel_rfl) rfl (args2 (es2 rfl (et rfl)) (et rfl)) rfl rfl rfl rfl (fun sx hx hF => ?_) (fun u36 l36 hu36 => ?_)
 ·refine (qSm8_c ((S29.grow hx).roC h_cv) ((S29.grow hx).roC h_nv) ((S29.grow hx).roC h_cv) ((S29.grow hx).roC h_nv) (by first | with_reducible assumption | omega | with_reducible exact nwX_len (by omega) | with_reducible exact chX_len (by omega) | with_reducible exact prX_len (by omega) | decide +kernel | (simp; omega)) (by first | with_reducible assumption | omega | with_reducible exact nwX_len (by omega) | with_reducible exact chX_len (by omega) | with_reducible exact prX_len (by omega) | decide +kernel | (simp; omega))).mono ?_
  rintro _ _ ⟨rfl, hz⟩
  exact ⟨_, rfl, _, ⟨rfl, rfl⟩, hz⟩
 obtain ⟨rfl, hl36⟩ := hu36
 refine D_v rfl (wanted_t rfl rfl (es8 rfl (es2 rfl (et rfl))) (ez rfl)) (V_eqB rfl (es5 rfl (et rfl)) (et rfl) Tryz.underlying4) rfl rfl ?_
 refine D_v rfl rfl (V_pickT rfl (es8 rfl (es3 rfl (et rfl))) (et rfl)) rfl rfl ?_
 refine D_sure (c' := true) rfl rfl (V_mov rfl (et rfl)) (by simp) rfl rfl ?_
 refine D_call (ts := []) (vs := []) (C0 := fun _ => fun u l' => u = .bool true ∧ l' = []) (C := fun u l' => u = .bool true ∧ l' = []) rfl (wanted_t rfl rfl (et rfl) (ez rfl)) rfl Tryz.func6 (by kernel_rfl) rfl (args0) rfl rfl rfl rfl (fun sx hx hF => ?_) (fun u37 l37 hu37 => ?_)
 ·refine (lawk_c  ).mono ?_
  rintro _ _ ⟨rfl, hz⟩
  exact ⟨_, rfl, _, ⟨rfl, rfl⟩, hz⟩
 obtain ⟨rfl, hl37⟩ := hu37
 refine D_v rfl rfl (V_pickT rfl (es rfl (et rfl)) (et rfl)) rfl rfl ?_
 refine D_v rfl rfl (V_asg rfl (et rfl)) rfl rfl ?_
 refine ZS_none S29 (Nat.le_refl _) (Nat.le_refl _) (fun s38 hJ38 hL38 hF38 => ?_)
 obtain ⟨ll32, ws32, we32, ⟨hq32, hl32r⟩, hm32, k32, e32⟩ := L.all_get (L.all_rest (L.all_rest (L.all_rest (L.all_rest (L.all_rest hF38))))); cases hq32; subst hl32r
 replace hJ38 := hJ38.add hL38 (i := 2) rfl hm32 k32 e32
 obtain ⟨ll33, ws33, we33, ⟨hq33, hl33r⟩, hm33, k33, e33⟩ := L.all_get (L.all_rest (L.all_rest (L.all_rest (L.all_rest hF38)))); cases hq33; subst hl33r
 replace hJ38 := hJ38.add hL38 (i := 17) rfl hm33 k33 e33
 obtain ⟨ll34, ws34, we34, ⟨hq34, hl34r⟩, hm34, k34, e34⟩ := L.all_get (L.all_rest (L.all_rest (L.all_rest hF38))); cases hq34; subst hl34r
 replace hJ38 := hJ38.add hL38 (i := 21) rfl hm34 k34 e34
 obtain ⟨ll35, ws35, we35, ⟨hq35, hl35r⟩, hm35, k35, e35⟩ := L.all_get (L.all_rest (L.all_rest hF38)); cases hq35; subst hl35r
 replace hJ38 := hJ38.add hL38 (i := 29) rfl hm35 k35 e35
 obtain ⟨ll36, ws36, we36, ⟨hq36, hl36r⟩, hm36, k36, e36⟩ := L.all_get (L.all_rest hF38); cases hq36; subst hl36r
 replace hJ38 := hJ38.add hL38 (i := 34) rfl hm36 k36 e36
 obtain ⟨ll37, ws37, we37, ⟨hq37, hl37r⟩, hm37, k37, e37⟩ := L.all_get hF38; cases hq37; subst hl37r
 replace hJ38 := hJ38.add hL38 (i := 38) rfl hm37 k37 e37
 have S38 := hJ38.st; clear hF38 hJ38 hL38
 generalize s38.1 = w38 at *
 replace S38 : St w NoX [c29, c_27, cz_27, c24, c_22, cz_22, c3, c2] w38 := S38
 refine gen_Q (fun A39 E39 => ?_)
 have Y39 := szq E39
 have F39 := fsE E39 (ck (cq8 (cq8 (cq8 (cq8 (cq8 F30 rfl) rfl) rfl) rfl) rfl) rfl rfl)
 clear E39 Y30 F30
 have S40 : St w NoX [] w38 := S38.sel [] (by decide) rfl
 refine tk H31 ?_
 refine wp_ret ?_
 refine ret_in (results_1 Tryz.results3 (rv_tmp (fg0 F39))) F39.d ?_
 exact ⟨rfl, S40.fin0⟩

end Go.Proofs.YteppjefmlibmoaaGreat