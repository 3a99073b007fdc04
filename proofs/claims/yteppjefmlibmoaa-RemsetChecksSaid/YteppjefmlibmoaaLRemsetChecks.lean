import Derived.Test.YteppjefmlibmoaaProg
import Derived.Test.YteppjefmlibmoaaRl8
namespace Go.Proofs.Yteppjefmlibmoaa
open Go.RowKit Go.Own Go.Own.R Go.Own.S Go.Own.E


set_option maxHeartbeats 4000000 in
theorem RemsetChecks_c {C : Int} {N : Int} {Z : Int} {K : Int} {Q : Int} {cv : Value} {X : List (List Int)} {nv : Value} {ns : List Int} {w : World} (h_cv : Ro w NoX (rmR cv X)) (h_nv : Ro w NoX (il .i64 nv ns))  :
  Calls Try.prog 4 #[.agg #[.int .i64 C, .int .i64 N, .int .i64 Z, .int .i64 K, .int .i64 Q, cv, nv]] w fun e w' => e = .returned (.bool true) ∧ St w NoX [] w' := by
 refine calls_in 85 Try.func4 rfl rfl (by simp) (fun A0 hsz0 hdf0 hargs => ?_)
 have l0_0 := hargs 0 (.agg #[.int .i64 C, .int .i64 N, .int .i64 Z, .int .i64 K, .int .i64 Q, cv, nv]) rfl
 clear hargs; replace hsz0 : SzN A0 85 := ⟨hsz0⟩
 have hS := St.nil w
 have bh_nv := SlN.le (sl_SlN h_nv.at)
 refine wp_seq_k fun K1 hK1 => ?_
 refine region_in ?_
 refine W_boxS (zs := #[.int .i64 (C), .int .i64 (N), .int .i64 (Z), .int .i64 (K), .int .i64 (Q), cv, nv]) hS rfl rfl rfl l0_0 (by rfl) (fun g2 w2 c2 hc2 hS2 => ?_)
 replace hS2 : St w NoX [c2] w2 := hS2
 refine W_v rfl rfl (V_asg rfl rfl) ?_
 refine W_end (gen_Q fun A3 hA3 => ?_)
 have hsz3 := szq hA3
 have hdf3 := dfE hA3 hdf0
 have l1_3 := lookE hA3 1 (es rfl (et rfl))
 clear hA3 hsz0 hdf0 l0_0
 refine then_n (hK1 _ _ ?_)
 clear hK1
 refine wp_seq_k fun K4 hK4 => ?_
 refine wp_seq_k fun K5 hK5 => ?_
 refine region_in ?_
 refine W_v rfl rfl (V_fa (off' := 5) rfl l1_3 Try.underlying31 rfl (by decide +kernel) rfl) ?_
 refine W_r rfl rfl (VR_ldP (ys := [cv, nv]) rfl (et rfl) (hS2.obj 0 rfl hc2) (ldP_at rfl) Try.underlying29 rfl (by kernel_rfl)) ?_
 refine W_call rfl rfl rfl Try.func9 (by kernel_rfl) rfl (args1 (et rfl)) (lFar_c (hS2.roC h_cv) (hS2.roC h_nv) ) ?_
 rintro _ w6 ⟨rfl, hP6⟩
 refine ⟨_, rfl, ?_⟩
 have hS6 := hS2.join hP6
 replace hS6 : St w NoX [c2] w6 := hS6
 refine W_end (gen_Q fun A7 hA7 => ?_)
 have hsz7 := szq hA7
 have hdf7 := dfE hA7 hdf3
 have l1_7 := ek3 hA7 1 rfl l1_3
 have l13_7 := lookE hA7 13 (et rfl)
 clear hA7 hsz3 hdf3 l1_3
 refine then_n (hK5 _ _ ?_)
 clear hK5
 refine cond_b l13_7 (fun c8 => ?_) (fun c8 => ?_)
 ·refine wp_seq_k fun K9 hK9 => ?_
  refine region_in ?_
  refine W_call rfl rfl rfl Try.func10 (by kernel_rfl) rfl (args0) (lawk_c  ) ?_
  rintro _ w10 ⟨rfl, hP10⟩
  refine ⟨_, rfl, ?_⟩
  have hS10 := hS6.join hP10
  replace hS10 : St w NoX [c2] w10 := hS10
  refine W_v rfl rfl (V_asg rfl (et rfl)) ?_
  refine W_end (gen_Q fun A11 hA11 => ?_)
  have hsz11 := szq hA11
  have hdf11 := dfE hA11 hdf7
  have l2_11 := lookE hA11 2 (et rfl)
  clear hA11 hsz7 hdf7 l1_7 l13_7
  have hS12 : St w NoX [] w10 := hS10.sel [] (by decide) rfl
  refine then_n (hK9 _ _ ?_)
  clear hK9
  refine wp_ret ?_
  refine then_ret ?_
  refine ret_in (results_1 Try.results4 (rv_tmp l2_11)) hdf11 ?_
  exact ⟨rfl, hS12.fin0⟩
 ·obtain ⟨hfx, hfr, hfn⟩ := far_ok (by simpa using c8)
  have hxl : X.length ≤ 1000000 := by omega
  refine wp_skip ?_
  refine then_n (hK4 _ _ ?_)
  clear hK4
  refine wp_seq_k fun K13 hK13 => ?_
  refine region_in ?_
  refine W_v rfl rfl (V_fa (off' := 0) rfl l1_7 Try.underlying31 rfl (by decide +kernel) rfl) ?_
  refine W_r rfl rfl (VR_ldP (ys := [.int .i64 (C), .int .i64 (N), .int .i64 (Z), .int .i64 (K), .int .i64 (Q)]) rfl (et rfl) (hS6.obj 0 rfl hc2) (ldP_at rfl) Try.underlying23 rfl (by kernel_rfl)) ?_
  refine W_call rfl rfl rfl Try.func16 (by kernel_rfl) rfl (args1 (et rfl)) (kNew8_c (C := C) (N := N) (Z := Z) (K := K) (Q := Q)  ) ?_
  rintro _ w14 ⟨v_14, z_14, rfl, hP14⟩
  refine ⟨_, rfl, ?_⟩
  obtain ⟨c_14, cz_14, hc_14, hcz_14, hP14⟩ := gen2 hP14
  have hS14 := hS6.join hP14
  replace hS14 : St w NoX [c_14, cz_14, c2] w14 := hS14
  refine W_v rfl rfl (V_mov rfl (et rfl)) ?_
  refine W_v rfl rfl (V_ext (v := .agg #[v_14, z_14]) rfl (et rfl) rfl) ?_
  refine W_v rfl rfl (V_ext (v := .int .i64 ((cfE C N Z K Q))) rfl (es rfl (et rfl)) rfl) ?_
  refine W_allocS (z := .agg #[.slice none 0 0, .slice none 0 0]) (zs := #[.slice none 0 0, .slice none 0 0]) hS14 rfl rfl rfl (by kernel_rfl) (by rfl) (fun g15 w15 c15 hc15 hS15 => ?_)
  replace hS15 : St w NoX [c15, c_14, cz_14, c2] w15 := hS15
  refine W_stAS 0 hS15 rfl hc15 rfl rfl rfl (et rfl) (e2 rfl (et rfl)) (by simp only [List.all_toArray, List.all_cons, List.all_nil, rmO_one (hS15.chq 1 rfl hc_14), SlN_one (ow_at (hS15.chq 2 rfl hcz_14))] <;> rfl) (by rfl) (by kernel_rfl) (fun w16 c16 hc16 hS16 => ?_)
  replace hS16 : St w NoX [c16, c_14, cz_14, c2] w16 := hS16
  refine W_v rfl rfl (V_asg rfl (es rfl (et rfl))) ?_
  refine W_end (gen_Q fun A17 hA17 => ?_)
  have hsz17 := szq hA17
  have hdf17 := dfE hA17 hdf7
  have l1_17 := ek8 hA17 1 rfl l1_7
  have l3_17 := lookE hA17 3 (es rfl (et rfl))
  have l4_17 := lookE hA17 4 (et rfl)
  clear hA17 hsz7 hdf7 l1_7 l13_7
  refine then_n (hK13 _ _ ?_)
  clear hK13
  refine wp_seq_k fun K18 hK18 => ?_
  refine region_in ?_
  refine W_v rfl rfl (V_fa (off' := 0) rfl l1_17 Try.underlying31 rfl (by decide +kernel) rfl) ?_
  refine W_r rfl rfl (VR_ldP (ys := [.int .i64 (C), .int .i64 (N), .int .i64 (Z), .int .i64 (K), .int .i64 (Q)]) rfl (et rfl) (hS16.obj 3 rfl hc2) (ldP_at rfl) Try.underlying23 rfl (by kernel_rfl)) ?_
  refine W_call rfl rfl rfl Try.func18 (by kernel_rfl) rfl (args1 (et rfl)) (qNew8_c (C := C) (N := N) (Z := Z) (K := K) (Q := Q)  ) ?_
  rintro _ w19 ⟨v_19, z_19, rfl, hP19⟩
  refine ⟨_, rfl, ?_⟩
  obtain ⟨c_19, cz_19, hc_19, hcz_19, hP19⟩ := gen2 hP19
  have hS19 := hS16.join hP19
  replace hS19 : St w NoX [c_19, cz_19, c16, c_14, cz_14, c2] w19 := hS19
  refine W_v rfl rfl (V_mov rfl (et rfl)) ?_
  refine W_v rfl rfl (V_ext (v := .agg #[v_19, z_19]) rfl (et rfl) rfl) ?_
  refine W_v rfl rfl (V_ext (v := .int .i64 ((cfE C N Z K Q))) rfl (es rfl (et rfl)) rfl) ?_
  refine W_allocS (z := .agg #[.slice none 0 0, .slice none 0 0]) (zs := #[.slice none 0 0, .slice none 0 0]) hS19 rfl rfl rfl (by kernel_rfl) (by rfl) (fun g20 w20 c20 hc20 hS20 => ?_)
  replace hS20 : St w NoX [c20, c_19, cz_19, c16, c_14, cz_14, c2] w20 := hS20
  refine W_stAS 0 hS20 rfl hc20 rfl rfl rfl (et rfl) (e2 rfl (et rfl)) (by simp only [List.all_toArray, List.all_cons, List.all_nil, rmO_one (hS20.chq 1 rfl hc_19), SlN_one (ow_at (hS20.chq 2 rfl hcz_19))] <;> rfl) (by rfl) (by kernel_rfl) (fun w21 c21 hc21 hS21 => ?_)
  replace hS21 : St w NoX [c21, c_19, cz_19, c16, c_14, cz_14, c2] w21 := hS21
  refine W_v rfl rfl (V_asg rfl (es rfl (et rfl))) ?_
  refine W_end (gen_Q fun A22 hA22 => ?_)
  have hsz22 := szq hA22
  have hdf22 := dfE hA22 hdf17
  have l1_22 := ek8 hA22 1 rfl l1_17
  have l3_22 := ek8 hA22 3 rfl l3_17
  have l4_22 := ek8 hA22 4 rfl l4_17
  have l5_22 := lookE hA22 5 (es rfl (et rfl))
  have l6_22 := lookE hA22 6 (et rfl)
  clear hA22 hsz17 hdf17 l1_17 l3_17 l4_17
  refine then_n (hK18 _ _ ?_)
  clear hK18
  refine wp_seq_k fun K23 hK23 => ?_
  refine region_in ?_
  refine W_v rfl rfl (V_fa (off' := 0) rfl l1_22 Try.underlying31 rfl (by decide +kernel) rfl) ?_
  refine W_r rfl rfl (VR_ldP (ys := [.int .i64 (C), .int .i64 (N), .int .i64 (Z), .int .i64 (K), .int .i64 (Q)]) rfl (et rfl) (hS21.obj 6 rfl hc2) (ldP_at rfl) Try.underlying23 rfl (by kernel_rfl)) ?_
  refine W_v rfl rfl (V_fa (off' := 5) rfl (e2 rfl l1_22) Try.underlying31 rfl (by decide +kernel) rfl) ?_
  refine W_r rfl rfl (VR_ldP (ys := [cv, nv]) rfl (et rfl) (hS21.obj 6 rfl hc2) (ldP_at rfl) Try.underlying29 rfl (by kernel_rfl)) ?_
  refine W_call rfl rfl rfl Try.func11 (by kernel_rfl) rfl (args2 (e2 rfl (et rfl)) (et rfl)) (kCk8_c (C := C) (N := N) (Z := Z) (K := K) (Q := Q) (hS21.roC h_cv) (hS21.roC h_nv) ) ?_
  rintro _ w24 ⟨rfl, hP24⟩
  refine ⟨_, rfl, ?_⟩
  have hS24 := hS21.join hP24
  replace hS24 : St w NoX [c21, c_19, cz_19, c16, c_14, cz_14, c2] w24 := hS24
  refine W_v rfl rfl (V_mov rfl (et rfl)) ?_
  refine W_v rfl rfl (V_ext (v := .int .i64 ((rmP C N Z K Q X ns).1)) rfl (et rfl) rfl) ?_
  refine W_v rfl rfl (V_ext (v := .int .i64 ((rmP C N Z K Q X ns).2)) rfl (es rfl (et rfl)) rfl) ?_
  refine W_v rfl rfl (V_asg rfl (es rfl (et rfl))) ?_
  refine W_v rfl rfl (V_asg rfl (es rfl (et rfl))) ?_
  refine W_end (gen_Q fun A25 hA25 => ?_)
  have hsz25 := szq hA25
  have hdf25 := dfE hA25 hdf22
  have l1_25 := ek10 hA25 1 rfl l1_22
  have l3_25 := ek10 hA25 3 rfl l3_22
  have l4_25 := ek10 hA25 4 rfl l4_22
  have l5_25 := ek10 hA25 5 rfl l5_22
  have l6_25 := ek10 hA25 6 rfl l6_22
  have l7_25 := lookE hA25 7 (es rfl (et rfl))
  have l8_25 := lookE hA25 8 (et rfl)
  clear hA25 hsz22 hdf22 l1_22 l3_22 l4_22 l5_22 l6_22
  refine then_n (hK23 _ _ ?_)
  clear hK23
  refine wp_seq_k fun K26 hK26 => ?_
  refine region_in ?_
  refine W_v rfl rfl (V_fa (off' := 0) rfl l1_25 Try.underlying31 rfl (by decide +kernel) rfl) ?_
  refine W_r rfl rfl (VR_ldP (ys := [.int .i64 (C), .int .i64 (N), .int .i64 (Z), .int .i64 (K), .int .i64 (Q)]) rfl (et rfl) (hS24.obj 6 rfl hc2) (ldP_at rfl) Try.underlying23 rfl (by kernel_rfl)) ?_
  refine W_v rfl rfl (V_fa (off' := 5) rfl (e2 rfl l1_25) Try.underlying31 rfl (by decide +kernel) rfl) ?_
  refine W_r rfl rfl (VR_ldP (ys := [cv, nv]) rfl (et rfl) (hS24.obj 6 rfl hc2) (ldP_at rfl) Try.underlying29 rfl (by kernel_rfl)) ?_
  refine W_call rfl rfl rfl Try.func19 (by kernel_rfl) rfl (args2 (e2 rfl (et rfl)) (et rfl)) (qCk8_c (C := C) (N := N) (Z := Z) (K := K) (Q := Q) (hS24.roC h_cv) (hS24.roC h_nv) ) ?_
  rintro _ w27 ⟨rfl, hP27⟩
  refine ⟨_, rfl, ?_⟩
  have hS27 := hS24.join hP27
  replace hS27 : St w NoX [c21, c_19, cz_19, c16, c_14, cz_14, c2] w27 := hS27
  refine W_v rfl rfl (V_mov rfl (et rfl)) ?_
  refine W_v rfl rfl (V_ext (v := .int .i64 ((rmP C N Z K Q X ns).1)) rfl (et rfl) rfl) ?_
  refine W_v rfl rfl (V_ext (v := .int .i64 ((rmP C N Z K Q X ns).2)) rfl (es rfl (et rfl)) rfl) ?_
  refine W_v rfl rfl (V_asg rfl (es rfl (et rfl))) ?_
  refine W_v rfl rfl (V_asg rfl (es rfl (et rfl))) ?_
  refine W_end (gen_Q fun A28 hA28 => ?_)
  have hsz28 := szq hA28
  have hdf28 := dfE hA28 hdf25
  have l1_28 := ek10 hA28 1 rfl l1_25
  have l3_28 := ek10 hA28 3 rfl l3_25
  have l4_28 := ek10 hA28 4 rfl l4_25
  have l5_28 := ek10 hA28 5 rfl l5_25
  have l6_28 := ek10 hA28 6 rfl l6_25
  have l7_28 := ek10 hA28 7 rfl l7_25
  have l8_28 := ek10 hA28 8 rfl l8_25
  have l9_28 := lookE hA28 9 (es rfl (et rfl))
  have l10_28 := lookE hA28 10 (et rfl)
  clear hA28 hsz25 hdf25 l1_25 l3_25 l4_25 l5_25 l6_25 l7_25 l8_25
  refine then_n (hK26 _ _ ?_)
  clear hK26
  refine wp_seq_k fun K29 hK29 => ?_
  refine wp_seq_k fun K30 hK30 => ?_
  refine region_in ?_
  refine W_r rfl rfl (VR_ldA rfl l3_28 (hS27.obj 3 rfl hc16) Try.underlying29 rfl (by kernel_rfl)) ?_
  refine W_r rfl rfl (VR_ldA rfl (es rfl l5_28) (hS27.obj 0 rfl hc21) Try.underlying29 rfl (by kernel_rfl)) ?_
  refine W_call rfl rfl rfl Try.func20 (by kernel_rfl) rfl (args2 (es rfl (et rfl)) (et rfl)) (qEq8_c (hS27.chC 4 rfl hc_14).rm (hS27.chC 5 rfl hcz_14).own (hS27.chC 1 rfl hc_19).rm (hS27.chC 2 rfl hcz_19).own (by first | with_reducible assumption | omega | with_reducible exact nwX_len (by omega) | with_reducible exact chX_len (by omega) | with_reducible exact prX_len (by omega) | decide +kernel | (simp; omega)) (by first | with_reducible assumption | omega | with_reducible exact nwX_len (by omega) | with_reducible exact chX_len (by omega) | with_reducible exact prX_len (by omega) | decide +kernel | (simp; omega))) ?_
  rintro _ w31 ⟨rfl, hP31⟩
  refine ⟨_, rfl, ?_⟩
  have hS31 := hS27.join hP31
  replace hS31 : St w NoX [c21, c_19, cz_19, c16, c_14, cz_14, c2] w31 := hS31
  refine W_v rfl rfl (V_notd rfl (et rfl)) ?_
  refine W_sure (c' := false) rfl rfl (V_mov rfl (et rfl)) (by simp) ?_
  refine W_v rfl (wanted_t rfl rfl (et rfl) (ez rfl)) (V_mov rfl (e5 rfl l4_28)) ?_
  refine W_v rfl (wanted_t rfl rfl (es rfl (et rfl)) (ez rfl)) (V_mov rfl (e6 rfl l6_28)) ?_
  refine W_v rfl (wanted_t rfl rfl (e2 rfl (et rfl)) (ez rfl)) (V_neq rfl (es rfl (et rfl)) (et rfl)) ?_
  refine W_v rfl rfl (V_pickF rfl (e3 rfl (et rfl)) (et rfl)) ?_
  refine W_sure (c' := false) rfl rfl (V_mov rfl (et rfl)) (by simp) ?_
  refine W_v rfl (wanted_t rfl rfl (et rfl) (ez rfl)) (V_mov rfl (e10 rfl l7_28)) ?_
  refine W_v rfl (wanted_t rfl rfl (es rfl (et rfl)) (ez rfl)) (V_mov rfl (e11 rfl l9_28)) ?_
  refine W_v rfl (wanted_t rfl rfl (e2 rfl (et rfl)) (ez rfl)) (V_neq rfl (es rfl (et rfl)) (et rfl)) ?_
  refine W_v rfl rfl (V_pickF rfl (e3 rfl (et rfl)) (et rfl)) ?_
  refine W_sure (c' := false) rfl rfl (V_mov rfl (et rfl)) (by simp) ?_
  refine W_v rfl (wanted_t rfl rfl (et rfl) (ez rfl)) (V_mov rfl (e15 rfl l8_28)) ?_
  refine W_v rfl (wanted_t rfl rfl (es rfl (et rfl)) (ez rfl)) (V_mov rfl (e16 rfl l10_28)) ?_
  refine W_v rfl (wanted_t rfl rfl (e2 rfl (et rfl)) (ez rfl)) (V_neq rfl (es rfl (et rfl)) (et rfl)) ?_
  refine W_v rfl rfl (V_pickF rfl (e3 rfl (et rfl)) (et rfl)) ?_
  refine W_end (gen_Q fun A32 hA32 => ?_)
  have hsz32 := szq hA32
  have hdf32 := dfE hA32 hdf28
  have l1_32 := ek19 hA32 1 rfl l1_28
  have l61_32 := lookE hA32 61 (et rfl)
  clear hA32 hsz28 hdf28 l1_28 l3_28 l4_28 l5_28 l6_28 l7_28 l8_28 l9_28 l10_28
  have hS33 : St w NoX [c2] w31 := hS31.sel [6] (by decide) rfl
  refine then_n (hK30 _ _ ?_)
  clear hK30
  refine cond_not l61_32 (by simp) ?_
  refine wp_skip ?_
  refine then_n (hK29 _ _ ?_)
  clear hK29
  refine wp_seq_k fun K34 hK34 => ?_
  refine region_in ?_
  refine W_v rfl rfl (V_fa (off' := 5) rfl l1_32 Try.underlying31 rfl (by decide +kernel) rfl) ?_
  refine W_r rfl rfl (VR_ldP (ys := [cv, nv]) rfl (et rfl) (hS33.obj 0 rfl hc2) (ldP_at rfl) Try.underlying29 rfl (by kernel_rfl)) ?_
  refine W_call rfl rfl rfl Try.func15 (by kernel_rfl) rfl (args1 (et rfl)) (kCt8_c (hS33.roC h_cv) (hS33.roC h_nv) (by first | with_reducible assumption | omega | with_reducible exact nwX_len (by omega) | with_reducible exact chX_len (by omega) | with_reducible exact prX_len (by omega) | decide +kernel | (simp; omega))) ?_
  rintro _ w35 ⟨rfl, hP35⟩
  refine ⟨_, rfl, ?_⟩
  have hS35 := hS33.join hP35
  replace hS35 : St w NoX [c2] w35 := hS35
  refine W_v rfl rfl (V_mov rfl (et rfl)) ?_
  refine W_v rfl rfl (V_ext (v := .int .i64 ((ctP (X ++ [ns])).1)) rfl (et rfl) rfl) ?_
  refine W_v rfl rfl (V_ext (v := .int .i64 ((ctP (X ++ [ns])).2)) rfl (es rfl (et rfl)) rfl) ?_
  refine W_v rfl rfl (V_asg rfl (es rfl (et rfl))) ?_
  refine W_v rfl rfl (V_asg rfl (es rfl (et rfl))) ?_
  refine W_end (gen_Q fun A36 hA36 => ?_)
  have hsz36 := szq hA36
  have hdf36 := dfE hA36 hdf32
  have l1_36 := ek8 hA36 1 rfl l1_32
  have l7_36 := lookE hA36 7 (es rfl (et rfl))
  have l8_36 := lookE hA36 8 (et rfl)
  clear hA36 hsz32 hdf32 l1_32 l61_32
  refine then_n (hK34 _ _ ?_)
  clear hK34
  refine wp_seq_k fun K37 hK37 => ?_
  refine region_in ?_
  refine W_v rfl rfl (V_fa (off' := 5) rfl l1_36 Try.underlying31 rfl (by decide +kernel) rfl) ?_
  refine W_r rfl rfl (VR_ldP (ys := [cv, nv]) rfl (et rfl) (hS35.obj 0 rfl hc2) (ldP_at rfl) Try.underlying29 rfl (by kernel_rfl)) ?_
  refine W_call rfl rfl rfl Try.func21 (by kernel_rfl) rfl (args1 (et rfl)) (qCt8_c (hS35.roC h_cv) (hS35.roC h_nv) (by first | with_reducible assumption | omega | with_reducible exact nwX_len (by omega) | with_reducible exact chX_len (by omega) | with_reducible exact prX_len (by omega) | decide +kernel | (simp; omega))) ?_
  rintro _ w38 ⟨rfl, hP38⟩
  refine ⟨_, rfl, ?_⟩
  have hS38 := hS35.join hP38
  replace hS38 : St w NoX [c2] w38 := hS38
  refine W_v rfl rfl (V_mov rfl (et rfl)) ?_
  refine W_v rfl rfl (V_ext (v := .int .i64 ((ctP (X ++ [ns])).1)) rfl (et rfl) rfl) ?_
  refine W_v rfl rfl (V_ext (v := .int .i64 ((ctP (X ++ [ns])).2)) rfl (es rfl (et rfl)) rfl) ?_
  refine W_v rfl rfl (V_asg rfl (es rfl (et rfl))) ?_
  refine W_v rfl rfl (V_asg rfl (es rfl (et rfl))) ?_
  refine W_end (gen_Q fun A39 hA39 => ?_)
  have hsz39 := szq hA39
  have hdf39 := dfE hA39 hdf36
  have l7_39 := ek8 hA39 7 rfl l7_36
  have l8_39 := ek8 hA39 8 rfl l8_36
  have l9_39 := lookE hA39 9 (es rfl (et rfl))
  have l10_39 := lookE hA39 10 (et rfl)
  clear hA39 hsz36 hdf36 l1_36 l7_36 l8_36
  have hS40 : St w NoX [] w38 := hS38.sel [] (by decide) rfl
  refine then_n (hK37 _ _ ?_)
  clear hK37
  refine wp_seq_k fun K41 hK41 => ?_
  refine region_in ?_
  refine W_v rfl rfl (V_mov rfl l7_39) ?_
  refine W_v rfl rfl (V_mov rfl (es rfl l9_39)) ?_
  refine W_v rfl rfl (V_eql rfl (es rfl (et rfl)) (et rfl)) ?_
  refine W_sure (c' := true) rfl rfl (V_mov rfl (et rfl)) (by simp) ?_
  refine W_v rfl (wanted_t rfl rfl (et rfl) (ez rfl)) (V_mov rfl (e4 rfl l8_39)) ?_
  refine W_v rfl (wanted_t rfl rfl (es rfl (et rfl)) (ez rfl)) (V_mov rfl (e5 rfl l10_39)) ?_
  refine W_v rfl (wanted_t rfl rfl (e2 rfl (et rfl)) (ez rfl)) (V_eql rfl (es rfl (et rfl)) (et rfl)) ?_
  refine W_v rfl rfl (V_pickT rfl (e3 rfl (et rfl)) (et rfl)) ?_
  refine W_sure (c' := true) rfl rfl (V_mov rfl (et rfl)) (by simp) ?_
  refine W_call rfl (wanted_t rfl rfl (et rfl) (ez rfl)) rfl Try.func10 (by kernel_rfl) rfl (args0) (lawk_c  ) ?_
  rintro _ w42 ⟨rfl, hP42⟩
  refine ⟨_, rfl, ?_⟩
  have hS42 := hS40.join hP42
  replace hS42 : St w NoX [] w42 := hS42
  refine W_v rfl rfl (V_pickT rfl (es rfl (et rfl)) (et rfl)) ?_
  refine W_v rfl rfl (V_asg rfl (et rfl)) ?_
  refine W_end (gen_Q fun A43 hA43 => ?_)
  have hsz43 := szq hA43
  have hdf43 := dfE hA43 hdf39
  have l2_43 := lookE hA43 2 (et rfl)
  clear hA43 hsz39 hdf39 l7_39 l8_39 l9_39 l10_39
  refine then_n (hK41 _ _ ?_)
  clear hK41
  refine wp_ret ?_
  refine ret_in (results_1 Try.results4 (rv_tmp l2_43)) hdf43 ?_
  exact ⟨rfl, hS42.fin0⟩

end Go.Proofs.Yteppjefmlibmoaa