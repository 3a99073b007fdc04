import Derived.Test.YteppjefmlibmoaaProg
import Derived.Test.YteppjefmlibmoaaRl8
import Derived.Test.YteppjefmlibmoaaRl9
import Derived.Test.YteppjefmlibmoaaPl8l
namespace Go.Proofs.Yteppjefmlibmoaa
open Go.RowKit Go.Own Go.Own.R Go.Own.S Go.Own.E


set_option maxHeartbeats 4000000 in
theorem RemsetBarrier_c {C : Int} {N : Int} {Z : Int} {K : Int} {Q : Int} {av : Value} {acts : List (Int × Int)} {w : World} (h_av : Ro w NoX (rl 2 auC av acts)) (hac : ∀ y ∈ acts, (0 ≤ y.1 ∧ y.1 ≤ 65535) ∧ (0 ≤ y.2 ∧ y.2 ≤ 65535)) :
  Calls Try.prog 6 #[.agg #[.int .i64 C, .int .i64 N, .int .i64 Z, .int .i64 K, .int .i64 Q], av] w fun e w' => e = .returned (.bool true) ∧ St w NoX [] w' := by
 refine calls_in 202 Try.func6 rfl rfl (by simp) (fun A0 Y0 hdf0 hargs => ?_)
 have l0_0 := hargs 0 (.agg #[.int .i64 C, .int .i64 N, .int .i64 Z, .int .i64 K, .int .i64 Q]) rfl
 have l1_0 := hargs 1 (av) rfl
 clear hargs; replace Y0 : SzN A0 202 := ⟨Y0⟩
 have hS := St.nil w
 have bh_av := SlN.le (sl_SlN h_av.at)
 refine wp_seq_k fun K1 H1 => ?_
 refine region_in ?_
 refine W_boxS (zs := #[.int .i64 (C), .int .i64 (N), .int .i64 (Z), .int .i64 (K), .int .i64 (Q)]) hS rfl rfl rfl l0_0 (by rfl) (fun g2 w2 c2 hc2 S2 => ?_)
 replace S2 : St w NoX [c2] w2 := S2
 refine W_v rfl rfl (V_asg rfl rfl) ?_
 refine W_end (gen_Q fun A3 E3 => ?_)
 have Y3 := szq E3
 have F3 := (fsE E3 (cq1 (ck (FS.n hdf0) rfl rfl) rfl)).c (lookE E3 1 (es2 rfl l1_0))
 clear E3 Y0 hdf0 l0_0 l1_0
 refine tk H1 ?_
 refine wp_seq_k fun K4 H4 => ?_
 refine region_in ?_
 refine W_r rfl rfl (VR_ldA rfl (fg1 F3) (S2.obj 0 rfl hc2) Try.underlying23 rfl (by kernel_rfl)) ?_
 refine W_call rfl rfl rfl Try.func28 (by kernel_rfl) rfl (args1 (et rfl)) (lwds_c (C := C) (N := N) (Z := Z) (K := K) (Q := Q)  ) ?_
 rintro _ w5 ⟨rfl, hP5⟩
 refine ⟨_, rfl, ?_⟩
 have S5 := S2.join hP5
 replace S5 : St w NoX [c2] w5 := S5
 refine W_v rfl rfl (V_asg rfl (et rfl)) ?_
 refine W_end (gen_Q fun A6 E6 => ?_)
 have Y6 := szq E6
 have F6 := fsE E6 (cq3 F3 rfl)
 have l5_6 := lookE E6 5 (et rfl)
 clear E6 Y3 F3
 obtain ⟨W, hW⟩ : ∃ z : Int, z = (if cfE C N Z K Q = 0 then Z + N * C else 0) := ⟨_, rfl⟩
 rw [← hW] at l5_6
 have hW1 : cfE C N Z K Q = 0 → W = Z + N * C := fun q => by rw [hW, if_pos q]
 have hW2 : cfE C N Z K Q ≠ 0 → W = 0 := fun q => by rw [hW, if_neg q]
 have hW3 : cfE C N Z K Q = 0 → 60 ≤ Z + N * C ∧ Z + N * C ≤ 1600 := fun q => by have := wd_ok q; omega
 refine tk H4 ?_
 refine wp_seq_k fun K7 H7 => ?_
 refine wp_seq_k fun K8 H8 => ?_
 refine region_in ?_
 refine W_v rfl rfl (V_mov rfl l5_6) ?_
 refine W_v rfl rfl (V_eql rfl (et rfl) rfl) ?_
 refine W_split rfl rfl (V_mov rfl (et rfl)) (fun c9 => ?_) (fun c9 => ?_)
 ·refine W_off rfl (wanted_f rfl rfl (et rfl) (ez rfl) rfl) ?_
  refine W_off rfl (wanted_f rfl rfl (es rfl (et rfl)) (ez rfl) rfl) ?_
  refine W_off rfl (wanted_f rfl rfl (es2 rfl (et rfl)) (ez rfl) rfl) ?_
  refine W_v rfl rfl (V_pickT rfl (es3 rfl (et rfl)) rfl) ?_
  refine W_end (gen_Q fun A10 E10 => ?_)
  have Y10 := szq E10
  have F10 := (fsE E10 (ck (cq6 F6 rfl) rfl rfl)).c (lookE E10 5 (es7 rfl l5_6))
  clear E10 Y6 F6 l5_6
  refine tk H8 ?_
  refine cond_t (fg1 F10) ?_
  refine wp_seq_k fun K11 H11 => ?_
  refine region_in ?_
  refine W_r rfl rfl (VR_ldA rfl (fg3 F10) (S5.obj 0 rfl hc2) Try.underlying23 rfl (by kernel_rfl)) ?_
  refine W_call rfl rfl rfl Try.func16 (by kernel_rfl) rfl (args1 (et rfl)) (kNew8_c (C := C) (N := N) (Z := Z) (K := K) (Q := Q)  ) ?_
  rintro _ w12 ⟨v_12, z_12, rfl, hP12⟩
  refine ⟨_, rfl, ?_⟩
  obtain ⟨c_12, cz_12, hc_12, hcz_12, hP12⟩ := gen2 hP12
  have S12 := S5.join hP12
  replace S12 : St w NoX [c_12, cz_12, c2] w12 := S12
  refine W_v rfl rfl (V_mov rfl (et rfl)) ?_
  refine W_v rfl rfl (V_ext (v := .agg #[v_12, z_12]) rfl (et rfl) rfl) ?_
  refine W_v rfl rfl (V_ext (v := .int .i64 ((cfE C N Z K Q))) rfl (es rfl (et rfl)) rfl) ?_
  refine W_allocS (z := .agg #[.slice none 0 0, .slice none 0 0]) (zs := #[.slice none 0 0, .slice none 0 0]) S12 rfl rfl rfl (by kernel_rfl) (by rfl) (fun g13 w13 c13 hc13 S13 => ?_)
  replace S13 : St w NoX [c13, c_12, cz_12, c2] w13 := S13
  refine W_stAS 0 S13 rfl hc13 rfl rfl rfl (et rfl) (es2 rfl (et rfl)) (by simp only [List.all_toArray, List.all_cons, List.all_nil, rmO_one (S13.chq 1 rfl hc_12), SlN_one (ow_at (S13.chq 2 rfl hcz_12))] <;> rfl) (by rfl) (by kernel_rfl) (fun w14 c14 hc14 S14 => ?_)
  replace S14 : St w NoX [c14, c_12, cz_12, c2] w14 := S14
  refine W_v rfl rfl (V_asg rfl (es rfl (et rfl))) ?_
  refine W_end (gen_Q fun A15 E15 => ?_)
  have Y15 := szq E15
  have F15 := fsE E15 (ck (cq6 F10 rfl) rfl rfl)
  clear E15 Y10 F10
  have S16 : St w NoX [] w14 := S14.sel [] (by decide) rfl
  refine tk H11 ?_
  refine wp_seq_k fun K17 H17 => ?_
  refine region_in ?_
  refine W_v rfl rfl (V_mov rfl (fg1 F15)) ?_
  refine W_v rfl rfl (V_gtr rfl (et rfl) rfl) ?_
  refine W_v rfl rfl (V_mov rfl (es2 rfl (fg0 F15))) ?_
  refine W_v rfl rfl (V_eql rfl (et rfl) rfl) ?_
  refine W_v rfl rfl (V_eqB rfl (es2 rfl (et rfl)) (et rfl) Try.underlying4) ?_
  refine W_sure (c' := true) rfl rfl (V_mov rfl (et rfl)) (by rw [decide_eq_true_eq]; exact decide_eq_decide.2 (by omega)) ?_
  refine W_call rfl (wanted_t rfl rfl (et rfl) (ez rfl)) rfl Try.func10 (by kernel_rfl) rfl (args0) (lawk_c  ) ?_
  rintro _ w18 ⟨rfl, hP18⟩
  refine ⟨_, rfl, ?_⟩
  have S18 := S16.join hP18
  replace S18 : St w NoX [] w18 := S18
  refine W_v rfl rfl (V_pickT rfl (es rfl (et rfl)) (et rfl)) ?_
  refine W_v rfl rfl (V_asg rfl (et rfl)) ?_
  refine W_end (gen_Q fun A19 E19 => ?_)
  have Y19 := szq E19
  have F19 := fsE E19 (ck (cq8 F15 rfl) rfl rfl)
  clear E19 Y15 F15
  refine tk H17 ?_
  refine wp_ret ?_
  refine then_ret ?_
  refine ret_in (results_1 Try.results6 (rv_tmp (fg0 F19))) F19.d ?_
  exact ⟨rfl, S18.fin0⟩
 refine W_v rfl (wanted_t rfl rfl (et rfl) (ez rfl)) (V_mov rfl (es3 rfl (fg0 F6))) ?_
 refine W_v rfl (wanted_t rfl rfl (es rfl (et rfl)) (ez rfl)) (V_lenS rfl (et rfl) (sl_SlN h_av.at) Try.underlying55) ?_
 refine W_v rfl (wanted_t rfl rfl (es2 rfl (et rfl)) (ez rfl)) (V_gtr rfl (et rfl) rfl) ?_
 refine W_v rfl rfl (V_pickF rfl (es3 rfl (et rfl)) (et rfl)) ?_
 refine W_end (gen_Q fun A20 E20 => ?_)
 have Y20 := szq E20
 have F20 := (fsE E20 (ck (cq6 F6 rfl) rfl rfl)).c (lookE E20 5 (es7 rfl l5_6))
 clear E20 Y6 F6 l5_6
 refine tk H8 ?_
 refine cond_dec (fg1 F20) (fun c21 => ?_) (fun c21 => ?_)
 ·refine wp_seq_k fun K22 H22 => ?_
  refine region_in ?_
  refine W_r rfl rfl (VR_ldA rfl (fg3 F20) (S5.obj 0 rfl hc2) Try.underlying23 rfl (by kernel_rfl)) ?_
  refine W_call rfl rfl rfl Try.func16 (by kernel_rfl) rfl (args1 (et rfl)) (kNew8_c (C := C) (N := N) (Z := Z) (K := K) (Q := Q)  ) ?_
  rintro _ w23 ⟨v_23, z_23, rfl, hP23⟩
  refine ⟨_, rfl, ?_⟩
  obtain ⟨c_23, cz_23, hc_23, hcz_23, hP23⟩ := gen2 hP23
  have S23 := S5.join hP23
  replace S23 : St w NoX [c_23, cz_23, c2] w23 := S23
  refine W_v rfl rfl (V_mov rfl (et rfl)) ?_
  refine W_v rfl rfl (V_ext (v := .agg #[v_23, z_23]) rfl (et rfl) rfl) ?_
  refine W_v rfl rfl (V_ext (v := .int .i64 ((cfE C N Z K Q))) rfl (es rfl (et rfl)) rfl) ?_
  refine W_allocS (z := .agg #[.slice none 0 0, .slice none 0 0]) (zs := #[.slice none 0 0, .slice none 0 0]) S23 rfl rfl rfl (by kernel_rfl) (by rfl) (fun g24 w24 c24 hc24 S24 => ?_)
  replace S24 : St w NoX [c24, c_23, cz_23, c2] w24 := S24
  refine W_stAS 0 S24 rfl hc24 rfl rfl rfl (et rfl) (es2 rfl (et rfl)) (by simp only [List.all_toArray, List.all_cons, List.all_nil, rmO_one (S24.chq 1 rfl hc_23), SlN_one (ow_at (S24.chq 2 rfl hcz_23))] <;> rfl) (by rfl) (by kernel_rfl) (fun w25 c25 hc25 S25 => ?_)
  replace S25 : St w NoX [c25, c_23, cz_23, c2] w25 := S25
  refine W_v rfl rfl (V_asg rfl (es rfl (et rfl))) ?_
  refine W_end (gen_Q fun A26 E26 => ?_)
  have Y26 := szq E26
  have F26 := fsE E26 (ck (cq6 F20 rfl) rfl rfl)
  clear E26 Y20 F20
  have S27 : St w NoX [] w25 := S25.sel [] (by decide) rfl
  refine tk H22 ?_
  refine wp_seq_k fun K28 H28 => ?_
  refine region_in ?_
  refine W_v rfl rfl (V_mov rfl (fg1 F26)) ?_
  refine W_v rfl rfl (V_gtr rfl (et rfl) rfl) ?_
  refine W_v rfl rfl (V_mov rfl (es2 rfl (fg0 F26))) ?_
  refine W_v rfl rfl (V_eql rfl (et rfl) rfl) ?_
  refine W_v rfl rfl (V_eqB rfl (es2 rfl (et rfl)) (et rfl) Try.underlying4) ?_
  refine W_sure (c' := true) rfl rfl (V_mov rfl (et rfl)) (by rw [decide_eq_true_eq]; exact decide_eq_decide.2 (by omega)) ?_
  refine W_call rfl (wanted_t rfl rfl (et rfl) (ez rfl)) rfl Try.func10 (by kernel_rfl) rfl (args0) (lawk_c  ) ?_
  rintro _ w29 ⟨rfl, hP29⟩
  refine ⟨_, rfl, ?_⟩
  have S29 := S27.join hP29
  replace S29 : St w NoX [] w29 := S29
  refine W_v rfl rfl (V_pickT rfl (es rfl (et rfl)) (et rfl)) ?_
  refine W_v rfl rfl (V_asg rfl (et rfl)) ?_
  refine W_end (gen_Q fun A30 E30 => ?_)
  have Y30 := szq E30
  have F30 := fsE E30 (ck (cq8 F26 rfl) rfl rfl)
  clear E30 Y26 F26
  refine tk H28 ?_
  refine wp_ret ?_
  refine then_ret ?_
  refine ret_in (results_1 Try.results6 (rv_tmp (fg0 F30))) F30.d ?_
  exact ⟨rfl, S29.fin0⟩
 have hcf : cfE C N Z K Q = 0 := by omega
 have hWe : W = Z + N * C := hW1 hcf
 have hWb := hW3 hcf
 refine wp_skip ?_
 refine tk H7 ?_
 refine wp_seq_k fun K31 H31 => ?_
 refine region_in ?_
 refine W_r rfl rfl (VR_ldA rfl (fg3 F20) (S5.obj 0 rfl hc2) Try.underlying23 rfl (by kernel_rfl)) ?_
 refine W_call rfl rfl rfl Try.func16 (by kernel_rfl) rfl (args1 (et rfl)) (kNew8_c (C := C) (N := N) (Z := Z) (K := K) (Q := Q)  ) ?_
 rintro _ w32 ⟨v_32, z_32, rfl, hP32⟩
 refine ⟨_, rfl, ?_⟩
 obtain ⟨c_32, cz_32, hc_32, hcz_32, hP32⟩ := gen2 hP32
 have S32 := S5.join hP32
 replace S32 : St w NoX [c_32, cz_32, c2] w32 := S32
 refine W_v rfl rfl (V_mov rfl (et rfl)) ?_
 refine W_v rfl rfl (V_ext (v := .agg #[v_32, z_32]) rfl (et rfl) rfl) ?_
 refine W_v rfl rfl (V_ext (v := .int .i64 ((cfE C N Z K Q))) rfl (es rfl (et rfl)) rfl) ?_
 refine W_allocS (z := .agg #[.slice none 0 0, .slice none 0 0]) (zs := #[.slice none 0 0, .slice none 0 0]) S32 rfl rfl rfl (by kernel_rfl) (by rfl) (fun g33 w33 c33 hc33 S33 => ?_)
 replace S33 : St w NoX [c33, c_32, cz_32, c2] w33 := S33
 refine W_stAS 0 S33 rfl hc33 rfl rfl rfl (et rfl) (es2 rfl (et rfl)) (by simp only [List.all_toArray, List.all_cons, List.all_nil, rmO_one (S33.chq 1 rfl hc_32), SlN_one (ow_at (S33.chq 2 rfl hcz_32))] <;> rfl) (by rfl) (by kernel_rfl) (fun w34 c34 hc34 S34 => ?_)
 replace S34 : St w NoX [c34, c_32, cz_32, c2] w34 := S34
 refine W_v rfl rfl (V_asg rfl (es rfl (et rfl))) ?_
 refine W_end (gen_Q fun A35 E35 => ?_)
 have Y35 := szq E35
 have F35 := fsE E35 (ck (ck (cq5 F20 rfl) rfl rfl) rfl rfl)
 clear E35 Y20 F20
 refine tk H31 ?_
 refine wp_seq_k fun K36 H36 => ?_
 refine region_in ?_
 refine W_v rfl rfl (V_mov rfl (fg2 F35)) ?_
 refine W_v rfl rfl (V_add rfl (et rfl) rfl (by omega) (by omega)) ?_
 refine W_mkS (z := .int .i64 0) (bytes := 8) (((W + 1)).toNat) S34 rfl rfl rfl (et rfl) (et rfl) (by omega) Try.underlying25 (by kernel_rfl) (by omega) rfl (fun v37 w37 c37 hc37 S37 => ?_)
 replace hc37 : c37 = io .i64 v37 (List.replicate ((W + 1)).toNat (0 : Int)) := hc37.trans (by simp only [io, bo, List.map_replicate, List.length_replicate])
 replace S37 : St w NoX [c37, c34, c_32, cz_32, c2] w37 := S37
 refine W_v rfl rfl (V_asg rfl (et rfl)) ?_
 refine W_end (gen_Q fun A38 E38 => ?_)
 have Y38 := szq E38
 have F38 := fsE E38 (ck (cq3 F35 rfl) rfl rfl)
 clear E38 Y35 F35
 refine tk H36 ?_
 refine wp_seq_k fun K39 H39 => ?_
 refine wp_seq_k fun K40 H40 => ?_
 refine region_in ?_
 refine W_v rfl rfl (V_asg rfl rfl) ?_
 refine W_end (gen_Q fun A41 E41 => ?_)
 have Y41 := szq E41
 have F41 := fsE E41 (ck F38 rfl rfl)
 clear E41 Y38 F38
 refine tk H40 ?_
 refine wp_block ?_
 -- loop 8
 refine loopX (fun mz A' w' => SzN A' 202 ∧ A'.defers = [] ∧ (∃ (k : Nat) (V : List (List Int)) (ms : List Int) (vv : Value) (zv : Value) (A : List Int) (g : Int), (mz = acts.length - k) ∧ (k ≤ acts.length) ∧ (BI C N Z K Q A (V ++ [ms])) ∧ (WA C N Z K Q A) ∧ (g = 0) ∧ (EV A' (.tmp 11) = .int .i64 (k : Int)) ∧ (EV A' (.tmp 9) = .int .i64 g) ∧ (EV A' (.tmp 1) = EV A41 (.tmp 1)) ∧ (EV A' (.tmp 2) = EV A41 (.tmp 2)) ∧ (EV A' (.tmp 5) = EV A41 (.tmp 5)) ∧ (EV A' (.tmp 8) = EV A41 (.tmp 8)) ∧ (EV A' (.tmp 10) = EV A41 (.tmp 10)) ∧ (St w NoX [io .i64 v37 A, bx g33 29 #[vv, zv], rmO vv V, io .i64 zv ms, bx g2 23 #[.int .i64 (C), .int .i64 (N), .int .i64 (Z), .int .i64 (K), .int .i64 (Q)]] w'))) (acts.length - 0) ⟨Y41, F41.d, 0, (nwC C N Z K Q), (nwN C N Z K Q), v_32, z_32, (List.replicate ((W + 1)).toNat (0 : Int)), (cfE C N Z K Q), rfl, (by omega), (by rw [hWe]; exact BI_new hcf), (by rw [hWe]; exact WA.zero hcf), hcf, (((fg0 F41)).trans (by first | rfl | (simp; done) | (congr 1; omega))), (((fg2 F41)).trans (by first | rfl | (simp; done) | (congr 1; omega))), rfl, rfl, rfl, rfl, rfl, (by subst hc37 hc34 hc_32 hcz_32 hc2; exact S37)⟩ ?_
 clear S37 hc37 hc34 hc_32 hcz_32 hc2
 rintro n42 A42 w42 ⟨Y42, hdf42, k, V, ms, vv, zv, A, g, hm42, hk, hB, hA, hg0, l11_42, l9_42, u1_42, u2_42, u5_42, u8_42, u10_42, S42⟩
 have l1_42 := u1_42.trans (fg6 F41)
 have l2_42 := u2_42.trans (fg7 F41)
 have l5_42 := u5_42.trans (fg4 F41)
 have l8_42 := u8_42.trans (fg3 F41)
 have l10_42 := u10_42.trans (fg1 F41)
 obtain ⟨c37_42, c34_42, c_42, cz_42, c2_42, hc37_42, hc34_42, hc_42, hcz_42, hc2_42, S42⟩ := gen5 S42
 refine wp_seq_k fun K43 H43 => ?_
 refine wp_seq_k fun K44 H44 => ?_
 refine region_in ?_
 refine W_v rfl rfl (V_mov rfl l11_42) ?_
 refine W_v rfl rfl (V_mov rfl (es rfl l1_42)) ?_
 refine W_v rfl rfl (V_lenS rfl (et rfl) (sl_SlN h_av.at) Try.underlying55) ?_
 refine W_v rfl rfl (V_lss rfl (es2 rfl (et rfl)) (et rfl)) ?_
 refine W_split rfl rfl (V_mov rfl (et rfl)) (fun c45 => ?_) (fun c45 => ?_)
 ·have hAl := hA.len
  refine W_v rfl (wanted_t rfl rfl (et rfl) (ez rfl)) (V_mov rfl (es5 rfl l9_42)) ?_
  refine W_v rfl (wanted_t rfl rfl (es rfl (et rfl)) (ez rfl)) (V_eql rfl (et rfl) rfl) ?_
  refine W_v rfl rfl (V_pickT rfl (es2 rfl (et rfl)) (et rfl)) ?_
  refine W_end (gen_Q fun A46 E46 => ?_)
  have Y46 := szq E46
  have F46 := (((((((fsE E46 (ck (ck (ck (cq5 (FS.n hdf42) rfl) rfl rfl) rfl rfl) rfl rfl)).c (lookE E46 1 (es8 rfl l1_42))).c (lookE E46 2 (es8 rfl l2_42))).c (lookE E46 5 (es8 rfl l5_42))).c (lookE E46 8 (es8 rfl l8_42))).c (lookE E46 9 (es8 rfl l9_42))).c (lookE E46 10 (es8 rfl l10_42))).c (lookE E46 11 (es8 rfl l11_42))
  clear E46 Y42 hdf42 l11_42 l9_42 l1_42 l2_42 l5_42 l8_42 l10_42
  refine tk H44 ?_
  refine cond_sure (fg7 F46) (by rw [decide_eq_true_eq]; exact hg0) ?_
  refine wp_skip ?_
  refine tk H43 ?_
  refine wp_seq_k fun K47 H47 => ?_
  refine wp_block ?_
  refine wp_seq_k fun K48 H48 => ?_
  refine region_monoS 20 20 [] (by kernel_rfl) (by kernel_rfl) ?_
  refine D_v rfl rfl (V_mov rfl (fg6 F46)) rfl rfl ?_
  refine D_v rfl rfl (V_mov rfl (es rfl (fg0 F46))) rfl rfl ?_
  have k49 : k < acts.length := by first | omega | (simp only [List.length_cons, List.length_nil]; omega) | (simp only [List.length_set]; omega) | decide
  obtain ⟨y49, hy49⟩ := get_some (xs := acts) (k := k) k49
  have hry49 := hac y49 (List.mem_of_getElem? hy49)
  have hem49 := br_rng (x := y49.1) (W := W) (by omega)
  have hen49 := br_rng2 (x := y49.2) (W := W) (by omega)
  obtain ⟨B49, O49, C49, hv49⟩ := (SlN.blk (sl_SlN h_av.at) (by first | omega | (simp only [List.length_cons, List.length_nil]; omega) | (simp only [List.length_set]; omega) | decide))
  refine D_v rfl rfl (V_ixS (off := O49 + k * 2) 2 (k) rfl (es rfl (et rfl)) (et rfl) hv49 (by omega) k49 Try.underlying55 (by kernel_rfl) rfl) rfl rfl ?_
  refine D_v rfl rfl (V_fa (off' := O49 + k * 2 + 0) rfl (et rfl) Try.underlying59 rfl (by decide +kernel) rfl) rfl rfl ?_
  refine D_r rfl rfl (by kernel_rfl) (fun sx hx hF => (VR_ldC (v := .int .u16 (y49.1)) rfl (et rfl) (SlN.row auC_len (sl_SlN ((S42.grow hx).ro h_av)) hv49 hy49 rfl 0 _ rfl) Try.underlying57 rfl)) rfl rfl ?_
  refine D_v rfl rfl (V_cvt rfl (et rfl) Try.underlying57 Try.underlying3 (wrap_i64 (by omega) (by omega))) rfl rfl ?_
  refine D_v rfl rfl (V_mov rfl (es6 rfl (fg4 F46))) rfl rfl ?_
  refine D_v rfl rfl (V_rem rfl (es rfl (et rfl)) (et rfl) (by omega) (by omega) (wrap_mod (by omega) (by omega))) rfl rfl ?_
  refine D_v rfl rfl (V_add rfl (et rfl) rfl (by omega) (by omega)) rfl rfl ?_
  refine D_v rfl rfl (V_mov rfl (es8 rfl (es rfl (fg6 F46)))) rfl rfl ?_
  refine D_v rfl rfl (V_mov rfl (es8 rfl (es2 rfl (fg0 F46)))) rfl rfl ?_
  refine D_v rfl rfl (V_ixS (off := O49 + k * 2) 2 (k) rfl (es rfl (et rfl)) (et rfl) hv49 (by omega) k49 Try.underlying55 (by kernel_rfl) rfl) rfl rfl ?_
  refine D_v rfl rfl (V_fa (off' := O49 + k * 2 + 1) rfl (et rfl) Try.underlying59 rfl (by decide +kernel) rfl) rfl rfl ?_
  refine D_r rfl rfl (by kernel_rfl) (fun sx hx hF => (VR_ldC (v := .int .u16 (y49.2)) rfl (et rfl) (SlN.row auC_len (sl_SlN ((S42.grow hx).ro h_av)) hv49 hy49 rfl 1 _ rfl) Try.underlying57 rfl)) rfl rfl ?_
  refine D_v rfl rfl (V_cvt rfl (et rfl) Try.underlying57 Try.underlying3 (wrap_i64 (by omega) (by omega))) rfl rfl ?_
  refine D_v rfl rfl (V_mov rfl (es8 rfl (es7 rfl (fg4 F46)))) rfl rfl ?_
  refine D_v rfl rfl (V_add rfl (et rfl) rfl (by omega) (by omega)) rfl rfl ?_
  refine D_v rfl rfl (V_rem rfl (es2 rfl (et rfl)) (et rfl) (by omega) (by omega) (wrap_mod (by omega) (by omega))) rfl rfl ?_
  refine D_v rfl rfl (V_asg rfl (es8 rfl (es rfl (et rfl)))) rfl rfl ?_
  refine D_v rfl rfl (V_asg rfl (es rfl (et rfl))) rfl rfl ?_
  refine ZS_none S42 (Nat.le_refl _) (Nat.le_refl _) (fun s51 hJ51 hL51 hF51 => ?_)
  have S51 := hJ51.st; clear hF51 hJ51 hL51
  generalize s51.1 = w51 at *
  replace S51 : St w NoX [c37_42, c34_42, c_42, cz_42, c2_42] w51 := S51
  refine gen_Q (fun A52 E52 => ?_)
  have Y52 := szq E52
  have F52 := fsE E52 (cq4 (cq8 (cq8 F46 rfl) rfl) rfl)
  have l12_52 := lookE E52 12 (es rfl (et rfl))
  have l13_52 := lookE E52 13 (et rfl)
  clear E52 Y46 F46
  obtain ⟨s, hs⟩ : ∃ z : Int, z = ((y49.1 % W) + 1) := ⟨_, rfl⟩
  rw [← hs] at l12_52
  have hsr : 1 ≤ s ∧ s ≤ W := by rw [hs]; exact br_rng (by omega)
  obtain ⟨v, hv⟩ : ∃ z : Int, z = (y49.2 % (W + 1)) := ⟨_, rfl⟩
  rw [← hv] at l13_52
  have hvr : 0 ≤ v ∧ v ≤ W := by rw [hv]; exact br_rng2 (by omega)
  refine tk H48 ?_
  refine wp_seq_k fun K53 H53 => ?_
  have k54 : s.toNat < A.length := by first | omega | (simp only [List.length_cons, List.length_nil]; omega) | (simp only [List.length_set]; omega) | decide
  obtain ⟨y54, hy54⟩ := get_some (xs := A) (k := s.toNat) k54
  have hgd54 := gd_of hy54
  refine region_monoS 12 13 [none, none, none, none, none, none, none, none, some (SPv [] (fun _ => fun u l' => ∃ v_s z_s, u = .tuple #[.agg #[v_s, z_s], .int .i64 (chE8 C N Z K Q V ms s y54 v)] ∧ ∃ c_s, c_s = rmO v_s (chC C N Z K Q V ms s y54 v) ∧ ∃ cz_s, cz_s = io .i64 (z_s) (chN C N Z K Q V ms s y54 v) ∧ l' = [c_s, cz_s]) 8)] (by kernel_rfl) (by kernel_rfl) ?_
  refine D_r rfl rfl (by kernel_rfl) (fun sx hx hF => (VR_ldA rfl (fg5 F52) ((S51.grow hx).obj 4 rfl hc2_42) Try.underlying23 rfl (by kernel_rfl))) rfl rfl ?_
  refine D_r rfl rfl (by kernel_rfl) (fun sx hx hF => (VR_ldA rfl (es rfl (fg3 F52)) ((S51.grow hx).obj 1 rfl hc34_42) Try.underlying29 rfl (by kernel_rfl))) rfl rfl ?_
  refine D_v rfl rfl (V_mov rfl (es2 rfl l12_52)) rfl rfl ?_
  refine D_v rfl rfl (V_mov rfl (es3 rfl (fg1 F52))) rfl rfl ?_
  refine D_v rfl rfl (V_mov rfl (es4 rfl l12_52)) rfl rfl ?_
  obtain ⟨B54, O54, C54, hv54⟩ := (SlN.blk (ow_at (S51.chq 0 rfl hc37_42)) (by first | omega | (simp only [List.length_cons, List.length_nil]; omega) | (simp only [List.length_set]; omega) | decide))
  refine D_v rfl rfl (V_ixS (off := O54 + s.toNat) 1 (s.toNat) rfl (es rfl (et rfl)) (et rfl) hv54 (by omega) k54 Try.underlying25 (by kernel_rfl) (congrArg _ (Nat.mul_one _))) rfl rfl ?_
  refine D_r rfl rfl (by kernel_rfl) (fun sx hx hF => (VR_ldC rfl (et rfl) ((ow_at ((S51.grow hx).chq 0 rfl hc37_42)).cell hv54 (map_get hy54)) Try.underlying3 rfl)) rfl rfl ?_
  refine D_v rfl rfl (V_mov rfl (es7 rfl l13_52)) rfl rfl ?_
  refine D_call (ts := []) (vs := []) (C0 := fun _ => fun u l' => ∃ v_s z_s, u = .tuple #[.agg #[v_s, z_s], .int .i64 (chE8 C N Z K Q V ms s y54 v)] ∧ ∃ c_s, c_s = rmO v_s (chC C N Z K Q V ms s y54 v) ∧ ∃ cz_s, cz_s = io .i64 (z_s) (chN C N Z K Q V ms s y54 v) ∧ l' = [c_s, cz_s]) (C := fun u l' => ∃ v_s z_s, u = .tuple #[.agg #[v_s, z_s], .int .i64 (chE8 C N Z K Q V ms s y54 v)] ∧ ∃ c_s, c_s = rmO v_s (chC C N Z K Q V ms s y54 v) ∧ ∃ cz_s, cz_s = io .i64 (z_s) (chN C N Z K Q V ms s y54 v) ∧ l' = [c_s, cz_s]) rfl rfl rfl Try.func29 (by kernel_rfl) rfl (args5 (es7 rfl (et rfl)) (es6 rfl (et rfl)) (es5 rfl (et rfl)) (es rfl (et rfl)) (et rfl)) rfl rfl rfl rfl (fun sx hx hF => ?_) (fun u55 l55 hu55 => ?_)
  ·refine (kSto_c (C := C) (N := N) (Z := Z) (K := K) (Q := Q) (slot := s) (old := y54) (now := v) ((S51.grow hx).chC 2 rfl hc_42).rm ((S51.grow hx).chC 3 rfl hcz_42).own ).mono ?_
   rintro _ _ ⟨v_55, z_55, rfl, hz⟩
   exact ⟨_, rfl, _, ⟨_, _, rfl, _, rfl, _, rfl, rfl⟩, hz⟩
  obtain ⟨v_55, z_55, rfl, c_55, hc_55, cz_55, hcz_55, hl55⟩ := hu55
  refine D_v rfl rfl (V_mov rfl (et rfl)) rfl rfl ?_
  refine D_v rfl rfl (V_ext (v := .agg #[v_55, z_55]) rfl (et rfl) rfl) rfl rfl ?_
  refine D_v rfl rfl (V_ext (v := .int .i64 ((chE8 C N Z K Q V ms s y54 v))) rfl (es rfl (et rfl)) rfl) rfl rfl ?_
  refine D_eff rfl ?_
  refine ZS_eff S51 rfl rfl (fun s56 hJ56 hL56 hF56 => ?_)
  obtain ⟨ll55, ws55, we55, ⟨v_55q, z_55q, hq55, c_55r, hc_55r, cz_55r, hcz_55r, hl55r⟩, hm55, k55, e55⟩ := L.all_get hF56; cases hq55; subst hl55r
  replace hJ56 := hJ56.add hL56 (i := 8) rfl hm55 k55 e55
  have S56 := hJ56.st; clear hF56 hJ56 hL56
  generalize s56.1 = w56 at *
  replace S56 : St w NoX [c_55r, cz_55r, c37_42, c34_42, c_42, cz_42, c2_42] w56 := S56
  refine W_stAS 3 S56 rfl hc34_42 rfl rfl rfl (es8 rfl (es4 rfl (fg3 F52))) (es rfl (et rfl)) (by simp only [List.all_toArray, List.all_cons, List.all_nil, rmO_one (S56.chq 0 rfl hc_55r), SlN_one (ow_at (S56.chq 1 rfl hcz_55r))] <;> rfl) (by rfl) (by kernel_rfl) (fun w57 c57 hc57 S57 => ?_)
  replace S57 : St w NoX [c_55r, cz_55r, c37_42, c57, c_42, cz_42, c2_42] w57 := S57
  refine W_v rfl rfl (V_asg rfl (et rfl)) ?_
  refine W_end ?_
  refine Qo_normal ?_
  refine gen_Q (fun A58 E58 => ?_)
  have Y58 := szq E58
  have F58 := ((fsE E58 (ck (cq4 (cq8 (fx2 F52) rfl) rfl) rfl rfl)).c (lookE E58 12 (es8 rfl (es5 rfl l12_52)))).c (lookE E58 13 (es8 rfl (es5 rfl l13_52)))
  clear E58 Y52 F52 l12_52 l13_52
  have S59 : St w NoX [c_55r, cz_55r, c37_42, c57, c2_42] w57 := S57.sel [0, 1, 2, 3, 6] (by decide) rfl
  refine tk H53 ?_
  refine region_in ?_
  refine W_v rfl rfl (V_mov rfl (fg4 F58)) ?_
  refine W_v rfl rfl (V_mov rfl (es rfl (fg1 F58))) ?_
  refine W_v rfl rfl (V_mov rfl (es2 rfl (fg0 F58))) ?_
  refine W_v rfl rfl (V_ixS (off := O54 + s.toNat) 1 (s.toNat) rfl (es2 rfl (et rfl)) (es rfl (et rfl)) hv54 (by omega) k54 Try.underlying25 (by kernel_rfl) (congrArg _ (Nat.mul_one _))) ?_
  refine W_stE 2 S59 rfl hc37_42 hv54 rfl rfl rfl (et rfl) (es rfl (et rfl)) (by rfl) rfl (by first | (simp only [List.length_map]; omega) | omega) (by kernel_rfl) (fun w61 c61 hc61 S61 => ?_)
  replace hc61 : c61 = io .i64 v37 (A.set s.toNat v) := hc61.trans (by simp [io, bo, List.map_set] <;> rfl)
  replace S61 : St w NoX [c_55r, cz_55r, c61, c57, c2_42] w61 := S61
  refine W_end (gen_Q fun A62 E62 => ?_)
  have Y62 := szq E62
  have F62 := fsE E62 (cq4 F58 rfl)
  clear E62 Y58 F58
  refine inb_n ?_
  refine tk H47 ?_
  refine region_in ?_
  refine W_v rfl rfl (V_mov rfl (fg3 F62)) ?_
  refine W_v rfl rfl (V_add rfl (et rfl) rfl (by omega) (by omega)) ?_
  refine W_v rfl rfl (V_asg rfl (et rfl)) ?_
  refine W_end (gen_Q fun A63 E63 => ?_)
  have Y63 := szq E63
  have F63 := fsE E63 (ck (cq2 (fx3 F62) rfl) rfl rfl)
  clear E63 Y62 F62
  have S64 : St w NoX [c61, c57, c_55r, cz_55r, c2_42] w61 := S61.sel [2, 3, 0, 1, 4] (by decide) rfl
  refine then_n ⟨acts.length - (k + 1), by simp only [hm42]; omega, Y63, F63.d, (k + 1), (chC C N Z K Q V ms s y54 v), (chN C N Z K Q V ms s y54 v), v_55, z_55, (A.set s.toNat v), (chE8 C N Z K Q V ms s y54 v), rfl, (by omega), (BI_step hB hA (show 1 ≤ s ∧ s ≤ Z + N * C by omega) (show 0 ≤ v ∧ v ≤ Z + N * C by omega) (gd_of hy54)).2, (hA.set (by omega)), (BI_step hB hA (show 1 ≤ s ∧ s ≤ Z + N * C by omega) (show 0 ≤ v ∧ v ≤ Z + N * C by omega) (gd_of hy54)).1, (((fg0 F63)).trans (by first | rfl | (simp; done) | (congr 1; omega))), (((fg3 F63)).trans (by first | rfl | (simp; done) | (congr 1; omega))), (((fg8 F63)).trans (fg6 F41).symm), (((fg7 F63)).trans (fg7 F41).symm), (((fg6 F63)).trans (fg4 F41).symm), (((fg5 F63)).trans (fg3 F41).symm), (((fg4 F63)).trans (fg1 F41).symm), (by subst hc61 hc57 hc_55r hcz_55r hc2_42; exact S64)⟩
 refine W_off rfl (wanted_f rfl rfl (et rfl) (ez rfl) rfl) ?_
 refine W_off rfl (wanted_f rfl rfl (es rfl (et rfl)) (ez rfl) rfl) ?_
 refine W_v rfl rfl (V_pickF rfl (es2 rfl (et rfl)) rfl) ?_
 refine W_end (gen_Q fun A65 E65 => ?_)
 have Y65 := szq E65
 have F65 := (((((((fsE E65 (ck (ck (ck (cq5 (FS.n hdf42) rfl) rfl rfl) rfl rfl) rfl rfl)).c (lookE E65 1 (es8 rfl l1_42))).c (lookE E65 2 (es8 rfl l2_42))).c (lookE E65 5 (es8 rfl l5_42))).c (lookE E65 8 (es8 rfl l8_42))).c (lookE E65 9 (es8 rfl l9_42))).c (lookE E65 10 (es8 rfl l10_42))).c (lookE E65 11 (es8 rfl l11_42))
 clear E65 Y42 hdf42 l11_42 l9_42 l1_42 l2_42 l5_42 l8_42 l10_42
 refine tk H44 ?_
 refine cond_f (fg7 F65) ?_
 refine wp_exit ?_
 refine then_exit ?_
 refine then_exit ?_
 refine inb_hit ?_
 refine tk H39 ?_
 refine wp_seq_k fun K66 H66 => ?_
 refine wp_seq_k fun K67 H67 => ?_
 refine region_in ?_
 refine W_v rfl rfl (V_mov rfl (fg2 F65)) ?_
 refine W_v rfl rfl (V_neq rfl (et rfl) rfl) ?_
 refine W_end (gen_Q fun A68 E68 => ?_)
 have Y68 := szq E68
 have F68 := fsE E68 (ck (cq1 F65 rfl) rfl rfl)
 clear E68 Y65 F65
 refine tk H67 ?_
 refine cond_not (fg0 F68) (by rw [decide_eq_false_iff_not]; omega) ?_
 refine wp_skip ?_
 refine tk H66 ?_
 refine wp_seq_k fun K69 H69 => ?_
 refine region_in ?_
 refine W_r rfl rfl (VR_ldA rfl (fg6 F68) (S42.obj 4 rfl hc2_42) Try.underlying23 rfl (by kernel_rfl)) ?_
 refine W_call rfl rfl rfl Try.func18 (by kernel_rfl) rfl (args1 (et rfl)) (qNew8_c (C := C) (N := N) (Z := Z) (K := K) (Q := Q)  ) ?_
 rintro _ w70 ⟨v_70, z_70, rfl, hP70⟩
 refine ⟨_, rfl, ?_⟩
 obtain ⟨c_70, cz_70, hc_70, hcz_70, hP70⟩ := gen2 hP70
 have S70 := S42.join hP70
 replace S70 : St w NoX [c_70, cz_70, c37_42, c34_42, c_42, cz_42, c2_42] w70 := S70
 refine W_v rfl rfl (V_mov rfl (et rfl)) ?_
 refine W_v rfl rfl (V_ext (v := .agg #[v_70, z_70]) rfl (et rfl) rfl) ?_
 refine W_v rfl rfl (V_ext (v := .int .i64 ((cfE C N Z K Q))) rfl (es rfl (et rfl)) rfl) ?_
 refine W_allocS (z := .agg #[.slice none 0 0, .slice none 0 0]) (zs := #[.slice none 0 0, .slice none 0 0]) S70 rfl rfl rfl (by kernel_rfl) (by rfl) (fun g71 w71 c71 hc71 S71 => ?_)
 replace S71 : St w NoX [c71, c_70, cz_70, c37_42, c34_42, c_42, cz_42, c2_42] w71 := S71
 refine W_stAS 0 S71 rfl hc71 rfl rfl rfl (et rfl) (es2 rfl (et rfl)) (by simp only [List.all_toArray, List.all_cons, List.all_nil, rmO_one (S71.chq 1 rfl hc_70), SlN_one (ow_at (S71.chq 2 rfl hcz_70))] <;> rfl) (by rfl) (by kernel_rfl) (fun w72 c72 hc72 S72 => ?_)
 replace S72 : St w NoX [c72, c_70, cz_70, c37_42, c34_42, c_42, cz_42, c2_42] w72 := S72
 refine W_v rfl rfl (V_asg rfl (es rfl (et rfl))) ?_
 refine W_end (gen_Q fun A73 E73 => ?_)
 have Y73 := szq E73
 have F73 := fsE E73 (cq1 (ck (cq5 F68 rfl) rfl rfl) rfl)
 clear E73 Y68 F68
 refine tk H69 ?_
 refine wp_seq_k fun K74 H74 => ?_
 refine region_in ?_
 refine W_v rfl rfl (V_asg rfl rfl) ?_
 refine W_end (gen_Q fun A75 E75 => ?_)
 have Y75 := szq E75
 have F75 := fsE E75 (ck F73 rfl rfl)
 clear E75 Y73 F73
 refine tk H74 ?_
 refine wp_seq_k fun K76 H76 => ?_
 refine wp_seq_k fun K77 H77 => ?_
 refine region_in ?_
 refine W_v rfl rfl (V_asg rfl rfl) ?_
 refine W_end (gen_Q fun A78 E78 => ?_)
 have Y78 := szq E78
 have F78 := fsE E78 (ck F75 rfl rfl)
 clear E78 Y75 F75
 refine tk H77 ?_
 refine wp_block ?_
 have S80 := S72.sel [1, 0, 2, 3, 4, 5, 6, 7] (by decide) (l' := [c_70, c72, cz_70, c37_42, c34_42, c_42, cz_42, c2_42]) rfl
 replace S80 : St w NoX [c_70, c72, cz_70, c37_42, c34_42, c_42, cz_42, c2_42] w72 := S80
 obtain ⟨U79, c79, cb79, hU79, hc79, hcb79, S79⟩ := St.rmOpen S80 hc_70
 replace S79 : St w NoX [c79, cb79, c72, cz_70, c37_42, c34_42, c_42, cz_42, c2_42] w72 := S79
 -- loop 18
 refine loopX (fun mz A' w' => SzN A' 202 ∧ A'.defers = [] ∧ (∃ (k : Nat) (U : List SL) (qs : List Int) (zq : Value) (n : Int), (mz = (W + 1).toNat - k) ∧ (1 ≤ k) ∧ ((k : Int) ≤ W + 1) ∧ (QI C N Z K Q A k n (csF U ++ [qs])) ∧ (EV A' (.tmp 17) = .int .i64 (k : Int)) ∧ (EV A' (.tmp 16) = .int .i64 n) ∧ (EV A' (.tmp 2) = EV A78 (.tmp 2)) ∧ (EV A' (.tmp 5) = EV A78 (.tmp 5)) ∧ (EV A' (.tmp 8) = EV A78 (.tmp 8)) ∧ (EV A' (.tmp 10) = EV A78 (.tmp 10)) ∧ (EV A' (.tmp 14) = EV A78 (.tmp 14)) ∧ (St w NoX [ro 1 fstC v_70 U, owl .i64 U, bx g71 29 #[v_70, zq], io .i64 zq qs, io .i64 v37 A, bx g33 29 #[vv, zv], rmO vv V, io .i64 zv ms, bx g2 23 #[.int .i64 (C), .int .i64 (N), .int .i64 (Z), .int .i64 (K), .int .i64 (Q)]] w'))) ((W + 1).toNat - 1) ⟨Y78, F78.d, 1, U79, (nwN C N Z K Q), z_70, 0, rfl, (by omega), (by omega), (by rw [hU79]; exact QI_new hcf), (((fg0 F78)).trans (by first | rfl | (simp; done) | (congr 1; omega))), (((fg1 F78)).trans (by first | rfl | (simp; done) | (congr 1; omega))), rfl, rfl, rfl, rfl, rfl, (by subst hc79 hcb79 hc72 hcz_70 hc37_42 hc34_42 hc_42 hcz_42 hc2_42; exact S79)⟩ ?_
 clear S79 hc79 hcb79 hc72 hcz_70 hc37_42 hc34_42 hc_42 hcz_42 hc2_42
 rintro n81 A81 w81 ⟨Y81, hdf81, k, U, qs, zq, n, hm81, hk1, hk2, hQ, l17_81, l16_81, u2_81, u5_81, u8_81, u10_81, u14_81, S81⟩
 have l2_81 := u2_81.trans (fg9 F78)
 have l5_81 := u5_81.trans (fg8 F78)
 have l8_81 := u8_81.trans (fg7 F78)
 have l10_81 := u10_81.trans (fg5 F78)
 have l14_81 := u14_81.trans (fg2 F78)
 obtain ⟨c79_81, cb79_81, c72_81, cz_81, c37_81, c34_81, c_81, cz_81b, c2_81, hc79_81, hcb79_81, hc72_81, hcz_81, hc37_81, hc34_81, hc_81, hcz_81b, hc2_81, S81⟩ := gen9 S81
 refine wp_seq_k fun K82 H82 => ?_
 refine wp_seq_k fun K83 H83 => ?_
 refine region_in ?_
 refine W_v rfl rfl (V_mov rfl l17_81) ?_
 refine W_v rfl rfl (V_mov rfl (es rfl l5_81)) ?_
 refine W_v rfl rfl (V_leq rfl (es rfl (et rfl)) (et rfl)) ?_
 refine W_end (gen_Q fun A84 E84 => ?_)
 have Y84 := szq E84
 have F84 := (((((((fsE E84 (ck (cq2 (FS.n hdf81) rfl) rfl rfl)).c (lookE E84 2 (es3 rfl l2_81))).c (lookE E84 5 (es3 rfl l5_81))).c (lookE E84 8 (es3 rfl l8_81))).c (lookE E84 10 (es3 rfl l10_81))).c (lookE E84 14 (es3 rfl l14_81))).c (lookE E84 16 (es3 rfl l16_81))).c (lookE E84 17 (es3 rfl l17_81))
 clear E84 Y81 hdf81 l17_81 l16_81 l2_81 l5_81 l8_81 l10_81 l14_81
 refine tk H83 ?_
 refine cond_dec (fg7 F84) (fun c85 => ?_) (fun c85 => ?_)
 ·have hUl := QI_len hQ
  have hnb := QI_bd hQ
  have hAl := hA.len
  refine wp_skip ?_
  refine tk H82 ?_
  refine wp_seq_k fun K86 H86 => ?_
  refine wp_block ?_
  refine wp_seq_k fun K87 H87 => ?_
  refine wp_seq_k fun K88 H88 => ?_
  refine region_in ?_
  refine W_v rfl rfl (V_mov rfl (fg3 F84)) ?_
  refine W_v rfl rfl (V_mov rfl (es rfl (fg0 F84))) ?_
  have k89 : k < A.length := by first | omega | (simp only [List.length_cons, List.length_nil]; omega) | (simp only [List.length_set]; omega) | decide
  obtain ⟨y89, hy89⟩ := get_some (xs := A) (k := k) k89
  have hgd89 := gd_of hy89
  have hpi89 := pl_i hA (k := k) ⟨hk1, by omega⟩
  rw [← hgd89] at hpi89
  obtain ⟨B89, O89, C89, hv89⟩ := (SlN.blk (ow_at (S81.chq 4 rfl hc37_81)) (by first | omega | (simp only [List.length_cons, List.length_nil]; omega) | (simp only [List.length_set]; omega) | decide))
  refine W_v rfl rfl (V_ixS (off := O89 + k) 1 (k) rfl (es rfl (et rfl)) (et rfl) hv89 (by omega) k89 Try.underlying25 (by kernel_rfl) (congrArg _ (Nat.mul_one _))) ?_
  refine W_r rfl rfl (VR_ldC rfl (et rfl) ((ow_at (S81.chq 4 rfl hc37_81)).cell hv89 (map_get hy89)) Try.underlying3 rfl) ?_
  refine W_v rfl rfl (V_eql rfl (et rfl) rfl) ?_
  refine W_end (gen_Q fun A90 E90 => ?_)
  have Y90 := szq E90
  have F90 := fsE E90 (ck (cq4 F84 rfl) rfl rfl)
  clear E90 Y84 F84
  refine tk H88 ?_
  refine cond_dec (fg0 F90) (fun c91 => ?_) (fun c91 => ?_)
  ·refine wp_exit ?_
   refine then_exit ?_
   refine inb_hit ?_
   refine tk H86 ?_
   refine region_in ?_
   refine W_v rfl rfl (V_mov rfl (fg1 F90)) ?_
   refine W_v rfl rfl (V_add rfl (et rfl) rfl (by omega) (by omega)) ?_
   refine W_v rfl rfl (V_asg rfl (et rfl)) ?_
   refine W_end (gen_Q fun A92 E92 => ?_)
   have Y92 := szq E92
   have F92 := fsE E92 (ck (cq2 (fx1 F90) rfl) rfl rfl)
   clear E92 Y90 F90
   refine then_n ⟨(W + 1).toNat - (k + 1), by simp only [hm81]; omega, Y92, F92.d, (k + 1), U, qs, zq, n, rfl, (by omega), (by omega), (QI_skip hQ hk1 (by rw [← hgd89]; exact hpi89.1.2 (by omega))), (((fg0 F92)).trans (by first | rfl | (simp; done) | (congr 1; omega))), (((fg2 F92)).trans (by first | rfl | (simp; done) | (congr 1; omega))), (((fg7 F92)).trans (fg9 F78).symm), (((fg6 F92)).trans (fg8 F78).symm), (((fg5 F92)).trans (fg7 F78).symm), (((fg4 F92)).trans (fg5 F78).symm), (((fg3 F92)).trans (fg2 F78).symm), (by subst hc79_81 hcb79_81 hc72_81 hcz_81 hc37_81 hc34_81 hc_81 hcz_81b hc2_81; exact S81)⟩
  refine wp_skip ?_
  refine tk H87 ?_
  refine wp_seq_k fun K93 H93 => ?_
  refine region_in ?_
  refine W_r rfl rfl (VR_ldA rfl (fg7 F90) (S81.obj 8 rfl hc2_81) Try.underlying23 rfl (by kernel_rfl)) ?_
  refine W_v rfl rfl (V_mov rfl (es rfl (fg1 F90))) ?_
  refine W_call rfl rfl rfl Try.func24 (by kernel_rfl) rfl (args2 (es rfl (et rfl)) (et rfl)) (qca_c (C := C) (N := N) (Z := Z) (K := K) (Q := Q) (a := (k : Int))  ) ?_
  rintro _ w94 ⟨rfl, hP94⟩
  refine ⟨_, rfl, ?_⟩
  have S94 := S81.join hP94
  replace S94 : St w NoX [c79_81, cb79_81, c72_81, cz_81, c37_81, c34_81, c_81, cz_81b, c2_81] w94 := S94
  refine W_v rfl rfl (V_mov rfl (et rfl)) ?_
  refine W_v rfl rfl (V_ext (v := .int .i64 ((caN C N Z K Q (k : Int)))) rfl (et rfl) rfl) ?_
  refine W_v rfl rfl (V_ext (v := .int .i64 ((caE C N Z K Q (k : Int)))) rfl (es rfl (et rfl)) rfl) ?_
  refine W_v rfl rfl (V_asg rfl (es rfl (et rfl))) ?_
  refine W_v rfl rfl (V_asg rfl (es rfl (et rfl))) ?_
  refine W_end (gen_Q fun A95 E95 => ?_)
  have Y95 := szq E95
  have F95 := fsE E95 (cq1 (ck (cq6 F90 rfl) rfl rfl) rfl)
  clear E95 Y90 F90
  refine tk H93 ?_
  refine wp_seq_k fun K96 H96 => ?_
  refine region_monoS 11 11 [none, none, none, none, none, some (SPv [] (fun _ => fun u l' => u = .tuple #[.int .i64 (caN C N Z K Q y89), .int .i64 (caE C N Z K Q y89)] ∧ l' = []) 5)] (by kernel_rfl) (by kernel_rfl) ?_
  refine D_r rfl rfl (by kernel_rfl) (fun sx hx hF => (VR_ldA rfl (fg8 F95) ((S94.grow hx).obj 8 rfl hc2_81) Try.underlying23 rfl (by kernel_rfl))) rfl rfl ?_
  refine D_v rfl rfl (V_mov rfl (es rfl (fg5 F95))) rfl rfl ?_
  refine D_v rfl rfl (V_mov rfl (es2 rfl (fg2 F95))) rfl rfl ?_
  refine D_v rfl rfl (V_ixS (off := O89 + k) 1 (k) rfl (es rfl (et rfl)) (et rfl) hv89 (by omega) k89 Try.underlying25 (by kernel_rfl) (congrArg _ (Nat.mul_one _))) rfl rfl ?_
  refine D_r rfl rfl (by kernel_rfl) (fun sx hx hF => (VR_ldC rfl (et rfl) ((ow_at ((S94.grow hx).chq 4 rfl hc37_81)).cell hv89 (map_get hy89)) Try.underlying3 rfl)) rfl rfl ?_
  refine D_call (ts := []) (vs := []) (C0 := fun _ => fun u l' => u = .tuple #[.int .i64 (caN C N Z K Q y89), .int .i64 (caE C N Z K Q y89)] ∧ l' = []) (C := fun u l' => u = .tuple #[.int .i64 (caN C N Z K Q y89), .int .i64 (caE C N Z K Q y89)] ∧ l' = []) rfl rfl rfl Try.func24 (by kernel_rfl) rfl (args2 (es4 rfl (et rfl)) (et rfl)) rfl rfl rfl rfl (fun sx hx hF => ?_) (fun u98 l98 hu98 => ?_)
  ·refine (qca_c (C := C) (N := N) (Z := Z) (K := K) (Q := Q) (a := y89)  ).mono ?_
   rintro _ _ ⟨rfl, hz⟩
   exact ⟨_, rfl, _, ⟨rfl, rfl⟩, hz⟩
  obtain ⟨rfl, hl98⟩ := hu98
  refine D_v rfl rfl (V_mov rfl (et rfl)) rfl rfl ?_
  refine D_v rfl rfl (V_ext (v := .int .i64 ((caN C N Z K Q y89))) rfl (et rfl) rfl) rfl rfl ?_
  refine D_v rfl rfl (V_ext (v := .int .i64 ((caE C N Z K Q y89))) rfl (es rfl (et rfl)) rfl) rfl rfl ?_
  refine D_v rfl rfl (V_asg rfl (es rfl (et rfl))) rfl rfl ?_
  refine D_v rfl rfl (V_asg rfl (es rfl (et rfl))) rfl rfl ?_
  refine ZS_none S94 (Nat.le_refl _) (Nat.le_refl _) (fun s99 hJ99 hL99 hF99 => ?_)
  obtain ⟨ll98, ws98, we98, ⟨hq98, hl98r⟩, hm98, k98, e98⟩ := L.all_get hF99; cases hq98; subst hl98r
  replace hJ99 := hJ99.add hL99 (i := 5) rfl hm98 k98 e98
  have S99 := hJ99.st; clear hF99 hJ99 hL99
  generalize s99.1 = w99 at *
  replace S99 : St w NoX [c79_81, cb79_81, c72_81, cz_81, c37_81, c34_81, c_81, cz_81b, c2_81] w99 := S99
  refine gen_Q (fun A100 E100 => ?_)
  have Y100 := szq E100
  have F100 := fsE E100 (cq1 (ck (cq1 (cq8 F95 rfl) rfl) rfl rfl) rfl)
  clear E100 Y95 F95
  refine tk H96 ?_
  refine wp_seq_k fun K101 H101 => ?_
  refine wp_seq_k fun K102 H102 => ?_
  refine region_in ?_
  refine W_v rfl rfl (V_mov rfl (fg1 F100)) ?_
  refine W_v rfl rfl (V_lss rfl (et rfl) rfl) ?_
  refine W_split rfl rfl (V_mov rfl (et rfl)) (fun c103 => ?_) (fun c103 => ?_)
  ·refine W_off rfl (wanted_f rfl rfl (et rfl) (ez rfl) rfl) ?_
   refine W_off rfl (wanted_f rfl rfl (es rfl (et rfl)) (ez rfl) rfl) ?_
   refine W_off rfl (wanted_f rfl rfl (es2 rfl (et rfl)) (ez rfl) rfl) ?_
   refine W_v rfl rfl (V_pickT rfl (es3 rfl (et rfl)) rfl) ?_
   refine W_end (gen_Q fun A104 E104 => ?_)
   have Y104 := szq E104
   have F104 := fsE E104 (ck (ck (ck (ck (cq3 F100 rfl) rfl rfl) rfl rfl) rfl rfl) rfl rfl)
   clear E104 Y100 F100
   refine tk H102 ?_
   refine cond_t (fg0 F104) ?_
   refine wp_exit ?_
   refine then_exit ?_
   refine inb_hit ?_
   refine tk H86 ?_
   refine region_in ?_
   refine W_v rfl rfl (V_mov rfl (fg7 F104)) ?_
   refine W_v rfl rfl (V_add rfl (et rfl) rfl (by omega) (by omega)) ?_
   refine W_v rfl rfl (V_asg rfl (et rfl)) ?_
   refine W_end (gen_Q fun A105 E105 => ?_)
   have Y105 := szq E105
   have F105 := fsE E105 (ck (cq2 (fx7 F104) rfl) rfl rfl)
   clear E105 Y104 F104
   refine then_n ⟨(W + 1).toNat - (k + 1), by simp only [hm81]; omega, Y105, F105.d, (k + 1), U, qs, zq, n, rfl, (by omega), (by omega), (QI_skip hQ hk1 (by rw [← hgd89]; exact hpi89.1.2 (by omega))), (((fg0 F105)).trans (by first | rfl | (simp; done) | (congr 1; omega))), (((fg8 F105)).trans (by first | rfl | (simp; done) | (congr 1; omega))), (((fg13 F105)).trans (fg9 F78).symm), (((fg12 F105)).trans (fg8 F78).symm), (((fg11 F105)).trans (fg7 F78).symm), (((fg10 F105)).trans (fg5 F78).symm), (((fg9 F105)).trans (fg2 F78).symm), (by subst hc79_81 hcb79_81 hc72_81 hcz_81 hc37_81 hc34_81 hc_81 hcz_81b hc2_81; exact S99)⟩
  refine W_v rfl (wanted_t rfl rfl (et rfl) (ez rfl)) (V_mov rfl (es3 rfl (fg1 F100))) ?_
  refine W_v rfl (wanted_t rfl rfl (es rfl (et rfl)) (ez rfl)) (V_mov rfl (es4 rfl (fg0 F100))) ?_
  refine W_v rfl (wanted_t rfl rfl (es2 rfl (et rfl)) (ez rfl)) (V_eql rfl (es rfl (et rfl)) (et rfl)) ?_
  refine W_v rfl rfl (V_pickF rfl (es3 rfl (et rfl)) (et rfl)) ?_
  refine W_end (gen_Q fun A106 E106 => ?_)
  have Y106 := szq E106
  have F106 := fsE E106 (ck (ck (ck (ck (cq3 F100 rfl) rfl rfl) rfl rfl) rfl rfl) rfl rfl)
  clear E106 Y100 F100
  refine tk H102 ?_
  refine cond_dec (fg0 F106) (fun c107 => ?_) (fun c107 => ?_)
  ·refine wp_exit ?_
   refine then_exit ?_
   refine inb_hit ?_
   refine tk H86 ?_
   refine region_in ?_
   refine W_v rfl rfl (V_mov rfl (fg7 F106)) ?_
   refine W_v rfl rfl (V_add rfl (et rfl) rfl (by omega) (by omega)) ?_
   refine W_v rfl rfl (V_asg rfl (et rfl)) ?_
   refine W_end (gen_Q fun A108 E108 => ?_)
   have Y108 := szq E108
   have F108 := fsE E108 (ck (cq2 (fx7 F106) rfl) rfl rfl)
   clear E108 Y106 F106
   refine then_n ⟨(W + 1).toNat - (k + 1), by simp only [hm81]; omega, Y108, F108.d, (k + 1), U, qs, zq, n, rfl, (by omega), (by omega), (QI_skip hQ hk1 (by rw [← hgd89]; exact hpi89.1.2 (by omega))), (((fg0 F108)).trans (by first | rfl | (simp; done) | (congr 1; omega))), (((fg8 F108)).trans (by first | rfl | (simp; done) | (congr 1; omega))), (((fg13 F108)).trans (fg9 F78).symm), (((fg12 F108)).trans (fg8 F78).symm), (((fg11 F108)).trans (fg7 F78).symm), (((fg10 F108)).trans (fg5 F78).symm), (((fg9 F108)).trans (fg2 F78).symm), (by subst hc79_81 hcb79_81 hc72_81 hcz_81 hc37_81 hc34_81 hc_81 hcz_81b hc2_81; exact S99)⟩
  refine wp_skip ?_
  refine tk H101 ?_
  refine wp_seq_k fun K109 H109 => ?_
  refine region_in ?_
  refine W_v rfl rfl (V_mov rfl (fg8 F106)) ?_
  refine W_v rfl rfl (V_add rfl (et rfl) rfl (by omega) (by omega)) ?_
  refine W_v rfl rfl (V_asg rfl (et rfl)) ?_
  refine W_end (gen_Q fun A110 E110 => ?_)
  have Y110 := szq E110
  have F110 := fsE E110 (ck (cq2 (fx8 F106) rfl) rfl rfl)
  clear E110 Y106 F106
  refine tk H109 ?_
  refine wp_seq_k fun K111 H111 => ?_
  refine region_in ?_
  refine W_v rfl rfl (V_mov rfl (fg5 F110)) ?_
  refine W_v rfl rfl (V_lss rfl (et rfl) rfl) ?_
  refine W_end (gen_Q fun A112 E112 => ?_)
  have Y112 := szq E112
  have F112 := fsE E112 (ck (cq1 F110 rfl) rfl rfl)
  clear E112 Y110 F110
  refine tk H111 ?_
  refine cond_dec (fg0 F112) (fun c113 => ?_) (fun c113 => ?_)
  ·refine region_in ?_
   refine W_v rfl rfl (V_fa (off' := 1) rfl (fg10 F112) Try.underlying29 rfl (by decide +kernel) rfl) ?_
   refine W_r rfl rfl (VR_ldP (ys := [zq]) rfl (et rfl) (S99.obj 2 rfl hc72_81) (ldP_at rfl) Try.underlying27 rfl (by kernel_rfl)) ?_
   refine W_v rfl rfl (V_mov rfl (es2 rfl (fg9 F112))) ?_
   refine W_call rfl rfl rfl Try.func30 (by kernel_rfl) rfl (args2 (es rfl (et rfl)) (et rfl)) (qAdd_c (a := (k : Int)) (S99.chC 3 rfl hcz_81).own ) ?_
   rintro _ w114 ⟨v_114, rfl, hP114⟩
   refine ⟨_, rfl, ?_⟩
   obtain ⟨c_114, hc_114, hP114⟩ := gen1 hP114
   have S114 := S99.join hP114
   replace S114 : St w NoX [c_114, c79_81, cb79_81, c72_81, cz_81, c37_81, c34_81, c_81, cz_81b, c2_81] w114 := S114
   refine W_v rfl rfl (V_mov rfl (et rfl)) ?_
   refine W_v rfl rfl (V_ext (v := .agg #[v_114]) rfl (et rfl) rfl) ?_
   refine W_v rfl rfl (V_ext (v := .bool ((adB qs (k : Int)))) rfl (es rfl (et rfl)) rfl) ?_
   refine W_v rfl rfl (V_ext (v := .int .i64 ((chE qs (k : Int)))) rfl (es2 rfl (et rfl)) rfl) ?_
   refine W_v rfl rfl (V_fa (off' := 1) rfl (es8 rfl (fg10 F112)) Try.underlying29 rfl (by decide +kernel) rfl) ?_
   refine W_stAM (ys := [v_114]) (zs' := #[v_70, v_114]) 3 S114 rfl hc72_81 rfl rfl rfl (et rfl) (es3 rfl (et rfl)) (by intro u hu; simp only [List.mem_cons, List.not_mem_nil, or_false] at hu; rcases hu with rfl <;> first | exact SlN_one (ow_at (S114.chq 0 rfl hc_114))) (by simp) (by kernel_rfl) rfl (fun w115 c115 hc115 S115 => ?_)
   replace S115 : St w NoX [c_114, c79_81, cb79_81, c115, cz_81, c37_81, c34_81, c_81, cz_81b, c2_81] w115 := S115
   refine W_end (gen_Q fun A116 E116 => ?_)
   have Y116 := szq E116
   have F116 := fsE E116 (cq1 (cq8 F112 rfl) rfl)
   clear E116 Y112 F112
   have S117 : St w NoX [c_114, c79_81, cb79_81, c115, c37_81, c34_81, c_81, cz_81b, c2_81] w115 := S115.sel [0, 1, 2, 3, 5, 6, 7, 8, 9] (by decide) rfl
   refine inb_n ?_
   refine tk H86 ?_
   refine region_in ?_
   refine W_v rfl rfl (V_mov rfl (fg9 F116)) ?_
   refine W_v rfl rfl (V_add rfl (et rfl) rfl (by omega) (by omega)) ?_
   refine W_v rfl rfl (V_asg rfl (et rfl)) ?_
   refine W_end (gen_Q fun A118 E118 => ?_)
   have Y118 := szq E118
   have F118 := fsE E118 (ck (cq2 (fx9 F116) rfl) rfl rfl)
   clear E118 Y116 F116
   have S119 : St w NoX [c79_81, cb79_81, c115, c_114, c37_81, c34_81, c_81, cz_81b, c2_81] w115 := S117.sel [1, 2, 3, 0, 4, 5, 6, 7, 8] (by decide) rfl
   refine then_n ⟨(W + 1).toNat - (k + 1), by simp only [hm81]; omega, Y118, F118.d, (k + 1), U, (adT qs (k : Int)), v_114, (n + 1), rfl, (by omega), (by omega), (QI_nur hQ hA ⟨hk1, by omega⟩ hgd89 (by omega) (by omega)), (((fg0 F118)).trans (by first | rfl | (simp; done) | (congr 1; omega))), (((fg2 F118)).trans (by first | rfl | (simp; done) | (congr 1; omega))), (((fg14 F118)).trans (fg9 F78).symm), (((fg13 F118)).trans (fg8 F78).symm), (((fg12 F118)).trans (fg7 F78).symm), (((fg11 F118)).trans (fg5 F78).symm), (((fg10 F118)).trans (fg2 F78).symm), (by subst hc79_81 hcb79_81 hc115 hc_114 hc37_81 hc34_81 hc_81 hcz_81b hc2_81; exact S119)⟩
  have k120 : ((caN C N Z K Q y89)).toNat < U.length := by first | omega | (simp only [List.length_cons, List.length_nil]; omega) | (simp only [List.length_set]; omega) | decide
  obtain ⟨y120, hy120⟩ := get_some (xs := U) (k := ((caN C N Z K Q y89)).toNat) k120
  refine region_monoS 15 16 [none, none, none, none, none, none, none, none, none, some (SPv [] (fun _ => fun u l' => ∃ v_s, u = .tuple #[.agg #[v_s], .bool (adB y120.2 (k : Int)), .int .i64 (chE y120.2 (k : Int))] ∧ ∃ c_s, c_s = io .i64 (v_s) (adT y120.2 (k : Int)) ∧ l' = [c_s]) 9)] (by kernel_rfl) (by kernel_rfl) ?_
  refine D_v rfl rfl (V_fa (off' := 0) rfl (fg10 F112) Try.underlying29 rfl (by decide +kernel) rfl) rfl rfl ?_
  refine D_r rfl rfl (by kernel_rfl) (fun sx hx hF => (VR_ldC rfl (et rfl) (cell_box (v := v_70) ((S99.grow hx).obj 2 rfl hc72_81) rfl) Try.underlying24 rfl)) rfl rfl ?_
  refine D_v rfl rfl (V_mov rfl (es2 rfl (fg6 F112))) rfl rfl ?_
  refine D_v rfl rfl (V_fa (off' := 0) rfl (es3 rfl (fg10 F112)) Try.underlying29 rfl (by decide +kernel) rfl) rfl rfl ?_
  refine D_r rfl rfl (by kernel_rfl) (fun sx hx hF => (VR_ldC rfl (et rfl) (cell_box (v := v_70) ((S99.grow hx).obj 2 rfl hc72_81) rfl) Try.underlying24 rfl)) rfl rfl ?_
  refine D_v rfl rfl (V_mov rfl (es5 rfl (fg6 F112))) rfl rfl ?_
  obtain ⟨B120, O120, C120, hv120⟩ := (SlN.blk (ow_at (S99.chq 0 rfl hc79_81)) (by first | omega | (simp only [List.length_cons, List.length_nil]; omega) | (simp only [List.length_set]; omega) | decide))
  refine D_v rfl rfl (V_ixS (off := O120 + (((caN C N Z K Q y89)).toNat) * 1) 1 (((caN C N Z K Q y89)).toNat) rfl (es rfl (et rfl)) (et rfl) hv120 (by omega) k120 Try.underlying24 (by kernel_rfl) rfl) rfl rfl ?_
  have bfn121 := SlN.le (sl_SlN (owl_at hy120 (S99.chq 1 rfl hcb79_81)))
  refine D_r rfl rfl (by kernel_rfl) (fun sx hx hF => (VR_ldR (ys := fstC y120) rfl (et rfl) (SlN.row fstC_len (ow_at ((S99.grow hx).chq 0 rfl hc79_81)) hv120 hy120 rfl) Try.underlying27 rfl (by kernel_rfl))) rfl rfl ?_
  refine D_v rfl rfl (V_mov rfl (es8 rfl (fg9 F112))) rfl rfl ?_
  refine D_call (ts := []) (vs := []) (C0 := fun _ => fun u l' => ∃ v_s, u = .tuple #[.agg #[v_s], .bool (adB y120.2 (k : Int)), .int .i64 (chE y120.2 (k : Int))] ∧ ∃ c_s, c_s = io .i64 (v_s) (adT y120.2 (k : Int)) ∧ l' = [c_s]) (C := fun u l' => ∃ v_s, u = .tuple #[.agg #[v_s], .bool (adB y120.2 (k : Int)), .int .i64 (chE y120.2 (k : Int))] ∧ ∃ c_s, c_s = io .i64 (v_s) (adT y120.2 (k : Int)) ∧ l' = [c_s]) rfl rfl rfl Try.func30 (by kernel_rfl) rfl (args2 (es rfl (et rfl)) (et rfl)) rfl rfl rfl rfl (fun sx hx hF => ?_) (fun u122 l122 hu122 => ?_)
  ·refine (qAdd_c (a := (k : Int)) (owl_ro hy120 ((S99.grow hx).chC 1 rfl hcb79_81)) ).mono ?_
   rintro _ _ ⟨v_122, rfl, hz⟩
   exact ⟨_, rfl, _, ⟨_, rfl, _, rfl, rfl⟩, hz⟩
  obtain ⟨v_122, rfl, c_122, hc_122, hl122⟩ := hu122
  refine D_v rfl rfl (V_mov rfl (et rfl)) rfl rfl ?_
  refine D_v rfl rfl (V_ext (v := .agg #[v_122]) rfl (et rfl) rfl) rfl rfl ?_
  refine D_v rfl rfl (V_ext (v := .bool ((adB y120.2 (k : Int)))) rfl (es rfl (et rfl)) rfl) rfl rfl ?_
  refine D_v rfl rfl (V_ext (v := .int .i64 ((chE y120.2 (k : Int)))) rfl (es2 rfl (et rfl)) rfl) rfl rfl ?_
  refine D_v rfl rfl (V_ixS (off := O120 + (((caN C N Z K Q y89)).toNat) * 1) 1 (((caN C N Z K Q y89)).toNat) rfl (es8 rfl (es4 rfl (et rfl))) (es8 rfl (es3 rfl (et rfl))) hv120 (by omega) k120 Try.underlying24 (by kernel_rfl) rfl) rfl rfl ?_
  refine D_eff rfl ?_
  refine ZS_eff S99 rfl rfl (fun s124 hJ124 hL124 hF124 => ?_)
  obtain ⟨ll122, ws122, we122, ⟨v_122q, hq122, c_122r, hc_122r, hl122r⟩, hm122, k122, e122⟩ := L.all_get hF124; cases hq122; subst hl122r
  replace hJ124 := hJ124.add hL124 (i := 9) rfl hm122 k122 e122
  have S124 := hJ124.st; clear hF124 hJ124 hL124
  generalize s124.1 = w124 at *
  replace S124 : St w NoX [c_122r, c79_81, cb79_81, c72_81, cz_81, c37_81, c34_81, c_81, cz_81b, c2_81] w124 := S124
  have S126 := S124.sel [0, 2, 1, 3, 4, 5, 6, 7, 8, 9] (by decide) (l' := [c_122r, cb79_81, c79_81, c72_81, cz_81, c37_81, c34_81, c_81, cz_81b, c2_81]) rfl
  replace S126 : St w NoX [c_122r, cb79_81, c79_81, c72_81, cz_81, c37_81, c34_81, c_81, cz_81b, c2_81] w124 := S126
  refine W_stS1 (j := ((caN C N Z K Q y89)).toNat) S126 hc_122r hcb79_81 hc79_81 hv120 rfl rfl rfl (et rfl) (es3 rfl (et rfl)) (SlN_one (ow_at (S126.chq 0 rfl hc_122r))) rfl (by omega) (by kernel_rfl) (fun w125 ca125 c125 hca125 hc125 S125 => ?_)
  have hsl125 : (U.set (((caN C N Z K Q y89)).toNat) (v_122, (adT y120.2 (k : Int)))).length = U.length := List.length_set ..
  replace S125 : St w NoX [ca125, c125, c72_81, cz_81, c37_81, c34_81, c_81, cz_81b, c2_81] w125 := S125
  refine W_end ?_
  refine Qo_normal ?_
  refine gen_Q (fun A127 E127 => ?_)
  have Y127 := szq E127
  have F127 := fsE E127 (cq7 (cq8 F112 rfl) rfl)
  clear E127 Y112 F112
  refine inb_n ?_
  refine tk H86 ?_
  refine region_in ?_
  refine W_v rfl rfl (V_mov rfl (fg9 F127)) ?_
  refine W_v rfl rfl (V_add rfl (et rfl) rfl (by omega) (by omega)) ?_
  refine W_v rfl rfl (V_asg rfl (et rfl)) ?_
  refine W_end (gen_Q fun A128 E128 => ?_)
  have Y128 := szq E128
  have F128 := fsE E128 (ck (cq2 (fx9 F127) rfl) rfl rfl)
  clear E128 Y127 F127
  have S129 : St w NoX [c125, ca125, c72_81, cz_81, c37_81, c34_81, c_81, cz_81b, c2_81] w125 := S125.sel [1, 0, 2, 3, 4, 5, 6, 7, 8] (by decide) rfl
  refine then_n ⟨(W + 1).toNat - (k + 1), by simp only [hm81]; omega, Y128, F128.d, (k + 1), (U.set (((caN C N Z K Q y89)).toNat) (v_122, (adT y120.2 (k : Int)))), qs, zq, (n + 1), rfl, (by omega), (by omega), (QI_car hQ hA ⟨hk1, by omega⟩ hgd89 (by omega) (by omega) hy120), (((fg0 F128)).trans (by first | rfl | (simp; done) | (congr 1; omega))), (((fg2 F128)).trans (by first | rfl | (simp; done) | (congr 1; omega))), (((fg14 F128)).trans (fg9 F78).symm), (((fg13 F128)).trans (fg8 F78).symm), (((fg12 F128)).trans (fg7 F78).symm), (((fg11 F128)).trans (fg5 F78).symm), (((fg10 F128)).trans (fg2 F78).symm), (by subst hc125 hca125 hc72_81 hcz_81 hc37_81 hc34_81 hc_81 hcz_81b hc2_81; exact S129)⟩
 obtain ⟨c130, hc130, S130⟩ := St.rmClose S81 hc79_81 hcb79_81
 replace S130 : St w NoX [c130, c72_81, cz_81, c37_81, c34_81, c_81, cz_81b, c2_81] w81 := S130
 obtain ⟨z1, z2⟩ := QI_end hQ hB (by omega)
 have hVB := hB.1
 have hct := hVB.ct
 have hVl := hVB.len
 have hUl := QI_len hQ
 have hcl := csF_len U
 have hcr := cf_rng hcf
 refine wp_exit ?_
 refine then_exit ?_
 refine then_exit ?_
 refine inb_hit ?_
 refine tk H76 ?_
 refine wp_seq_k fun K131 H131 => ?_
 refine region_in ?_
 refine W_r rfl rfl (VR_ldA rfl (fg4 F84) (S130.obj 4 rfl hc34_81) Try.underlying29 rfl (by kernel_rfl)) ?_
 refine W_call rfl rfl rfl Try.func15 (by kernel_rfl) rfl (args1 (et rfl)) (kCt8_c (S130.chC 5 rfl hc_81).rm (S130.chC 6 rfl hcz_81b).own (by first | with_reducible assumption | omega | with_reducible exact nwX_len (by omega) | with_reducible exact chX_len (by omega) | with_reducible exact prX_len (by omega) | decide +kernel | (simp; omega))) ?_
 rintro _ w132 ⟨rfl, hP132⟩
 refine ⟨_, rfl, ?_⟩
 have S132 := S130.join hP132
 replace S132 : St w NoX [c130, c72_81, cz_81, c37_81, c34_81, c_81, cz_81b, c2_81] w132 := S132
 refine W_v rfl rfl (V_mov rfl (et rfl)) ?_
 refine W_v rfl rfl (V_ext (v := .int .i64 ((ctP (V ++ [ms])).1)) rfl (et rfl) rfl) ?_
 refine W_v rfl rfl (V_ext (v := .int .i64 ((ctP (V ++ [ms])).2)) rfl (es rfl (et rfl)) rfl) ?_
 refine W_v rfl rfl (V_asg rfl (es rfl (et rfl))) ?_
 refine W_v rfl rfl (V_asg rfl (es rfl (et rfl))) ?_
 refine W_end (gen_Q fun A133 E133 => ?_)
 have Y133 := szq E133
 have F133 := fsE E133 (ck (ck (cq5 F84 rfl) rfl rfl) rfl rfl)
 clear E133 Y84 F84
 have S134 : St w NoX [c130, c72_81, cz_81, c34_81, c_81, cz_81b, c2_81] w132 := S132.sel [0, 1, 2, 4, 5, 6, 7] (by decide) rfl
 refine tk H131 ?_
 refine wp_seq_k fun K135 H135 => ?_
 refine region_in ?_
 refine W_r rfl rfl (VR_ldA rfl (fg8 F133) (S134.obj 6 rfl hc2_81) Try.underlying23 rfl (by kernel_rfl)) ?_
 refine W_r rfl rfl (VR_ldA rfl (es rfl (fg6 F133)) (S134.obj 3 rfl hc34_81) Try.underlying29 rfl (by kernel_rfl)) ?_
 refine W_call rfl rfl rfl Try.func11 (by kernel_rfl) rfl (args2 (es rfl (et rfl)) (et rfl)) (kCk8_c (C := C) (N := N) (Z := Z) (K := K) (Q := Q) (S134.chC 4 rfl hc_81).rm (S134.chC 5 rfl hcz_81b).own ) ?_
 rintro _ w136 ⟨rfl, hP136⟩
 refine ⟨_, rfl, ?_⟩
 have S136 := S134.join hP136
 replace S136 : St w NoX [c130, c72_81, cz_81, c34_81, c_81, cz_81b, c2_81] w136 := S136
 refine W_v rfl rfl (V_mov rfl (et rfl)) ?_
 refine W_v rfl rfl (V_ext (v := .int .i64 ((rmP C N Z K Q V ms).1)) rfl (et rfl) rfl) ?_
 refine W_v rfl rfl (V_ext (v := .int .i64 ((rmP C N Z K Q V ms).2)) rfl (es rfl (et rfl)) rfl) ?_
 refine W_v rfl rfl (V_asg rfl (es rfl (et rfl))) ?_
 refine W_v rfl rfl (V_asg rfl (es rfl (et rfl))) ?_
 refine W_end (gen_Q fun A137 E137 => ?_)
 have Y137 := szq E137
 have F137 := fsE E137 (ck (cq7 F133 rfl) rfl rfl)
 clear E137 Y133 F133
 have S138 : St w NoX [c130, c72_81, cz_81, c34_81, c_81, cz_81b] w136 := S136.sel [0, 1, 2, 3, 4, 5] (by decide) rfl
 refine tk H135 ?_
 refine wp_seq_k fun K139 H139 => ?_
 refine region_in ?_
 refine W_r rfl rfl (VR_ldA rfl (fg7 F137) (S138.obj 3 rfl hc34_81) Try.underlying29 rfl (by kernel_rfl)) ?_
 refine W_r rfl rfl (VR_ldA rfl (es rfl (fg5 F137)) (S138.obj 1 rfl hc72_81) Try.underlying29 rfl (by kernel_rfl)) ?_
 refine W_call rfl rfl rfl Try.func17 (by kernel_rfl) rfl (args2 (es rfl (et rfl)) (et rfl)) (kSm8_c (S138.chC 4 rfl hc_81).rm (S138.chC 5 rfl hcz_81b).own (S138.chC 0 rfl hc130).rm (S138.chC 2 rfl hcz_81).own ) ?_
 rintro _ w140 ⟨rfl, hP140⟩
 refine ⟨_, rfl, ?_⟩
 have S140 := S138.join hP140
 replace S140 : St w NoX [c130, c72_81, cz_81, c34_81, c_81, cz_81b] w140 := S140
 refine W_sure (c' := true) rfl rfl (V_mov rfl (et rfl)) (z1) ?_
 refine W_r rfl (wanted_t rfl rfl (et rfl) (ez rfl)) (VR_ldA rfl (es4 rfl (fg7 F137)) (S140.obj 3 rfl hc34_81) Try.underlying29 rfl (by kernel_rfl)) ?_
 refine W_r rfl (wanted_t rfl rfl (es rfl (et rfl)) (ez rfl)) (VR_ldA rfl (es5 rfl (fg5 F137)) (S140.obj 1 rfl hc72_81) Try.underlying29 rfl (by kernel_rfl)) ?_
 refine W_call rfl (wanted_t rfl rfl (es2 rfl (et rfl)) (ez rfl)) rfl Try.func31 (by kernel_rfl) rfl (args2 (es rfl (et rfl)) (et rfl)) (qSm8_c (S140.chC 4 rfl hc_81).rm (S140.chC 5 rfl hcz_81b).own (S140.chC 0 rfl hc130).rm (S140.chC 2 rfl hcz_81).own (by first | with_reducible assumption | omega | with_reducible exact nwX_len (by omega) | with_reducible exact chX_len (by omega) | with_reducible exact prX_len (by omega) | decide +kernel | (simp; omega)) (by first | with_reducible assumption | omega | with_reducible exact nwX_len (by omega) | with_reducible exact chX_len (by omega) | with_reducible exact prX_len (by omega) | decide +kernel | (simp; omega))) ?_
 rintro _ w141 ⟨rfl, hP141⟩
 refine ⟨_, rfl, ?_⟩
 have S141 := S140.join hP141
 replace S141 : St w NoX [c130, c72_81, cz_81, c34_81, c_81, cz_81b] w141 := S141
 refine W_v rfl rfl (V_pickT rfl (es3 rfl (et rfl)) (et rfl)) ?_
 refine W_sure (c' := true) rfl rfl (V_mov rfl (et rfl)) (z1) ?_
 refine W_v rfl (wanted_t rfl rfl (et rfl) (ez rfl)) (V_mov rfl (es8 rfl (es rfl (fg2 F137)))) ?_
 refine W_v rfl (wanted_t rfl rfl (es rfl (et rfl)) (ez rfl)) (V_mov rfl (es8 rfl (es2 rfl (fg4 F137)))) ?_
 refine W_v rfl (wanted_t rfl rfl (es2 rfl (et rfl)) (ez rfl)) (V_eql rfl (es rfl (et rfl)) (et rfl)) ?_
 refine W_v rfl rfl (V_pickT rfl (es3 rfl (et rfl)) (et rfl)) ?_
 refine W_sure (c' := true) rfl rfl (V_mov rfl (et rfl)) (by rw [decide_eq_true_eq]; exact z2) ?_
 refine W_v rfl (wanted_t rfl rfl (et rfl) (ez rfl)) (V_mov rfl (es8 rfl (es6 rfl (fg1 F137)))) ?_
 refine W_v rfl (wanted_t rfl rfl (es rfl (et rfl)) (ez rfl)) (V_eql rfl (et rfl) rfl) ?_
 refine W_v rfl rfl (V_pickT rfl (es2 rfl (et rfl)) (et rfl)) ?_
 refine W_sure (c' := true) rfl rfl (V_mov rfl (et rfl)) (by rw [decide_eq_true_eq]; rw [hct]) ?_
 refine W_v rfl (wanted_t rfl rfl (et rfl) (ez rfl)) (V_mov rfl (es8 rfl (es8 rfl (es2 rfl (fg0 F137))))) ?_
 refine W_v rfl (wanted_t rfl rfl (es rfl (et rfl)) (ez rfl)) (V_eql rfl (et rfl) rfl) ?_
 refine W_v rfl rfl (V_pickT rfl (es2 rfl (et rfl)) (et rfl)) ?_
 refine W_sure (c' := true) rfl rfl (V_mov rfl (et rfl)) (by rw [decide_eq_true_eq]; exact rm_of hVB) ?_
 refine W_call rfl (wanted_t rfl rfl (et rfl) (ez rfl)) rfl Try.func10 (by kernel_rfl) rfl (args0) (lawk_c  ) ?_
 rintro _ w142 ⟨rfl, hP142⟩
 refine ⟨_, rfl, ?_⟩
 have S142 := S141.join hP142
 replace S142 : St w NoX [c130, c72_81, cz_81, c34_81, c_81, cz_81b] w142 := S142
 refine W_v rfl rfl (V_pickT rfl (es rfl (et rfl)) (et rfl)) ?_
 refine W_v rfl rfl (V_asg rfl (et rfl)) ?_
 refine W_end (gen_Q fun A143 E143 => ?_)
 have Y143 := szq E143
 have F143 := fsE E143 (ck (cq8 (cq8 (cq8 F137 rfl) rfl) rfl) rfl rfl)
 clear E143 Y137 F137
 have S144 : St w NoX [] w142 := S142.sel [] (by decide) rfl
 refine tk H139 ?_
 refine wp_ret ?_
 refine ret_in (results_1 Try.results6 (rv_tmp (fg0 F143))) F143.d ?_
 exact ⟨rfl, S144.fin0⟩

end Go.Proofs.Yteppjefmlibmoaa