import Derived.Test.YteppjefmlibmoaaProg
import Derived.Test.YteppjefmlibmoaaRm7
import Derived.Test.YteppjefmlibmoaaPl8h
namespace Go.Proofs.Yteppjefmlibmoaa
open Go.RowKit Go.Own Go.Own.R Go.Own.S Go.Own.E


set_option maxHeartbeats 4000000 in
theorem lcfg_c  {w : World}   :
  Calls Try.prog 38 #[] w fun e w' => e = .returned (.agg #[.int .i64 8, .int .i64 7, .int .i64 4, .int .i64 1, .int .i64 2]) ∧ St w NoX [] w' := by
 refine calls_in 2 Try.func38 rfl rfl (by simp) (fun A0 Y0 hdf0 hargs => ?_)
 clear hargs; replace Y0 : SzN A0 2 := ⟨Y0⟩
 have hS := St.nil w
 refine wp_seq_k fun K1 H1 => ?_
 refine region_in ?_
 refine W_allocS (z := .agg #[.int .i64 0, .int .i64 0, .int .i64 0, .int .i64 0, .int .i64 0]) (zs := #[.int .i64 0, .int .i64 0, .int .i64 0, .int .i64 0, .int .i64 0]) hS rfl rfl rfl (by kernel_rfl) (by rfl) (fun g2 w2 c2 hc2 S2 => ?_)
 replace S2 : St w NoX [c2] w2 := S2
 refine W_end (gen_Q fun A3 E3 => ?_)
 have Y3 := szq E3
 have F3 := fsE E3 (ck (FS.n hdf0) rfl rfl)
 clear E3 Y0 hdf0
 refine tk H1 ?_
 refine wp_seq_k fun K4 H4 => ?_
 refine region_in ?_
 refine W_v rfl rfl (V_bldS (n := 5) (z := .agg #[.int .i64 0, .int .i64 0, .int .i64 0, .int .i64 0, .int .i64 0]) rfl (parts5 rfl rfl rfl rfl rfl) (by kernel_rfl) (by simp only [List.all_cons, List.all_nil, Bool.and_true] <;> rfl) (by kernel_rfl) (by simp only [List.foldl_cons, List.foldl_nil, Value.cells, List.setIfInBounds_toArray, List.set_cons_succ, List.set_cons_zero] <;> rfl)) ?_
 refine W_stAS 0 S2 rfl hc2 rfl rfl rfl (es rfl (fg0 F3)) (et rfl) (by first | (rw [List.all_toArray] <;> rfl) | (simp only [List.all_toArray, List.all_cons, List.all_nil] <;> rfl)) (by rfl) (by kernel_rfl) (fun w5 c5 hc5 S5 => ?_)
 replace S5 : St w NoX [c5] w5 := S5
 refine W_end (gen_Q fun A6 E6 => ?_)
 have Y6 := szq E6
 have F6 := fsE E6 (cq1 F3 rfl)
 clear E6 Y3 F3
 refine tk H4 ?_
 refine wp_ret ?_
 refine ret_in (results_1 Try.results38 (rv_cellA (fg0 F6) (S5.obj 0 rfl hc5) Try.underlying23 rfl (by kernel_rfl))) F6.d ?_
 exact ⟨rfl, S5.fin0⟩

set_option maxHeartbeats 4000000 in
theorem lis_c {xv : Value} {xs : List Int} {er : Int} {yv : Value} {ys : List Int} {w : World} (h_xv : Ro w NoX (il .i64 xv xs)) (h_yv : Ro w NoX (il .i64 yv ys))  :
  Calls Try.prog 39 #[xv, .int .i64 er, yv] w fun e w' => e = .returned (.bool (decide (er = 0 ∧ xs = ys))) ∧ St w NoX [] w' := by
 refine calls_in 14 Try.func39 rfl rfl (by simp) (fun A0 Y0 hdf0 hargs => ?_)
 have l0_0 := hargs 0 (xv) rfl
 have l1_0 := hargs 1 (.int .i64 er) rfl
 have l2_0 := hargs 2 (yv) rfl
 clear hargs; replace Y0 : SzN A0 14 := ⟨Y0⟩
 have hS := St.nil w
 have bh_xv := SlN.le (sl_SlN h_xv.at)
 have bh_yv := SlN.le (sl_SlN h_yv.at)
 refine wp_seq_k fun K1 H1 => ?_
 refine region_in ?_
 refine W_v rfl rfl (V_asg rfl rfl) ?_
 refine W_end (gen_Q fun A2 E2 => ?_)
 have Y2 := szq E2
 have F2 := (((fsE E2 (cq1 (FS.n hdf0) rfl)).c (lookE E2 0 (es rfl l0_0))).c (lookE E2 1 (es rfl l1_0))).c (lookE E2 2 (es rfl l2_0))
 clear E2 Y0 hdf0 l0_0 l1_0 l2_0
 refine tk H1 ?_
 refine wp_seq_k fun K3 H3 => ?_
 refine region_in ?_
 refine W_v rfl rfl (V_mov rfl (fg1 F2)) ?_
 refine W_v rfl rfl (V_eql rfl (et rfl) rfl) ?_
 refine W_split rfl rfl (V_mov rfl (et rfl)) (fun c4 => ?_) (fun c4 => ?_)
 ·refine W_v rfl (wanted_t rfl rfl (et rfl) (ez rfl)) (V_mov rfl (es3 rfl (fg2 F2))) ?_
  refine W_v rfl (wanted_t rfl rfl (es rfl (et rfl)) (ez rfl)) (V_mov rfl (es4 rfl (fg0 F2))) ?_
  refine W_call rfl (wanted_t rfl rfl (es2 rfl (et rfl)) (ez rfl)) rfl Try.func26 (by kernel_rfl) rfl (args2 (es rfl (et rfl)) (et rfl)) (qInts_c (hS.roC h_xv) (hS.roC h_yv) ) ?_
  rintro _ w5 ⟨rfl, hP5⟩
  refine ⟨_, rfl, ?_⟩
  have S5 := hS.join hP5
  replace S5 : St w NoX [] w5 := S5
  refine W_v rfl rfl (V_pickT rfl (es3 rfl (et rfl)) (et rfl)) ?_
  refine W_v rfl rfl (V_asg rfl (et rfl)) ?_
  refine W_end (gen_Q fun A6 E6 => ?_)
  have Y6 := szq E6
  have F6 := fsE E6 (ck (cq7 F2 rfl) rfl rfl)
  clear E6 Y2 F2
  refine tk H3 ?_
  refine wp_ret ?_
  refine ret_in (results_1 Try.results39 (rv_tmp (fg0 F6))) F6.d ?_
  rw [show (decide (er = 0 ∧ xs = ys)) = decide (xs = ys) from decide_eq_decide.2 ⟨fun q => q.2, fun q => ⟨by omega, q⟩⟩]
  exact ⟨rfl, S5.fin0⟩
 refine W_off rfl (wanted_f rfl rfl (et rfl) (ez rfl) rfl) ?_
 refine W_off rfl (wanted_f rfl rfl (es rfl (et rfl)) (ez rfl) rfl) ?_
 refine W_off rfl (wanted_f rfl rfl (es2 rfl (et rfl)) (ez rfl) rfl) ?_
 refine W_v rfl rfl (V_pickF rfl (es3 rfl (et rfl)) rfl) ?_
 refine W_v rfl rfl (V_asg rfl (et rfl)) ?_
 refine W_end (gen_Q fun A7 E7 => ?_)
 have Y7 := szq E7
 have F7 := fsE E7 (ck (cq7 F2 rfl) rfl rfl)
 clear E7 Y2 F2
 refine tk H3 ?_
 refine wp_ret ?_
 refine ret_in (results_1 Try.results39 (rv_tmp (fg0 F7))) F7.d ?_
 rw [show (decide (er = 0 ∧ xs = ys)) = false from decide_eq_false (fun q => absurd q.1 (by omega))]
 exact ⟨rfl, hS.fin0⟩

set_option maxHeartbeats 4000000 in
theorem lfar_c {cv : Value} {c : List Int} {w : World} (h_cv : Ro w NoX (il .i64 cv c))  :
  Calls Try.prog 37 #[.agg #[cv]] w fun e w' => e = .returned (.bool (decide ((300 < c.length ∧ c.length ≤ 8192) ∨ 8200 < c.length))) ∧ St w NoX [] w' := by
 refine calls_in 17 Try.func37 rfl rfl (by simp) (fun A0 Y0 hdf0 hargs => ?_)
 have l0_0 := hargs 0 (.agg #[cv]) rfl
 clear hargs; replace Y0 : SzN A0 17 := ⟨Y0⟩
 have hS := St.nil w
 have bh_cv := SlN.le (sl_SlN h_cv.at)
 refine wp_seq_k fun K1 H1 => ?_
 refine region_in ?_
 refine W_boxS (zs := #[cv]) hS rfl rfl rfl l0_0 (by rfl) (fun g2 w2 c2 hc2 S2 => ?_)
 replace S2 : St w NoX [c2] w2 := S2
 refine W_v rfl rfl (V_asg rfl rfl) ?_
 refine W_end (gen_Q fun A3 E3 => ?_)
 have Y3 := szq E3
 have F3 := fsE E3 (cq1 (ck (FS.n hdf0) rfl rfl) rfl)
 clear E3 Y0 hdf0 l0_0
 refine tk H1 ?_
 refine wp_seq_k fun K4 H4 => ?_
 refine region_in ?_
 refine W_v rfl rfl (V_fa (off' := 0) rfl (fg0 F3) Try.underlying27 rfl (by decide +kernel) rfl) ?_
 refine W_r rfl rfl (VR_ldC rfl (et rfl) (cell_box (v := cv) (S2.obj 0 rfl hc2) rfl) Try.underlying25 rfl) ?_
 refine W_v rfl rfl (V_lenS rfl (et rfl) (sl_SlN h_cv.at) Try.underlying25) ?_
 refine W_v rfl rfl (V_gtr rfl (et rfl) rfl) ?_
 refine W_split rfl rfl (V_mov rfl (et rfl)) (fun c5 => ?_) (fun c5 => ?_)
 ·refine W_v rfl (wanted_t rfl rfl (et rfl) (ez rfl)) (V_fa (off' := 0) rfl (es5 rfl (fg0 F3)) Try.underlying27 rfl (by decide +kernel) rfl) ?_
  refine W_r rfl (wanted_t rfl rfl (es rfl (et rfl)) (ez rfl)) (VR_ldC rfl (et rfl) (cell_box (v := cv) (S2.obj 0 rfl hc2) rfl) Try.underlying25 rfl) ?_
  refine W_v rfl (wanted_t rfl rfl (es2 rfl (et rfl)) (ez rfl)) (V_lenS rfl (et rfl) (sl_SlN h_cv.at) Try.underlying25) ?_
  refine W_v rfl (wanted_t rfl rfl (es3 rfl (et rfl)) (ez rfl)) (V_leq rfl (et rfl) rfl) ?_
  refine W_v rfl rfl (V_pickT rfl (es4 rfl (et rfl)) (et rfl)) ?_
  refine W_split rfl rfl (V_mov rfl (et rfl)) (fun c6 => ?_) (fun c6 => ?_)
  ·refine W_off rfl (wanted_f rfl rfl (et rfl) (ez rfl) rfl) ?_
   refine W_off rfl (wanted_f rfl rfl (es rfl (et rfl)) (ez rfl) rfl) ?_
   refine W_v rfl rfl (V_pickT rfl (es2 rfl (et rfl)) rfl) ?_
   refine W_v rfl rfl (V_asg rfl (et rfl)) ?_
   refine W_end (gen_Q fun A7 E7 => ?_)
   have Y7 := szq E7
   have F7 := fsE E7 (ck (cq6 (cq8 F3 rfl) rfl) rfl rfl)
   clear E7 Y3 F3
   have S8 : St w NoX [] w2 := S2.sel [] (by decide) rfl
   refine tk H4 ?_
   refine wp_ret ?_
   refine ret_in (results_1 Try.results37 (rv_tmp (fg0 F7))) F7.d ?_
   rw [show (decide ((300 < c.length ∧ c.length ≤ 8192) ∨ 8200 < c.length)) = true by exact decide_eq_true (by omega)]
   exact ⟨rfl, S8.fin0⟩
  refine W_r rfl (wanted_t rfl rfl (et rfl) (ez rfl)) (VR_ldA rfl (es8 rfl (es3 rfl (fg0 F3))) (S2.obj 0 rfl hc2) Try.underlying27 rfl (by kernel_rfl)) ?_
  refine W_call rfl (wanted_t rfl rfl (es rfl (et rfl)) (ez rfl)) rfl Try.func69 (by kernel_rfl) rfl (args1 (et rfl)) (far_c (S2.roC h_cv) ) ?_
  rintro _ w9 ⟨rfl, hP9⟩
  refine ⟨_, rfl, ?_⟩
  have S9 := S2.join hP9
  replace S9 : St w NoX [c2] w9 := S9
  refine W_v rfl rfl (V_pickF rfl (es2 rfl (et rfl)) (et rfl)) ?_
  refine W_v rfl rfl (V_asg rfl (et rfl)) ?_
  refine W_end (gen_Q fun A10 E10 => ?_)
  have Y10 := szq E10
  have F10 := fsE E10 (ck (cq6 (cq8 F3 rfl) rfl) rfl rfl)
  clear E10 Y3 F3
  have S11 : St w NoX [] w9 := S9.sel [] (by decide) rfl
  refine tk H4 ?_
  refine wp_ret ?_
  refine ret_in (results_1 Try.results37 (rv_tmp (fg0 F10))) F10.d ?_
  rw [show (decide ((300 < c.length ∧ c.length ≤ 8192) ∨ 8200 < c.length)) = decide ((600 < c.length ∧ c.length ≤ 8192) ∨ 8200 < c.length) by exact decide_eq_decide.2 (by omega)]
  exact ⟨rfl, S11.fin0⟩
 refine W_off rfl (wanted_f rfl rfl (et rfl) (ez rfl) rfl) ?_
 refine W_off rfl (wanted_f rfl rfl (es rfl (et rfl)) (ez rfl) rfl) ?_
 refine W_off rfl (wanted_f rfl rfl (es2 rfl (et rfl)) (ez rfl) rfl) ?_
 refine W_off rfl (wanted_f rfl rfl (es3 rfl (et rfl)) (ez rfl) rfl) ?_
 refine W_v rfl rfl (V_pickF rfl (es4 rfl (et rfl)) rfl) ?_
 refine W_v rfl rfl (V_mov rfl (et rfl)) ?_
 refine W_r rfl (wanted_t rfl rfl (et rfl) (ez rfl)) (VR_ldA rfl (es8 rfl (es3 rfl (fg0 F3))) (S2.obj 0 rfl hc2) Try.underlying27 rfl (by kernel_rfl)) ?_
 refine W_call rfl (wanted_t rfl rfl (es rfl (et rfl)) (ez rfl)) rfl Try.func69 (by kernel_rfl) rfl (args1 (et rfl)) (far_c (S2.roC h_cv) ) ?_
 rintro _ w12 ⟨rfl, hP12⟩
 refine ⟨_, rfl, ?_⟩
 have S12 := S2.join hP12
 replace S12 : St w NoX [c2] w12 := S12
 refine W_v rfl rfl (V_pickF rfl (es2 rfl (et rfl)) (et rfl)) ?_
 refine W_v rfl rfl (V_asg rfl (et rfl)) ?_
 refine W_end (gen_Q fun A13 E13 => ?_)
 have Y13 := szq E13
 have F13 := fsE E13 (ck (cq6 (cq8 F3 rfl) rfl) rfl rfl)
 clear E13 Y3 F3
 have S14 : St w NoX [] w12 := S12.sel [] (by decide) rfl
 refine tk H4 ?_
 refine wp_ret ?_
 refine ret_in (results_1 Try.results37 (rv_tmp (fg0 F13))) F13.d ?_
 rw [show (decide ((300 < c.length ∧ c.length ≤ 8192) ∨ 8200 < c.length)) = decide ((600 < c.length ∧ c.length ≤ 8192) ∨ 8200 < c.length) by exact decide_eq_decide.2 (by omega)]
 exact ⟨rfl, S14.fin0⟩

set_option maxHeartbeats 4000000 in
theorem lFar_c {cv : Value} {X : List (List Int)} {nv : Value} {ns : List Int} {w : World} (h_cv : Ro w NoX (rmR cv X)) (h_nv : Ro w NoX (il .i64 nv ns))  :
  Calls Try.prog 9 #[.agg #[cv, nv]] w fun e w' => e = .returned (.bool (FarB X ns)) ∧ St w NoX [] w' := by
 obtain ⟨Xu, hXu, k_cv, n_cv⟩ := rmR_open h_cv
 subst hXu
 have b_cv := SlN.le (sl_SlN k_cv.at)
 refine calls_in 26 Try.func9 rfl rfl (by simp) (fun A0 Y0 hdf0 hargs => ?_)
 have l0_0 := hargs 0 (.agg #[cv, nv]) rfl
 clear hargs; replace Y0 : SzN A0 26 := ⟨Y0⟩
 have hS := St.nil w
 have bh_nv := SlN.le (sl_SlN h_nv.at)
 have bk_cv := SlN.le (sl_SlN k_cv.at)
 refine wp_seq_k fun K1 H1 => ?_
 refine region_in ?_
 refine W_boxS (zs := #[cv, nv]) hS rfl rfl rfl l0_0 (by rfl) (fun g2 w2 c2 hc2 S2 => ?_)
 replace S2 : St w NoX [c2] w2 := S2
 refine W_v rfl rfl (V_asg rfl rfl) ?_
 refine W_end (gen_Q fun A3 E3 => ?_)
 have Y3 := szq E3
 have F3 := fsE E3 (cq1 (ck (FS.n hdf0) rfl rfl) rfl)
 clear E3 Y0 hdf0 l0_0
 refine tk H1 ?_
 refine wp_seq_k fun K4 H4 => ?_
 refine wp_seq_k fun K5 H5 => ?_
 refine region_in ?_
 refine W_v rfl rfl (V_fa (off' := 0) rfl (fg0 F3) Try.underlying29 rfl (by decide +kernel) rfl) ?_
 refine W_r rfl rfl (VR_ldC rfl (et rfl) (cell_box (v := cv) (S2.obj 0 rfl hc2) rfl) Try.underlying24 rfl) ?_
 refine W_v rfl rfl (V_lenS rfl (et rfl) (sl_SlN k_cv.at) Try.underlying24) ?_
 refine W_v rfl rfl (V_gtr rfl (et rfl) rfl) ?_
 refine W_split rfl rfl (V_mov rfl (et rfl)) (fun c6 => ?_) (fun c6 => ?_)
 ·refine W_off rfl (wanted_f rfl rfl (et rfl) (ez rfl) rfl) ?_
  refine W_off rfl (wanted_f rfl rfl (es rfl (et rfl)) (ez rfl) rfl) ?_
  refine W_off rfl (wanted_f rfl rfl (es2 rfl (et rfl)) (ez rfl) rfl) ?_
  refine W_v rfl rfl (V_pickT rfl (es3 rfl (et rfl)) rfl) ?_
  refine W_end (gen_Q fun A7 E7 => ?_)
  have Y7 := szq E7
  have F7 := fsE E7 (ck (cq8 F3 rfl) rfl rfl)
  clear E7 Y3 F3
  refine tk H5 ?_
  refine cond_t (fg0 F7) ?_
  refine wp_seq_k fun K8 H8 => ?_
  refine region_in ?_
  refine W_v rfl rfl (V_asg rfl rfl) ?_
  refine W_end (gen_Q fun A9 E9 => ?_)
  have Y9 := szq E9
  have F9 := fsE E9 (ck F7 rfl rfl)
  clear E9 Y7 F7
  have S10 : St w NoX [] w2 := S2.sel [] (by decide) rfl
  refine tk H8 ?_
  refine wp_ret ?_
  refine then_ret ?_
  refine ret_in (results_1 Try.results9 (rv_tmp (fg0 F9))) F9.d ?_
  rw [show FarB (csF Xu) ns = true from far_1 (by rw [csF_len]; omega)]
  exact ⟨rfl, S10.fin0⟩
 refine W_v rfl (wanted_t rfl rfl (et rfl) (ez rfl)) (V_fa (off' := 1) rfl (es5 rfl (fg0 F3)) Try.underlying29 rfl (by decide +kernel) rfl) ?_
 refine W_r rfl (wanted_t rfl rfl (es rfl (et rfl)) (ez rfl)) (VR_ldP (ys := [nv]) rfl (et rfl) (S2.obj 0 rfl hc2) (ldP_at rfl) Try.underlying27 rfl (by kernel_rfl)) ?_
 refine W_call rfl (wanted_t rfl rfl (es2 rfl (et rfl)) (ez rfl)) rfl Try.func37 (by kernel_rfl) rfl (args1 (et rfl)) (lfar_c (S2.roC h_nv) ) ?_
 rintro _ w11 ⟨rfl, hP11⟩
 refine ⟨_, rfl, ?_⟩
 have S11 := S2.join hP11
 replace S11 : St w NoX [c2] w11 := S11
 refine W_v rfl rfl (V_pickF rfl (es3 rfl (et rfl)) (et rfl)) ?_
 refine W_end (gen_Q fun A12 E12 => ?_)
 have Y12 := szq E12
 have F12 := fsE E12 (ck (cq8 F3 rfl) rfl rfl)
 clear E12 Y3 F3
 refine tk H5 ?_
 refine cond_dec (fg0 F12) (fun c13 => ?_) (fun c13 => ?_)
 ·refine wp_seq_k fun K14 H14 => ?_
  refine region_in ?_
  refine W_v rfl rfl (V_asg rfl rfl) ?_
  refine W_end (gen_Q fun A15 E15 => ?_)
  have Y15 := szq E15
  have F15 := fsE E15 (ck F12 rfl rfl)
  clear E15 Y12 F12
  have S16 : St w NoX [] w11 := S11.sel [] (by decide) rfl
  refine tk H14 ?_
  refine wp_ret ?_
  refine then_ret ?_
  refine ret_in (results_1 Try.results9 (rv_tmp (fg0 F15))) F15.d ?_
  rw [show FarB (csF Xu) ns = true from far_2 (fr_T (by omega))]
  exact ⟨rfl, S16.fin0⟩
 refine wp_skip ?_
 refine tk H4 ?_
 refine wp_seq_k fun K17 H17 => ?_
 refine wp_seq_k fun K18 H18 => ?_
 refine region_in ?_
 refine W_v rfl rfl (V_asg rfl rfl) ?_
 refine W_end (gen_Q fun A19 E19 => ?_)
 have Y19 := szq E19
 have F19 := fsE E19 (cq1 F12 rfl)
 have l3_19 := lookE E19 3 (et rfl)
 clear E19 Y12 F12
 refine tk H18 ?_
 refine wp_block ?_
 -- loop 4
 refine loopX (fun mz A' w' => SzN A' 26 ∧ A'.defers = [] ∧ (∃ (k : Nat), (mz = Xu.length - k) ∧ (k ≤ Xu.length) ∧ (∀ c ∈ (csF Xu).take k, frB c = false) ∧ (EV A' (.tmp 3) = .int .i64 (k : Int)) ∧ (EV A' (.tmp 1) = EV A19 (.tmp 1)) ∧ (St w NoX [bx g2 29 #[cv, nv]] w'))) (Xu.length - 0) ⟨Y19, F19.d, 0, rfl, (by omega), (fun c hc => by simp at hc), ((l3_19).trans (by first | rfl | (simp; done) | (congr 1; omega))), rfl, (by subst hc2; exact S11)⟩ ?_
 clear S11 hc2
 rintro n20 A20 w20 ⟨Y20, hdf20, k, hm20, hk, hz, l3_20, u1_20, S20⟩
 have l1_20 := u1_20.trans (fg1 F19)
 obtain ⟨c2_20, hc2_20, S20⟩ := gen1 S20
 refine wp_seq_k fun K21 H21 => ?_
 refine wp_seq_k fun K22 H22 => ?_
 refine region_in ?_
 refine W_v rfl rfl (V_mov rfl l3_20) ?_
 refine W_v rfl rfl (V_fa (off' := 0) rfl (es rfl l1_20) Try.underlying29 rfl (by decide +kernel) rfl) ?_
 refine W_r rfl rfl (VR_ldC rfl (et rfl) (cell_box (v := cv) (S20.obj 0 rfl hc2_20) rfl) Try.underlying24 rfl) ?_
 refine W_v rfl rfl (V_lenS rfl (et rfl) (sl_SlN k_cv.at) Try.underlying24) ?_
 refine W_v rfl rfl (V_lss rfl (es3 rfl (et rfl)) (et rfl)) ?_
 refine W_end (gen_Q fun A23 E23 => ?_)
 have Y23 := szq E23
 have F23 := ((fsE E23 (ck (cq4 (FS.n hdf20) rfl) rfl rfl)).c (lookE E23 1 (es5 rfl l1_20))).c (lookE E23 3 (es5 rfl l3_20))
 clear E23 Y20 hdf20 l3_20 l1_20
 refine tk H22 ?_
 refine cond_dec (fg2 F23) (fun c24 => ?_) (fun c24 => ?_)
 ·refine wp_skip ?_
  refine tk H21 ?_
  refine wp_seq_k fun K25 H25 => ?_
  refine wp_block ?_
  refine wp_seq_k fun K26 H26 => ?_
  refine region_in ?_
  refine W_v rfl rfl (V_fa (off' := 0) rfl (fg1 F23) Try.underlying29 rfl (by decide +kernel) rfl) ?_
  refine W_r rfl rfl (VR_ldC rfl (et rfl) (cell_box (v := cv) (S20.obj 0 rfl hc2_20) rfl) Try.underlying24 rfl) ?_
  refine W_v rfl rfl (V_mov rfl (es2 rfl (fg0 F23))) ?_
  have k27 : k < Xu.length := by first | omega | (simp only [List.length_cons, List.length_nil]; omega) | (simp only [List.length_set]; omega) | decide
  obtain ⟨y27, hy27⟩ := get_some (xs := Xu) (k := k) k27
  obtain ⟨B27, O27, C27, hv27⟩ := (SlN.blk (sl_SlN k_cv.at) (by first | omega | (simp only [List.length_cons, List.length_nil]; omega) | (simp only [List.length_set]; omega) | decide))
  refine W_v rfl rfl (V_ixS (off := O27 + k * 1) 1 (k) rfl (es rfl (et rfl)) (et rfl) hv27 (by omega) k27 Try.underlying24 (by kernel_rfl) rfl) ?_
  have fn28 : Ro w NoX (il .i64 y27.1 y27.2) := nsi_ro1 n_cv hy27
  have bfn28 := SlN.le (sl_SlN (S20.ro fn28))
  refine W_r rfl rfl (VR_ldR (ys := fstC y27) rfl (et rfl) (SlN.row fstC_len (sl_SlN (S20.ro k_cv)) hv27 hy27 rfl) Try.underlying27 rfl (by kernel_rfl)) ?_
  refine W_call rfl rfl rfl Try.func37 (by kernel_rfl) rfl (args1 (et rfl)) (lfar_c (S20.roC fn28) ) ?_
  rintro _ w29 ⟨rfl, hP29⟩
  refine ⟨_, rfl, ?_⟩
  have S29 := S20.join hP29
  replace S29 : St w NoX [c2_20] w29 := S29
  refine W_end (gen_Q fun A30 E30 => ?_)
  have Y30 := szq E30
  have F30 := fsE E30 (ck (cq5 F23 rfl) rfl rfl)
  clear E30 Y23 F23
  refine tk H26 ?_
  refine cond_dec (fg0 F30) (fun c31 => ?_) (fun c31 => ?_)
  ·refine wp_seq_k fun K32 H32 => ?_
   refine region_in ?_
   refine W_v rfl rfl (V_asg rfl rfl) ?_
   refine W_end (gen_Q fun A33 E33 => ?_)
   have Y33 := szq E33
   have F33 := fsE E33 (ck F30 rfl rfl)
   clear E33 Y30 F30
   have S34 : St w NoX [] w29 := S29.sel [] (by decide) rfl
   refine tk H32 ?_
   refine wp_ret ?_
   refine inb_ret ?_
   refine then_ret ?_
   refine then_ret ?_
   refine inb_ret ?_
   refine then_ret ?_
   refine ret_in (results_1 Try.results9 (rv_tmp (fg0 F33))) F33.d ?_
   rw [show FarB (csF Xu) ns = true from far_3 (csF_at hy27) (fr_T (by omega))]
   exact ⟨rfl, S34.fin0⟩
  refine wp_skip ?_
  refine inb_n ?_
  refine tk H25 ?_
  refine region_in ?_
  refine W_v rfl rfl (V_mov rfl (fg1 F30)) ?_
  refine W_v rfl rfl (V_add rfl (et rfl) rfl (by omega) (by omega)) ?_
  refine W_v rfl rfl (V_asg rfl (et rfl)) ?_
  refine W_end (gen_Q fun A35 E35 => ?_)
  have Y35 := szq E35
  have F35 := fsE E35 (ck (cq2 (fx1 F30) rfl) rfl rfl)
  clear E35 Y30 F30
  refine then_n ⟨Xu.length - (k + 1), by simp only [hm20]; omega, Y35, F35.d, (k + 1), rfl, (by omega), (fr_step hz (csF_at hy27) (fr_F (by omega))), (((fg0 F35)).trans (by first | rfl | (simp; done) | (congr 1; omega))), (((fg2 F35)).trans (fg1 F19).symm), (by subst hc2_20; exact S29)⟩
 refine wp_exit ?_
 refine then_exit ?_
 refine then_exit ?_
 refine inb_hit ?_
 refine tk H17 ?_
 refine wp_seq_k fun K36 H36 => ?_
 refine region_in ?_
 refine W_v rfl rfl (V_asg rfl rfl) ?_
 refine W_end (gen_Q fun A37 E37 => ?_)
 have Y37 := szq E37
 have F37 := fsE E37 (ck F23 rfl rfl)
 clear E37 Y23 F23
 have S38 : St w NoX [] w20 := S20.sel [] (by decide) rfl
 refine tk H36 ?_
 refine wp_ret ?_
 refine ret_in (results_1 Try.results9 (rv_tmp (fg0 F37))) F37.d ?_
 rw [show FarB (csF Xu) ns = false from far_no (k := k) (by rw [csF_len]; omega) (fr_F (by omega)) hz (by rw [csF_len]; omega)]
 exact ⟨rfl, S38.fin0⟩

set_option maxHeartbeats 4000000 in
theorem lawk_c  {w : World}   :
  Calls Try.prog 10 #[] w fun e w' => e = .returned (.bool true) ∧ St w NoX [] w' := by
 refine calls_in 126 Try.func10 rfl rfl (by simp) (fun A0 Y0 hdf0 hargs => ?_)
 clear hargs; replace Y0 : SzN A0 126 := ⟨Y0⟩
 have hS := St.nil w
 refine wp_seq_k fun K1 H1 => ?_
 refine region_in ?_
 refine W_v rfl rfl (V_asg rfl rfl) ?_
 refine W_end (gen_Q fun A2 E2 => ?_)
 have Y2 := szq E2
 have F2 := fsE E2 (cq1 (FS.n hdf0) rfl)
 clear E2 Y0 hdf0
 refine tk H1 ?_
 refine wp_seq_k fun K3 H3 => ?_
 refine region_in ?_
 refine W_call rfl rfl rfl Try.func38 (by kernel_rfl) rfl (args0) (lcfg_c  ) ?_
 rintro _ w4 ⟨rfl, hP4⟩
 refine ⟨_, rfl, ?_⟩
 have S4 := hS.join hP4
 replace S4 : St w NoX [] w4 := S4
 refine W_allocS (z := .agg #[.int .i64 0, .int .i64 0, .int .i64 0, .int .i64 0, .int .i64 0]) (zs := #[.int .i64 0, .int .i64 0, .int .i64 0, .int .i64 0, .int .i64 0]) S4 rfl rfl rfl (by kernel_rfl) (by rfl) (fun g5 w5 c5 hc5 S5 => ?_)
 replace S5 : St w NoX [c5] w5 := S5
 refine W_stAS 0 S5 rfl hc5 rfl rfl rfl (et rfl) (es rfl (et rfl)) (by first | (rw [List.all_toArray] <;> rfl) | (simp only [List.all_toArray, List.all_cons, List.all_nil] <;> rfl)) (by rfl) (by kernel_rfl) (fun w6 c6 hc6 S6 => ?_)
 replace S6 : St w NoX [c6] w6 := S6
 refine W_end (gen_Q fun A7 E7 => ?_)
 have Y7 := szq E7
 have F7 := fsE E7 (ck (cq1 F2 rfl) rfl rfl)
 clear E7 Y2 F2
 refine tk H3 ?_
 refine wp_seq_k fun K8 H8 => ?_
 refine region_in ?_
 refine W_r rfl rfl (VR_ldA rfl (fg0 F7) (S6.obj 0 rfl hc6) Try.underlying23 rfl (by kernel_rfl)) ?_
 refine W_call rfl rfl rfl Try.func16 (by kernel_rfl) rfl (args1 (et rfl)) (kNew8_c (C := 8) (N := 7) (Z := 4) (K := 1) (Q := 2)  ) ?_
 rintro _ w9 ⟨v_9, z_9, rfl, hP9⟩
 refine ⟨_, rfl, ?_⟩
 obtain ⟨c_9, cz_9, hc_9, hcz_9, hP9⟩ := gen2 hP9
 have S9 := S6.join hP9
 replace S9 : St w NoX [c_9, cz_9, c6] w9 := S9
 refine W_v rfl rfl (V_mov rfl (et rfl)) ?_
 refine W_v rfl rfl (V_ext (v := .agg #[v_9, z_9]) rfl (et rfl) rfl) ?_
 refine W_v rfl rfl (V_ext (v := .int .i64 ((cfE 8 7 4 1 2))) rfl (es rfl (et rfl)) rfl) ?_
 refine W_allocS (z := .agg #[.slice none 0 0, .slice none 0 0]) (zs := #[.slice none 0 0, .slice none 0 0]) S9 rfl rfl rfl (by kernel_rfl) (by rfl) (fun g10 w10 c10 hc10 S10 => ?_)
 replace S10 : St w NoX [c10, c_9, cz_9, c6] w10 := S10
 refine W_stAS 0 S10 rfl hc10 rfl rfl rfl (et rfl) (es2 rfl (et rfl)) (by simp only [List.all_toArray, List.all_cons, List.all_nil, rmO_one (S10.chq 1 rfl hc_9), SlN_one (ow_at (S10.chq 2 rfl hcz_9))] <;> rfl) (by rfl) (by kernel_rfl) (fun w11 c11 hc11 S11 => ?_)
 replace S11 : St w NoX [c11, c_9, cz_9, c6] w11 := S11
 refine W_v rfl rfl (V_asg rfl (es rfl (et rfl))) ?_
 refine W_end (gen_Q fun A12 E12 => ?_)
 have Y12 := szq E12
 have F12 := fsE E12 (ck (ck (cq5 F7 rfl) rfl rfl) rfl rfl)
 clear E12 Y7 F7
 refine tk H8 ?_
 refine wp_seq_k fun K13 H13 => ?_
 refine region_in ?_
 refine W_r rfl rfl (VR_ldA rfl (fg2 F12) (S11.obj 3 rfl hc6) Try.underlying23 rfl (by kernel_rfl)) ?_
 refine W_r rfl rfl (VR_ldA rfl (es rfl (fg1 F12)) (S11.obj 0 rfl hc11) Try.underlying29 rfl (by kernel_rfl)) ?_
 refine W_call rfl rfl rfl Try.func22 (by kernel_rfl) rfl (args4 (es rfl (et rfl)) (et rfl) rfl rfl) (kRec_c (C := 8) (N := 7) (Z := 4) (K := 1) (Q := 2) (slot := 6) (now := 13) (S11.chC 1 rfl hc_9).rm (S11.chC 2 rfl hcz_9).own ) ?_
 rintro _ w14 ⟨v_14, z_14, rfl, hP14⟩
 refine ⟨_, rfl, ?_⟩
 obtain ⟨c_14, cz_14, hc_14, hcz_14, hP14⟩ := gen2 hP14
 have S14 := S11.join hP14
 replace S14 : St w NoX [c_14, cz_14, c11, c_9, cz_9, c6] w14 := S14
 refine W_v rfl rfl (V_mov rfl (et rfl)) ?_
 refine W_v rfl rfl (V_ext (v := .agg #[v_14, z_14]) rfl (et rfl) rfl) ?_
 refine W_v rfl rfl (V_ext (v := .int .i64 ((chE8 8 7 4 1 2 (nwC 8 7 4 1 2) (nwN 8 7 4 1 2) 6 0 13))) rfl (es rfl (et rfl)) rfl) ?_
 refine W_allocS (z := .agg #[.slice none 0 0, .slice none 0 0]) (zs := #[.slice none 0 0, .slice none 0 0]) S14 rfl rfl rfl (by kernel_rfl) (by rfl) (fun g15 w15 c15 hc15 S15 => ?_)
 replace S15 : St w NoX [c15, c_14, cz_14, c11, c_9, cz_9, c6] w15 := S15
 refine W_stAS 0 S15 rfl hc15 rfl rfl rfl (et rfl) (es2 rfl (et rfl)) (by simp only [List.all_toArray, List.all_cons, List.all_nil, rmO_one (S15.chq 1 rfl hc_14), SlN_one (ow_at (S15.chq 2 rfl hcz_14))] <;> rfl) (by rfl) (by kernel_rfl) (fun w16 c16 hc16 S16 => ?_)
 replace S16 : St w NoX [c16, c_14, cz_14, c11, c_9, cz_9, c6] w16 := S16
 refine W_v rfl rfl (V_asg rfl (es rfl (et rfl))) ?_
 refine W_end (gen_Q fun A17 E17 => ?_)
 have Y17 := szq E17
 have F17 := fsE E17 (ck (ck (cq6 F12 rfl) rfl rfl) rfl rfl)
 clear E17 Y12 F12
 refine tk H13 ?_
 refine wp_seq_k fun K18 H18 => ?_
 refine region_in ?_
 refine W_r rfl rfl (VR_ldA rfl (fg1 F17) (S16.obj 0 rfl hc16) Try.underlying29 rfl (by kernel_rfl)) ?_
 refine W_call rfl rfl rfl Try.func12 (by kernel_rfl) rfl (args2 (et rfl) rfl) (kIn8_c (i := 1) (S16.chC 1 rfl hc_14).rm (S16.chC 2 rfl hcz_14).own ) ?_
 rintro _ w19 ⟨v_19, rfl, hP19⟩
 refine ⟨_, rfl, ?_⟩
 obtain ⟨c_19, hc_19, hP19⟩ := gen1 hP19
 have S19 := S16.join hP19
 replace S19 : St w NoX [c_19, c16, c_14, cz_14, c11, c_9, cz_9, c6] w19 := S19
 refine W_v rfl rfl (V_mov rfl (et rfl)) ?_
 refine W_v rfl rfl (V_ext (v := v_19) rfl (et rfl) rfl) ?_
 refine W_v rfl rfl (V_ext (v := .int .i64 ((itE (chC 8 7 4 1 2 (nwC 8 7 4 1 2) (nwN 8 7 4 1 2) 6 0 13) 1))) rfl (es rfl (et rfl)) rfl) ?_
 refine W_v rfl rfl (V_asg rfl (es rfl (et rfl))) ?_
 refine W_v rfl rfl (V_asg rfl (es rfl (et rfl))) ?_
 refine W_end (gen_Q fun A20 E20 => ?_)
 have Y20 := szq E20
 have F20 := fsE E20 (ck (ck (cq5 F17 rfl) rfl rfl) rfl rfl)
 clear E20 Y17 F17
 refine tk H18 ?_
 refine wp_seq_k fun K21 H21 => ?_
 refine region_in ?_
 refine W_r rfl rfl (VR_ldA rfl (fg6 F20) (S19.obj 7 rfl hc6) Try.underlying23 rfl (by kernel_rfl)) ?_
 refine W_r rfl rfl (VR_ldA rfl (es rfl (fg5 F20)) (S19.obj 4 rfl hc11) Try.underlying29 rfl (by kernel_rfl)) ?_
 refine W_call rfl rfl rfl Try.func22 (by kernel_rfl) rfl (args4 (es rfl (et rfl)) (et rfl) rfl rfl) (kRec_c (C := 8) (N := 7) (Z := 4) (K := 1) (Q := 2) (slot := 6) (now := 7) (S19.chC 5 rfl hc_9).rm (S19.chC 6 rfl hcz_9).own ) ?_
 rintro _ w22 ⟨v_22, z_22, rfl, hP22⟩
 refine ⟨_, rfl, ?_⟩
 obtain ⟨c_22, cz_22, hc_22, hcz_22, hP22⟩ := gen2 hP22
 have S22 := S19.join hP22
 replace S22 : St w NoX [c_22, cz_22, c_19, c16, c_14, cz_14, c11, c_9, cz_9, c6] w22 := S22
 refine W_v rfl rfl (V_mov rfl (et rfl)) ?_
 refine W_v rfl rfl (V_ext (v := .agg #[v_22, z_22]) rfl (et rfl) rfl) ?_
 refine W_v rfl rfl (V_ext (v := .int .i64 ((chE8 8 7 4 1 2 (nwC 8 7 4 1 2) (nwN 8 7 4 1 2) 6 0 7))) rfl (es rfl (et rfl)) rfl) ?_
 refine W_allocS (z := .agg #[.slice none 0 0, .slice none 0 0]) (zs := #[.slice none 0 0, .slice none 0 0]) S22 rfl rfl rfl (by kernel_rfl) (by rfl) (fun g23 w23 c23 hc23 S23 => ?_)
 replace S23 : St w NoX [c23, c_22, cz_22, c_19, c16, c_14, cz_14, c11, c_9, cz_9, c6] w23 := S23
 refine W_stAS 0 S23 rfl hc23 rfl rfl rfl (et rfl) (es2 rfl (et rfl)) (by simp only [List.all_toArray, List.all_cons, List.all_nil, rmO_one (S23.chq 1 rfl hc_22), SlN_one (ow_at (S23.chq 2 rfl hcz_22))] <;> rfl) (by rfl) (by kernel_rfl) (fun w24 c24 hc24 S24 => ?_)
 replace S24 : St w NoX [c24, c_22, cz_22, c_19, c16, c_14, cz_14, c11, c_9, cz_9, c6] w24 := S24
 refine W_v rfl rfl (V_asg rfl (es rfl (et rfl))) ?_
 refine W_end (gen_Q fun A25 E25 => ?_)
 have Y25 := szq E25
 have F25 := fsE E25 (ck (ck (cq6 F20 rfl) rfl rfl) rfl rfl)
 clear E25 Y20 F20
 refine tk H21 ?_
 refine wp_seq_k fun K26 H26 => ?_
 refine region_in ?_
 refine W_r rfl rfl (VR_ldA rfl (fg1 F25) (S24.obj 0 rfl hc24) Try.underlying29 rfl (by kernel_rfl)) ?_
 refine W_call rfl rfl rfl Try.func15 (by kernel_rfl) rfl (args1 (et rfl)) (kCt8_c (S24.chC 1 rfl hc_22).rm (S24.chC 2 rfl hcz_22).own (by first | with_reducible assumption | omega | with_reducible exact nwX_len (by omega) | with_reducible exact chX_len (by omega) | with_reducible exact prX_len (by omega) | decide +kernel | (simp; omega))) ?_
 rintro _ w27 ⟨rfl, hP27⟩
 refine ⟨_, rfl, ?_⟩
 have S27 := S24.join hP27
 replace S27 : St w NoX [c24, c_22, cz_22, c_19, c16, c_14, cz_14, c11, c_9, cz_9, c6] w27 := S27
 refine W_v rfl rfl (V_mov rfl (et rfl)) ?_
 refine W_v rfl rfl (V_ext (v := .int .i64 ((ctP ((chC 8 7 4 1 2 (nwC 8 7 4 1 2) (nwN 8 7 4 1 2) 6 0 7) ++ [(chN 8 7 4 1 2 (nwC 8 7 4 1 2) (nwN 8 7 4 1 2) 6 0 7)])).1)) rfl (et rfl) rfl) ?_
 refine W_v rfl rfl (V_ext (v := .int .i64 ((ctP ((chC 8 7 4 1 2 (nwC 8 7 4 1 2) (nwN 8 7 4 1 2) 6 0 7) ++ [(chN 8 7 4 1 2 (nwC 8 7 4 1 2) (nwN 8 7 4 1 2) 6 0 7)])).2)) rfl (es rfl (et rfl)) rfl) ?_
 refine W_v rfl rfl (V_asg rfl (es rfl (et rfl))) ?_
 refine W_v rfl rfl (V_asg rfl (es rfl (et rfl))) ?_
 refine W_end (gen_Q fun A28 E28 => ?_)
 have Y28 := szq E28
 have F28 := fsE E28 (ck (ck (cq5 F25 rfl) rfl rfl) rfl rfl)
 clear E28 Y25 F25
 have S29 : St w NoX [c_19, c16, c_14, cz_14, c11, c_9, cz_9, c6] w27 := S27.sel [3, 4, 5, 6, 7, 8, 9, 10] (by decide) rfl
 refine tk H26 ?_
 refine wp_seq_k fun K30 H30 => ?_
 refine region_in ?_
 refine W_r rfl rfl (VR_ldA rfl (fg10 F28) (S29.obj 7 rfl hc6) Try.underlying23 rfl (by kernel_rfl)) ?_
 refine W_r rfl rfl (VR_ldA rfl (es rfl (fg9 F28)) (S29.obj 4 rfl hc11) Try.underlying29 rfl (by kernel_rfl)) ?_
 refine W_call rfl rfl rfl Try.func22 (by kernel_rfl) rfl (args4 (es rfl (et rfl)) (et rfl) rfl rfl) (kRec_c (C := 8) (N := 7) (Z := 4) (K := 1) (Q := 2) (slot := 6) (now := 1) (S29.chC 5 rfl hc_9).rm (S29.chC 6 rfl hcz_9).own ) ?_
 rintro _ w31 ⟨v_31, z_31, rfl, hP31⟩
 refine ⟨_, rfl, ?_⟩
 obtain ⟨c_31, cz_31, hc_31, hcz_31, hP31⟩ := gen2 hP31
 have S31 := S29.join hP31
 replace S31 : St w NoX [c_31, cz_31, c_19, c16, c_14, cz_14, c11, c_9, cz_9, c6] w31 := S31
 refine W_v rfl rfl (V_mov rfl (et rfl)) ?_
 refine W_v rfl rfl (V_ext (v := .agg #[v_31, z_31]) rfl (et rfl) rfl) ?_
 refine W_v rfl rfl (V_ext (v := .int .i64 ((chE8 8 7 4 1 2 (nwC 8 7 4 1 2) (nwN 8 7 4 1 2) 6 0 1))) rfl (es rfl (et rfl)) rfl) ?_
 refine W_allocS (z := .agg #[.slice none 0 0, .slice none 0 0]) (zs := #[.slice none 0 0, .slice none 0 0]) S31 rfl rfl rfl (by kernel_rfl) (by rfl) (fun g32 w32 c32 hc32 S32 => ?_)
 replace S32 : St w NoX [c32, c_31, cz_31, c_19, c16, c_14, cz_14, c11, c_9, cz_9, c6] w32 := S32
 refine W_stAS 0 S32 rfl hc32 rfl rfl rfl (et rfl) (es2 rfl (et rfl)) (by simp only [List.all_toArray, List.all_cons, List.all_nil, rmO_one (S32.chq 1 rfl hc_31), SlN_one (ow_at (S32.chq 2 rfl hcz_31))] <;> rfl) (by rfl) (by kernel_rfl) (fun w33 c33 hc33 S33 => ?_)
 replace S33 : St w NoX [c33, c_31, cz_31, c_19, c16, c_14, cz_14, c11, c_9, cz_9, c6] w33 := S33
 refine W_v rfl rfl (V_asg rfl (es rfl (et rfl))) ?_
 refine W_end (gen_Q fun A34 E34 => ?_)
 have Y34 := szq E34
 have F34 := fsE E34 (ck (ck (cq6 F28 rfl) rfl rfl) rfl rfl)
 clear E34 Y28 F28
 refine tk H30 ?_
 refine wp_seq_k fun K35 H35 => ?_
 refine region_in ?_
 refine W_r rfl rfl (VR_ldA rfl (fg1 F34) (S33.obj 0 rfl hc33) Try.underlying29 rfl (by kernel_rfl)) ?_
 refine W_call rfl rfl rfl Try.func34 (by kernel_rfl) rfl (args1 (et rfl)) (kYg8_c (S33.chC 1 rfl hc_31).rm (S33.chC 2 rfl hcz_31).own ) ?_
 rintro _ w36 ⟨v_36, rfl, hP36⟩
 refine ⟨_, rfl, ?_⟩
 obtain ⟨c_36, hc_36, hP36⟩ := gen1 hP36
 have S36 := S33.join hP36
 replace S36 : St w NoX [c_36, c33, c_31, cz_31, c_19, c16, c_14, cz_14, c11, c_9, cz_9, c6] w36 := S36
 refine W_v rfl rfl (V_mov rfl (et rfl)) ?_
 refine W_v rfl rfl (V_ext (v := v_36) rfl (et rfl) rfl) ?_
 refine W_v rfl rfl (V_ext (v := .int .i64 ((ckS (chN 8 7 4 1 2 (nwC 8 7 4 1 2) (nwN 8 7 4 1 2) 6 0 1)).2)) rfl (es rfl (et rfl)) rfl) ?_
 refine W_v rfl rfl (V_asg rfl (es rfl (et rfl))) ?_
 refine W_v rfl rfl (V_asg rfl (es rfl (et rfl))) ?_
 refine W_end (gen_Q fun A37 E37 => ?_)
 have Y37 := szq E37
 have F37 := fsE E37 (ck (ck (cq5 F34 rfl) rfl rfl) rfl rfl)
 clear E37 Y34 F34
 have S38 : St w NoX [c_36, c_19, c16, c_14, cz_14, c11, c_9, cz_9, c6] w36 := S36.sel [0, 4, 5, 6, 7, 8, 9, 10, 11] (by decide) rfl
 refine tk H35 ?_
 refine wp_seq_k fun K39 H39 => ?_
 refine region_in ?_
 refine W_r rfl rfl (VR_ldA rfl (fg14 F37) (S38.obj 8 rfl hc6) Try.underlying23 rfl (by kernel_rfl)) ?_
 refine W_r rfl rfl (VR_ldA rfl (es rfl (fg11 F37)) (S38.obj 2 rfl hc16) Try.underlying29 rfl (by kernel_rfl)) ?_
 refine W_call rfl rfl rfl Try.func29 (by kernel_rfl) rfl (args5 (es rfl (et rfl)) (et rfl) rfl rfl rfl) (kSto_c (C := 8) (N := 7) (Z := 4) (K := 1) (Q := 2) (slot := 6) (old := 13) (now := 21) (S38.chC 3 rfl hc_14).rm (S38.chC 4 rfl hcz_14).own ) ?_
 rintro _ w40 ⟨v_40, z_40, rfl, hP40⟩
 refine ⟨_, rfl, ?_⟩
 obtain ⟨c_40, cz_40, hc_40, hcz_40, hP40⟩ := gen2 hP40
 have S40 := S38.join hP40
 replace S40 : St w NoX [c_40, cz_40, c_36, c_19, c16, c_14, cz_14, c11, c_9, cz_9, c6] w40 := S40
 refine W_v rfl rfl (V_mov rfl (et rfl)) ?_
 refine W_v rfl rfl (V_ext (v := .agg #[v_40, z_40]) rfl (et rfl) rfl) ?_
 refine W_v rfl rfl (V_ext (v := .int .i64 ((chE8 8 7 4 1 2 (chC 8 7 4 1 2 (nwC 8 7 4 1 2) (nwN 8 7 4 1 2) 6 0 13) (chN 8 7 4 1 2 (nwC 8 7 4 1 2) (nwN 8 7 4 1 2) 6 0 13) 6 13 21))) rfl (es rfl (et rfl)) rfl) ?_
 refine W_allocS (z := .agg #[.slice none 0 0, .slice none 0 0]) (zs := #[.slice none 0 0, .slice none 0 0]) S40 rfl rfl rfl (by kernel_rfl) (by rfl) (fun g41 w41 c41 hc41 S41 => ?_)
 replace S41 : St w NoX [c41, c_40, cz_40, c_36, c_19, c16, c_14, cz_14, c11, c_9, cz_9, c6] w41 := S41
 refine W_stAS 0 S41 rfl hc41 rfl rfl rfl (et rfl) (es2 rfl (et rfl)) (by simp only [List.all_toArray, List.all_cons, List.all_nil, rmO_one (S41.chq 1 rfl hc_40), SlN_one (ow_at (S41.chq 2 rfl hcz_40))] <;> rfl) (by rfl) (by kernel_rfl) (fun w42 c42 hc42 S42 => ?_)
 replace S42 : St w NoX [c42, c_40, cz_40, c_36, c_19, c16, c_14, cz_14, c11, c_9, cz_9, c6] w42 := S42
 refine W_v rfl rfl (V_asg rfl (es rfl (et rfl))) ?_
 refine W_end (gen_Q fun A43 E43 => ?_)
 have Y43 := szq E43
 have F43 := fsE E43 (ck (ck (cq6 F37 rfl) rfl rfl) rfl rfl)
 clear E43 Y37 F37
 have S44 : St w NoX [c42, c_40, cz_40, c_36, c_19, c11, c_9, cz_9, c6] w42 := S42.sel [0, 1, 2, 3, 4, 8, 9, 10, 11] (by decide) rfl
 refine tk H39 ?_
 refine wp_seq_k fun K45 H45 => ?_
 refine region_in ?_
 refine W_r rfl rfl (VR_ldA rfl (fg1 F43) (S44.obj 0 rfl hc42) Try.underlying29 rfl (by kernel_rfl)) ?_
 refine W_call rfl rfl rfl Try.func12 (by kernel_rfl) rfl (args2 (et rfl) rfl) (kIn8_c (i := 2) (S44.chC 1 rfl hc_40).rm (S44.chC 2 rfl hcz_40).own ) ?_
 rintro _ w46 ⟨v_46, rfl, hP46⟩
 refine ⟨_, rfl, ?_⟩
 obtain ⟨c_46, hc_46, hP46⟩ := gen1 hP46
 have S46 := S44.join hP46
 replace S46 : St w NoX [c_46, c42, c_40, cz_40, c_36, c_19, c11, c_9, cz_9, c6] w46 := S46
 refine W_v rfl rfl (V_mov rfl (et rfl)) ?_
 refine W_v rfl rfl (V_ext (v := v_46) rfl (et rfl) rfl) ?_
 refine W_v rfl rfl (V_ext (v := .int .i64 ((itE (chC 8 7 4 1 2 (chC 8 7 4 1 2 (nwC 8 7 4 1 2) (nwN 8 7 4 1 2) 6 0 13) (chN 8 7 4 1 2 (nwC 8 7 4 1 2) (nwN 8 7 4 1 2) 6 0 13) 6 13 21) 2))) rfl (es rfl (et rfl)) rfl) ?_
 refine W_v rfl rfl (V_asg rfl (es rfl (et rfl))) ?_
 refine W_v rfl rfl (V_asg rfl (es rfl (et rfl))) ?_
 refine W_end (gen_Q fun A47 E47 => ?_)
 have Y47 := szq E47
 have F47 := fsE E47 (ck (ck (cq5 F43 rfl) rfl rfl) rfl rfl)
 clear E47 Y43 F43
 have S48 : St w NoX [c_46, c_36, c_19, c11, c_9, cz_9, c6] w46 := S46.sel [0, 4, 5, 6, 7, 8, 9] (by decide) rfl
 refine tk H45 ?_
 refine wp_seq_k fun K49 H49 => ?_
 refine region_in ?_
 refine W_r rfl rfl (VR_ldA rfl (fg18 F47) (S48.obj 6 rfl hc6) Try.underlying23 rfl (by kernel_rfl)) ?_
 refine W_r rfl rfl (VR_ldA rfl (es rfl (fg17 F47)) (S48.obj 3 rfl hc11) Try.underlying29 rfl (by kernel_rfl)) ?_
 refine W_call rfl rfl rfl Try.func22 (by kernel_rfl) rfl (args4 (es rfl (et rfl)) (et rfl) rfl rfl) (kRec_c (C := 8) (N := 7) (Z := 4) (K := 1) (Q := 2) (slot := 6) (now := 61) (S48.chC 4 rfl hc_9).rm (S48.chC 5 rfl hcz_9).own ) ?_
 rintro _ w50 ⟨v_50, z_50, rfl, hP50⟩
 refine ⟨_, rfl, ?_⟩
 obtain ⟨c_50, cz_50, hc_50, hcz_50, hP50⟩ := gen2 hP50
 have S50 := S48.join hP50
 replace S50 : St w NoX [c_50, cz_50, c_46, c_36, c_19, c11, c_9, cz_9, c6] w50 := S50
 refine W_v rfl rfl (V_mov rfl (et rfl)) ?_
 refine W_v rfl rfl (V_ext (v := .agg #[v_50, z_50]) rfl (et rfl) rfl) ?_
 refine W_v rfl rfl (V_ext (v := .int .i64 ((chE8 8 7 4 1 2 (nwC 8 7 4 1 2) (nwN 8 7 4 1 2) 6 0 61))) rfl (es rfl (et rfl)) rfl) ?_
 refine W_allocS (z := .agg #[.slice none 0 0, .slice none 0 0]) (zs := #[.slice none 0 0, .slice none 0 0]) S50 rfl rfl rfl (by kernel_rfl) (by rfl) (fun g51 w51 c51 hc51 S51 => ?_)
 replace S51 : St w NoX [c51, c_50, cz_50, c_46, c_36, c_19, c11, c_9, cz_9, c6] w51 := S51
 refine W_stAS 0 S51 rfl hc51 rfl rfl rfl (et rfl) (es2 rfl (et rfl)) (by simp only [List.all_toArray, List.all_cons, List.all_nil, rmO_one (S51.chq 1 rfl hc_50), SlN_one (ow_at (S51.chq 2 rfl hcz_50))] <;> rfl) (by rfl) (by kernel_rfl) (fun w52 c52 hc52 S52 => ?_)
 replace S52 : St w NoX [c52, c_50, cz_50, c_46, c_36, c_19, c11, c_9, cz_9, c6] w52 := S52
 refine W_v rfl rfl (V_asg rfl (es rfl (et rfl))) ?_
 refine W_end (gen_Q fun A53 E53 => ?_)
 have Y53 := szq E53
 have F53 := fsE E53 (ck (cq7 F47 rfl) rfl rfl)
 clear E53 Y47 F47
 have S54 : St w NoX [c_46, c_36, c_19] w52 := S52.sel [3, 4, 5] (by decide) rfl
 refine tk H49 ?_
 refine wp_seq_k fun K55 H55 => ?_
 refine region_in ?_
 refine W_v rfl rfl (V_mov rfl (fg17 F53)) ?_
 refine W_v rfl rfl (V_eql rfl (et rfl) rfl) ?_
 refine W_sure (c' := true) rfl rfl (V_mov rfl (et rfl)) (by decide +kernel) ?_
 refine W_v rfl (wanted_t rfl rfl (et rfl) (ez rfl)) (V_mov rfl (es3 rfl (fg15 F53))) ?_
 refine W_v rfl (wanted_t rfl rfl (es rfl (et rfl)) (ez rfl)) (V_eql rfl (et rfl) rfl) ?_
 refine W_v rfl rfl (V_pickT rfl (es2 rfl (et rfl)) (et rfl)) ?_
 refine W_sure (c' := true) rfl rfl (V_mov rfl (et rfl)) (by decide +kernel) ?_
 refine W_v rfl (wanted_t rfl rfl (et rfl) (ez rfl)) (V_mov rfl (es7 rfl (fg14 F53))) ?_
 refine W_v rfl (wanted_t rfl rfl (es rfl (et rfl)) (ez rfl)) (V_mov rfl (es8 rfl (fg13 F53))) ?_
 have hll56 : [6].length = 1 := rfl
 refine W_litS (vs := [.int .i64 6]) (xs := ([6].map (Value.int .i64))) 1 S54 rfl (wanted_t rfl rfl (es2 rfl (et rfl)) (ez rfl)) rfl (parts1 rfl) rfl Try.underlying25 (by kernel_rfl) (by decide) (by intro v hv; simp only [List.mem_cons, List.not_mem_nil, or_false] at hv; rcases hv with rfl <;> rfl) (by rfl) (fun g56 w56 c56 hc56 S56 => ?_)
 replace hc56 : c56 = io .i64 (.slice (some ⟨g56, 0, none⟩) 1 1) [6] := hc56
 replace S56 : St w NoX [c56, c_46, c_36, c_19] w56 := S56
 refine W_call rfl (wanted_t rfl rfl (es3 rfl (et rfl)) (ez rfl)) rfl Try.func39 (by kernel_rfl) rfl (args3 (es2 rfl (et rfl)) (es rfl (et rfl)) (et rfl)) (lis_c (er := (itE (chC 8 7 4 1 2 (nwC 8 7 4 1 2) (nwN 8 7 4 1 2) 6 0 13) 1)) (S56.chC 3 rfl hc_19).own (S56.chC 0 rfl hc56).own ) ?_
 rintro _ w57 ⟨rfl, hP57⟩
 refine ⟨_, rfl, ?_⟩
 have S57 := S56.join hP57
 replace S57 : St w NoX [c56, c_46, c_36, c_19] w57 := S57
 refine W_v rfl rfl (V_pickT rfl (es4 rfl (et rfl)) (et rfl)) ?_
 refine W_sure (c' := true) rfl rfl (V_mov rfl (et rfl)) (by decide +kernel) ?_
 refine W_v rfl (wanted_t rfl rfl (et rfl) (ez rfl)) (V_mov rfl (es8 rfl (es5 rfl (fg11 F53)))) ?_
 refine W_v rfl (wanted_t rfl rfl (es rfl (et rfl)) (ez rfl)) (V_eql rfl (et rfl) rfl) ?_
 refine W_v rfl rfl (V_pickT rfl (es2 rfl (et rfl)) (et rfl)) ?_
 refine W_sure (c' := true) rfl rfl (V_mov rfl (et rfl)) (by decide +kernel) ?_
 refine W_v rfl (wanted_t rfl rfl (et rfl) (ez rfl)) (V_mov rfl (es8 rfl (es8 rfl (es rfl (fg10 F53))))) ?_
 refine W_v rfl (wanted_t rfl rfl (es rfl (et rfl)) (ez rfl)) (V_eql rfl (et rfl) rfl) ?_
 refine W_v rfl rfl (V_pickT rfl (es2 rfl (et rfl)) (et rfl)) ?_
 refine W_sure (c' := true) rfl rfl (V_mov rfl (et rfl)) (by decide +kernel) ?_
 refine W_v rfl (wanted_t rfl rfl (et rfl) (ez rfl)) (V_mov rfl (es8 rfl (es8 rfl (es5 rfl (fg9 F53))))) ?_
 refine W_v rfl (wanted_t rfl rfl (es rfl (et rfl)) (ez rfl)) (V_eql rfl (et rfl) rfl) ?_
 refine W_v rfl rfl (V_pickT rfl (es2 rfl (et rfl)) (et rfl)) ?_
 refine W_sure (c' := true) rfl rfl (V_mov rfl (et rfl)) (by decide +kernel) ?_
 refine W_v rfl (wanted_t rfl rfl (et rfl) (ez rfl)) (V_mov rfl (es8 rfl (es8 rfl (es8 rfl (es rfl (fg7 F53)))))) ?_
 refine W_v rfl (wanted_t rfl rfl (es rfl (et rfl)) (ez rfl)) (V_eql rfl (et rfl) rfl) ?_
 refine W_v rfl rfl (V_pickT rfl (es2 rfl (et rfl)) (et rfl)) ?_
 refine W_sure (c' := true) rfl rfl (V_mov rfl (et rfl)) (by decide +kernel) ?_
 refine W_v rfl (wanted_t rfl rfl (et rfl) (ez rfl)) (V_mov rfl (es8 rfl (es8 rfl (es8 rfl (es5 rfl (fg6 F53)))))) ?_
 refine W_v rfl (wanted_t rfl rfl (es rfl (et rfl)) (ez rfl)) (V_mov rfl (es8 rfl (es8 rfl (es8 rfl (es6 rfl (fg5 F53)))))) ?_
 have hll58 : [6].length = 1 := rfl
 refine W_litS (vs := [.int .i64 6]) (xs := ([6].map (Value.int .i64))) 1 S57 rfl (wanted_t rfl rfl (es2 rfl (et rfl)) (ez rfl)) rfl (parts1 rfl) rfl Try.underlying25 (by kernel_rfl) (by decide) (by intro v hv; simp only [List.mem_cons, List.not_mem_nil, or_false] at hv; rcases hv with rfl <;> rfl) (by rfl) (fun g58 w58 c58 hc58 S58 => ?_)
 replace hc58 : c58 = io .i64 (.slice (some ⟨g58, 0, none⟩) 1 1) [6] := hc58
 replace S58 : St w NoX [c58, c56, c_46, c_36, c_19] w58 := S58
 refine W_call rfl (wanted_t rfl rfl (es3 rfl (et rfl)) (ez rfl)) rfl Try.func39 (by kernel_rfl) rfl (args3 (es2 rfl (et rfl)) (es rfl (et rfl)) (et rfl)) (lis_c (er := (ckS (chN 8 7 4 1 2 (nwC 8 7 4 1 2) (nwN 8 7 4 1 2) 6 0 1)).2) (S58.chC 3 rfl hc_36).own (S58.chC 0 rfl hc58).own ) ?_
 rintro _ w59 ⟨rfl, hP59⟩
 refine ⟨_, rfl, ?_⟩
 have S59 := S58.join hP59
 replace S59 : St w NoX [c58, c56, c_46, c_36, c_19] w59 := S59
 refine W_v rfl rfl (V_pickT rfl (es4 rfl (et rfl)) (et rfl)) ?_
 refine W_sure (c' := true) rfl rfl (V_mov rfl (et rfl)) (by decide +kernel) ?_
 refine W_v rfl (wanted_t rfl rfl (et rfl) (ez rfl)) (V_mov rfl (es8 rfl (es8 rfl (es8 rfl (es8 rfl (es3 rfl (fg3 F53))))))) ?_
 refine W_v rfl (wanted_t rfl rfl (es rfl (et rfl)) (ez rfl)) (V_eql rfl (et rfl) rfl) ?_
 refine W_v rfl rfl (V_pickT rfl (es2 rfl (et rfl)) (et rfl)) ?_
 refine W_sure (c' := true) rfl rfl (V_mov rfl (et rfl)) (by decide +kernel) ?_
 refine W_v rfl (wanted_t rfl rfl (et rfl) (ez rfl)) (V_mov rfl (es8 rfl (es8 rfl (es8 rfl (es8 rfl (es7 rfl (fg2 F53))))))) ?_
 refine W_v rfl (wanted_t rfl rfl (es rfl (et rfl)) (ez rfl)) (V_mov rfl (es8 rfl (es8 rfl (es8 rfl (es8 rfl (es8 rfl (fg1 F53))))))) ?_
 have hll60 : [6].length = 1 := rfl
 refine W_litS (vs := [.int .i64 6]) (xs := ([6].map (Value.int .i64))) 1 S59 rfl (wanted_t rfl rfl (es2 rfl (et rfl)) (ez rfl)) rfl (parts1 rfl) rfl Try.underlying25 (by kernel_rfl) (by decide) (by intro v hv; simp only [List.mem_cons, List.not_mem_nil, or_false] at hv; rcases hv with rfl <;> rfl) (by rfl) (fun g60 w60 c60 hc60 S60 => ?_)
 replace hc60 : c60 = io .i64 (.slice (some ⟨g60, 0, none⟩) 1 1) [6] := hc60
 replace S60 : St w NoX [c60, c58, c56, c_46, c_36, c_19] w60 := S60
 refine W_call rfl (wanted_t rfl rfl (es3 rfl (et rfl)) (ez rfl)) rfl Try.func39 (by kernel_rfl) rfl (args3 (es2 rfl (et rfl)) (es rfl (et rfl)) (et rfl)) (lis_c (er := (itE (chC 8 7 4 1 2 (chC 8 7 4 1 2 (nwC 8 7 4 1 2) (nwN 8 7 4 1 2) 6 0 13) (chN 8 7 4 1 2 (nwC 8 7 4 1 2) (nwN 8 7 4 1 2) 6 0 13) 6 13 21) 2)) (S60.chC 3 rfl hc_46).own (S60.chC 0 rfl hc60).own ) ?_
 rintro _ w61 ⟨rfl, hP61⟩
 refine ⟨_, rfl, ?_⟩
 have S61 := S60.join hP61
 replace S61 : St w NoX [c60, c58, c56, c_46, c_36, c_19] w61 := S61
 refine W_v rfl rfl (V_pickT rfl (es4 rfl (et rfl)) (et rfl)) ?_
 refine W_sure (c' := true) rfl rfl (V_mov rfl (et rfl)) (by decide +kernel) ?_
 refine W_v rfl (wanted_t rfl rfl (et rfl) (ez rfl)) (V_mov rfl (es8 rfl (es8 rfl (es8 rfl (es8 rfl (es8 rfl (es5 rfl (fg0 F53)))))))) ?_
 refine W_v rfl (wanted_t rfl rfl (es rfl (et rfl)) (ez rfl)) (V_eql rfl (et rfl) rfl) ?_
 refine W_v rfl rfl (V_pickT rfl (es2 rfl (et rfl)) (et rfl)) ?_
 refine W_v rfl rfl (V_asg rfl (et rfl)) ?_
 refine W_end (gen_Q fun A62 E62 => ?_)
 have Y62 := szq E62
 have F62 := fsE E62 (ck (cq8 (cq8 (cq8 (cq8 (cq8 (cq8 F53 rfl) rfl) rfl) rfl) rfl) rfl) rfl rfl)
 clear E62 Y53 F53
 have S63 : St w NoX [] w61 := S61.sel [] (by decide) rfl
 refine tk H55 ?_
 refine wp_ret ?_
 refine ret_in (results_1 Try.results10 (rv_tmp (fg0 F62))) F62.d ?_
 rw [show true = decide ((chE8 8 7 4 1 2 (nwC 8 7 4 1 2) (nwN 8 7 4 1 2) 6 0 61) = 7) by decide +kernel]
 exact ⟨rfl, S63.fin0⟩

end Go.Proofs.Yteppjefmlibmoaa