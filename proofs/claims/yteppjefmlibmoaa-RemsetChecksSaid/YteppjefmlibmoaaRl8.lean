import Derived.Test.YteppjefmlibmoaaProg
import Derived.Test.YteppjefmlibmoaaRm7
import Derived.Test.YteppjefmlibmoaaPl8h
namespace Go.Proofs.Yteppjefmlibmoaa
open Go.RowKit Go.Own Go.Own.R Go.Own.S Go.Own.E


set_option maxHeartbeats 4000000 in
theorem lcfg_c  {w : World}   :
  Calls Try.prog 38 #[] w fun e w' => e = .returned (.agg #[.int .i64 8, .int .i64 7, .int .i64 4, .int .i64 1, .int .i64 2]) ∧ St w NoX [] w' := by
 refine calls_in 2 Try.func38 rfl rfl (by simp) (fun A0 hsz0 hdf0 hargs => ?_)
 clear hargs; replace hsz0 : SzN A0 2 := ⟨hsz0⟩
 have hS := St.nil w
 refine wp_seq_k fun K1 hK1 => ?_
 refine region_in ?_
 refine W_allocS (z := .agg #[.int .i64 0, .int .i64 0, .int .i64 0, .int .i64 0, .int .i64 0]) (zs := #[.int .i64 0, .int .i64 0, .int .i64 0, .int .i64 0, .int .i64 0]) hS rfl rfl rfl (by kernel_rfl) (by rfl) (fun g2 w2 c2 hc2 hS2 => ?_)
 replace hS2 : St w NoX [c2] w2 := hS2
 refine W_end (gen_Q fun A3 hA3 => ?_)
 have hsz3 := szq hA3
 have hdf3 := dfE hA3 hdf0
 have l0_3 := lookE hA3 0 (et rfl)
 clear hA3 hsz0 hdf0
 refine then_n (hK1 _ _ ?_)
 clear hK1
 refine wp_seq_k fun K4 hK4 => ?_
 refine region_in ?_
 refine W_v rfl rfl (V_bldS (n := 5) (z := .agg #[.int .i64 0, .int .i64 0, .int .i64 0, .int .i64 0, .int .i64 0]) rfl (parts5 rfl rfl rfl rfl rfl) (by kernel_rfl) (by simp only [List.all_cons, List.all_nil, Bool.and_true] <;> rfl) (by kernel_rfl) (by simp only [List.foldl_cons, List.foldl_nil, Value.cells, List.setIfInBounds_toArray, List.set_cons_succ, List.set_cons_zero] <;> rfl)) ?_
 refine W_stAS 0 hS2 rfl hc2 rfl rfl rfl (es rfl l0_3) (et rfl) (by first | (rw [List.all_toArray] <;> rfl) | (simp only [List.all_toArray, List.all_cons, List.all_nil] <;> rfl)) (by rfl) (by kernel_rfl) (fun w5 c5 hc5 hS5 => ?_)
 replace hS5 : St w NoX [c5] w5 := hS5
 refine W_end (gen_Q fun A6 hA6 => ?_)
 have hsz6 := szq hA6
 have hdf6 := dfE hA6 hdf3
 have l0_6 := lookE hA6 0 (es rfl l0_3)
 clear hA6 hsz3 hdf3 l0_3
 refine then_n (hK4 _ _ ?_)
 clear hK4
 refine wp_ret ?_
 refine ret_in (results_1 Try.results38 (rv_cellA l0_6 (hS5.obj 0 rfl hc5) Try.underlying23 rfl (by kernel_rfl))) hdf6 ?_
 exact ⟨rfl, hS5.fin0⟩

set_option maxHeartbeats 4000000 in
theorem lis_c {xv : Value} {xs : List Int} {er : Int} {yv : Value} {ys : List Int} {w : World} (h_xv : Ro w NoX (il .i64 xv xs)) (h_yv : Ro w NoX (il .i64 yv ys))  :
  Calls Try.prog 39 #[xv, .int .i64 er, yv] w fun e w' => e = .returned (.bool (decide (er = 0 ∧ xs = ys))) ∧ St w NoX [] w' := by
 refine calls_in 14 Try.func39 rfl rfl (by simp) (fun A0 hsz0 hdf0 hargs => ?_)
 have l0_0 := hargs 0 (xv) rfl
 have l1_0 := hargs 1 (.int .i64 er) rfl
 have l2_0 := hargs 2 (yv) rfl
 clear hargs; replace hsz0 : SzN A0 14 := ⟨hsz0⟩
 have hS := St.nil w
 have bh_xv := SlN.le (sl_SlN h_xv.at)
 have bh_yv := SlN.le (sl_SlN h_yv.at)
 refine wp_seq_k fun K1 hK1 => ?_
 refine region_in ?_
 refine W_v rfl rfl (V_asg rfl rfl) ?_
 refine W_end (gen_Q fun A2 hA2 => ?_)
 have hsz2 := szq hA2
 have hdf2 := dfE hA2 hdf0
 have l0_2 := lookE hA2 0 (es rfl l0_0)
 have l1_2 := lookE hA2 1 (es rfl l1_0)
 have l2_2 := lookE hA2 2 (es rfl l2_0)
 clear hA2 hsz0 hdf0 l0_0 l1_0 l2_0
 refine then_n (hK1 _ _ ?_)
 clear hK1
 refine wp_seq_k fun K3 hK3 => ?_
 refine region_in ?_
 refine W_v rfl rfl (V_mov rfl l1_2) ?_
 refine W_v rfl rfl (V_eql rfl (et rfl) rfl) ?_
 refine W_split rfl rfl (V_mov rfl (et rfl)) (fun c4 => ?_) (fun c4 => ?_)
 ·refine W_v rfl (wanted_t rfl rfl (et rfl) (ez rfl)) (V_mov rfl (e3 rfl l0_2)) ?_
  refine W_v rfl (wanted_t rfl rfl (es rfl (et rfl)) (ez rfl)) (V_mov rfl (e4 rfl l2_2)) ?_
  refine W_call rfl (wanted_t rfl rfl (e2 rfl (et rfl)) (ez rfl)) rfl Try.func26 (by kernel_rfl) rfl (args2 (es rfl (et rfl)) (et rfl)) (qInts_c (hS.roC h_xv) (hS.roC h_yv) ) ?_
  rintro _ w5 ⟨rfl, hP5⟩
  refine ⟨_, rfl, ?_⟩
  have hS5 := hS.join hP5
  replace hS5 : St w NoX [] w5 := hS5
  refine W_v rfl rfl (V_pickT rfl (e3 rfl (et rfl)) (et rfl)) ?_
  refine W_v rfl rfl (V_asg rfl (et rfl)) ?_
  refine W_end (gen_Q fun A6 hA6 => ?_)
  have hsz6 := szq hA6
  have hdf6 := dfE hA6 hdf2
  have l6_6 := lookE hA6 6 (et rfl)
  clear hA6 hsz2 hdf2 l0_2 l1_2 l2_2
  refine then_n (hK3 _ _ ?_)
  clear hK3
  refine wp_ret ?_
  refine ret_in (results_1 Try.results39 (rv_tmp l6_6)) hdf6 ?_
  rw [show (decide (er = 0 ∧ xs = ys)) = decide (xs = ys) from decide_eq_decide.2 ⟨fun q => q.2, fun q => ⟨by omega, q⟩⟩]
  exact ⟨rfl, hS5.fin0⟩
 ·refine W_off rfl (wanted_f rfl rfl (et rfl) (ez rfl) rfl) ?_
  refine W_off rfl (wanted_f rfl rfl (es rfl (et rfl)) (ez rfl) rfl) ?_
  refine W_off rfl (wanted_f rfl rfl (e2 rfl (et rfl)) (ez rfl) rfl) ?_
  refine W_v rfl rfl (V_pickF rfl (e3 rfl (et rfl)) rfl) ?_
  refine W_v rfl rfl (V_asg rfl (et rfl)) ?_
  refine W_end (gen_Q fun A7 hA7 => ?_)
  have hsz7 := szq hA7
  have hdf7 := dfE hA7 hdf2
  have l6_7 := lookE hA7 6 (et rfl)
  clear hA7 hsz2 hdf2 l0_2 l1_2 l2_2
  refine then_n (hK3 _ _ ?_)
  clear hK3
  refine wp_ret ?_
  refine ret_in (results_1 Try.results39 (rv_tmp l6_7)) hdf7 ?_
  rw [show (decide (er = 0 ∧ xs = ys)) = false from decide_eq_false (fun q => absurd q.1 (by omega))]
  exact ⟨rfl, hS.fin0⟩

set_option maxHeartbeats 4000000 in
theorem lfar_c {cv : Value} {c : List Int} {w : World} (h_cv : Ro w NoX (il .i64 cv c))  :
  Calls Try.prog 37 #[.agg #[cv]] w fun e w' => e = .returned (.bool (decide ((300 < c.length ∧ c.length ≤ 8192) ∨ 8200 < c.length))) ∧ St w NoX [] w' := by
 refine calls_in 17 Try.func37 rfl rfl (by simp) (fun A0 hsz0 hdf0 hargs => ?_)
 have l0_0 := hargs 0 (.agg #[cv]) rfl
 clear hargs; replace hsz0 : SzN A0 17 := ⟨hsz0⟩
 have hS := St.nil w
 have bh_cv := SlN.le (sl_SlN h_cv.at)
 refine wp_seq_k fun K1 hK1 => ?_
 refine region_in ?_
 refine W_boxS (zs := #[cv]) hS rfl rfl rfl l0_0 (by rfl) (fun g2 w2 c2 hc2 hS2 => ?_)
 replace hS2 : St w NoX [c2] w2 := hS2
 refine W_v rfl rfl (V_asg rfl rfl) ?_
 refine W_end (gen_Q fun A3 hA3 => ?_)
 have hsz3 := szq hA3
 have hdf3 := dfE hA3 hdf0
 have l1_3 := lookE hA3 1 (es rfl (et rfl))
 clear hA3 hsz0 hdf0 l0_0
 refine then_n (hK1 _ _ ?_)
 clear hK1
 refine wp_seq_k fun K4 hK4 => ?_
 refine region_in ?_
 refine W_v rfl rfl (V_fa (off' := 0) rfl l1_3 Try.underlying27 rfl (by decide +kernel) rfl) ?_
 refine W_r rfl rfl (VR_ldC rfl (et rfl) (cell_box (v := cv) (hS2.obj 0 rfl hc2) rfl) Try.underlying25 rfl) ?_
 refine W_v rfl rfl (V_lenS rfl (et rfl) (sl_SlN h_cv.at) Try.underlying25) ?_
 refine W_v rfl rfl (V_gtr rfl (et rfl) rfl) ?_
 refine W_split rfl rfl (V_mov rfl (et rfl)) (fun c5 => ?_) (fun c5 => ?_)
 ·refine W_v rfl (wanted_t rfl rfl (et rfl) (ez rfl)) (V_fa (off' := 0) rfl (e5 rfl l1_3) Try.underlying27 rfl (by decide +kernel) rfl) ?_
  refine W_r rfl (wanted_t rfl rfl (es rfl (et rfl)) (ez rfl)) (VR_ldC rfl (et rfl) (cell_box (v := cv) (hS2.obj 0 rfl hc2) rfl) Try.underlying25 rfl) ?_
  refine W_v rfl (wanted_t rfl rfl (e2 rfl (et rfl)) (ez rfl)) (V_lenS rfl (et rfl) (sl_SlN h_cv.at) Try.underlying25) ?_
  refine W_v rfl (wanted_t rfl rfl (e3 rfl (et rfl)) (ez rfl)) (V_leq rfl (et rfl) rfl) ?_
  refine W_v rfl rfl (V_pickT rfl (e4 rfl (et rfl)) (et rfl)) ?_
  refine W_split rfl rfl (V_mov rfl (et rfl)) (fun c6 => ?_) (fun c6 => ?_)
  ·refine W_off rfl (wanted_f rfl rfl (et rfl) (ez rfl) rfl) ?_
   refine W_off rfl (wanted_f rfl rfl (es rfl (et rfl)) (ez rfl) rfl) ?_
   refine W_v rfl rfl (V_pickT rfl (e2 rfl (et rfl)) rfl) ?_
   refine W_v rfl rfl (V_asg rfl (et rfl)) ?_
   refine W_end (gen_Q fun A7 hA7 => ?_)
   have hsz7 := szq hA7
   have hdf7 := dfE hA7 hdf3
   have l2_7 := lookE hA7 2 (et rfl)
   clear hA7 hsz3 hdf3 l1_3
   have hS8 : St w NoX [] w2 := hS2.sel [] (by decide) rfl
   refine then_n (hK4 _ _ ?_)
   clear hK4
   refine wp_ret ?_
   refine ret_in (results_1 Try.results37 (rv_tmp l2_7)) hdf7 ?_
   rw [show (decide ((300 < c.length ∧ c.length ≤ 8192) ∨ 8200 < c.length)) = true by exact decide_eq_true (by omega)]
   exact ⟨rfl, hS8.fin0⟩
  ·refine W_r rfl (wanted_t rfl rfl (et rfl) (ez rfl)) (VR_ldA rfl (e11 rfl l1_3) (hS2.obj 0 rfl hc2) Try.underlying27 rfl (by kernel_rfl)) ?_
   refine W_call rfl (wanted_t rfl rfl (es rfl (et rfl)) (ez rfl)) rfl Try.func69 (by kernel_rfl) rfl (args1 (et rfl)) (far_c (hS2.roC h_cv) ) ?_
   rintro _ w9 ⟨rfl, hP9⟩
   refine ⟨_, rfl, ?_⟩
   have hS9 := hS2.join hP9
   replace hS9 : St w NoX [c2] w9 := hS9
   refine W_v rfl rfl (V_pickF rfl (e2 rfl (et rfl)) (et rfl)) ?_
   refine W_v rfl rfl (V_asg rfl (et rfl)) ?_
   refine W_end (gen_Q fun A10 hA10 => ?_)
   have hsz10 := szq hA10
   have hdf10 := dfE hA10 hdf3
   have l2_10 := lookE hA10 2 (et rfl)
   clear hA10 hsz3 hdf3 l1_3
   have hS11 : St w NoX [] w9 := hS9.sel [] (by decide) rfl
   refine then_n (hK4 _ _ ?_)
   clear hK4
   refine wp_ret ?_
   refine ret_in (results_1 Try.results37 (rv_tmp l2_10)) hdf10 ?_
   rw [show (decide ((300 < c.length ∧ c.length ≤ 8192) ∨ 8200 < c.length)) = decide ((600 < c.length ∧ c.length ≤ 8192) ∨ 8200 < c.length) by exact decide_eq_decide.2 (by omega)]
   exact ⟨rfl, hS11.fin0⟩
 ·refine W_off rfl (wanted_f rfl rfl (et rfl) (ez rfl) rfl) ?_
  refine W_off rfl (wanted_f rfl rfl (es rfl (et rfl)) (ez rfl) rfl) ?_
  refine W_off rfl (wanted_f rfl rfl (e2 rfl (et rfl)) (ez rfl) rfl) ?_
  refine W_off rfl (wanted_f rfl rfl (e3 rfl (et rfl)) (ez rfl) rfl) ?_
  refine W_v rfl rfl (V_pickF rfl (e4 rfl (et rfl)) rfl) ?_
  refine W_v rfl rfl (V_mov rfl (et rfl)) ?_
  refine W_r rfl (wanted_t rfl rfl (et rfl) (ez rfl)) (VR_ldA rfl (e11 rfl l1_3) (hS2.obj 0 rfl hc2) Try.underlying27 rfl (by kernel_rfl)) ?_
  refine W_call rfl (wanted_t rfl rfl (es rfl (et rfl)) (ez rfl)) rfl Try.func69 (by kernel_rfl) rfl (args1 (et rfl)) (far_c (hS2.roC h_cv) ) ?_
  rintro _ w12 ⟨rfl, hP12⟩
  refine ⟨_, rfl, ?_⟩
  have hS12 := hS2.join hP12
  replace hS12 : St w NoX [c2] w12 := hS12
  refine W_v rfl rfl (V_pickF rfl (e2 rfl (et rfl)) (et rfl)) ?_
  refine W_v rfl rfl (V_asg rfl (et rfl)) ?_
  refine W_end (gen_Q fun A13 hA13 => ?_)
  have hsz13 := szq hA13
  have hdf13 := dfE hA13 hdf3
  have l2_13 := lookE hA13 2 (et rfl)
  clear hA13 hsz3 hdf3 l1_3
  have hS14 : St w NoX [] w12 := hS12.sel [] (by decide) rfl
  refine then_n (hK4 _ _ ?_)
  clear hK4
  refine wp_ret ?_
  refine ret_in (results_1 Try.results37 (rv_tmp l2_13)) hdf13 ?_
  rw [show (decide ((300 < c.length ∧ c.length ≤ 8192) ∨ 8200 < c.length)) = decide ((600 < c.length ∧ c.length ≤ 8192) ∨ 8200 < c.length) by exact decide_eq_decide.2 (by omega)]
  exact ⟨rfl, hS14.fin0⟩

set_option maxHeartbeats 4000000 in
theorem lFar_c {cv : Value} {X : List (List Int)} {nv : Value} {ns : List Int} {w : World} (h_cv : Ro w NoX (rmR cv X)) (h_nv : Ro w NoX (il .i64 nv ns))  :
  Calls Try.prog 9 #[.agg #[cv, nv]] w fun e w' => e = .returned (.bool (FarB X ns)) ∧ St w NoX [] w' := by
 obtain ⟨Xu, hXu, k_cv, n_cv⟩ := rmR_open h_cv
 subst hXu
 have b_cv := SlN.le (sl_SlN k_cv.at)
 refine calls_in 26 Try.func9 rfl rfl (by simp) (fun A0 hsz0 hdf0 hargs => ?_)
 have l0_0 := hargs 0 (.agg #[cv, nv]) rfl
 clear hargs; replace hsz0 : SzN A0 26 := ⟨hsz0⟩
 have hS := St.nil w
 have bh_nv := SlN.le (sl_SlN h_nv.at)
 have bk_cv := SlN.le (sl_SlN k_cv.at)
 refine wp_seq_k fun K1 hK1 => ?_
 refine region_in ?_
 refine W_boxS (zs := #[cv, nv]) hS rfl rfl rfl l0_0 (by rfl) (fun g2 w2 c2 hc2 hS2 => ?_)
 replace hS2 : St w NoX [c2] w2 := hS2
 refine W_v rfl rfl (V_asg rfl rfl) ?_
 refine W_end (gen_Q fun A3 hA3 => ?_)
 have hsz3 := szq hA3
 have hdf3 := dfE hA3 hdf0
 have l1_3 := lookE hA3 1 (es rfl (et rfl))
 clear hA3 hsz0 hdf0 l0_0
 refine then_n (hK1 _ _ ?_)
 clear hK1
 refine wp_seq_k fun K4 hK4 => ?_
 refine wp_seq_k fun K5 hK5 => ?_
 refine region_in ?_
 refine W_v rfl rfl (V_fa (off' := 0) rfl l1_3 Try.underlying29 rfl (by decide +kernel) rfl) ?_
 refine W_r rfl rfl (VR_ldC rfl (et rfl) (cell_box (v := cv) (hS2.obj 0 rfl hc2) rfl) Try.underlying24 rfl) ?_
 refine W_v rfl rfl (V_lenS rfl (et rfl) (sl_SlN k_cv.at) Try.underlying24) ?_
 refine W_v rfl rfl (V_gtr rfl (et rfl) rfl) ?_
 refine W_split rfl rfl (V_mov rfl (et rfl)) (fun c6 => ?_) (fun c6 => ?_)
 ·refine W_off rfl (wanted_f rfl rfl (et rfl) (ez rfl) rfl) ?_
  refine W_off rfl (wanted_f rfl rfl (es rfl (et rfl)) (ez rfl) rfl) ?_
  refine W_off rfl (wanted_f rfl rfl (e2 rfl (et rfl)) (ez rfl) rfl) ?_
  refine W_v rfl rfl (V_pickT rfl (e3 rfl (et rfl)) rfl) ?_
  refine W_end (gen_Q fun A7 hA7 => ?_)
  have hsz7 := szq hA7
  have hdf7 := dfE hA7 hdf3
  have l1_7 := ek9 hA7 1 rfl l1_3
  have l12_7 := lookE hA7 12 (et rfl)
  clear hA7 hsz3 hdf3 l1_3
  refine then_n (hK5 _ _ ?_)
  clear hK5
  refine cond_t l12_7 ?_
  refine wp_seq_k fun K8 hK8 => ?_
  refine region_in ?_
  refine W_v rfl rfl (V_asg rfl rfl) ?_
  refine W_end (gen_Q fun A9 hA9 => ?_)
  have hsz9 := szq hA9
  have hdf9 := dfE hA9 hdf7
  have l2_9 := lookE hA9 2 (et rfl)
  clear hA9 hsz7 hdf7 l1_7 l12_7
  have hS10 : St w NoX [] w2 := hS2.sel [] (by decide) rfl
  refine then_n (hK8 _ _ ?_)
  clear hK8
  refine wp_ret ?_
  refine then_ret ?_
  refine ret_in (results_1 Try.results9 (rv_tmp l2_9)) hdf9 ?_
  rw [show FarB (csF Xu) ns = true from far_1 (by rw [csF_len]; omega)]
  exact ⟨rfl, hS10.fin0⟩
 ·refine W_v rfl (wanted_t rfl rfl (et rfl) (ez rfl)) (V_fa (off' := 1) rfl (e5 rfl l1_3) Try.underlying29 rfl (by decide +kernel) rfl) ?_
  refine W_r rfl (wanted_t rfl rfl (es rfl (et rfl)) (ez rfl)) (VR_ldP (ys := [nv]) rfl (et rfl) (hS2.obj 0 rfl hc2) (ldP_at rfl) Try.underlying27 rfl (by kernel_rfl)) ?_
  refine W_call rfl (wanted_t rfl rfl (e2 rfl (et rfl)) (ez rfl)) rfl Try.func37 (by kernel_rfl) rfl (args1 (et rfl)) (lfar_c (hS2.roC h_nv) ) ?_
  rintro _ w11 ⟨rfl, hP11⟩
  refine ⟨_, rfl, ?_⟩
  have hS11 := hS2.join hP11
  replace hS11 : St w NoX [c2] w11 := hS11
  refine W_v rfl rfl (V_pickF rfl (e3 rfl (et rfl)) (et rfl)) ?_
  refine W_end (gen_Q fun A12 hA12 => ?_)
  have hsz12 := szq hA12
  have hdf12 := dfE hA12 hdf3
  have l1_12 := ek9 hA12 1 rfl l1_3
  have l12_12 := lookE hA12 12 (et rfl)
  clear hA12 hsz3 hdf3 l1_3
  refine then_n (hK5 _ _ ?_)
  clear hK5
  refine cond_dec l12_12 (fun c13 => ?_) (fun c13 => ?_)
  ·refine wp_seq_k fun K14 hK14 => ?_
   refine region_in ?_
   refine W_v rfl rfl (V_asg rfl rfl) ?_
   refine W_end (gen_Q fun A15 hA15 => ?_)
   have hsz15 := szq hA15
   have hdf15 := dfE hA15 hdf12
   have l2_15 := lookE hA15 2 (et rfl)
   clear hA15 hsz12 hdf12 l1_12 l12_12
   have hS16 : St w NoX [] w11 := hS11.sel [] (by decide) rfl
   refine then_n (hK14 _ _ ?_)
   clear hK14
   refine wp_ret ?_
   refine then_ret ?_
   refine ret_in (results_1 Try.results9 (rv_tmp l2_15)) hdf15 ?_
   rw [show FarB (csF Xu) ns = true from far_2 (fr_T (by omega))]
   exact ⟨rfl, hS16.fin0⟩
  ·refine wp_skip ?_
   refine then_n (hK4 _ _ ?_)
   clear hK4
   refine wp_seq_k fun K17 hK17 => ?_
   refine wp_seq_k fun K18 hK18 => ?_
   refine region_in ?_
   refine W_v rfl rfl (V_asg rfl rfl) ?_
   refine W_end (gen_Q fun A19 hA19 => ?_)
   have hsz19 := szq hA19
   have hdf19 := dfE hA19 hdf12
   have l1_19 := lookE hA19 1 (es rfl l1_12)
   have l3_19 := lookE hA19 3 (et rfl)
   clear hA19 hsz12 hdf12 l1_12 l12_12
   refine then_n (hK18 _ _ ?_)
   clear hK18
   refine wp_block ?_
   -- loop 4
   refine loopX (fun mz A' w' => SzN A' 26 ∧ A'.defers = [] ∧ (∃ (k : Nat), (mz = Xu.length - k) ∧ (k ≤ Xu.length) ∧ (∀ c ∈ (csF Xu).take k, frB c = false) ∧ (EV A' (.tmp 3) = .int .i64 (k : Int)) ∧ (EV A' (.tmp 1) = EV A19 (.tmp 1)) ∧ (St w NoX [bx g2 29 #[cv, nv]] w'))) (Xu.length - 0) ⟨hsz19, hdf19, 0, rfl, (by omega), (fun c hc => by simp at hc), ((l3_19).trans (by first | rfl | (simp; done) | (congr 1; omega))), rfl, (by subst hc2; exact hS11)⟩ ?_
   clear hS11 hc2
   rintro n20 A20 w20 ⟨hsz20, hdf20, k, hm20, hk, hz, l3_20, u1_20, hS20⟩
   have l1_20 := u1_20.trans l1_19
   obtain ⟨c2_20, hc2_20, hS20⟩ := gen1 hS20
   refine wp_seq_k fun K21 hK21 => ?_
   refine wp_seq_k fun K22 hK22 => ?_
   refine region_in ?_
   refine W_v rfl rfl (V_mov rfl l3_20) ?_
   refine W_v rfl rfl (V_fa (off' := 0) rfl (es rfl l1_20) Try.underlying29 rfl (by decide +kernel) rfl) ?_
   refine W_r rfl rfl (VR_ldC rfl (et rfl) (cell_box (v := cv) (hS20.obj 0 rfl hc2_20) rfl) Try.underlying24 rfl) ?_
   refine W_v rfl rfl (V_lenS rfl (et rfl) (sl_SlN k_cv.at) Try.underlying24) ?_
   refine W_v rfl rfl (V_lss rfl (e3 rfl (et rfl)) (et rfl)) ?_
   refine W_end (gen_Q fun A23 hA23 => ?_)
   have hsz23 := szq hA23
   have hdf23 := dfE hA23 hdf20
   have l1_23 := ek5 hA23 1 rfl l1_20
   have l3_23 := ek5 hA23 3 rfl l3_20
   have l17_23 := lookE hA23 17 (et rfl)
   clear hA23 hsz20 hdf20 l3_20 l1_20
   refine then_n (hK22 _ _ ?_)
   clear hK22
   refine cond_dec l17_23 (fun c24 => ?_) (fun c24 => ?_)
   ·refine wp_skip ?_
    refine then_n (hK21 _ _ ?_)
    clear hK21
    refine wp_seq_k fun K25 hK25 => ?_
    refine wp_block ?_
    refine wp_seq_k fun K26 hK26 => ?_
    refine region_in ?_
    refine W_v rfl rfl (V_fa (off' := 0) rfl l1_23 Try.underlying29 rfl (by decide +kernel) rfl) ?_
    refine W_r rfl rfl (VR_ldC rfl (et rfl) (cell_box (v := cv) (hS20.obj 0 rfl hc2_20) rfl) Try.underlying24 rfl) ?_
    refine W_v rfl rfl (V_mov rfl (e2 rfl l3_23)) ?_
    have k27 : k < Xu.length := by first | omega | (simp only [List.length_cons, List.length_nil]; omega) | (simp only [List.length_set]; omega) | decide
    obtain ⟨y27, hy27⟩ := get_some (xs := Xu) (k := k) k27
    obtain ⟨B27, O27, C27, hv27⟩ := (SlN.blk (sl_SlN k_cv.at) (by first | omega | (simp only [List.length_cons, List.length_nil]; omega) | (simp only [List.length_set]; omega) | decide))
    refine W_v rfl rfl (V_ixS (off := O27 + k * 1) 1 (k) rfl (es rfl (et rfl)) (et rfl) hv27 (by omega) k27 Try.underlying24 (by kernel_rfl) rfl) ?_
    have fn28 : Ro w NoX (il .i64 y27.1 y27.2) := nsi_ro1 n_cv hy27
    have bfn28 := SlN.le (sl_SlN (hS20.ro fn28))
    refine W_r rfl rfl (VR_ldR (ys := fstC y27) rfl (et rfl) (SlN.row fstC_len (sl_SlN (hS20.ro k_cv)) hv27 hy27 rfl) Try.underlying27 rfl (by kernel_rfl)) ?_
    refine W_call rfl rfl rfl Try.func37 (by kernel_rfl) rfl (args1 (et rfl)) (lfar_c (hS20.roC fn28) ) ?_
    rintro _ w29 ⟨rfl, hP29⟩
    refine ⟨_, rfl, ?_⟩
    have hS29 := hS20.join hP29
    replace hS29 : St w NoX [c2_20] w29 := hS29
    refine W_end (gen_Q fun A30 hA30 => ?_)
    have hsz30 := szq hA30
    have hdf30 := dfE hA30 hdf23
    have l1_30 := ek6 hA30 1 rfl l1_23
    have l3_30 := ek6 hA30 3 rfl l3_23
    have l25_30 := lookE hA30 25 (et rfl)
    clear hA30 hsz23 hdf23 l1_23 l3_23 l17_23
    refine then_n (hK26 _ _ ?_)
    clear hK26
    refine cond_dec l25_30 (fun c31 => ?_) (fun c31 => ?_)
    ·refine wp_seq_k fun K32 hK32 => ?_
     refine region_in ?_
     refine W_v rfl rfl (V_asg rfl rfl) ?_
     refine W_end (gen_Q fun A33 hA33 => ?_)
     have hsz33 := szq hA33
     have hdf33 := dfE hA33 hdf30
     have l2_33 := lookE hA33 2 (et rfl)
     clear hA33 hsz30 hdf30 l1_30 l3_30 l25_30
     have hS34 : St w NoX [] w29 := hS29.sel [] (by decide) rfl
     refine then_n (hK32 _ _ ?_)
     clear hK32
     refine wp_ret ?_
     refine inb_ret ?_
     refine then_ret ?_
     refine then_ret ?_
     refine inb_ret ?_
     refine then_ret ?_
     refine ret_in (results_1 Try.results9 (rv_tmp l2_33)) hdf33 ?_
     rw [show FarB (csF Xu) ns = true from far_3 (csF_at hy27) (fr_T (by omega))]
     exact ⟨rfl, hS34.fin0⟩
    ·refine wp_skip ?_
     refine inb_n ?_
     refine then_n (hK25 _ _ ?_)
     clear hK25
     refine region_in ?_
     refine W_v rfl rfl (V_mov rfl l3_30) ?_
     refine W_v rfl rfl (V_add rfl (et rfl) rfl (by omega) (by omega)) ?_
     refine W_v rfl rfl (V_asg rfl (et rfl)) ?_
     refine W_end (gen_Q fun A35 hA35 => ?_)
     have hsz35 := szq hA35
     have hdf35 := dfE hA35 hdf30
     have l1_35 := ek3 hA35 1 rfl l1_30
     have l3_35 := lookE hA35 3 (et rfl)
     clear hA35 hsz30 hdf30 l1_30 l3_30 l25_30
     refine then_n ⟨Xu.length - (k + 1), by simp only [hm20]; omega, hsz35, hdf35, (k + 1), rfl, (by omega), (fr_step hz (csF_at hy27) (fr_F (by omega))), ((l3_35).trans (by first | rfl | (simp; done) | (congr 1; omega))), ((l1_35).trans l1_19.symm), (by subst hc2_20; exact hS29)⟩
   ·refine wp_exit ?_
    refine then_exit ?_
    refine then_exit ?_
    refine inb_hit ?_
    refine then_n (hK17 _ _ ?_)
    clear hK17
    refine wp_seq_k fun K36 hK36 => ?_
    refine region_in ?_
    refine W_v rfl rfl (V_asg rfl rfl) ?_
    refine W_end (gen_Q fun A37 hA37 => ?_)
    have hsz37 := szq hA37
    have hdf37 := dfE hA37 hdf23
    have l2_37 := lookE hA37 2 (et rfl)
    clear hA37 hsz23 hdf23 l1_23 l3_23 l17_23
    have hS38 : St w NoX [] w20 := hS20.sel [] (by decide) rfl
    refine then_n (hK36 _ _ ?_)
    clear hK36
    refine wp_ret ?_
    refine ret_in (results_1 Try.results9 (rv_tmp l2_37)) hdf37 ?_
    rw [show FarB (csF Xu) ns = false from far_no (k := k) (by rw [csF_len]; omega) (fr_F (by omega)) hz (by rw [csF_len]; omega)]
    exact ⟨rfl, hS38.fin0⟩

set_option maxHeartbeats 4000000 in
theorem lawk_c  {w : World}   :
  Calls Try.prog 10 #[] w fun e w' => e = .returned (.bool true) ∧ St w NoX [] w' := by
 refine calls_in 126 Try.func10 rfl rfl (by simp) (fun A0 hsz0 hdf0 hargs => ?_)
 clear hargs; replace hsz0 : SzN A0 126 := ⟨hsz0⟩
 have hS := St.nil w
 refine wp_seq_k fun K1 hK1 => ?_
 refine region_in ?_
 refine W_v rfl rfl (V_asg rfl rfl) ?_
 refine W_end (gen_Q fun A2 hA2 => ?_)
 have hsz2 := szq hA2
 have hdf2 := dfE hA2 hdf0
 clear hA2 hsz0 hdf0
 refine then_n (hK1 _ _ ?_)
 clear hK1
 refine wp_seq_k fun K3 hK3 => ?_
 refine region_in ?_
 refine W_call rfl rfl rfl Try.func38 (by kernel_rfl) rfl (args0) (lcfg_c  ) ?_
 rintro _ w4 ⟨rfl, hP4⟩
 refine ⟨_, rfl, ?_⟩
 have hS4 := hS.join hP4
 replace hS4 : St w NoX [] w4 := hS4
 refine W_allocS (z := .agg #[.int .i64 0, .int .i64 0, .int .i64 0, .int .i64 0, .int .i64 0]) (zs := #[.int .i64 0, .int .i64 0, .int .i64 0, .int .i64 0, .int .i64 0]) hS4 rfl rfl rfl (by kernel_rfl) (by rfl) (fun g5 w5 c5 hc5 hS5 => ?_)
 replace hS5 : St w NoX [c5] w5 := hS5
 refine W_stAS 0 hS5 rfl hc5 rfl rfl rfl (et rfl) (es rfl (et rfl)) (by first | (rw [List.all_toArray] <;> rfl) | (simp only [List.all_toArray, List.all_cons, List.all_nil] <;> rfl)) (by rfl) (by kernel_rfl) (fun w6 c6 hc6 hS6 => ?_)
 replace hS6 : St w NoX [c6] w6 := hS6
 refine W_end (gen_Q fun A7 hA7 => ?_)
 have hsz7 := szq hA7
 have hdf7 := dfE hA7 hdf2
 have l1_7 := lookE hA7 1 (et rfl)
 clear hA7 hsz2 hdf2
 refine then_n (hK3 _ _ ?_)
 clear hK3
 refine wp_seq_k fun K8 hK8 => ?_
 refine region_in ?_
 refine W_r rfl rfl (VR_ldA rfl l1_7 (hS6.obj 0 rfl hc6) Try.underlying23 rfl (by kernel_rfl)) ?_
 refine W_call rfl rfl rfl Try.func16 (by kernel_rfl) rfl (args1 (et rfl)) (kNew8_c (C := 8) (N := 7) (Z := 4) (K := 1) (Q := 2)  ) ?_
 rintro _ w9 ⟨v_9, z_9, rfl, hP9⟩
 refine ⟨_, rfl, ?_⟩
 obtain ⟨c_9, cz_9, hc_9, hcz_9, hP9⟩ := gen2 hP9
 have hS9 := hS6.join hP9
 replace hS9 : St w NoX [c_9, cz_9, c6] w9 := hS9
 refine W_v rfl rfl (V_mov rfl (et rfl)) ?_
 refine W_v rfl rfl (V_ext (v := .agg #[v_9, z_9]) rfl (et rfl) rfl) ?_
 refine W_v rfl rfl (V_ext (v := .int .i64 ((cfE 8 7 4 1 2))) rfl (es rfl (et rfl)) rfl) ?_
 refine W_allocS (z := .agg #[.slice none 0 0, .slice none 0 0]) (zs := #[.slice none 0 0, .slice none 0 0]) hS9 rfl rfl rfl (by kernel_rfl) (by rfl) (fun g10 w10 c10 hc10 hS10 => ?_)
 replace hS10 : St w NoX [c10, c_9, cz_9, c6] w10 := hS10
 refine W_stAS 0 hS10 rfl hc10 rfl rfl rfl (et rfl) (e2 rfl (et rfl)) (by simp only [List.all_toArray, List.all_cons, List.all_nil, rmO_one (hS10.chq 1 rfl hc_9), SlN_one (ow_at (hS10.chq 2 rfl hcz_9))] <;> rfl) (by rfl) (by kernel_rfl) (fun w11 c11 hc11 hS11 => ?_)
 replace hS11 : St w NoX [c11, c_9, cz_9, c6] w11 := hS11
 refine W_v rfl rfl (V_asg rfl (es rfl (et rfl))) ?_
 refine W_end (gen_Q fun A12 hA12 => ?_)
 have hsz12 := szq hA12
 have hdf12 := dfE hA12 hdf7
 have l1_12 := ek7 hA12 1 rfl l1_7
 have l2_12 := lookE hA12 2 (es rfl (et rfl))
 have l3_12 := lookE hA12 3 (et rfl)
 clear hA12 hsz7 hdf7 l1_7
 refine then_n (hK8 _ _ ?_)
 clear hK8
 refine wp_seq_k fun K13 hK13 => ?_
 refine region_in ?_
 refine W_r rfl rfl (VR_ldA rfl l1_12 (hS11.obj 3 rfl hc6) Try.underlying23 rfl (by kernel_rfl)) ?_
 refine W_r rfl rfl (VR_ldA rfl (es rfl l2_12) (hS11.obj 0 rfl hc11) Try.underlying29 rfl (by kernel_rfl)) ?_
 refine W_call rfl rfl rfl Try.func22 (by kernel_rfl) rfl (args4 (es rfl (et rfl)) (et rfl) rfl rfl) (kRec_c (C := 8) (N := 7) (Z := 4) (K := 1) (Q := 2) (slot := 6) (now := 13) (hS11.chC 1 rfl hc_9).rm (hS11.chC 2 rfl hcz_9).own ) ?_
 rintro _ w14 ⟨v_14, z_14, rfl, hP14⟩
 refine ⟨_, rfl, ?_⟩
 obtain ⟨c_14, cz_14, hc_14, hcz_14, hP14⟩ := gen2 hP14
 have hS14 := hS11.join hP14
 replace hS14 : St w NoX [c_14, cz_14, c11, c_9, cz_9, c6] w14 := hS14
 refine W_v rfl rfl (V_mov rfl (et rfl)) ?_
 refine W_v rfl rfl (V_ext (v := .agg #[v_14, z_14]) rfl (et rfl) rfl) ?_
 refine W_v rfl rfl (V_ext (v := .int .i64 ((chE8 8 7 4 1 2 (nwC 8 7 4 1 2) (nwN 8 7 4 1 2) 6 0 13))) rfl (es rfl (et rfl)) rfl) ?_
 refine W_allocS (z := .agg #[.slice none 0 0, .slice none 0 0]) (zs := #[.slice none 0 0, .slice none 0 0]) hS14 rfl rfl rfl (by kernel_rfl) (by rfl) (fun g15 w15 c15 hc15 hS15 => ?_)
 replace hS15 : St w NoX [c15, c_14, cz_14, c11, c_9, cz_9, c6] w15 := hS15
 refine W_stAS 0 hS15 rfl hc15 rfl rfl rfl (et rfl) (e2 rfl (et rfl)) (by simp only [List.all_toArray, List.all_cons, List.all_nil, rmO_one (hS15.chq 1 rfl hc_14), SlN_one (ow_at (hS15.chq 2 rfl hcz_14))] <;> rfl) (by rfl) (by kernel_rfl) (fun w16 c16 hc16 hS16 => ?_)
 replace hS16 : St w NoX [c16, c_14, cz_14, c11, c_9, cz_9, c6] w16 := hS16
 refine W_v rfl rfl (V_asg rfl (es rfl (et rfl))) ?_
 refine W_end (gen_Q fun A17 hA17 => ?_)
 have hsz17 := szq hA17
 have hdf17 := dfE hA17 hdf12
 have l1_17 := ek8 hA17 1 rfl l1_12
 have l2_17 := ek8 hA17 2 rfl l2_12
 have l3_17 := ek8 hA17 3 rfl l3_12
 have l4_17 := lookE hA17 4 (es rfl (et rfl))
 have l5_17 := lookE hA17 5 (et rfl)
 clear hA17 hsz12 hdf12 l1_12 l2_12 l3_12
 refine then_n (hK13 _ _ ?_)
 clear hK13
 refine wp_seq_k fun K18 hK18 => ?_
 refine region_in ?_
 refine W_r rfl rfl (VR_ldA rfl l4_17 (hS16.obj 0 rfl hc16) Try.underlying29 rfl (by kernel_rfl)) ?_
 refine W_call rfl rfl rfl Try.func12 (by kernel_rfl) rfl (args2 (et rfl) rfl) (kIn8_c (i := 1) (hS16.chC 1 rfl hc_14).rm (hS16.chC 2 rfl hcz_14).own ) ?_
 rintro _ w19 ⟨v_19, rfl, hP19⟩
 refine ⟨_, rfl, ?_⟩
 obtain ⟨c_19, hc_19, hP19⟩ := gen1 hP19
 have hS19 := hS16.join hP19
 replace hS19 : St w NoX [c_19, c16, c_14, cz_14, c11, c_9, cz_9, c6] w19 := hS19
 refine W_v rfl rfl (V_mov rfl (et rfl)) ?_
 refine W_v rfl rfl (V_ext (v := v_19) rfl (et rfl) rfl) ?_
 refine W_v rfl rfl (V_ext (v := .int .i64 ((itE (chC 8 7 4 1 2 (nwC 8 7 4 1 2) (nwN 8 7 4 1 2) 6 0 13) 1))) rfl (es rfl (et rfl)) rfl) ?_
 refine W_v rfl rfl (V_asg rfl (es rfl (et rfl))) ?_
 refine W_v rfl rfl (V_asg rfl (es rfl (et rfl))) ?_
 refine W_end (gen_Q fun A20 hA20 => ?_)
 have hsz20 := szq hA20
 have hdf20 := dfE hA20 hdf17
 have l1_20 := ek7 hA20 1 rfl l1_17
 have l2_20 := ek7 hA20 2 rfl l2_17
 have l3_20 := ek7 hA20 3 rfl l3_17
 have l4_20 := ek7 hA20 4 rfl l4_17
 have l5_20 := ek7 hA20 5 rfl l5_17
 have l6_20 := lookE hA20 6 (es rfl (et rfl))
 have l7_20 := lookE hA20 7 (et rfl)
 clear hA20 hsz17 hdf17 l1_17 l2_17 l3_17 l4_17 l5_17
 refine then_n (hK18 _ _ ?_)
 clear hK18
 refine wp_seq_k fun K21 hK21 => ?_
 refine region_in ?_
 refine W_r rfl rfl (VR_ldA rfl l1_20 (hS19.obj 7 rfl hc6) Try.underlying23 rfl (by kernel_rfl)) ?_
 refine W_r rfl rfl (VR_ldA rfl (es rfl l2_20) (hS19.obj 4 rfl hc11) Try.underlying29 rfl (by kernel_rfl)) ?_
 refine W_call rfl rfl rfl Try.func22 (by kernel_rfl) rfl (args4 (es rfl (et rfl)) (et rfl) rfl rfl) (kRec_c (C := 8) (N := 7) (Z := 4) (K := 1) (Q := 2) (slot := 6) (now := 7) (hS19.chC 5 rfl hc_9).rm (hS19.chC 6 rfl hcz_9).own ) ?_
 rintro _ w22 ⟨v_22, z_22, rfl, hP22⟩
 refine ⟨_, rfl, ?_⟩
 obtain ⟨c_22, cz_22, hc_22, hcz_22, hP22⟩ := gen2 hP22
 have hS22 := hS19.join hP22
 replace hS22 : St w NoX [c_22, cz_22, c_19, c16, c_14, cz_14, c11, c_9, cz_9, c6] w22 := hS22
 refine W_v rfl rfl (V_mov rfl (et rfl)) ?_
 refine W_v rfl rfl (V_ext (v := .agg #[v_22, z_22]) rfl (et rfl) rfl) ?_
 refine W_v rfl rfl (V_ext (v := .int .i64 ((chE8 8 7 4 1 2 (nwC 8 7 4 1 2) (nwN 8 7 4 1 2) 6 0 7))) rfl (es rfl (et rfl)) rfl) ?_
 refine W_allocS (z := .agg #[.slice none 0 0, .slice none 0 0]) (zs := #[.slice none 0 0, .slice none 0 0]) hS22 rfl rfl rfl (by kernel_rfl) (by rfl) (fun g23 w23 c23 hc23 hS23 => ?_)
 replace hS23 : St w NoX [c23, c_22, cz_22, c_19, c16, c_14, cz_14, c11, c_9, cz_9, c6] w23 := hS23
 refine W_stAS 0 hS23 rfl hc23 rfl rfl rfl (et rfl) (e2 rfl (et rfl)) (by simp only [List.all_toArray, List.all_cons, List.all_nil, rmO_one (hS23.chq 1 rfl hc_22), SlN_one (ow_at (hS23.chq 2 rfl hcz_22))] <;> rfl) (by rfl) (by kernel_rfl) (fun w24 c24 hc24 hS24 => ?_)
 replace hS24 : St w NoX [c24, c_22, cz_22, c_19, c16, c_14, cz_14, c11, c_9, cz_9, c6] w24 := hS24
 refine W_v rfl rfl (V_asg rfl (es rfl (et rfl))) ?_
 refine W_end (gen_Q fun A25 hA25 => ?_)
 have hsz25 := szq hA25
 have hdf25 := dfE hA25 hdf20
 have l1_25 := ek8 hA25 1 rfl l1_20
 have l2_25 := ek8 hA25 2 rfl l2_20
 have l3_25 := ek8 hA25 3 rfl l3_20
 have l4_25 := ek8 hA25 4 rfl l4_20
 have l5_25 := ek8 hA25 5 rfl l5_20
 have l6_25 := ek8 hA25 6 rfl l6_20
 have l7_25 := ek8 hA25 7 rfl l7_20
 have l8_25 := lookE hA25 8 (es rfl (et rfl))
 have l9_25 := lookE hA25 9 (et rfl)
 clear hA25 hsz20 hdf20 l1_20 l2_20 l3_20 l4_20 l5_20 l6_20 l7_20
 refine then_n (hK21 _ _ ?_)
 clear hK21
 refine wp_seq_k fun K26 hK26 => ?_
 refine region_in ?_
 refine W_r rfl rfl (VR_ldA rfl l8_25 (hS24.obj 0 rfl hc24) Try.underlying29 rfl (by kernel_rfl)) ?_
 refine W_call rfl rfl rfl Try.func15 (by kernel_rfl) rfl (args1 (et rfl)) (kCt8_c (hS24.chC 1 rfl hc_22).rm (hS24.chC 2 rfl hcz_22).own (by first | with_reducible assumption | omega | with_reducible exact nwX_len (by omega) | with_reducible exact chX_len (by omega) | with_reducible exact prX_len (by omega) | decide +kernel | (simp; omega))) ?_
 rintro _ w27 ⟨rfl, hP27⟩
 refine ⟨_, rfl, ?_⟩
 have hS27 := hS24.join hP27
 replace hS27 : St w NoX [c24, c_22, cz_22, c_19, c16, c_14, cz_14, c11, c_9, cz_9, c6] w27 := hS27
 refine W_v rfl rfl (V_mov rfl (et rfl)) ?_
 refine W_v rfl rfl (V_ext (v := .int .i64 ((ctP ((chC 8 7 4 1 2 (nwC 8 7 4 1 2) (nwN 8 7 4 1 2) 6 0 7) ++ [(chN 8 7 4 1 2 (nwC 8 7 4 1 2) (nwN 8 7 4 1 2) 6 0 7)])).1)) rfl (et rfl) rfl) ?_
 refine W_v rfl rfl (V_ext (v := .int .i64 ((ctP ((chC 8 7 4 1 2 (nwC 8 7 4 1 2) (nwN 8 7 4 1 2) 6 0 7) ++ [(chN 8 7 4 1 2 (nwC 8 7 4 1 2) (nwN 8 7 4 1 2) 6 0 7)])).2)) rfl (es rfl (et rfl)) rfl) ?_
 refine W_v rfl rfl (V_asg rfl (es rfl (et rfl))) ?_
 refine W_v rfl rfl (V_asg rfl (es rfl (et rfl))) ?_
 refine W_end (gen_Q fun A28 hA28 => ?_)
 have hsz28 := szq hA28
 have hdf28 := dfE hA28 hdf25
 have l1_28 := ek7 hA28 1 rfl l1_25
 have l2_28 := ek7 hA28 2 rfl l2_25
 have l3_28 := ek7 hA28 3 rfl l3_25
 have l4_28 := ek7 hA28 4 rfl l4_25
 have l5_28 := ek7 hA28 5 rfl l5_25
 have l6_28 := ek7 hA28 6 rfl l6_25
 have l7_28 := ek7 hA28 7 rfl l7_25
 have l9_28 := ek7 hA28 9 rfl l9_25
 have l10_28 := lookE hA28 10 (es rfl (et rfl))
 have l11_28 := lookE hA28 11 (et rfl)
 clear hA28 hsz25 hdf25 l1_25 l2_25 l3_25 l4_25 l5_25 l6_25 l7_25 l8_25 l9_25
 have hS29 : St w NoX [c_19, c16, c_14, cz_14, c11, c_9, cz_9, c6] w27 := hS27.sel [3, 4, 5, 6, 7, 8, 9, 10] (by decide) rfl
 refine then_n (hK26 _ _ ?_)
 clear hK26
 refine wp_seq_k fun K30 hK30 => ?_
 refine region_in ?_
 refine W_r rfl rfl (VR_ldA rfl l1_28 (hS29.obj 7 rfl hc6) Try.underlying23 rfl (by kernel_rfl)) ?_
 refine W_r rfl rfl (VR_ldA rfl (es rfl l2_28) (hS29.obj 4 rfl hc11) Try.underlying29 rfl (by kernel_rfl)) ?_
 refine W_call rfl rfl rfl Try.func22 (by kernel_rfl) rfl (args4 (es rfl (et rfl)) (et rfl) rfl rfl) (kRec_c (C := 8) (N := 7) (Z := 4) (K := 1) (Q := 2) (slot := 6) (now := 1) (hS29.chC 5 rfl hc_9).rm (hS29.chC 6 rfl hcz_9).own ) ?_
 rintro _ w31 ⟨v_31, z_31, rfl, hP31⟩
 refine ⟨_, rfl, ?_⟩
 obtain ⟨c_31, cz_31, hc_31, hcz_31, hP31⟩ := gen2 hP31
 have hS31 := hS29.join hP31
 replace hS31 : St w NoX [c_31, cz_31, c_19, c16, c_14, cz_14, c11, c_9, cz_9, c6] w31 := hS31
 refine W_v rfl rfl (V_mov rfl (et rfl)) ?_
 refine W_v rfl rfl (V_ext (v := .agg #[v_31, z_31]) rfl (et rfl) rfl) ?_
 refine W_v rfl rfl (V_ext (v := .int .i64 ((chE8 8 7 4 1 2 (nwC 8 7 4 1 2) (nwN 8 7 4 1 2) 6 0 1))) rfl (es rfl (et rfl)) rfl) ?_
 refine W_allocS (z := .agg #[.slice none 0 0, .slice none 0 0]) (zs := #[.slice none 0 0, .slice none 0 0]) hS31 rfl rfl rfl (by kernel_rfl) (by rfl) (fun g32 w32 c32 hc32 hS32 => ?_)
 replace hS32 : St w NoX [c32, c_31, cz_31, c_19, c16, c_14, cz_14, c11, c_9, cz_9, c6] w32 := hS32
 refine W_stAS 0 hS32 rfl hc32 rfl rfl rfl (et rfl) (e2 rfl (et rfl)) (by simp only [List.all_toArray, List.all_cons, List.all_nil, rmO_one (hS32.chq 1 rfl hc_31), SlN_one (ow_at (hS32.chq 2 rfl hcz_31))] <;> rfl) (by rfl) (by kernel_rfl) (fun w33 c33 hc33 hS33 => ?_)
 replace hS33 : St w NoX [c33, c_31, cz_31, c_19, c16, c_14, cz_14, c11, c_9, cz_9, c6] w33 := hS33
 refine W_v rfl rfl (V_asg rfl (es rfl (et rfl))) ?_
 refine W_end (gen_Q fun A34 hA34 => ?_)
 have hsz34 := szq hA34
 have hdf34 := dfE hA34 hdf28
 have l1_34 := ek8 hA34 1 rfl l1_28
 have l2_34 := ek8 hA34 2 rfl l2_28
 have l3_34 := ek8 hA34 3 rfl l3_28
 have l4_34 := ek8 hA34 4 rfl l4_28
 have l5_34 := ek8 hA34 5 rfl l5_28
 have l6_34 := ek8 hA34 6 rfl l6_28
 have l7_34 := ek8 hA34 7 rfl l7_28
 have l9_34 := ek8 hA34 9 rfl l9_28
 have l10_34 := ek8 hA34 10 rfl l10_28
 have l11_34 := ek8 hA34 11 rfl l11_28
 have l12_34 := lookE hA34 12 (es rfl (et rfl))
 have l13_34 := lookE hA34 13 (et rfl)
 clear hA34 hsz28 hdf28 l1_28 l2_28 l3_28 l4_28 l5_28 l6_28 l7_28 l9_28 l10_28 l11_28
 refine then_n (hK30 _ _ ?_)
 clear hK30
 refine wp_seq_k fun K35 hK35 => ?_
 refine region_in ?_
 refine W_r rfl rfl (VR_ldA rfl l12_34 (hS33.obj 0 rfl hc33) Try.underlying29 rfl (by kernel_rfl)) ?_
 refine W_call rfl rfl rfl Try.func34 (by kernel_rfl) rfl (args1 (et rfl)) (kYg8_c (hS33.chC 1 rfl hc_31).rm (hS33.chC 2 rfl hcz_31).own ) ?_
 rintro _ w36 ⟨v_36, rfl, hP36⟩
 refine ⟨_, rfl, ?_⟩
 obtain ⟨c_36, hc_36, hP36⟩ := gen1 hP36
 have hS36 := hS33.join hP36
 replace hS36 : St w NoX [c_36, c33, c_31, cz_31, c_19, c16, c_14, cz_14, c11, c_9, cz_9, c6] w36 := hS36
 refine W_v rfl rfl (V_mov rfl (et rfl)) ?_
 refine W_v rfl rfl (V_ext (v := v_36) rfl (et rfl) rfl) ?_
 refine W_v rfl rfl (V_ext (v := .int .i64 ((ckS (chN 8 7 4 1 2 (nwC 8 7 4 1 2) (nwN 8 7 4 1 2) 6 0 1)).2)) rfl (es rfl (et rfl)) rfl) ?_
 refine W_v rfl rfl (V_asg rfl (es rfl (et rfl))) ?_
 refine W_v rfl rfl (V_asg rfl (es rfl (et rfl))) ?_
 refine W_end (gen_Q fun A37 hA37 => ?_)
 have hsz37 := szq hA37
 have hdf37 := dfE hA37 hdf34
 have l1_37 := ek7 hA37 1 rfl l1_34
 have l2_37 := ek7 hA37 2 rfl l2_34
 have l3_37 := ek7 hA37 3 rfl l3_34
 have l4_37 := ek7 hA37 4 rfl l4_34
 have l5_37 := ek7 hA37 5 rfl l5_34
 have l6_37 := ek7 hA37 6 rfl l6_34
 have l7_37 := ek7 hA37 7 rfl l7_34
 have l9_37 := ek7 hA37 9 rfl l9_34
 have l10_37 := ek7 hA37 10 rfl l10_34
 have l11_37 := ek7 hA37 11 rfl l11_34
 have l13_37 := ek7 hA37 13 rfl l13_34
 have l14_37 := lookE hA37 14 (es rfl (et rfl))
 have l15_37 := lookE hA37 15 (et rfl)
 clear hA37 hsz34 hdf34 l1_34 l2_34 l3_34 l4_34 l5_34 l6_34 l7_34 l9_34 l10_34 l11_34 l12_34 l13_34
 have hS38 : St w NoX [c_36, c_19, c16, c_14, cz_14, c11, c_9, cz_9, c6] w36 := hS36.sel [0, 4, 5, 6, 7, 8, 9, 10, 11] (by decide) rfl
 refine then_n (hK35 _ _ ?_)
 clear hK35
 refine wp_seq_k fun K39 hK39 => ?_
 refine region_in ?_
 refine W_r rfl rfl (VR_ldA rfl l1_37 (hS38.obj 8 rfl hc6) Try.underlying23 rfl (by kernel_rfl)) ?_
 refine W_r rfl rfl (VR_ldA rfl (es rfl l4_37) (hS38.obj 2 rfl hc16) Try.underlying29 rfl (by kernel_rfl)) ?_
 refine W_call rfl rfl rfl Try.func29 (by kernel_rfl) rfl (args5 (es rfl (et rfl)) (et rfl) rfl rfl rfl) (kSto_c (C := 8) (N := 7) (Z := 4) (K := 1) (Q := 2) (slot := 6) (old := 13) (now := 21) (hS38.chC 3 rfl hc_14).rm (hS38.chC 4 rfl hcz_14).own ) ?_
 rintro _ w40 ⟨v_40, z_40, rfl, hP40⟩
 refine ⟨_, rfl, ?_⟩
 obtain ⟨c_40, cz_40, hc_40, hcz_40, hP40⟩ := gen2 hP40
 have hS40 := hS38.join hP40
 replace hS40 : St w NoX [c_40, cz_40, c_36, c_19, c16, c_14, cz_14, c11, c_9, cz_9, c6] w40 := hS40
 refine W_v rfl rfl (V_mov rfl (et rfl)) ?_
 refine W_v rfl rfl (V_ext (v := .agg #[v_40, z_40]) rfl (et rfl) rfl) ?_
 refine W_v rfl rfl (V_ext (v := .int .i64 ((chE8 8 7 4 1 2 (chC 8 7 4 1 2 (nwC 8 7 4 1 2) (nwN 8 7 4 1 2) 6 0 13) (chN 8 7 4 1 2 (nwC 8 7 4 1 2) (nwN 8 7 4 1 2) 6 0 13) 6 13 21))) rfl (es rfl (et rfl)) rfl) ?_
 refine W_allocS (z := .agg #[.slice none 0 0, .slice none 0 0]) (zs := #[.slice none 0 0, .slice none 0 0]) hS40 rfl rfl rfl (by kernel_rfl) (by rfl) (fun g41 w41 c41 hc41 hS41 => ?_)
 replace hS41 : St w NoX [c41, c_40, cz_40, c_36, c_19, c16, c_14, cz_14, c11, c_9, cz_9, c6] w41 := hS41
 refine W_stAS 0 hS41 rfl hc41 rfl rfl rfl (et rfl) (e2 rfl (et rfl)) (by simp only [List.all_toArray, List.all_cons, List.all_nil, rmO_one (hS41.chq 1 rfl hc_40), SlN_one (ow_at (hS41.chq 2 rfl hcz_40))] <;> rfl) (by rfl) (by kernel_rfl) (fun w42 c42 hc42 hS42 => ?_)
 replace hS42 : St w NoX [c42, c_40, cz_40, c_36, c_19, c16, c_14, cz_14, c11, c_9, cz_9, c6] w42 := hS42
 refine W_v rfl rfl (V_asg rfl (es rfl (et rfl))) ?_
 refine W_end (gen_Q fun A43 hA43 => ?_)
 have hsz43 := szq hA43
 have hdf43 := dfE hA43 hdf37
 have l1_43 := ek8 hA43 1 rfl l1_37
 have l2_43 := ek8 hA43 2 rfl l2_37
 have l3_43 := ek8 hA43 3 rfl l3_37
 have l5_43 := ek8 hA43 5 rfl l5_37
 have l6_43 := ek8 hA43 6 rfl l6_37
 have l7_43 := ek8 hA43 7 rfl l7_37
 have l9_43 := ek8 hA43 9 rfl l9_37
 have l10_43 := ek8 hA43 10 rfl l10_37
 have l11_43 := ek8 hA43 11 rfl l11_37
 have l13_43 := ek8 hA43 13 rfl l13_37
 have l14_43 := ek8 hA43 14 rfl l14_37
 have l15_43 := ek8 hA43 15 rfl l15_37
 have l16_43 := lookE hA43 16 (es rfl (et rfl))
 have l17_43 := lookE hA43 17 (et rfl)
 clear hA43 hsz37 hdf37 l1_37 l2_37 l3_37 l4_37 l5_37 l6_37 l7_37 l9_37 l10_37 l11_37 l13_37 l14_37 l15_37
 have hS44 : St w NoX [c42, c_40, cz_40, c_36, c_19, c11, c_9, cz_9, c6] w42 := hS42.sel [0, 1, 2, 3, 4, 8, 9, 10, 11] (by decide) rfl
 refine then_n (hK39 _ _ ?_)
 clear hK39
 refine wp_seq_k fun K45 hK45 => ?_
 refine region_in ?_
 refine W_r rfl rfl (VR_ldA rfl l16_43 (hS44.obj 0 rfl hc42) Try.underlying29 rfl (by kernel_rfl)) ?_
 refine W_call rfl rfl rfl Try.func12 (by kernel_rfl) rfl (args2 (et rfl) rfl) (kIn8_c (i := 2) (hS44.chC 1 rfl hc_40).rm (hS44.chC 2 rfl hcz_40).own ) ?_
 rintro _ w46 ⟨v_46, rfl, hP46⟩
 refine ⟨_, rfl, ?_⟩
 obtain ⟨c_46, hc_46, hP46⟩ := gen1 hP46
 have hS46 := hS44.join hP46
 replace hS46 : St w NoX [c_46, c42, c_40, cz_40, c_36, c_19, c11, c_9, cz_9, c6] w46 := hS46
 refine W_v rfl rfl (V_mov rfl (et rfl)) ?_
 refine W_v rfl rfl (V_ext (v := v_46) rfl (et rfl) rfl) ?_
 refine W_v rfl rfl (V_ext (v := .int .i64 ((itE (chC 8 7 4 1 2 (chC 8 7 4 1 2 (nwC 8 7 4 1 2) (nwN 8 7 4 1 2) 6 0 13) (chN 8 7 4 1 2 (nwC 8 7 4 1 2) (nwN 8 7 4 1 2) 6 0 13) 6 13 21) 2))) rfl (es rfl (et rfl)) rfl) ?_
 refine W_v rfl rfl (V_asg rfl (es rfl (et rfl))) ?_
 refine W_v rfl rfl (V_asg rfl (es rfl (et rfl))) ?_
 refine W_end (gen_Q fun A47 hA47 => ?_)
 have hsz47 := szq hA47
 have hdf47 := dfE hA47 hdf43
 have l1_47 := ek7 hA47 1 rfl l1_43
 have l2_47 := ek7 hA47 2 rfl l2_43
 have l3_47 := ek7 hA47 3 rfl l3_43
 have l5_47 := ek7 hA47 5 rfl l5_43
 have l6_47 := ek7 hA47 6 rfl l6_43
 have l7_47 := ek7 hA47 7 rfl l7_43
 have l9_47 := ek7 hA47 9 rfl l9_43
 have l10_47 := ek7 hA47 10 rfl l10_43
 have l11_47 := ek7 hA47 11 rfl l11_43
 have l13_47 := ek7 hA47 13 rfl l13_43
 have l14_47 := ek7 hA47 14 rfl l14_43
 have l15_47 := ek7 hA47 15 rfl l15_43
 have l17_47 := ek7 hA47 17 rfl l17_43
 have l18_47 := lookE hA47 18 (es rfl (et rfl))
 have l19_47 := lookE hA47 19 (et rfl)
 clear hA47 hsz43 hdf43 l1_43 l2_43 l3_43 l5_43 l6_43 l7_43 l9_43 l10_43 l11_43 l13_43 l14_43 l15_43 l16_43 l17_43
 have hS48 : St w NoX [c_46, c_36, c_19, c11, c_9, cz_9, c6] w46 := hS46.sel [0, 4, 5, 6, 7, 8, 9] (by decide) rfl
 refine then_n (hK45 _ _ ?_)
 clear hK45
 refine wp_seq_k fun K49 hK49 => ?_
 refine region_in ?_
 refine W_r rfl rfl (VR_ldA rfl l1_47 (hS48.obj 6 rfl hc6) Try.underlying23 rfl (by kernel_rfl)) ?_
 refine W_r rfl rfl (VR_ldA rfl (es rfl l2_47) (hS48.obj 3 rfl hc11) Try.underlying29 rfl (by kernel_rfl)) ?_
 refine W_call rfl rfl rfl Try.func22 (by kernel_rfl) rfl (args4 (es rfl (et rfl)) (et rfl) rfl rfl) (kRec_c (C := 8) (N := 7) (Z := 4) (K := 1) (Q := 2) (slot := 6) (now := 61) (hS48.chC 4 rfl hc_9).rm (hS48.chC 5 rfl hcz_9).own ) ?_
 rintro _ w50 ⟨v_50, z_50, rfl, hP50⟩
 refine ⟨_, rfl, ?_⟩
 obtain ⟨c_50, cz_50, hc_50, hcz_50, hP50⟩ := gen2 hP50
 have hS50 := hS48.join hP50
 replace hS50 : St w NoX [c_50, cz_50, c_46, c_36, c_19, c11, c_9, cz_9, c6] w50 := hS50
 refine W_v rfl rfl (V_mov rfl (et rfl)) ?_
 refine W_v rfl rfl (V_ext (v := .agg #[v_50, z_50]) rfl (et rfl) rfl) ?_
 refine W_v rfl rfl (V_ext (v := .int .i64 ((chE8 8 7 4 1 2 (nwC 8 7 4 1 2) (nwN 8 7 4 1 2) 6 0 61))) rfl (es rfl (et rfl)) rfl) ?_
 refine W_allocS (z := .agg #[.slice none 0 0, .slice none 0 0]) (zs := #[.slice none 0 0, .slice none 0 0]) hS50 rfl rfl rfl (by kernel_rfl) (by rfl) (fun g51 w51 c51 hc51 hS51 => ?_)
 replace hS51 : St w NoX [c51, c_50, cz_50, c_46, c_36, c_19, c11, c_9, cz_9, c6] w51 := hS51
 refine W_stAS 0 hS51 rfl hc51 rfl rfl rfl (et rfl) (e2 rfl (et rfl)) (by simp only [List.all_toArray, List.all_cons, List.all_nil, rmO_one (hS51.chq 1 rfl hc_50), SlN_one (ow_at (hS51.chq 2 rfl hcz_50))] <;> rfl) (by rfl) (by kernel_rfl) (fun w52 c52 hc52 hS52 => ?_)
 replace hS52 : St w NoX [c52, c_50, cz_50, c_46, c_36, c_19, c11, c_9, cz_9, c6] w52 := hS52
 refine W_v rfl rfl (V_asg rfl (es rfl (et rfl))) ?_
 refine W_end (gen_Q fun A53 hA53 => ?_)
 have hsz53 := szq hA53
 have hdf53 := dfE hA53 hdf47
 have l3_53 := ek8 hA53 3 rfl l3_47
 have l5_53 := ek8 hA53 5 rfl l5_47
 have l6_53 := ek8 hA53 6 rfl l6_47
 have l7_53 := ek8 hA53 7 rfl l7_47
 have l9_53 := ek8 hA53 9 rfl l9_47
 have l10_53 := ek8 hA53 10 rfl l10_47
 have l11_53 := ek8 hA53 11 rfl l11_47
 have l13_53 := ek8 hA53 13 rfl l13_47
 have l14_53 := ek8 hA53 14 rfl l14_47
 have l15_53 := ek8 hA53 15 rfl l15_47
 have l17_53 := ek8 hA53 17 rfl l17_47
 have l18_53 := ek8 hA53 18 rfl l18_47
 have l19_53 := ek8 hA53 19 rfl l19_47
 have l21_53 := lookE hA53 21 (et rfl)
 clear hA53 hsz47 hdf47 l1_47 l2_47 l3_47 l5_47 l6_47 l7_47 l9_47 l10_47 l11_47 l13_47 l14_47 l15_47 l17_47 l18_47 l19_47
 have hS54 : St w NoX [c_46, c_36, c_19] w52 := hS52.sel [3, 4, 5] (by decide) rfl
 refine then_n (hK49 _ _ ?_)
 clear hK49
 refine wp_seq_k fun K55 hK55 => ?_
 refine region_in ?_
 refine W_v rfl rfl (V_mov rfl l3_53) ?_
 refine W_v rfl rfl (V_eql rfl (et rfl) rfl) ?_
 refine W_sure (c' := true) rfl rfl (V_mov rfl (et rfl)) (by decide +kernel) ?_
 refine W_v rfl (wanted_t rfl rfl (et rfl) (ez rfl)) (V_mov rfl (e3 rfl l5_53)) ?_
 refine W_v rfl (wanted_t rfl rfl (es rfl (et rfl)) (ez rfl)) (V_eql rfl (et rfl) rfl) ?_
 refine W_v rfl rfl (V_pickT rfl (e2 rfl (et rfl)) (et rfl)) ?_
 refine W_sure (c' := true) rfl rfl (V_mov rfl (et rfl)) (by decide +kernel) ?_
 refine W_v rfl (wanted_t rfl rfl (et rfl) (ez rfl)) (V_mov rfl (e7 rfl l6_53)) ?_
 refine W_v rfl (wanted_t rfl rfl (es rfl (et rfl)) (ez rfl)) (V_mov rfl (e8 rfl l7_53)) ?_
 have hll56 : [6].length = 1 := rfl
 refine W_litS (vs := [.int .i64 6]) (xs := ([6].map (Value.int .i64))) 1 hS54 rfl (wanted_t rfl rfl (e2 rfl (et rfl)) (ez rfl)) rfl (parts1 rfl) rfl Try.underlying25 (by kernel_rfl) (by decide) (by intro v hv; simp only [List.mem_cons, List.not_mem_nil, or_false] at hv; rcases hv with rfl <;> rfl) (by rfl) (fun g56 w56 c56 hc56 hS56 => ?_)
 replace hc56 : c56 = io .i64 (.slice (some ⟨g56, 0, none⟩) 1 1) [6] := hc56
 replace hS56 : St w NoX [c56, c_46, c_36, c_19] w56 := hS56
 refine W_call rfl (wanted_t rfl rfl (e3 rfl (et rfl)) (ez rfl)) rfl Try.func39 (by kernel_rfl) rfl (args3 (e2 rfl (et rfl)) (es rfl (et rfl)) (et rfl)) (lis_c (er := (itE (chC 8 7 4 1 2 (nwC 8 7 4 1 2) (nwN 8 7 4 1 2) 6 0 13) 1)) (hS56.chC 3 rfl hc_19).own (hS56.chC 0 rfl hc56).own ) ?_
 rintro _ w57 ⟨rfl, hP57⟩
 refine ⟨_, rfl, ?_⟩
 have hS57 := hS56.join hP57
 replace hS57 : St w NoX [c56, c_46, c_36, c_19] w57 := hS57
 refine W_v rfl rfl (V_pickT rfl (e4 rfl (et rfl)) (et rfl)) ?_
 refine W_sure (c' := true) rfl rfl (V_mov rfl (et rfl)) (by decide +kernel) ?_
 refine W_v rfl (wanted_t rfl rfl (et rfl) (ez rfl)) (V_mov rfl (e13 rfl l9_53)) ?_
 refine W_v rfl (wanted_t rfl rfl (es rfl (et rfl)) (ez rfl)) (V_eql rfl (et rfl) rfl) ?_
 refine W_v rfl rfl (V_pickT rfl (e2 rfl (et rfl)) (et rfl)) ?_
 refine W_sure (c' := true) rfl rfl (V_mov rfl (et rfl)) (by decide +kernel) ?_
 refine W_v rfl (wanted_t rfl rfl (et rfl) (ez rfl)) (V_mov rfl (e17 rfl l10_53)) ?_
 refine W_v rfl (wanted_t rfl rfl (es rfl (et rfl)) (ez rfl)) (V_eql rfl (et rfl) rfl) ?_
 refine W_v rfl rfl (V_pickT rfl (e2 rfl (et rfl)) (et rfl)) ?_
 refine W_sure (c' := true) rfl rfl (V_mov rfl (et rfl)) (by decide +kernel) ?_
 refine W_v rfl (wanted_t rfl rfl (et rfl) (ez rfl)) (V_mov rfl (e21 rfl l11_53)) ?_
 refine W_v rfl (wanted_t rfl rfl (es rfl (et rfl)) (ez rfl)) (V_eql rfl (et rfl) rfl) ?_
 refine W_v rfl rfl (V_pickT rfl (e2 rfl (et rfl)) (et rfl)) ?_
 refine W_sure (c' := true) rfl rfl (V_mov rfl (et rfl)) (by decide +kernel) ?_
 refine W_v rfl (wanted_t rfl rfl (et rfl) (ez rfl)) (V_mov rfl (e25 rfl l13_53)) ?_
 refine W_v rfl (wanted_t rfl rfl (es rfl (et rfl)) (ez rfl)) (V_eql rfl (et rfl) rfl) ?_
 refine W_v rfl rfl (V_pickT rfl (e2 rfl (et rfl)) (et rfl)) ?_
 refine W_sure (c' := true) rfl rfl (V_mov rfl (et rfl)) (by decide +kernel) ?_
 refine W_v rfl (wanted_t rfl rfl (et rfl) (ez rfl)) (V_mov rfl (e25 rfl (es rfl (es rfl (e2 rfl l14_53))))) ?_
 refine W_v rfl (wanted_t rfl rfl (es rfl (et rfl)) (ez rfl)) (V_mov rfl (e25 rfl (es rfl (es rfl (es rfl (e2 rfl l15_53)))))) ?_
 have hll58 : [6].length = 1 := rfl
 refine W_litS (vs := [.int .i64 6]) (xs := ([6].map (Value.int .i64))) 1 hS57 rfl (wanted_t rfl rfl (e2 rfl (et rfl)) (ez rfl)) rfl (parts1 rfl) rfl Try.underlying25 (by kernel_rfl) (by decide) (by intro v hv; simp only [List.mem_cons, List.not_mem_nil, or_false] at hv; rcases hv with rfl <;> rfl) (by rfl) (fun g58 w58 c58 hc58 hS58 => ?_)
 replace hc58 : c58 = io .i64 (.slice (some ⟨g58, 0, none⟩) 1 1) [6] := hc58
 replace hS58 : St w NoX [c58, c56, c_46, c_36, c_19] w58 := hS58
 refine W_call rfl (wanted_t rfl rfl (e3 rfl (et rfl)) (ez rfl)) rfl Try.func39 (by kernel_rfl) rfl (args3 (e2 rfl (et rfl)) (es rfl (et rfl)) (et rfl)) (lis_c (er := (ckS (chN 8 7 4 1 2 (nwC 8 7 4 1 2) (nwN 8 7 4 1 2) 6 0 1)).2) (hS58.chC 3 rfl hc_36).own (hS58.chC 0 rfl hc58).own ) ?_
 rintro _ w59 ⟨rfl, hP59⟩
 refine ⟨_, rfl, ?_⟩
 have hS59 := hS58.join hP59
 replace hS59 : St w NoX [c58, c56, c_46, c_36, c_19] w59 := hS59
 refine W_v rfl rfl (V_pickT rfl (e4 rfl (et rfl)) (et rfl)) ?_
 refine W_sure (c' := true) rfl rfl (V_mov rfl (et rfl)) (by decide +kernel) ?_
 refine W_v rfl (wanted_t rfl rfl (et rfl) (ez rfl)) (V_mov rfl (e25 rfl (es rfl (es rfl (es rfl (es rfl (es rfl (es rfl (es rfl (es rfl (e2 rfl l17_53))))))))))) ?_
 refine W_v rfl (wanted_t rfl rfl (es rfl (et rfl)) (ez rfl)) (V_eql rfl (et rfl) rfl) ?_
 refine W_v rfl rfl (V_pickT rfl (e2 rfl (et rfl)) (et rfl)) ?_
 refine W_sure (c' := true) rfl rfl (V_mov rfl (et rfl)) (by decide +kernel) ?_
 refine W_v rfl (wanted_t rfl rfl (et rfl) (ez rfl)) (V_mov rfl (e25 rfl (es rfl (es rfl (es rfl (es rfl (es rfl (es rfl (es rfl (es rfl (es rfl (es rfl (es rfl (es rfl (e2 rfl l18_53))))))))))))))) ?_
 refine W_v rfl (wanted_t rfl rfl (es rfl (et rfl)) (ez rfl)) (V_mov rfl (e25 rfl (es rfl (es rfl (es rfl (es rfl (es rfl (es rfl (es rfl (es rfl (es rfl (es rfl (es rfl (es rfl (es rfl (e2 rfl l19_53)))))))))))))))) ?_
 have hll60 : [6].length = 1 := rfl
 refine W_litS (vs := [.int .i64 6]) (xs := ([6].map (Value.int .i64))) 1 hS59 rfl (wanted_t rfl rfl (e2 rfl (et rfl)) (ez rfl)) rfl (parts1 rfl) rfl Try.underlying25 (by kernel_rfl) (by decide) (by intro v hv; simp only [List.mem_cons, List.not_mem_nil, or_false] at hv; rcases hv with rfl <;> rfl) (by rfl) (fun g60 w60 c60 hc60 hS60 => ?_)
 replace hc60 : c60 = io .i64 (.slice (some ⟨g60, 0, none⟩) 1 1) [6] := hc60
 replace hS60 : St w NoX [c60, c58, c56, c_46, c_36, c_19] w60 := hS60
 refine W_call rfl (wanted_t rfl rfl (e3 rfl (et rfl)) (ez rfl)) rfl Try.func39 (by kernel_rfl) rfl (args3 (e2 rfl (et rfl)) (es rfl (et rfl)) (et rfl)) (lis_c (er := (itE (chC 8 7 4 1 2 (chC 8 7 4 1 2 (nwC 8 7 4 1 2) (nwN 8 7 4 1 2) 6 0 13) (chN 8 7 4 1 2 (nwC 8 7 4 1 2) (nwN 8 7 4 1 2) 6 0 13) 6 13 21) 2)) (hS60.chC 3 rfl hc_46).own (hS60.chC 0 rfl hc60).own ) ?_
 rintro _ w61 ⟨rfl, hP61⟩
 refine ⟨_, rfl, ?_⟩
 have hS61 := hS60.join hP61
 replace hS61 : St w NoX [c60, c58, c56, c_46, c_36, c_19] w61 := hS61
 refine W_v rfl rfl (V_pickT rfl (e4 rfl (et rfl)) (et rfl)) ?_
 refine W_sure (c' := true) rfl rfl (V_mov rfl (et rfl)) (by decide +kernel) ?_
 refine W_v rfl (wanted_t rfl rfl (et rfl) (ez rfl)) (V_mov rfl (e25 rfl (es rfl (es rfl (es rfl (es rfl (es rfl (es rfl (es rfl (es rfl (es rfl (es rfl (es rfl (es rfl (es rfl (es rfl (es rfl (es rfl (es rfl (es rfl (e2 rfl l21_53))))))))))))))))))))) ?_
 refine W_v rfl (wanted_t rfl rfl (es rfl (et rfl)) (ez rfl)) (V_eql rfl (et rfl) rfl) ?_
 refine W_v rfl rfl (V_pickT rfl (e2 rfl (et rfl)) (et rfl)) ?_
 refine W_v rfl rfl (V_asg rfl (et rfl)) ?_
 refine W_end (gen_Q fun A62 hA62 => ?_)
 have hsz62 := szq hA62
 have hdf62 := dfE hA62 hdf53
 have l0_62 := lookE hA62 0 (et rfl)
 clear hA62 hsz53 hdf53 l3_53 l5_53 l6_53 l7_53 l9_53 l10_53 l11_53 l13_53 l14_53 l15_53 l17_53 l18_53 l19_53 l21_53
 have hS63 : St w NoX [] w61 := hS61.sel [] (by decide) rfl
 refine then_n (hK55 _ _ ?_)
 clear hK55
 refine wp_ret ?_
 refine ret_in (results_1 Try.results10 (rv_tmp l0_62)) hdf62 ?_
 rw [show true = decide ((chE8 8 7 4 1 2 (nwC 8 7 4 1 2) (nwN 8 7 4 1 2) 6 0 61) = 7) by decide +kernel]
 exact ⟨rfl, hS63.fin0⟩

end Go.Proofs.Yteppjefmlibmoaa