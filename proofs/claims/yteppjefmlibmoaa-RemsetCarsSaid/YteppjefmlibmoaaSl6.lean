import Derived.Test.YteppjefmlibmoaaProg
import Derived.Test.YteppjefmlibmoaaSl5
import Derived.Test.YteppjefmlibmoaaSepW
namespace Go.Proofs.Yteppjefmlibmoaa
open Go.RowKit Go.Own Go.Own.R Go.Own.S


set_option maxHeartbeats 4000000 in
theorem qInts_c {xv : Value} {xs : List Int} {yv : Value} {ys : List Int} {w : World} (h_xv : Ro w NoX (il .i64 xv xs)) (h_yv : Ro w NoX (il .i64 yv ys))  :
  Calls Try.prog 26 #[xv, yv] w fun e w' => e = .returned (.bool (decide (xs = ys))) ∧ St w NoX [] w' := by
 refine calls_in 26 Try.func26 rfl rfl (by simp) (fun A0 Y0 hdf0 hargs => ?_)
 have l0_0 := hargs 0 (xv) rfl
 have l1_0 := hargs 1 (yv) rfl
 clear hargs; replace Y0 : SzN A0 26 := ⟨Y0⟩
 have hS := St.nil w
 have bh_xv := SlN.le (sl_SlN h_xv.at)
 have bh_yv := SlN.le (sl_SlN h_yv.at)
 refine wp_seq_k fun K1 H1 => ?_
 refine region_in ?_
 refine W_v rfl rfl (V_asg rfl rfl) ?_
 refine W_end (gen_Q fun A2 E2 => ?_)
 have Y2 := szq E2
 have F2 := ((fsE E2 (cq1 (FS.n hdf0) rfl)).c (lookE E2 0 (es rfl l0_0))).c (lookE E2 1 (es rfl l1_0))
 clear E2 Y0 hdf0 l0_0 l1_0
 refine tk H1 ?_
 refine wp_seq_k fun K3 H3 => ?_
 refine wp_seq_k fun K4 H4 => ?_
 refine region_in ?_
 refine W_v rfl rfl (V_mov rfl (fg1 F2)) ?_
 refine W_v rfl rfl (V_lenS rfl (et rfl) (sl_SlN h_xv.at) Try.underlying25) ?_
 refine W_v rfl rfl (V_mov rfl (es2 rfl (fg0 F2))) ?_
 refine W_v rfl rfl (V_lenS rfl (et rfl) (sl_SlN h_yv.at) Try.underlying25) ?_
 refine W_v rfl rfl (V_neq rfl (es2 rfl (et rfl)) (et rfl)) ?_
 refine W_end (gen_Q fun A5 E5 => ?_)
 have Y5 := szq E5
 have F5 := fsE E5 (ck (cq4 F2 rfl) rfl rfl)
 clear E5 Y2 F2
 refine tk H4 ?_
 refine cond_dec (fg0 F5) (fun c6 => ?_) (fun c6 => ?_)
 ·refine wp_seq_k fun K7 H7 => ?_
  refine region_in ?_
  refine W_v rfl rfl (V_asg rfl rfl) ?_
  refine W_end (gen_Q fun A8 E8 => ?_)
  have Y8 := szq E8
  have F8 := fsE E8 (ck F5 rfl rfl)
  clear E8 Y5 F5
  refine tk H7 ?_
  refine wp_ret ?_
  refine then_ret ?_
  refine ret_in (results_1 Try.results26 (rv_tmp (fg0 F8))) F8.d ?_
  rw [decide_eq_false (show ¬ xs = ys from fun e => absurd (congrArg List.length e) (by omega))]
  exact ⟨rfl, hS.fin0⟩
 have hl : xs.length = ys.length := by omega
 refine wp_skip ?_
 refine tk H3 ?_
 refine wp_seq_k fun K9 H9 => ?_
 refine wp_seq_k fun K10 H10 => ?_
 refine region_in ?_
 refine W_v rfl rfl (V_asg rfl rfl) ?_
 refine W_end (gen_Q fun A11 E11 => ?_)
 have Y11 := szq E11
 have F11 := fsE E11 (ck F5 rfl rfl)
 clear E11 Y5 F5
 refine tk H10 ?_
 refine wp_block ?_
 -- loop 4
 refine loopX (fun mz A' w' => SzN A' 26 ∧ A'.defers = [] ∧ (∃ (k : Nat), (mz = xs.length - k) ∧ (k ≤ xs.length) ∧ (∀ i, i < k → xs[i]? = ys[i]?) ∧ (EV A' (.tmp 5) = .int .i64 (k : Int)) ∧ (EV A' (.tmp 0) = EV A11 (.tmp 0)) ∧ (EV A' (.tmp 1) = EV A11 (.tmp 1)) ∧ (St w NoX [] w'))) (xs.length - 0) ⟨Y11, F11.d, 0, rfl, (by omega), (fun i hi => by omega), (((fg0 F11)).trans (by first | rfl | (simp; done) | (congr 1; omega))), rfl, rfl, hS⟩ ?_
 clear hS
 rintro n12 A12 w12 ⟨Y12, hdf12, k, hm12, hk, hz, l5_12, u0_12, u1_12, S12⟩
 have l0_12 := u0_12.trans (fg3 F11)
 have l1_12 := u1_12.trans (fg2 F11)
 refine wp_seq_k fun K13 H13 => ?_
 refine wp_seq_k fun K14 H14 => ?_
 refine region_in ?_
 refine W_v rfl rfl (V_mov rfl l5_12) ?_
 refine W_v rfl rfl (V_mov rfl (es rfl l0_12)) ?_
 refine W_v rfl rfl (V_lenS rfl (et rfl) (sl_SlN h_xv.at) Try.underlying25) ?_
 refine W_v rfl rfl (V_lss rfl (es2 rfl (et rfl)) (et rfl)) ?_
 refine W_end (gen_Q fun A15 E15 => ?_)
 have Y15 := szq E15
 have F15 := (((fsE E15 (ck (cq3 (FS.n hdf12) rfl) rfl rfl)).c (lookE E15 0 (es4 rfl l0_12))).c (lookE E15 1 (es4 rfl l1_12))).c (lookE E15 5 (es4 rfl l5_12))
 clear E15 Y12 hdf12 l5_12 l0_12 l1_12
 refine tk H14 ?_
 refine cond_dec (fg3 F15) (fun c16 => ?_) (fun c16 => ?_)
 ·refine wp_skip ?_
  refine tk H13 ?_
  refine wp_seq_k fun K17 H17 => ?_
  refine wp_block ?_
  refine wp_seq_k fun K18 H18 => ?_
  refine region_monoS 9 9 [] (by kernel_rfl) (by kernel_rfl) ?_
  refine D_v rfl rfl (V_mov rfl (fg2 F15)) rfl rfl ?_
  refine D_v rfl rfl (V_mov rfl (es rfl (fg0 F15))) rfl rfl ?_
  have k19 : k < xs.length := by first | omega | (simp only [List.length_cons, List.length_nil]; omega) | (simp only [List.length_set]; omega) | decide
  obtain ⟨y19, hy19⟩ := get_some (xs := xs) (k := k) k19
  obtain ⟨B19, O19, C19, hv19⟩ := (SlN.blk (sl_SlN h_xv.at) (by first | omega | (simp only [List.length_cons, List.length_nil]; omega) | (simp only [List.length_set]; omega) | decide))
  refine D_v rfl rfl (V_ixS (off := O19 + k) 1 (k) rfl (es rfl (et rfl)) (et rfl) hv19 (by omega) k19 Try.underlying25 (by kernel_rfl) (congrArg _ (Nat.mul_one _))) rfl rfl ?_
  refine D_r rfl rfl (by kernel_rfl) (fun sx hx hF => (VR_ldC rfl (et rfl) ((sl_SlN ((S12.grow hx).ro h_xv)).cell hv19 (map_get hy19)) Try.underlying3 rfl)) rfl rfl ?_
  refine D_v rfl rfl (V_mov rfl (es4 rfl (fg1 F15))) rfl rfl ?_
  refine D_v rfl rfl (V_mov rfl (es5 rfl (fg0 F15))) rfl rfl ?_
  have k20 : k < ys.length := by first | omega | (simp only [List.length_cons, List.length_nil]; omega) | (simp only [List.length_set]; omega) | decide
  obtain ⟨y20, hy20⟩ := get_some (xs := ys) (k := k) k20
  obtain ⟨B20, O20, C20, hv20⟩ := (SlN.blk (sl_SlN h_yv.at) (by first | omega | (simp only [List.length_cons, List.length_nil]; omega) | (simp only [List.length_set]; omega) | decide))
  refine D_v rfl rfl (V_ixS (off := O20 + k) 1 (k) rfl (es rfl (et rfl)) (et rfl) hv20 (by omega) k20 Try.underlying25 (by kernel_rfl) (congrArg _ (Nat.mul_one _))) rfl rfl ?_
  refine D_r rfl rfl (by kernel_rfl) (fun sx hx hF => (VR_ldC rfl (et rfl) ((sl_SlN ((S12.grow hx).ro h_yv)).cell hv20 (map_get hy20)) Try.underlying3 rfl)) rfl rfl ?_
  refine D_v rfl rfl (V_neq rfl (es4 rfl (et rfl)) (et rfl)) rfl rfl ?_
  refine ZS_none S12 (Nat.le_refl _) (Nat.le_refl _) (fun s21 hJ21 hL21 hF21 => ?_)
  have S21 := hJ21.st; clear hF21 hJ21 hL21
  generalize s21.1 = w21 at *
  replace S21 : St w NoX [] w21 := S21
  refine gen_Q (fun A22 E22 => ?_)
  have Y22 := szq E22
  have F22 := fsE E22 (ck (cq8 F15 rfl) rfl rfl)
  clear E22 Y15 F15
  refine tk H18 ?_
  refine cond_dec (fg0 F22) (fun c23 => ?_) (fun c23 => ?_)
  ·refine wp_seq_k fun K24 H24 => ?_
   refine region_in ?_
   refine W_v rfl rfl (V_asg rfl rfl) ?_
   refine W_end (gen_Q fun A25 E25 => ?_)
   have Y25 := szq E25
   have F25 := fsE E25 (ck F22 rfl rfl)
   clear E25 Y22 F22
   refine tk H24 ?_
   refine wp_ret ?_
   refine inb_ret ?_
   refine then_ret ?_
   refine then_ret ?_
   refine inb_ret ?_
   refine then_ret ?_
   refine ret_in (results_1 Try.results26 (rv_tmp (fg0 F25))) F25.d ?_
   rw [decide_eq_false (show ¬ xs = ys from eq_ne hy19 hy20 c23)]
   exact ⟨rfl, S21.fin0⟩
  refine wp_skip ?_
  refine inb_n ?_
  refine tk H17 ?_
  refine region_in ?_
  refine W_v rfl rfl (V_mov rfl (fg1 F22)) ?_
  refine W_v rfl rfl (V_add rfl (et rfl) rfl (by omega) (by omega)) ?_
  refine W_v rfl rfl (V_asg rfl (et rfl)) ?_
  refine W_end (gen_Q fun A26 E26 => ?_)
  have Y26 := szq E26
  have F26 := fsE E26 (ck (cq2 (fx1 F22) rfl) rfl rfl)
  clear E26 Y22 F22
  refine then_n ⟨xs.length - (k + 1), by simp only [hm12]; omega, Y26, F26.d, (k + 1), rfl, (by omega), (eq_step hz hy19 hy20 (by omega)), (((fg0 F26)).trans (by first | rfl | (simp; done) | (congr 1; omega))), (((fg3 F26)).trans (fg3 F11).symm), (((fg2 F26)).trans (fg2 F11).symm), S21⟩
 refine wp_exit ?_
 refine then_exit ?_
 refine then_exit ?_
 refine inb_hit ?_
 refine tk H9 ?_
 refine wp_seq_k fun K27 H27 => ?_
 refine region_in ?_
 refine W_v rfl rfl (V_asg rfl rfl) ?_
 refine W_end (gen_Q fun A28 E28 => ?_)
 have Y28 := szq E28
 have F28 := fsE E28 (ck F15 rfl rfl)
 clear E28 Y15 F15
 refine tk H27 ?_
 refine wp_ret ?_
 refine ret_in (results_1 Try.results26 (rv_tmp (fg0 F28))) F28.d ?_
 rw [decide_eq_true (show xs = ys from eq_all hl (by omega) hz)]
 exact ⟨rfl, S12.fin0⟩

set_option maxHeartbeats 4000000 in
theorem far_c {cv : Value} {c : List Int} {w : World} (h_cv : Ro w NoX (il .i64 cv c))  :
  Calls Try.prog 69 #[.agg #[cv]] w fun e w' => e = .returned (.bool (decide ((600 < c.length ∧ c.length ≤ 8192) ∨ 8200 < c.length))) ∧ St w NoX [] w' := by
 refine calls_in 19 Try.func69 rfl rfl (by simp) (fun A0 Y0 hdf0 hargs => ?_)
 have l0_0 := hargs 0 (.agg #[cv]) rfl
 clear hargs; replace Y0 : SzN A0 19 := ⟨Y0⟩
 have hS := St.nil w
 have bh_cv := SlN.le (sl_SlN h_cv.at)
 refine wp_seq_k fun K1 H1 => ?_
 refine region_in ?_
 refine W_boxS (zs := #[cv]) hS rfl rfl rfl l0_0 (by rfl) (fun g2 w2 c2 hc2 S2 => ?_)
 replace S2 : St w NoX [c2] w2 := S2
 refine W_v rfl rfl (V_asg rfl rfl) ?_
 refine W_end (gen_Q fun A3 E3 => ?_)
 have Y3 := szq E3
 have F3 := fsE E3 (cq1 (ck (FS.n hdf0) rfl rfl) rfl)
 clear E3 Y0 hdf0 l0_0
 refine tk H1 ?_
 refine wp_seq_k fun K4 H4 => ?_
 refine region_in ?_
 refine W_v rfl rfl (V_fa (off' := 0) rfl (fg0 F3) Try.underlying27 rfl (by decide +kernel) rfl) ?_
 refine W_r rfl rfl (VR_ldC rfl (et rfl) (cell_box (v := cv) (S2.obj 0 rfl hc2) rfl) Try.underlying25 rfl) ?_
 refine W_v rfl rfl (V_lenS rfl (et rfl) (sl_SlN h_cv.at) Try.underlying25) ?_
 refine W_v rfl rfl (V_gtr rfl (et rfl) rfl) ?_
 refine W_split rfl rfl (V_mov rfl (et rfl)) (fun c5 => ?_) (fun c5 => ?_)
 ·refine W_v rfl (wanted_t rfl rfl (et rfl) (ez rfl)) (V_fa (off' := 0) rfl (es5 rfl (fg0 F3)) Try.underlying27 rfl (by decide +kernel) rfl) ?_
  refine W_r rfl (wanted_t rfl rfl (es rfl (et rfl)) (ez rfl)) (VR_ldC rfl (et rfl) (cell_box (v := cv) (S2.obj 0 rfl hc2) rfl) Try.underlying25 rfl) ?_
  refine W_v rfl (wanted_t rfl rfl (es2 rfl (et rfl)) (ez rfl)) (V_lenS rfl (et rfl) (sl_SlN h_cv.at) Try.underlying25) ?_
  refine W_v rfl (wanted_t rfl rfl (es3 rfl (et rfl)) (ez rfl)) (V_leq rfl (et rfl) rfl) ?_
  refine W_v rfl rfl (V_pickT rfl (es4 rfl (et rfl)) (et rfl)) ?_
  refine W_split rfl rfl (V_mov rfl (et rfl)) (fun c6 => ?_) (fun c6 => ?_)
  ·refine W_off rfl (wanted_f rfl rfl (et rfl) (ez rfl) rfl) ?_
   refine W_off rfl (wanted_f rfl rfl (es rfl (et rfl)) (ez rfl) rfl) ?_
   refine W_off rfl (wanted_f rfl rfl (es2 rfl (et rfl)) (ez rfl) rfl) ?_
   refine W_off rfl (wanted_f rfl rfl (es3 rfl (et rfl)) (ez rfl) rfl) ?_
   refine W_v rfl rfl (V_pickT rfl (es4 rfl (et rfl)) rfl) ?_
   refine W_v rfl rfl (V_asg rfl (et rfl)) ?_
   refine W_end (gen_Q fun A7 E7 => ?_)
   have Y7 := szq E7
   have F7 := fsE E7 (ck (cq8 (cq8 F3 rfl) rfl) rfl rfl)
   clear E7 Y3 F3
   have S8 : St w NoX [] w2 := S2.sel [] (by decide) rfl
   refine tk H4 ?_
   refine wp_ret ?_
   refine ret_in (results_1 Try.results69 (rv_tmp (fg0 F7))) F7.d ?_
   rw [show (decide ((600 < c.length ∧ c.length ≤ 8192) ∨ 8200 < c.length)) = true by exact decide_eq_true (by omega)]
   exact ⟨rfl, S8.fin0⟩
  refine W_v rfl (wanted_t rfl rfl (et rfl) (ez rfl)) (V_fa (off' := 0) rfl (es8 rfl (es3 rfl (fg0 F3))) Try.underlying27 rfl (by decide +kernel) rfl) ?_
  refine W_r rfl (wanted_t rfl rfl (es rfl (et rfl)) (ez rfl)) (VR_ldC rfl (et rfl) (cell_box (v := cv) (S2.obj 0 rfl hc2) rfl) Try.underlying25 rfl) ?_
  refine W_v rfl (wanted_t rfl rfl (es2 rfl (et rfl)) (ez rfl)) (V_lenS rfl (et rfl) (sl_SlN h_cv.at) Try.underlying25) ?_
  refine W_v rfl (wanted_t rfl rfl (es3 rfl (et rfl)) (ez rfl)) (V_gtr rfl (et rfl) rfl) ?_
  refine W_v rfl rfl (V_pickF rfl (es4 rfl (et rfl)) (et rfl)) ?_
  refine W_v rfl rfl (V_asg rfl (et rfl)) ?_
  refine W_end (gen_Q fun A9 E9 => ?_)
  have Y9 := szq E9
  have F9 := fsE E9 (ck (cq8 (cq8 F3 rfl) rfl) rfl rfl)
  clear E9 Y3 F3
  have S10 : St w NoX [] w2 := S2.sel [] (by decide) rfl
  refine tk H4 ?_
  refine wp_ret ?_
  refine ret_in (results_1 Try.results69 (rv_tmp (fg0 F9))) F9.d ?_
  rw [show (decide ((600 < c.length ∧ c.length ≤ 8192) ∨ 8200 < c.length)) = decide (8200 < (c.length : Int)) by exact decide_eq_decide.2 (by omega)]
  exact ⟨rfl, S10.fin0⟩
 refine W_off rfl (wanted_f rfl rfl (et rfl) (ez rfl) rfl) ?_
 refine W_off rfl (wanted_f rfl rfl (es rfl (et rfl)) (ez rfl) rfl) ?_
 refine W_off rfl (wanted_f rfl rfl (es2 rfl (et rfl)) (ez rfl) rfl) ?_
 refine W_off rfl (wanted_f rfl rfl (es3 rfl (et rfl)) (ez rfl) rfl) ?_
 refine W_v rfl rfl (V_pickF rfl (es4 rfl (et rfl)) rfl) ?_
 refine W_v rfl rfl (V_mov rfl (et rfl)) ?_
 refine W_v rfl (wanted_t rfl rfl (et rfl) (ez rfl)) (V_fa (off' := 0) rfl (es8 rfl (es3 rfl (fg0 F3))) Try.underlying27 rfl (by decide +kernel) rfl) ?_
 refine W_r rfl (wanted_t rfl rfl (es rfl (et rfl)) (ez rfl)) (VR_ldC rfl (et rfl) (cell_box (v := cv) (S2.obj 0 rfl hc2) rfl) Try.underlying25 rfl) ?_
 refine W_v rfl (wanted_t rfl rfl (es2 rfl (et rfl)) (ez rfl)) (V_lenS rfl (et rfl) (sl_SlN h_cv.at) Try.underlying25) ?_
 refine W_v rfl (wanted_t rfl rfl (es3 rfl (et rfl)) (ez rfl)) (V_gtr rfl (et rfl) rfl) ?_
 refine W_v rfl rfl (V_pickF rfl (es4 rfl (et rfl)) (et rfl)) ?_
 refine W_v rfl rfl (V_asg rfl (et rfl)) ?_
 refine W_end (gen_Q fun A11 E11 => ?_)
 have Y11 := szq E11
 have F11 := fsE E11 (ck (cq8 (cq8 F3 rfl) rfl) rfl rfl)
 clear E11 Y3 F3
 have S12 : St w NoX [] w2 := S2.sel [] (by decide) rfl
 refine tk H4 ?_
 refine wp_ret ?_
 refine ret_in (results_1 Try.results69 (rv_tmp (fg0 F11))) F11.d ?_
 rw [show (decide ((600 < c.length ∧ c.length ≤ 8192) ∨ 8200 < c.length)) = decide (8200 < (c.length : Int)) by exact decide_eq_decide.2 (by omega)]
 exact ⟨rfl, S12.fin0⟩

end Go.Proofs.Yteppjefmlibmoaa