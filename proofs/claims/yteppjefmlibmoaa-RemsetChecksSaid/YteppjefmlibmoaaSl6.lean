import Derived.Test.YteppjefmlibmoaaProg
import Derived.Test.YteppjefmlibmoaaSl5
import Derived.Test.YteppjefmlibmoaaSepW
namespace Go.Proofs.Yteppjefmlibmoaa
open Go.RowKit Go.Own Go.Own.R Go.Own.S


set_option maxHeartbeats 4000000 in
theorem qInts_c {xv : Value} {xs : List Int} {yv : Value} {ys : List Int} {w : World} (h_xv : Ro w NoX (il .i64 xv xs)) (h_yv : Ro w NoX (il .i64 yv ys))  :
  Calls Try.prog 26 #[xv, yv] w fun e w' => e = .returned (.bool (decide (xs = ys))) ∧ St w NoX [] w' := by
 refine calls_in 26 Try.func26 rfl rfl (by simp) (fun A0 hsz0 hdf0 hargs => ?_)
 have l0_0 := hargs 0 (xv) rfl
 have l1_0 := hargs 1 (yv) rfl
 clear hargs; replace hsz0 : SzN A0 26 := ⟨hsz0⟩
 have hS := St.nil w
 have bh_xv := SlN.le (sl_SlN h_xv.at)
 have bh_yv := SlN.le (sl_SlN h_yv.at)
 refine wp_seq_k fun K1 hK1 => ?_
 refine region_in ?_
 refine W_v rfl rfl (V_asg rfl rfl) ?_
 refine W_end (gen_Q fun A2 hA2 => ?_)
 have hsz2 := szq hA2
 have hdf2 := dfE hA2 hdf0
 have l0_2 := lookE hA2 0 (es rfl l0_0)
 have l1_2 := lookE hA2 1 (es rfl l1_0)
 clear hA2 hsz0 hdf0 l0_0 l1_0
 refine then_n (hK1 _ _ ?_)
 clear hK1
 refine wp_seq_k fun K3 hK3 => ?_
 refine wp_seq_k fun K4 hK4 => ?_
 refine region_in ?_
 refine W_v rfl rfl (V_mov rfl l0_2) ?_
 refine W_v rfl rfl (V_lenS rfl (et rfl) (sl_SlN h_xv.at) Try.underlying25) ?_
 refine W_v rfl rfl (V_mov rfl (e2 rfl l1_2)) ?_
 refine W_v rfl rfl (V_lenS rfl (et rfl) (sl_SlN h_yv.at) Try.underlying25) ?_
 refine W_v rfl rfl (V_neq rfl (e2 rfl (et rfl)) (et rfl)) ?_
 refine W_end (gen_Q fun A5 hA5 => ?_)
 have hsz5 := szq hA5
 have hdf5 := dfE hA5 hdf2
 have l0_5 := ek5 hA5 0 rfl l0_2
 have l1_5 := ek5 hA5 1 rfl l1_2
 have l10_5 := lookE hA5 10 (et rfl)
 clear hA5 hsz2 hdf2 l0_2 l1_2
 refine then_n (hK4 _ _ ?_)
 clear hK4
 refine cond_dec l10_5 (fun c6 => ?_) (fun c6 => ?_)
 ·refine wp_seq_k fun K7 hK7 => ?_
  refine region_in ?_
  refine W_v rfl rfl (V_asg rfl rfl) ?_
  refine W_end (gen_Q fun A8 hA8 => ?_)
  have hsz8 := szq hA8
  have hdf8 := dfE hA8 hdf5
  have l4_8 := lookE hA8 4 (et rfl)
  clear hA8 hsz5 hdf5 l0_5 l1_5 l10_5
  refine then_n (hK7 _ _ ?_)
  clear hK7
  refine wp_ret ?_
  refine then_ret ?_
  refine ret_in (results_1 Try.results26 (rv_tmp l4_8)) hdf8 ?_
  rw [decide_eq_false (show ¬ xs = ys from fun e => absurd (congrArg List.length e) (by omega))]
  exact ⟨rfl, hS.fin0⟩
 ·have hl : xs.length = ys.length := by omega
  refine wp_skip ?_
  refine then_n (hK3 _ _ ?_)
  clear hK3
  refine wp_seq_k fun K9 hK9 => ?_
  refine wp_seq_k fun K10 hK10 => ?_
  refine region_in ?_
  refine W_v rfl rfl (V_asg rfl rfl) ?_
  refine W_end (gen_Q fun A11 hA11 => ?_)
  have hsz11 := szq hA11
  have hdf11 := dfE hA11 hdf5
  have l0_11 := lookE hA11 0 (es rfl l0_5)
  have l1_11 := lookE hA11 1 (es rfl l1_5)
  have l5_11 := lookE hA11 5 (et rfl)
  clear hA11 hsz5 hdf5 l0_5 l1_5 l10_5
  refine then_n (hK10 _ _ ?_)
  clear hK10
  refine wp_block ?_
  -- loop 4
  refine loopX (fun mz A' w' => SzN A' 26 ∧ A'.defers = [] ∧ (∃ (k : Nat), (mz = xs.length - k) ∧ (k ≤ xs.length) ∧ (∀ i, i < k → xs[i]? = ys[i]?) ∧ (EV A' (.tmp 5) = .int .i64 (k : Int)) ∧ (EV A' (.tmp 0) = EV A11 (.tmp 0)) ∧ (EV A' (.tmp 1) = EV A11 (.tmp 1)) ∧ (St w NoX [] w'))) (xs.length - 0) ⟨hsz11, hdf11, 0, rfl, (by omega), (fun i hi => by omega), ((l5_11).trans (by first | rfl | (simp; done) | (congr 1; omega))), rfl, rfl, hS⟩ ?_
  clear hS
  rintro n12 A12 w12 ⟨hsz12, hdf12, k, hm12, hk, hz, l5_12, u0_12, u1_12, hS12⟩
  have l0_12 := u0_12.trans l0_11
  have l1_12 := u1_12.trans l1_11
  refine wp_seq_k fun K13 hK13 => ?_
  refine wp_seq_k fun K14 hK14 => ?_
  refine region_in ?_
  refine W_v rfl rfl (V_mov rfl l5_12) ?_
  refine W_v rfl rfl (V_mov rfl (es rfl l0_12)) ?_
  refine W_v rfl rfl (V_lenS rfl (et rfl) (sl_SlN h_xv.at) Try.underlying25) ?_
  refine W_v rfl rfl (V_lss rfl (e2 rfl (et rfl)) (et rfl)) ?_
  refine W_end (gen_Q fun A15 hA15 => ?_)
  have hsz15 := szq hA15
  have hdf15 := dfE hA15 hdf12
  have l0_15 := ek4 hA15 0 rfl l0_12
  have l1_15 := ek4 hA15 1 rfl l1_12
  have l5_15 := ek4 hA15 5 rfl l5_12
  have l14_15 := lookE hA15 14 (et rfl)
  clear hA15 hsz12 hdf12 l5_12 l0_12 l1_12
  refine then_n (hK14 _ _ ?_)
  clear hK14
  refine cond_dec l14_15 (fun c16 => ?_) (fun c16 => ?_)
  ·refine wp_skip ?_
   refine then_n (hK13 _ _ ?_)
   clear hK13
   refine wp_seq_k fun K17 hK17 => ?_
   refine wp_block ?_
   refine wp_seq_k fun K18 hK18 => ?_
   refine region_monoS 9 9 [] (by kernel_rfl) (by kernel_rfl) ?_
   refine D_v rfl rfl (V_mov rfl l0_15) rfl rfl ?_
   refine D_v rfl rfl (V_mov rfl (es rfl l5_15)) rfl rfl ?_
   have k19 : k < xs.length := by first | omega | (simp only [List.length_cons, List.length_nil]; omega) | (simp only [List.length_set]; omega) | decide
   obtain ⟨y19, hy19⟩ := get_some (xs := xs) (k := k) k19
   obtain ⟨B19, O19, C19, hv19⟩ := (SlN.blk (sl_SlN h_xv.at) (by first | omega | (simp only [List.length_cons, List.length_nil]; omega) | (simp only [List.length_set]; omega) | decide))
   refine D_v rfl rfl (V_ixS (off := O19 + k) 1 (k) rfl (es rfl (et rfl)) (et rfl) hv19 (by omega) k19 Try.underlying25 (by kernel_rfl) (congrArg _ (Nat.mul_one _))) rfl rfl ?_
   refine D_r rfl rfl (by kernel_rfl) (fun sx hx hF => (VR_ldC rfl (et rfl) ((sl_SlN ((hS12.grow hx).ro h_xv)).cell hv19 (map_get hy19)) Try.underlying3 rfl)) rfl rfl ?_
   refine D_v rfl rfl (V_mov rfl (e4 rfl l1_15)) rfl rfl ?_
   refine D_v rfl rfl (V_mov rfl (e5 rfl l5_15)) rfl rfl ?_
   have k20 : k < ys.length := by first | omega | (simp only [List.length_cons, List.length_nil]; omega) | (simp only [List.length_set]; omega) | decide
   obtain ⟨y20, hy20⟩ := get_some (xs := ys) (k := k) k20
   obtain ⟨B20, O20, C20, hv20⟩ := (SlN.blk (sl_SlN h_yv.at) (by first | omega | (simp only [List.length_cons, List.length_nil]; omega) | (simp only [List.length_set]; omega) | decide))
   refine D_v rfl rfl (V_ixS (off := O20 + k) 1 (k) rfl (es rfl (et rfl)) (et rfl) hv20 (by omega) k20 Try.underlying25 (by kernel_rfl) (congrArg _ (Nat.mul_one _))) rfl rfl ?_
   refine D_r rfl rfl (by kernel_rfl) (fun sx hx hF => (VR_ldC rfl (et rfl) ((sl_SlN ((hS12.grow hx).ro h_yv)).cell hv20 (map_get hy20)) Try.underlying3 rfl)) rfl rfl ?_
   refine D_v rfl rfl (V_neq rfl (e4 rfl (et rfl)) (et rfl)) rfl rfl ?_
   refine ZS_none hS12 (Nat.le_refl _) (Nat.le_refl _) (fun s21 hJ21 hL21 hF21 => ?_)
   have hS21 := hJ21.st; clear hF21 hJ21 hL21
   generalize s21.1 = w21 at *
   replace hS21 : St w NoX [] w21 := hS21
   refine gen_Q (fun A22 hA22 => ?_)
   have hsz22 := szq hA22
   have hdf22 := dfE hA22 hdf15
   have l0_22 := ek9 hA22 0 rfl l0_15
   have l1_22 := ek9 hA22 1 rfl l1_15
   have l5_22 := ek9 hA22 5 rfl l5_15
   have l25_22 := lookE hA22 25 (et rfl)
   clear hA22 hsz15 hdf15 l0_15 l1_15 l5_15 l14_15
   refine then_n (hK18 _ _ ?_)
   clear hK18
   refine cond_dec l25_22 (fun c23 => ?_) (fun c23 => ?_)
   ·refine wp_seq_k fun K24 hK24 => ?_
    refine region_in ?_
    refine W_v rfl rfl (V_asg rfl rfl) ?_
    refine W_end (gen_Q fun A25 hA25 => ?_)
    have hsz25 := szq hA25
    have hdf25 := dfE hA25 hdf22
    have l4_25 := lookE hA25 4 (et rfl)
    clear hA25 hsz22 hdf22 l0_22 l1_22 l5_22 l25_22
    refine then_n (hK24 _ _ ?_)
    clear hK24
    refine wp_ret ?_
    refine inb_ret ?_
    refine then_ret ?_
    refine then_ret ?_
    refine inb_ret ?_
    refine then_ret ?_
    refine ret_in (results_1 Try.results26 (rv_tmp l4_25)) hdf25 ?_
    rw [decide_eq_false (show ¬ xs = ys from eq_ne hy19 hy20 c23)]
    exact ⟨rfl, hS21.fin0⟩
   ·refine wp_skip ?_
    refine inb_n ?_
    refine then_n (hK17 _ _ ?_)
    clear hK17
    refine region_in ?_
    refine W_v rfl rfl (V_mov rfl l5_22) ?_
    refine W_v rfl rfl (V_add rfl (et rfl) rfl (by omega) (by omega)) ?_
    refine W_v rfl rfl (V_asg rfl (et rfl)) ?_
    refine W_end (gen_Q fun A26 hA26 => ?_)
    have hsz26 := szq hA26
    have hdf26 := dfE hA26 hdf22
    have l0_26 := ek3 hA26 0 rfl l0_22
    have l1_26 := ek3 hA26 1 rfl l1_22
    have l5_26 := lookE hA26 5 (et rfl)
    clear hA26 hsz22 hdf22 l0_22 l1_22 l5_22 l25_22
    refine then_n ⟨xs.length - (k + 1), by simp only [hm12]; omega, hsz26, hdf26, (k + 1), rfl, (by omega), (eq_step hz hy19 hy20 (by omega)), ((l5_26).trans (by first | rfl | (simp; done) | (congr 1; omega))), ((l0_26).trans l0_11.symm), ((l1_26).trans l1_11.symm), hS21⟩
  ·refine wp_exit ?_
   refine then_exit ?_
   refine then_exit ?_
   refine inb_hit ?_
   refine then_n (hK9 _ _ ?_)
   clear hK9
   refine wp_seq_k fun K27 hK27 => ?_
   refine region_in ?_
   refine W_v rfl rfl (V_asg rfl rfl) ?_
   refine W_end (gen_Q fun A28 hA28 => ?_)
   have hsz28 := szq hA28
   have hdf28 := dfE hA28 hdf15
   have l4_28 := lookE hA28 4 (et rfl)
   clear hA28 hsz15 hdf15 l0_15 l1_15 l5_15 l14_15
   refine then_n (hK27 _ _ ?_)
   clear hK27
   refine wp_ret ?_
   refine ret_in (results_1 Try.results26 (rv_tmp l4_28)) hdf28 ?_
   rw [decide_eq_true (show xs = ys from eq_all hl (by omega) hz)]
   exact ⟨rfl, hS12.fin0⟩

set_option maxHeartbeats 4000000 in
theorem far_c {cv : Value} {c : List Int} {w : World} (h_cv : Ro w NoX (il .i64 cv c))  :
  Calls Try.prog 69 #[.agg #[cv]] w fun e w' => e = .returned (.bool (decide ((600 < c.length ∧ c.length ≤ 8192) ∨ 8200 < c.length))) ∧ St w NoX [] w' := by
 refine calls_in 19 Try.func69 rfl rfl (by simp) (fun A0 hsz0 hdf0 hargs => ?_)
 have l0_0 := hargs 0 (.agg #[cv]) rfl
 clear hargs; replace hsz0 : SzN A0 19 := ⟨hsz0⟩
 have hS := St.nil w
 have bh_cv := SlN.le (sl_SlN h_cv.at)
 refine wp_seq_k fun K1 hK1 => ?_
 refine region_in ?_
 refine W_boxS (zs := #[cv]) hS rfl rfl rfl l0_0 (by rfl) (fun g2 w2 c2 hc2 hS2 => ?_)
 replace hS2 : St w NoX [c2] w2 := hS2
 refine W_v rfl rfl (V_asg rfl rfl) ?_
 refine W_end (gen_Q fun A3 hA3 => ?_)
 have hsz3 := szq hA3
 have hdf3 := dfE hA3 hdf0
 have l1_3 := lookE hA3 1 (es rfl (et rfl))
 clear hA3 hsz0 hdf0 l0_0
 refine then_n (hK1 _ _ ?_)
 clear hK1
 refine wp_seq_k fun K4 hK4 => ?_
 refine region_in ?_
 refine W_v rfl rfl (V_fa (off' := 0) rfl l1_3 Try.underlying27 rfl (by decide +kernel) rfl) ?_
 refine W_r rfl rfl (VR_ldC rfl (et rfl) (cell_box (v := cv) (hS2.obj 0 rfl hc2) rfl) Try.underlying25 rfl) ?_
 refine W_v rfl rfl (V_lenS rfl (et rfl) (sl_SlN h_cv.at) Try.underlying25) ?_
 refine W_v rfl rfl (V_gtr rfl (et rfl) rfl) ?_
 refine W_split rfl rfl (V_mov rfl (et rfl)) (fun c5 => ?_) (fun c5 => ?_)
 ·refine W_v rfl (wanted_t rfl rfl (et rfl) (ez rfl)) (V_fa (off' := 0) rfl (e5 rfl l1_3) Try.underlying27 rfl (by decide +kernel) rfl) ?_
  refine W_r rfl (wanted_t rfl rfl (es rfl (et rfl)) (ez rfl)) (VR_ldC rfl (et rfl) (cell_box (v := cv) (hS2.obj 0 rfl hc2) rfl) Try.underlying25 rfl) ?_
  refine W_v rfl (wanted_t rfl rfl (e2 rfl (et rfl)) (ez rfl)) (V_lenS rfl (et rfl) (sl_SlN h_cv.at) Try.underlying25) ?_
  refine W_v rfl (wanted_t rfl rfl (e3 rfl (et rfl)) (ez rfl)) (V_leq rfl (et rfl) rfl) ?_
  refine W_v rfl rfl (V_pickT rfl (e4 rfl (et rfl)) (et rfl)) ?_
  refine W_split rfl rfl (V_mov rfl (et rfl)) (fun c6 => ?_) (fun c6 => ?_)
  ·refine W_off rfl (wanted_f rfl rfl (et rfl) (ez rfl) rfl) ?_
   refine W_off rfl (wanted_f rfl rfl (es rfl (et rfl)) (ez rfl) rfl) ?_
   refine W_off rfl (wanted_f rfl rfl (e2 rfl (et rfl)) (ez rfl) rfl) ?_
   refine W_off rfl (wanted_f rfl rfl (e3 rfl (et rfl)) (ez rfl) rfl) ?_
   refine W_v rfl rfl (V_pickT rfl (e4 rfl (et rfl)) rfl) ?_
   refine W_v rfl rfl (V_asg rfl (et rfl)) ?_
   refine W_end (gen_Q fun A7 hA7 => ?_)
   have hsz7 := szq hA7
   have hdf7 := dfE hA7 hdf3
   have l2_7 := lookE hA7 2 (et rfl)
   clear hA7 hsz3 hdf3 l1_3
   have hS8 : St w NoX [] w2 := hS2.sel [] (by decide) rfl
   refine then_n (hK4 _ _ ?_)
   clear hK4
   refine wp_ret ?_
   refine ret_in (results_1 Try.results69 (rv_tmp l2_7)) hdf7 ?_
   rw [show (decide ((600 < c.length ∧ c.length ≤ 8192) ∨ 8200 < c.length)) = true by exact decide_eq_true (by omega)]
   exact ⟨rfl, hS8.fin0⟩
  ·refine W_v rfl (wanted_t rfl rfl (et rfl) (ez rfl)) (V_fa (off' := 0) rfl (e11 rfl l1_3) Try.underlying27 rfl (by decide +kernel) rfl) ?_
   refine W_r rfl (wanted_t rfl rfl (es rfl (et rfl)) (ez rfl)) (VR_ldC rfl (et rfl) (cell_box (v := cv) (hS2.obj 0 rfl hc2) rfl) Try.underlying25 rfl) ?_
   refine W_v rfl (wanted_t rfl rfl (e2 rfl (et rfl)) (ez rfl)) (V_lenS rfl (et rfl) (sl_SlN h_cv.at) Try.underlying25) ?_
   refine W_v rfl (wanted_t rfl rfl (e3 rfl (et rfl)) (ez rfl)) (V_gtr rfl (et rfl) rfl) ?_
   refine W_v rfl rfl (V_pickF rfl (e4 rfl (et rfl)) (et rfl)) ?_
   refine W_v rfl rfl (V_asg rfl (et rfl)) ?_
   refine W_end (gen_Q fun A9 hA9 => ?_)
   have hsz9 := szq hA9
   have hdf9 := dfE hA9 hdf3
   have l2_9 := lookE hA9 2 (et rfl)
   clear hA9 hsz3 hdf3 l1_3
   have hS10 : St w NoX [] w2 := hS2.sel [] (by decide) rfl
   refine then_n (hK4 _ _ ?_)
   clear hK4
   refine wp_ret ?_
   refine ret_in (results_1 Try.results69 (rv_tmp l2_9)) hdf9 ?_
   rw [show (decide ((600 < c.length ∧ c.length ≤ 8192) ∨ 8200 < c.length)) = decide (8200 < (c.length : Int)) by exact decide_eq_decide.2 (by omega)]
   exact ⟨rfl, hS10.fin0⟩
 ·refine W_off rfl (wanted_f rfl rfl (et rfl) (ez rfl) rfl) ?_
  refine W_off rfl (wanted_f rfl rfl (es rfl (et rfl)) (ez rfl) rfl) ?_
  refine W_off rfl (wanted_f rfl rfl (e2 rfl (et rfl)) (ez rfl) rfl) ?_
  refine W_off rfl (wanted_f rfl rfl (e3 rfl (et rfl)) (ez rfl) rfl) ?_
  refine W_v rfl rfl (V_pickF rfl (e4 rfl (et rfl)) rfl) ?_
  refine W_v rfl rfl (V_mov rfl (et rfl)) ?_
  refine W_v rfl (wanted_t rfl rfl (et rfl) (ez rfl)) (V_fa (off' := 0) rfl (e11 rfl l1_3) Try.underlying27 rfl (by decide +kernel) rfl) ?_
  refine W_r rfl (wanted_t rfl rfl (es rfl (et rfl)) (ez rfl)) (VR_ldC rfl (et rfl) (cell_box (v := cv) (hS2.obj 0 rfl hc2) rfl) Try.underlying25 rfl) ?_
  refine W_v rfl (wanted_t rfl rfl (e2 rfl (et rfl)) (ez rfl)) (V_lenS rfl (et rfl) (sl_SlN h_cv.at) Try.underlying25) ?_
  refine W_v rfl (wanted_t rfl rfl (e3 rfl (et rfl)) (ez rfl)) (V_gtr rfl (et rfl) rfl) ?_
  refine W_v rfl rfl (V_pickF rfl (e4 rfl (et rfl)) (et rfl)) ?_
  refine W_v rfl rfl (V_asg rfl (et rfl)) ?_
  refine W_end (gen_Q fun A11 hA11 => ?_)
  have hsz11 := szq hA11
  have hdf11 := dfE hA11 hdf3
  have l2_11 := lookE hA11 2 (et rfl)
  clear hA11 hsz3 hdf3 l1_3
  have hS12 : St w NoX [] w2 := hS2.sel [] (by decide) rfl
  refine then_n (hK4 _ _ ?_)
  clear hK4
  refine wp_ret ?_
  refine ret_in (results_1 Try.results69 (rv_tmp l2_11)) hdf11 ?_
  rw [show (decide ((600 < c.length ∧ c.length ≤ 8192) ∨ 8200 < c.length)) = decide (8200 < (c.length : Int)) by exact decide_eq_decide.2 (by omega)]
  exact ⟨rfl, hS12.fin0⟩

end Go.Proofs.Yteppjefmlibmoaa