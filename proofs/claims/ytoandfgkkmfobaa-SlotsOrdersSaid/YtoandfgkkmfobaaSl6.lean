import Derived.Test.YtoandfgkkmfobaaProg
import Derived.Test.YtoandfgkkmfobaaSl5
import Derived.Test.YtoandfgkkmfobaaSepW
namespace Go.Proofs.Ytoandfgkkmfobaa
open Go.RowKit Go.Own Go.Own.R Go.Own.S


set_option maxHeartbeats 4000000 in
theorem qInts_c {xv : Value} {xs : List Int} {yv : Value} {ys : List Int} {w : World} (h_xv : Ro w NoX (il .i64 xv xs)) (h_yv : Ro w NoX (il .i64 yv ys))  :
    Calls Try.prog 36 #[xv, yv] w fun e w' => e = .returned (.bool (decide (xs = ys))) ∧ St w NoX [] w' := by
  refine calls_in 26 Try.func36 rfl rfl (by simp) (fun A0 hsz0 hdf0 hargs => ?_)
  have l0_0 := hargs 0 (xv) rfl
  have l1_0 := hargs 1 (yv) rfl
  clear hargs; replace hsz0 : SzN A0 26 := ⟨hsz0⟩
  have hS := St.nil w
  have bh_xv := SlN.le (sl_SlN h_xv.at)
  have bh_yv := SlN.le (sl_SlN h_yv.at)
  refine wp_seq_k (fun K1 hK1 => ?_)
  -- region 0
  refine region_in ?_
  refine W_v rfl rfl (V_asg rfl rfl) ?_
  refine W_end ?_
  refine gen_Q (fun A2 hA2 => ?_)
  have hsz2 : SzN A2 26 := by rw [hA2]; infer_instance
  have hdf2 : A2.defers = [] := by rw [hA2]; simp only [df_put]; exact hdf0
  have l0_2 := lookE hA2 0 (es rfl l0_0)
  have l1_2 := lookE hA2 1 (es rfl l1_0)
  clear hA2 hsz0 hdf0 l0_0 l1_0
  refine then_n (hK1 _ _ ?_)
  clear hK1
  refine wp_seq_k (fun K3 hK3 => ?_)
  refine wp_seq_k (fun K4 hK4 => ?_)
  -- region 1
  refine region_in ?_
  refine W_v rfl rfl (V_mov rfl l0_2) ?_
  refine W_v rfl rfl (V_lenS rfl (et rfl) (sl_SlN h_xv.at) Try.underlying22) ?_
  refine W_v rfl rfl (V_mov rfl (es rfl (es rfl l1_2))) ?_
  refine W_v rfl rfl (V_lenS rfl (et rfl) (sl_SlN h_yv.at) Try.underlying22) ?_
  refine W_v rfl rfl (V_neq rfl (es rfl (es rfl (et rfl))) (et rfl)) ?_
  refine W_end ?_
  refine gen_Q (fun A5 hA5 => ?_)
  have hsz5 : SzN A5 26 := by rw [hA5]; infer_instance
  have hdf5 : A5.defers = [] := by rw [hA5]; simp only [df_put]; exact hdf2
  have l0_5 := lookE hA5 0 (es rfl (es rfl (es rfl (es rfl (es rfl l0_2)))))
  have l1_5 := lookE hA5 1 (es rfl (es rfl (es rfl (es rfl (es rfl l1_2)))))
  have l10_5 := lookE hA5 10 (et rfl)
  clear hA5 hsz2 hdf2 l0_2 l1_2
  refine then_n (hK4 _ _ ?_)
  clear hK4
  refine cond_dec l10_5 (fun c6 => ?_) (fun c6 => ?_)
  · skip
    refine wp_seq_k (fun K7 hK7 => ?_)
    -- region 2
    refine region_in ?_
    refine W_v rfl rfl (V_asg rfl rfl) ?_
    refine W_end ?_
    refine gen_Q (fun A8 hA8 => ?_)
    have hsz8 : SzN A8 26 := by rw [hA8]; infer_instance
    have hdf8 : A8.defers = [] := by rw [hA8]; simp only [df_put]; exact hdf5
    have l4_8 := lookE hA8 4 (et rfl)
    clear hA8 hsz5 hdf5 l0_5 l1_5 l10_5
    refine then_n (hK7 _ _ ?_)
    clear hK7
    refine wp_ret ?_
    refine then_ret ?_
    refine ret_in (results_1 Try.results36 (rv_tmp l4_8)) hdf8 ?_
    -- leaf T
    rw [decide_eq_false (show ¬ xs = ys from fun e => absurd (congrArg List.length e) (by omega))]
    exact ⟨rfl, hS.fin0⟩
  · skip
    have hl : xs.length = ys.length := by omega
    refine wp_skip ?_
    refine then_n (hK3 _ _ ?_)
    clear hK3
    refine wp_seq_k (fun K9 hK9 => ?_)
    refine wp_seq_k (fun K10 hK10 => ?_)
    -- region 3
    refine region_in ?_
    refine W_v rfl rfl (V_asg rfl rfl) ?_
    refine W_end ?_
    refine gen_Q (fun A11 hA11 => ?_)
    have hsz11 : SzN A11 26 := by rw [hA11]; infer_instance
    have hdf11 : A11.defers = [] := by rw [hA11]; simp only [df_put]; exact hdf5
    have l0_11 := lookE hA11 0 (es rfl l0_5)
    have l1_11 := lookE hA11 1 (es rfl l1_5)
    have l5_11 := lookE hA11 5 (et rfl)
    clear hA11 hsz5 hdf5 l0_5 l1_5 l10_5
    refine then_n (hK10 _ _ ?_)
    clear hK10
    refine wp_block ?_
    -- loop 4
    refine loopX (fun mz A' w' => SzN A' 26 ∧ A'.defers = [] ∧ (∃ (k : Nat), (mz = xs.length - k) ∧ (k ≤ xs.length) ∧ (∀ i, i < k → xs[i]? = ys[i]?) ∧ (EV A' (.tmp 5) = .int .i64 (k : Int)) ∧ (EV A' (.tmp 0) = EV A11 (.tmp 0)) ∧ (EV A' (.tmp 1) = EV A11 (.tmp 1)) ∧ (St w NoX [] w'))) (xs.length - 0) ⟨hsz11, hdf11, 0, rfl, (by omega), (fun i hi => by omega), ((l5_11).trans (by first | rfl | (simp; done) | (congr 1; omega))), rfl, rfl, hS⟩ ?_
    clear hS
    rintro n12 A12 w12 ⟨hsz12, hdf12, k, hm12, hk, hz, l5_12, u0_12, u1_12, hS12⟩
    have l0_12 := u0_12.trans l0_11
    have l1_12 := u1_12.trans l1_11
    refine wp_seq_k (fun K13 hK13 => ?_)
    refine wp_seq_k (fun K14 hK14 => ?_)
    -- region 4
    refine region_in ?_
    refine W_v rfl rfl (V_mov rfl l5_12) ?_
    refine W_v rfl rfl (V_mov rfl (es rfl l0_12)) ?_
    refine W_v rfl rfl (V_lenS rfl (et rfl) (sl_SlN h_xv.at) Try.underlying22) ?_
    refine W_v rfl rfl (V_lss rfl (es rfl (es rfl (et rfl))) (et rfl)) ?_
    refine W_end ?_
    refine gen_Q (fun A15 hA15 => ?_)
    have hsz15 : SzN A15 26 := by rw [hA15]; infer_instance
    have hdf15 : A15.defers = [] := by rw [hA15]; simp only [df_put]; exact hdf12
    have l0_15 := lookE hA15 0 (es rfl (es rfl (es rfl (es rfl l0_12))))
    have l1_15 := lookE hA15 1 (es rfl (es rfl (es rfl (es rfl l1_12))))
    have l5_15 := lookE hA15 5 (es rfl (es rfl (es rfl (es rfl l5_12))))
    have l14_15 := lookE hA15 14 (et rfl)
    clear hA15 hsz12 hdf12 l5_12 l0_12 l1_12
    refine then_n (hK14 _ _ ?_)
    clear hK14
    refine cond_dec l14_15 (fun c16 => ?_) (fun c16 => ?_)
    · skip
      refine wp_skip ?_
      refine then_n (hK13 _ _ ?_)
      clear hK13
      refine wp_seq_k (fun K17 hK17 => ?_)
      refine wp_block ?_
      refine wp_seq_k (fun K18 hK18 => ?_)
      -- region 6
      refine region_monoS 9 9 [] (by kernel_rfl) (by kernel_rfl) ?_
      refine D_v rfl rfl (V_mov rfl l0_15) rfl rfl ?_
      refine D_v rfl rfl (V_mov rfl (es rfl l5_15)) rfl rfl ?_
      have k19 : k < xs.length := by first | omega | (simp only [List.length_cons, List.length_nil]; omega) | (simp only [List.length_set]; omega)
      obtain ⟨y19, hy19⟩ := get_some (xs := xs) (k := k) k19
      obtain ⟨B19, O19, C19, hv19⟩ := (SlN.blk (sl_SlN h_xv.at) (by first | omega | (simp only [List.length_cons, List.length_nil]; omega) | (simp only [List.length_set]; omega)))
      refine D_v rfl rfl (V_ixS (off := O19 + k) 1 (k) rfl (es rfl (et rfl)) (et rfl) hv19 (by omega) k19 Try.underlying22 (by kernel_rfl) (congrArg _ (Nat.mul_one _))) rfl rfl ?_
      refine D_r rfl rfl (by kernel_rfl) (fun sx hx hF => (VR_ldC rfl (et rfl) ((sl_SlN ((hS12.grow hx).ro h_xv)).cell hv19 (map_get hy19)) Try.underlying3 rfl)) rfl rfl ?_
      refine D_v rfl rfl (V_mov rfl (es rfl (es rfl (es rfl (es rfl l1_15))))) rfl rfl ?_
      refine D_v rfl rfl (V_mov rfl (es rfl (es rfl (es rfl (es rfl (es rfl l5_15)))))) rfl rfl ?_
      have k20 : k < ys.length := by first | omega | (simp only [List.length_cons, List.length_nil]; omega) | (simp only [List.length_set]; omega)
      obtain ⟨y20, hy20⟩ := get_some (xs := ys) (k := k) k20
      obtain ⟨B20, O20, C20, hv20⟩ := (SlN.blk (sl_SlN h_yv.at) (by first | omega | (simp only [List.length_cons, List.length_nil]; omega) | (simp only [List.length_set]; omega)))
      refine D_v rfl rfl (V_ixS (off := O20 + k) 1 (k) rfl (es rfl (et rfl)) (et rfl) hv20 (by omega) k20 Try.underlying22 (by kernel_rfl) (congrArg _ (Nat.mul_one _))) rfl rfl ?_
      refine D_r rfl rfl (by kernel_rfl) (fun sx hx hF => (VR_ldC rfl (et rfl) ((sl_SlN ((hS12.grow hx).ro h_yv)).cell hv20 (map_get hy20)) Try.underlying3 rfl)) rfl rfl ?_
      refine D_v rfl rfl (V_neq rfl (es rfl (es rfl (es rfl (es rfl (et rfl))))) (et rfl)) rfl rfl ?_
      refine ZS_none hS12 (Nat.le_refl _) (Nat.le_refl _) (fun s21 hJ21 hL21 hF21 => ?_)
      have hS21 := hJ21.st; clear hF21 hJ21 hL21
      generalize s21.1 = w21 at *
      replace hS21 : St w NoX [] w21 := hS21
      refine gen_Q (fun A22 hA22 => ?_)
      have hsz22 : SzN A22 26 := by rw [hA22]; infer_instance
      have hdf22 : A22.defers = [] := by rw [hA22]; simp only [df_put]; exact hdf15
      have l0_22 := lookE hA22 0 (es rfl (es rfl (es rfl (es rfl (es rfl (es rfl (es rfl (es rfl (es rfl l0_15)))))))))
      have l1_22 := lookE hA22 1 (es rfl (es rfl (es rfl (es rfl (es rfl (es rfl (es rfl (es rfl (es rfl l1_15)))))))))
      have l5_22 := lookE hA22 5 (es rfl (es rfl (es rfl (es rfl (es rfl (es rfl (es rfl (es rfl (es rfl l5_15)))))))))
      have l25_22 := lookE hA22 25 (et rfl)
      clear hA22 hsz15 hdf15 l0_15 l1_15 l5_15 l14_15
      refine then_n (hK18 _ _ ?_)
      clear hK18
      refine cond_dec l25_22 (fun c23 => ?_) (fun c23 => ?_)
      · skip
        refine wp_seq_k (fun K24 hK24 => ?_)
        -- region 7
        refine region_in ?_
        refine W_v rfl rfl (V_asg rfl rfl) ?_
        refine W_end ?_
        refine gen_Q (fun A25 hA25 => ?_)
        have hsz25 : SzN A25 26 := by rw [hA25]; infer_instance
        have hdf25 : A25.defers = [] := by rw [hA25]; simp only [df_put]; exact hdf22
        have l4_25 := lookE hA25 4 (et rfl)
        clear hA25 hsz22 hdf22 l0_22 l1_22 l5_22 l25_22
        refine then_n (hK24 _ _ ?_)
        clear hK24
        refine wp_ret ?_
        refine inb_ret ?_
        refine then_ret ?_
        refine then_ret ?_
        refine inb_ret ?_
        refine then_ret ?_
        refine ret_in (results_1 Try.results36 (rv_tmp l4_25)) hdf25 ?_
        -- leaf FTT
        rw [decide_eq_false (show ¬ xs = ys from eq_ne hy19 hy20 c23)]
        exact ⟨rfl, hS21.fin0⟩
      · skip
        refine wp_skip ?_
        refine inb_n ?_
        refine then_n (hK17 _ _ ?_)
        clear hK17
        -- region 5
        refine region_in ?_
        refine W_v rfl rfl (V_mov rfl l5_22) ?_
        refine W_v rfl rfl (V_add rfl (et rfl) rfl (by omega) (by omega)) ?_
        refine W_v rfl rfl (V_asg rfl (et rfl)) ?_
        refine W_end ?_
        refine gen_Q (fun A26 hA26 => ?_)
        have hsz26 : SzN A26 26 := by rw [hA26]; infer_instance
        have hdf26 : A26.defers = [] := by rw [hA26]; simp only [df_put]; exact hdf22
        have l0_26 := lookE hA26 0 (es rfl (es rfl (es rfl l0_22)))
        have l1_26 := lookE hA26 1 (es rfl (es rfl (es rfl l1_22)))
        have l5_26 := lookE hA26 5 (et rfl)
        clear hA26 hsz22 hdf22 l0_22 l1_22 l5_22 l25_22
        refine then_n ⟨xs.length - (k + 1), by simp only [hm12]; omega, hsz26, hdf26, (k + 1), rfl, (by omega), (eq_step hz hy19 hy20 (by omega)), ((l5_26).trans (by first | rfl | (simp; done) | (congr 1; omega))), ((l0_26).trans l0_11.symm), ((l1_26).trans l1_11.symm), hS21⟩
    · skip
      refine wp_exit ?_
      refine then_exit ?_
      refine then_exit ?_
      refine inb_hit ?_
      refine then_n (hK9 _ _ ?_)
      clear hK9
      refine wp_seq_k (fun K27 hK27 => ?_)
      -- region 8
      refine region_in ?_
      refine W_v rfl rfl (V_asg rfl rfl) ?_
      refine W_end ?_
      refine gen_Q (fun A28 hA28 => ?_)
      have hsz28 : SzN A28 26 := by rw [hA28]; infer_instance
      have hdf28 : A28.defers = [] := by rw [hA28]; simp only [df_put]; exact hdf15
      have l4_28 := lookE hA28 4 (et rfl)
      clear hA28 hsz15 hdf15 l0_15 l1_15 l5_15 l14_15
      refine then_n (hK27 _ _ ?_)
      clear hK27
      refine wp_ret ?_
      refine ret_in (results_1 Try.results36 (rv_tmp l4_28)) hdf28 ?_
      -- leaf FF
      rw [decide_eq_true (show xs = ys from eq_all hl (by omega) hz)]
      exact ⟨rfl, hS12.fin0⟩

set_option maxHeartbeats 4000000 in
theorem far_c {cv : Value} {c : List Int} {w : World} (h_cv : Ro w NoX (il .i64 cv c))  :
    Calls Try.prog 11 #[.agg #[cv]] w fun e w' => e = .returned (.bool (decide ((600 < c.length ∧ c.length ≤ 8192) ∨ 8200 < c.length))) ∧ St w NoX [] w' := by
  refine calls_in 19 Try.func11 rfl rfl (by simp) (fun A0 hsz0 hdf0 hargs => ?_)
  have l0_0 := hargs 0 (.agg #[cv]) rfl
  clear hargs; replace hsz0 : SzN A0 19 := ⟨hsz0⟩
  have hS := St.nil w
  have bh_cv := SlN.le (sl_SlN h_cv.at)
  refine wp_seq_k (fun K1 hK1 => ?_)
  -- region 0
  refine region_in ?_
  refine W_boxS (zs := #[cv]) hS rfl rfl rfl l0_0 (by rfl) (fun g2 w2 c2 hc2 hS2 => ?_)
  replace hS2 : St w NoX [c2] w2 := hS2
  refine W_v rfl rfl (V_asg rfl rfl) ?_
  refine W_end ?_
  refine gen_Q (fun A3 hA3 => ?_)
  have hsz3 : SzN A3 19 := by rw [hA3]; infer_instance
  have hdf3 : A3.defers = [] := by rw [hA3]; simp only [df_put]; exact hdf0
  have l1_3 := lookE hA3 1 (es rfl (et rfl))
  clear hA3 hsz0 hdf0 l0_0
  refine then_n (hK1 _ _ ?_)
  clear hK1
  refine wp_seq_k (fun K4 hK4 => ?_)
  -- region 1
  refine region_in ?_
  refine W_v rfl rfl (V_fa (off' := 0) rfl l1_3 Try.underlying24 rfl (by decide +kernel) rfl) ?_
  refine W_r rfl rfl (VR_ldC rfl (et rfl) (cell_box (v := cv) (hS2.obj 0 rfl hc2) rfl) Try.underlying22 rfl) ?_
  refine W_v rfl rfl (V_lenS rfl (et rfl) (sl_SlN h_cv.at) Try.underlying22) ?_
  refine W_v rfl rfl (V_gtr rfl (et rfl) rfl) ?_
  refine W_split rfl rfl (V_mov rfl (et rfl)) (fun c5 => ?_) (fun c5 => ?_)
  · skip
    refine W_v rfl (wanted_t rfl rfl (et rfl) (ez rfl)) (V_fa (off' := 0) rfl (es rfl (es rfl (es rfl (es rfl (es rfl l1_3))))) Try.underlying24 rfl (by decide +kernel) rfl) ?_
    refine W_r rfl (wanted_t rfl rfl (es rfl (et rfl)) (ez rfl)) (VR_ldC rfl (et rfl) (cell_box (v := cv) (hS2.obj 0 rfl hc2) rfl) Try.underlying22 rfl) ?_
    refine W_v rfl (wanted_t rfl rfl (es rfl (es rfl (et rfl))) (ez rfl)) (V_lenS rfl (et rfl) (sl_SlN h_cv.at) Try.underlying22) ?_
    refine W_v rfl (wanted_t rfl rfl (es rfl (es rfl (es rfl (et rfl)))) (ez rfl)) (V_leq rfl (et rfl) rfl) ?_
    refine W_v rfl rfl (V_pickT rfl (es rfl (es rfl (es rfl (es rfl (et rfl))))) (et rfl)) ?_
    refine W_split rfl rfl (V_mov rfl (et rfl)) (fun c6 => ?_) (fun c6 => ?_)
    · skip
      refine W_off rfl (wanted_f rfl rfl (et rfl) (ez rfl) rfl) ?_
      refine W_off rfl (wanted_f rfl rfl (es rfl (et rfl)) (ez rfl) rfl) ?_
      refine W_off rfl (wanted_f rfl rfl (es rfl (es rfl (et rfl))) (ez rfl) rfl) ?_
      refine W_off rfl (wanted_f rfl rfl (es rfl (es rfl (es rfl (et rfl)))) (ez rfl) rfl) ?_
      refine W_v rfl rfl (V_pickT rfl (es rfl (es rfl (es rfl (es rfl (et rfl))))) rfl) ?_
      refine W_v rfl rfl (V_asg rfl (et rfl)) ?_
      refine W_end ?_
      refine gen_Q (fun A7 hA7 => ?_)
      have hsz7 : SzN A7 19 := by rw [hA7]; infer_instance
      have hdf7 : A7.defers = [] := by rw [hA7]; simp only [df_put]; exact hdf3
      have l2_7 := lookE hA7 2 (et rfl)
      clear hA7 hsz3 hdf3 l1_3
      have hS8 : St w NoX [] w2 := hS2.sel [] (by decide) rfl
      refine then_n (hK4 _ _ ?_)
      clear hK4
      refine wp_ret ?_
      refine ret_in (results_1 Try.results11 (rv_tmp l2_7)) hdf7 ?_
      -- leaf TT
      rw [show (decide ((600 < c.length ∧ c.length ≤ 8192) ∨ 8200 < c.length)) = true by exact decide_eq_true (by omega)]
      exact ⟨rfl, hS8.fin0⟩
    · skip
      refine W_v rfl (wanted_t rfl rfl (et rfl) (ez rfl)) (V_fa (off' := 0) rfl (es rfl (es rfl (es rfl (es rfl (es rfl (es rfl (es rfl (es rfl (es rfl (es rfl (es rfl l1_3))))))))))) Try.underlying24 rfl (by decide +kernel) rfl) ?_
      refine W_r rfl (wanted_t rfl rfl (es rfl (et rfl)) (ez rfl)) (VR_ldC rfl (et rfl) (cell_box (v := cv) (hS2.obj 0 rfl hc2) rfl) Try.underlying22 rfl) ?_
      refine W_v rfl (wanted_t rfl rfl (es rfl (es rfl (et rfl))) (ez rfl)) (V_lenS rfl (et rfl) (sl_SlN h_cv.at) Try.underlying22) ?_
      refine W_v rfl (wanted_t rfl rfl (es rfl (es rfl (es rfl (et rfl)))) (ez rfl)) (V_gtr rfl (et rfl) rfl) ?_
      refine W_v rfl rfl (V_pickF rfl (es rfl (es rfl (es rfl (es rfl (et rfl))))) (et rfl)) ?_
      refine W_v rfl rfl (V_asg rfl (et rfl)) ?_
      refine W_end ?_
      refine gen_Q (fun A9 hA9 => ?_)
      have hsz9 : SzN A9 19 := by rw [hA9]; infer_instance
      have hdf9 : A9.defers = [] := by rw [hA9]; simp only [df_put]; exact hdf3
      have l2_9 := lookE hA9 2 (et rfl)
      clear hA9 hsz3 hdf3 l1_3
      have hS10 : St w NoX [] w2 := hS2.sel [] (by decide) rfl
      refine then_n (hK4 _ _ ?_)
      clear hK4
      refine wp_ret ?_
      refine ret_in (results_1 Try.results11 (rv_tmp l2_9)) hdf9 ?_
      -- leaf TF
      rw [show (decide ((600 < c.length ∧ c.length ≤ 8192) ∨ 8200 < c.length)) = decide (8200 < (c.length : Int)) by exact decide_eq_decide.2 (by omega)]
      exact ⟨rfl, hS10.fin0⟩
  · skip
    refine W_off rfl (wanted_f rfl rfl (et rfl) (ez rfl) rfl) ?_
    refine W_off rfl (wanted_f rfl rfl (es rfl (et rfl)) (ez rfl) rfl) ?_
    refine W_off rfl (wanted_f rfl rfl (es rfl (es rfl (et rfl))) (ez rfl) rfl) ?_
    refine W_off rfl (wanted_f rfl rfl (es rfl (es rfl (es rfl (et rfl)))) (ez rfl) rfl) ?_
    refine W_v rfl rfl (V_pickF rfl (es rfl (es rfl (es rfl (es rfl (et rfl))))) rfl) ?_
    refine W_v rfl rfl (V_mov rfl (et rfl)) ?_
    refine W_v rfl (wanted_t rfl rfl (et rfl) (ez rfl)) (V_fa (off' := 0) rfl (es rfl (es rfl (es rfl (es rfl (es rfl (es rfl (es rfl (es rfl (es rfl (es rfl (es rfl l1_3))))))))))) Try.underlying24 rfl (by decide +kernel) rfl) ?_
    refine W_r rfl (wanted_t rfl rfl (es rfl (et rfl)) (ez rfl)) (VR_ldC rfl (et rfl) (cell_box (v := cv) (hS2.obj 0 rfl hc2) rfl) Try.underlying22 rfl) ?_
    refine W_v rfl (wanted_t rfl rfl (es rfl (es rfl (et rfl))) (ez rfl)) (V_lenS rfl (et rfl) (sl_SlN h_cv.at) Try.underlying22) ?_
    refine W_v rfl (wanted_t rfl rfl (es rfl (es rfl (es rfl (et rfl)))) (ez rfl)) (V_gtr rfl (et rfl) rfl) ?_
    refine W_v rfl rfl (V_pickF rfl (es rfl (es rfl (es rfl (es rfl (et rfl))))) (et rfl)) ?_
    refine W_v rfl rfl (V_asg rfl (et rfl)) ?_
    refine W_end ?_
    refine gen_Q (fun A11 hA11 => ?_)
    have hsz11 : SzN A11 19 := by rw [hA11]; infer_instance
    have hdf11 : A11.defers = [] := by rw [hA11]; simp only [df_put]; exact hdf3
    have l2_11 := lookE hA11 2 (et rfl)
    clear hA11 hsz3 hdf3 l1_3
    have hS12 : St w NoX [] w2 := hS2.sel [] (by decide) rfl
    refine then_n (hK4 _ _ ?_)
    clear hK4
    refine wp_ret ?_
    refine ret_in (results_1 Try.results11 (rv_tmp l2_11)) hdf11 ?_
    -- leaf F
    rw [show (decide ((600 < c.length ∧ c.length ≤ 8192) ∨ 8200 < c.length)) = decide (8200 < (c.length : Int)) by exact decide_eq_decide.2 (by omega)]
    exact ⟨rfl, hS12.fin0⟩

set_option maxHeartbeats 4000000 in
theorem awake_c  {w : World}   :
    Calls Try.prog 12 #[] w fun e w' => e = .returned (.bool true) ∧ St w NoX [] w' := by
  refine calls_in 123 Try.func12 rfl rfl (by simp) (fun A0 hsz0 hdf0 hargs => ?_)
  clear hargs; replace hsz0 : SzN A0 123 := ⟨hsz0⟩
  have hS := St.nil w
  refine wp_seq_k (fun K1 hK1 => ?_)
  -- region 0
  refine region_in ?_
  refine W_v rfl rfl (V_asg rfl rfl) ?_
  refine W_end ?_
  refine gen_Q (fun A2 hA2 => ?_)
  have hsz2 : SzN A2 123 := by rw [hA2]; infer_instance
  have hdf2 : A2.defers = [] := by rw [hA2]; simp only [df_put]; exact hdf0
  clear hA2 hsz0 hdf0
  refine then_n (hK1 _ _ ?_)
  clear hK1
  refine wp_seq_k (fun K3 hK3 => ?_)
  -- region 1
  refine region_in ?_
  have hll4 : [1, 2].length = 2 := rfl
  refine W_litS (vs := [.int .i64 1, .int .i64 2]) (xs := ([1, 2].map (Value.int .i64))) 1 hS rfl rfl rfl (parts2 rfl rfl) rfl Try.underlying22 (by kernel_rfl) (by decide) (by intro v hv; simp only [List.mem_cons, List.not_mem_nil, or_false] at hv; rcases hv with rfl | rfl <;> rfl) (by rfl) (fun g4 w4 c4 hc4 hS4 => ?_)
  replace hc4 : c4 = io .i64 (.slice (some ⟨g4, 0, none⟩) 2 2) [1, 2] := hc4
  replace hS4 : St w NoX [c4] w4 := hS4
  refine W_call rfl rfl rfl Try.func20 (by kernel_rfl) rfl (args1 (et rfl)) (kOf_c (hS4.chC 0 rfl hc4).own ) ?_
  rintro _ w5 ⟨v_5, rfl, hP5⟩
  refine ⟨_, rfl, ?_⟩
  obtain ⟨c_5, hc_5, hP5⟩ := gen1 hP5
  have hS5 := hS4.join hP5
  replace hS5 : St w NoX [c_5, c4] w5 := hS5
  refine W_v rfl rfl (V_mov rfl (et rfl)) ?_
  refine W_v rfl rfl (V_ext (v := .agg #[v_5]) rfl (et rfl) rfl) ?_
  refine W_v rfl rfl (V_ext (v := .int .i64 ((ofE [1, 2]))) rfl (es rfl (et rfl)) rfl) ?_
  refine W_allocS (z := .agg #[.slice none 0 0]) (zs := #[.slice none 0 0]) hS5 rfl rfl rfl (by kernel_rfl) (by rfl) (fun g6 w6 c6 hc6 hS6 => ?_)
  replace hS6 : St w NoX [c6, c_5, c4] w6 := hS6
  refine W_stAS 0 hS6 rfl hc6 rfl rfl rfl (et rfl) (es rfl (es rfl (et rfl))) (by simp only [List.all_toArray, List.all_cons, List.all_nil, SlN_one (ow_at (hS6.chq 1 rfl hc_5))] <;> rfl) (by rfl) (by kernel_rfl) (fun w7 c7 hc7 hS7 => ?_)
  replace hS7 : St w NoX [c7, c_5, c4] w7 := hS7
  refine W_v rfl rfl (V_asg rfl (es rfl (et rfl))) ?_
  refine W_end ?_
  refine gen_Q (fun A8 hA8 => ?_)
  have hsz8 : SzN A8 123 := by rw [hA8]; infer_instance
  have hdf8 : A8.defers = [] := by rw [hA8]; simp only [df_put]; exact hdf2
  have l1_8 := lookE hA8 1 (es rfl (et rfl))
  have l2_8 := lookE hA8 2 (et rfl)
  clear hA8 hsz2 hdf2
  have hS9 : St w NoX [c7, c_5] w7 := hS7.sel [0, 1] (by decide) rfl
  refine then_n (hK3 _ _ ?_)
  clear hK3
  refine wp_seq_k (fun K10 hK10 => ?_)
  -- region 2
  refine region_in ?_
  have hll11 : [1, 9].length = 2 := rfl
  refine W_litS (vs := [.int .i64 1, .int .i64 9]) (xs := ([1, 9].map (Value.int .i64))) 1 hS9 rfl rfl rfl (parts2 rfl rfl) rfl Try.underlying22 (by kernel_rfl) (by decide) (by intro v hv; simp only [List.mem_cons, List.not_mem_nil, or_false] at hv; rcases hv with rfl | rfl <;> rfl) (by rfl) (fun g11 w11 c11 hc11 hS11 => ?_)
  replace hc11 : c11 = io .i64 (.slice (some ⟨g11, 0, none⟩) 2 2) [1, 9] := hc11
  replace hS11 : St w NoX [c11, c7, c_5] w11 := hS11
  refine W_call rfl rfl rfl Try.func20 (by kernel_rfl) rfl (args1 (et rfl)) (kOf_c (hS11.chC 0 rfl hc11).own ) ?_
  rintro _ w12 ⟨v_12, rfl, hP12⟩
  refine ⟨_, rfl, ?_⟩
  obtain ⟨c_12, hc_12, hP12⟩ := gen1 hP12
  have hS12 := hS11.join hP12
  replace hS12 : St w NoX [c_12, c11, c7, c_5] w12 := hS12
  refine W_v rfl rfl (V_mov rfl (et rfl)) ?_
  refine W_v rfl rfl (V_ext (v := .agg #[v_12]) rfl (et rfl) rfl) ?_
  refine W_v rfl rfl (V_ext (v := .int .i64 ((ofE [1, 9]))) rfl (es rfl (et rfl)) rfl) ?_
  refine W_allocS (z := .agg #[.slice none 0 0]) (zs := #[.slice none 0 0]) hS12 rfl rfl rfl (by kernel_rfl) (by rfl) (fun g13 w13 c13 hc13 hS13 => ?_)
  replace hS13 : St w NoX [c13, c_12, c11, c7, c_5] w13 := hS13
  refine W_stAS 0 hS13 rfl hc13 rfl rfl rfl (et rfl) (es rfl (es rfl (et rfl))) (by simp only [List.all_toArray, List.all_cons, List.all_nil, SlN_one (ow_at (hS13.chq 1 rfl hc_12))] <;> rfl) (by rfl) (by kernel_rfl) (fun w14 c14 hc14 hS14 => ?_)
  replace hS14 : St w NoX [c14, c_12, c11, c7, c_5] w14 := hS14
  refine W_v rfl rfl (V_asg rfl (es rfl (et rfl))) ?_
  refine W_end ?_
  refine gen_Q (fun A15 hA15 => ?_)
  have hsz15 : SzN A15 123 := by rw [hA15]; infer_instance
  have hdf15 : A15.defers = [] := by rw [hA15]; simp only [df_put]; exact hdf8
  have l1_15 := lookE hA15 1 (es rfl (es rfl (es rfl (es rfl (es rfl (es rfl (es rfl l1_8)))))))
  have l2_15 := lookE hA15 2 (es rfl (es rfl (es rfl (es rfl (es rfl (es rfl (es rfl l2_8)))))))
  have l3_15 := lookE hA15 3 (es rfl (et rfl))
  have l4_15 := lookE hA15 4 (et rfl)
  clear hA15 hsz8 hdf8 l1_8 l2_8
  have hS16 : St w NoX [c14, c_12, c7, c_5] w14 := hS14.sel [0, 1, 3, 4] (by decide) rfl
  refine then_n (hK10 _ _ ?_)
  clear hK10
  refine wp_seq_k (fun K17 hK17 => ?_)
  -- region 3
  refine region_in ?_
  refine W_r rfl rfl (VR_ldA rfl l3_15 (hS16.obj 0 rfl hc14) Try.underlying24 rfl (by kernel_rfl)) ?_
  refine W_call rfl rfl rfl Try.func18 (by kernel_rfl) rfl (args2 (et rfl) rfl) (kDrop_c (a := 1) (hS16.chC 1 rfl hc_12).own ) ?_
  rintro _ w18 ⟨v_18, rfl, hP18⟩
  refine ⟨_, rfl, ?_⟩
  obtain ⟨c_18, hc_18, hP18⟩ := gen1 hP18
  have hS18 := hS16.join hP18
  replace hS18 : St w NoX [c_18, c14, c_12, c7, c_5] w18 := hS18
  refine W_v rfl rfl (V_mov rfl (et rfl)) ?_
  refine W_v rfl rfl (V_ext (v := .agg #[v_18]) rfl (et rfl) rfl) ?_
  refine W_v rfl rfl (V_ext (v := .bool ((hsB (ofT [1, 9]) 1))) rfl (es rfl (et rfl)) rfl) ?_
  refine W_v rfl rfl (V_ext (v := .int .i64 ((chE (ofT [1, 9]) 1))) rfl (es rfl (es rfl (et rfl))) rfl) ?_
  refine W_allocS (z := .agg #[.slice none 0 0]) (zs := #[.slice none 0 0]) hS18 rfl rfl rfl (by kernel_rfl) (by rfl) (fun g19 w19 c19 hc19 hS19 => ?_)
  replace hS19 : St w NoX [c19, c_18, c14, c_12, c7, c_5] w19 := hS19
  refine W_stAS 0 hS19 rfl hc19 rfl rfl rfl (et rfl) (es rfl (es rfl (es rfl (et rfl)))) (by simp only [List.all_toArray, List.all_cons, List.all_nil, SlN_one (ow_at (hS19.chq 1 rfl hc_18))] <;> rfl) (by rfl) (by kernel_rfl) (fun w20 c20 hc20 hS20 => ?_)
  replace hS20 : St w NoX [c20, c_18, c14, c_12, c7, c_5] w20 := hS20
  refine W_v rfl rfl (V_asg rfl (es rfl (es rfl (et rfl)))) ?_
  refine W_v rfl rfl (V_asg rfl (es rfl (es rfl (et rfl)))) ?_
  refine W_end ?_
  refine gen_Q (fun A21 hA21 => ?_)
  have hsz21 : SzN A21 123 := by rw [hA21]; infer_instance
  have hdf21 : A21.defers = [] := by rw [hA21]; simp only [df_put]; exact hdf15
  have l1_21 := lookE hA21 1 (es rfl (es rfl (es rfl (es rfl (es rfl (es rfl (es rfl (es rfl (es rfl l1_15)))))))))
  have l2_21 := lookE hA21 2 (es rfl (es rfl (es rfl (es rfl (es rfl (es rfl (es rfl (es rfl (es rfl l2_15)))))))))
  have l3_21 := lookE hA21 3 (es rfl (es rfl (es rfl (es rfl (es rfl (es rfl (es rfl (es rfl (es rfl l3_15)))))))))
  have l4_21 := lookE hA21 4 (es rfl (es rfl (es rfl (es rfl (es rfl (es rfl (es rfl (es rfl (es rfl l4_15)))))))))
  have l5_21 := lookE hA21 5 (es rfl (es rfl (et rfl)))
  have l6_21 := lookE hA21 6 (es rfl (et rfl))
  have l7_21 := lookE hA21 7 (et rfl)
  clear hA21 hsz15 hdf15 l1_15 l2_15 l3_15 l4_15
  refine then_n (hK17 _ _ ?_)
  clear hK17
  refine wp_seq_k (fun K22 hK22 => ?_)
  -- region 4
  refine region_in ?_
  refine W_r rfl rfl (VR_ldA rfl l5_21 (hS20.obj 0 rfl hc20) Try.underlying24 rfl (by kernel_rfl)) ?_
  refine W_call rfl rfl rfl Try.func15 (by kernel_rfl) rfl (args2 (et rfl) rfl) (kAdd_c (a := 17) (hS20.chC 1 rfl hc_18).own ) ?_
  rintro _ w23 ⟨v_23, rfl, hP23⟩
  refine ⟨_, rfl, ?_⟩
  obtain ⟨c_23, hc_23, hP23⟩ := gen1 hP23
  have hS23 := hS20.join hP23
  replace hS23 : St w NoX [c_23, c20, c_18, c14, c_12, c7, c_5] w23 := hS23
  refine W_v rfl rfl (V_mov rfl (et rfl)) ?_
  refine W_v rfl rfl (V_ext (v := .agg #[v_23]) rfl (et rfl) rfl) ?_
  refine W_v rfl rfl (V_ext (v := .bool ((adB (drT (ofT [1, 9]) 1) 17))) rfl (es rfl (et rfl)) rfl) ?_
  refine W_v rfl rfl (V_ext (v := .int .i64 ((chE (drT (ofT [1, 9]) 1) 17))) rfl (es rfl (es rfl (et rfl))) rfl) ?_
  refine W_allocS (z := .agg #[.slice none 0 0]) (zs := #[.slice none 0 0]) hS23 rfl rfl rfl (by kernel_rfl) (by rfl) (fun g24 w24 c24 hc24 hS24 => ?_)
  replace hS24 : St w NoX [c24, c_23, c20, c_18, c14, c_12, c7, c_5] w24 := hS24
  refine W_stAS 0 hS24 rfl hc24 rfl rfl rfl (et rfl) (es rfl (es rfl (es rfl (et rfl)))) (by simp only [List.all_toArray, List.all_cons, List.all_nil, SlN_one (ow_at (hS24.chq 1 rfl hc_23))] <;> rfl) (by rfl) (by kernel_rfl) (fun w25 c25 hc25 hS25 => ?_)
  replace hS25 : St w NoX [c25, c_23, c20, c_18, c14, c_12, c7, c_5] w25 := hS25
  refine W_v rfl rfl (V_asg rfl (es rfl (es rfl (et rfl)))) ?_
  refine W_v rfl rfl (V_asg rfl (es rfl (es rfl (et rfl)))) ?_
  refine W_end ?_
  refine gen_Q (fun A26 hA26 => ?_)
  have hsz26 : SzN A26 123 := by rw [hA26]; infer_instance
  have hdf26 : A26.defers = [] := by rw [hA26]; simp only [df_put]; exact hdf21
  have l1_26 := lookE hA26 1 (es rfl (es rfl (es rfl (es rfl (es rfl (es rfl (es rfl (es rfl (es rfl l1_21)))))))))
  have l2_26 := lookE hA26 2 (es rfl (es rfl (es rfl (es rfl (es rfl (es rfl (es rfl (es rfl (es rfl l2_21)))))))))
  have l3_26 := lookE hA26 3 (es rfl (es rfl (es rfl (es rfl (es rfl (es rfl (es rfl (es rfl (es rfl l3_21)))))))))
  have l4_26 := lookE hA26 4 (es rfl (es rfl (es rfl (es rfl (es rfl (es rfl (es rfl (es rfl (es rfl l4_21)))))))))
  have l5_26 := lookE hA26 5 (es rfl (es rfl (es rfl (es rfl (es rfl (es rfl (es rfl (es rfl (es rfl l5_21)))))))))
  have l6_26 := lookE hA26 6 (es rfl (es rfl (es rfl (es rfl (es rfl (es rfl (es rfl (es rfl (es rfl l6_21)))))))))
  have l7_26 := lookE hA26 7 (es rfl (es rfl (es rfl (es rfl (es rfl (es rfl (es rfl (es rfl (es rfl l7_21)))))))))
  have l8_26 := lookE hA26 8 (es rfl (es rfl (et rfl)))
  have l9_26 := lookE hA26 9 (es rfl (et rfl))
  have l10_26 := lookE hA26 10 (et rfl)
  clear hA26 hsz21 hdf21 l1_21 l2_21 l3_21 l4_21 l5_21 l6_21 l7_21
  refine then_n (hK22 _ _ ?_)
  clear hK22
  refine wp_seq_k (fun K27 hK27 => ?_)
  -- region 5
  refine region_in ?_
  have hll28 : [1, 2, 3, 4, 5, 6, 7].length = 7 := rfl
  refine W_litS (vs := [.int .i64 1, .int .i64 2, .int .i64 3, .int .i64 4, .int .i64 5, .int .i64 6, .int .i64 7]) (xs := ([1, 2, 3, 4, 5, 6, 7].map (Value.int .i64))) 1 hS25 rfl rfl rfl (parts7 rfl rfl rfl rfl rfl rfl rfl) rfl Try.underlying22 (by kernel_rfl) (by decide) (by intro v hv; simp only [List.mem_cons, List.not_mem_nil, or_false] at hv; rcases hv with rfl | rfl | rfl | rfl | rfl | rfl | rfl <;> rfl) (by rfl) (fun g28 w28 c28 hc28 hS28 => ?_)
  replace hc28 : c28 = io .i64 (.slice (some ⟨g28, 0, none⟩) 7 7) [1, 2, 3, 4, 5, 6, 7] := hc28
  replace hS28 : St w NoX [c28, c25, c_23, c20, c_18, c14, c_12, c7, c_5] w28 := hS28
  refine W_call rfl rfl rfl Try.func20 (by kernel_rfl) rfl (args1 (et rfl)) (kOf_c (hS28.chC 0 rfl hc28).own ) ?_
  rintro _ w29 ⟨v_29, rfl, hP29⟩
  refine ⟨_, rfl, ?_⟩
  obtain ⟨c_29, hc_29, hP29⟩ := gen1 hP29
  have hS29 := hS28.join hP29
  replace hS29 : St w NoX [c_29, c28, c25, c_23, c20, c_18, c14, c_12, c7, c_5] w29 := hS29
  refine W_v rfl rfl (V_mov rfl (et rfl)) ?_
  refine W_v rfl rfl (V_ext (v := .agg #[v_29]) rfl (et rfl) rfl) ?_
  refine W_v rfl rfl (V_ext (v := .int .i64 ((ofE [1, 2, 3, 4, 5, 6, 7]))) rfl (es rfl (et rfl)) rfl) ?_
  refine W_allocS (z := .agg #[.slice none 0 0]) (zs := #[.slice none 0 0]) hS29 rfl rfl rfl (by kernel_rfl) (by rfl) (fun g30 w30 c30 hc30 hS30 => ?_)
  replace hS30 : St w NoX [c30, c_29, c28, c25, c_23, c20, c_18, c14, c_12, c7, c_5] w30 := hS30
  refine W_stAS 0 hS30 rfl hc30 rfl rfl rfl (et rfl) (es rfl (es rfl (et rfl))) (by simp only [List.all_toArray, List.all_cons, List.all_nil, SlN_one (ow_at (hS30.chq 1 rfl hc_29))] <;> rfl) (by rfl) (by kernel_rfl) (fun w31 c31 hc31 hS31 => ?_)
  replace hS31 : St w NoX [c31, c_29, c28, c25, c_23, c20, c_18, c14, c_12, c7, c_5] w31 := hS31
  refine W_v rfl rfl (V_asg rfl (es rfl (et rfl))) ?_
  refine W_end ?_
  refine gen_Q (fun A32 hA32 => ?_)
  have hsz32 : SzN A32 123 := by rw [hA32]; infer_instance
  have hdf32 : A32.defers = [] := by rw [hA32]; simp only [df_put]; exact hdf26
  have l1_32 := lookE hA32 1 (es rfl (es rfl (es rfl (es rfl (es rfl (es rfl (es rfl l1_26)))))))
  have l2_32 := lookE hA32 2 (es rfl (es rfl (es rfl (es rfl (es rfl (es rfl (es rfl l2_26)))))))
  have l3_32 := lookE hA32 3 (es rfl (es rfl (es rfl (es rfl (es rfl (es rfl (es rfl l3_26)))))))
  have l4_32 := lookE hA32 4 (es rfl (es rfl (es rfl (es rfl (es rfl (es rfl (es rfl l4_26)))))))
  have l5_32 := lookE hA32 5 (es rfl (es rfl (es rfl (es rfl (es rfl (es rfl (es rfl l5_26)))))))
  have l6_32 := lookE hA32 6 (es rfl (es rfl (es rfl (es rfl (es rfl (es rfl (es rfl l6_26)))))))
  have l7_32 := lookE hA32 7 (es rfl (es rfl (es rfl (es rfl (es rfl (es rfl (es rfl l7_26)))))))
  have l8_32 := lookE hA32 8 (es rfl (es rfl (es rfl (es rfl (es rfl (es rfl (es rfl l8_26)))))))
  have l9_32 := lookE hA32 9 (es rfl (es rfl (es rfl (es rfl (es rfl (es rfl (es rfl l9_26)))))))
  have l10_32 := lookE hA32 10 (es rfl (es rfl (es rfl (es rfl (es rfl (es rfl (es rfl l10_26)))))))
  have l11_32 := lookE hA32 11 (es rfl (et rfl))
  have l12_32 := lookE hA32 12 (et rfl)
  clear hA32 hsz26 hdf26 l1_26 l2_26 l3_26 l4_26 l5_26 l6_26 l7_26 l8_26 l9_26 l10_26
  have hS33 : St w NoX [c31, c_29, c25, c_23, c20, c_18, c14, c_12, c7, c_5] w31 := hS31.sel [0, 1, 3, 4, 5, 6, 7, 8, 9, 10] (by decide) rfl
  refine then_n (hK27 _ _ ?_)
  clear hK27
  refine wp_seq_k (fun K34 hK34 => ?_)
  -- region 6
  refine region_in ?_
  refine W_r rfl rfl (VR_ldA rfl l1_32 (hS33.obj 8 rfl hc7) Try.underlying24 rfl (by kernel_rfl)) ?_
  refine W_call rfl rfl rfl Try.func15 (by kernel_rfl) rfl (args2 (et rfl) rfl) (kAdd_c (a := 0) (hS33.chC 9 rfl hc_5).own ) ?_
  rintro _ w35 ⟨v_35, rfl, hP35⟩
  refine ⟨_, rfl, ?_⟩
  obtain ⟨c_35, hc_35, hP35⟩ := gen1 hP35
  have hS35 := hS33.join hP35
  replace hS35 : St w NoX [c_35, c31, c_29, c25, c_23, c20, c_18, c14, c_12, c7, c_5] w35 := hS35
  refine W_v rfl rfl (V_mov rfl (et rfl)) ?_
  refine W_v rfl rfl (V_ext (v := .agg #[v_35]) rfl (et rfl) rfl) ?_
  refine W_v rfl rfl (V_ext (v := .bool ((adB (ofT [1, 2]) 0))) rfl (es rfl (et rfl)) rfl) ?_
  refine W_v rfl rfl (V_ext (v := .int .i64 ((chE (ofT [1, 2]) 0))) rfl (es rfl (es rfl (et rfl))) rfl) ?_
  refine W_allocS (z := .agg #[.slice none 0 0]) (zs := #[.slice none 0 0]) hS35 rfl rfl rfl (by kernel_rfl) (by rfl) (fun g36 w36 c36 hc36 hS36 => ?_)
  replace hS36 : St w NoX [c36, c_35, c31, c_29, c25, c_23, c20, c_18, c14, c_12, c7, c_5] w36 := hS36
  refine W_stAS 0 hS36 rfl hc36 rfl rfl rfl (et rfl) (es rfl (es rfl (es rfl (et rfl)))) (by simp only [List.all_toArray, List.all_cons, List.all_nil, SlN_one (ow_at (hS36.chq 1 rfl hc_35))] <;> rfl) (by rfl) (by kernel_rfl) (fun w37 c37 hc37 hS37 => ?_)
  replace hS37 : St w NoX [c37, c_35, c31, c_29, c25, c_23, c20, c_18, c14, c_12, c7, c_5] w37 := hS37
  refine W_v rfl rfl (V_asg rfl (es rfl (es rfl (et rfl)))) ?_
  refine W_v rfl rfl (V_asg rfl (es rfl (es rfl (et rfl)))) ?_
  refine W_end ?_
  refine gen_Q (fun A38 hA38 => ?_)
  have hsz38 : SzN A38 123 := by rw [hA38]; infer_instance
  have hdf38 : A38.defers = [] := by rw [hA38]; simp only [df_put]; exact hdf32
  have l1_38 := lookE hA38 1 (es rfl (es rfl (es rfl (es rfl (es rfl (es rfl (es rfl (es rfl (es rfl l1_32)))))))))
  have l2_38 := lookE hA38 2 (es rfl (es rfl (es rfl (es rfl (es rfl (es rfl (es rfl (es rfl (es rfl l2_32)))))))))
  have l3_38 := lookE hA38 3 (es rfl (es rfl (es rfl (es rfl (es rfl (es rfl (es rfl (es rfl (es rfl l3_32)))))))))
  have l4_38 := lookE hA38 4 (es rfl (es rfl (es rfl (es rfl (es rfl (es rfl (es rfl (es rfl (es rfl l4_32)))))))))
  have l5_38 := lookE hA38 5 (es rfl (es rfl (es rfl (es rfl (es rfl (es rfl (es rfl (es rfl (es rfl l5_32)))))))))
  have l6_38 := lookE hA38 6 (es rfl (es rfl (es rfl (es rfl (es rfl (es rfl (es rfl (es rfl (es rfl l6_32)))))))))
  have l7_38 := lookE hA38 7 (es rfl (es rfl (es rfl (es rfl (es rfl (es rfl (es rfl (es rfl (es rfl l7_32)))))))))
  have l8_38 := lookE hA38 8 (es rfl (es rfl (es rfl (es rfl (es rfl (es rfl (es rfl (es rfl (es rfl l8_32)))))))))
  have l9_38 := lookE hA38 9 (es rfl (es rfl (es rfl (es rfl (es rfl (es rfl (es rfl (es rfl (es rfl l9_32)))))))))
  have l10_38 := lookE hA38 10 (es rfl (es rfl (es rfl (es rfl (es rfl (es rfl (es rfl (es rfl (es rfl l10_32)))))))))
  have l11_38 := lookE hA38 11 (es rfl (es rfl (es rfl (es rfl (es rfl (es rfl (es rfl (es rfl (es rfl l11_32)))))))))
  have l12_38 := lookE hA38 12 (es rfl (es rfl (es rfl (es rfl (es rfl (es rfl (es rfl (es rfl (es rfl l12_32)))))))))
  have l15_38 := lookE hA38 15 (et rfl)
  clear hA38 hsz32 hdf32 l1_32 l2_32 l3_32 l4_32 l5_32 l6_32 l7_32 l8_32 l9_32 l10_32 l11_32 l12_32
  have hS39 : St w NoX [c31, c_29, c25, c_23, c20, c_18, c14, c_12, c7, c_5] w37 := hS37.sel [2, 3, 4, 5, 6, 7, 8, 9, 10, 11] (by decide) rfl
  refine then_n (hK34 _ _ ?_)
  clear hK34
  refine wp_seq_k (fun K40 hK40 => ?_)
  -- region 7
  refine region_in ?_
  refine W_mkS (z := .int .i64 0) (bytes := 8) 9 hS39 rfl rfl rfl rfl rfl (by omega) Try.underlying22 (by kernel_rfl) (by omega) rfl (fun v41 w41 c41 hc41 hS41 => ?_)
  replace hc41 : c41 = io .i64 v41 (List.replicate 9 (0 : Int)) := hc41.trans (by simp only [io, bo, List.map_replicate, List.length_replicate])
  replace hS41 : St w NoX [c41, c31, c_29, c25, c_23, c20, c_18, c14, c_12, c7, c_5] w41 := hS41
  refine W_v rfl rfl (V_bldS (n := 1) (z := .agg #[.slice none 0 0]) rfl (parts1 (et rfl)) (by kernel_rfl) (by simp only [List.all_cons, List.all_nil, SlN_one (ow_at (hS41.chq 0 rfl hc41)), Bool.and_true] <;> rfl) (by kernel_rfl) (by simp only [List.foldl_cons, List.foldl_nil, Value.cells, List.setIfInBounds_toArray, List.set_cons_succ, List.set_cons_zero] <;> rfl)) ?_
  refine W_call rfl rfl rfl Try.func26 (by kernel_rfl) rfl (args1 (et rfl)) (kCk_c (hS41.chC 0 rfl hc41).own ) ?_
  rintro _ w42 ⟨rfl, hP42⟩
  refine ⟨_, rfl, ?_⟩
  have hS42 := hS41.join hP42
  replace hS42 : St w NoX [c41, c31, c_29, c25, c_23, c20, c_18, c14, c_12, c7, c_5] w42 := hS42
  refine W_v rfl rfl (V_mov rfl (et rfl)) ?_
  refine W_v rfl rfl (V_ext (v := .int .i64 ((ckS (List.replicate 9 (0 : Int))).1)) rfl (et rfl) rfl) ?_
  refine W_v rfl rfl (V_ext (v := .int .i64 ((ckS (List.replicate 9 (0 : Int))).2)) rfl (es rfl (et rfl)) rfl) ?_
  refine W_v rfl rfl (V_asg rfl (es rfl (et rfl))) ?_
  refine W_v rfl rfl (V_asg rfl (es rfl (et rfl))) ?_
  refine W_end ?_
  refine gen_Q (fun A43 hA43 => ?_)
  have hsz43 : SzN A43 123 := by rw [hA43]; infer_instance
  have hdf43 : A43.defers = [] := by rw [hA43]; simp only [df_put]; exact hdf38
  have l1_43 := lookE hA43 1 (es rfl (es rfl (es rfl (es rfl (es rfl (es rfl (es rfl (es rfl l1_38))))))))
  have l2_43 := lookE hA43 2 (es rfl (es rfl (es rfl (es rfl (es rfl (es rfl (es rfl (es rfl l2_38))))))))
  have l3_43 := lookE hA43 3 (es rfl (es rfl (es rfl (es rfl (es rfl (es rfl (es rfl (es rfl l3_38))))))))
  have l4_43 := lookE hA43 4 (es rfl (es rfl (es rfl (es rfl (es rfl (es rfl (es rfl (es rfl l4_38))))))))
  have l5_43 := lookE hA43 5 (es rfl (es rfl (es rfl (es rfl (es rfl (es rfl (es rfl (es rfl l5_38))))))))
  have l6_43 := lookE hA43 6 (es rfl (es rfl (es rfl (es rfl (es rfl (es rfl (es rfl (es rfl l6_38))))))))
  have l7_43 := lookE hA43 7 (es rfl (es rfl (es rfl (es rfl (es rfl (es rfl (es rfl (es rfl l7_38))))))))
  have l8_43 := lookE hA43 8 (es rfl (es rfl (es rfl (es rfl (es rfl (es rfl (es rfl (es rfl l8_38))))))))
  have l9_43 := lookE hA43 9 (es rfl (es rfl (es rfl (es rfl (es rfl (es rfl (es rfl (es rfl l9_38))))))))
  have l10_43 := lookE hA43 10 (es rfl (es rfl (es rfl (es rfl (es rfl (es rfl (es rfl (es rfl l10_38))))))))
  have l11_43 := lookE hA43 11 (es rfl (es rfl (es rfl (es rfl (es rfl (es rfl (es rfl (es rfl l11_38))))))))
  have l12_43 := lookE hA43 12 (es rfl (es rfl (es rfl (es rfl (es rfl (es rfl (es rfl (es rfl l12_38))))))))
  have l15_43 := lookE hA43 15 (es rfl (es rfl (es rfl (es rfl (es rfl (es rfl (es rfl (es rfl l15_38))))))))
  have l16_43 := lookE hA43 16 (es rfl (et rfl))
  have l17_43 := lookE hA43 17 (et rfl)
  clear hA43 hsz38 hdf38 l1_38 l2_38 l3_38 l4_38 l5_38 l6_38 l7_38 l8_38 l9_38 l10_38 l11_38 l12_38 l15_38
  have hS44 : St w NoX [c31, c_29, c25, c_23, c20, c_18, c14, c_12, c7, c_5] w42 := hS42.sel [1, 2, 3, 4, 5, 6, 7, 8, 9, 10] (by decide) rfl
  refine then_n (hK40 _ _ ?_)
  clear hK40
  refine wp_seq_k (fun K45 hK45 => ?_)
  -- region 8
  refine region_in ?_
  refine W_v rfl rfl (V_mov rfl l2_43) ?_
  refine W_v rfl rfl (V_eql rfl (et rfl) rfl) ?_
  refine W_sure (c' := true) rfl rfl (V_mov rfl (et rfl)) (by decide +kernel) ?_
  refine W_v rfl (wanted_t rfl rfl (et rfl) (ez rfl)) (V_fa (off' := 0) rfl (es rfl (es rfl (es rfl l1_43))) Try.underlying24 rfl (by decide +kernel) rfl) ?_
  refine W_r rfl (wanted_t rfl rfl (es rfl (et rfl)) (ez rfl)) (VR_ldC rfl (et rfl) (cell_box (v := v_5) (hS44.obj 8 rfl hc7) rfl) Try.underlying22 rfl) ?_
  have hll46 : [0, 0, 0, 0, 0, 0, 2, 1].length = 8 := rfl
  refine W_litS (vs := [.int .i64 0, .int .i64 0, .int .i64 0, .int .i64 0, .int .i64 0, .int .i64 0, .int .i64 2, .int .i64 1]) (xs := ([0, 0, 0, 0, 0, 0, 2, 1].map (Value.int .i64))) 1 hS44 rfl (wanted_t rfl rfl (es rfl (es rfl (et rfl))) (ez rfl)) rfl (parts8 rfl rfl rfl rfl rfl rfl rfl rfl) rfl Try.underlying22 (by kernel_rfl) (by decide) (by intro v hv; simp only [List.mem_cons, List.not_mem_nil, or_false] at hv; rcases hv with rfl | rfl | rfl | rfl | rfl | rfl | rfl | rfl <;> rfl) (by rfl) (fun g46 w46 c46 hc46 hS46 => ?_)
  replace hc46 : c46 = io .i64 (.slice (some ⟨g46, 0, none⟩) 8 8) [0, 0, 0, 0, 0, 0, 2, 1] := hc46
  replace hS46 : St w NoX [c46, c31, c_29, c25, c_23, c20, c_18, c14, c_12, c7, c_5] w46 := hS46
  refine W_call rfl (wanted_t rfl rfl (es rfl (es rfl (es rfl (et rfl)))) (ez rfl)) rfl Try.func36 (by kernel_rfl) rfl (args2 (es rfl (et rfl)) (et rfl)) (qInts_c (hS46.chC 10 rfl hc_5).own (hS46.chC 0 rfl hc46).own ) ?_
  rintro _ w47 ⟨rfl, hP47⟩
  refine ⟨_, rfl, ?_⟩
  have hS47 := hS46.join hP47
  replace hS47 : St w NoX [c46, c31, c_29, c25, c_23, c20, c_18, c14, c_12, c7, c_5] w47 := hS47
  refine W_v rfl rfl (V_pickT rfl (es rfl (es rfl (es rfl (es rfl (et rfl))))) (et rfl)) ?_
  refine W_sure (c' := true) rfl rfl (V_mov rfl (et rfl)) (by decide +kernel) ?_
  refine W_v rfl (wanted_t rfl rfl (et rfl) (ez rfl)) (V_mov rfl (es rfl (es rfl (es rfl (es rfl (es rfl (es rfl (es rfl (es rfl (es rfl l4_43)))))))))) ?_
  refine W_v rfl (wanted_t rfl rfl (es rfl (et rfl)) (ez rfl)) (V_eql rfl (et rfl) rfl) ?_
  refine W_v rfl rfl (V_pickT rfl (es rfl (es rfl (et rfl))) (et rfl)) ?_
  refine W_sure (c' := true) rfl rfl (V_mov rfl (et rfl)) (by decide +kernel) ?_
  refine W_v rfl (wanted_t rfl rfl (et rfl) (ez rfl)) (V_fa (off' := 0) rfl (es rfl (es rfl (es rfl (es rfl (es rfl (es rfl (es rfl (es rfl (es rfl (es rfl (es rfl (es rfl (es rfl l3_43))))))))))))) Try.underlying24 rfl (by decide +kernel) rfl) ?_
  refine W_r rfl (wanted_t rfl rfl (es rfl (et rfl)) (ez rfl)) (VR_ldC rfl (et rfl) (cell_box (v := v_12) (hS47.obj 7 rfl hc14) rfl) Try.underlying22 rfl) ?_
  have hll48 : [9, 0, 0, 0, 0, 0, 0, 1].length = 8 := rfl
  refine W_litS (vs := [.int .i64 9, .int .i64 0, .int .i64 0, .int .i64 0, .int .i64 0, .int .i64 0, .int .i64 0, .int .i64 1]) (xs := ([9, 0, 0, 0, 0, 0, 0, 1].map (Value.int .i64))) 1 hS47 rfl (wanted_t rfl rfl (es rfl (es rfl (et rfl))) (ez rfl)) rfl (parts8 rfl rfl rfl rfl rfl rfl rfl rfl) rfl Try.underlying22 (by kernel_rfl) (by decide) (by intro v hv; simp only [List.mem_cons, List.not_mem_nil, or_false] at hv; rcases hv with rfl | rfl | rfl | rfl | rfl | rfl | rfl | rfl <;> rfl) (by rfl) (fun g48 w48 c48 hc48 hS48 => ?_)
  replace hc48 : c48 = io .i64 (.slice (some ⟨g48, 0, none⟩) 8 8) [9, 0, 0, 0, 0, 0, 0, 1] := hc48
  replace hS48 : St w NoX [c48, c46, c31, c_29, c25, c_23, c20, c_18, c14, c_12, c7, c_5] w48 := hS48
  refine W_call rfl (wanted_t rfl rfl (es rfl (es rfl (es rfl (et rfl)))) (ez rfl)) rfl Try.func36 (by kernel_rfl) rfl (args2 (es rfl (et rfl)) (et rfl)) (qInts_c (hS48.chC 9 rfl hc_12).own (hS48.chC 0 rfl hc48).own ) ?_
  rintro _ w49 ⟨rfl, hP49⟩
  refine ⟨_, rfl, ?_⟩
  have hS49 := hS48.join hP49
  replace hS49 : St w NoX [c48, c46, c31, c_29, c25, c_23, c20, c_18, c14, c_12, c7, c_5] w49 := hS49
  refine W_v rfl rfl (V_pickT rfl (es rfl (es rfl (es rfl (es rfl (et rfl))))) (et rfl)) ?_
  refine W_sure (c' := true) rfl rfl (V_mov rfl (et rfl)) (by decide +kernel) ?_
  refine W_v rfl (wanted_t rfl rfl (et rfl) (ez rfl)) (V_mov rfl (es rfl (es rfl (es rfl (es rfl (es rfl (es rfl (es rfl (es rfl (es rfl (es rfl (es rfl (es rfl (es rfl (es rfl (es rfl (es rfl (es rfl (es rfl (es rfl l6_43)))))))))))))))))))) ?_
  refine W_v rfl rfl (V_pickT rfl (es rfl (et rfl)) (et rfl)) ?_
  refine W_sure (c' := true) rfl rfl (V_mov rfl (et rfl)) (by decide +kernel) ?_
  refine W_v rfl (wanted_t rfl rfl (et rfl) (ez rfl)) (V_mov rfl (es rfl (es rfl (es rfl (es rfl (es rfl (es rfl (es rfl (es rfl (es rfl (es rfl (es rfl (es rfl (es rfl (es rfl (es rfl (es rfl (es rfl (es rfl (es rfl (es rfl (es rfl (es rfl l7_43))))))))))))))))))))))) ?_
  refine W_v rfl (wanted_t rfl rfl (es rfl (et rfl)) (ez rfl)) (V_eql rfl (et rfl) rfl) ?_
  refine W_v rfl rfl (V_pickT rfl (es rfl (es rfl (et rfl))) (et rfl)) ?_
  refine W_sure (c' := true) rfl rfl (V_mov rfl (et rfl)) (by decide +kernel) ?_
  refine W_v rfl (wanted_t rfl rfl (et rfl) (ez rfl)) (V_fa (off' := 0) rfl (es rfl (es rfl (es rfl (es rfl (es rfl (es rfl (es rfl (es rfl (es rfl (es rfl (es rfl (es rfl (es rfl (es rfl (es rfl (es rfl (es rfl (es rfl (es rfl (es rfl (es rfl (es rfl (es rfl (es rfl (es rfl (es rfl l5_43)))))))))))))))))))))))))) Try.underlying24 rfl (by decide +kernel) rfl) ?_
  refine W_r rfl (wanted_t rfl rfl (es rfl (et rfl)) (ez rfl)) (VR_ldC rfl (et rfl) (cell_box (v := v_18) (hS49.obj 6 rfl hc20) rfl) Try.underlying22 rfl) ?_
  have hll50 : [9, 0, 0, 0, 0, 0, 0, (-1)].length = 8 := rfl
  refine W_litS (vs := [.int .i64 9, .int .i64 0, .int .i64 0, .int .i64 0, .int .i64 0, .int .i64 0, .int .i64 0, .int .i64 (-1)]) (xs := ([9, 0, 0, 0, 0, 0, 0, (-1)].map (Value.int .i64))) 1 hS49 rfl (wanted_t rfl rfl (es rfl (es rfl (et rfl))) (ez rfl)) rfl (parts8 rfl rfl rfl rfl rfl rfl rfl rfl) rfl Try.underlying22 (by kernel_rfl) (by decide) (by intro v hv; simp only [List.mem_cons, List.not_mem_nil, or_false] at hv; rcases hv with rfl | rfl | rfl | rfl | rfl | rfl | rfl | rfl <;> rfl) (by rfl) (fun g50 w50 c50 hc50 hS50 => ?_)
  replace hc50 : c50 = io .i64 (.slice (some ⟨g50, 0, none⟩) 8 8) [9, 0, 0, 0, 0, 0, 0, (-1)] := hc50
  replace hS50 : St w NoX [c50, c48, c46, c31, c_29, c25, c_23, c20, c_18, c14, c_12, c7, c_5] w50 := hS50
  refine W_call rfl (wanted_t rfl rfl (es rfl (es rfl (es rfl (et rfl)))) (ez rfl)) rfl Try.func36 (by kernel_rfl) rfl (args2 (es rfl (et rfl)) (et rfl)) (qInts_c (hS50.chC 8 rfl hc_18).own (hS50.chC 0 rfl hc50).own ) ?_
  rintro _ w51 ⟨rfl, hP51⟩
  refine ⟨_, rfl, ?_⟩
  have hS51 := hS50.join hP51
  replace hS51 : St w NoX [c50, c48, c46, c31, c_29, c25, c_23, c20, c_18, c14, c_12, c7, c_5] w51 := hS51
  refine W_v rfl rfl (V_pickT rfl (es rfl (es rfl (es rfl (es rfl (et rfl))))) (et rfl)) ?_
  refine W_sure (c' := true) rfl rfl (V_mov rfl (et rfl)) (by decide +kernel) ?_
  refine W_v rfl (wanted_t rfl rfl (et rfl) (ez rfl)) (V_mov rfl (es rfl (es rfl (es rfl (es rfl (es rfl (es rfl (es rfl (es rfl (es rfl (es rfl (es rfl (es rfl (es rfl (es rfl (es rfl (es rfl (es rfl (es rfl (es rfl (es rfl (es rfl (es rfl (es rfl (es rfl (es rfl (es rfl (es rfl (es rfl (es rfl (es rfl (es rfl (es rfl l9_43))))))))))))))))))))))))))))))))) ?_
  refine W_v rfl rfl (V_pickT rfl (es rfl (et rfl)) (et rfl)) ?_
  refine W_sure (c' := true) rfl rfl (V_mov rfl (et rfl)) (by decide +kernel) ?_
  refine W_v rfl (wanted_t rfl rfl (et rfl) (ez rfl)) (V_mov rfl (es rfl (es rfl (es rfl (es rfl (es rfl (es rfl (es rfl (es rfl (es rfl (es rfl (es rfl (es rfl (es rfl (es rfl (es rfl (es rfl (es rfl (es rfl (es rfl (es rfl (es rfl (es rfl (es rfl (es rfl (es rfl (es rfl (es rfl (es rfl (es rfl (es rfl (es rfl (es rfl (es rfl (es rfl (es rfl l10_43)))))))))))))))))))))))))))))))))))) ?_
  refine W_v rfl (wanted_t rfl rfl (es rfl (et rfl)) (ez rfl)) (V_eql rfl (et rfl) rfl) ?_
  refine W_v rfl rfl (V_pickT rfl (es rfl (es rfl (et rfl))) (et rfl)) ?_
  refine W_sure (c' := true) rfl rfl (V_mov rfl (et rfl)) (by decide +kernel) ?_
  refine W_v rfl (wanted_t rfl rfl (et rfl) (ez rfl)) (V_fa (off' := 0) rfl (es rfl (es rfl (es rfl (es rfl (es rfl (es rfl (es rfl (es rfl (es rfl (es rfl (es rfl (es rfl (es rfl (es rfl (es rfl (es rfl (es rfl (es rfl (es rfl (es rfl (es rfl (es rfl (es rfl (es rfl (es rfl (es rfl (es rfl (es rfl (es rfl (es rfl (es rfl (es rfl (es rfl (es rfl (es rfl (es rfl (es rfl (es rfl (es rfl l8_43))))))))))))))))))))))))))))))))))))))) Try.underlying24 rfl (by decide +kernel) rfl) ?_
  refine W_r rfl (wanted_t rfl rfl (es rfl (et rfl)) (ez rfl)) (VR_ldC rfl (et rfl) (cell_box (v := v_23) (hS51.obj 5 rfl hc25) rfl) Try.underlying22 rfl) ?_
  have hll52 : [9, 0, 0, 0, 0, 0, 0, 17].length = 8 := rfl
  refine W_litS (vs := [.int .i64 9, .int .i64 0, .int .i64 0, .int .i64 0, .int .i64 0, .int .i64 0, .int .i64 0, .int .i64 17]) (xs := ([9, 0, 0, 0, 0, 0, 0, 17].map (Value.int .i64))) 1 hS51 rfl (wanted_t rfl rfl (es rfl (es rfl (et rfl))) (ez rfl)) rfl (parts8 rfl rfl rfl rfl rfl rfl rfl rfl) rfl Try.underlying22 (by kernel_rfl) (by decide) (by intro v hv; simp only [List.mem_cons, List.not_mem_nil, or_false] at hv; rcases hv with rfl | rfl | rfl | rfl | rfl | rfl | rfl | rfl <;> rfl) (by rfl) (fun g52 w52 c52 hc52 hS52 => ?_)
  replace hc52 : c52 = io .i64 (.slice (some ⟨g52, 0, none⟩) 8 8) [9, 0, 0, 0, 0, 0, 0, 17] := hc52
  replace hS52 : St w NoX [c52, c50, c48, c46, c31, c_29, c25, c_23, c20, c_18, c14, c_12, c7, c_5] w52 := hS52
  refine W_call rfl (wanted_t rfl rfl (es rfl (es rfl (es rfl (et rfl)))) (ez rfl)) rfl Try.func36 (by kernel_rfl) rfl (args2 (es rfl (et rfl)) (et rfl)) (qInts_c (hS52.chC 7 rfl hc_23).own (hS52.chC 0 rfl hc52).own ) ?_
  rintro _ w53 ⟨rfl, hP53⟩
  refine ⟨_, rfl, ?_⟩
  have hS53 := hS52.join hP53
  replace hS53 : St w NoX [c52, c50, c48, c46, c31, c_29, c25, c_23, c20, c_18, c14, c_12, c7, c_5] w53 := hS53
  refine W_v rfl rfl (V_pickT rfl (es rfl (es rfl (es rfl (es rfl (et rfl))))) (et rfl)) ?_
  refine W_sure (c' := true) rfl rfl (V_mov rfl (et rfl)) (by decide +kernel) ?_
  refine W_v rfl (wanted_t rfl rfl (et rfl) (ez rfl)) (V_mov rfl (es rfl (es rfl (es rfl (es rfl (es rfl (es rfl (es rfl (es rfl (es rfl (es rfl (es rfl (es rfl (es rfl (es rfl (es rfl (es rfl (es rfl (es rfl (es rfl (es rfl (es rfl (es rfl (es rfl (es rfl (es rfl (es rfl (es rfl (es rfl (es rfl (es rfl (es rfl (es rfl (es rfl (es rfl (es rfl (es rfl (es rfl (es rfl (es rfl (es rfl (es rfl (es rfl (es rfl (es rfl (es rfl l12_43)))))))))))))))))))))))))))))))))))))))))))))) ?_
  refine W_v rfl (wanted_t rfl rfl (es rfl (et rfl)) (ez rfl)) (V_eql rfl (et rfl) rfl) ?_
  refine W_v rfl rfl (V_pickT rfl (es rfl (es rfl (et rfl))) (et rfl)) ?_
  refine W_sure (c' := true) rfl rfl (V_mov rfl (et rfl)) (by decide +kernel) ?_
  refine W_v rfl (wanted_t rfl rfl (et rfl) (ez rfl)) (V_fa (off' := 0) rfl (es rfl (es rfl (es rfl (es rfl (es rfl (es rfl (es rfl (es rfl (es rfl (es rfl (es rfl (es rfl (es rfl (es rfl (es rfl (es rfl (es rfl (es rfl (es rfl (es rfl (es rfl (es rfl (es rfl (es rfl (es rfl (es rfl (es rfl (es rfl (es rfl (es rfl (es rfl (es rfl (es rfl (es rfl (es rfl (es rfl (es rfl (es rfl (es rfl (es rfl (es rfl (es rfl (es rfl (es rfl (es rfl (es rfl (es rfl (es rfl (es rfl l11_43))))))))))))))))))))))))))))))))))))))))))))))))) Try.underlying24 rfl (by decide +kernel) rfl) ?_
  refine W_r rfl (wanted_t rfl rfl (es rfl (et rfl)) (ez rfl)) (VR_ldC rfl (et rfl) (cell_box (v := v_29) (hS53.obj 4 rfl hc31) rfl) Try.underlying22 rfl) ?_
  refine W_v rfl (wanted_t rfl rfl (es rfl (es rfl (et rfl))) (ez rfl)) (V_lenS rfl (et rfl) (ow_at (hS53.chq 5 rfl hc_29)) Try.underlying22) ?_
  refine W_v rfl (wanted_t rfl rfl (es rfl (es rfl (es rfl (et rfl)))) (ez rfl)) (V_eql rfl (et rfl) rfl) ?_
  refine W_v rfl rfl (V_pickT rfl (es rfl (es rfl (es rfl (es rfl (et rfl))))) (et rfl)) ?_
  refine W_sure (c' := true) rfl rfl (V_mov rfl (et rfl)) (by decide +kernel) ?_
  refine W_v rfl (wanted_t rfl rfl (et rfl) (ez rfl)) (V_mov rfl (es rfl (es rfl (es rfl (es rfl (es rfl (es rfl (es rfl (es rfl (es rfl (es rfl (es rfl (es rfl (es rfl (es rfl (es rfl (es rfl (es rfl (es rfl (es rfl (es rfl (es rfl (es rfl (es rfl (es rfl (es rfl (es rfl (es rfl (es rfl (es rfl (es rfl (es rfl (es rfl (es rfl (es rfl (es rfl (es rfl (es rfl (es rfl (es rfl (es rfl (es rfl (es rfl (es rfl (es rfl (es rfl (es rfl (es rfl (es rfl (es rfl (es rfl (es rfl (es rfl (es rfl (es rfl (es rfl l15_43)))))))))))))))))))))))))))))))))))))))))))))))))))))))) ?_
  refine W_v rfl (wanted_t rfl rfl (es rfl (et rfl)) (ez rfl)) (V_eql rfl (et rfl) rfl) ?_
  refine W_v rfl rfl (V_pickT rfl (es rfl (es rfl (et rfl))) (et rfl)) ?_
  refine W_sure (c' := true) rfl rfl (V_mov rfl (et rfl)) (by decide +kernel) ?_
  refine W_v rfl (wanted_t rfl rfl (et rfl) (ez rfl)) (V_mov rfl (es rfl (es rfl (es rfl (es rfl (es rfl (es rfl (es rfl (es rfl (es rfl (es rfl (es rfl (es rfl (es rfl (es rfl (es rfl (es rfl (es rfl (es rfl (es rfl (es rfl (es rfl (es rfl (es rfl (es rfl (es rfl (es rfl (es rfl (es rfl (es rfl (es rfl (es rfl (es rfl (es rfl (es rfl (es rfl (es rfl (es rfl (es rfl (es rfl (es rfl (es rfl (es rfl (es rfl (es rfl (es rfl (es rfl (es rfl (es rfl (es rfl (es rfl (es rfl (es rfl (es rfl (es rfl (es rfl (es rfl (es rfl (es rfl (es rfl l16_43)))))))))))))))))))))))))))))))))))))))))))))))))))))))))))) ?_
  refine W_v rfl (wanted_t rfl rfl (es rfl (et rfl)) (ez rfl)) (V_eql rfl (et rfl) rfl) ?_
  refine W_v rfl rfl (V_pickT rfl (es rfl (es rfl (et rfl))) (et rfl)) ?_
  refine W_sure (c' := true) rfl rfl (V_mov rfl (et rfl)) (by decide +kernel) ?_
  refine W_v rfl (wanted_t rfl rfl (et rfl) (ez rfl)) (V_mov rfl (es rfl (es rfl (es rfl (es rfl (es rfl (es rfl (es rfl (es rfl (es rfl (es rfl (es rfl (es rfl (es rfl (es rfl (es rfl (es rfl (es rfl (es rfl (es rfl (es rfl (es rfl (es rfl (es rfl (es rfl (es rfl (es rfl (es rfl (es rfl (es rfl (es rfl (es rfl (es rfl (es rfl (es rfl (es rfl (es rfl (es rfl (es rfl (es rfl (es rfl (es rfl (es rfl (es rfl (es rfl (es rfl (es rfl (es rfl (es rfl (es rfl (es rfl (es rfl (es rfl (es rfl (es rfl (es rfl (es rfl (es rfl (es rfl (es rfl (es rfl (es rfl (es rfl (es rfl l17_43)))))))))))))))))))))))))))))))))))))))))))))))))))))))))))))))) ?_
  refine W_v rfl (wanted_t rfl rfl (es rfl (et rfl)) (ez rfl)) (V_eql rfl (et rfl) rfl) ?_
  refine W_v rfl rfl (V_pickT rfl (es rfl (es rfl (et rfl))) (et rfl)) ?_
  refine W_v rfl rfl (V_asg rfl (et rfl)) ?_
  refine W_end ?_
  refine gen_Q (fun A54 hA54 => ?_)
  have hsz54 : SzN A54 123 := by rw [hA54]; infer_instance
  have hdf54 : A54.defers = [] := by rw [hA54]; simp only [df_put]; exact hdf43
  have l0_54 := lookE hA54 0 (et rfl)
  clear hA54 hsz43 hdf43 l1_43 l2_43 l3_43 l4_43 l5_43 l6_43 l7_43 l8_43 l9_43 l10_43 l11_43 l12_43 l15_43 l16_43 l17_43
  have hS55 : St w NoX [] w53 := hS53.sel [] (by decide) rfl
  refine then_n (hK45 _ _ ?_)
  clear hK45
  refine wp_ret ?_
  refine ret_in (results_1 Try.results12 (rv_tmp l0_54)) hdf54 ?_
  -- leaf 
  rw [show true = decide ((ckS (List.replicate 9 (0 : Int))).2 = 6) by decide +kernel]
  exact ⟨rfl, hS55.fin0⟩

end Go.Proofs.Ytoandfgkkmfobaa