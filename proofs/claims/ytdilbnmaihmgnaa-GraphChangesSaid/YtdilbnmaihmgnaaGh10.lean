import Derived.Test.YtdilbnmaihmgnaaProg
import Derived.Test.YtdilbnmaihmgnaaGh9b
import Derived.Test.YtdilbnmaihmgnaaPl15j
namespace Go.Proofs.Ytdilbnmaihmgnaa
open Go.RowKit Go.Own Go.Own.R Go.Own.G Go.Own.Gr


set_option maxHeartbeats 4000000 in
theorem qInts_c {xv : Value} {xs : List Int} {yv : Value} {ys : List Int} {w : World} (h_xv : Ro w NoX (il .i64 xv xs)) (h_yv : Ro w NoX (il .i64 yv ys))  :
    Calls Try.prog 21 #[xv, yv] w fun e w' => e = .returned (.bool (decide (xs = ys))) ∧ St w NoX [] w' := by
  refine calls_in 26 Try.func21 rfl rfl (by simp) (fun A0 hsz0 hdf0 hargs => ?_)
  have l0_0 := hargs 0 (xv) rfl
  have l1_0 := hargs 1 (yv) rfl
  clear hargs; replace hsz0 : SzN A0 26 := ⟨hsz0⟩
  have hS := St.nil w
  have bh_xv := SlN.le (sl_SlN h_xv.at)
  have bh_yv := SlN.le (sl_SlN h_yv.at)
  refine wp_seq_k (fun K1 hK1 => ?_)
  refine region_in ?_
  refine W_v rfl rfl (V_asg rfl rfl) ?_
  refine W_end ?_
  refine gen_Q (fun A2 hA2 => ?_)
  have hsz2 := szq hA2
  have hdf2 : A2.defers = [] := by rw [hA2]; simp only [df_put]; exact hdf0
  have l0_2 := lookE hA2 0 (es rfl l0_0)
  have l1_2 := lookE hA2 1 (es rfl l1_0)
  clear hA2 hsz0 hdf0 l0_0 l1_0
  refine then_n (hK1 _ _ ?_)
  clear hK1
  refine wp_seq_k (fun K3 hK3 => ?_)
  refine wp_seq_k (fun K4 hK4 => ?_)
  refine region_in ?_
  refine W_v rfl rfl (V_mov rfl l0_2) ?_
  refine W_v rfl rfl (V_lenS rfl (et rfl) (sl_SlN h_xv.at) Try.underlying23) ?_
  refine W_v rfl rfl (V_mov rfl (es rfl (es rfl l1_2))) ?_
  refine W_v rfl rfl (V_lenS rfl (et rfl) (sl_SlN h_yv.at) Try.underlying23) ?_
  refine W_v rfl rfl (V_neq rfl (e2 rfl (et rfl)) (et rfl)) ?_
  refine W_end ?_
  refine gen_Q (fun A5 hA5 => ?_)
  have hsz5 := szq hA5
  have hdf5 : A5.defers = [] := by rw [hA5]; simp only [df_put]; exact hdf2
  have l0_5 := lookE hA5 0 (e4 rfl (es rfl l0_2))
  have l1_5 := lookE hA5 1 (e4 rfl (es rfl l1_2))
  have l10_5 := lookE hA5 10 (et rfl)
  clear hA5 hsz2 hdf2 l0_2 l1_2
  refine then_n (hK4 _ _ ?_)
  clear hK4
  refine cond_dec l10_5 (fun c6 => ?_) (fun c6 => ?_)
  · skip
    refine wp_seq_k (fun K7 hK7 => ?_)
    refine region_in ?_
    refine W_v rfl rfl (V_asg rfl rfl) ?_
    refine W_end ?_
    refine gen_Q (fun A8 hA8 => ?_)
    have hsz8 := szq hA8
    have hdf8 : A8.defers = [] := by rw [hA8]; simp only [df_put]; exact hdf5
    have l4_8 := lookE hA8 4 (et rfl)
    clear hA8 hsz5 hdf5 l0_5 l1_5 l10_5
    refine then_n (hK7 _ _ ?_)
    clear hK7
    refine wp_ret ?_
    refine then_ret ?_
    refine ret_in (results_1 Try.results21 (rv_tmp l4_8)) hdf8 ?_
    -- leaf T
    rw [decide_eq_false (show ¬ xs = ys from fun e => absurd (congrArg List.length e) (by omega))]
    exact ⟨rfl, hS.fin0⟩
  · skip
    have hl : xs.length = ys.length := by omega
    refine wp_skip ?_
    refine then_n (hK3 _ _ ?_)
    clear hK3
    refine wp_seq_k (fun K9 hK9 => ?_)
    refine wp_seq_k (fun K10 hK10 => ?_)
    refine region_in ?_
    refine W_v rfl rfl (V_asg rfl rfl) ?_
    refine W_end ?_
    refine gen_Q (fun A11 hA11 => ?_)
    have hsz11 := szq hA11
    have hdf11 : A11.defers = [] := by rw [hA11]; simp only [df_put]; exact hdf5
    have l0_11 := lookE hA11 0 (es rfl l0_5)
    have l1_11 := lookE hA11 1 (es rfl l1_5)
    have l5_11 := lookE hA11 5 (et rfl)
    clear hA11 hsz5 hdf5 l0_5 l1_5 l10_5
    refine then_n (hK10 _ _ ?_)
    clear hK10
    refine wp_block ?_
    -- loop 4
    refine loopX (fun mz A' w' => SzN A' 26 ∧ A'.defers = [] ∧ (∃ (k : Nat), (mz = xs.length - k) ∧ (k ≤ xs.length) ∧ (∀ i, i < k → xs[i]? = ys[i]?) ∧ (EV A' (.tmp 5) = .int .i64 (k : Int)) ∧ (EV A' (.tmp 0) = EV A11 (.tmp 0)) ∧ (EV A' (.tmp 1) = EV A11 (.tmp 1)) ∧ (St w NoX [] w'))) (xs.length - 0) ⟨hsz11, hdf11, 0, rfl, (by omega), (fun i hi => by omega), ((l5_11).trans (by first | rfl | (simp; done) | (congr 1; omega))), rfl, rfl, hS⟩ ?_
    clear hS
    rintro n12 A12 w12 ⟨hsz12, hdf12, k, hm12, hk, hz, l5_12, u0_12, u1_12, hS12⟩
    have l0_12 := u0_12.trans l0_11
    have l1_12 := u1_12.trans l1_11
    refine wp_seq_k (fun K13 hK13 => ?_)
    refine wp_seq_k (fun K14 hK14 => ?_)
    refine region_in ?_
    refine W_v rfl rfl (V_mov rfl l5_12) ?_
    refine W_v rfl rfl (V_mov rfl (es rfl l0_12)) ?_
    refine W_v rfl rfl (V_lenS rfl (et rfl) (sl_SlN h_xv.at) Try.underlying23) ?_
    refine W_v rfl rfl (V_lss rfl (e2 rfl (et rfl)) (et rfl)) ?_
    refine W_end ?_
    refine gen_Q (fun A15 hA15 => ?_)
    have hsz15 := szq hA15
    have hdf15 : A15.defers = [] := by rw [hA15]; simp only [df_put]; exact hdf12
    have l0_15 := lookE hA15 0 (e3 rfl (es rfl l0_12))
    have l1_15 := lookE hA15 1 (e3 rfl (es rfl l1_12))
    have l5_15 := lookE hA15 5 (e3 rfl (es rfl l5_12))
    have l14_15 := lookE hA15 14 (et rfl)
    clear hA15 hsz12 hdf12 l5_12 l0_12 l1_12
    refine then_n (hK14 _ _ ?_)
    clear hK14
    refine cond_dec l14_15 (fun c16 => ?_) (fun c16 => ?_)
    · skip
      refine wp_skip ?_
      refine then_n (hK13 _ _ ?_)
      clear hK13
      refine wp_seq_k (fun K17 hK17 => ?_)
      refine wp_block ?_
      refine wp_seq_k (fun K18 hK18 => ?_)
      refine region_monoS 9 9 [] (by kernel_rfl) (by kernel_rfl) ?_
      refine D_v rfl rfl (V_mov rfl l0_15) rfl rfl ?_
      refine D_v rfl rfl (V_mov rfl (es rfl l5_15)) rfl rfl ?_
      have k19 : k < xs.length := by first | omega | (simp only [List.length_cons, List.length_nil]; omega) | (simp only [List.length_set]; omega)
      obtain ⟨y19, hy19⟩ := get_some (xs := xs) (k := k) k19
      obtain ⟨B19, O19, C19, hv19⟩ := (SlN.blk (sl_SlN h_xv.at) (by first | omega | (simp only [List.length_cons, List.length_nil]; omega) | (simp only [List.length_set]; omega)))
      refine D_v rfl rfl (V_ixS (off := O19 + k) 1 (k) rfl (es rfl (et rfl)) (et rfl) hv19 (by omega) k19 Try.underlying23 (by kernel_rfl) (congrArg _ (Nat.mul_one _))) rfl rfl ?_
      refine D_r rfl rfl (by kernel_rfl) (fun sx hx hF => (VR_ldC rfl (et rfl) ((sl_SlN ((hS12.grow hx).ro h_xv)).cell hv19 (map_get hy19)) Try.underlying3 rfl)) rfl rfl ?_
      refine D_v rfl rfl (V_mov rfl (e3 rfl (es rfl l1_15))) rfl rfl ?_
      refine D_v rfl rfl (V_mov rfl (e4 rfl (es rfl l5_15))) rfl rfl ?_
      have k20 : k < ys.length := by first | omega | (simp only [List.length_cons, List.length_nil]; omega) | (simp only [List.length_set]; omega)
      obtain ⟨y20, hy20⟩ := get_some (xs := ys) (k := k) k20
      obtain ⟨B20, O20, C20, hv20⟩ := (SlN.blk (sl_SlN h_yv.at) (by first | omega | (simp only [List.length_cons, List.length_nil]; omega) | (simp only [List.length_set]; omega)))
      refine D_v rfl rfl (V_ixS (off := O20 + k) 1 (k) rfl (es rfl (et rfl)) (et rfl) hv20 (by omega) k20 Try.underlying23 (by kernel_rfl) (congrArg _ (Nat.mul_one _))) rfl rfl ?_
      refine D_r rfl rfl (by kernel_rfl) (fun sx hx hF => (VR_ldC rfl (et rfl) ((sl_SlN ((hS12.grow hx).ro h_yv)).cell hv20 (map_get hy20)) Try.underlying3 rfl)) rfl rfl ?_
      refine D_v rfl rfl (V_neq rfl (e4 rfl (et rfl)) (et rfl)) rfl rfl ?_
      refine ZS_none hS12 (Nat.le_refl _) (Nat.le_refl _) (fun s21 hJ21 hL21 hF21 => ?_)
      have hS21 := hJ21.st; clear hF21 hJ21 hL21
      generalize s21.1 = w21 at *
      replace hS21 : St w NoX [] w21 := hS21
      refine gen_Q (fun A22 hA22 => ?_)
      have hsz22 := szq hA22
      have hdf22 : A22.defers = [] := by rw [hA22]; simp only [df_put]; exact hdf15
      have l0_22 := lookE hA22 0 (e8 rfl (es rfl l0_15))
      have l1_22 := lookE hA22 1 (e8 rfl (es rfl l1_15))
      have l5_22 := lookE hA22 5 (e8 rfl (es rfl l5_15))
      have l25_22 := lookE hA22 25 (et rfl)
      clear hA22 hsz15 hdf15 l0_15 l1_15 l5_15 l14_15
      refine then_n (hK18 _ _ ?_)
      clear hK18
      refine cond_dec l25_22 (fun c23 => ?_) (fun c23 => ?_)
      · skip
        refine wp_seq_k (fun K24 hK24 => ?_)
        refine region_in ?_
        refine W_v rfl rfl (V_asg rfl rfl) ?_
        refine W_end ?_
        refine gen_Q (fun A25 hA25 => ?_)
        have hsz25 := szq hA25
        have hdf25 : A25.defers = [] := by rw [hA25]; simp only [df_put]; exact hdf22
        have l4_25 := lookE hA25 4 (et rfl)
        clear hA25 hsz22 hdf22 l0_22 l1_22 l5_22 l25_22
        refine then_n (hK24 _ _ ?_)
        clear hK24
        refine wp_ret ?_
        refine inb_ret ?_
        refine then_ret ?_
        refine then_ret ?_
        refine inb_ret ?_
        refine then_ret ?_
        refine ret_in (results_1 Try.results21 (rv_tmp l4_25)) hdf25 ?_
        -- leaf FTT
        rw [decide_eq_false (show ¬ xs = ys from eq_ne hy19 hy20 c23)]
        exact ⟨rfl, hS21.fin0⟩
      · skip
        refine wp_skip ?_
        refine inb_n ?_
        refine then_n (hK17 _ _ ?_)
        clear hK17
        refine region_in ?_
        refine W_v rfl rfl (V_mov rfl l5_22) ?_
        refine W_v rfl rfl (V_add rfl (et rfl) rfl (by omega) (by omega)) ?_
        refine W_v rfl rfl (V_asg rfl (et rfl)) ?_
        refine W_end ?_
        refine gen_Q (fun A26 hA26 => ?_)
        have hsz26 := szq hA26
        have hdf26 : A26.defers = [] := by rw [hA26]; simp only [df_put]; exact hdf22
        have l0_26 := lookE hA26 0 (e2 rfl (es rfl l0_22))
        have l1_26 := lookE hA26 1 (e2 rfl (es rfl l1_22))
        have l5_26 := lookE hA26 5 (et rfl)
        clear hA26 hsz22 hdf22 l0_22 l1_22 l5_22 l25_22
        refine then_n ⟨xs.length - (k + 1), by simp only [hm12]; omega, hsz26, hdf26, (k + 1), rfl, (by omega), (eq_step hz hy19 hy20 (by omega)), ((l5_26).trans (by first | rfl | (simp; done) | (congr 1; omega))), ((l0_26).trans l0_11.symm), ((l1_26).trans l1_11.symm), hS21⟩
    · skip
      refine wp_exit ?_
      refine then_exit ?_
      refine then_exit ?_
      refine inb_hit ?_
      refine then_n (hK9 _ _ ?_)
      clear hK9
      refine wp_seq_k (fun K27 hK27 => ?_)
      refine region_in ?_
      refine W_v rfl rfl (V_asg rfl rfl) ?_
      refine W_end ?_
      refine gen_Q (fun A28 hA28 => ?_)
      have hsz28 := szq hA28
      have hdf28 : A28.defers = [] := by rw [hA28]; simp only [df_put]; exact hdf15
      have l4_28 := lookE hA28 4 (et rfl)
      clear hA28 hsz15 hdf15 l0_15 l1_15 l5_15 l14_15
      refine then_n (hK27 _ _ ?_)
      clear hK27
      refine wp_ret ?_
      refine ret_in (results_1 Try.results21 (rv_tmp l4_28)) hdf28 ?_
      -- leaf FF
      rw [decide_eq_true (show xs = ys from eq_all hl (by omega) hz)]
      exact ⟨rfl, hS12.fin0⟩

set_option maxHeartbeats 4000000 in
theorem far_c {ov : Value} {O : List Ob} {rv : Value} {rs : List Int} {w : World} (h_ov : Ro w NoX (rl 2 obC ov O)) (n_ov : Ro w NoX (nst O)) (h_rv : Ro w NoX (il .i64 rv rs)) (hbulk : ∀ o ∈ (O.map ab), o.1.length ≤ 17592186044416 ∧ o.2.length ≤ 17592186044416) :
    Calls Try.prog 10 #[.agg #[ov, rv]] w fun e w' => e = .returned (.bool (farG (O.map ab) rs)) ∧ St w NoX [] w' := by
  refine calls_in 61 Try.func10 rfl rfl (by simp) (fun A0 hsz0 hdf0 hargs => ?_)
  have l0_0 := hargs 0 (.agg #[ov, rv]) rfl
  clear hargs; replace hsz0 : SzN A0 61 := ⟨hsz0⟩
  have hS := St.nil w
  have bh_ov := SlN.le (sl_SlN h_ov.at)
  have bh_rv := SlN.le (sl_SlN h_rv.at)
  refine wp_seq_k (fun K1 hK1 => ?_)
  refine region_in ?_
  refine W_boxS (zs := #[ov, rv]) hS rfl rfl rfl l0_0 (by rfl) (fun g2 w2 c2 hc2 hS2 => ?_)
  replace hS2 : St w NoX [c2] w2 := hS2
  refine W_v rfl rfl (V_asg rfl rfl) ?_
  refine W_end ?_
  refine gen_Q (fun A3 hA3 => ?_)
  have hsz3 := szq hA3
  have hdf3 : A3.defers = [] := by rw [hA3]; simp only [df_put]; exact hdf0
  have l1_3 := lookE hA3 1 (es rfl (et rfl))
  clear hA3 hsz0 hdf0 l0_0
  refine then_n (hK1 _ _ ?_)
  clear hK1
  refine wp_seq_k (fun K4 hK4 => ?_)
  refine wp_seq_k (fun K5 hK5 => ?_)
  refine region_in ?_
  refine W_v rfl rfl (V_fa (off' := 1) rfl l1_3 Try.underlying25 rfl (by decide +kernel) rfl) ?_
  refine W_r rfl rfl (VR_ldC rfl (et rfl) (cell_box (v := rv) (hS2.obj 0 rfl hc2) rfl) Try.underlying23 rfl) ?_
  refine W_v rfl rfl (V_lenS rfl (et rfl) (sl_SlN h_rv.at) Try.underlying23) ?_
  refine W_v rfl rfl (V_gtr rfl (et rfl) rfl) ?_
  refine W_split rfl rfl (V_mov rfl (et rfl)) (fun c6 => ?_) (fun c6 => ?_)
  · skip
    refine W_off rfl (wanted_f rfl rfl (et rfl) (ez rfl) rfl) ?_
    refine W_off rfl (wanted_f rfl rfl (es rfl (et rfl)) (ez rfl) rfl) ?_
    refine W_off rfl (wanted_f rfl rfl (e2 rfl (et rfl)) (ez rfl) rfl) ?_
    refine W_off rfl (wanted_f rfl rfl (e3 rfl (et rfl)) (ez rfl) rfl) ?_
    refine W_off rfl (wanted_f rfl rfl (e4 rfl (et rfl)) (ez rfl) rfl) ?_
    refine W_off rfl (wanted_u rfl rfl (et rfl) (ez rfl)) ?_
    refine W_off rfl (wanted_u rfl rfl (es rfl (et rfl)) (ez rfl)) ?_
    refine W_off rfl (wanted_u rfl rfl (e2 rfl (et rfl)) (ez rfl)) ?_
    refine W_off rfl (wanted_u rfl rfl (e3 rfl (et rfl)) (ez rfl)) ?_
    refine W_off rfl (wanted_f rfl rfl (e9 rfl (et rfl)) (ez rfl) rfl) ?_
    refine W_v rfl rfl (V_pickT rfl (e10 rfl (et rfl)) rfl) ?_
    refine W_v rfl rfl (V_mov rfl (et rfl)) ?_
    refine W_off rfl (wanted_f rfl rfl (et rfl) (ez rfl) rfl) ?_
    refine W_off rfl (wanted_f rfl rfl (es rfl (et rfl)) (ez rfl) rfl) ?_
    refine W_off rfl (wanted_f rfl rfl (e2 rfl (et rfl)) (ez rfl) rfl) ?_
    refine W_off rfl (wanted_f rfl rfl (e3 rfl (et rfl)) (ez rfl) rfl) ?_
    refine W_v rfl rfl (V_pickT rfl (e4 rfl (et rfl)) rfl) ?_
    refine W_end ?_
    refine gen_Q (fun A7 hA7 => ?_)
    have hsz7 := szq hA7
    have hdf7 : A7.defers = [] := by rw [hA7]; simp only [df_put]; exact hdf3
    have l1_7 := lookE hA7 1 (e21 rfl (es rfl l1_3))
    have l26_7 := lookE hA7 26 (et rfl)
    clear hA7 hsz3 hdf3 l1_3
    refine then_n (hK5 _ _ ?_)
    clear hK5
    refine cond_t l26_7 ?_
    refine wp_seq_k (fun K8 hK8 => ?_)
    refine region_in ?_
    refine W_v rfl rfl (V_asg rfl rfl) ?_
    refine W_end ?_
    refine gen_Q (fun A9 hA9 => ?_)
    have hsz9 := szq hA9
    have hdf9 : A9.defers = [] := by rw [hA9]; simp only [df_put]; exact hdf7
    have l2_9 := lookE hA9 2 (et rfl)
    clear hA9 hsz7 hdf7 l1_7 l26_7
    have hS10 : St w NoX [] w2 := hS2.sel [] (by decide) rfl
    refine then_n (hK8 _ _ ?_)
    clear hK8
    refine wp_ret ?_
    refine then_ret ?_
    refine ret_in (results_1 Try.results10 (rv_tmp l2_9)) hdf9 ?_
    -- leaf T
    rw [show farG (O.map ab) rs = true from far_T1 (by simp only [List.length_map]; omega)]
    exact ⟨rfl, hS10.fin0⟩
  · skip
    refine W_v rfl (wanted_t rfl rfl (et rfl) (ez rfl)) (V_fa (off' := 0) rfl (e4 rfl (es rfl l1_3)) Try.underlying25 rfl (by decide +kernel) rfl) ?_
    refine W_r rfl (wanted_t rfl rfl (es rfl (et rfl)) (ez rfl)) (VR_ldC rfl (et rfl) (cell_box (v := ov) (hS2.obj 0 rfl hc2) rfl) Try.underlying22 rfl) ?_
    refine W_v rfl (wanted_t rfl rfl (e2 rfl (et rfl)) (ez rfl)) (V_lenS rfl (et rfl) (sl_SlN h_ov.at) Try.underlying22) ?_
    refine W_v rfl (wanted_t rfl rfl (e3 rfl (et rfl)) (ez rfl)) (V_gtr rfl (et rfl) rfl) ?_
    refine W_split rfl (wanted_t rfl rfl (e4 rfl (et rfl)) (ez rfl)) (V_mov rfl (et rfl)) (fun c11 => ?_) (fun c11 => ?_)
    · skip
      refine W_v rfl (wanted_t rfl rfl (et rfl) (ez rfl)) (V_fa (off' := 0) rfl (e9 rfl (es rfl l1_3)) Try.underlying25 rfl (by decide +kernel) rfl) ?_
      refine W_r rfl (wanted_t rfl rfl (es rfl (et rfl)) (ez rfl)) (VR_ldC rfl (et rfl) (cell_box (v := ov) (hS2.obj 0 rfl hc2) rfl) Try.underlying22 rfl) ?_
      refine W_v rfl (wanted_t rfl rfl (e2 rfl (et rfl)) (ez rfl)) (V_lenS rfl (et rfl) (sl_SlN h_ov.at) Try.underlying22) ?_
      refine W_v rfl (wanted_t rfl rfl (e3 rfl (et rfl)) (ez rfl)) (V_lss rfl (et rfl) rfl) ?_
      refine W_v rfl (wanted_t rfl rfl (e9 rfl (et rfl)) (ez rfl)) (V_pickT rfl (e4 rfl (et rfl)) (et rfl)) ?_
      refine W_v rfl rfl (V_pickF rfl (e10 rfl (et rfl)) (et rfl)) ?_
      refine W_split rfl rfl (V_mov rfl (et rfl)) (fun c12 => ?_) (fun c12 => ?_)
      · skip
        refine W_off rfl (wanted_f rfl rfl (et rfl) (ez rfl) rfl) ?_
        refine W_off rfl (wanted_f rfl rfl (es rfl (et rfl)) (ez rfl) rfl) ?_
        refine W_off rfl (wanted_f rfl rfl (e2 rfl (et rfl)) (ez rfl) rfl) ?_
        refine W_off rfl (wanted_f rfl rfl (e3 rfl (et rfl)) (ez rfl) rfl) ?_
        refine W_v rfl rfl (V_pickT rfl (e4 rfl (et rfl)) rfl) ?_
        refine W_end ?_
        refine gen_Q (fun A13 hA13 => ?_)
        have hsz13 := szq hA13
        have hdf13 : A13.defers = [] := by rw [hA13]; simp only [df_put]; exact hdf3
        have l1_13 := lookE hA13 1 (e21 rfl (es rfl l1_3))
        have l26_13 := lookE hA13 26 (et rfl)
        clear hA13 hsz3 hdf3 l1_3
        refine then_n (hK5 _ _ ?_)
        clear hK5
        refine cond_t l26_13 ?_
        refine wp_seq_k (fun K14 hK14 => ?_)
        refine region_in ?_
        refine W_v rfl rfl (V_asg rfl rfl) ?_
        refine W_end ?_
        refine gen_Q (fun A15 hA15 => ?_)
        have hsz15 := szq hA15
        have hdf15 : A15.defers = [] := by rw [hA15]; simp only [df_put]; exact hdf13
        have l2_15 := lookE hA15 2 (et rfl)
        clear hA15 hsz13 hdf13 l1_13 l26_13
        have hS16 : St w NoX [] w2 := hS2.sel [] (by decide) rfl
        refine then_n (hK14 _ _ ?_)
        clear hK14
        refine wp_ret ?_
        refine then_ret ?_
        refine ret_in (results_1 Try.results10 (rv_tmp l2_15)) hdf15 ?_
        -- leaf FTT
        rw [show farG (O.map ab) rs = true from far_T1 (by simp only [List.length_map]; omega)]
        exact ⟨rfl, hS16.fin0⟩
      · skip
        refine W_v rfl (wanted_t rfl rfl (et rfl) (ez rfl)) (V_fa (off' := 0) rfl (e16 rfl (es rfl l1_3)) Try.underlying25 rfl (by decide +kernel) rfl) ?_
        refine W_r rfl (wanted_t rfl rfl (es rfl (et rfl)) (ez rfl)) (VR_ldC rfl (et rfl) (cell_box (v := ov) (hS2.obj 0 rfl hc2) rfl) Try.underlying22 rfl) ?_
        refine W_v rfl (wanted_t rfl rfl (e2 rfl (et rfl)) (ez rfl)) (V_lenS rfl (et rfl) (sl_SlN h_ov.at) Try.underlying22) ?_
        refine W_v rfl (wanted_t rfl rfl (e3 rfl (et rfl)) (ez rfl)) (V_gtr rfl (et rfl) rfl) ?_
        refine W_v rfl rfl (V_pickF rfl (e4 rfl (et rfl)) (et rfl)) ?_
        refine W_end ?_
        refine gen_Q (fun A17 hA17 => ?_)
        have hsz17 := szq hA17
        have hdf17 : A17.defers = [] := by rw [hA17]; simp only [df_put]; exact hdf3
        have l1_17 := lookE hA17 1 (e21 rfl (es rfl l1_3))
        have l26_17 := lookE hA17 26 (et rfl)
        clear hA17 hsz3 hdf3 l1_3
        refine then_n (hK5 _ _ ?_)
        clear hK5
        refine cond_dec l26_17 (fun c18 => ?_) (fun c18 => ?_)
        · skip
          refine wp_seq_k (fun K19 hK19 => ?_)
          refine region_in ?_
          refine W_v rfl rfl (V_asg rfl rfl) ?_
          refine W_end ?_
          refine gen_Q (fun A20 hA20 => ?_)
          have hsz20 := szq hA20
          have hdf20 : A20.defers = [] := by rw [hA20]; simp only [df_put]; exact hdf17
          have l2_20 := lookE hA20 2 (et rfl)
          clear hA20 hsz17 hdf17 l1_17 l26_17
          have hS21 : St w NoX [] w2 := hS2.sel [] (by decide) rfl
          refine then_n (hK19 _ _ ?_)
          clear hK19
          refine wp_ret ?_
          refine then_ret ?_
          refine ret_in (results_1 Try.results10 (rv_tmp l2_20)) hdf20 ?_
          -- leaf FTFT
          rw [show farG (O.map ab) rs = true from far_T1 (by simp only [List.length_map]; omega)]
          exact ⟨rfl, hS21.fin0⟩
        · skip
          refine wp_skip ?_
          refine then_n (hK4 _ _ ?_)
          clear hK4
          refine wp_seq_k (fun K22 hK22 => ?_)
          refine wp_seq_k (fun K23 hK23 => ?_)
          refine region_in ?_
          refine W_v rfl rfl (V_asg rfl rfl) ?_
          refine W_end ?_
          refine gen_Q (fun A24 hA24 => ?_)
          have hsz24 := szq hA24
          have hdf24 : A24.defers = [] := by rw [hA24]; simp only [df_put]; exact hdf17
          have l1_24 := lookE hA24 1 (es rfl l1_17)
          have l3_24 := lookE hA24 3 (et rfl)
          clear hA24 hsz17 hdf17 l1_17 l26_17
          refine then_n (hK23 _ _ ?_)
          clear hK23
          refine wp_block ?_
          -- loop 4
          refine loopX (fun mz A' w' => SzN A' 61 ∧ A'.defers = [] ∧ (∃ (k : Nat), (mz = O.length - k) ∧ (k ≤ O.length) ∧ (∀ i, i < k → ∀ x, O[i]? = some x → (fun x => farO (O.map ab).length (ab x)) x = false) ∧ (EV A' (.tmp 3) = .int .i64 (k : Int)) ∧ (EV A' (.tmp 1) = EV A24 (.tmp 1)) ∧ (St w NoX [bx g2 25 #[ov, rv]] w'))) (O.length - 0) ⟨hsz24, hdf24, 0, rfl, (by omega), (fun i hi => by omega), ((l3_24).trans (by first | rfl | (simp; done) | (congr 1; omega))), rfl, (by subst hc2; exact hS2)⟩ ?_
          clear hS2 hc2
          rintro n25 A25 w25 ⟨hsz25, hdf25, k, hm25, hk, hz, l3_25, u1_25, hS25⟩
          have l1_25 := u1_25.trans l1_24
          obtain ⟨c2_25, hc2_25, hS25⟩ := gen1 hS25
          refine wp_seq_k (fun K26 hK26 => ?_)
          refine wp_seq_k (fun K27 hK27 => ?_)
          refine region_in ?_
          refine W_v rfl rfl (V_mov rfl l3_25) ?_
          refine W_v rfl rfl (V_fa (off' := 0) rfl (es rfl l1_25) Try.underlying25 rfl (by decide +kernel) rfl) ?_
          refine W_r rfl rfl (VR_ldC rfl (et rfl) (cell_box (v := ov) (hS25.obj 0 rfl hc2_25) rfl) Try.underlying22 rfl) ?_
          refine W_v rfl rfl (V_lenS rfl (et rfl) (sl_SlN h_ov.at) Try.underlying22) ?_
          refine W_v rfl rfl (V_lss rfl (e3 rfl (et rfl)) (et rfl)) ?_
          refine W_end ?_
          refine gen_Q (fun A28 hA28 => ?_)
          have hsz28 := szq hA28
          have hdf28 : A28.defers = [] := by rw [hA28]; simp only [df_put]; exact hdf25
          have l1_28 := lookE hA28 1 (e4 rfl (es rfl l1_25))
          have l3_28 := lookE hA28 3 (e4 rfl (es rfl l3_25))
          have l31_28 := lookE hA28 31 (et rfl)
          clear hA28 hsz25 hdf25 l3_25 l1_25
          refine then_n (hK27 _ _ ?_)
          clear hK27
          refine cond_dec l31_28 (fun c29 => ?_) (fun c29 => ?_)
          · skip
            refine wp_skip ?_
            refine then_n (hK26 _ _ ?_)
            clear hK26
            refine wp_seq_k (fun K30 hK30 => ?_)
            refine wp_block ?_
            refine wp_seq_k (fun K31 hK31 => ?_)
            refine region_monoS 16 16 [] (by kernel_rfl) (by kernel_rfl) ?_
            refine D_v rfl rfl (V_fa (off' := 0) rfl l1_28 Try.underlying25 rfl (by decide +kernel) rfl) rfl rfl ?_
            refine D_r rfl rfl (by kernel_rfl) (fun sx hx hF => (VR_ldC rfl (et rfl) (cell_box (v := ov) ((hS25.grow hx).obj 0 rfl hc2_25) rfl) Try.underlying22 rfl)) rfl rfl ?_
            refine D_v rfl rfl (V_mov rfl (es rfl (es rfl l3_28))) rfl rfl ?_
            have k32 : k < O.length := by first | omega | (simp only [List.length_cons, List.length_nil]; omega) | (simp only [List.length_set]; omega)
            obtain ⟨y32, hy32⟩ := get_some (xs := O) (k := k) k32
            have hbk32 := hbulk _ (List.mem_of_getElem? (mapE hy32))
            simp only [ab] at hbk32
            obtain ⟨B32, O32, C32, hv32⟩ := (SlN.blk (sl_SlN h_ov.at) (by first | omega | (simp only [List.length_cons, List.length_nil]; omega) | (simp only [List.length_set]; omega)))
            refine D_v rfl rfl (V_ixS (off := O32 + k * 2) 2 (k) rfl (es rfl (et rfl)) (et rfl) hv32 (by omega) k32 Try.underlying22 (by kernel_rfl) rfl) rfl rfl ?_
            refine D_v rfl rfl (V_fa (off' := O32 + k * 2 + 0) rfl (et rfl) Try.underlying40 rfl (by decide +kernel) rfl) rfl rfl ?_
            have fn33 : Ro w NoX (il .i64 y32.1.1 y32.1.2) := nst_ro1 n_ov hy32
            have bfn33 := SlN.le (sl_SlN (hS25.ro fn33))
            have fn34 : Ro w NoX (il .u64 y32.2.1 y32.2.2) := nst_ro2 n_ov hy32
            have bfn34 := SlN.le (sl_SlN (hS25.ro fn34))
            refine D_r rfl rfl (by kernel_rfl) (fun sx hx hF => (VR_ldC (v := y32.1.1) rfl (et rfl) (SlN.row obC_len (sl_SlN ((hS25.grow hx).ro h_ov)) hv32 hy32 rfl 0 _ rfl) Try.underlying23 rfl)) rfl rfl ?_
            refine D_v rfl rfl (V_lenS rfl (et rfl) (sl_SlN fn33.at) Try.underlying23) rfl rfl ?_
            refine D_v rfl rfl (V_fa (off' := 0) rfl (e6 rfl (es rfl l1_28)) Try.underlying25 rfl (by decide +kernel) rfl) rfl rfl ?_
            refine D_r rfl rfl (by kernel_rfl) (fun sx hx hF => (VR_ldC rfl (et rfl) (cell_box (v := ov) ((hS25.grow hx).obj 0 rfl hc2_25) rfl) Try.underlying22 rfl)) rfl rfl ?_
            refine D_v rfl rfl (V_mov rfl (e8 rfl (es rfl l3_28))) rfl rfl ?_
            refine D_v rfl rfl (V_ixS (off := O32 + k * 2) 2 (k) rfl (es rfl (et rfl)) (et rfl) hv32 (by omega) k32 Try.underlying22 (by kernel_rfl) rfl) rfl rfl ?_
            refine D_v rfl rfl (V_fa (off' := O32 + k * 2 + 1) rfl (et rfl) Try.underlying40 rfl (by decide +kernel) rfl) rfl rfl ?_
            refine D_r rfl rfl (by kernel_rfl) (fun sx hx hF => (VR_ldC (v := y32.2.1) rfl (et rfl) (SlN.row obC_len (sl_SlN ((hS25.grow hx).ro h_ov)) hv32 hy32 rfl 1 _ rfl) Try.underlying38 rfl)) rfl rfl ?_
            refine D_v rfl rfl (V_lenS rfl (et rfl) (sl_SlN fn34.at) Try.underlying38) rfl rfl ?_
            refine D_v rfl rfl (V_add rfl (e7 rfl (et rfl)) (et rfl) (by omega) (by omega)) rfl rfl ?_
            refine D_v rfl rfl (V_asg rfl (et rfl)) rfl rfl ?_
            refine ZS_none hS25 (Nat.le_refl _) (Nat.le_refl _) (fun s36 hJ36 hL36 hF36 => ?_)
            have hS36 := hJ36.st; clear hF36 hJ36 hL36
            generalize s36.1 = w36 at *
            replace hS36 : St w NoX [c2_25] w36 := hS36
            refine gen_Q (fun A37 hA37 => ?_)
            have hsz37 := szq hA37
            have hdf37 : A37.defers = [] := by rw [hA37]; simp only [df_put]; exact hdf28
            have l1_37 := lookE hA37 1 (e15 rfl (es rfl l1_28))
            have l3_37 := lookE hA37 3 (e15 rfl (es rfl l3_28))
            have l4_37 := lookE hA37 4 (et rfl)
            clear hA37 hsz28 hdf28 l1_28 l3_28 l31_28
            refine then_n (hK31 _ _ ?_)
            clear hK31
            refine wp_seq_k (fun K38 hK38 => ?_)
            refine region_in ?_
            refine W_v rfl rfl (V_mov rfl l4_37) ?_
            refine W_v rfl rfl (V_gtr rfl (et rfl) rfl) ?_
            refine W_split rfl rfl (V_mov rfl (et rfl)) (fun c39 => ?_) (fun c39 => ?_)
            · skip
              refine W_off rfl (wanted_f rfl rfl (et rfl) (ez rfl) rfl) ?_
              refine W_off rfl (wanted_f rfl rfl (es rfl (et rfl)) (ez rfl) rfl) ?_
              refine W_off rfl (wanted_f rfl rfl (e2 rfl (et rfl)) (ez rfl) rfl) ?_
              refine W_off rfl (wanted_f rfl rfl (e3 rfl (et rfl)) (ez rfl) rfl) ?_
              refine W_off rfl (wanted_f rfl rfl (e4 rfl (et rfl)) (ez rfl) rfl) ?_
              refine W_off rfl (wanted_u rfl rfl (et rfl) (ez rfl)) ?_
              refine W_off rfl (wanted_u rfl rfl (es rfl (et rfl)) (ez rfl)) ?_
              refine W_off rfl (wanted_f rfl rfl (e7 rfl (et rfl)) (ez rfl) rfl) ?_
              refine W_v rfl rfl (V_pickT rfl (e8 rfl (et rfl)) rfl) ?_
              refine W_end ?_
              refine gen_Q (fun A40 hA40 => ?_)
              have hsz40 := szq hA40
              have hdf40 : A40.defers = [] := by rw [hA40]; simp only [df_put]; exact hdf37
              have l1_40 := lookE hA40 1 (e11 rfl (es rfl l1_37))
              have l3_40 := lookE hA40 3 (e11 rfl (es rfl l3_37))
              have l52_40 := lookE hA40 52 (e8 rfl (et rfl))
              have l53_40 := lookE hA40 53 (e7 rfl (et rfl))
              have l54_40 := lookE hA40 54 (e6 rfl (et rfl))
              have l55_40 := lookE hA40 55 (e5 rfl (et rfl))
              have l56_40 := lookE hA40 56 (e4 rfl (et rfl))
              have l57_40 := lookE hA40 57 (e3 rfl (et rfl))
              have l58_40 := lookE hA40 58 (e2 rfl (et rfl))
              have l59_40 := lookE hA40 59 (es rfl (et rfl))
              have l60_40 := lookE hA40 60 (et rfl)
              clear hA40 hsz37 hdf37 l1_37 l3_37 l4_37
              refine then_n (hK38 _ _ ?_)
              clear hK38
              refine cond_t l60_40 ?_
              refine wp_seq_k (fun K41 hK41 => ?_)
              refine region_in ?_
              refine W_v rfl rfl (V_asg rfl rfl) ?_
              refine W_end ?_
              refine gen_Q (fun A42 hA42 => ?_)
              have hsz42 := szq hA42
              have hdf42 : A42.defers = [] := by rw [hA42]; simp only [df_put]; exact hdf40
              have l2_42 := lookE hA42 2 (et rfl)
              clear hA42 hsz40 hdf40 l1_40 l3_40 l52_40 l53_40 l54_40 l55_40 l56_40 l57_40 l58_40 l59_40 l60_40
              have hS43 : St w NoX [] w36 := hS36.sel [] (by decide) rfl
              refine then_n (hK41 _ _ ?_)
              clear hK41
              refine wp_ret ?_
              refine inb_ret ?_
              refine then_ret ?_
              refine then_ret ?_
              refine inb_ret ?_
              refine then_ret ?_
              refine ret_in (results_1 Try.results10 (rv_tmp l2_42)) hdf42 ?_
              -- leaf FTFFTT
              rw [show farG (O.map ab) rs = true from far_T2 hy32 (decide_eq_true (by simp only [ab, List.length_map]; omega))]
              exact ⟨rfl, hS43.fin0⟩
            · skip
              refine W_v rfl (wanted_t rfl rfl (et rfl) (ez rfl)) (V_fa (off' := 0) rfl (e2 rfl (es rfl l1_37)) Try.underlying25 rfl (by decide +kernel) rfl) ?_
              refine W_r rfl (wanted_t rfl rfl (es rfl (et rfl)) (ez rfl)) (VR_ldC rfl (et rfl) (cell_box (v := ov) (hS36.obj 0 rfl hc2_25) rfl) Try.underlying22 rfl) ?_
              refine W_v rfl (wanted_t rfl rfl (e2 rfl (et rfl)) (ez rfl)) (V_lenS rfl (et rfl) (sl_SlN h_ov.at) Try.underlying22) ?_
              refine W_v rfl (wanted_t rfl rfl (e3 rfl (et rfl)) (ez rfl)) (V_gtr rfl (et rfl) rfl) ?_
              refine W_sure (c' := true) rfl (wanted_t rfl rfl (e4 rfl (et rfl)) (ez rfl)) (V_mov rfl (et rfl)) (by first | exact decide_eq_true (by omega) | exact decide_eq_false (by omega)) ?_
              refine W_v rfl (wanted_t rfl rfl (et rfl) (ez rfl)) (V_mov rfl (e7 rfl (es rfl l4_37))) ?_
              refine W_v rfl (wanted_t rfl rfl (es rfl (et rfl)) (ez rfl)) (V_gtr rfl (et rfl) rfl) ?_
              refine W_v rfl (wanted_t rfl rfl (e7 rfl (et rfl)) (ez rfl)) (V_pickT rfl (e2 rfl (et rfl)) (et rfl)) ?_
              refine W_v rfl rfl (V_pickF rfl (e8 rfl (et rfl)) (et rfl)) ?_
              refine W_end ?_
              refine gen_Q (fun A44 hA44 => ?_)
              have hsz44 := szq hA44
              have hdf44 : A44.defers = [] := by rw [hA44]; simp only [df_put]; exact hdf37
              have l1_44 := lookE hA44 1 (e11 rfl (es rfl l1_37))
              have l3_44 := lookE hA44 3 (e11 rfl (es rfl l3_37))
              have l52_44 := lookE hA44 52 (e8 rfl (et rfl))
              have l53_44 := lookE hA44 53 (e7 rfl (et rfl))
              have l54_44 := lookE hA44 54 (e6 rfl (et rfl))
              have l55_44 := lookE hA44 55 (e5 rfl (et rfl))
              have l56_44 := lookE hA44 56 (e4 rfl (et rfl))
              have l57_44 := lookE hA44 57 (e3 rfl (et rfl))
              have l58_44 := lookE hA44 58 (e2 rfl (et rfl))
              have l59_44 := lookE hA44 59 (es rfl (et rfl))
              have l60_44 := lookE hA44 60 (et rfl)
              clear hA44 hsz37 hdf37 l1_37 l3_37 l4_37
              refine then_n (hK38 _ _ ?_)
              clear hK38
              refine cond_dec l60_44 (fun c45 => ?_) (fun c45 => ?_)
              · skip
                refine wp_seq_k (fun K46 hK46 => ?_)
                refine region_in ?_
                refine W_v rfl rfl (V_asg rfl rfl) ?_
                refine W_end ?_
                refine gen_Q (fun A47 hA47 => ?_)
                have hsz47 := szq hA47
                have hdf47 : A47.defers = [] := by rw [hA47]; simp only [df_put]; exact hdf44
                have l2_47 := lookE hA47 2 (et rfl)
                clear hA47 hsz44 hdf44 l1_44 l3_44 l52_44 l53_44 l54_44 l55_44 l56_44 l57_44 l58_44 l59_44 l60_44
                have hS48 : St w NoX [] w36 := hS36.sel [] (by decide) rfl
                refine then_n (hK46 _ _ ?_)
                clear hK46
                refine wp_ret ?_
                refine inb_ret ?_
                refine then_ret ?_
                refine then_ret ?_
                refine inb_ret ?_
                refine then_ret ?_
                refine ret_in (results_1 Try.results10 (rv_tmp l2_47)) hdf47 ?_
                -- leaf FTFFTFT
                rw [show farG (O.map ab) rs = true from far_T2 hy32 (decide_eq_true (by simp only [ab, List.length_map]; omega))]
                exact ⟨rfl, hS48.fin0⟩
              · skip
                refine wp_skip ?_
                refine inb_n ?_
                refine then_n (hK30 _ _ ?_)
                clear hK30
                refine region_in ?_
                refine W_v rfl rfl (V_mov rfl l3_44) ?_
                refine W_v rfl rfl (V_add rfl (et rfl) rfl (by omega) (by omega)) ?_
                refine W_v rfl rfl (V_asg rfl (et rfl)) ?_
                refine W_end ?_
                refine gen_Q (fun A49 hA49 => ?_)
                have hsz49 := szq hA49
                have hdf49 : A49.defers = [] := by rw [hA49]; simp only [df_put]; exact hdf44
                have l1_49 := lookE hA49 1 (e2 rfl (es rfl l1_44))
                have l3_49 := lookE hA49 3 (et rfl)
                have l52_49 := lookE hA49 52 (e2 rfl (es rfl l52_44))
                have l53_49 := lookE hA49 53 (e2 rfl (es rfl l53_44))
                have l54_49 := lookE hA49 54 (e2 rfl (es rfl l54_44))
                have l55_49 := lookE hA49 55 (e2 rfl (es rfl l55_44))
                have l56_49 := lookE hA49 56 (e2 rfl (es rfl l56_44))
                have l57_49 := lookE hA49 57 (e2 rfl (es rfl l57_44))
                have l58_49 := lookE hA49 58 (e2 rfl (es rfl l58_44))
                have l59_49 := lookE hA49 59 (e2 rfl (es rfl l59_44))
                clear hA49 hsz44 hdf44 l1_44 l3_44 l52_44 l53_44 l54_44 l55_44 l56_44 l57_44 l58_44 l59_44 l60_44
                refine then_n ⟨O.length - (k + 1), by simp only [hm25]; omega, hsz49, hdf49, (k + 1), rfl, (by omega), (no_stepG (p := fun x => farO (O.map ab).length (ab x)) hz hy32 (decide_eq_false (by simp only [ab, List.length_map]; omega))), ((l3_49).trans (by first | rfl | (simp; done) | (congr 1; omega))), ((l1_49).trans l1_24.symm), (by subst hc2_25; exact hS36)⟩
          · skip
            refine wp_exit ?_
            refine then_exit ?_
            refine then_exit ?_
            refine inb_hit ?_
            refine then_n (hK22 _ _ ?_)
            clear hK22
            refine wp_seq_k (fun K50 hK50 => ?_)
            refine region_in ?_
            refine W_v rfl rfl (V_asg rfl rfl) ?_
            refine W_end ?_
            refine gen_Q (fun A51 hA51 => ?_)
            have hsz51 := szq hA51
            have hdf51 : A51.defers = [] := by rw [hA51]; simp only [df_put]; exact hdf28
            have l2_51 := lookE hA51 2 (et rfl)
            clear hA51 hsz28 hdf28 l1_28 l3_28 l31_28
            have hS52 : St w NoX [] w25 := hS25.sel [] (by decide) rfl
            refine then_n (hK50 _ _ ?_)
            clear hK50
            refine wp_ret ?_
            refine ret_in (results_1 Try.results10 (rv_tmp l2_51)) hdf51 ?_
            -- leaf FTFFF
            rw [show farG (O.map ab) rs = false from far_F (by simp only [List.length_map]; omega) hz (by omega)]
            exact ⟨rfl, hS52.fin0⟩
    · skip
      refine W_off rfl (wanted_f rfl rfl (et rfl) (ez rfl) rfl) ?_
      refine W_off rfl (wanted_f rfl rfl (es rfl (et rfl)) (ez rfl) rfl) ?_
      refine W_off rfl (wanted_f rfl rfl (e2 rfl (et rfl)) (ez rfl) rfl) ?_
      refine W_off rfl (wanted_f rfl rfl (e3 rfl (et rfl)) (ez rfl) rfl) ?_
      refine W_v rfl (wanted_t rfl rfl (e9 rfl (et rfl)) (ez rfl)) (V_pickF rfl (e4 rfl (et rfl)) rfl) ?_
      refine W_v rfl rfl (V_pickF rfl (e10 rfl (et rfl)) (et rfl)) ?_
      refine W_v rfl rfl (V_mov rfl (et rfl)) ?_
      refine W_v rfl (wanted_t rfl rfl (et rfl) (ez rfl)) (V_fa (off' := 0) rfl (e16 rfl (es rfl l1_3)) Try.underlying25 rfl (by decide +kernel) rfl) ?_
      refine W_r rfl (wanted_t rfl rfl (es rfl (et rfl)) (ez rfl)) (VR_ldC rfl (et rfl) (cell_box (v := ov) (hS2.obj 0 rfl hc2) rfl) Try.underlying22 rfl) ?_
      refine W_v rfl (wanted_t rfl rfl (e2 rfl (et rfl)) (ez rfl)) (V_lenS rfl (et rfl) (sl_SlN h_ov.at) Try.underlying22) ?_
      refine W_v rfl (wanted_t rfl rfl (e3 rfl (et rfl)) (ez rfl)) (V_gtr rfl (et rfl) rfl) ?_
      refine W_v rfl rfl (V_pickF rfl (e4 rfl (et rfl)) (et rfl)) ?_
      refine W_end ?_
      refine gen_Q (fun A53 hA53 => ?_)
      have hsz53 := szq hA53
      have hdf53 : A53.defers = [] := by rw [hA53]; simp only [df_put]; exact hdf3
      have l1_53 := lookE hA53 1 (e21 rfl (es rfl l1_3))
      have l26_53 := lookE hA53 26 (et rfl)
      clear hA53 hsz3 hdf3 l1_3
      refine then_n (hK5 _ _ ?_)
      clear hK5
      refine cond_dec l26_53 (fun c54 => ?_) (fun c54 => ?_)
      · skip
        refine wp_seq_k (fun K55 hK55 => ?_)
        refine region_in ?_
        refine W_v rfl rfl (V_asg rfl rfl) ?_
        refine W_end ?_
        refine gen_Q (fun A56 hA56 => ?_)
        have hsz56 := szq hA56
        have hdf56 : A56.defers = [] := by rw [hA56]; simp only [df_put]; exact hdf53
        have l2_56 := lookE hA56 2 (et rfl)
        clear hA56 hsz53 hdf53 l1_53 l26_53
        have hS57 : St w NoX [] w2 := hS2.sel [] (by decide) rfl
        refine then_n (hK55 _ _ ?_)
        clear hK55
        refine wp_ret ?_
        refine then_ret ?_
        refine ret_in (results_1 Try.results10 (rv_tmp l2_56)) hdf56 ?_
        -- leaf FFT
        rw [show farG (O.map ab) rs = true from far_T1 (by simp only [List.length_map]; omega)]
        exact ⟨rfl, hS57.fin0⟩
      · skip
        refine wp_skip ?_
        refine then_n (hK4 _ _ ?_)
        clear hK4
        refine wp_seq_k (fun K58 hK58 => ?_)
        refine wp_seq_k (fun K59 hK59 => ?_)
        refine region_in ?_
        refine W_v rfl rfl (V_asg rfl rfl) ?_
        refine W_end ?_
        refine gen_Q (fun A60 hA60 => ?_)
        have hsz60 := szq hA60
        have hdf60 : A60.defers = [] := by rw [hA60]; simp only [df_put]; exact hdf53
        have l1_60 := lookE hA60 1 (es rfl l1_53)
        have l3_60 := lookE hA60 3 (et rfl)
        clear hA60 hsz53 hdf53 l1_53 l26_53
        refine then_n (hK59 _ _ ?_)
        clear hK59
        refine wp_block ?_
        -- loop 4
        refine loopX (fun mz A' w' => SzN A' 61 ∧ A'.defers = [] ∧ (∃ (k : Nat), (mz = O.length - k) ∧ (k ≤ O.length) ∧ (∀ i, i < k → ∀ x, O[i]? = some x → (fun x => farO (O.map ab).length (ab x)) x = false) ∧ (EV A' (.tmp 3) = .int .i64 (k : Int)) ∧ (EV A' (.tmp 1) = EV A60 (.tmp 1)) ∧ (St w NoX [bx g2 25 #[ov, rv]] w'))) (O.length - 0) ⟨hsz60, hdf60, 0, rfl, (by omega), (fun i hi => by omega), ((l3_60).trans (by first | rfl | (simp; done) | (congr 1; omega))), rfl, (by subst hc2; exact hS2)⟩ ?_
        clear hS2 hc2
        rintro n61 A61 w61 ⟨hsz61, hdf61, k, hm61, hk, hz, l3_61, u1_61, hS61⟩
        have l1_61 := u1_61.trans l1_60
        obtain ⟨c2_61, hc2_61, hS61⟩ := gen1 hS61
        refine wp_seq_k (fun K62 hK62 => ?_)
        refine wp_seq_k (fun K63 hK63 => ?_)
        refine region_in ?_
        refine W_v rfl rfl (V_mov rfl l3_61) ?_
        refine W_v rfl rfl (V_fa (off' := 0) rfl (es rfl l1_61) Try.underlying25 rfl (by decide +kernel) rfl) ?_
        refine W_r rfl rfl (VR_ldC rfl (et rfl) (cell_box (v := ov) (hS61.obj 0 rfl hc2_61) rfl) Try.underlying22 rfl) ?_
        refine W_v rfl rfl (V_lenS rfl (et rfl) (sl_SlN h_ov.at) Try.underlying22) ?_
        refine W_v rfl rfl (V_lss rfl (e3 rfl (et rfl)) (et rfl)) ?_
        refine W_end ?_
        refine gen_Q (fun A64 hA64 => ?_)
        have hsz64 := szq hA64
        have hdf64 : A64.defers = [] := by rw [hA64]; simp only [df_put]; exact hdf61
        have l1_64 := lookE hA64 1 (e4 rfl (es rfl l1_61))
        have l3_64 := lookE hA64 3 (e4 rfl (es rfl l3_61))
        have l31_64 := lookE hA64 31 (et rfl)
        clear hA64 hsz61 hdf61 l3_61 l1_61
        refine then_n (hK63 _ _ ?_)
        clear hK63
        refine cond_dec l31_64 (fun c65 => ?_) (fun c65 => ?_)
        · skip
          refine wp_skip ?_
          refine then_n (hK62 _ _ ?_)
          clear hK62
          refine wp_seq_k (fun K66 hK66 => ?_)
          refine wp_block ?_
          refine wp_seq_k (fun K67 hK67 => ?_)
          refine region_monoS 16 16 [] (by kernel_rfl) (by kernel_rfl) ?_
          refine D_v rfl rfl (V_fa (off' := 0) rfl l1_64 Try.underlying25 rfl (by decide +kernel) rfl) rfl rfl ?_
          refine D_r rfl rfl (by kernel_rfl) (fun sx hx hF => (VR_ldC rfl (et rfl) (cell_box (v := ov) ((hS61.grow hx).obj 0 rfl hc2_61) rfl) Try.underlying22 rfl)) rfl rfl ?_
          refine D_v rfl rfl (V_mov rfl (es rfl (es rfl l3_64))) rfl rfl ?_
          have k68 : k < O.length := by first | omega | (simp only [List.length_cons, List.length_nil]; omega) | (simp only [List.length_set]; omega)
          obtain ⟨y68, hy68⟩ := get_some (xs := O) (k := k) k68
          have hbk68 := hbulk _ (List.mem_of_getElem? (mapE hy68))
          simp only [ab] at hbk68
          obtain ⟨B68, O68, C68, hv68⟩ := (SlN.blk (sl_SlN h_ov.at) (by first | omega | (simp only [List.length_cons, List.length_nil]; omega) | (simp only [List.length_set]; omega)))
          refine D_v rfl rfl (V_ixS (off := O68 + k * 2) 2 (k) rfl (es rfl (et rfl)) (et rfl) hv68 (by omega) k68 Try.underlying22 (by kernel_rfl) rfl) rfl rfl ?_
          refine D_v rfl rfl (V_fa (off' := O68 + k * 2 + 0) rfl (et rfl) Try.underlying40 rfl (by decide +kernel) rfl) rfl rfl ?_
          have fn69 : Ro w NoX (il .i64 y68.1.1 y68.1.2) := nst_ro1 n_ov hy68
          have bfn69 := SlN.le (sl_SlN (hS61.ro fn69))
          have fn70 : Ro w NoX (il .u64 y68.2.1 y68.2.2) := nst_ro2 n_ov hy68
          have bfn70 := SlN.le (sl_SlN (hS61.ro fn70))
          refine D_r rfl rfl (by kernel_rfl) (fun sx hx hF => (VR_ldC (v := y68.1.1) rfl (et rfl) (SlN.row obC_len (sl_SlN ((hS61.grow hx).ro h_ov)) hv68 hy68 rfl 0 _ rfl) Try.underlying23 rfl)) rfl rfl ?_
          refine D_v rfl rfl (V_lenS rfl (et rfl) (sl_SlN fn69.at) Try.underlying23) rfl rfl ?_
          refine D_v rfl rfl (V_fa (off' := 0) rfl (e6 rfl (es rfl l1_64)) Try.underlying25 rfl (by decide +kernel) rfl) rfl rfl ?_
          refine D_r rfl rfl (by kernel_rfl) (fun sx hx hF => (VR_ldC rfl (et rfl) (cell_box (v := ov) ((hS61.grow hx).obj 0 rfl hc2_61) rfl) Try.underlying22 rfl)) rfl rfl ?_
          refine D_v rfl rfl (V_mov rfl (e8 rfl (es rfl l3_64))) rfl rfl ?_
          refine D_v rfl rfl (V_ixS (off := O68 + k * 2) 2 (k) rfl (es rfl (et rfl)) (et rfl) hv68 (by omega) k68 Try.underlying22 (by kernel_rfl) rfl) rfl rfl ?_
          refine D_v rfl rfl (V_fa (off' := O68 + k * 2 + 1) rfl (et rfl) Try.underlying40 rfl (by decide +kernel) rfl) rfl rfl ?_
          refine D_r rfl rfl (by kernel_rfl) (fun sx hx hF => (VR_ldC (v := y68.2.1) rfl (et rfl) (SlN.row obC_len (sl_SlN ((hS61.grow hx).ro h_ov)) hv68 hy68 rfl 1 _ rfl) Try.underlying38 rfl)) rfl rfl ?_
          refine D_v rfl rfl (V_lenS rfl (et rfl) (sl_SlN fn70.at) Try.underlying38) rfl rfl ?_
          refine D_v rfl rfl (V_add rfl (e7 rfl (et rfl)) (et rfl) (by omega) (by omega)) rfl rfl ?_
          refine D_v rfl rfl (V_asg rfl (et rfl)) rfl rfl ?_
          refine ZS_none hS61 (Nat.le_refl _) (Nat.le_refl _) (fun s72 hJ72 hL72 hF72 => ?_)
          have hS72 := hJ72.st; clear hF72 hJ72 hL72
          generalize s72.1 = w72 at *
          replace hS72 : St w NoX [c2_61] w72 := hS72
          refine gen_Q (fun A73 hA73 => ?_)
          have hsz73 := szq hA73
          have hdf73 : A73.defers = [] := by rw [hA73]; simp only [df_put]; exact hdf64
          have l1_73 := lookE hA73 1 (e15 rfl (es rfl l1_64))
          have l3_73 := lookE hA73 3 (e15 rfl (es rfl l3_64))
          have l4_73 := lookE hA73 4 (et rfl)
          clear hA73 hsz64 hdf64 l1_64 l3_64 l31_64
          refine then_n (hK67 _ _ ?_)
          clear hK67
          refine wp_seq_k (fun K74 hK74 => ?_)
          refine region_in ?_
          refine W_v rfl rfl (V_mov rfl l4_73) ?_
          refine W_v rfl rfl (V_gtr rfl (et rfl) rfl) ?_
          refine W_split rfl rfl (V_mov rfl (et rfl)) (fun c75 => ?_) (fun c75 => ?_)
          · skip
            refine W_off rfl (wanted_f rfl rfl (et rfl) (ez rfl) rfl) ?_
            refine W_off rfl (wanted_f rfl rfl (es rfl (et rfl)) (ez rfl) rfl) ?_
            refine W_off rfl (wanted_f rfl rfl (e2 rfl (et rfl)) (ez rfl) rfl) ?_
            refine W_off rfl (wanted_f rfl rfl (e3 rfl (et rfl)) (ez rfl) rfl) ?_
            refine W_off rfl (wanted_f rfl rfl (e4 rfl (et rfl)) (ez rfl) rfl) ?_
            refine W_off rfl (wanted_u rfl rfl (et rfl) (ez rfl)) ?_
            refine W_off rfl (wanted_u rfl rfl (es rfl (et rfl)) (ez rfl)) ?_
            refine W_off rfl (wanted_f rfl rfl (e7 rfl (et rfl)) (ez rfl) rfl) ?_
            refine W_v rfl rfl (V_pickT rfl (e8 rfl (et rfl)) rfl) ?_
            refine W_end ?_
            refine gen_Q (fun A76 hA76 => ?_)
            have hsz76 := szq hA76
            have hdf76 : A76.defers = [] := by rw [hA76]; simp only [df_put]; exact hdf73
            have l1_76 := lookE hA76 1 (e11 rfl (es rfl l1_73))
            have l3_76 := lookE hA76 3 (e11 rfl (es rfl l3_73))
            have l52_76 := lookE hA76 52 (e8 rfl (et rfl))
            have l53_76 := lookE hA76 53 (e7 rfl (et rfl))
            have l54_76 := lookE hA76 54 (e6 rfl (et rfl))
            have l55_76 := lookE hA76 55 (e5 rfl (et rfl))
            have l56_76 := lookE hA76 56 (e4 rfl (et rfl))
            have l57_76 := lookE hA76 57 (e3 rfl (et rfl))
            have l58_76 := lookE hA76 58 (e2 rfl (et rfl))
            have l59_76 := lookE hA76 59 (es rfl (et rfl))
            have l60_76 := lookE hA76 60 (et rfl)
            clear hA76 hsz73 hdf73 l1_73 l3_73 l4_73
            refine then_n (hK74 _ _ ?_)
            clear hK74
            refine cond_t l60_76 ?_
            refine wp_seq_k (fun K77 hK77 => ?_)
            refine region_in ?_
            refine W_v rfl rfl (V_asg rfl rfl) ?_
            refine W_end ?_
            refine gen_Q (fun A78 hA78 => ?_)
            have hsz78 := szq hA78
            have hdf78 : A78.defers = [] := by rw [hA78]; simp only [df_put]; exact hdf76
            have l2_78 := lookE hA78 2 (et rfl)
            clear hA78 hsz76 hdf76 l1_76 l3_76 l52_76 l53_76 l54_76 l55_76 l56_76 l57_76 l58_76 l59_76 l60_76
            have hS79 : St w NoX [] w72 := hS72.sel [] (by decide) rfl
            refine then_n (hK77 _ _ ?_)
            clear hK77
            refine wp_ret ?_
            refine inb_ret ?_
            refine then_ret ?_
            refine then_ret ?_
            refine inb_ret ?_
            refine then_ret ?_
            refine ret_in (results_1 Try.results10 (rv_tmp l2_78)) hdf78 ?_
            -- leaf FFFTT
            rw [show farG (O.map ab) rs = true from far_T2 hy68 (decide_eq_true (by simp only [ab, List.length_map]; omega))]
            exact ⟨rfl, hS79.fin0⟩
          · skip
            refine W_v rfl (wanted_t rfl rfl (et rfl) (ez rfl)) (V_fa (off' := 0) rfl (e2 rfl (es rfl l1_73)) Try.underlying25 rfl (by decide +kernel) rfl) ?_
            refine W_r rfl (wanted_t rfl rfl (es rfl (et rfl)) (ez rfl)) (VR_ldC rfl (et rfl) (cell_box (v := ov) (hS72.obj 0 rfl hc2_61) rfl) Try.underlying22 rfl) ?_
            refine W_v rfl (wanted_t rfl rfl (e2 rfl (et rfl)) (ez rfl)) (V_lenS rfl (et rfl) (sl_SlN h_ov.at) Try.underlying22) ?_
            refine W_v rfl (wanted_t rfl rfl (e3 rfl (et rfl)) (ez rfl)) (V_gtr rfl (et rfl) rfl) ?_
            refine W_sure (c' := false) rfl (wanted_t rfl rfl (e4 rfl (et rfl)) (ez rfl)) (V_mov rfl (et rfl)) (by first | exact decide_eq_true (by omega) | exact decide_eq_false (by omega)) ?_
            refine W_off rfl (wanted_f rfl rfl (et rfl) (ez rfl) rfl) ?_
            refine W_off rfl (wanted_f rfl rfl (es rfl (et rfl)) (ez rfl) rfl) ?_
            refine W_v rfl (wanted_t rfl rfl (e7 rfl (et rfl)) (ez rfl)) (V_pickF rfl (e2 rfl (et rfl)) rfl) ?_
            refine W_v rfl rfl (V_pickF rfl (e8 rfl (et rfl)) (et rfl)) ?_
            refine W_end ?_
            refine gen_Q (fun A80 hA80 => ?_)
            have hsz80 := szq hA80
            have hdf80 : A80.defers = [] := by rw [hA80]; simp only [df_put]; exact hdf73
            have l1_80 := lookE hA80 1 (e11 rfl (es rfl l1_73))
            have l3_80 := lookE hA80 3 (e11 rfl (es rfl l3_73))
            have l52_80 := lookE hA80 52 (e8 rfl (et rfl))
            have l53_80 := lookE hA80 53 (e7 rfl (et rfl))
            have l54_80 := lookE hA80 54 (e6 rfl (et rfl))
            have l55_80 := lookE hA80 55 (e5 rfl (et rfl))
            have l56_80 := lookE hA80 56 (e4 rfl (et rfl))
            have l57_80 := lookE hA80 57 (e3 rfl (et rfl))
            have l58_80 := lookE hA80 58 (e2 rfl (et rfl))
            have l59_80 := lookE hA80 59 (es rfl (et rfl))
            have l60_80 := lookE hA80 60 (et rfl)
            clear hA80 hsz73 hdf73 l1_73 l3_73 l4_73
            refine then_n (hK74 _ _ ?_)
            clear hK74
            refine cond_f l60_80 ?_
            refine wp_skip ?_
            refine inb_n ?_
            refine then_n (hK66 _ _ ?_)
            clear hK66
            refine region_in ?_
            refine W_v rfl rfl (V_mov rfl l3_80) ?_
            refine W_v rfl rfl (V_add rfl (et rfl) rfl (by omega) (by omega)) ?_
            refine W_v rfl rfl (V_asg rfl (et rfl)) ?_
            refine W_end ?_
            refine gen_Q (fun A81 hA81 => ?_)
            have hsz81 := szq hA81
            have hdf81 : A81.defers = [] := by rw [hA81]; simp only [df_put]; exact hdf80
            have l1_81 := lookE hA81 1 (e2 rfl (es rfl l1_80))
            have l3_81 := lookE hA81 3 (et rfl)
            have l52_81 := lookE hA81 52 (e2 rfl (es rfl l52_80))
            have l53_81 := lookE hA81 53 (e2 rfl (es rfl l53_80))
            have l54_81 := lookE hA81 54 (e2 rfl (es rfl l54_80))
            have l55_81 := lookE hA81 55 (e2 rfl (es rfl l55_80))
            have l56_81 := lookE hA81 56 (e2 rfl (es rfl l56_80))
            have l57_81 := lookE hA81 57 (e2 rfl (es rfl l57_80))
            have l58_81 := lookE hA81 58 (e2 rfl (es rfl l58_80))
            have l59_81 := lookE hA81 59 (e2 rfl (es rfl l59_80))
            clear hA81 hsz80 hdf80 l1_80 l3_80 l52_80 l53_80 l54_80 l55_80 l56_80 l57_80 l58_80 l59_80 l60_80
            refine then_n ⟨O.length - (k + 1), by simp only [hm61]; omega, hsz81, hdf81, (k + 1), rfl, (by omega), (no_stepG (p := fun x => farO (O.map ab).length (ab x)) hz hy68 (decide_eq_false (by simp only [ab, List.length_map]; omega))), ((l3_81).trans (by first | rfl | (simp; done) | (congr 1; omega))), ((l1_81).trans l1_60.symm), (by subst hc2_61; exact hS72)⟩
        · skip
          refine wp_exit ?_
          refine then_exit ?_
          refine then_exit ?_
          refine inb_hit ?_
          refine then_n (hK58 _ _ ?_)
          clear hK58
          refine wp_seq_k (fun K82 hK82 => ?_)
          refine region_in ?_
          refine W_v rfl rfl (V_asg rfl rfl) ?_
          refine W_end ?_
          refine gen_Q (fun A83 hA83 => ?_)
          have hsz83 := szq hA83
          have hdf83 : A83.defers = [] := by rw [hA83]; simp only [df_put]; exact hdf64
          have l2_83 := lookE hA83 2 (et rfl)
          clear hA83 hsz64 hdf64 l1_64 l3_64 l31_64
          have hS84 : St w NoX [] w61 := hS61.sel [] (by decide) rfl
          refine then_n (hK82 _ _ ?_)
          clear hK82
          refine wp_ret ?_
          refine ret_in (results_1 Try.results10 (rv_tmp l2_83)) hdf83 ?_
          -- leaf FFFF
          rw [show farG (O.map ab) rs = false from far_F (by simp only [List.length_map]; omega) hz (by omega)]
          exact ⟨rfl, hS84.fin0⟩

set_option maxHeartbeats 4000000 in
theorem same_c {ov : Value} {O : List Ob} {rv : Value} {rs : List Int} {e1 : Int} {ov2 : Value} {O2 : List Ob} {rv2 : Value} {rs2 : List Int} {f1 : Int} {w : World} (h_ov : Ro w NoX (rl 2 obC ov O)) (n_ov : Ro w NoX (nst O)) (h_rv : Ro w NoX (il .i64 rv rs)) (h_ov2 : Ro w NoX (rl 2 obC ov2 O2)) (n_ov2 : Ro w NoX (nst O2)) (h_rv2 : Ro w NoX (il .i64 rv2 rs2))  :
    Calls Try.prog 37 #[.agg #[ov, rv], .int .i64 e1, .agg #[ov2, rv2], .int .i64 f1] w fun e w' => e = .returned (.bool (saG e1 f1 (O.map ab) rs (O2.map ab) rs2)) ∧ St w NoX [] w' := by
  refine calls_in 17 Try.func37 rfl rfl (by simp) (fun A0 hsz0 hdf0 hargs => ?_)
  have l0_0 := hargs 0 (.agg #[ov, rv]) rfl
  have l1_0 := hargs 1 (.int .i64 e1) rfl
  have l2_0 := hargs 2 (.agg #[ov2, rv2]) rfl
  have l3_0 := hargs 3 (.int .i64 f1) rfl
  clear hargs; replace hsz0 : SzN A0 17 := ⟨hsz0⟩
  have hS := St.nil w
  have bh_ov := SlN.le (sl_SlN h_ov.at)
  have bh_rv := SlN.le (sl_SlN h_rv.at)
  have bh_ov2 := SlN.le (sl_SlN h_ov2.at)
  have bh_rv2 := SlN.le (sl_SlN h_rv2.at)
  refine wp_seq_k (fun K1 hK1 => ?_)
  refine region_in ?_
  refine W_boxS (zs := #[ov, rv]) hS rfl rfl rfl l0_0 (by rfl) (fun g2 w2 c2 hc2 hS2 => ?_)
  replace hS2 : St w NoX [c2] w2 := hS2
  refine W_boxS (zs := #[ov2, rv2]) hS2 rfl rfl rfl (es rfl l2_0) (by rfl) (fun g3 w3 c3 hc3 hS3 => ?_)
  replace hS3 : St w NoX [c3, c2] w3 := hS3
  refine W_v rfl rfl (V_asg rfl rfl) ?_
  refine W_end ?_
  refine gen_Q (fun A4 hA4 => ?_)
  have hsz4 := szq hA4
  have hdf4 : A4.defers = [] := by rw [hA4]; simp only [df_put]; exact hdf0
  have l1_4 := lookE hA4 1 (e2 rfl (es rfl l1_0))
  have l3_4 := lookE hA4 3 (e2 rfl (es rfl l3_0))
  have l4_4 := lookE hA4 4 (e2 rfl (et rfl))
  have l6_4 := lookE hA4 6 (es rfl (et rfl))
  clear hA4 hsz0 hdf0 l0_0 l1_0 l2_0 l3_0
  refine then_n (hK1 _ _ ?_)
  clear hK1
  refine wp_seq_k (fun K5 hK5 => ?_)
  refine region_in ?_
  refine W_v rfl rfl (V_mov rfl l1_4) ?_
  refine W_v rfl rfl (V_mov rfl (es rfl l3_4)) ?_
  refine W_v rfl rfl (V_eql rfl (es rfl (et rfl)) (et rfl)) ?_
  refine W_split rfl rfl (V_mov rfl (et rfl)) (fun c6 => ?_) (fun c6 => ?_)
  · skip
    refine W_r rfl (wanted_t rfl rfl (et rfl) (ez rfl)) (VR_ldA rfl (e3 rfl (es rfl l4_4)) (hS3.obj 1 rfl hc2) Try.underlying25 rfl (by kernel_rfl)) ?_
    refine W_r rfl (wanted_t rfl rfl (es rfl (et rfl)) (ez rfl)) (VR_ldA rfl (e4 rfl (es rfl l6_4)) (hS3.obj 0 rfl hc3) Try.underlying25 rfl (by kernel_rfl)) ?_
    refine W_call rfl (wanted_t rfl rfl (e2 rfl (et rfl)) (ez rfl)) rfl Try.func16 (by kernel_rfl) rfl (args2 (es rfl (et rfl)) (et rfl)) (qsm_c (hS3.roC h_ov) (hS3.roC n_ov) (hS3.roC h_rv) (hS3.roC h_ov2) (hS3.roC n_ov2) (hS3.roC h_rv2) ) ?_
    rintro _ w7 ⟨rfl, hP7⟩
    refine ⟨_, rfl, ?_⟩
    have hS7 := hS3.join hP7
    replace hS7 : St w NoX [c3, c2] w7 := hS7
    refine W_v rfl rfl (V_pickT rfl (e3 rfl (et rfl)) (et rfl)) ?_
    refine W_v rfl rfl (V_asg rfl (et rfl)) ?_
    refine W_end ?_
    refine gen_Q (fun A8 hA8 => ?_)
    have hsz8 := szq hA8
    have hdf8 : A8.defers = [] := by rw [hA8]; simp only [df_put]; exact hdf4
    have l8_8 := lookE hA8 8 (et rfl)
    clear hA8 hsz4 hdf4 l1_4 l3_4 l4_4 l6_4
    have hS9 : St w NoX [] w7 := hS7.sel [] (by decide) rfl
    refine then_n (hK5 _ _ ?_)
    clear hK5
    refine wp_ret ?_
    refine ret_in (results_1 Try.results37 (rv_tmp l8_8)) hdf8 ?_
    -- leaf T
    rw [sa_T c6]
    exact ⟨rfl, hS9.fin0⟩
  · skip
    refine W_off rfl (wanted_f rfl rfl (et rfl) (ez rfl) rfl) ?_
    refine W_off rfl (wanted_f rfl rfl (es rfl (et rfl)) (ez rfl) rfl) ?_
    refine W_off rfl (wanted_f rfl rfl (e2 rfl (et rfl)) (ez rfl) rfl) ?_
    refine W_v rfl rfl (V_pickF rfl (e3 rfl (et rfl)) rfl) ?_
    refine W_v rfl rfl (V_asg rfl (et rfl)) ?_
    refine W_end ?_
    refine gen_Q (fun A10 hA10 => ?_)
    have hsz10 := szq hA10
    have hdf10 : A10.defers = [] := by rw [hA10]; simp only [df_put]; exact hdf4
    have l8_10 := lookE hA10 8 (et rfl)
    clear hA10 hsz4 hdf4 l1_4 l3_4 l4_4 l6_4
    have hS11 : St w NoX [] w3 := hS3.sel [] (by decide) rfl
    refine then_n (hK5 _ _ ?_)
    clear hK5
    refine wp_ret ?_
    refine ret_in (results_1 Try.results37 (rv_tmp l8_10)) hdf10 ?_
    -- leaf F
    rw [sa_F c6]
    exact ⟨rfl, hS11.fin0⟩

set_option maxHeartbeats 4000000 in
theorem ex_c  {w : World}   :
    Calls Try.prog 23 #[] w fun e w' => ∃ hv H qv, e = .returned (.agg #[hv, qv]) ∧ (H.map ab = [([0, 2], [0]), ([], [])]) ∧ St w NoX [ro 2 obC hv H, owl .i64 (H.map (·.1)), owl .u64 (H.map (·.2)), io .i64 (qv) [1, 2]] w' := by
  refine calls_in 8 Try.func23 rfl rfl (by simp) (fun A0 hsz0 hdf0 hargs => ?_)
  clear hargs; replace hsz0 : SzN A0 8 := ⟨hsz0⟩
  have hS := St.nil w
  refine wp_seq_k (fun K1 hK1 => ?_)
  refine region_in ?_
  refine W_allocS (z := .agg #[.slice none 0 0, .slice none 0 0]) (zs := #[.slice none 0 0, .slice none 0 0]) hS rfl rfl rfl (by kernel_rfl) (by rfl) (fun g2 w2 c2 hc2 hS2 => ?_)
  replace hS2 : St w NoX [c2] w2 := hS2
  refine W_end ?_
  refine gen_Q (fun A3 hA3 => ?_)
  have hsz3 := szq hA3
  have hdf3 : A3.defers = [] := by rw [hA3]; simp only [df_put]; exact hdf0
  have l0_3 := lookE hA3 0 (et rfl)
  clear hA3 hsz0 hdf0
  refine then_n (hK1 _ _ ?_)
  clear hK1
  refine wp_seq_k (fun K4 hK4 => ?_)
  refine region_in ?_
  have hll5 : [0, 2].length = 2 := rfl
  refine W_litS (vs := [.int .i64 0, .int .i64 2]) (xs := ([0, 2].map (Value.int .i64))) 1 hS2 rfl rfl rfl (parts2 rfl rfl) rfl Try.underlying23 (by kernel_rfl) (by decide) (by intro v hv; simp only [List.mem_cons, List.not_mem_nil, or_false] at hv; rcases hv with rfl | rfl <;> rfl) (by rfl) (fun g5 w5 c5 hc5 hS5 => ?_)
  replace hc5 : c5 = io .i64 (.slice (some ⟨g5, 0, none⟩) 2 2) [0, 2] := hc5
  replace hS5 : St w NoX [c5, c2] w5 := hS5
  have hll6 : [0].length = 1 := rfl
  refine W_litS (vs := [.int .u64 0]) (xs := ([0].map (Value.int .u64))) 1 hS5 rfl rfl rfl (parts1 rfl) rfl Try.underlying38 (by kernel_rfl) (by decide) (by intro v hv; simp only [List.mem_cons, List.not_mem_nil, or_false] at hv; rcases hv with rfl <;> rfl) (by rfl) (fun g6 w6 c6 hc6 hS6 => ?_)
  replace hc6 : c6 = io .u64 (.slice (some ⟨g6, 0, none⟩) 1 1) [0] := hc6
  replace hS6 : St w NoX [c6, c5, c2] w6 := hS6
  refine W_v rfl rfl (V_bldS (n := 2) (z := .agg #[.slice none 0 0, .slice none 0 0]) rfl (parts2 (es rfl (et rfl)) (et rfl)) (by kernel_rfl) (by simp only [List.all_cons, List.all_nil, SlN_one (ow_at (hS6.chq 1 rfl hc5)), SlN_one (ow_at (hS6.chq 0 rfl hc6)), Bool.and_true] <;> rfl) (by kernel_rfl) (by simp only [List.foldl_cons, List.foldl_nil, Value.cells, List.setIfInBounds_toArray, List.set_cons_succ, List.set_cons_zero] <;> rfl)) ?_
  refine W_v rfl rfl (V_bldS (n := 2) (z := .agg #[.slice none 0 0, .slice none 0 0]) rfl (parts0) (by kernel_rfl) (by simp only [List.all_cons, List.all_nil, Bool.and_true] <;> rfl) (by kernel_rfl) (by simp only [List.foldl_cons, List.foldl_nil, Value.cells, List.setIfInBounds_toArray, List.set_cons_succ, List.set_cons_zero] <;> rfl)) ?_
  have hll7 : [(((Value.slice (some ⟨g5, 0, none⟩) 2 2), [0, 2]), ((Value.slice (some ⟨g6, 0, none⟩) 1 1), [0])), (((Value.slice none 0 0), []), ((Value.slice none 0 0), []))].length = 2 := rfl
  refine W_litS (vs := [.agg #[(.slice (some ⟨g5, 0, none⟩) 2 2), (.slice (some ⟨g6, 0, none⟩) 1 1)], .agg #[.slice none 0 0, .slice none 0 0]]) (xs := ([(((Value.slice (some ⟨g5, 0, none⟩) 2 2), [0, 2]), ((Value.slice (some ⟨g6, 0, none⟩) 1 1), [0])), (((Value.slice none 0 0), []), ((Value.slice none 0 0), []))].flatMap obC)) 2 hS6 rfl rfl rfl (parts2 (es rfl (et rfl)) (et rfl)) rfl Try.underlying22 (by kernel_rfl) (by decide) (by intro v hv; simp only [List.mem_cons, List.not_mem_nil, or_false] at hv; rcases hv with rfl | rfl <;> rfl) (by rfl) (fun g7 w7 c7 hc7 hS7 => ?_)
  replace hc7 : c7 = ro 2 obC (.slice (some ⟨g7, 0, none⟩) 2 2) [(((Value.slice (some ⟨g5, 0, none⟩) 2 2), [0, 2]), ((Value.slice (some ⟨g6, 0, none⟩) 1 1), [0])), (((Value.slice none 0 0), []), ((Value.slice none 0 0), []))] := hc7
  replace hS7 : St w NoX [c7, c6, c5, c2] w7 := hS7
  have hll8 : [1, 2].length = 2 := rfl
  refine W_litS (vs := [.int .i64 1, .int .i64 2]) (xs := ([1, 2].map (Value.int .i64))) 1 hS7 rfl rfl rfl (parts2 rfl rfl) rfl Try.underlying23 (by kernel_rfl) (by decide) (by intro v hv; simp only [List.mem_cons, List.not_mem_nil, or_false] at hv; rcases hv with rfl | rfl <;> rfl) (by rfl) (fun g8 w8 c8 hc8 hS8 => ?_)
  replace hc8 : c8 = io .i64 (.slice (some ⟨g8, 0, none⟩) 2 2) [1, 2] := hc8
  replace hS8 : St w NoX [c8, c7, c6, c5, c2] w8 := hS8
  refine W_v rfl rfl (V_bldS (n := 2) (z := .agg #[.slice none 0 0, .slice none 0 0]) rfl (parts2 (es rfl (et rfl)) (et rfl)) (by kernel_rfl) (by simp only [List.all_cons, List.all_nil, SlN_one (ow_at (hS8.chq 1 rfl hc7)), SlN_one (ow_at (hS8.chq 0 rfl hc8)), Bool.and_true] <;> rfl) (by kernel_rfl) (by simp only [List.foldl_cons, List.foldl_nil, Value.cells, List.setIfInBounds_toArray, List.set_cons_succ, List.set_cons_zero] <;> rfl)) ?_
  refine W_stAS 4 hS8 rfl hc2 rfl rfl rfl (e6 rfl (es rfl l0_3)) (et rfl) (by simp only [List.all_toArray, List.all_cons, List.all_nil, SlN_one (ow_at (hS8.chq 1 rfl hc7)), SlN_one (ow_at (hS8.chq 0 rfl hc8))] <;> rfl) (by rfl) (by kernel_rfl) (fun w9 c9 hc9 hS9 => ?_)
  replace hS9 : St w NoX [c8, c7, c6, c5, c9] w9 := hS9
  refine W_end ?_
  refine gen_Q (fun A10 hA10 => ?_)
  have hsz10 := szq hA10
  have hdf10 : A10.defers = [] := by rw [hA10]; simp only [df_put]; exact hdf3
  have l0_10 := lookE hA10 0 (e6 rfl (es rfl l0_3))
  clear hA10 hsz3 hdf3 l0_3
  refine then_n (hK4 _ _ ?_)
  clear hK4
  refine wp_ret ?_
  refine ret_in (results_1 Try.results23 (rv_cellA l0_10 (hS9.obj 4 rfl hc9) Try.underlying25 rfl (by kernel_rfl))) hdf10 ?_
  -- leaf 
  obtain ⟨c11, cb11, hc11, hcb11, hS11⟩ := gen2 (nst_nils hS9)
  replace hS11 : St w NoX [c11, cb11, c8, c7, c6, c5, c9] w9 := hS11
  have hS12 := hS11.sel [5, 0, 4, 1, 2, 3, 6] (by decide) (l' := [c5, c11, c6, cb11, c8, c7, c9]) rfl
  replace hS12 : St w NoX [c5, c11, c6, cb11, c8, c7, c9] w9 := hS12
  rw [hc5, hc11, hc6, hcb11] at hS12
  obtain ⟨c13, cb13, hc13, hcb13, hS13⟩ := gen2 (nst_push (pv := (.slice (some ⟨g5, 0, none⟩) 2 2)) (ps := [0, 2]) (qv := (.slice (some ⟨g6, 0, none⟩) 1 1)) (qs := [0]) (O := ([] : List Ob)) hS12)
  replace hS13 : St w NoX [c13, cb13, c8, c7, c9] w9 := hS13
  obtain ⟨c14, hc14, hS14⟩ := hS13.pnil (s := 1)
  obtain ⟨c15, hc15, hS15⟩ := hS14.pnil (s := 1)
  have hS16 := hS15.sel [1, 2, 0, 3, 4, 5, 6] (by decide) (l' := [c14, c13, c15, cb13, c8, c7, c9]) rfl
  replace hS16 : St w NoX [c14, c13, c15, cb13, c8, c7, c9] w9 := hS16
  rw [hc14, hc13, hc15, hcb13] at hS16
  obtain ⟨c17, cb17, hc17, hcb17, hS17⟩ := gen2 (nst_push (pv := (Value.slice none 0 0)) (ps := []) (qv := (Value.slice none 0 0)) (qs := []) (O := (([] : List Ob) ++ [(((.slice (some ⟨g5, 0, none⟩) 2 2), [0, 2]), ((.slice (some ⟨g6, 0, none⟩) 1 1), [0]))])) hS16)
  replace hS17 : St w NoX [c17, cb17, c8, c7, c9] w9 := hS17
  replace hc17 : c17 = owl .i64 ([(((Value.slice (some ⟨g5, 0, none⟩) 2 2), [0, 2]), ((Value.slice (some ⟨g6, 0, none⟩) 1 1), [0])), (((Value.slice none 0 0), []), ((Value.slice none 0 0), []))].map (·.1)) := hc17
  replace hcb17 : cb17 = owl .u64 ([(((Value.slice (some ⟨g5, 0, none⟩) 2 2), [0, 2]), ((Value.slice (some ⟨g6, 0, none⟩) 1 1), [0])), (((Value.slice none 0 0), []), ((Value.slice none 0 0), []))].map (·.2)) := hcb17
  exact ⟨_, [(((Value.slice (some ⟨g5, 0, none⟩) 2 2), [0, 2]), ((Value.slice (some ⟨g6, 0, none⟩) 1 1), [0])), (((Value.slice none 0 0), []), ((Value.slice none 0 0), []))], _, rfl, rfl, (hS17.fin4 3 rfl (hc7) 0 rfl (hc17) 1 rfl (hcb17) 2 rfl (hc8) (by decide))⟩

set_option maxHeartbeats 4000000 in
theorem shown_c  {w : World}   :
    Calls Try.prog 11 #[] w fun e w' => e = .returned (.bool true) ∧ St w NoX [] w' := by
  refine calls_in 116 Try.func11 rfl rfl (by simp) (fun A0 hsz0 hdf0 hargs => ?_)
  clear hargs; replace hsz0 : SzN A0 116 := ⟨hsz0⟩
  have hS := St.nil w
  refine wp_seq_k (fun K1 hK1 => ?_)
  refine region_in ?_
  refine W_v rfl rfl (V_asg rfl rfl) ?_
  refine W_end ?_
  refine gen_Q (fun A2 hA2 => ?_)
  have hsz2 := szq hA2
  have hdf2 : A2.defers = [] := by rw [hA2]; simp only [df_put]; exact hdf0
  clear hA2 hsz0 hdf0
  refine then_n (hK1 _ _ ?_)
  clear hK1
  refine wp_seq_k (fun K3 hK3 => ?_)
  refine region_in ?_
  refine W_call rfl rfl rfl Try.func12 (by kernel_rfl) rfl (args1 rfl) (kNw_c (n := 2)  ) ?_
  rintro _ w4 ⟨hv_4, H_4, qv_4, rfl, hH_4, hP4⟩
  refine ⟨_, rfl, ?_⟩
  obtain ⟨cR_4, cP_4, cQ_4, cG_4, hcR_4, hcP_4, hcQ_4, hcG_4, hP4⟩ := gen4 hP4
  have hS4 := hS.join hP4
  replace hS4 : St w NoX [cR_4, cP_4, cQ_4, cG_4] w4 := hS4
  have hm4 : H_4.map ab = [] := by simp only [hH_4] <;> decide +kernel
  have hsm4 : SM (H_4.map ab) := by rw [hm4]; unfold SM; decide
  refine W_v rfl rfl (V_mov rfl (et rfl)) ?_
  refine W_v rfl rfl (V_ext (v := .agg #[hv_4, qv_4]) rfl (et rfl) rfl) ?_
  refine W_v rfl rfl (V_ext (v := .int .i64 ((nwE 2))) rfl (es rfl (et rfl)) rfl) ?_
  refine W_allocS (z := .agg #[.slice none 0 0, .slice none 0 0]) (zs := #[.slice none 0 0, .slice none 0 0]) hS4 rfl rfl rfl (by kernel_rfl) (by rfl) (fun g5 w5 c5 hc5 hS5 => ?_)
  replace hS5 : St w NoX [c5, cR_4, cP_4, cQ_4, cG_4] w5 := hS5
  refine W_stAS 0 hS5 rfl hc5 rfl rfl rfl (et rfl) (e2 rfl (et rfl)) (by simp only [List.all_toArray, List.all_cons, List.all_nil, SlN_one (ow_at (hS5.chq 1 rfl hcR_4)), SlN_one (ow_at (hS5.chq 4 rfl hcG_4))] <;> rfl) (by rfl) (by kernel_rfl) (fun w6 c6 hc6 hS6 => ?_)
  replace hS6 : St w NoX [c6, cR_4, cP_4, cQ_4, cG_4] w6 := hS6
  refine W_v rfl rfl (V_asg rfl (es rfl (et rfl))) ?_
  refine W_end ?_
  refine gen_Q (fun A7 hA7 => ?_)
  have hsz7 := szq hA7
  have hdf7 : A7.defers = [] := by rw [hA7]; simp only [df_put]; exact hdf2
  have l1_7 := lookE hA7 1 (es rfl (et rfl))
  have l2_7 := lookE hA7 2 (et rfl)
  clear hA7 hsz2 hdf2
  refine then_n (hK3 _ _ ?_)
  clear hK3
  refine wp_seq_k (fun K8 hK8 => ?_)
  refine region_in ?_
  refine W_r rfl rfl (VR_ldA rfl l1_7 (hS6.obj 0 rfl hc6) Try.underlying25 rfl (by kernel_rfl)) ?_
  refine W_call rfl rfl rfl Try.func28 (by kernel_rfl) rfl (args4 (et rfl) rfl rfl rfl) (kAlloc_c (a := 0) (p := 2) (r := 1) (hS6.chC 1 rfl hcR_4).own (nst_of (hS6.chC 2 rfl hcP_4) (hS6.chC 3 rfl hcQ_4)) (hS6.chC 4 rfl hcG_4).own (by first | with_reducible assumption)) ?_
  rintro _ w9 ⟨hv_9, H_9, qv_9, rfl, hH_9, hP9⟩
  refine ⟨_, rfl, ?_⟩
  obtain ⟨cR_9, cP_9, cQ_9, cG_9, hcR_9, hcP_9, hcQ_9, hcG_9, hP9⟩ := gen4 hP9
  have hS9 := hS6.join hP9
  replace hS9 : St w NoX [cR_9, cP_9, cQ_9, cG_9, c6, cR_4, cP_4, cQ_4, cG_4] w9 := hS9
  have hm9 : H_9.map ab = [([0, 0], [0])] := by simp only [hH_9, hm4] <;> decide +kernel
  have hsm9 : SM (H_9.map ab) := by rw [hm9]; unfold SM; decide
  refine W_v rfl rfl (V_mov rfl (et rfl)) ?_
  refine W_v rfl rfl (V_ext (v := .agg #[hv_9, qv_9]) rfl (et rfl) rfl) ?_
  refine W_v rfl rfl (V_ext (v := .int .i64 ((alE (H_4.map ab) (nwR 2) 0 2 1))) rfl (es rfl (et rfl)) rfl) ?_
  refine W_stAS 4 hS9 rfl hc6 rfl rfl rfl (e4 rfl (es rfl l1_7)) (es rfl (et rfl)) (by simp only [List.all_toArray, List.all_cons, List.all_nil, SlN_one (ow_at (hS9.chq 0 rfl hcR_9)), SlN_one (ow_at (hS9.chq 3 rfl hcG_9))] <;> rfl) (by rfl) (by kernel_rfl) (fun w10 c10 hc10 hS10 => ?_)
  replace hS10 : St w NoX [cR_9, cP_9, cQ_9, cG_9, c10, cR_4, cP_4, cQ_4, cG_4] w10 := hS10
  refine W_v rfl rfl (V_asg rfl (et rfl)) ?_
  refine W_end ?_
  refine gen_Q (fun A11 hA11 => ?_)
  have hsz11 := szq hA11
  have hdf11 : A11.defers = [] := by rw [hA11]; simp only [df_put]; exact hdf7
  have l1_11 := lookE hA11 1 (e5 rfl (es rfl l1_7))
  have l2_11 := lookE hA11 2 (e5 rfl (es rfl l2_7))
  have l3_11 := lookE hA11 3 (et rfl)
  clear hA11 hsz7 hdf7 l1_7 l2_7
  have hS12 : St w NoX [cR_9, cP_9, cQ_9, cG_9, c10] w10 := hS10.sel [0, 1, 2, 3, 4] (by decide) rfl
  refine then_n (hK8 _ _ ?_)
  clear hK8
  refine wp_seq_k (fun K13 hK13 => ?_)
  refine region_in ?_
  refine W_r rfl rfl (VR_ldA rfl l1_11 (hS12.obj 4 rfl hc10) Try.underlying25 rfl (by kernel_rfl)) ?_
  refine W_call rfl rfl rfl Try.func28 (by kernel_rfl) rfl (args4 (et rfl) rfl rfl rfl) (kAlloc_c (a := 1) (p := 0) (r := 0) (hS12.chC 0 rfl hcR_9).own (nst_of (hS12.chC 1 rfl hcP_9) (hS12.chC 2 rfl hcQ_9)) (hS12.chC 3 rfl hcG_9).own (by first | with_reducible assumption)) ?_
  rintro _ w14 ⟨hv_14, H_14, qv_14, rfl, hH_14, hP14⟩
  refine ⟨_, rfl, ?_⟩
  obtain ⟨cR_14, cP_14, cQ_14, cG_14, hcR_14, hcP_14, hcQ_14, hcG_14, hP14⟩ := gen4 hP14
  have hS14 := hS12.join hP14
  replace hS14 : St w NoX [cR_14, cP_14, cQ_14, cG_14, cR_9, cP_9, cQ_9, cG_9, c10] w14 := hS14
  have hm14 : H_14.map ab = [([0, 0], [0]), ([], [])] := by simp only [hH_14, hm4, hm9] <;> decide +kernel
  have hsm14 : SM (H_14.map ab) := by rw [hm14]; unfold SM; decide
  refine W_v rfl rfl (V_mov rfl (et rfl)) ?_
  refine W_v rfl rfl (V_ext (v := .agg #[hv_14, qv_14]) rfl (et rfl) rfl) ?_
  refine W_v rfl rfl (V_ext (v := .int .i64 ((alE (H_9.map ab) (alR (H_4.map ab) (nwR 2) 0 2 1) 1 0 0))) rfl (es rfl (et rfl)) rfl) ?_
  refine W_stAS 8 hS14 rfl hc10 rfl rfl rfl (e4 rfl (es rfl l1_11)) (es rfl (et rfl)) (by simp only [List.all_toArray, List.all_cons, List.all_nil, SlN_one (ow_at (hS14.chq 0 rfl hcR_14)), SlN_one (ow_at (hS14.chq 3 rfl hcG_14))] <;> rfl) (by rfl) (by kernel_rfl) (fun w15 c15 hc15 hS15 => ?_)
  replace hS15 : St w NoX [cR_14, cP_14, cQ_14, cG_14, cR_9, cP_9, cQ_9, cG_9, c15] w15 := hS15
  refine W_v rfl rfl (V_asg rfl (et rfl)) ?_
  refine W_end ?_
  refine gen_Q (fun A16 hA16 => ?_)
  have hsz16 := szq hA16
  have hdf16 : A16.defers = [] := by rw [hA16]; simp only [df_put]; exact hdf11
  have l1_16 := lookE hA16 1 (e5 rfl (es rfl l1_11))
  have l2_16 := lookE hA16 2 (e5 rfl (es rfl l2_11))
  have l3_16 := lookE hA16 3 (e5 rfl (es rfl l3_11))
  have l4_16 := lookE hA16 4 (et rfl)
  clear hA16 hsz11 hdf11 l1_11 l2_11 l3_11
  have hS17 : St w NoX [cR_14, cP_14, cQ_14, cG_14, c15] w15 := hS15.sel [0, 1, 2, 3, 8] (by decide) rfl
  refine then_n (hK13 _ _ ?_)
  clear hK13
  refine wp_seq_k (fun K18 hK18 => ?_)
  refine region_in ?_
  refine W_r rfl rfl (VR_ldA rfl l1_16 (hS17.obj 4 rfl hc15) Try.underlying25 rfl (by kernel_rfl)) ?_
  refine W_call rfl rfl rfl Try.func27 (by kernel_rfl) rfl (args4 (et rfl) rfl rfl rfl) (kStore_c (a := 0) (f := 1) (b := 1) (hS17.chC 0 rfl hcR_14).own (nst_of (hS17.chC 1 rfl hcP_14) (hS17.chC 2 rfl hcQ_14)) (hS17.chC 3 rfl hcG_14).own (by first | with_reducible assumption)) ?_
  rintro _ w19 ⟨hv_19, H_19, qv_19, rfl, hH_19, hP19⟩
  refine ⟨_, rfl, ?_⟩
  obtain ⟨cR_19, cP_19, cQ_19, cG_19, hcR_19, hcP_19, hcQ_19, hcG_19, hP19⟩ := gen4 hP19
  have hS19 := hS17.join hP19
  replace hS19 : St w NoX [cR_19, cP_19, cQ_19, cG_19, cR_14, cP_14, cQ_14, cG_14, c15] w19 := hS19
  have hm19 : H_19.map ab = [([0, 2], [0]), ([], [])] := by simp only [hH_19, hm4, hm9, hm14] <;> decide +kernel
  have hsm19 : SM (H_19.map ab) := by rw [hm19]; unfold SM; decide
  refine W_v rfl rfl (V_mov rfl (et rfl)) ?_
  refine W_v rfl rfl (V_ext (v := .agg #[hv_19, qv_19]) rfl (et rfl) rfl) ?_
  refine W_v rfl rfl (V_ext (v := .int .i64 ((ptE (H_14.map ab) (alR (H_9.map ab) (alR (H_4.map ab) (nwR 2) 0 2 1) 1 0 0) [0, 1] 0 1))) rfl (es rfl (et rfl)) rfl) ?_
  refine W_stAS 8 hS19 rfl hc15 rfl rfl rfl (e4 rfl (es rfl l1_16)) (es rfl (et rfl)) (by simp only [List.all_toArray, List.all_cons, List.all_nil, SlN_one (ow_at (hS19.chq 0 rfl hcR_19)), SlN_one (ow_at (hS19.chq 3 rfl hcG_19))] <;> rfl) (by rfl) (by kernel_rfl) (fun w20 c20 hc20 hS20 => ?_)
  replace hS20 : St w NoX [cR_19, cP_19, cQ_19, cG_19, cR_14, cP_14, cQ_14, cG_14, c20] w20 := hS20
  refine W_v rfl rfl (V_asg rfl (et rfl)) ?_
  refine W_end ?_
  refine gen_Q (fun A21 hA21 => ?_)
  have hsz21 := szq hA21
  have hdf21 : A21.defers = [] := by rw [hA21]; simp only [df_put]; exact hdf16
  have l1_21 := lookE hA21 1 (e5 rfl (es rfl l1_16))
  have l2_21 := lookE hA21 2 (e5 rfl (es rfl l2_16))
  have l3_21 := lookE hA21 3 (e5 rfl (es rfl l3_16))
  have l4_21 := lookE hA21 4 (e5 rfl (es rfl l4_16))
  have l5_21 := lookE hA21 5 (et rfl)
  clear hA21 hsz16 hdf16 l1_16 l2_16 l3_16 l4_16
  have hS22 : St w NoX [cR_19, cP_19, cQ_19, cG_19, c20] w20 := hS20.sel [0, 1, 2, 3, 8] (by decide) rfl
  refine then_n (hK18 _ _ ?_)
  clear hK18
  refine wp_seq_k (fun K23 hK23 => ?_)
  refine region_in ?_
  refine W_r rfl rfl (VR_ldA rfl l1_21 (hS22.obj 4 rfl hc20) Try.underlying25 rfl (by kernel_rfl)) ?_
  refine W_call rfl rfl rfl Try.func19 (by kernel_rfl) rfl (args1 (et rfl)) (kWd_c (hS22.chC 0 rfl hcR_19).own (nst_of (hS22.chC 1 rfl hcP_19) (hS22.chC 2 rfl hcQ_19)) (hS22.chC 3 rfl hcG_19).own (by first | with_reducible assumption)) ?_
  rintro _ w24 ⟨rfl, hP24⟩
  refine ⟨_, rfl, ?_⟩
  have hS24 := hS22.join hP24
  replace hS24 : St w NoX [cR_19, cP_19, cQ_19, cG_19, c20] w24 := hS24
  refine W_v rfl rfl (V_mov rfl (et rfl)) ?_
  refine W_v rfl rfl (V_ext (v := .int .i64 ((wdN (H_19.map ab) (soR (H_14.map ab) (alR (H_9.map ab) (alR (H_4.map ab) (nwR 2) 0 2 1) 1 0 0) 0 1 1)))) rfl (et rfl) rfl) ?_
  refine W_v rfl rfl (V_ext (v := .int .i64 ((ckG (H_19.map ab) (soR (H_14.map ab) (alR (H_9.map ab) (alR (H_4.map ab) (nwR 2) 0 2 1) 1 0 0) 0 1 1)).2)) rfl (es rfl (et rfl)) rfl) ?_
  refine W_v rfl rfl (V_asg rfl (es rfl (et rfl))) ?_
  refine W_v rfl rfl (V_asg rfl (es rfl (et rfl))) ?_
  refine W_end ?_
  refine gen_Q (fun A25 hA25 => ?_)
  have hsz25 := szq hA25
  have hdf25 : A25.defers = [] := by rw [hA25]; simp only [df_put]; exact hdf21
  have l1_25 := lookE hA25 1 (e6 rfl (es rfl l1_21))
  have l2_25 := lookE hA25 2 (e6 rfl (es rfl l2_21))
  have l3_25 := lookE hA25 3 (e6 rfl (es rfl l3_21))
  have l4_25 := lookE hA25 4 (e6 rfl (es rfl l4_21))
  have l5_25 := lookE hA25 5 (e6 rfl (es rfl l5_21))
  have l6_25 := lookE hA25 6 (es rfl (et rfl))
  have l7_25 := lookE hA25 7 (et rfl)
  clear hA25 hsz21 hdf21 l1_21 l2_21 l3_21 l4_21 l5_21
  refine then_n (hK23 _ _ ?_)
  clear hK23
  refine wp_seq_k (fun K26 hK26 => ?_)
  refine region_in ?_
  refine W_r rfl rfl (VR_ldA rfl l1_25 (hS24.obj 4 rfl hc20) Try.underlying25 rfl (by kernel_rfl)) ?_
  refine W_call rfl rfl rfl Try.func24 (by kernel_rfl) rfl (args2 (et rfl) rfl) (kClear_c (a := 1) (hS24.chC 0 rfl hcR_19).own (nst_of (hS24.chC 1 rfl hcP_19) (hS24.chC 2 rfl hcQ_19)) (hS24.chC 3 rfl hcG_19).own (by first | with_reducible assumption)) ?_
  rintro _ w27 ⟨hv_27, H_27, qv_27, rfl, hH_27, hP27⟩
  refine ⟨_, rfl, ?_⟩
  obtain ⟨cR_27, cP_27, cQ_27, cG_27, hcR_27, hcP_27, hcQ_27, hcG_27, hP27⟩ := gen4 hP27
  have hS27 := hS24.join hP27
  replace hS27 : St w NoX [cR_27, cP_27, cQ_27, cG_27, cR_19, cP_19, cQ_19, cG_19, c20] w27 := hS27
  have hm27 : H_27.map ab = [([0, 2], [0]), ([], [])] := by simp only [hH_27, hm4, hm9, hm14, hm19] <;> decide +kernel
  have hsm27 : SM (H_27.map ab) := by rw [hm27]; unfold SM; decide
  refine W_v rfl rfl (V_mov rfl (et rfl)) ?_
  refine W_v rfl rfl (V_ext (v := .agg #[hv_27, qv_27]) rfl (et rfl) rfl) ?_
  refine W_v rfl rfl (V_ext (v := .int .i64 ((ckd (H_19.map ab) (soR (H_14.map ab) (alR (H_9.map ab) (alR (H_4.map ab) (nwR 2) 0 2 1) 1 0 0) 0 1 1) [1]))) rfl (es rfl (et rfl)) rfl) ?_
  refine W_allocS (z := .agg #[.slice none 0 0, .slice none 0 0]) (zs := #[.slice none 0 0, .slice none 0 0]) hS27 rfl rfl rfl (by kernel_rfl) (by rfl) (fun g28 w28 c28 hc28 hS28 => ?_)
  replace hS28 : St w NoX [c28, cR_27, cP_27, cQ_27, cG_27, cR_19, cP_19, cQ_19, cG_19, c20] w28 := hS28
  refine W_stAS 0 hS28 rfl hc28 rfl rfl rfl (et rfl) (e2 rfl (et rfl)) (by simp only [List.all_toArray, List.all_cons, List.all_nil, SlN_one (ow_at (hS28.chq 1 rfl hcR_27)), SlN_one (ow_at (hS28.chq 4 rfl hcG_27))] <;> rfl) (by rfl) (by kernel_rfl) (fun w29 c29 hc29 hS29 => ?_)
  replace hS29 : St w NoX [c29, cR_27, cP_27, cQ_27, cG_27, cR_19, cP_19, cQ_19, cG_19, c20] w29 := hS29
  refine W_v rfl rfl (V_asg rfl (es rfl (et rfl))) ?_
  refine W_end ?_
  refine gen_Q (fun A30 hA30 => ?_)
  have hsz30 := szq hA30
  have hdf30 : A30.defers = [] := by rw [hA30]; simp only [df_put]; exact hdf25
  have l1_30 := lookE hA30 1 (e6 rfl (es rfl l1_25))
  have l2_30 := lookE hA30 2 (e6 rfl (es rfl l2_25))
  have l3_30 := lookE hA30 3 (e6 rfl (es rfl l3_25))
  have l4_30 := lookE hA30 4 (e6 rfl (es rfl l4_25))
  have l5_30 := lookE hA30 5 (e6 rfl (es rfl l5_25))
  have l6_30 := lookE hA30 6 (e6 rfl (es rfl l6_25))
  have l7_30 := lookE hA30 7 (e6 rfl (es rfl l7_25))
  have l8_30 := lookE hA30 8 (es rfl (et rfl))
  clear hA30 hsz25 hdf25 l1_25 l2_25 l3_25 l4_25 l5_25 l6_25 l7_25
  refine then_n (hK26 _ _ ?_)
  clear hK26
  refine wp_seq_k (fun K31 hK31 => ?_)
  refine region_in ?_
  refine W_r rfl rfl (VR_ldA rfl l8_30 (hS29.obj 0 rfl hc29) Try.underlying25 rfl (by kernel_rfl)) ?_
  refine W_call rfl rfl rfl Try.func17 (by kernel_rfl) rfl (args1 (et rfl)) (kLv_c (hS29.chC 1 rfl hcR_27).own (nst_of (hS29.chC 2 rfl hcP_27) (hS29.chC 3 rfl hcQ_27)) (hS29.chC 4 rfl hcG_27).own (by first | with_reducible assumption)) ?_
  rintro _ w32 ⟨v_32, rfl, hP32⟩
  refine ⟨_, rfl, ?_⟩
  obtain ⟨c_32, hc_32, hP32⟩ := gen1 hP32
  have hS32 := hS29.join hP32
  replace hS32 : St w NoX [c_32, c29, cR_27, cP_27, cQ_27, cG_27, cR_19, cP_19, cQ_19, cG_19, c20] w32 := hS32
  refine W_v rfl rfl (V_mov rfl (et rfl)) ?_
  refine W_v rfl rfl (V_ext (v := v_32) rfl (et rfl) rfl) ?_
  refine W_v rfl rfl (V_ext (v := .int .i64 ((ckG (H_27.map ab) (clR (H_19.map ab) (soR (H_14.map ab) (alR (H_9.map ab) (alR (H_4.map ab) (nwR 2) 0 2 1) 1 0 0) 0 1 1) 1)).2)) rfl (es rfl (et rfl)) rfl) ?_
  refine W_v rfl rfl (V_asg rfl (es rfl (et rfl))) ?_
  refine W_v rfl rfl (V_asg rfl (es rfl (et rfl))) ?_
  refine W_end ?_
  refine gen_Q (fun A33 hA33 => ?_)
  have hsz33 := szq hA33
  have hdf33 : A33.defers = [] := by rw [hA33]; simp only [df_put]; exact hdf30
  have l1_33 := lookE hA33 1 (e6 rfl (es rfl l1_30))
  have l2_33 := lookE hA33 2 (e6 rfl (es rfl l2_30))
  have l3_33 := lookE hA33 3 (e6 rfl (es rfl l3_30))
  have l4_33 := lookE hA33 4 (e6 rfl (es rfl l4_30))
  have l5_33 := lookE hA33 5 (e6 rfl (es rfl l5_30))
  have l6_33 := lookE hA33 6 (e6 rfl (es rfl l6_30))
  have l7_33 := lookE hA33 7 (e6 rfl (es rfl l7_30))
  have l10_33 := lookE hA33 10 (es rfl (et rfl))
  have l11_33 := lookE hA33 11 (et rfl)
  clear hA33 hsz30 hdf30 l1_30 l2_30 l3_30 l4_30 l5_30 l6_30 l7_30 l8_30
  have hS34 : St w NoX [c_32, cR_19, cP_19, cQ_19, cG_19, c20] w32 := hS32.sel [0, 6, 7, 8, 9, 10] (by decide) rfl
  refine then_n (hK31 _ _ ?_)
  clear hK31
  refine wp_seq_k (fun K35 hK35 => ?_)
  refine region_in ?_
  refine W_r rfl rfl (VR_ldA rfl l1_33 (hS34.obj 5 rfl hc20) Try.underlying25 rfl (by kernel_rfl)) ?_
  refine W_call rfl rfl rfl Try.func25 (by kernel_rfl) rfl (args4 (et rfl) rfl rfl rfl) (kLoad_c (a := 0) (b := 0) (f := 0) (hS34.chC 1 rfl hcR_19).own (nst_of (hS34.chC 2 rfl hcP_19) (hS34.chC 3 rfl hcQ_19)) (hS34.chC 4 rfl hcG_19).own (by first | with_reducible assumption)) ?_
  rintro _ w36 ⟨hv_36, H_36, qv_36, rfl, hH_36, hP36⟩
  refine ⟨_, rfl, ?_⟩
  obtain ⟨cR_36, cP_36, cQ_36, cG_36, hcR_36, hcP_36, hcQ_36, hcG_36, hP36⟩ := gen4 hP36
  have hS36 := hS34.join hP36
  replace hS36 : St w NoX [cR_36, cP_36, cQ_36, cG_36, c_32, cR_19, cP_19, cQ_19, cG_19, c20] w36 := hS36
  have hm36 : H_36.map ab = [([0, 2], [0]), ([], [])] := by simp only [hH_36, hm4, hm9, hm14, hm19, hm27] <;> decide +kernel
  have hsm36 : SM (H_36.map ab) := by rw [hm36]; unfold SM; decide
  refine W_v rfl rfl (V_mov rfl (et rfl)) ?_
  refine W_v rfl rfl (V_ext (v := .agg #[hv_36, qv_36]) rfl (et rfl) rfl) ?_
  refine W_v rfl rfl (V_ext (v := .int .i64 ((ptE (H_19.map ab) (soR (H_14.map ab) (alR (H_9.map ab) (alR (H_4.map ab) (nwR 2) 0 2 1) 1 0 0) 0 1 1) [0, 0] 0 0))) rfl (es rfl (et rfl)) rfl) ?_
  refine W_allocS (z := .agg #[.slice none 0 0, .slice none 0 0]) (zs := #[.slice none 0 0, .slice none 0 0]) hS36 rfl rfl rfl (by kernel_rfl) (by rfl) (fun g37 w37 c37 hc37 hS37 => ?_)
  replace hS37 : St w NoX [c37, cR_36, cP_36, cQ_36, cG_36, c_32, cR_19, cP_19, cQ_19, cG_19, c20] w37 := hS37
  refine W_stAS 0 hS37 rfl hc37 rfl rfl rfl (et rfl) (e2 rfl (et rfl)) (by simp only [List.all_toArray, List.all_cons, List.all_nil, SlN_one (ow_at (hS37.chq 1 rfl hcR_36)), SlN_one (ow_at (hS37.chq 4 rfl hcG_36))] <;> rfl) (by rfl) (by kernel_rfl) (fun w38 c38 hc38 hS38 => ?_)
  replace hS38 : St w NoX [c38, cR_36, cP_36, cQ_36, cG_36, c_32, cR_19, cP_19, cQ_19, cG_19, c20] w38 := hS38
  refine W_v rfl rfl (V_asg rfl (es rfl (et rfl))) ?_
  refine W_end ?_
  refine gen_Q (fun A39 hA39 => ?_)
  have hsz39 := szq hA39
  have hdf39 : A39.defers = [] := by rw [hA39]; simp only [df_put]; exact hdf33
  have l1_39 := lookE hA39 1 (e6 rfl (es rfl l1_33))
  have l2_39 := lookE hA39 2 (e6 rfl (es rfl l2_33))
  have l3_39 := lookE hA39 3 (e6 rfl (es rfl l3_33))
  have l4_39 := lookE hA39 4 (e6 rfl (es rfl l4_33))
  have l5_39 := lookE hA39 5 (e6 rfl (es rfl l5_33))
  have l6_39 := lookE hA39 6 (e6 rfl (es rfl l6_33))
  have l7_39 := lookE hA39 7 (e6 rfl (es rfl l7_33))
  have l10_39 := lookE hA39 10 (e6 rfl (es rfl l10_33))
  have l11_39 := lookE hA39 11 (e6 rfl (es rfl l11_33))
  have l12_39 := lookE hA39 12 (es rfl (et rfl))
  clear hA39 hsz33 hdf33 l1_33 l2_33 l3_33 l4_33 l5_33 l6_33 l7_33 l10_33 l11_33
  refine then_n (hK35 _ _ ?_)
  clear hK35
  refine wp_seq_k (fun K40 hK40 => ?_)
  refine region_in ?_
  refine W_r rfl rfl (VR_ldA rfl l12_39 (hS38.obj 0 rfl hc38) Try.underlying25 rfl (by kernel_rfl)) ?_
  refine W_call rfl rfl rfl Try.func17 (by kernel_rfl) rfl (args1 (et rfl)) (kLv_c (hS38.chC 1 rfl hcR_36).own (nst_of (hS38.chC 2 rfl hcP_36) (hS38.chC 3 rfl hcQ_36)) (hS38.chC 4 rfl hcG_36).own (by first | with_reducible assumption)) ?_
  rintro _ w41 ⟨v_41, rfl, hP41⟩
  refine ⟨_, rfl, ?_⟩
  obtain ⟨c_41, hc_41, hP41⟩ := gen1 hP41
  have hS41 := hS38.join hP41
  replace hS41 : St w NoX [c_41, c38, cR_36, cP_36, cQ_36, cG_36, c_32, cR_19, cP_19, cQ_19, cG_19, c20] w41 := hS41
  refine W_v rfl rfl (V_mov rfl (et rfl)) ?_
  refine W_v rfl rfl (V_ext (v := v_41) rfl (et rfl) rfl) ?_
  refine W_v rfl rfl (V_ext (v := .int .i64 ((ckG (H_36.map ab) (ldR (H_19.map ab) (soR (H_14.map ab) (alR (H_9.map ab) (alR (H_4.map ab) (nwR 2) 0 2 1) 1 0 0) 0 1 1) 0 0 0)).2)) rfl (es rfl (et rfl)) rfl) ?_
  refine W_v rfl rfl (V_asg rfl (es rfl (et rfl))) ?_
  refine W_v rfl rfl (V_asg rfl (es rfl (et rfl))) ?_
  refine W_end ?_
  refine gen_Q (fun A42 hA42 => ?_)
  have hsz42 := szq hA42
  have hdf42 : A42.defers = [] := by rw [hA42]; simp only [df_put]; exact hdf39
  have l1_42 := lookE hA42 1 (e6 rfl (es rfl l1_39))
  have l2_42 := lookE hA42 2 (e6 rfl (es rfl l2_39))
  have l3_42 := lookE hA42 3 (e6 rfl (es rfl l3_39))
  have l4_42 := lookE hA42 4 (e6 rfl (es rfl l4_39))
  have l5_42 := lookE hA42 5 (e6 rfl (es rfl l5_39))
  have l6_42 := lookE hA42 6 (e6 rfl (es rfl l6_39))
  have l7_42 := lookE hA42 7 (e6 rfl (es rfl l7_39))
  have l10_42 := lookE hA42 10 (e6 rfl (es rfl l10_39))
  have l11_42 := lookE hA42 11 (e6 rfl (es rfl l11_39))
  have l14_42 := lookE hA42 14 (es rfl (et rfl))
  have l15_42 := lookE hA42 15 (et rfl)
  clear hA42 hsz39 hdf39 l1_39 l2_39 l3_39 l4_39 l5_39 l6_39 l7_39 l10_39 l11_39 l12_39
  have hS43 : St w NoX [c_41, c_32, cR_19, cP_19, cQ_19, cG_19, c20] w41 := hS41.sel [0, 6, 7, 8, 9, 10, 11] (by decide) rfl
  refine then_n (hK40 _ _ ?_)
  clear hK40
  refine wp_seq_k (fun K44 hK44 => ?_)
  refine region_in ?_
  refine W_r rfl rfl (VR_ldA rfl l1_42 (hS43.obj 6 rfl hc20) Try.underlying25 rfl (by kernel_rfl)) ?_
  refine W_call rfl rfl rfl Try.func26 (by kernel_rfl) rfl (args3 (et rfl) rfl rfl) (kRd_c (a := 0) (f := 1) (hS43.chC 2 rfl hcR_19).own (nst_of (hS43.chC 3 rfl hcP_19) (hS43.chC 4 rfl hcQ_19)) (hS43.chC 5 rfl hcG_19).own ) ?_
  rintro _ w45 ⟨rfl, hP45⟩
  refine ⟨_, rfl, ?_⟩
  have hS45 := hS43.join hP45
  replace hS45 : St w NoX [c_41, c_32, cR_19, cP_19, cQ_19, cG_19, c20] w45 := hS45
  refine W_v rfl rfl (V_mov rfl (et rfl)) ?_
  refine W_v rfl rfl (V_ext (v := .int .u64 ((rdV (H_19.map ab) (soR (H_14.map ab) (alR (H_9.map ab) (alR (H_4.map ab) (nwR 2) 0 2 1) 1 0 0) 0 1 1) 0 1))) rfl (et rfl) rfl) ?_
  refine W_v rfl rfl (V_ext (v := .int .i64 ((rwE (H_19.map ab) (soR (H_14.map ab) (alR (H_9.map ab) (alR (H_4.map ab) (nwR 2) 0 2 1) 1 0 0) 0 1 1) [0] 0 1))) rfl (es rfl (et rfl)) rfl) ?_
  refine W_v rfl rfl (V_asg rfl (es rfl (et rfl))) ?_
  refine W_v rfl rfl (V_asg rfl (es rfl (et rfl))) ?_
  refine W_end ?_
  refine gen_Q (fun A46 hA46 => ?_)
  have hsz46 := szq hA46
  have hdf46 : A46.defers = [] := by rw [hA46]; simp only [df_put]; exact hdf42
  have l1_46 := lookE hA46 1 (e6 rfl (es rfl l1_42))
  have l2_46 := lookE hA46 2 (e6 rfl (es rfl l2_42))
  have l3_46 := lookE hA46 3 (e6 rfl (es rfl l3_42))
  have l4_46 := lookE hA46 4 (e6 rfl (es rfl l4_42))
  have l5_46 := lookE hA46 5 (e6 rfl (es rfl l5_42))
  have l6_46 := lookE hA46 6 (e6 rfl (es rfl l6_42))
  have l7_46 := lookE hA46 7 (e6 rfl (es rfl l7_42))
  have l10_46 := lookE hA46 10 (e6 rfl (es rfl l10_42))
  have l11_46 := lookE hA46 11 (e6 rfl (es rfl l11_42))
  have l14_46 := lookE hA46 14 (e6 rfl (es rfl l14_42))
  have l15_46 := lookE hA46 15 (e6 rfl (es rfl l15_42))
  have l17_46 := lookE hA46 17 (et rfl)
  clear hA46 hsz42 hdf42 l1_42 l2_42 l3_42 l4_42 l5_42 l6_42 l7_42 l10_42 l11_42 l14_42 l15_42
  refine then_n (hK44 _ _ ?_)
  clear hK44
  refine wp_seq_k (fun K47 hK47 => ?_)
  refine region_monoS 50 50 [none, some (SPv [] (fun _ => fun u l' => ∃ hv_s H_s qv_s, u = .agg #[hv_s, qv_s] ∧ (H_s.map ab = [([0, 2], [0]), ([], [])]) ∧ ∃ cR_s, cR_s = ro 2 obC hv_s H_s ∧ ∃ cP_s, cP_s = owl .i64 (H_s.map (·.1)) ∧ ∃ cQ_s, cQ_s = owl .u64 (H_s.map (·.2)) ∧ ∃ cG_s, cG_s = io .i64 (qv_s) [1, 2] ∧ l' = [cR_s, cP_s, cQ_s, cG_s]) 1), some (SPv [] (fun _ => fun u l' => u = .bool (smG (H_19.map ab) (soR (H_14.map ab) (alR (H_9.map ab) (alR (H_4.map ab) (nwR 2) 0 2 1) 1 0 0) 0 1 1) ([([0, 2], [0]), ([], [])]) [1, 2]) ∧ l' = []) 2), none, none, none, none, none, none, none, none, none, none, none, none, none, none, none, none, none, none, none, none, none, none, none, none, none, none, some (SPv [] (fun _ => fun u l' => ∃ g_, u = .slice (some ⟨g_, 0, none⟩) 2 2 ∧ ∃ c_, c_ = io .i64 (.slice (some ⟨g_, 0, none⟩) 2 2) [1, 2] ∧ l' = [c_]) 29), some (SPv [] (fun _ => fun u l' => u = .bool (decide ((lvT (H_27.map ab) (clR (H_19.map ab) (soR (H_14.map ab) (alR (H_9.map ab) (alR (H_4.map ab) (nwR 2) 0 2 1) 1 0 0) 0 1 1) 1)) = [1, 2])) ∧ l' = []) 30), none, none, none, none, none, none, none, some (SPv [] (fun _ => fun u l' => ∃ g_, u = .slice (some ⟨g_, 0, none⟩) 1 1 ∧ ∃ c_, c_ = io .i64 (.slice (some ⟨g_, 0, none⟩) 1 1) [2] ∧ l' = [c_]) 38), some (SPv [] (fun _ => fun u l' => u = .bool (decide ((lvT (H_36.map ab) (ldR (H_19.map ab) (soR (H_14.map ab) (alR (H_9.map ab) (alR (H_4.map ab) (nwR 2) 0 2 1) 1 0 0) 0 1 1) 0 0 0)) = [2])) ∧ l' = []) 39)] (by kernel_rfl) (by kernel_rfl) ?_
  refine D_r rfl rfl (by kernel_rfl) (fun sx hx hF => (VR_ldA rfl l1_46 ((hS45.grow hx).obj 6 rfl hc20) Try.underlying25 rfl (by kernel_rfl))) rfl rfl ?_
  refine D_call (ts := []) (vs := []) (C0 := fun _ => fun u l' => ∃ hv_s H_s qv_s, u = .agg #[hv_s, qv_s] ∧ (H_s.map ab = [([0, 2], [0]), ([], [])]) ∧ ∃ cR_s, cR_s = ro 2 obC hv_s H_s ∧ ∃ cP_s, cP_s = owl .i64 (H_s.map (·.1)) ∧ ∃ cQ_s, cQ_s = owl .u64 (H_s.map (·.2)) ∧ ∃ cG_s, cG_s = io .i64 (qv_s) [1, 2] ∧ l' = [cR_s, cP_s, cQ_s, cG_s]) (C := fun u l' => ∃ hv_s H_s qv_s, u = .agg #[hv_s, qv_s] ∧ (H_s.map ab = [([0, 2], [0]), ([], [])]) ∧ ∃ cR_s, cR_s = ro 2 obC hv_s H_s ∧ ∃ cP_s, cP_s = owl .i64 (H_s.map (·.1)) ∧ ∃ cQ_s, cQ_s = owl .u64 (H_s.map (·.2)) ∧ ∃ cG_s, cG_s = io .i64 (qv_s) [1, 2] ∧ l' = [cR_s, cP_s, cQ_s, cG_s]) rfl rfl rfl Try.func23 (by kernel_rfl) rfl (args0) rfl rfl rfl rfl (fun sx hx hF => ?_) (fun u48 l48 hu48 => ?_)
  · refine (ex_c  ).mono ?_
    rintro _ _ ⟨hv_48, H_48, qv_48, rfl, hH_48, hz⟩
    exact ⟨_, rfl, _, ⟨_, _, _, rfl, hH_48, _, rfl, _, rfl, _, rfl, _, rfl, rfl⟩, hz⟩
  obtain ⟨hv_48, H_48, qv_48, rfl, hH_48, cR_48, hcR_48, cP_48, hcP_48, cQ_48, hcQ_48, cG_48, hcG_48, hl48⟩ := hu48
  refine D_call (ts := []) (vs := []) (C0 := fun _ => fun u l' => u = .bool (smG (H_19.map ab) (soR (H_14.map ab) (alR (H_9.map ab) (alR (H_4.map ab) (nwR 2) 0 2 1) 1 0 0) 0 1 1) ([([0, 2], [0]), ([], [])]) [1, 2]) ∧ l' = []) (C := fun u l' => u = .bool (smG (H_19.map ab) (soR (H_14.map ab) (alR (H_9.map ab) (alR (H_4.map ab) (nwR 2) 0 2 1) 1 0 0) 0 1 1) ([([0, 2], [0]), ([], [])]) [1, 2]) ∧ l' = []) rfl rfl rfl Try.func16 (by kernel_rfl) rfl (args2 (es rfl (et rfl)) (et rfl)) rfl rfl rfl rfl (fun sx hx hF => ?_) (fun u49 l49 hu49 => ?_)
  · obtain ⟨ll48, ws48, we48, ⟨hv_48q, H_48q, qv_48q, hq48, hH_48_, cR_48_, hcR_48_, cP_48_, hcP_48_, cQ_48_, hcQ_48_, cG_48_, hcG_48_, hl48_⟩, hm48, k48, e48⟩ := L.ancF_get hF (by kernel_rfl); cases hq48; subst hl48_; have q := qsm_c ((hS45.grow hx).chC 2 rfl hcR_19).own (nst_of ((hS45.grow hx).chC 3 rfl hcP_19) ((hS45.grow hx).chC 4 rfl hcQ_19)) ((hS45.grow hx).chC 5 rfl hcG_19).own ((k48.grow e48).chC 0 rfl hcR_48_).own (nst_of ((k48.grow e48).chC 1 rfl hcP_48_) ((k48.grow e48).chC 2 rfl hcQ_48_)) ((k48.grow e48).chC 3 rfl hcG_48_).own 
    simp only [hH_48_] at q
    refine q.mono ?_
    rintro _ _ ⟨rfl, hz⟩
    exact ⟨_, rfl, _, ⟨rfl, rfl⟩, hz⟩
  obtain ⟨rfl, hl49⟩ := hu49
  refine D_sure (c' := true) rfl rfl (V_mov rfl (et rfl)) (by (try simp only [hm4, hm9, hm14, hm19, hm27, hm36]) <;> decide +kernel) rfl rfl ?_
  refine D_v rfl (wanted_t rfl rfl (et rfl) (ez rfl)) (V_mov rfl (e3 rfl (es rfl l2_46))) rfl rfl ?_
  refine D_v rfl (wanted_t rfl rfl (es rfl (et rfl)) (ez rfl)) (V_eql rfl (et rfl) rfl) rfl rfl ?_
  refine D_v rfl rfl (V_pickT rfl (e2 rfl (et rfl)) (et rfl)) rfl rfl ?_
  refine D_sure (c' := true) rfl rfl (V_mov rfl (et rfl)) (by (try simp only [hm4, hm9, hm14, hm19, hm27, hm36]) <;> decide +kernel) rfl rfl ?_
  refine D_v rfl (wanted_t rfl rfl (et rfl) (ez rfl)) (V_mov rfl (e7 rfl (es rfl l3_46))) rfl rfl ?_
  refine D_v rfl (wanted_t rfl rfl (es rfl (et rfl)) (ez rfl)) (V_eql rfl (et rfl) rfl) rfl rfl ?_
  refine D_v rfl rfl (V_pickT rfl (e2 rfl (et rfl)) (et rfl)) rfl rfl ?_
  refine D_sure (c' := true) rfl rfl (V_mov rfl (et rfl)) (by (try simp only [hm4, hm9, hm14, hm19, hm27, hm36]) <;> decide +kernel) rfl rfl ?_
  refine D_v rfl (wanted_t rfl rfl (et rfl) (ez rfl)) (V_mov rfl (e11 rfl (es rfl l4_46))) rfl rfl ?_
  refine D_v rfl (wanted_t rfl rfl (es rfl (et rfl)) (ez rfl)) (V_eql rfl (et rfl) rfl) rfl rfl ?_
  refine D_v rfl rfl (V_pickT rfl (e2 rfl (et rfl)) (et rfl)) rfl rfl ?_
  refine D_sure (c' := true) rfl rfl (V_mov rfl (et rfl)) (by (try simp only [hm4, hm9, hm14, hm19, hm27, hm36]) <;> decide +kernel) rfl rfl ?_
  refine D_v rfl (wanted_t rfl rfl (et rfl) (ez rfl)) (V_mov rfl (e15 rfl (es rfl l5_46))) rfl rfl ?_
  refine D_v rfl (wanted_t rfl rfl (es rfl (et rfl)) (ez rfl)) (V_eql rfl (et rfl) rfl) rfl rfl ?_
  refine D_v rfl rfl (V_pickT rfl (e2 rfl (et rfl)) (et rfl)) rfl rfl ?_
  refine D_sure (c' := true) rfl rfl (V_mov rfl (et rfl)) (by (try simp only [hm4, hm9, hm14, hm19, hm27, hm36]) <;> decide +kernel) rfl rfl ?_
  refine D_v rfl (wanted_t rfl rfl (et rfl) (ez rfl)) (V_mov rfl (e19 rfl (es rfl l6_46))) rfl rfl ?_
  refine D_v rfl (wanted_t rfl rfl (es rfl (et rfl)) (ez rfl)) (V_eql rfl (et rfl) rfl) rfl rfl ?_
  refine D_v rfl rfl (V_pickT rfl (e2 rfl (et rfl)) (et rfl)) rfl rfl ?_
  refine D_sure (c' := true) rfl rfl (V_mov rfl (et rfl)) (by (try simp only [hm4, hm9, hm14, hm19, hm27, hm36]) <;> decide +kernel) rfl rfl ?_
  refine D_v rfl (wanted_t rfl rfl (et rfl) (ez rfl)) (V_mov rfl (e23 rfl (es rfl l7_46))) rfl rfl ?_
  refine D_v rfl (wanted_t rfl rfl (es rfl (et rfl)) (ez rfl)) (V_eql rfl (et rfl) rfl) rfl rfl ?_
  refine D_v rfl rfl (V_pickT rfl (e2 rfl (et rfl)) (et rfl)) rfl rfl ?_
  refine D_sure (c' := true) rfl rfl (V_mov rfl (et rfl)) (by (try simp only [hm4, hm9, hm14, hm19, hm27, hm36]) <;> decide +kernel) rfl rfl ?_
  refine D_v rfl (wanted_t rfl rfl (et rfl) (ez rfl)) (V_mov rfl (e25 rfl (es rfl (es rfl (es rfl l10_46))))) rfl rfl ?_
  have hll50 : [1, 2].length = 2 := rfl
  refine D_lay (ts := []) (vs := []) (C0 := fun _ => fun u l' => ∃ g_, u = .slice (some ⟨g_, 0, none⟩) 2 2 ∧ ∃ c_, c_ = io .i64 (.slice (some ⟨g_, 0, none⟩) 2 2) [1, 2] ∧ l' = [c_]) (C := fun u l' => ∃ g_, u = .slice (some ⟨g_, 0, none⟩) 2 2 ∧ ∃ c_, c_ = io .i64 (.slice (some ⟨g_, 0, none⟩) 2 2) [1, 2] ∧ l' = [c_]) rfl (wanted_t rfl rfl (es rfl (et rfl)) (ez rfl)) rfl rfl rfl rfl (fun sx hx hF => lay_lit (vs := [.int .i64 1, .int .i64 2]) 1 rfl (parts2 rfl rfl) rfl Try.underlying23 (by kernel_rfl) (by decide) (by intro v hv; simp only [List.mem_cons, List.not_mem_nil, or_false] at hv; rcases hv with rfl | rfl <;> rfl) (by rfl)) (fun u50 l50 hu50 => ?_)
  obtain ⟨g50, rfl, c50, hc50, hl50⟩ := hu50
  refine D_call (ts := []) (vs := []) (C0 := fun _ => fun u l' => u = .bool (decide ((lvT (H_27.map ab) (clR (H_19.map ab) (soR (H_14.map ab) (alR (H_9.map ab) (alR (H_4.map ab) (nwR 2) 0 2 1) 1 0 0) 0 1 1) 1)) = [1, 2])) ∧ l' = []) (C := fun u l' => u = .bool (decide ((lvT (H_27.map ab) (clR (H_19.map ab) (soR (H_14.map ab) (alR (H_9.map ab) (alR (H_4.map ab) (nwR 2) 0 2 1) 1 0 0) 0 1 1) 1)) = [1, 2])) ∧ l' = []) rfl (wanted_t rfl rfl (e2 rfl (et rfl)) (ez rfl)) rfl Try.func21 (by kernel_rfl) rfl (args2 (es rfl (et rfl)) (et rfl)) rfl rfl rfl rfl (fun sx hx hF => ?_) (fun u51 l51 hu51 => ?_)
  · obtain ⟨ll50, ws50, we50, ⟨g50q, hq50, c50_, hc50_, hl50_⟩, hm50, k50, e50⟩ := L.ancF_get hF (by kernel_rfl); cases hq50; subst hl50_; refine (qInts_c ((hS45.grow hx).chC 1 rfl hc_32).own ((k50.grow e50).chC 0 rfl hc50_).own ).mono ?_
    rintro _ _ ⟨rfl, hz⟩
    exact ⟨_, rfl, _, ⟨rfl, rfl⟩, hz⟩
  obtain ⟨rfl, hl51⟩ := hu51
  refine D_v rfl rfl (V_pickT rfl (e3 rfl (et rfl)) (et rfl)) rfl rfl ?_
  refine D_sure (c' := true) rfl rfl (V_mov rfl (et rfl)) (by (try simp only [hm4, hm9, hm14, hm19, hm27, hm36]) <;> decide +kernel) rfl rfl ?_
  refine D_v rfl (wanted_t rfl rfl (et rfl) (ez rfl)) (V_mov rfl (e25 rfl (es rfl (es rfl (es rfl (es rfl (es rfl (es rfl (es rfl (es rfl l11_46)))))))))) rfl rfl ?_
  refine D_v rfl (wanted_t rfl rfl (es rfl (et rfl)) (ez rfl)) (V_eql rfl (et rfl) rfl) rfl rfl ?_
  refine D_v rfl rfl (V_pickT rfl (e2 rfl (et rfl)) (et rfl)) rfl rfl ?_
  refine D_sure (c' := true) rfl rfl (V_mov rfl (et rfl)) (by (try simp only [hm4, hm9, hm14, hm19, hm27, hm36]) <;> decide +kernel) rfl rfl ?_
  refine D_v rfl (wanted_t rfl rfl (et rfl) (ez rfl)) (V_mov rfl (e25 rfl (es rfl (es rfl (es rfl (es rfl (es rfl (es rfl (es rfl (es rfl (es rfl (es rfl (es rfl (es rfl l14_46)))))))))))))) rfl rfl ?_
  have hll52 : [2].length = 1 := rfl
  refine D_lay (ts := []) (vs := []) (C0 := fun _ => fun u l' => ∃ g_, u = .slice (some ⟨g_, 0, none⟩) 1 1 ∧ ∃ c_, c_ = io .i64 (.slice (some ⟨g_, 0, none⟩) 1 1) [2] ∧ l' = [c_]) (C := fun u l' => ∃ g_, u = .slice (some ⟨g_, 0, none⟩) 1 1 ∧ ∃ c_, c_ = io .i64 (.slice (some ⟨g_, 0, none⟩) 1 1) [2] ∧ l' = [c_]) rfl (wanted_t rfl rfl (es rfl (et rfl)) (ez rfl)) rfl rfl rfl rfl (fun sx hx hF => lay_lit (vs := [.int .i64 2]) 1 rfl (parts1 rfl) rfl Try.underlying23 (by kernel_rfl) (by decide) (by intro v hv; simp only [List.mem_cons, List.not_mem_nil, or_false] at hv; rcases hv with rfl <;> rfl) (by rfl)) (fun u52 l52 hu52 => ?_)
  obtain ⟨g52, rfl, c52, hc52, hl52⟩ := hu52
  refine D_call (ts := []) (vs := []) (C0 := fun _ => fun u l' => u = .bool (decide ((lvT (H_36.map ab) (ldR (H_19.map ab) (soR (H_14.map ab) (alR (H_9.map ab) (alR (H_4.map ab) (nwR 2) 0 2 1) 1 0 0) 0 1 1) 0 0 0)) = [2])) ∧ l' = []) (C := fun u l' => u = .bool (decide ((lvT (H_36.map ab) (ldR (H_19.map ab) (soR (H_14.map ab) (alR (H_9.map ab) (alR (H_4.map ab) (nwR 2) 0 2 1) 1 0 0) 0 1 1) 0 0 0)) = [2])) ∧ l' = []) rfl (wanted_t rfl rfl (e2 rfl (et rfl)) (ez rfl)) rfl Try.func21 (by kernel_rfl) rfl (args2 (es rfl (et rfl)) (et rfl)) rfl rfl rfl rfl (fun sx hx hF => ?_) (fun u53 l53 hu53 => ?_)
  · obtain ⟨ll52, ws52, we52, ⟨g52q, hq52, c52_, hc52_, hl52_⟩, hm52, k52, e52⟩ := L.ancF_get hF (by kernel_rfl); cases hq52; subst hl52_; refine (qInts_c ((hS45.grow hx).chC 0 rfl hc_41).own ((k52.grow e52).chC 0 rfl hc52_).own ).mono ?_
    rintro _ _ ⟨rfl, hz⟩
    exact ⟨_, rfl, _, ⟨rfl, rfl⟩, hz⟩
  obtain ⟨rfl, hl53⟩ := hu53
  refine D_v rfl rfl (V_pickT rfl (e3 rfl (et rfl)) (et rfl)) rfl rfl ?_
  refine D_sure (c' := true) rfl rfl (V_mov rfl (et rfl)) (by (try simp only [hm4, hm9, hm14, hm19, hm27, hm36]) <;> decide +kernel) rfl rfl ?_
  refine D_v rfl (wanted_t rfl rfl (et rfl) (ez rfl)) (V_mov rfl (e25 rfl (es rfl (es rfl (es rfl (es rfl (es rfl (es rfl (es rfl (es rfl (es rfl (es rfl (es rfl (es rfl (es rfl (es rfl (es rfl (es rfl (es rfl l15_46))))))))))))))))))) rfl rfl ?_
  refine D_v rfl (wanted_t rfl rfl (es rfl (et rfl)) (ez rfl)) (V_eql rfl (et rfl) rfl) rfl rfl ?_
  refine D_v rfl rfl (V_pickT rfl (e2 rfl (et rfl)) (et rfl)) rfl rfl ?_
  refine D_sure (c' := true) rfl rfl (V_mov rfl (et rfl)) (by (try simp only [hm4, hm9, hm14, hm19, hm27, hm36]) <;> decide +kernel) rfl rfl ?_
  refine D_v rfl (wanted_t rfl rfl (et rfl) (ez rfl)) (V_mov rfl (e25 rfl (es rfl (es rfl (es rfl (es rfl (es rfl (es rfl (es rfl (es rfl (es rfl (es rfl (es rfl (es rfl (es rfl (es rfl (es rfl (es rfl (es rfl (es rfl (es rfl (es rfl (es rfl l17_46))))))))))))))))))))))) rfl rfl ?_
  refine D_v rfl (wanted_t rfl rfl (es rfl (et rfl)) (ez rfl)) (V_eql rfl (et rfl) rfl) rfl rfl ?_
  refine D_v rfl rfl (V_pickT rfl (e2 rfl (et rfl)) (et rfl)) rfl rfl ?_
  refine D_v rfl rfl (V_asg rfl (et rfl)) rfl rfl ?_
  refine ZS_none hS45 (Nat.le_refl _) (Nat.le_refl _) (fun s54 hJ54 hL54 hF54 => ?_)
  obtain ⟨ll48, ws48, we48, ⟨hv_48q, H_48q, qv_48q, hq48, hH_48r, cR_48r, hcR_48r, cP_48r, hcP_48r, cQ_48r, hcQ_48r, cG_48r, hcG_48r, hl48r⟩, hm48, k48, e48⟩ := L.all_get (L.all_rest (L.all_rest (L.all_rest (L.all_rest (L.all_rest hF54))))); cases hq48; subst hl48r
  replace hJ54 := hJ54.add hL54 (i := 1) rfl hm48 k48 e48
  obtain ⟨ll49, ws49, we49, ⟨hq49, hl49r⟩, hm49, k49, e49⟩ := L.all_get (L.all_rest (L.all_rest (L.all_rest (L.all_rest hF54)))); cases hq49; subst hl49r
  replace hJ54 := hJ54.add hL54 (i := 2) rfl hm49 k49 e49
  obtain ⟨ll50, ws50, we50, ⟨g50q, hq50, c50r, hc50r, hl50r⟩, hm50, k50, e50⟩ := L.all_get (L.all_rest (L.all_rest (L.all_rest hF54))); cases hq50; subst hl50r
  replace hJ54 := hJ54.add hL54 (i := 29) rfl hm50 k50 e50
  obtain ⟨ll51, ws51, we51, ⟨hq51, hl51r⟩, hm51, k51, e51⟩ := L.all_get (L.all_rest (L.all_rest hF54)); cases hq51; subst hl51r
  replace hJ54 := hJ54.add hL54 (i := 30) rfl hm51 k51 e51
  obtain ⟨ll52, ws52, we52, ⟨g52q, hq52, c52r, hc52r, hl52r⟩, hm52, k52, e52⟩ := L.all_get (L.all_rest hF54); cases hq52; subst hl52r
  replace hJ54 := hJ54.add hL54 (i := 38) rfl hm52 k52 e52
  obtain ⟨ll53, ws53, we53, ⟨hq53, hl53r⟩, hm53, k53, e53⟩ := L.all_get hF54; cases hq53; subst hl53r
  replace hJ54 := hJ54.add hL54 (i := 39) rfl hm53 k53 e53
  have hS54 := hJ54.st; clear hF54 hJ54 hL54
  generalize s54.1 = w54 at *
  replace hS54 : St w NoX [c52r, c50r, cR_48r, cP_48r, cQ_48r, cG_48r, c_41, c_32, cR_19, cP_19, cQ_19, cG_19, c20] w54 := hS54
  refine gen_Q (fun A55 hA55 => ?_)
  have hsz55 := szq hA55
  have hdf55 : A55.defers = [] := by rw [hA55]; simp only [df_put]; exact hdf46
  have l0_55 := lookE hA55 0 (et rfl)
  clear hA55 hsz46 hdf46 l1_46 l2_46 l3_46 l4_46 l5_46 l6_46 l7_46 l10_46 l11_46 l14_46 l15_46 l17_46
  have hS56 : St w NoX [] w54 := hS54.sel [] (by decide) rfl
  refine then_n (hK47 _ _ ?_)
  clear hK47
  refine wp_ret ?_
  refine ret_in (results_1 Try.results11 (rv_tmp l0_55)) hdf55 ?_
  -- leaf 
  rw [show true = decide ((rwE (H_19.map ab) (soR (H_14.map ab) (alR (H_9.map ab) (alR (H_4.map ab) (nwR 2) 0 2 1) 1 0 0) 0 1 1) [0] 0 1) = 10) by first | rfl | (try simp only [hm4, hm9, hm14, hm19, hm27, hm36]) <;> decide +kernel]
  exact ⟨rfl, hS56.fin0⟩

end Go.Proofs.Ytdilbnmaihmgnaa