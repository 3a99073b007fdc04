import Derived.Test.YtnfgeekaeegolaaProg
import Derived.Test.YtnfgeekaeegolaaSl6
import Derived.Test.YtnfgeekaeegolaaPl9c
namespace Go.Proofs.Ytnfgeekaeegolaa
open Go.RowKit Go.Own Go.Own.R Go.Own.S Go.Own.F


set_option maxHeartbeats 4000000 in
theorem kkn_c {a : Int} {w : World}   :
    Calls Try.prog 41 #[.int .i64 a] w fun e w' => e = .returned (.bool (decide (1 ≤ a ∧ a ≤ 1600))) ∧ St w NoX [] w' := by
  refine calls_in 9 Try.func41 rfl rfl (by simp) (fun A0 hsz0 hdf0 hargs => ?_)
  have l0_0 := hargs 0 (.int .i64 a) rfl
  clear hargs; replace hsz0 : SzN A0 9 := ⟨hsz0⟩
  have hS := St.nil w
  refine wp_seq_k (fun K1 hK1 => ?_)
  refine region_in ?_
  refine W_v rfl rfl (V_asg rfl rfl) ?_
  refine W_end ?_
  refine gen_Q (fun A2 hA2 => ?_)
  have hsz2 := szq hA2
  have hdf2 : A2.defers = [] := by rw [hA2]; simp only [df_put]; exact hdf0
  have l0_2 := lookE hA2 0 (es rfl l0_0)
  clear hA2 hsz0 hdf0 l0_0
  refine then_n (hK1 _ _ ?_)
  clear hK1
  refine wp_seq_k (fun K3 hK3 => ?_)
  refine region_in ?_
  refine W_v rfl rfl (V_mov rfl l0_2) ?_
  refine W_v rfl rfl (V_geq rfl (et rfl) rfl) ?_
  refine W_split rfl rfl (V_mov rfl (et rfl)) (fun c4 => ?_) (fun c4 => ?_)
  · skip
    refine W_v rfl (wanted_t rfl rfl (et rfl) (ez rfl)) (V_mov rfl (e2 rfl (es rfl l0_2))) ?_
    refine W_v rfl (wanted_t rfl rfl (es rfl (et rfl)) (ez rfl)) (V_leq rfl (et rfl) rfl) ?_
    refine W_v rfl rfl (V_pickT rfl (e2 rfl (et rfl)) (et rfl)) ?_
    refine W_v rfl rfl (V_asg rfl (et rfl)) ?_
    refine W_end ?_
    refine gen_Q (fun A5 hA5 => ?_)
    have hsz5 := szq hA5
    have hdf5 : A5.defers = [] := by rw [hA5]; simp only [df_put]; exact hdf2
    have l2_5 := lookE hA5 2 (et rfl)
    clear hA5 hsz2 hdf2 l0_2
    refine then_n (hK3 _ _ ?_)
    clear hK3
    refine wp_ret ?_
    refine ret_in (results_1 Try.results41 (rv_tmp l2_5)) hdf5 ?_
    -- leaf T
    rw [show (decide (1 ≤ a ∧ a ≤ 1600)) = decide (a ≤ 1600) by exact decide_eq_decide.2 (by omega)]
    exact ⟨rfl, hS.fin0⟩
  · skip
    refine W_off rfl (wanted_f rfl rfl (et rfl) (ez rfl) rfl) ?_
    refine W_off rfl (wanted_f rfl rfl (es rfl (et rfl)) (ez rfl) rfl) ?_
    refine W_v rfl rfl (V_pickF rfl (e2 rfl (et rfl)) rfl) ?_
    refine W_v rfl rfl (V_asg rfl (et rfl)) ?_
    refine W_end ?_
    refine gen_Q (fun A6 hA6 => ?_)
    have hsz6 := szq hA6
    have hdf6 : A6.defers = [] := by rw [hA6]; simp only [df_put]; exact hdf2
    have l2_6 := lookE hA6 2 (et rfl)
    clear hA6 hsz2 hdf2 l0_2
    refine then_n (hK3 _ _ ?_)
    clear hK3
    refine wp_ret ?_
    refine ret_in (results_1 Try.results41 (rv_tmp l2_6)) hdf6 ?_
    -- leaf F
    rw [show (decide (1 ≤ a ∧ a ≤ 1600)) = false by exact decide_eq_false (by omega)]
    exact ⟨rfl, hS.fin0⟩

set_option maxHeartbeats 4000000 in
theorem qkn_c {a : Int} {w : World}   :
    Calls Try.prog 42 #[.int .i64 a] w fun e w' => e = .returned (.bool (decide (1 ≤ a ∧ a ≤ 1600))) ∧ St w NoX [] w' := by
  refine calls_in 9 Try.func42 rfl rfl (by simp) (fun A0 hsz0 hdf0 hargs => ?_)
  have l0_0 := hargs 0 (.int .i64 a) rfl
  clear hargs; replace hsz0 : SzN A0 9 := ⟨hsz0⟩
  have hS := St.nil w
  refine wp_seq_k (fun K1 hK1 => ?_)
  refine region_in ?_
  refine W_v rfl rfl (V_asg rfl rfl) ?_
  refine W_end ?_
  refine gen_Q (fun A2 hA2 => ?_)
  have hsz2 := szq hA2
  have hdf2 : A2.defers = [] := by rw [hA2]; simp only [df_put]; exact hdf0
  have l0_2 := lookE hA2 0 (es rfl l0_0)
  clear hA2 hsz0 hdf0 l0_0
  refine then_n (hK1 _ _ ?_)
  clear hK1
  refine wp_seq_k (fun K3 hK3 => ?_)
  refine region_in ?_
  refine W_v rfl rfl (V_mov rfl l0_2) ?_
  refine W_v rfl rfl (V_geq rfl (et rfl) rfl) ?_
  refine W_split rfl rfl (V_mov rfl (et rfl)) (fun c4 => ?_) (fun c4 => ?_)
  · skip
    refine W_v rfl (wanted_t rfl rfl (et rfl) (ez rfl)) (V_mov rfl (e2 rfl (es rfl l0_2))) ?_
    refine W_v rfl (wanted_t rfl rfl (es rfl (et rfl)) (ez rfl)) (V_leq rfl (et rfl) rfl) ?_
    refine W_v rfl rfl (V_pickT rfl (e2 rfl (et rfl)) (et rfl)) ?_
    refine W_v rfl rfl (V_asg rfl (et rfl)) ?_
    refine W_end ?_
    refine gen_Q (fun A5 hA5 => ?_)
    have hsz5 := szq hA5
    have hdf5 : A5.defers = [] := by rw [hA5]; simp only [df_put]; exact hdf2
    have l2_5 := lookE hA5 2 (et rfl)
    clear hA5 hsz2 hdf2 l0_2
    refine then_n (hK3 _ _ ?_)
    clear hK3
    refine wp_ret ?_
    refine ret_in (results_1 Try.results42 (rv_tmp l2_5)) hdf5 ?_
    -- leaf T
    rw [show (decide (1 ≤ a ∧ a ≤ 1600)) = decide (a ≤ 1600) by exact decide_eq_decide.2 (by omega)]
    exact ⟨rfl, hS.fin0⟩
  · skip
    refine W_off rfl (wanted_f rfl rfl (et rfl) (ez rfl) rfl) ?_
    refine W_off rfl (wanted_f rfl rfl (es rfl (et rfl)) (ez rfl) rfl) ?_
    refine W_v rfl rfl (V_pickF rfl (e2 rfl (et rfl)) rfl) ?_
    refine W_v rfl rfl (V_asg rfl (et rfl)) ?_
    refine W_end ?_
    refine gen_Q (fun A6 hA6 => ?_)
    have hsz6 := szq hA6
    have hdf6 : A6.defers = [] := by rw [hA6]; simp only [df_put]; exact hdf2
    have l2_6 := lookE hA6 2 (et rfl)
    clear hA6 hsz2 hdf2 l0_2
    refine then_n (hK3 _ _ ?_)
    clear hK3
    refine wp_ret ?_
    refine ret_in (results_1 Try.results42 (rv_tmp l2_6)) hdf6 ?_
    -- leaf F
    rw [show (decide (1 ≤ a ∧ a ≤ 1600)) = false by exact decide_eq_false (by omega)]
    exact ⟨rfl, hS.fin0⟩

set_option maxHeartbeats 4000000 in
theorem qCk9_c {cv : Value} {l : List (Int × Int)} {w : World} (h_cv : Ro w NoX (rl 2 rcC cv l))  :
    Calls Try.prog 28 #[cv] w fun e w' => e = .returned (.tuple #[.int .i64 (ckL l).1, .int .i64 (ckL l).2]) ∧ St w NoX [] w' := by
  refine calls_in 48 Try.func28 rfl rfl (by simp) (fun A0 hsz0 hdf0 hargs => ?_)
  have l0_0 := hargs 0 (cv) rfl
  clear hargs; replace hsz0 : SzN A0 48 := ⟨hsz0⟩
  have hS := St.nil w
  have bh_cv := SlN.le (sl_SlN h_cv.at)
  refine wp_seq_k (fun K1 hK1 => ?_)
  refine region_in ?_
  refine W_v rfl rfl (V_asg rfl rfl) ?_
  refine W_v rfl rfl (V_asg rfl rfl) ?_
  refine W_end ?_
  refine gen_Q (fun A2 hA2 => ?_)
  have hsz2 := szq hA2
  have hdf2 : A2.defers = [] := by rw [hA2]; simp only [df_put]; exact hdf0
  have l0_2 := lookE hA2 0 (es rfl (es rfl l0_0))
  clear hA2 hsz0 hdf0 l0_0
  refine then_n (hK1 _ _ ?_)
  clear hK1
  refine wp_seq_k (fun K3 hK3 => ?_)
  refine wp_seq_k (fun K4 hK4 => ?_)
  refine region_in ?_
  refine W_v rfl rfl (V_mov rfl l0_2) ?_
  refine W_v rfl rfl (V_lenS rfl (et rfl) (sl_SlN h_cv.at) Try.underlying28) ?_
  refine W_v rfl rfl (V_gtr rfl (et rfl) rfl) ?_
  refine W_end ?_
  refine gen_Q (fun A5 hA5 => ?_)
  have hsz5 := szq hA5
  have hdf5 : A5.defers = [] := by rw [hA5]; simp only [df_put]; exact hdf2
  have l0_5 := lookE hA5 0 (e2 rfl (es rfl l0_2))
  have l7_5 := lookE hA5 7 (et rfl)
  clear hA5 hsz2 hdf2 l0_2
  refine then_n (hK4 _ _ ?_)
  clear hK4
  refine cond_dec l7_5 (fun c6 => ?_) (fun c6 => ?_)
  · skip
    refine wp_seq_k (fun K7 hK7 => ?_)
    refine region_in ?_
    refine W_v rfl rfl (V_asg rfl rfl) ?_
    refine W_v rfl rfl (V_asg rfl rfl) ?_
    refine W_end ?_
    refine gen_Q (fun A8 hA8 => ?_)
    have hsz8 := szq hA8
    have hdf8 : A8.defers = [] := by rw [hA8]; simp only [df_put]; exact hdf5
    have l2_8 := lookE hA8 2 (es rfl (et rfl))
    have l3_8 := lookE hA8 3 (et rfl)
    clear hA8 hsz5 hdf5 l0_5 l7_5
    refine then_n (hK7 _ _ ?_)
    clear hK7
    refine wp_ret ?_
    refine then_ret ?_
    refine ret_in (results_2 Try.results28 (rv_tmp l2_8) (rv_tmp l3_8)) hdf8 ?_
    -- leaf T
    have hc := ckL_long c6
    rw [hc]
    exact ⟨rfl, hS.fin0⟩
  · skip
    refine wp_skip ?_
    refine then_n (hK3 _ _ ?_)
    clear hK3
    refine wp_seq_k (fun K9 hK9 => ?_)
    refine wp_seq_k (fun K10 hK10 => ?_)
    refine region_in ?_
    refine W_v rfl rfl (V_asg rfl rfl) ?_
    refine W_end ?_
    refine gen_Q (fun A11 hA11 => ?_)
    have hsz11 := szq hA11
    have hdf11 : A11.defers = [] := by rw [hA11]; simp only [df_put]; exact hdf5
    have l0_11 := lookE hA11 0 (es rfl l0_5)
    have l4_11 := lookE hA11 4 (et rfl)
    clear hA11 hsz5 hdf5 l0_5 l7_5
    refine then_n (hK10 _ _ ?_)
    clear hK10
    refine wp_block ?_
    -- loop 4
    refine loopX (fun mz A' w' => SzN A' 48 ∧ A'.defers = [] ∧ (∃ (k : Nat), (mz = l.length - k) ∧ (k ≤ l.length) ∧ (ckL l = clGo (lst l k) (l.drop k) k) ∧ (EV A' (.tmp 4) = .int .i64 (k : Int)) ∧ (EV A' (.tmp 0) = EV A11 (.tmp 0)) ∧ (St w NoX [] w'))) (l.length - 0) ⟨hsz11, hdf11, 0, rfl, (by omega), (ckL_init c6), ((l4_11).trans (by first | rfl | (simp; done) | (congr 1; omega))), rfl, hS⟩ ?_
    clear hS
    rintro n12 A12 w12 ⟨hsz12, hdf12, k, hm12, hk, hz, l4_12, u0_12, hS12⟩
    have l0_12 := u0_12.trans l0_11
    refine wp_seq_k (fun K13 hK13 => ?_)
    refine wp_seq_k (fun K14 hK14 => ?_)
    refine region_in ?_
    refine W_v rfl rfl (V_mov rfl l4_12) ?_
    refine W_v rfl rfl (V_mov rfl (es rfl l0_12)) ?_
    refine W_v rfl rfl (V_lenS rfl (et rfl) (sl_SlN h_cv.at) Try.underlying28) ?_
    refine W_v rfl rfl (V_lss rfl (e2 rfl (et rfl)) (et rfl)) ?_
    refine W_end ?_
    refine gen_Q (fun A15 hA15 => ?_)
    have hsz15 := szq hA15
    have hdf15 : A15.defers = [] := by rw [hA15]; simp only [df_put]; exact hdf12
    have l0_15 := lookE hA15 0 (e3 rfl (es rfl l0_12))
    have l4_15 := lookE hA15 4 (e3 rfl (es rfl l4_12))
    have l11_15 := lookE hA15 11 (et rfl)
    clear hA15 hsz12 hdf12 l4_12 l0_12
    refine then_n (hK14 _ _ ?_)
    clear hK14
    refine cond_dec l11_15 (fun c16 => ?_) (fun c16 => ?_)
    · skip
      refine wp_skip ?_
      refine then_n (hK13 _ _ ?_)
      clear hK13
      refine wp_seq_k (fun K17 hK17 => ?_)
      refine wp_block ?_
      refine wp_seq_k (fun K18 hK18 => ?_)
      refine wp_seq_k (fun K19 hK19 => ?_)
      refine region_in ?_
      refine W_v rfl rfl (V_mov rfl l0_15) ?_
      refine W_v rfl rfl (V_mov rfl (es rfl l4_15)) ?_
      have k20 : k < l.length := by first | omega | (simp only [List.length_cons, List.length_nil]; omega) | (simp only [List.length_set]; omega) | decide
      obtain ⟨y20, hy20⟩ := get_some (xs := l) (k := k) k20
      obtain ⟨B20, O20, C20, hv20⟩ := (SlN.blk (sl_SlN h_cv.at) (by first | omega | (simp only [List.length_cons, List.length_nil]; omega) | (simp only [List.length_set]; omega) | decide))
      refine W_v rfl rfl (V_ixS (off := O20 + k * 2) 2 (k) rfl (es rfl (et rfl)) (et rfl) hv20 (by omega) k20 Try.underlying28 (by kernel_rfl) rfl) ?_
      refine W_v rfl rfl (V_fa (off' := O20 + k * 2 + 0) rfl (et rfl) Try.underlying42 rfl (by decide +kernel) rfl) ?_
      refine W_r rfl rfl (VR_ldC (v := .int .i64 (y20.1)) rfl (et rfl) (SlN.row rcC_len (sl_SlN (hS12.ro h_cv)) hv20 hy20 rfl 0 _ rfl) Try.underlying3 rfl) ?_
      refine W_call rfl rfl rfl Try.func42 (by kernel_rfl) rfl (args1 (et rfl)) (qkn_c (a := y20.1)  ) ?_
      rintro _ w21 ⟨rfl, hP21⟩
      refine ⟨_, rfl, ?_⟩
      have hS21 := hS12.join hP21
      replace hS21 : St w NoX [] w21 := hS21
      refine W_v rfl rfl (V_notd rfl (et rfl)) ?_
      refine W_split rfl rfl (V_mov rfl (et rfl)) (fun c22 => ?_) (fun c22 => ?_)
      · skip
        refine W_off rfl (wanted_f rfl rfl (et rfl) (ez rfl) rfl) ?_
        refine W_off rfl (wanted_f rfl rfl (es rfl (et rfl)) (ez rfl) rfl) ?_
        refine W_off rfl (wanted_f rfl rfl (e2 rfl (et rfl)) (ez rfl) rfl) ?_
        refine W_off rfl (wanted_f rfl rfl (e3 rfl (et rfl)) (ez rfl) rfl) ?_
        refine W_off rfl (wanted_f rfl rfl (e4 rfl (et rfl)) (ez rfl) rfl) ?_
        refine W_off rfl (wanted_f rfl rfl (e5 rfl (et rfl)) (ez rfl) rfl) ?_
        refine W_off rfl (wanted_f rfl rfl (e6 rfl (et rfl)) (ez rfl) rfl) ?_
        refine W_v rfl rfl (V_pickT rfl (e7 rfl (et rfl)) rfl) ?_
        refine W_end ?_
        refine gen_Q (fun A23 hA23 => ?_)
        have hsz23 := szq hA23
        have hdf23 : A23.defers = [] := by rw [hA23]; simp only [df_put]; exact hdf15
        have l0_23 := lookE hA23 0 (e15 rfl (es rfl l0_15))
        have l4_23 := lookE hA23 4 (e15 rfl (es rfl l4_15))
        have l22_23 := lookE hA23 22 (e7 rfl (et rfl))
        have l23_23 := lookE hA23 23 (e6 rfl (et rfl))
        have l24_23 := lookE hA23 24 (e5 rfl (et rfl))
        have l25_23 := lookE hA23 25 (e4 rfl (et rfl))
        have l26_23 := lookE hA23 26 (e3 rfl (et rfl))
        have l27_23 := lookE hA23 27 (e2 rfl (et rfl))
        have l28_23 := lookE hA23 28 (es rfl (et rfl))
        have l29_23 := lookE hA23 29 (et rfl)
        clear hA23 hsz15 hdf15 l0_15 l4_15 l11_15
        refine then_n (hK19 _ _ ?_)
        clear hK19
        refine cond_t l29_23 ?_
        refine wp_seq_k (fun K24 hK24 => ?_)
        refine region_in ?_
        refine W_v rfl rfl (V_mov rfl l4_23) ?_
        refine W_v rfl rfl (V_asg rfl (et rfl)) ?_
        refine W_v rfl rfl (V_asg rfl rfl) ?_
        refine W_end ?_
        refine gen_Q (fun A25 hA25 => ?_)
        have hsz25 := szq hA25
        have hdf25 : A25.defers = [] := by rw [hA25]; simp only [df_put]; exact hdf23
        have l2_25 := lookE hA25 2 (es rfl (et rfl))
        have l3_25 := lookE hA25 3 (et rfl)
        clear hA25 hsz23 hdf23 l0_23 l4_23 l22_23 l23_23 l24_23 l25_23 l26_23 l27_23 l28_23 l29_23
        refine then_n (hK24 _ _ ?_)
        clear hK24
        refine wp_ret ?_
        refine then_ret ?_
        refine inb_ret ?_
        refine then_ret ?_
        refine then_ret ?_
        refine inb_ret ?_
        refine then_ret ?_
        refine ret_in (results_2 Try.results28 (rv_tmp l2_25) (rv_tmp l3_25)) hdf25 ?_
        -- leaf FTT
        have hc := cl_rng hz hy20 (by unfold okC; omega)
        rw [hc]
        exact ⟨rfl, hS21.fin0⟩
      · skip
        refine W_v rfl (wanted_t rfl rfl (et rfl) (ez rfl)) (V_mov rfl (e7 rfl (es rfl l0_15))) ?_
        refine W_v rfl (wanted_t rfl rfl (es rfl (et rfl)) (ez rfl)) (V_mov rfl (e8 rfl (es rfl l4_15))) ?_
        refine W_v rfl (wanted_t rfl rfl (e2 rfl (et rfl)) (ez rfl)) (V_ixS (off := O20 + k * 2) 2 (k) rfl (es rfl (et rfl)) (et rfl) hv20 (by omega) k20 Try.underlying28 (by kernel_rfl) rfl) ?_
        refine W_v rfl (wanted_t rfl rfl (e3 rfl (et rfl)) (ez rfl)) (V_fa (off' := O20 + k * 2 + 1) rfl (et rfl) Try.underlying42 rfl (by decide +kernel) rfl) ?_
        refine W_r rfl (wanted_t rfl rfl (e4 rfl (et rfl)) (ez rfl)) (VR_ldC (v := .int .i64 (y20.2)) rfl (et rfl) (SlN.row rcC_len (sl_SlN (hS21.ro h_cv)) hv20 hy20 rfl 1 _ rfl) Try.underlying3 rfl) ?_
        refine W_call rfl (wanted_t rfl rfl (e5 rfl (et rfl)) (ez rfl)) rfl Try.func42 (by kernel_rfl) rfl (args1 (et rfl)) (qkn_c (a := y20.2)  ) ?_
        rintro _ w27 ⟨rfl, hP27⟩
        refine ⟨_, rfl, ?_⟩
        have hS27 := hS21.join hP27
        replace hS27 : St w NoX [] w27 := hS27
        refine W_v rfl (wanted_t rfl rfl (e6 rfl (et rfl)) (ez rfl)) (V_notd rfl (et rfl)) ?_
        refine W_v rfl rfl (V_pickF rfl (e7 rfl (et rfl)) (et rfl)) ?_
        refine W_end ?_
        refine gen_Q (fun A28 hA28 => ?_)
        have hsz28 := szq hA28
        have hdf28 : A28.defers = [] := by rw [hA28]; simp only [df_put]; exact hdf15
        have l0_28 := lookE hA28 0 (e15 rfl (es rfl l0_15))
        have l4_28 := lookE hA28 4 (e15 rfl (es rfl l4_15))
        have l22_28 := lookE hA28 22 (e7 rfl (et rfl))
        have l23_28 := lookE hA28 23 (e6 rfl (et rfl))
        have l24_28 := lookE hA28 24 (e5 rfl (et rfl))
        have l25_28 := lookE hA28 25 (e4 rfl (et rfl))
        have l26_28 := lookE hA28 26 (e3 rfl (et rfl))
        have l27_28 := lookE hA28 27 (e2 rfl (et rfl))
        have l28_28 := lookE hA28 28 (es rfl (et rfl))
        have l29_28 := lookE hA28 29 (et rfl)
        clear hA28 hsz15 hdf15 l0_15 l4_15 l11_15
        refine then_n (hK19 _ _ ?_)
        clear hK19
        refine cond_dec l29_28 (fun c29 => ?_) (fun c29 => ?_)
        · skip
          refine wp_seq_k (fun K30 hK30 => ?_)
          refine region_in ?_
          refine W_v rfl rfl (V_mov rfl l4_28) ?_
          refine W_v rfl rfl (V_asg rfl (et rfl)) ?_
          refine W_v rfl rfl (V_asg rfl rfl) ?_
          refine W_end ?_
          refine gen_Q (fun A31 hA31 => ?_)
          have hsz31 := szq hA31
          have hdf31 : A31.defers = [] := by rw [hA31]; simp only [df_put]; exact hdf28
          have l2_31 := lookE hA31 2 (es rfl (et rfl))
          have l3_31 := lookE hA31 3 (et rfl)
          clear hA31 hsz28 hdf28 l0_28 l4_28 l22_28 l23_28 l24_28 l25_28 l26_28 l27_28 l28_28 l29_28
          refine then_n (hK30 _ _ ?_)
          clear hK30
          refine wp_ret ?_
          refine then_ret ?_
          refine inb_ret ?_
          refine then_ret ?_
          refine then_ret ?_
          refine inb_ret ?_
          refine then_ret ?_
          refine ret_in (results_2 Try.results28 (rv_tmp l2_31) (rv_tmp l3_31)) hdf31 ?_
          -- leaf FTFT
          have hc := cl_rng hz hy20 (by unfold okC; omega)
          rw [hc]
          exact ⟨rfl, hS27.fin0⟩
        · skip
          refine wp_skip ?_
          refine then_n (hK18 _ _ ?_)
          clear hK18
          refine wp_seq_k (fun K32 hK32 => ?_)
          refine region_monoS 16 16 [] (by kernel_rfl) (by kernel_rfl) ?_
          refine D_v rfl rfl (V_mov rfl l4_28) rfl rfl ?_
          refine D_v rfl rfl (V_gtr rfl (et rfl) rfl) rfl rfl ?_
          refine D_split rfl rfl (V_mov rfl (et rfl)) rfl rfl (fun c33 => ?_) (fun c33 => ?_)
          · skip
            refine D_v rfl (wanted_t rfl rfl (et rfl) (ez rfl)) (V_mov rfl (e2 rfl (es rfl l0_28))) rfl rfl ?_
            refine D_v rfl (wanted_t rfl rfl (es rfl (et rfl)) (ez rfl)) (V_mov rfl (e3 rfl (es rfl l4_28))) rfl rfl ?_
            refine D_v rfl (wanted_t rfl rfl (e2 rfl (et rfl)) (ez rfl)) (V_ixS (off := O20 + k * 2) 2 (k) rfl (es rfl (et rfl)) (et rfl) hv20 (by omega) k20 Try.underlying28 (by kernel_rfl) rfl) rfl rfl ?_
            refine D_v rfl (wanted_t rfl rfl (e3 rfl (et rfl)) (ez rfl)) (V_fa (off' := O20 + k * 2 + 0) rfl (et rfl) Try.underlying42 rfl (by decide +kernel) rfl) rfl rfl ?_
            refine D_r rfl (wanted_t rfl rfl (e4 rfl (et rfl)) (ez rfl)) (by kernel_rfl) (fun sx hx hF => (VR_ldC (v := .int .i64 (y20.1)) rfl (et rfl) (SlN.row rcC_len (sl_SlN ((hS27.grow hx).ro h_cv)) hv20 hy20 rfl 0 _ rfl) Try.underlying3 rfl)) rfl rfl ?_
            refine D_v rfl (wanted_t rfl rfl (e5 rfl (et rfl)) (ez rfl)) (V_mov rfl (e7 rfl (es rfl l0_28))) rfl rfl ?_
            refine D_v rfl (wanted_t rfl rfl (e6 rfl (et rfl)) (ez rfl)) (V_mov rfl (e8 rfl (es rfl l4_28))) rfl rfl ?_
            refine D_v rfl (wanted_t rfl rfl (e7 rfl (et rfl)) (ez rfl)) (V_sb rfl (et rfl) rfl (by omega) (by omega)) rfl rfl ?_
            have k35 : (k - 1) < l.length := by first | omega | (simp only [List.length_cons, List.length_nil]; omega) | (simp only [List.length_set]; omega) | decide
            obtain ⟨y35, hy35⟩ := get_some (xs := l) (k := (k - 1)) k35
            refine D_v rfl (wanted_t rfl rfl (e8 rfl (et rfl)) (ez rfl)) (V_ixS (off := O20 + (k - 1) * 2) 2 ((k - 1)) rfl (e2 rfl (et rfl)) (et rfl) hv20 (by omega) k35 Try.underlying28 (by kernel_rfl) rfl) rfl rfl ?_
            refine D_v rfl (wanted_t rfl rfl (e9 rfl (et rfl)) (ez rfl)) (V_fa (off' := O20 + (k - 1) * 2 + 0) rfl (et rfl) Try.underlying42 rfl (by decide +kernel) rfl) rfl rfl ?_
            refine D_r rfl (wanted_t rfl rfl (e10 rfl (et rfl)) (ez rfl)) (by kernel_rfl) (fun sx hx hF => (VR_ldC (v := .int .i64 (y35.1)) rfl (et rfl) (SlN.row rcC_len (sl_SlN ((hS27.grow hx).ro h_cv)) hv20 hy35 rfl 0 _ rfl) Try.underlying3 rfl)) rfl rfl ?_
            refine D_v rfl (wanted_t rfl rfl (e11 rfl (et rfl)) (ez rfl)) (V_leq rfl (e6 rfl (et rfl)) (et rfl)) rfl rfl ?_
            refine D_v rfl rfl (V_pickT rfl (e12 rfl (et rfl)) (et rfl)) rfl rfl ?_
            refine ZS_none hS27 (Nat.le_refl _) (Nat.le_refl _) (fun s36 hJ36 hL36 hF36 => ?_)
            have hS36 := hJ36.st; clear hF36 hJ36 hL36
            generalize s36.1 = w36 at *
            replace hS36 : St w NoX [] w36 := hS36
            refine gen_Q (fun A37 hA37 => ?_)
            have hsz37 := szq hA37
            have hdf37 : A37.defers = [] := by rw [hA37]; simp only [df_put]; exact hdf28
            have l0_37 := lookE hA37 0 (e15 rfl (es rfl l0_28))
            have l4_37 := lookE hA37 4 (e15 rfl (es rfl l4_28))
            have l22_37 := lookE hA37 22 (e15 rfl (es rfl l22_28))
            have l23_37 := lookE hA37 23 (e15 rfl (es rfl l23_28))
            have l24_37 := lookE hA37 24 (e15 rfl (es rfl l24_28))
            have l25_37 := lookE hA37 25 (e15 rfl (es rfl l25_28))
            have l26_37 := lookE hA37 26 (e15 rfl (es rfl l26_28))
            have l27_37 := lookE hA37 27 (e15 rfl (es rfl l27_28))
            have l28_37 := lookE hA37 28 (e15 rfl (es rfl l28_28))
            have l34_37 := lookE hA37 34 (e12 rfl (et rfl))
            have l35_37 := lookE hA37 35 (e11 rfl (et rfl))
            have l36_37 := lookE hA37 36 (e10 rfl (et rfl))
            have l37_37 := lookE hA37 37 (e9 rfl (et rfl))
            have l38_37 := lookE hA37 38 (e8 rfl (et rfl))
            have l39_37 := lookE hA37 39 (e7 rfl (et rfl))
            have l40_37 := lookE hA37 40 (e6 rfl (et rfl))
            have l41_37 := lookE hA37 41 (e5 rfl (et rfl))
            have l42_37 := lookE hA37 42 (e4 rfl (et rfl))
            have l43_37 := lookE hA37 43 (e3 rfl (et rfl))
            have l44_37 := lookE hA37 44 (e2 rfl (et rfl))
            have l45_37 := lookE hA37 45 (es rfl (et rfl))
            have l46_37 := lookE hA37 46 (et rfl)
            clear hA37 hsz28 hdf28 l0_28 l4_28 l22_28 l23_28 l24_28 l25_28 l26_28 l27_28 l28_28 l29_28
            refine then_n (hK32 _ _ ?_)
            clear hK32
            refine cond_dec l46_37 (fun c38 => ?_) (fun c38 => ?_)
            · skip
              refine wp_seq_k (fun K39 hK39 => ?_)
              refine region_in ?_
              refine W_v rfl rfl (V_mov rfl l4_37) ?_
              refine W_v rfl rfl (V_asg rfl (et rfl)) ?_
              refine W_v rfl rfl (V_asg rfl rfl) ?_
              refine W_end ?_
              refine gen_Q (fun A40 hA40 => ?_)
              have hsz40 := szq hA40
              have hdf40 : A40.defers = [] := by rw [hA40]; simp only [df_put]; exact hdf37
              have l2_40 := lookE hA40 2 (es rfl (et rfl))
              have l3_40 := lookE hA40 3 (et rfl)
              clear hA40 hsz37 hdf37 l0_37 l4_37 l22_37 l23_37 l24_37 l25_37 l26_37 l27_37 l28_37 l34_37 l35_37 l36_37 l37_37 l38_37 l39_37 l40_37 l41_37 l42_37 l43_37 l44_37 l45_37 l46_37
              refine then_n (hK39 _ _ ?_)
              clear hK39
              refine wp_ret ?_
              refine inb_ret ?_
              refine then_ret ?_
              refine then_ret ?_
              refine inb_ret ?_
              refine then_ret ?_
              refine ret_in (results_2 Try.results28 (rv_tmp l2_40) (rv_tmp l3_40)) hdf40 ?_
              -- leaf FTFFTT
              have hc := cl_form hz hy20 (by unfold okC; omega) (by rw [lst_prev (by omega) hy35]; omega)
              rw [hc]
              exact ⟨rfl, hS36.fin0⟩
            · skip
              refine wp_skip ?_
              refine inb_n ?_
              refine then_n (hK17 _ _ ?_)
              clear hK17
              refine region_in ?_
              refine W_v rfl rfl (V_mov rfl l4_37) ?_
              refine W_v rfl rfl (V_add rfl (et rfl) rfl (by omega) (by omega)) ?_
              refine W_v rfl rfl (V_asg rfl (et rfl)) ?_
              refine W_end ?_
              refine gen_Q (fun A41 hA41 => ?_)
              have hsz41 := szq hA41
              have hdf41 : A41.defers = [] := by rw [hA41]; simp only [df_put]; exact hdf37
              have l0_41 := lookE hA41 0 (e2 rfl (es rfl l0_37))
              have l4_41 := lookE hA41 4 (et rfl)
              have l22_41 := lookE hA41 22 (e2 rfl (es rfl l22_37))
              have l23_41 := lookE hA41 23 (e2 rfl (es rfl l23_37))
              have l24_41 := lookE hA41 24 (e2 rfl (es rfl l24_37))
              have l25_41 := lookE hA41 25 (e2 rfl (es rfl l25_37))
              have l26_41 := lookE hA41 26 (e2 rfl (es rfl l26_37))
              have l27_41 := lookE hA41 27 (e2 rfl (es rfl l27_37))
              have l28_41 := lookE hA41 28 (e2 rfl (es rfl l28_37))
              have l34_41 := lookE hA41 34 (e2 rfl (es rfl l34_37))
              have l35_41 := lookE hA41 35 (e2 rfl (es rfl l35_37))
              have l36_41 := lookE hA41 36 (e2 rfl (es rfl l36_37))
              have l37_41 := lookE hA41 37 (e2 rfl (es rfl l37_37))
              have l38_41 := lookE hA41 38 (e2 rfl (es rfl l38_37))
              have l39_41 := lookE hA41 39 (e2 rfl (es rfl l39_37))
              have l40_41 := lookE hA41 40 (e2 rfl (es rfl l40_37))
              have l41_41 := lookE hA41 41 (e2 rfl (es rfl l41_37))
              have l42_41 := lookE hA41 42 (e2 rfl (es rfl l42_37))
              have l43_41 := lookE hA41 43 (e2 rfl (es rfl l43_37))
              have l44_41 := lookE hA41 44 (e2 rfl (es rfl l44_37))
              have l45_41 := lookE hA41 45 (e2 rfl (es rfl l45_37))
              clear hA41 hsz37 hdf37 l0_37 l4_37 l22_37 l23_37 l24_37 l25_37 l26_37 l27_37 l28_37 l34_37 l35_37 l36_37 l37_37 l38_37 l39_37 l40_37 l41_37 l42_37 l43_37 l44_37 l45_37 l46_37
              refine then_n ⟨l.length - (k + 1), by simp only [hm12]; omega, hsz41, hdf41, (k + 1), rfl, (by omega), (cl_step hz hy20 (by unfold okC; omega) (by rw [lst_prev (by omega) hy35]; omega)), ((l4_41).trans (by first | rfl | (simp; done) | (congr 1; omega))), ((l0_41).trans l0_11.symm), hS36⟩
          · skip
            refine D_off rfl (wanted_f rfl rfl (et rfl) (ez rfl) rfl) rfl ?_
            refine D_off rfl (wanted_f rfl rfl (es rfl (et rfl)) (ez rfl) rfl) rfl ?_
            refine D_off rfl (wanted_f rfl rfl (e2 rfl (et rfl)) (ez rfl) rfl) rfl ?_
            refine D_off rfl (wanted_f rfl rfl (e3 rfl (et rfl)) (ez rfl) rfl) rfl ?_
            refine D_off rfl (wanted_f rfl rfl (e4 rfl (et rfl)) (ez rfl) rfl) rfl ?_
            refine D_off rfl (wanted_f rfl rfl (e5 rfl (et rfl)) (ez rfl) rfl) rfl ?_
            refine D_off rfl (wanted_f rfl rfl (e6 rfl (et rfl)) (ez rfl) rfl) rfl ?_
            refine D_off rfl (wanted_f rfl rfl (e7 rfl (et rfl)) (ez rfl) rfl) rfl ?_
            refine D_off rfl (wanted_f rfl rfl (e8 rfl (et rfl)) (ez rfl) rfl) rfl ?_
            refine D_off rfl (wanted_f rfl rfl (e9 rfl (et rfl)) (ez rfl) rfl) rfl ?_
            refine D_off rfl (wanted_f rfl rfl (e10 rfl (et rfl)) (ez rfl) rfl) rfl ?_
            refine D_off rfl (wanted_f rfl rfl (e11 rfl (et rfl)) (ez rfl) rfl) rfl ?_
            refine D_v rfl rfl (V_pickF rfl (e12 rfl (et rfl)) rfl) rfl rfl ?_
            refine ZS_none hS27 (Nat.le_refl _) (Nat.le_refl _) (fun s42 hJ42 hL42 hF42 => ?_)
            have hS42 := hJ42.st; clear hF42 hJ42 hL42
            generalize s42.1 = w42 at *
            replace hS42 : St w NoX [] w42 := hS42
            refine gen_Q (fun A43 hA43 => ?_)
            have hsz43 := szq hA43
            have hdf43 : A43.defers = [] := by rw [hA43]; simp only [df_put]; exact hdf28
            have l0_43 := lookE hA43 0 (e15 rfl (es rfl l0_28))
            have l4_43 := lookE hA43 4 (e15 rfl (es rfl l4_28))
            have l22_43 := lookE hA43 22 (e15 rfl (es rfl l22_28))
            have l23_43 := lookE hA43 23 (e15 rfl (es rfl l23_28))
            have l24_43 := lookE hA43 24 (e15 rfl (es rfl l24_28))
            have l25_43 := lookE hA43 25 (e15 rfl (es rfl l25_28))
            have l26_43 := lookE hA43 26 (e15 rfl (es rfl l26_28))
            have l27_43 := lookE hA43 27 (e15 rfl (es rfl l27_28))
            have l28_43 := lookE hA43 28 (e15 rfl (es rfl l28_28))
            have l34_43 := lookE hA43 34 (e12 rfl (et rfl))
            have l35_43 := lookE hA43 35 (e11 rfl (et rfl))
            have l36_43 := lookE hA43 36 (e10 rfl (et rfl))
            have l37_43 := lookE hA43 37 (e9 rfl (et rfl))
            have l38_43 := lookE hA43 38 (e8 rfl (et rfl))
            have l39_43 := lookE hA43 39 (e7 rfl (et rfl))
            have l40_43 := lookE hA43 40 (e6 rfl (et rfl))
            have l41_43 := lookE hA43 41 (e5 rfl (et rfl))
            have l42_43 := lookE hA43 42 (e4 rfl (et rfl))
            have l43_43 := lookE hA43 43 (e3 rfl (et rfl))
            have l44_43 := lookE hA43 44 (e2 rfl (et rfl))
            have l45_43 := lookE hA43 45 (es rfl (et rfl))
            have l46_43 := lookE hA43 46 (et rfl)
            clear hA43 hsz28 hdf28 l0_28 l4_28 l22_28 l23_28 l24_28 l25_28 l26_28 l27_28 l28_28 l29_28
            refine then_n (hK32 _ _ ?_)
            clear hK32
            refine cond_f l46_43 ?_
            refine wp_skip ?_
            refine inb_n ?_
            refine then_n (hK17 _ _ ?_)
            clear hK17
            refine region_in ?_
            refine W_v rfl rfl (V_mov rfl l4_43) ?_
            refine W_v rfl rfl (V_add rfl (et rfl) rfl (by omega) (by omega)) ?_
            refine W_v rfl rfl (V_asg rfl (et rfl)) ?_
            refine W_end ?_
            refine gen_Q (fun A44 hA44 => ?_)
            have hsz44 := szq hA44
            have hdf44 : A44.defers = [] := by rw [hA44]; simp only [df_put]; exact hdf43
            have l0_44 := lookE hA44 0 (e2 rfl (es rfl l0_43))
            have l4_44 := lookE hA44 4 (et rfl)
            have l22_44 := lookE hA44 22 (e2 rfl (es rfl l22_43))
            have l23_44 := lookE hA44 23 (e2 rfl (es rfl l23_43))
            have l24_44 := lookE hA44 24 (e2 rfl (es rfl l24_43))
            have l25_44 := lookE hA44 25 (e2 rfl (es rfl l25_43))
            have l26_44 := lookE hA44 26 (e2 rfl (es rfl l26_43))
            have l27_44 := lookE hA44 27 (e2 rfl (es rfl l27_43))
            have l28_44 := lookE hA44 28 (e2 rfl (es rfl l28_43))
            have l34_44 := lookE hA44 34 (e2 rfl (es rfl l34_43))
            have l35_44 := lookE hA44 35 (e2 rfl (es rfl l35_43))
            have l36_44 := lookE hA44 36 (e2 rfl (es rfl l36_43))
            have l37_44 := lookE hA44 37 (e2 rfl (es rfl l37_43))
            have l38_44 := lookE hA44 38 (e2 rfl (es rfl l38_43))
            have l39_44 := lookE hA44 39 (e2 rfl (es rfl l39_43))
            have l40_44 := lookE hA44 40 (e2 rfl (es rfl l40_43))
            have l41_44 := lookE hA44 41 (e2 rfl (es rfl l41_43))
            have l42_44 := lookE hA44 42 (e2 rfl (es rfl l42_43))
            have l43_44 := lookE hA44 43 (e2 rfl (es rfl l43_43))
            have l44_44 := lookE hA44 44 (e2 rfl (es rfl l44_43))
            have l45_44 := lookE hA44 45 (e2 rfl (es rfl l45_43))
            clear hA44 hsz43 hdf43 l0_43 l4_43 l22_43 l23_43 l24_43 l25_43 l26_43 l27_43 l28_43 l34_43 l35_43 l36_43 l37_43 l38_43 l39_43 l40_43 l41_43 l42_43 l43_43 l44_43 l45_43 l46_43
            refine then_n ⟨l.length - (k + 1), by simp only [hm12]; omega, hsz44, hdf44, (k + 1), rfl, (by omega), (cl_step hz hy20 (by unfold okC; omega) (by unfold lst; rw [if_pos (by omega)]; omega)), ((l4_44).trans (by first | rfl | (simp; done) | (congr 1; omega))), ((l0_44).trans l0_11.symm), hS42⟩
    · skip
      refine wp_exit ?_
      refine then_exit ?_
      refine then_exit ?_
      refine inb_hit ?_
      refine then_n (hK9 _ _ ?_)
      clear hK9
      refine wp_seq_k (fun K45 hK45 => ?_)
      refine region_in ?_
      refine W_v rfl rfl (V_asg rfl rfl) ?_
      refine W_v rfl rfl (V_asg rfl rfl) ?_
      refine W_end ?_
      refine gen_Q (fun A46 hA46 => ?_)
      have hsz46 := szq hA46
      have hdf46 : A46.defers = [] := by rw [hA46]; simp only [df_put]; exact hdf15
      have l2_46 := lookE hA46 2 (es rfl (et rfl))
      have l3_46 := lookE hA46 3 (et rfl)
      clear hA46 hsz15 hdf15 l0_15 l4_15 l11_15
      refine then_n (hK45 _ _ ?_)
      clear hK45
      refine wp_ret ?_
      refine ret_in (results_2 Try.results28 (rv_tmp l2_46) (rv_tmp l3_46)) hdf46 ?_
      -- leaf FF
      have hc := cl_done hz (by omega)
      rw [hc]
      exact ⟨rfl, hS12.fin0⟩

set_option maxHeartbeats 4000000 in
theorem qSm9_c {cv : Value} {l : List (Int × Int)} {dv : Value} {m : List (Int × Int)} {w : World} (h_cv : Ro w NoX (rl 2 rcC cv l)) (h_dv : Ro w NoX (rl 2 rcC dv m))  :
    Calls Try.prog 17 #[cv, dv] w fun e w' => e = .returned (.bool (decide (l = m))) ∧ St w NoX [] w' := by
  refine calls_in 26 Try.func17 rfl rfl (by simp) (fun A0 hsz0 hdf0 hargs => ?_)
  have l0_0 := hargs 0 (cv) rfl
  have l1_0 := hargs 1 (dv) rfl
  clear hargs; replace hsz0 : SzN A0 26 := ⟨hsz0⟩
  have hS := St.nil w
  have bh_cv := SlN.le (sl_SlN h_cv.at)
  have bh_dv := SlN.le (sl_SlN h_dv.at)
  refine wp_seq_k (fun K1 hK1 => ?_)
  refine region_in ?_
  refine W_v rfl rfl (V_asg rfl rfl) ?_
  refine W_end ?_
  refine gen_Q (fun A2 hA2 => ?_)
  have hsz2 := szq hA2
  have hdf2 : A2.defers = [] := by rw [hA2]; simp only [df_put]; exact hdf0
  have l0_2 := lookE hA2 0 (es rfl l0_0)
  have l1_2 := lookE hA2 1 (es rfl l1_0)
  clear hA2 hsz0 hdf0 l0_0 l1_0
  refine then_n (hK1 _ _ ?_)
  clear hK1
  refine wp_seq_k (fun K3 hK3 => ?_)
  refine wp_seq_k (fun K4 hK4 => ?_)
  refine region_in ?_
  refine W_v rfl rfl (V_mov rfl l0_2) ?_
  refine W_v rfl rfl (V_lenS rfl (et rfl) (sl_SlN h_cv.at) Try.underlying28) ?_
  refine W_v rfl rfl (V_mov rfl (es rfl (es rfl l1_2))) ?_
  refine W_v rfl rfl (V_lenS rfl (et rfl) (sl_SlN h_dv.at) Try.underlying28) ?_
  refine W_v rfl rfl (V_neq rfl (e2 rfl (et rfl)) (et rfl)) ?_
  refine W_end ?_
  refine gen_Q (fun A5 hA5 => ?_)
  have hsz5 := szq hA5
  have hdf5 : A5.defers = [] := by rw [hA5]; simp only [df_put]; exact hdf2
  have l0_5 := lookE hA5 0 (e4 rfl (es rfl l0_2))
  have l1_5 := lookE hA5 1 (e4 rfl (es rfl l1_2))
  have l10_5 := lookE hA5 10 (et rfl)
  clear hA5 hsz2 hdf2 l0_2 l1_2
  refine then_n (hK4 _ _ ?_)
  clear hK4
  refine cond_dec l10_5 (fun c6 => ?_) (fun c6 => ?_)
  · skip
    refine wp_seq_k (fun K7 hK7 => ?_)
    refine region_in ?_
    refine W_v rfl rfl (V_asg rfl rfl) ?_
    refine W_end ?_
    refine gen_Q (fun A8 hA8 => ?_)
    have hsz8 := szq hA8
    have hdf8 : A8.defers = [] := by rw [hA8]; simp only [df_put]; exact hdf5
    have l4_8 := lookE hA8 4 (et rfl)
    clear hA8 hsz5 hdf5 l0_5 l1_5 l10_5
    refine then_n (hK7 _ _ ?_)
    clear hK7
    refine wp_ret ?_
    refine then_ret ?_
    refine ret_in (results_1 Try.results17 (rv_tmp l4_8)) hdf8 ?_
    -- leaf T
    rw [decide_eq_false (show ¬ l = m from fun e => absurd (congrArg List.length e) (by omega))]
    exact ⟨rfl, hS.fin0⟩
  · skip
    have hl : l.length = m.length := by omega
    refine wp_skip ?_
    refine then_n (hK3 _ _ ?_)
    clear hK3
    refine wp_seq_k (fun K9 hK9 => ?_)
    refine wp_seq_k (fun K10 hK10 => ?_)
    refine region_in ?_
    refine W_v rfl rfl (V_asg rfl rfl) ?_
    refine W_end ?_
    refine gen_Q (fun A11 hA11 => ?_)
    have hsz11 := szq hA11
    have hdf11 : A11.defers = [] := by rw [hA11]; simp only [df_put]; exact hdf5
    have l0_11 := lookE hA11 0 (es rfl l0_5)
    have l1_11 := lookE hA11 1 (es rfl l1_5)
    have l5_11 := lookE hA11 5 (et rfl)
    clear hA11 hsz5 hdf5 l0_5 l1_5 l10_5
    refine then_n (hK10 _ _ ?_)
    clear hK10
    refine wp_block ?_
    -- loop 4
    refine loopX (fun mz A' w' => SzN A' 26 ∧ A'.defers = [] ∧ (∃ (k : Nat), (mz = l.length - k) ∧ (k ≤ l.length) ∧ (∀ i, i < k → l[i]? = m[i]?) ∧ (EV A' (.tmp 5) = .int .i64 (k : Int)) ∧ (EV A' (.tmp 0) = EV A11 (.tmp 0)) ∧ (EV A' (.tmp 1) = EV A11 (.tmp 1)) ∧ (St w NoX [] w'))) (l.length - 0) ⟨hsz11, hdf11, 0, rfl, (by omega), (fun i hi => by omega), ((l5_11).trans (by first | rfl | (simp; done) | (congr 1; omega))), rfl, rfl, hS⟩ ?_
    clear hS
    rintro n12 A12 w12 ⟨hsz12, hdf12, k, hm12, hk, hz, l5_12, u0_12, u1_12, hS12⟩
    have l0_12 := u0_12.trans l0_11
    have l1_12 := u1_12.trans l1_11
    refine wp_seq_k (fun K13 hK13 => ?_)
    refine wp_seq_k (fun K14 hK14 => ?_)
    refine region_in ?_
    refine W_v rfl rfl (V_mov rfl l5_12) ?_
    refine W_v rfl rfl (V_mov rfl (es rfl l0_12)) ?_
    refine W_v rfl rfl (V_lenS rfl (et rfl) (sl_SlN h_cv.at) Try.underlying28) ?_
    refine W_v rfl rfl (V_lss rfl (e2 rfl (et rfl)) (et rfl)) ?_
    refine W_end ?_
    refine gen_Q (fun A15 hA15 => ?_)
    have hsz15 := szq hA15
    have hdf15 : A15.defers = [] := by rw [hA15]; simp only [df_put]; exact hdf12
    have l0_15 := lookE hA15 0 (e3 rfl (es rfl l0_12))
    have l1_15 := lookE hA15 1 (e3 rfl (es rfl l1_12))
    have l5_15 := lookE hA15 5 (e3 rfl (es rfl l5_12))
    have l14_15 := lookE hA15 14 (et rfl)
    clear hA15 hsz12 hdf12 l5_12 l0_12 l1_12
    refine then_n (hK14 _ _ ?_)
    clear hK14
    refine cond_dec l14_15 (fun c16 => ?_) (fun c16 => ?_)
    · skip
      refine wp_skip ?_
      refine then_n (hK13 _ _ ?_)
      clear hK13
      refine wp_seq_k (fun K17 hK17 => ?_)
      refine wp_block ?_
      refine wp_seq_k (fun K18 hK18 => ?_)
      refine region_monoS 9 9 [] (by kernel_rfl) (by kernel_rfl) ?_
      refine D_v rfl rfl (V_mov rfl l0_15) rfl rfl ?_
      refine D_v rfl rfl (V_mov rfl (es rfl l5_15)) rfl rfl ?_
      have k19 : k < l.length := by first | omega | (simp only [List.length_cons, List.length_nil]; omega) | (simp only [List.length_set]; omega) | decide
      obtain ⟨y19, hy19⟩ := get_some (xs := l) (k := k) k19
      obtain ⟨B19, O19, C19, hv19⟩ := (SlN.blk (sl_SlN h_cv.at) (by first | omega | (simp only [List.length_cons, List.length_nil]; omega) | (simp only [List.length_set]; omega) | decide))
      refine D_v rfl rfl (V_ixS (off := O19 + k * 2) 2 (k) rfl (es rfl (et rfl)) (et rfl) hv19 (by omega) k19 Try.underlying28 (by kernel_rfl) rfl) rfl rfl ?_
      refine D_r rfl rfl (by kernel_rfl) (fun sx hx hF => (VR_ldR (ys := rcC y19) rfl (et rfl) (SlN.row rcC_len (sl_SlN ((hS12.grow hx).ro h_cv)) hv19 hy19 rfl) Try.underlying42 rfl (by kernel_rfl))) rfl rfl ?_
      refine D_v rfl rfl (V_mov rfl (e3 rfl (es rfl l1_15))) rfl rfl ?_
      refine D_v rfl rfl (V_mov rfl (e4 rfl (es rfl l5_15))) rfl rfl ?_
      have k20 : k < m.length := by first | omega | (simp only [List.length_cons, List.length_nil]; omega) | (simp only [List.length_set]; omega) | decide
      obtain ⟨y20, hy20⟩ := get_some (xs := m) (k := k) k20
      obtain ⟨B20, O20, C20, hv20⟩ := (SlN.blk (sl_SlN h_dv.at) (by first | omega | (simp only [List.length_cons, List.length_nil]; omega) | (simp only [List.length_set]; omega) | decide))
      refine D_v rfl rfl (V_ixS (off := O20 + k * 2) 2 (k) rfl (es rfl (et rfl)) (et rfl) hv20 (by omega) k20 Try.underlying28 (by kernel_rfl) rfl) rfl rfl ?_
      refine D_r rfl rfl (by kernel_rfl) (fun sx hx hF => (VR_ldR (ys := rcC y20) rfl (et rfl) (SlN.row rcC_len (sl_SlN ((hS12.grow hx).ro h_dv)) hv20 hy20 rfl) Try.underlying42 rfl (by kernel_rfl))) rfl rfl ?_
      refine D_v rfl rfl (V_neSt2 rfl (e4 rfl (et rfl)) (et rfl) (by kernel_rfl)) rfl rfl ?_
      refine ZS_none hS12 (Nat.le_refl _) (Nat.le_refl _) (fun s21 hJ21 hL21 hF21 => ?_)
      have hS21 := hJ21.st; clear hF21 hJ21 hL21
      generalize s21.1 = w21 at *
      replace hS21 : St w NoX [] w21 := hS21
      refine gen_Q (fun A22 hA22 => ?_)
      have hsz22 := szq hA22
      have hdf22 : A22.defers = [] := by rw [hA22]; simp only [df_put]; exact hdf15
      have l0_22 := lookE hA22 0 (e8 rfl (es rfl l0_15))
      have l1_22 := lookE hA22 1 (e8 rfl (es rfl l1_15))
      have l5_22 := lookE hA22 5 (e8 rfl (es rfl l5_15))
      have l25_22 := lookE hA22 25 (et rfl)
      clear hA22 hsz15 hdf15 l0_15 l1_15 l5_15 l14_15
      refine then_n (hK18 _ _ ?_)
      clear hK18
      refine cond_dec l25_22 (fun c23 => ?_) (fun c23 => ?_)
      · skip
        refine wp_seq_k (fun K24 hK24 => ?_)
        refine region_in ?_
        refine W_v rfl rfl (V_asg rfl rfl) ?_
        refine W_end ?_
        refine gen_Q (fun A25 hA25 => ?_)
        have hsz25 := szq hA25
        have hdf25 : A25.defers = [] := by rw [hA25]; simp only [df_put]; exact hdf22
        have l4_25 := lookE hA25 4 (et rfl)
        clear hA25 hsz22 hdf22 l0_22 l1_22 l5_22 l25_22
        refine then_n (hK24 _ _ ?_)
        clear hK24
        refine wp_ret ?_
        refine inb_ret ?_
        refine then_ret ?_
        refine then_ret ?_
        refine inb_ret ?_
        refine then_ret ?_
        refine ret_in (results_1 Try.results17 (rv_tmp l4_25)) hdf25 ?_
        -- leaf FTT
        rw [decide_eq_false (show ¬ l = m from rows_ne hy19 hy20 (pr_ne c23))]
        exact ⟨rfl, hS21.fin0⟩
      · skip
        refine wp_skip ?_
        refine inb_n ?_
        refine then_n (hK17 _ _ ?_)
        clear hK17
        refine region_in ?_
        refine W_v rfl rfl (V_mov rfl l5_22) ?_
        refine W_v rfl rfl (V_add rfl (et rfl) rfl (by omega) (by omega)) ?_
        refine W_v rfl rfl (V_asg rfl (et rfl)) ?_
        refine W_end ?_
        refine gen_Q (fun A26 hA26 => ?_)
        have hsz26 := szq hA26
        have hdf26 : A26.defers = [] := by rw [hA26]; simp only [df_put]; exact hdf22
        have l0_26 := lookE hA26 0 (e2 rfl (es rfl l0_22))
        have l1_26 := lookE hA26 1 (e2 rfl (es rfl l1_22))
        have l5_26 := lookE hA26 5 (et rfl)
        clear hA26 hsz22 hdf22 l0_22 l1_22 l5_22 l25_22
        refine then_n ⟨l.length - (k + 1), by simp only [hm12]; omega, hsz26, hdf26, (k + 1), rfl, (by omega), (rows_step hz hy19 hy20 (pr_eq (by simpa using c23))), ((l5_26).trans (by first | rfl | (simp; done) | (congr 1; omega))), ((l0_26).trans l0_11.symm), ((l1_26).trans l1_11.symm), hS21⟩
    · skip
      refine wp_exit ?_
      refine then_exit ?_
      refine then_exit ?_
      refine inb_hit ?_
      refine then_n (hK9 _ _ ?_)
      clear hK9
      refine wp_seq_k (fun K27 hK27 => ?_)
      refine region_in ?_
      refine W_v rfl rfl (V_asg rfl rfl) ?_
      refine W_end ?_
      refine gen_Q (fun A28 hA28 => ?_)
      have hsz28 := szq hA28
      have hdf28 : A28.defers = [] := by rw [hA28]; simp only [df_put]; exact hdf15
      have l4_28 := lookE hA28 4 (et rfl)
      clear hA28 hsz15 hdf15 l0_15 l1_15 l5_15 l14_15
      refine then_n (hK27 _ _ ?_)
      clear hK27
      refine wp_ret ?_
      refine ret_in (results_1 Try.results17 (rv_tmp l4_28)) hdf28 ?_
      -- leaf FF
      rw [decide_eq_true (show l = m from rows_eq hl (by omega) hz)]
      exact ⟨rfl, hS12.fin0⟩

set_option maxHeartbeats 4000000 in
theorem qcount_c {cv : Value} {l : List (Int × Int)} {t : Int} {w : World} (h_cv : Ro w NoX (rl 2 rcC cv l))  :
    Calls Try.prog 23 #[cv, .int .i64 t] w fun e w' => e = .returned (.int .i64 (nOf l t)) ∧ St w NoX [] w' := by
  refine calls_in 24 Try.func23 rfl rfl (by simp) (fun A0 hsz0 hdf0 hargs => ?_)
  have l0_0 := hargs 0 (cv) rfl
  have l1_0 := hargs 1 (.int .i64 t) rfl
  clear hargs; replace hsz0 : SzN A0 24 := ⟨hsz0⟩
  have hS := St.nil w
  have bh_cv := SlN.le (sl_SlN h_cv.at)
  refine wp_seq_k (fun K1 hK1 => ?_)
  refine region_in ?_
  refine W_v rfl rfl (V_asg rfl rfl) ?_
  refine W_end ?_
  refine gen_Q (fun A2 hA2 => ?_)
  have hsz2 := szq hA2
  have hdf2 : A2.defers = [] := by rw [hA2]; simp only [df_put]; exact hdf0
  have l0_2 := lookE hA2 0 (es rfl l0_0)
  have l1_2 := lookE hA2 1 (es rfl l1_0)
  clear hA2 hsz0 hdf0 l0_0 l1_0
  refine then_n (hK1 _ _ ?_)
  clear hK1
  refine wp_seq_k (fun K3 hK3 => ?_)
  refine wp_seq_k (fun K4 hK4 => ?_)
  refine region_in ?_
  refine W_v rfl rfl (V_asg rfl rfl) ?_
  refine W_end ?_
  refine gen_Q (fun A5 hA5 => ?_)
  have hsz5 := szq hA5
  have hdf5 : A5.defers = [] := by rw [hA5]; simp only [df_put]; exact hdf2
  have l0_5 := lookE hA5 0 (es rfl l0_2)
  have l1_5 := lookE hA5 1 (es rfl l1_2)
  have l5_5 := lookE hA5 5 (et rfl)
  clear hA5 hsz2 hdf2 l0_2 l1_2
  refine then_n (hK4 _ _ ?_)
  clear hK4
  refine wp_block ?_
  -- loop 2
  refine loopX (fun mz A' w' => SzN A' 24 ∧ A'.defers = [] ∧ (∃ (k : Nat), (mz = l.length - k) ∧ (k ≤ l.length) ∧ (nOf l t = nOf (l.drop k) t) ∧ (EV A' (.tmp 5) = .int .i64 (k : Int)) ∧ (EV A' (.tmp 0) = EV A5 (.tmp 0)) ∧ (EV A' (.tmp 1) = EV A5 (.tmp 1)) ∧ (St w NoX [] w'))) (l.length - 0) ⟨hsz5, hdf5, 0, rfl, (by omega), rfl, ((l5_5).trans (by first | rfl | (simp; done) | (congr 1; omega))), rfl, rfl, hS⟩ ?_
  clear hS
  rintro n6 A6 w6 ⟨hsz6, hdf6, k, hm6, hk, hz, l5_6, u0_6, u1_6, hS6⟩
  have l0_6 := u0_6.trans l0_5
  have l1_6 := u1_6.trans l1_5
  refine wp_seq_k (fun K7 hK7 => ?_)
  refine wp_seq_k (fun K8 hK8 => ?_)
  refine region_in ?_
  refine W_v rfl rfl (V_mov rfl l5_6) ?_
  refine W_v rfl rfl (V_mov rfl (es rfl l0_6)) ?_
  refine W_v rfl rfl (V_lenS rfl (et rfl) (sl_SlN h_cv.at) Try.underlying28) ?_
  refine W_v rfl rfl (V_lss rfl (e2 rfl (et rfl)) (et rfl)) ?_
  refine W_end ?_
  refine gen_Q (fun A9 hA9 => ?_)
  have hsz9 := szq hA9
  have hdf9 : A9.defers = [] := by rw [hA9]; simp only [df_put]; exact hdf6
  have l0_9 := lookE hA9 0 (e3 rfl (es rfl l0_6))
  have l1_9 := lookE hA9 1 (e3 rfl (es rfl l1_6))
  have l5_9 := lookE hA9 5 (e3 rfl (es rfl l5_6))
  have l9_9 := lookE hA9 9 (et rfl)
  clear hA9 hsz6 hdf6 l5_6 l0_6 l1_6
  refine then_n (hK8 _ _ ?_)
  clear hK8
  refine cond_dec l9_9 (fun c10 => ?_) (fun c10 => ?_)
  · skip
    refine wp_skip ?_
    refine then_n (hK7 _ _ ?_)
    clear hK7
    refine wp_seq_k (fun K11 hK11 => ?_)
    refine wp_block ?_
    refine wp_seq_k (fun K12 hK12 => ?_)
    refine region_in ?_
    refine W_v rfl rfl (V_mov rfl l0_9) ?_
    refine W_v rfl rfl (V_mov rfl (es rfl l5_9)) ?_
    have k13 : k < l.length := by first | omega | (simp only [List.length_cons, List.length_nil]; omega) | (simp only [List.length_set]; omega) | decide
    obtain ⟨y13, hy13⟩ := get_some (xs := l) (k := k) k13
    obtain ⟨B13, O13, C13, hv13⟩ := (SlN.blk (sl_SlN h_cv.at) (by first | omega | (simp only [List.length_cons, List.length_nil]; omega) | (simp only [List.length_set]; omega) | decide))
    refine W_v rfl rfl (V_ixS (off := O13 + k * 2) 2 (k) rfl (es rfl (et rfl)) (et rfl) hv13 (by omega) k13 Try.underlying28 (by kernel_rfl) rfl) ?_
    refine W_v rfl rfl (V_fa (off' := O13 + k * 2 + 0) rfl (et rfl) Try.underlying42 rfl (by decide +kernel) rfl) ?_
    refine W_r rfl rfl (VR_ldC (v := .int .i64 (y13.1)) rfl (et rfl) (SlN.row rcC_len (sl_SlN (hS6.ro h_cv)) hv13 hy13 rfl 0 _ rfl) Try.underlying3 rfl) ?_
    refine W_v rfl rfl (V_mov rfl (e4 rfl (es rfl l1_9))) ?_
    refine W_v rfl rfl (V_eql rfl (es rfl (et rfl)) (et rfl)) ?_
    refine W_end ?_
    refine gen_Q (fun A14 hA14 => ?_)
    have hsz14 := szq hA14
    have hdf14 : A14.defers = [] := by rw [hA14]; simp only [df_put]; exact hdf9
    have l0_14 := lookE hA14 0 (e6 rfl (es rfl l0_9))
    have l1_14 := lookE hA14 1 (e6 rfl (es rfl l1_9))
    have l5_14 := lookE hA14 5 (e6 rfl (es rfl l5_9))
    have l18_14 := lookE hA14 18 (et rfl)
    clear hA14 hsz9 hdf9 l0_9 l1_9 l5_9 l9_9
    refine then_n (hK12 _ _ ?_)
    clear hK12
    refine cond_dec l18_14 (fun c15 => ?_) (fun c15 => ?_)
    · skip
      refine wp_seq_k (fun K16 hK16 => ?_)
      refine region_in ?_
      refine W_v rfl rfl (V_mov rfl l0_14) ?_
      refine W_v rfl rfl (V_mov rfl (es rfl l5_14)) ?_
      refine W_v rfl rfl (V_ixS (off := O13 + k * 2) 2 (k) rfl (es rfl (et rfl)) (et rfl) hv13 (by omega) k13 Try.underlying28 (by kernel_rfl) rfl) ?_
      refine W_v rfl rfl (V_fa (off' := O13 + k * 2 + 1) rfl (et rfl) Try.underlying42 rfl (by decide +kernel) rfl) ?_
      refine W_r rfl rfl (VR_ldC (v := .int .i64 (y13.2)) rfl (et rfl) (SlN.row rcC_len (sl_SlN (hS6.ro h_cv)) hv13 hy13 rfl 1 _ rfl) Try.underlying3 rfl) ?_
      refine W_v rfl rfl (V_asg rfl (et rfl)) ?_
      refine W_end ?_
      refine gen_Q (fun A18 hA18 => ?_)
      have hsz18 := szq hA18
      have hdf18 : A18.defers = [] := by rw [hA18]; simp only [df_put]; exact hdf14
      have l4_18 := lookE hA18 4 (et rfl)
      clear hA18 hsz14 hdf14 l0_14 l1_14 l5_14 l18_14
      refine then_n (hK16 _ _ ?_)
      clear hK16
      refine wp_ret ?_
      refine inb_ret ?_
      refine then_ret ?_
      refine then_ret ?_
      refine inb_ret ?_
      refine then_ret ?_
      refine ret_in (results_1 Try.results23 (rv_tmp l4_18)) hdf18 ?_
      -- leaf TT
      have e0 : nOf l t = y13.2 := by exact nOf_hit hz hy13 c15
      rw [e0]
      exact ⟨rfl, hS6.fin0⟩
    · skip
      refine wp_skip ?_
      refine inb_n ?_
      refine then_n (hK11 _ _ ?_)
      clear hK11
      refine region_in ?_
      refine W_v rfl rfl (V_mov rfl l5_14) ?_
      refine W_v rfl rfl (V_add rfl (et rfl) rfl (by omega) (by omega)) ?_
      refine W_v rfl rfl (V_asg rfl (et rfl)) ?_
      refine W_end ?_
      refine gen_Q (fun A19 hA19 => ?_)
      have hsz19 := szq hA19
      have hdf19 : A19.defers = [] := by rw [hA19]; simp only [df_put]; exact hdf14
      have l0_19 := lookE hA19 0 (e2 rfl (es rfl l0_14))
      have l1_19 := lookE hA19 1 (e2 rfl (es rfl l1_14))
      have l5_19 := lookE hA19 5 (et rfl)
      clear hA19 hsz14 hdf14 l0_14 l1_14 l5_14 l18_14
      refine then_n ⟨l.length - (k + 1), by simp only [hm6]; omega, hsz19, hdf19, (k + 1), rfl, (by omega), (nOf_skip hz hy13 c15), ((l5_19).trans (by first | rfl | (simp; done) | (congr 1; omega))), ((l0_19).trans l0_5.symm), ((l1_19).trans l1_5.symm), hS6⟩
  · skip
    refine wp_exit ?_
    refine then_exit ?_
    refine then_exit ?_
    refine inb_hit ?_
    refine then_n (hK3 _ _ ?_)
    clear hK3
    refine wp_seq_k (fun K20 hK20 => ?_)
    refine region_in ?_
    refine W_v rfl rfl (V_asg rfl rfl) ?_
    refine W_end ?_
    refine gen_Q (fun A21 hA21 => ?_)
    have hsz21 := szq hA21
    have hdf21 : A21.defers = [] := by rw [hA21]; simp only [df_put]; exact hdf9
    have l4_21 := lookE hA21 4 (et rfl)
    clear hA21 hsz9 hdf9 l0_9 l1_9 l5_9 l9_9
    refine then_n (hK20 _ _ ?_)
    clear hK20
    refine wp_ret ?_
    refine ret_in (results_1 Try.results23 (rv_tmp l4_21)) hdf21 ?_
    -- leaf F
    have e0 : nOf l t = 0 := by exact nOf_done hz (by omega)
    rw [e0]
    exact ⟨rfl, hS6.fin0⟩

end Go.Proofs.Ytnfgeekaeegolaa