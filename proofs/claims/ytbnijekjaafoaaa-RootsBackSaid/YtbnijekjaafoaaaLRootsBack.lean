import Derived.Test.YtbnijekjaafoaaaProg
import Derived.Test.YtbnijekjaafoaaaRt6
import Derived.Test.YtbnijekjaafoaaaPl19e
namespace Go.Proofs.Ytbnijekjaafoaaa
open Go.RowKit Go.Own Go.Own.R


set_option maxHeartbeats 4000000 in
theorem RootsBack_c {rv : Value} {l : List Int} {mv : Value} {ms : List (Int × Int)} {w : World} (h_rv : Ro w NoX (il .i64 rv l)) (h_mv : Ro w NoX (rl 2 mvC mv ms))  :
    Calls Try.prog 5 #[rv, mv] w fun e w' => e = .returned (.bool true) ∧ St w NoX [] w' := by
  refine calls_in 215 Try.func5 rfl rfl (by simp) (fun A0 hsz0 hdf0 hargs => ?_)
  have l0_0 := hargs 0 (rv) rfl
  have l1_0 := hargs 1 (mv) rfl
  clear hargs; replace hsz0 : SzN A0 215 := ⟨hsz0⟩
  have hS := St.nil w
  have bh_rv := SlN.le (sl_SlN h_rv.at)
  have bh_mv := SlN.le (sl_SlN h_mv.at)
  refine wp_seq_k (fun K1 hK1 => ?_)
  -- region 0
  refine region_in ?_
  refine W_v rfl rfl (V_asg rfl rfl) ?_
  refine W_end ?_
  refine gen_Q (fun A2 hA2 => ?_)
  have hsz2 : SzN A2 215 := by rw [hA2]; infer_instance
  have hdf2 : A2.defers = [] := by rw [hA2]; simp only [df_put]; exact hdf0
  have l0_2 := lookE hA2 0 (es rfl l0_0)
  have l1_2 := lookE hA2 1 (es rfl l1_0)
  clear hA2 hsz0 hdf0 l0_0 l1_0
  refine then_n (hK1 _ _ ?_)
  clear hK1
  refine wp_seq_k (fun K3 hK3 => ?_)
  refine wp_seq_k (fun K4 hK4 => ?_)
  -- region 1
  refine region_in ?_
  refine W_v rfl rfl (V_mov rfl l0_2) ?_
  refine W_v rfl rfl (V_mov rfl (es rfl l1_2)) ?_
  refine W_call rfl rfl rfl Try.func11 (by kernel_rfl) rfl (args2 (es rfl (et rfl)) (et rfl)) (far_c (hS.roC h_rv) (hS.roC h_mv) ) ?_
  rintro _ w5 ⟨rfl, hP5⟩
  refine ⟨_, rfl, ?_⟩
  have hS5 := hS.join hP5
  replace hS5 : St w NoX [] w5 := hS5
  refine W_split rfl rfl (V_mov rfl (et rfl)) (fun c6 => ?_) (fun c6 => ?_)
  · skip
    refine W_off rfl (wanted_f rfl rfl (et rfl) (ez rfl) rfl) ?_
    refine W_off rfl (wanted_f rfl rfl (es rfl (et rfl)) (ez rfl) rfl) ?_
    refine W_off rfl (wanted_f rfl rfl (es rfl (es rfl (et rfl))) (ez rfl) rfl) ?_
    refine W_v rfl rfl (V_pickT rfl (es rfl (es rfl (es rfl (et rfl)))) rfl) ?_
    refine W_end ?_
    refine gen_Q (fun A7 hA7 => ?_)
    have hsz7 : SzN A7 215 := by rw [hA7]; infer_instance
    have hdf7 : A7.defers = [] := by rw [hA7]; simp only [df_put]; exact hdf2
    have l0_7 := lookE hA7 0 (es rfl (es rfl (es rfl (es rfl (es rfl (es rfl (es rfl (es rfl l0_2))))))))
    have l1_7 := lookE hA7 1 (es rfl (es rfl (es rfl (es rfl (es rfl (es rfl (es rfl (es rfl l1_2))))))))
    have l28_7 := lookE hA7 28 (et rfl)
    clear hA7 hsz2 hdf2 l0_2 l1_2
    refine then_n (hK4 _ _ ?_)
    clear hK4
    refine cond_t l28_7 ?_
    refine wp_seq_k (fun K8 hK8 => ?_)
    -- region 2
    refine region_in ?_
    refine W_call rfl rfl rfl Try.func12 (by kernel_rfl) rfl (args0) (shw_c  ) ?_
    rintro _ w9 ⟨rfl, hP9⟩
    refine ⟨_, rfl, ?_⟩
    have hS9 := hS5.join hP9
    replace hS9 : St w NoX [] w9 := hS9
    refine W_v rfl rfl (V_asg rfl (et rfl)) ?_
    refine W_end ?_
    refine gen_Q (fun A10 hA10 => ?_)
    have hsz10 : SzN A10 215 := by rw [hA10]; infer_instance
    have hdf10 : A10.defers = [] := by rw [hA10]; simp only [df_put]; exact hdf7
    have l4_10 := lookE hA10 4 (et rfl)
    clear hA10 hsz7 hdf7 l0_7 l1_7 l28_7
    refine then_n (hK8 _ _ ?_)
    clear hK8
    refine wp_ret ?_
    refine then_ret ?_
    refine ret_in (results_1 Try.results5 (rv_tmp l4_10)) hdf10 ?_
    -- leaf T
    exact ⟨rfl, hS9.fin0⟩
  · skip
    refine W_v rfl (wanted_t rfl rfl (et rfl) (ez rfl)) (V_mov rfl (es rfl (es rfl (es rfl (es rfl l1_2))))) ?_
    refine W_v rfl (wanted_t rfl rfl (es rfl (et rfl)) (ez rfl)) (V_lenS rfl (et rfl) (sl_SlN h_mv.at) Try.underlying33) ?_
    refine W_v rfl (wanted_t rfl rfl (es rfl (es rfl (et rfl))) (ez rfl)) (V_gtr rfl (et rfl) rfl) ?_
    refine W_v rfl rfl (V_pickF rfl (es rfl (es rfl (es rfl (et rfl)))) (et rfl)) ?_
    refine W_end ?_
    refine gen_Q (fun A11 hA11 => ?_)
    have hsz11 : SzN A11 215 := by rw [hA11]; infer_instance
    have hdf11 : A11.defers = [] := by rw [hA11]; simp only [df_put]; exact hdf2
    have l0_11 := lookE hA11 0 (es rfl (es rfl (es rfl (es rfl (es rfl (es rfl (es rfl (es rfl l0_2))))))))
    have l1_11 := lookE hA11 1 (es rfl (es rfl (es rfl (es rfl (es rfl (es rfl (es rfl (es rfl l1_2))))))))
    have l28_11 := lookE hA11 28 (et rfl)
    clear hA11 hsz2 hdf2 l0_2 l1_2
    refine then_n (hK4 _ _ ?_)
    clear hK4
    refine cond_dec l28_11 (fun c12 => ?_) (fun c12 => ?_)
    · skip
      refine wp_seq_k (fun K13 hK13 => ?_)
      -- region 2
      refine region_in ?_
      refine W_call rfl rfl rfl Try.func12 (by kernel_rfl) rfl (args0) (shw_c  ) ?_
      rintro _ w14 ⟨rfl, hP14⟩
      refine ⟨_, rfl, ?_⟩
      have hS14 := hS5.join hP14
      replace hS14 : St w NoX [] w14 := hS14
      refine W_v rfl rfl (V_asg rfl (et rfl)) ?_
      refine W_end ?_
      refine gen_Q (fun A15 hA15 => ?_)
      have hsz15 : SzN A15 215 := by rw [hA15]; infer_instance
      have hdf15 : A15.defers = [] := by rw [hA15]; simp only [df_put]; exact hdf11
      have l4_15 := lookE hA15 4 (et rfl)
      clear hA15 hsz11 hdf11 l0_11 l1_11 l28_11
      refine then_n (hK13 _ _ ?_)
      clear hK13
      refine wp_ret ?_
      refine then_ret ?_
      refine ret_in (results_1 Try.results5 (rv_tmp l4_15)) hdf15 ?_
      -- leaf FT
      exact ⟨rfl, hS14.fin0⟩
    · skip
      refine wp_skip ?_
      refine then_n (hK3 _ _ ?_)
      clear hK3
      refine wp_seq_k (fun K16 hK16 => ?_)
      -- region 3
      refine region_in ?_
      refine W_v rfl rfl (V_mov rfl l0_11) ?_
      refine W_v rfl rfl (V_mov rfl (es rfl l1_11)) ?_
      refine W_call rfl rfl rfl Try.func20 (by kernel_rfl) rfl (args2 (es rfl (et rfl)) (et rfl)) (kFw_c (hS5.roC h_rv) (hS5.roC h_mv) ) ?_
      rintro _ w17 ⟨v_17, rfl, hP17⟩
      refine ⟨_, rfl, ?_⟩
      obtain ⟨c_17, hc_17, hP17⟩ := gen1 hP17
      have hS17 := hS5.join hP17
      replace hS17 : St w NoX [c_17] w17 := hS17
      refine W_v rfl rfl (V_mov rfl (et rfl)) ?_
      refine W_v rfl rfl (V_ext (v := v_17) rfl (et rfl) rfl) ?_
      refine W_v rfl rfl (V_ext (v := .int .i64 ((fwN l ms))) rfl (es rfl (et rfl)) rfl) ?_
      refine W_v rfl rfl (V_ext (v := .int .i64 ((fwE l ms))) rfl (es rfl (es rfl (et rfl))) rfl) ?_
      refine W_v rfl rfl (V_asg rfl (es rfl (es rfl (et rfl)))) ?_
      refine W_v rfl rfl (V_asg rfl (es rfl (es rfl (et rfl)))) ?_
      refine W_v rfl rfl (V_asg rfl (es rfl (es rfl (et rfl)))) ?_
      refine W_end ?_
      refine gen_Q (fun A18 hA18 => ?_)
      have hsz18 : SzN A18 215 := by rw [hA18]; infer_instance
      have hdf18 : A18.defers = [] := by rw [hA18]; simp only [df_put]; exact hdf11
      have l0_18 := lookE hA18 0 (es rfl (es rfl (es rfl (es rfl (es rfl (es rfl (es rfl (es rfl (es rfl (es rfl l0_11))))))))))
      have l1_18 := lookE hA18 1 (es rfl (es rfl (es rfl (es rfl (es rfl (es rfl (es rfl (es rfl (es rfl (es rfl l1_11))))))))))
      have l5_18 := lookE hA18 5 (es rfl (es rfl (et rfl)))
      have l6_18 := lookE hA18 6 (es rfl (et rfl))
      have l7_18 := lookE hA18 7 (et rfl)
      clear hA18 hsz11 hdf11 l0_11 l1_11 l28_11
      refine then_n (hK16 _ _ ?_)
      clear hK16
      refine wp_seq_k (fun K19 hK19 => ?_)
      refine wp_seq_k (fun K20 hK20 => ?_)
      -- region 4
      refine region_in ?_
      refine W_v rfl rfl (V_mov rfl l7_18) ?_
      refine W_v rfl rfl (V_neq rfl (et rfl) rfl) ?_
      refine W_end ?_
      refine gen_Q (fun A21 hA21 => ?_)
      have hsz21 : SzN A21 215 := by rw [hA21]; infer_instance
      have hdf21 : A21.defers = [] := by rw [hA21]; simp only [df_put]; exact hdf18
      have l0_21 := lookE hA21 0 (es rfl (es rfl l0_18))
      have l1_21 := lookE hA21 1 (es rfl (es rfl l1_18))
      have l5_21 := lookE hA21 5 (es rfl (es rfl l5_18))
      have l6_21 := lookE hA21 6 (es rfl (es rfl l6_18))
      have l38_21 := lookE hA21 38 (et rfl)
      clear hA21 hsz18 hdf18 l0_18 l1_18 l5_18 l6_18 l7_18
      refine then_n (hK20 _ _ ?_)
      clear hK20
      refine cond_dec l38_21 (fun c22 => ?_) (fun c22 => ?_)
      · skip
        have h0 : fwE l ms ≠ 0 := c22
        refine wp_seq_k (fun K23 hK23 => ?_)
        -- region 5
        refine region_in ?_
        refine W_v rfl rfl (V_mov rfl l5_21) ?_
        refine W_v rfl rfl (V_lenS rfl (et rfl) (ow_at (hS17.chq 0 rfl hc_17)) Try.underlying22) ?_
        refine W_v rfl rfl (V_eql rfl (et rfl) rfl) ?_
        refine W_sure (c' := true) rfl rfl (V_mov rfl (et rfl)) (by rw [decide_eq_true_eq]; rw [(fw_err h0).1]; rfl) ?_
        refine W_v rfl (wanted_t rfl rfl (et rfl) (ez rfl)) (V_mov rfl (es rfl (es rfl (es rfl (es rfl l6_21))))) ?_
        refine W_v rfl (wanted_t rfl rfl (es rfl (et rfl)) (ez rfl)) (V_eql rfl (et rfl) rfl) ?_
        refine W_v rfl rfl (V_pickT rfl (es rfl (es rfl (et rfl))) (et rfl)) ?_
        refine W_sure (c' := true) rfl rfl (V_mov rfl (et rfl)) (by rw [decide_eq_true_eq]; exact (fw_err h0).2) ?_
        refine W_call rfl (wanted_t rfl rfl (et rfl) (ez rfl)) rfl Try.func12 (by kernel_rfl) rfl (args0) (shw_c  ) ?_
        rintro _ w24 ⟨rfl, hP24⟩
        refine ⟨_, rfl, ?_⟩
        have hS24 := hS17.join hP24
        replace hS24 : St w NoX [c_17] w24 := hS24
        refine W_v rfl rfl (V_pickT rfl (es rfl (et rfl)) (et rfl)) ?_
        refine W_v rfl rfl (V_asg rfl (et rfl)) ?_
        refine W_end ?_
        refine gen_Q (fun A25 hA25 => ?_)
        have hsz25 : SzN A25 215 := by rw [hA25]; infer_instance
        have hdf25 : A25.defers = [] := by rw [hA25]; simp only [df_put]; exact hdf21
        have l4_25 := lookE hA25 4 (et rfl)
        clear hA25 hsz21 hdf21 l0_21 l1_21 l5_21 l6_21 l38_21
        have hS26 : St w NoX [] w24 := hS24.sel [] (by decide) rfl
        refine then_n (hK23 _ _ ?_)
        clear hK23
        refine wp_ret ?_
        refine then_ret ?_
        refine ret_in (results_1 Try.results5 (rv_tmp l4_25)) hdf25 ?_
        -- leaf FFT
        exact ⟨rfl, hS26.fin0⟩
      · skip
        have h0 : fwE l ms = 0 := by simpa using c22
        have f0 := fw0 h0
        have hfl := f0.2.2.2.2
        refine wp_skip ?_
        refine then_n (hK19 _ _ ?_)
        clear hK19
        refine wp_seq_k (fun K27 hK27 => ?_)
        refine wp_seq_k (fun K28 hK28 => ?_)
        -- region 6
        refine region_in ?_
        refine W_v rfl rfl (V_mov rfl l5_21) ?_
        refine W_v rfl rfl (V_lenS rfl (et rfl) (ow_at (hS17.chq 0 rfl hc_17)) Try.underlying22) ?_
        refine W_v rfl rfl (V_mov rfl (es rfl (es rfl l0_21))) ?_
        refine W_v rfl rfl (V_lenS rfl (et rfl) (sl_SlN h_rv.at) Try.underlying22) ?_
        refine W_v rfl rfl (V_neq rfl (es rfl (es rfl (et rfl))) (et rfl)) ?_
        refine W_end ?_
        refine gen_Q (fun A29 hA29 => ?_)
        have hsz29 : SzN A29 215 := by rw [hA29]; infer_instance
        have hdf29 : A29.defers = [] := by rw [hA29]; simp only [df_put]; exact hdf21
        have l0_29 := lookE hA29 0 (es rfl (es rfl (es rfl (es rfl (es rfl l0_21)))))
        have l1_29 := lookE hA29 1 (es rfl (es rfl (es rfl (es rfl (es rfl l1_21)))))
        have l5_29 := lookE hA29 5 (es rfl (es rfl (es rfl (es rfl (es rfl l5_21)))))
        have l6_29 := lookE hA29 6 (es rfl (es rfl (es rfl (es rfl (es rfl l6_21)))))
        have l53_29 := lookE hA29 53 (et rfl)
        clear hA29 hsz21 hdf21 l0_21 l1_21 l5_21 l6_21 l38_21
        refine then_n (hK28 _ _ ?_)
        clear hK28
        refine cond_not l53_29 (by rw [decide_eq_false_iff_not]; rw [f0.2.2.2.2]; simp) ?_
        refine wp_skip ?_
        refine then_n (hK27 _ _ ?_)
        clear hK27
        refine wp_seq_k (fun K30 hK30 => ?_)
        refine wp_seq_k (fun K31 hK31 => ?_)
        -- region 8
        refine region_in ?_
        refine W_v rfl rfl (V_asg rfl rfl) ?_
        refine W_end ?_
        refine gen_Q (fun A32 hA32 => ?_)
        have hsz32 : SzN A32 215 := by rw [hA32]; infer_instance
        have hdf32 : A32.defers = [] := by rw [hA32]; simp only [df_put]; exact hdf29
        have l0_32 := lookE hA32 0 (es rfl l0_29)
        have l1_32 := lookE hA32 1 (es rfl l1_29)
        have l5_32 := lookE hA32 5 (es rfl l5_29)
        have l6_32 := lookE hA32 6 (es rfl l6_29)
        have l8_32 := lookE hA32 8 (et rfl)
        clear hA32 hsz29 hdf29 l0_29 l1_29 l5_29 l6_29 l53_29
        refine then_n (hK31 _ _ ?_)
        clear hK31
        refine wp_block ?_
        -- loop 9
        refine loopX (fun mz A' w' => SzN A' 215 ∧ A'.defers = [] ∧ (∃ (i : Nat), (mz = l.length - i) ∧ (i ≤ l.length) ∧ (EV A' (.tmp 8) = .int .i64 (i : Int)) ∧ (EV A' (.tmp 0) = EV A32 (.tmp 0)) ∧ (EV A' (.tmp 1) = EV A32 (.tmp 1)) ∧ (EV A' (.tmp 5) = EV A32 (.tmp 5)) ∧ (EV A' (.tmp 6) = EV A32 (.tmp 6)) ∧ (St w NoX [io .i64 v_17 (fwT l ms)] w'))) (l.length - 0) ⟨hsz32, hdf32, 0, rfl, (by omega), ((l8_32).trans (by first | rfl | (simp; done) | (congr 1; omega))), rfl, rfl, rfl, rfl, (by subst hc_17; exact hS17)⟩ ?_
        clear hS17 hc_17
        rintro n33 A33 w33 ⟨hsz33, hdf33, i, hm33, hbi, l8_33, u0_33, u1_33, u5_33, u6_33, hS33⟩
        have l0_33 := u0_33.trans l0_32
        have l1_33 := u1_33.trans l1_32
        have l5_33 := u5_33.trans l5_32
        have l6_33 := u6_33.trans l6_32
        obtain ⟨c_33, hc_33, hS33⟩ := gen1 hS33
        refine wp_seq_k (fun K34 hK34 => ?_)
        refine wp_seq_k (fun K35 hK35 => ?_)
        -- region 9
        refine region_in ?_
        refine W_v rfl rfl (V_mov rfl l8_33) ?_
        refine W_v rfl rfl (V_mov rfl (es rfl l0_33)) ?_
        refine W_v rfl rfl (V_lenS rfl (et rfl) (sl_SlN h_rv.at) Try.underlying22) ?_
        refine W_v rfl rfl (V_lss rfl (es rfl (es rfl (et rfl))) (et rfl)) ?_
        refine W_end ?_
        refine gen_Q (fun A36 hA36 => ?_)
        have hsz36 : SzN A36 215 := by rw [hA36]; infer_instance
        have hdf36 : A36.defers = [] := by rw [hA36]; simp only [df_put]; exact hdf33
        have l0_36 := lookE hA36 0 (es rfl (es rfl (es rfl (es rfl l0_33))))
        have l1_36 := lookE hA36 1 (es rfl (es rfl (es rfl (es rfl l1_33))))
        have l5_36 := lookE hA36 5 (es rfl (es rfl (es rfl (es rfl l5_33))))
        have l6_36 := lookE hA36 6 (es rfl (es rfl (es rfl (es rfl l6_33))))
        have l8_36 := lookE hA36 8 (es rfl (es rfl (es rfl (es rfl l8_33))))
        have l57_36 := lookE hA36 57 (et rfl)
        clear hA36 hsz33 hdf33 l8_33 l0_33 l1_33 l5_33 l6_33
        refine then_n (hK35 _ _ ?_)
        clear hK35
        refine cond_dec l57_36 (fun c37 => ?_) (fun c37 => ?_)
        · skip
          refine wp_skip ?_
          refine then_n (hK34 _ _ ?_)
          clear hK34
          refine wp_seq_k (fun K38 hK38 => ?_)
          refine wp_block ?_
          refine wp_seq_k (fun K39 hK39 => ?_)
          -- region 11
          refine region_in ?_
          refine W_v rfl rfl (V_asg rfl rfl) ?_
          refine W_end ?_
          refine gen_Q (fun A40 hA40 => ?_)
          have hsz40 : SzN A40 215 := by rw [hA40]; infer_instance
          have hdf40 : A40.defers = [] := by rw [hA40]; simp only [df_put]; exact hdf36
          have l0_40 := lookE hA40 0 (es rfl l0_36)
          have l1_40 := lookE hA40 1 (es rfl l1_36)
          have l5_40 := lookE hA40 5 (es rfl l5_36)
          have l6_40 := lookE hA40 6 (es rfl l6_36)
          have l8_40 := lookE hA40 8 (es rfl l8_36)
          have l9_40 := lookE hA40 9 (et rfl)
          clear hA40 hsz36 hdf36 l0_36 l1_36 l5_36 l6_36 l8_36 l57_36
          refine then_n (hK39 _ _ ?_)
          clear hK39
          refine wp_block ?_
          -- loop 12
          refine loopX (fun mz A' w' => SzN A' 215 ∧ A'.defers = [] ∧ (∃ (k : Nat), (mz = l.length - k) ∧ (k ≤ l.length) ∧ (EV A' (.tmp 9) = .int .i64 (k : Int)) ∧ (EV A' (.tmp 0) = EV A40 (.tmp 0)) ∧ (EV A' (.tmp 1) = EV A40 (.tmp 1)) ∧ (EV A' (.tmp 5) = EV A40 (.tmp 5)) ∧ (EV A' (.tmp 6) = EV A40 (.tmp 6)) ∧ (EV A' (.tmp 8) = EV A40 (.tmp 8)) ∧ (St w NoX [io .i64 v_17 (fwT l ms)] w'))) (l.length - 0) ⟨hsz40, hdf40, 0, rfl, (by omega), ((l9_40).trans (by first | rfl | (simp; done) | (congr 1; omega))), rfl, rfl, rfl, rfl, rfl, (by subst hc_33; exact hS33)⟩ ?_
          clear hS33 hc_33
          rintro n41 A41 w41 ⟨hsz41, hdf41, k, hm41, hbk, l9_41, u0_41, u1_41, u5_41, u6_41, u8_41, hS41⟩
          have l0_41 := u0_41.trans l0_40
          have l1_41 := u1_41.trans l1_40
          have l5_41 := u5_41.trans l5_40
          have l6_41 := u6_41.trans l6_40
          have l8_41 := u8_41.trans l8_40
          obtain ⟨c_41, hc_41, hS41⟩ := gen1 hS41
          refine wp_seq_k (fun K42 hK42 => ?_)
          refine wp_seq_k (fun K43 hK43 => ?_)
          -- region 12
          refine region_in ?_
          refine W_v rfl rfl (V_mov rfl l9_41) ?_
          refine W_v rfl rfl (V_mov rfl (es rfl l0_41)) ?_
          refine W_v rfl rfl (V_lenS rfl (et rfl) (sl_SlN h_rv.at) Try.underlying22) ?_
          refine W_v rfl rfl (V_lss rfl (es rfl (es rfl (et rfl))) (et rfl)) ?_
          refine W_end ?_
          refine gen_Q (fun A44 hA44 => ?_)
          have hsz44 : SzN A44 215 := by rw [hA44]; infer_instance
          have hdf44 : A44.defers = [] := by rw [hA44]; simp only [df_put]; exact hdf41
          have l0_44 := lookE hA44 0 (es rfl (es rfl (es rfl (es rfl l0_41))))
          have l1_44 := lookE hA44 1 (es rfl (es rfl (es rfl (es rfl l1_41))))
          have l5_44 := lookE hA44 5 (es rfl (es rfl (es rfl (es rfl l5_41))))
          have l6_44 := lookE hA44 6 (es rfl (es rfl (es rfl (es rfl l6_41))))
          have l8_44 := lookE hA44 8 (es rfl (es rfl (es rfl (es rfl l8_41))))
          have l9_44 := lookE hA44 9 (es rfl (es rfl (es rfl (es rfl l9_41))))
          have l63_44 := lookE hA44 63 (et rfl)
          clear hA44 hsz41 hdf41 l9_41 l0_41 l1_41 l5_41 l6_41 l8_41
          refine then_n (hK43 _ _ ?_)
          clear hK43
          refine cond_dec l63_44 (fun c45 => ?_) (fun c45 => ?_)
          · skip
            refine wp_skip ?_
            refine then_n (hK42 _ _ ?_)
            clear hK42
            refine wp_seq_k (fun K46 hK46 => ?_)
            refine wp_block ?_
            refine wp_seq_k (fun K47 hK47 => ?_)
            -- region 14
            refine region_monoS 20 20 [] (by kernel_rfl) (by kernel_rfl) ?_
            refine D_v rfl rfl (V_mov rfl l0_44) rfl rfl ?_
            refine D_v rfl rfl (V_mov rfl (es rfl l8_44)) rfl rfl ?_
            have k48 : i < l.length := by first | omega | (simp only [List.length_cons, List.length_nil]; omega)
            obtain ⟨y48, hy48⟩ := get_some (xs := l) (k := i) k48
            obtain ⟨B48, O48, C48, hv48⟩ := (SlN.blk (sl_SlN h_rv.at) (by first | omega | (simp only [List.length_cons, List.length_nil]; omega)))
            refine D_v rfl rfl (V_ixS (off := O48 + i) 1 (i) rfl (es rfl (et rfl)) (et rfl) hv48 (by omega) k48 Try.underlying22 (by kernel_rfl) (congrArg _ (Nat.mul_one _))) rfl rfl ?_
            refine D_r rfl rfl (by kernel_rfl) (fun sx hx hF => (VR_ldC rfl (et rfl) ((sl_SlN ((hS41.grow hx).ro h_rv)).cell hv48 (map_get hy48)) Try.underlying3 rfl)) rfl rfl ?_
            refine D_v rfl rfl (V_mov rfl (es rfl (es rfl (es rfl (es rfl l0_44))))) rfl rfl ?_
            refine D_v rfl rfl (V_mov rfl (es rfl (es rfl (es rfl (es rfl (es rfl l9_44)))))) rfl rfl ?_
            have k49 : k < l.length := by first | omega | (simp only [List.length_cons, List.length_nil]; omega)
            obtain ⟨y49, hy49⟩ := get_some (xs := l) (k := k) k49
            refine D_v rfl rfl (V_ixS (off := O48 + k) 1 (k) rfl (es rfl (et rfl)) (et rfl) hv48 (by omega) k49 Try.underlying22 (by kernel_rfl) (congrArg _ (Nat.mul_one _))) rfl rfl ?_
            refine D_r rfl rfl (by kernel_rfl) (fun sx hx hF => (VR_ldC rfl (et rfl) ((sl_SlN ((hS41.grow hx).ro h_rv)).cell hv48 (map_get hy49)) Try.underlying3 rfl)) rfl rfl ?_
            refine D_v rfl rfl (V_eql rfl (es rfl (es rfl (es rfl (es rfl (et rfl))))) (et rfl)) rfl rfl ?_
            refine D_split rfl rfl (V_mov rfl (et rfl)) rfl rfl (fun c50 => ?_) (fun c50 => ?_)
            · skip
              refine D_v rfl (wanted_t rfl rfl (et rfl) (ez rfl)) (V_mov rfl (es rfl (es rfl (es rfl (es rfl (es rfl (es rfl (es rfl (es rfl (es rfl (es rfl l5_44))))))))))) rfl rfl ?_
              refine D_v rfl (wanted_t rfl rfl (es rfl (et rfl)) (ez rfl)) (V_mov rfl (es rfl (es rfl (es rfl (es rfl (es rfl (es rfl (es rfl (es rfl (es rfl (es rfl (es rfl l8_44)))))))))))) rfl rfl ?_
              have k51 : i < (fwT l ms).length := by first | omega | (simp only [List.length_cons, List.length_nil]; omega)
              obtain ⟨y51, hy51⟩ := get_some (xs := (fwT l ms)) (k := i) k51
              obtain ⟨B51, O51, C51, hv51⟩ := (SlN.blk (ow_at (hS41.chq 0 rfl hc_41)) (by first | omega | (simp only [List.length_cons, List.length_nil]; omega)))
              refine D_v rfl (wanted_t rfl rfl (es rfl (es rfl (et rfl))) (ez rfl)) (V_ixS (off := O51 + i) 1 (i) rfl (es rfl (et rfl)) (et rfl) hv51 (by omega) k51 Try.underlying22 (by kernel_rfl) (congrArg _ (Nat.mul_one _))) rfl rfl ?_
              refine D_r rfl (wanted_t rfl rfl (es rfl (es rfl (es rfl (et rfl)))) (ez rfl)) (by kernel_rfl) (fun sx hx hF => (VR_ldC rfl (et rfl) ((ow_at ((hS41.grow hx).chq 0 rfl hc_41)).cell hv51 (map_get hy51)) Try.underlying3 rfl)) rfl rfl ?_
              refine D_v rfl (wanted_t rfl rfl (es rfl (es rfl (es rfl (es rfl (et rfl))))) (ez rfl)) (V_mov rfl (es rfl (es rfl (es rfl (es rfl (es rfl (es rfl (es rfl (es rfl (es rfl (es rfl (es rfl (es rfl (es rfl (es rfl l5_44))))))))))))))) rfl rfl ?_
              refine D_v rfl (wanted_t rfl rfl (es rfl (es rfl (es rfl (es rfl (es rfl (et rfl)))))) (ez rfl)) (V_mov rfl (es rfl (es rfl (es rfl (es rfl (es rfl (es rfl (es rfl (es rfl (es rfl (es rfl (es rfl (es rfl (es rfl (es rfl (es rfl l9_44)))))))))))))))) rfl rfl ?_
              have k52 : k < (fwT l ms).length := by first | omega | (simp only [List.length_cons, List.length_nil]; omega)
              obtain ⟨y52, hy52⟩ := get_some (xs := (fwT l ms)) (k := k) k52
              refine D_v rfl (wanted_t rfl rfl (es rfl (es rfl (es rfl (es rfl (es rfl (es rfl (et rfl))))))) (ez rfl)) (V_ixS (off := O51 + k) 1 (k) rfl (es rfl (et rfl)) (et rfl) hv51 (by omega) k52 Try.underlying22 (by kernel_rfl) (congrArg _ (Nat.mul_one _))) rfl rfl ?_
              refine D_r rfl (wanted_t rfl rfl (es rfl (es rfl (es rfl (es rfl (es rfl (es rfl (es rfl (et rfl)))))))) (ez rfl)) (by kernel_rfl) (fun sx hx hF => (VR_ldC rfl (et rfl) ((ow_at ((hS41.grow hx).chq 0 rfl hc_41)).cell hv51 (map_get hy52)) Try.underlying3 rfl)) rfl rfl ?_
              refine D_v rfl (wanted_t rfl rfl (es rfl (es rfl (es rfl (es rfl (es rfl (es rfl (es rfl (es rfl (et rfl))))))))) (ez rfl)) (V_neq rfl (es rfl (es rfl (es rfl (es rfl (et rfl))))) (et rfl)) rfl rfl ?_
              refine D_v rfl rfl (V_pickT rfl (es rfl (es rfl (es rfl (es rfl (es rfl (es rfl (es rfl (es rfl (es rfl (et rfl)))))))))) (et rfl)) rfl rfl ?_
              refine ZS_none hS41 (Nat.le_refl _) (Nat.le_refl _) (fun s53 hJ53 hL53 hF53 => ?_)
              have hS53 := hJ53.st; clear hF53 hJ53 hL53
              generalize s53.1 = w53 at *
              replace hS53 : St w NoX [c_41] w53 := hS53
              refine gen_Q (fun A54 hA54 => ?_)
              have hsz54 : SzN A54 215 := by rw [hA54]; infer_instance
              have hdf54 : A54.defers = [] := by rw [hA54]; simp only [df_put]; exact hdf44
              have l0_54 := lookE hA54 0 (es rfl (es rfl (es rfl (es rfl (es rfl (es rfl (es rfl (es rfl (es rfl (es rfl (es rfl (es rfl (es rfl (es rfl (es rfl (es rfl (es rfl (es rfl (es rfl (es rfl l0_44))))))))))))))))))))
              have l1_54 := lookE hA54 1 (es rfl (es rfl (es rfl (es rfl (es rfl (es rfl (es rfl (es rfl (es rfl (es rfl (es rfl (es rfl (es rfl (es rfl (es rfl (es rfl (es rfl (es rfl (es rfl (es rfl l1_44))))))))))))))))))))
              have l5_54 := lookE hA54 5 (es rfl (es rfl (es rfl (es rfl (es rfl (es rfl (es rfl (es rfl (es rfl (es rfl (es rfl (es rfl (es rfl (es rfl (es rfl (es rfl (es rfl (es rfl (es rfl (es rfl l5_44))))))))))))))))))))
              have l6_54 := lookE hA54 6 (es rfl (es rfl (es rfl (es rfl (es rfl (es rfl (es rfl (es rfl (es rfl (es rfl (es rfl (es rfl (es rfl (es rfl (es rfl (es rfl (es rfl (es rfl (es rfl (es rfl l6_44))))))))))))))))))))
              have l8_54 := lookE hA54 8 (es rfl (es rfl (es rfl (es rfl (es rfl (es rfl (es rfl (es rfl (es rfl (es rfl (es rfl (es rfl (es rfl (es rfl (es rfl (es rfl (es rfl (es rfl (es rfl (es rfl l8_44))))))))))))))))))))
              have l9_54 := lookE hA54 9 (es rfl (es rfl (es rfl (es rfl (es rfl (es rfl (es rfl (es rfl (es rfl (es rfl (es rfl (es rfl (es rfl (es rfl (es rfl (es rfl (es rfl (es rfl (es rfl (es rfl l9_44))))))))))))))))))))
              have l76_54 := lookE hA54 76 (es rfl (es rfl (es rfl (es rfl (es rfl (es rfl (es rfl (es rfl (es rfl (et rfl))))))))))
              have l77_54 := lookE hA54 77 (es rfl (es rfl (es rfl (es rfl (es rfl (es rfl (es rfl (es rfl (et rfl)))))))))
              have l78_54 := lookE hA54 78 (es rfl (es rfl (es rfl (es rfl (es rfl (es rfl (es rfl (et rfl))))))))
              have l79_54 := lookE hA54 79 (es rfl (es rfl (es rfl (es rfl (es rfl (es rfl (et rfl)))))))
              have l80_54 := lookE hA54 80 (es rfl (es rfl (es rfl (es rfl (es rfl (et rfl))))))
              have l81_54 := lookE hA54 81 (es rfl (es rfl (es rfl (es rfl (et rfl)))))
              have l82_54 := lookE hA54 82 (es rfl (es rfl (es rfl (et rfl))))
              have l83_54 := lookE hA54 83 (es rfl (es rfl (et rfl)))
              have l84_54 := lookE hA54 84 (es rfl (et rfl))
              have l85_54 := lookE hA54 85 (et rfl)
              clear hA54 hsz44 hdf44 l0_44 l1_44 l5_44 l6_44 l8_44 l9_44 l63_44
              refine then_n (hK47 _ _ ?_)
              clear hK47
              refine cond_not l85_54 (by rw [decide_eq_false_iff_not]; have e := c50; rw [fw_at h0 hy48 hy51, fw_at h0 hy49 hy52, e]; simp) ?_
              refine wp_skip ?_
              refine inb_n ?_
              refine then_n (hK46 _ _ ?_)
              clear hK46
              -- region 13
              refine region_in ?_
              refine W_v rfl rfl (V_mov rfl l9_54) ?_
              refine W_v rfl rfl (V_add rfl (et rfl) rfl (by omega) (by omega)) ?_
              refine W_v rfl rfl (V_asg rfl (et rfl)) ?_
              refine W_end ?_
              refine gen_Q (fun A55 hA55 => ?_)
              have hsz55 : SzN A55 215 := by rw [hA55]; infer_instance
              have hdf55 : A55.defers = [] := by rw [hA55]; simp only [df_put]; exact hdf54
              have l0_55 := lookE hA55 0 (es rfl (es rfl (es rfl l0_54)))
              have l1_55 := lookE hA55 1 (es rfl (es rfl (es rfl l1_54)))
              have l5_55 := lookE hA55 5 (es rfl (es rfl (es rfl l5_54)))
              have l6_55 := lookE hA55 6 (es rfl (es rfl (es rfl l6_54)))
              have l8_55 := lookE hA55 8 (es rfl (es rfl (es rfl l8_54)))
              have l9_55 := lookE hA55 9 (et rfl)
              have l76_55 := lookE hA55 76 (es rfl (es rfl (es rfl l76_54)))
              have l77_55 := lookE hA55 77 (es rfl (es rfl (es rfl l77_54)))
              have l78_55 := lookE hA55 78 (es rfl (es rfl (es rfl l78_54)))
              have l79_55 := lookE hA55 79 (es rfl (es rfl (es rfl l79_54)))
              have l80_55 := lookE hA55 80 (es rfl (es rfl (es rfl l80_54)))
              have l81_55 := lookE hA55 81 (es rfl (es rfl (es rfl l81_54)))
              have l82_55 := lookE hA55 82 (es rfl (es rfl (es rfl l82_54)))
              have l83_55 := lookE hA55 83 (es rfl (es rfl (es rfl l83_54)))
              have l84_55 := lookE hA55 84 (es rfl (es rfl (es rfl l84_54)))
              clear hA55 hsz54 hdf54 l0_54 l1_54 l5_54 l6_54 l8_54 l9_54 l76_54 l77_54 l78_54 l79_54 l80_54 l81_54 l82_54 l83_54 l84_54 l85_54
              refine then_n ⟨l.length - (k + 1), by simp only [hm41]; omega, hsz55, hdf55, (k + 1), rfl, (by omega), ((l9_55).trans (by first | rfl | (simp; done) | (congr 1; omega))), ((l0_55).trans l0_40.symm), ((l1_55).trans l1_40.symm), ((l5_55).trans l5_40.symm), ((l6_55).trans l6_40.symm), ((l8_55).trans l8_40.symm), (by subst hc_41; exact hS53)⟩
            · skip
              refine D_off rfl (wanted_f rfl rfl (et rfl) (ez rfl) rfl) rfl ?_
              refine D_off rfl (wanted_f rfl rfl (es rfl (et rfl)) (ez rfl) rfl) rfl ?_
              refine D_off rfl (wanted_f rfl rfl (es rfl (es rfl (et rfl))) (ez rfl) rfl) rfl ?_
              refine D_off rfl (wanted_f rfl rfl (es rfl (es rfl (es rfl (et rfl)))) (ez rfl) rfl) rfl ?_
              refine D_off rfl (wanted_f rfl rfl (es rfl (es rfl (es rfl (es rfl (et rfl))))) (ez rfl) rfl) rfl ?_
              refine D_off rfl (wanted_f rfl rfl (es rfl (es rfl (es rfl (es rfl (es rfl (et rfl)))))) (ez rfl) rfl) rfl ?_
              refine D_off rfl (wanted_f rfl rfl (es rfl (es rfl (es rfl (es rfl (es rfl (es rfl (et rfl))))))) (ez rfl) rfl) rfl ?_
              refine D_off rfl (wanted_f rfl rfl (es rfl (es rfl (es rfl (es rfl (es rfl (es rfl (es rfl (et rfl)))))))) (ez rfl) rfl) rfl ?_
              refine D_off rfl (wanted_f rfl rfl (es rfl (es rfl (es rfl (es rfl (es rfl (es rfl (es rfl (es rfl (et rfl))))))))) (ez rfl) rfl) rfl ?_
              refine D_v rfl rfl (V_pickF rfl (es rfl (es rfl (es rfl (es rfl (es rfl (es rfl (es rfl (es rfl (es rfl (et rfl)))))))))) rfl) rfl rfl ?_
              refine ZS_none hS41 (Nat.le_refl _) (Nat.le_refl _) (fun s56 hJ56 hL56 hF56 => ?_)
              have hS56 := hJ56.st; clear hF56 hJ56 hL56
              generalize s56.1 = w56 at *
              replace hS56 : St w NoX [c_41] w56 := hS56
              refine gen_Q (fun A57 hA57 => ?_)
              have hsz57 : SzN A57 215 := by rw [hA57]; infer_instance
              have hdf57 : A57.defers = [] := by rw [hA57]; simp only [df_put]; exact hdf44
              have l0_57 := lookE hA57 0 (es rfl (es rfl (es rfl (es rfl (es rfl (es rfl (es rfl (es rfl (es rfl (es rfl (es rfl (es rfl (es rfl (es rfl (es rfl (es rfl (es rfl (es rfl (es rfl (es rfl l0_44))))))))))))))))))))
              have l1_57 := lookE hA57 1 (es rfl (es rfl (es rfl (es rfl (es rfl (es rfl (es rfl (es rfl (es rfl (es rfl (es rfl (es rfl (es rfl (es rfl (es rfl (es rfl (es rfl (es rfl (es rfl (es rfl l1_44))))))))))))))))))))
              have l5_57 := lookE hA57 5 (es rfl (es rfl (es rfl (es rfl (es rfl (es rfl (es rfl (es rfl (es rfl (es rfl (es rfl (es rfl (es rfl (es rfl (es rfl (es rfl (es rfl (es rfl (es rfl (es rfl l5_44))))))))))))))))))))
              have l6_57 := lookE hA57 6 (es rfl (es rfl (es rfl (es rfl (es rfl (es rfl (es rfl (es rfl (es rfl (es rfl (es rfl (es rfl (es rfl (es rfl (es rfl (es rfl (es rfl (es rfl (es rfl (es rfl l6_44))))))))))))))))))))
              have l8_57 := lookE hA57 8 (es rfl (es rfl (es rfl (es rfl (es rfl (es rfl (es rfl (es rfl (es rfl (es rfl (es rfl (es rfl (es rfl (es rfl (es rfl (es rfl (es rfl (es rfl (es rfl (es rfl l8_44))))))))))))))))))))
              have l9_57 := lookE hA57 9 (es rfl (es rfl (es rfl (es rfl (es rfl (es rfl (es rfl (es rfl (es rfl (es rfl (es rfl (es rfl (es rfl (es rfl (es rfl (es rfl (es rfl (es rfl (es rfl (es rfl l9_44))))))))))))))))))))
              have l76_57 := lookE hA57 76 (es rfl (es rfl (es rfl (es rfl (es rfl (es rfl (es rfl (es rfl (es rfl (et rfl))))))))))
              have l77_57 := lookE hA57 77 (es rfl (es rfl (es rfl (es rfl (es rfl (es rfl (es rfl (es rfl (et rfl)))))))))
              have l78_57 := lookE hA57 78 (es rfl (es rfl (es rfl (es rfl (es rfl (es rfl (es rfl (et rfl))))))))
              have l79_57 := lookE hA57 79 (es rfl (es rfl (es rfl (es rfl (es rfl (es rfl (et rfl)))))))
              have l80_57 := lookE hA57 80 (es rfl (es rfl (es rfl (es rfl (es rfl (et rfl))))))
              have l81_57 := lookE hA57 81 (es rfl (es rfl (es rfl (es rfl (et rfl)))))
              have l82_57 := lookE hA57 82 (es rfl (es rfl (es rfl (et rfl))))
              have l83_57 := lookE hA57 83 (es rfl (es rfl (et rfl)))
              have l84_57 := lookE hA57 84 (es rfl (et rfl))
              have l85_57 := lookE hA57 85 (et rfl)
              clear hA57 hsz44 hdf44 l0_44 l1_44 l5_44 l6_44 l8_44 l9_44 l63_44
              refine then_n (hK47 _ _ ?_)
              clear hK47
              refine cond_f l85_57 ?_
              refine wp_skip ?_
              refine inb_n ?_
              refine then_n (hK46 _ _ ?_)
              clear hK46
              -- region 13
              refine region_in ?_
              refine W_v rfl rfl (V_mov rfl l9_57) ?_
              refine W_v rfl rfl (V_add rfl (et rfl) rfl (by omega) (by omega)) ?_
              refine W_v rfl rfl (V_asg rfl (et rfl)) ?_
              refine W_end ?_
              refine gen_Q (fun A58 hA58 => ?_)
              have hsz58 : SzN A58 215 := by rw [hA58]; infer_instance
              have hdf58 : A58.defers = [] := by rw [hA58]; simp only [df_put]; exact hdf57
              have l0_58 := lookE hA58 0 (es rfl (es rfl (es rfl l0_57)))
              have l1_58 := lookE hA58 1 (es rfl (es rfl (es rfl l1_57)))
              have l5_58 := lookE hA58 5 (es rfl (es rfl (es rfl l5_57)))
              have l6_58 := lookE hA58 6 (es rfl (es rfl (es rfl l6_57)))
              have l8_58 := lookE hA58 8 (es rfl (es rfl (es rfl l8_57)))
              have l9_58 := lookE hA58 9 (et rfl)
              have l76_58 := lookE hA58 76 (es rfl (es rfl (es rfl l76_57)))
              have l77_58 := lookE hA58 77 (es rfl (es rfl (es rfl l77_57)))
              have l78_58 := lookE hA58 78 (es rfl (es rfl (es rfl l78_57)))
              have l79_58 := lookE hA58 79 (es rfl (es rfl (es rfl l79_57)))
              have l80_58 := lookE hA58 80 (es rfl (es rfl (es rfl l80_57)))
              have l81_58 := lookE hA58 81 (es rfl (es rfl (es rfl l81_57)))
              have l82_58 := lookE hA58 82 (es rfl (es rfl (es rfl l82_57)))
              have l83_58 := lookE hA58 83 (es rfl (es rfl (es rfl l83_57)))
              have l84_58 := lookE hA58 84 (es rfl (es rfl (es rfl l84_57)))
              clear hA58 hsz57 hdf57 l0_57 l1_57 l5_57 l6_57 l8_57 l9_57 l76_57 l77_57 l78_57 l79_57 l80_57 l81_57 l82_57 l83_57 l84_57 l85_57
              refine then_n ⟨l.length - (k + 1), by simp only [hm41]; omega, hsz58, hdf58, (k + 1), rfl, (by omega), ((l9_58).trans (by first | rfl | (simp; done) | (congr 1; omega))), ((l0_58).trans l0_40.symm), ((l1_58).trans l1_40.symm), ((l5_58).trans l5_40.symm), ((l6_58).trans l6_40.symm), ((l8_58).trans l8_40.symm), (by subst hc_41; exact hS56)⟩
          · skip
            refine wp_exit ?_
            refine then_exit ?_
            refine then_exit ?_
            refine inb_hit ?_
            refine inb_n ?_
            refine then_n (hK38 _ _ ?_)
            clear hK38
            -- region 10
            refine region_in ?_
            refine W_v rfl rfl (V_mov rfl l8_44) ?_
            refine W_v rfl rfl (V_add rfl (et rfl) rfl (by omega) (by omega)) ?_
            refine W_v rfl rfl (V_asg rfl (et rfl)) ?_
            refine W_end ?_
            refine gen_Q (fun A59 hA59 => ?_)
            have hsz59 : SzN A59 215 := by rw [hA59]; infer_instance
            have hdf59 : A59.defers = [] := by rw [hA59]; simp only [df_put]; exact hdf44
            have l0_59 := lookE hA59 0 (es rfl (es rfl (es rfl l0_44)))
            have l1_59 := lookE hA59 1 (es rfl (es rfl (es rfl l1_44)))
            have l5_59 := lookE hA59 5 (es rfl (es rfl (es rfl l5_44)))
            have l6_59 := lookE hA59 6 (es rfl (es rfl (es rfl l6_44)))
            have l8_59 := lookE hA59 8 (et rfl)
            clear hA59 hsz44 hdf44 l0_44 l1_44 l5_44 l6_44 l8_44 l9_44 l63_44
            refine then_n ⟨l.length - (i + 1), by simp only [hm33]; omega, hsz59, hdf59, (i + 1), rfl, (by omega), ((l8_59).trans (by first | rfl | (simp; done) | (congr 1; omega))), ((l0_59).trans l0_32.symm), ((l1_59).trans l1_32.symm), ((l5_59).trans l5_32.symm), ((l6_59).trans l6_32.symm), (by subst hc_41; exact hS41)⟩
        · skip
          refine wp_exit ?_
          refine then_exit ?_
          refine then_exit ?_
          refine inb_hit ?_
          refine then_n (hK30 _ _ ?_)
          clear hK30
          refine wp_seq_k (fun K60 hK60 => ?_)
          -- region 16
          refine region_in ?_
          refine W_v rfl rfl (V_asg rfl rfl) ?_
          refine W_end ?_
          refine gen_Q (fun A61 hA61 => ?_)
          have hsz61 : SzN A61 215 := by rw [hA61]; infer_instance
          have hdf61 : A61.defers = [] := by rw [hA61]; simp only [df_put]; exact hdf36
          have l0_61 := lookE hA61 0 (es rfl l0_36)
          have l1_61 := lookE hA61 1 (es rfl l1_36)
          have l5_61 := lookE hA61 5 (es rfl l5_36)
          have l6_61 := lookE hA61 6 (es rfl l6_36)
          have l10_61 := lookE hA61 10 (et rfl)
          clear hA61 hsz36 hdf36 l0_36 l1_36 l5_36 l6_36 l8_36 l57_36
          refine then_n (hK60 _ _ ?_)
          clear hK60
          refine wp_seq_k (fun K62 hK62 => ?_)
          refine wp_seq_k (fun K63 hK63 => ?_)
          -- region 17
          refine region_in ?_
          refine W_v rfl rfl (V_asg rfl rfl) ?_
          refine W_end ?_
          refine gen_Q (fun A64 hA64 => ?_)
          have hsz64 : SzN A64 215 := by rw [hA64]; infer_instance
          have hdf64 : A64.defers = [] := by rw [hA64]; simp only [df_put]; exact hdf61
          have l0_64 := lookE hA64 0 (es rfl l0_61)
          have l1_64 := lookE hA64 1 (es rfl l1_61)
          have l5_64 := lookE hA64 5 (es rfl l5_61)
          have l6_64 := lookE hA64 6 (es rfl l6_61)
          have l10_64 := lookE hA64 10 (es rfl l10_61)
          have l11_64 := lookE hA64 11 (et rfl)
          clear hA64 hsz61 hdf61 l0_61 l1_61 l5_61 l6_61 l10_61
          refine then_n (hK63 _ _ ?_)
          clear hK63
          refine wp_block ?_
          obtain ⟨c65, hc65, hS65⟩ := hS33.pnil (s := 2)
          -- loop 18
          refine loopX (fun mz A' w' => SzN A' 215 ∧ A'.defers = [] ∧ (∃ (i2 : Nat) (bv : Value), (mz = ms.length - i2) ∧ (i2 ≤ ms.length) ∧ (BkK l ms i2) ∧ (EV A' (.tmp 11) = .int .i64 (i2 : Int)) ∧ (EV A' (.tmp 10) = bv) ∧ (EV A' (.tmp 0) = EV A64 (.tmp 0)) ∧ (EV A' (.tmp 1) = EV A64 (.tmp 1)) ∧ (EV A' (.tmp 5) = EV A64 (.tmp 5)) ∧ (EV A' (.tmp 6) = EV A64 (.tmp 6)) ∧ (St w NoX [ro 2 mvC bv ((ms.take i2).map swp), io .i64 v_17 (fwT l ms)] w'))) (ms.length - 0) ⟨hsz64, hdf64, 0, (.slice none 0 0), rfl, (by omega), (BkK_zero _ _), ((l11_64).trans (by first | rfl | (simp; done) | (congr 1; omega))), ((l10_64).trans (by first | rfl | (simp; done) | (congr 1; omega))), rfl, rfl, rfl, rfl, (by have q0 : c65 = ro 2 mvC (.slice none 0 0) ((ms.take 0).map swp) := hc65.trans (rfl); have q1 := hc_33; subst q0 q1; exact hS65)⟩ ?_
          clear hS65 hc65 hc_33
          rintro n66 A66 w66 ⟨hsz66, hdf66, i2, bv, hm66, hi2, hbk, l11_66, l10_66, u0_66, u1_66, u5_66, u6_66, hS66⟩
          have l0_66 := u0_66.trans l0_64
          have l1_66 := u1_66.trans l1_64
          have l5_66 := u5_66.trans l5_64
          have l6_66 := u6_66.trans l6_64
          obtain ⟨c65_66, c_66, hc65_66, hc_66, hS66⟩ := gen2 hS66
          refine wp_seq_k (fun K67 hK67 => ?_)
          refine wp_seq_k (fun K68 hK68 => ?_)
          -- region 18
          refine region_in ?_
          refine W_v rfl rfl (V_mov rfl l11_66) ?_
          refine W_v rfl rfl (V_mov rfl (es rfl l1_66)) ?_
          refine W_v rfl rfl (V_lenS rfl (et rfl) (sl_SlN h_mv.at) Try.underlying33) ?_
          refine W_v rfl rfl (V_lss rfl (es rfl (es rfl (et rfl))) (et rfl)) ?_
          refine W_end ?_
          refine gen_Q (fun A69 hA69 => ?_)
          have hsz69 : SzN A69 215 := by rw [hA69]; infer_instance
          have hdf69 : A69.defers = [] := by rw [hA69]; simp only [df_put]; exact hdf66
          have l0_69 := lookE hA69 0 (es rfl (es rfl (es rfl (es rfl l0_66))))
          have l1_69 := lookE hA69 1 (es rfl (es rfl (es rfl (es rfl l1_66))))
          have l5_69 := lookE hA69 5 (es rfl (es rfl (es rfl (es rfl l5_66))))
          have l6_69 := lookE hA69 6 (es rfl (es rfl (es rfl (es rfl l6_66))))
          have l10_69 := lookE hA69 10 (es rfl (es rfl (es rfl (es rfl l10_66))))
          have l11_69 := lookE hA69 11 (es rfl (es rfl (es rfl (es rfl l11_66))))
          have l89_69 := lookE hA69 89 (et rfl)
          clear hA69 hsz66 hdf66 l11_66 l10_66 l0_66 l1_66 l5_66 l6_66
          refine then_n (hK68 _ _ ?_)
          clear hK68
          refine cond_dec l89_69 (fun c70 => ?_) (fun c70 => ?_)
          · skip
            refine wp_skip ?_
            refine then_n (hK67 _ _ ?_)
            clear hK67
            refine wp_seq_k (fun K71 hK71 => ?_)
            refine wp_block ?_
            refine wp_seq_k (fun K72 hK72 => ?_)
            -- region 20
            have k73 : i2 < ms.length := by first | omega | (simp only [List.length_cons, List.length_nil]; omega)
            obtain ⟨y73, hy73⟩ := get_some (xs := ms) (k := i2) k73
            refine region_monoS 13 14 [none, none, none, none, none, none, none, none, none, none, none, none, some (SPc (fun u l' => ∃ g, u = .slice (some ⟨g, 0, none⟩) 1 1 ∧ ∃ c, c = ro 2 mvC (.slice (some ⟨g, 0, none⟩) 1 1) [(y73.2, y73.1)] ∧ l' = [c]) 12)] (by kernel_rfl) (by kernel_rfl) ?_
            refine D_v rfl rfl (V_mov rfl l10_69) rfl rfl ?_
            refine D_v rfl rfl (V_mov rfl (es rfl l1_69)) rfl rfl ?_
            refine D_v rfl rfl (V_mov rfl (es rfl (es rfl l11_69))) rfl rfl ?_
            obtain ⟨B73, O73, C73, hv73⟩ := (SlN.blk (sl_SlN h_mv.at) (by first | omega | (simp only [List.length_cons, List.length_nil]; omega)))
            refine D_v rfl rfl (V_ixS (off := O73 + i2 * 2) 2 (i2) rfl (es rfl (et rfl)) (et rfl) hv73 (by omega) k73 Try.underlying33 (by kernel_rfl) rfl) rfl rfl ?_
            refine D_v rfl rfl (V_fa (off' := O73 + i2 * 2 + 1) rfl (et rfl) Try.underlying39 rfl (by decide) rfl) rfl rfl ?_
            refine D_r rfl rfl (by kernel_rfl) (fun sx hx hF => (VR_ldC (v := .int .i64 (y73.2)) rfl (et rfl) (SlN.row mvC_len (sl_SlN ((hS66.grow hx).ro h_mv)) hv73 hy73 rfl 1 _ rfl) Try.underlying3 rfl)) rfl rfl ?_
            refine D_v rfl rfl (V_mov rfl (es rfl (es rfl (es rfl (es rfl (es rfl (es rfl l1_69))))))) rfl rfl ?_
            refine D_v rfl rfl (V_mov rfl (es rfl (es rfl (es rfl (es rfl (es rfl (es rfl (es rfl l11_69)))))))) rfl rfl ?_
            refine D_v rfl rfl (V_ixS (off := O73 + i2 * 2) 2 (i2) rfl (es rfl (et rfl)) (et rfl) hv73 (by omega) k73 Try.underlying33 (by kernel_rfl) rfl) rfl rfl ?_
            refine D_v rfl rfl (V_fa (off' := O73 + i2 * 2 + 0) rfl (et rfl) Try.underlying39 rfl (by decide) rfl) rfl rfl ?_
            refine D_r rfl rfl (by kernel_rfl) (fun sx hx hF => (VR_ldC (v := .int .i64 (y73.1)) rfl (et rfl) (SlN.row mvC_len (sl_SlN ((hS66.grow hx).ro h_mv)) hv73 hy73 rfl 0 _ rfl) Try.underlying3 rfl)) rfl rfl ?_
            refine D_v rfl rfl (V_bldS (n := 2) (z := .agg #[.int .i64 0, .int .i64 0]) rfl (parts2 (es rfl (es rfl (es rfl (es rfl (es rfl (et rfl)))))) (et rfl)) (by kernel_rfl) (by simp only [List.all_cons, List.all_nil, Bool.and_true] <;> rfl) (by kernel_rfl) (by simp only [List.foldl_cons, List.foldl_nil, Value.cells, List.setIfInBounds_toArray, List.set_cons_succ, List.set_cons_zero] <;> rfl)) rfl rfl ?_
            have hll75 : [(y73.2, y73.1)].length = 1 := rfl
            refine D_lay (C := fun u l' => ∃ g, u = .slice (some ⟨g, 0, none⟩) 1 1 ∧ ∃ c, c = ro 2 mvC (.slice (some ⟨g, 0, none⟩) 1 1) [(y73.2, y73.1)] ∧ l' = [c]) rfl rfl rfl rfl (fun sx hx hF => lay_lit (vs := [.agg #[.int .i64 (y73.2), .int .i64 (y73.1)]]) 2 rfl (parts1 (et rfl)) rfl Try.underlying33 (by kernel_rfl) (by decide) (by intro v hv; simp only [List.mem_cons, List.not_mem_nil, or_false] at hv; rcases hv with rfl <;> rfl) (by rfl)) (fun u75 l75 hu75 => ?_)
            obtain ⟨g75, rfl, c75, hc75, hl75⟩ := hu75
            refine D_eff rfl ?_
            refine ZS_eff hS66 rfl rfl (fun s76 hJ76 hL76 hF76 => ?_)
            obtain ⟨ll75, ws75, we75, ⟨g75q, hq75, c75r, hc75r, hl75r⟩, hm75, k75, e75⟩ := L.all_get hF76; cases hq75; subst hl75r
            replace hJ76 := hJ76.add hL76 (i := 12) rfl hm75 k75 e75
            have hS76 := hJ76.st; clear hF76 hJ76 hL76
            generalize s76.1 = w76 at *
            replace hS76 : St w NoX [c75r, c65_66, c_66] w76 := hS76
            refine W_appS 2 1 hS76 rfl hc65_66 rfl rfl rfl (es rfl (es rfl (es rfl (es rfl (es rfl (es rfl (es rfl (es rfl (es rfl (es rfl (es rfl (es rfl (et rfl))))))))))))) (et rfl) Try.underlying33 Try.underlying33 (z := .agg #[.int .i64 0, .int .i64 0]) (bytes := 16) (by kernel_rfl) rfl (by decide) (ow_at (hS76.chq 0 rfl hc75r)) (ones_r mvC_one) (by simp; omega) (by simp; omega) (fun v77 w77 c77 hc77 hS77 => ?_)
            replace hc77 : c77 = ro 2 mvC v77 (((ms.take i2).map swp) ++ [(y73.2, y73.1)]) := hc77.trans (app_eqR (by simp))
            replace hS77 : St w NoX [c75r, c77, c_66] w77 := hS77
            refine W_v rfl rfl (V_asg rfl (et rfl)) ?_
            refine W_end ?_
            refine Qo_normal ?_
            refine gen_Q (fun A78 hA78 => ?_)
            have hsz78 : SzN A78 215 := by rw [hA78]; infer_instance
            have hdf78 : A78.defers = [] := by rw [hA78]; simp only [df_put]; exact hdf69
            have l0_78 := lookE hA78 0 (es rfl (es rfl (es rfl (es rfl (es rfl (es rfl (es rfl (es rfl (es rfl (es rfl (es rfl (es rfl (es rfl (es rfl (es rfl l0_69)))))))))))))))
            have l1_78 := lookE hA78 1 (es rfl (es rfl (es rfl (es rfl (es rfl (es rfl (es rfl (es rfl (es rfl (es rfl (es rfl (es rfl (es rfl (es rfl (es rfl l1_69)))))))))))))))
            have l5_78 := lookE hA78 5 (es rfl (es rfl (es rfl (es rfl (es rfl (es rfl (es rfl (es rfl (es rfl (es rfl (es rfl (es rfl (es rfl (es rfl (es rfl l5_69)))))))))))))))
            have l6_78 := lookE hA78 6 (es rfl (es rfl (es rfl (es rfl (es rfl (es rfl (es rfl (es rfl (es rfl (es rfl (es rfl (es rfl (es rfl (es rfl (es rfl l6_69)))))))))))))))
            have l10_78 := lookE hA78 10 (et rfl)
            have l11_78 := lookE hA78 11 (es rfl (es rfl (es rfl (es rfl (es rfl (es rfl (es rfl (es rfl (es rfl (es rfl (es rfl (es rfl (es rfl (es rfl (es rfl l11_69)))))))))))))))
            clear hA78 hsz69 hdf69 l0_69 l1_69 l5_69 l6_69 l10_69 l11_69 l89_69
            have hS79 : St w NoX [c77, c_66] w77 := hS77.sel [1, 2] (by decide) rfl
            refine then_n (hK72 _ _ ?_)
            clear hK72
            refine wp_seq_k (fun K80 hK80 => ?_)
            refine wp_seq_k (fun K81 hK81 => ?_)
            -- region 21
            refine region_in ?_
            refine W_v rfl rfl (V_asg rfl rfl) ?_
            refine W_end ?_
            refine gen_Q (fun A82 hA82 => ?_)
            have hsz82 : SzN A82 215 := by rw [hA82]; infer_instance
            have hdf82 : A82.defers = [] := by rw [hA82]; simp only [df_put]; exact hdf78
            have l0_82 := lookE hA82 0 (es rfl l0_78)
            have l1_82 := lookE hA82 1 (es rfl l1_78)
            have l5_82 := lookE hA82 5 (es rfl l5_78)
            have l6_82 := lookE hA82 6 (es rfl l6_78)
            have l10_82 := lookE hA82 10 (es rfl l10_78)
            have l11_82 := lookE hA82 11 (es rfl l11_78)
            have l12_82 := lookE hA82 12 (et rfl)
            clear hA82 hsz78 hdf78 l0_78 l1_78 l5_78 l6_78 l10_78 l11_78
            refine then_n (hK81 _ _ ?_)
            clear hK81
            refine wp_block ?_
            -- loop 22
            refine loopX (fun mz A' w' => SzN A' 215 ∧ A'.defers = [] ∧ (∃ (q : Nat), (mz = i2 - q) ∧ (q ≤ i2) ∧ (∀ q2, q2 < q → ∀ z : Int × Int, ms[q2]? = some z → ¬ z.2 = y73.2) ∧ (EV A' (.tmp 12) = .int .i64 (q : Int)) ∧ (EV A' (.tmp 0) = EV A82 (.tmp 0)) ∧ (EV A' (.tmp 1) = EV A82 (.tmp 1)) ∧ (EV A' (.tmp 5) = EV A82 (.tmp 5)) ∧ (EV A' (.tmp 6) = EV A82 (.tmp 6)) ∧ (EV A' (.tmp 10) = EV A82 (.tmp 10)) ∧ (EV A' (.tmp 11) = EV A82 (.tmp 11)) ∧ (St w NoX [ro 2 mvC v77 (((ms.take i2).map swp) ++ [(y73.2, y73.1)]), io .i64 v_17 (fwT l ms)] w'))) (i2 - 0) ⟨hsz82, hdf82, 0, rfl, (by omega), (fun _ h => by omega), ((l12_82).trans (by first | rfl | (simp; done) | (congr 1; omega))), rfl, rfl, rfl, rfl, rfl, rfl, (by subst hc77 hc_66; exact hS79)⟩ ?_
            clear hS79 hc77 hc_66
            rintro n83 A83 w83 ⟨hsz83, hdf83, q, hm83, hq, h1, l12_83, u0_83, u1_83, u5_83, u6_83, u10_83, u11_83, hS83⟩
            have l0_83 := u0_83.trans l0_82
            have l1_83 := u1_83.trans l1_82
            have l5_83 := u5_83.trans l5_82
            have l6_83 := u6_83.trans l6_82
            have l10_83 := u10_83.trans l10_82
            have l11_83 := u11_83.trans l11_82
            obtain ⟨c77_83, c_83, hc77_83, hc_83, hS83⟩ := gen2 hS83
            refine wp_seq_k (fun K84 hK84 => ?_)
            refine wp_seq_k (fun K85 hK85 => ?_)
            -- region 22
            refine region_in ?_
            refine W_v rfl rfl (V_mov rfl l12_83) ?_
            refine W_v rfl rfl (V_mov rfl (es rfl l11_83)) ?_
            refine W_v rfl rfl (V_lss rfl (es rfl (et rfl)) (et rfl)) ?_
            refine W_end ?_
            refine gen_Q (fun A86 hA86 => ?_)
            have hsz86 : SzN A86 215 := by rw [hA86]; infer_instance
            have hdf86 : A86.defers = [] := by rw [hA86]; simp only [df_put]; exact hdf83
            have l0_86 := lookE hA86 0 (es rfl (es rfl (es rfl l0_83)))
            have l1_86 := lookE hA86 1 (es rfl (es rfl (es rfl l1_83)))
            have l5_86 := lookE hA86 5 (es rfl (es rfl (es rfl l5_83)))
            have l6_86 := lookE hA86 6 (es rfl (es rfl (es rfl l6_83)))
            have l10_86 := lookE hA86 10 (es rfl (es rfl (es rfl l10_83)))
            have l11_86 := lookE hA86 11 (es rfl (es rfl (es rfl l11_83)))
            have l12_86 := lookE hA86 12 (es rfl (es rfl (es rfl l12_83)))
            have l108_86 := lookE hA86 108 (et rfl)
            clear hA86 hsz83 hdf83 l12_83 l0_83 l1_83 l5_83 l6_83 l10_83 l11_83
            refine then_n (hK85 _ _ ?_)
            clear hK85
            refine cond_dec l108_86 (fun c87 => ?_) (fun c87 => ?_)
            · skip
              refine wp_skip ?_
              refine then_n (hK84 _ _ ?_)
              clear hK84
              refine wp_seq_k (fun K88 hK88 => ?_)
              refine wp_block ?_
              refine wp_seq_k (fun K89 hK89 => ?_)
              -- region 24
              refine region_monoS 11 11 [] (by kernel_rfl) (by kernel_rfl) ?_
              refine D_v rfl rfl (V_mov rfl l1_86) rfl rfl ?_
              refine D_v rfl rfl (V_mov rfl (es rfl l12_86)) rfl rfl ?_
              have k90 : q < ms.length := by first | omega | (simp only [List.length_cons, List.length_nil]; omega)
              obtain ⟨y90, hy90⟩ := get_some (xs := ms) (k := q) k90
              refine D_v rfl rfl (V_ixS (off := O73 + q * 2) 2 (q) rfl (es rfl (et rfl)) (et rfl) hv73 (by omega) k90 Try.underlying33 (by kernel_rfl) rfl) rfl rfl ?_
              refine D_v rfl rfl (V_fa (off' := O73 + q * 2 + 1) rfl (et rfl) Try.underlying39 rfl (by decide) rfl) rfl rfl ?_
              refine D_r rfl rfl (by kernel_rfl) (fun sx hx hF => (VR_ldC (v := .int .i64 (y90.2)) rfl (et rfl) (SlN.row mvC_len (sl_SlN ((hS83.grow hx).ro h_mv)) hv73 hy90 rfl 1 _ rfl) Try.underlying3 rfl)) rfl rfl ?_
              refine D_v rfl rfl (V_mov rfl (es rfl (es rfl (es rfl (es rfl (es rfl l1_86)))))) rfl rfl ?_
              refine D_v rfl rfl (V_mov rfl (es rfl (es rfl (es rfl (es rfl (es rfl (es rfl l11_86))))))) rfl rfl ?_
              refine D_v rfl rfl (V_ixS (off := O73 + i2 * 2) 2 (i2) rfl (es rfl (et rfl)) (et rfl) hv73 (by omega) k73 Try.underlying33 (by kernel_rfl) rfl) rfl rfl ?_
              refine D_v rfl rfl (V_fa (off' := O73 + i2 * 2 + 1) rfl (et rfl) Try.underlying39 rfl (by decide) rfl) rfl rfl ?_
              refine D_r rfl rfl (by kernel_rfl) (fun sx hx hF => (VR_ldC (v := .int .i64 (y73.2)) rfl (et rfl) (SlN.row mvC_len (sl_SlN ((hS83.grow hx).ro h_mv)) hv73 hy73 rfl 1 _ rfl) Try.underlying3 rfl)) rfl rfl ?_
              refine D_v rfl rfl (V_eql rfl (es rfl (es rfl (es rfl (es rfl (es rfl (et rfl)))))) (et rfl)) rfl rfl ?_
              refine ZS_none hS83 (Nat.le_refl _) (Nat.le_refl _) (fun s92 hJ92 hL92 hF92 => ?_)
              have hS92 := hJ92.st; clear hF92 hJ92 hL92
              generalize s92.1 = w92 at *
              replace hS92 : St w NoX [c77_83, c_83] w92 := hS92
              refine gen_Q (fun A93 hA93 => ?_)
              have hsz93 : SzN A93 215 := by rw [hA93]; infer_instance
              have hdf93 : A93.defers = [] := by rw [hA93]; simp only [df_put]; exact hdf86
              have l0_93 := lookE hA93 0 (es rfl (es rfl (es rfl (es rfl (es rfl (es rfl (es rfl (es rfl (es rfl (es rfl (es rfl l0_86)))))))))))
              have l1_93 := lookE hA93 1 (es rfl (es rfl (es rfl (es rfl (es rfl (es rfl (es rfl (es rfl (es rfl (es rfl (es rfl l1_86)))))))))))
              have l5_93 := lookE hA93 5 (es rfl (es rfl (es rfl (es rfl (es rfl (es rfl (es rfl (es rfl (es rfl (es rfl (es rfl l5_86)))))))))))
              have l6_93 := lookE hA93 6 (es rfl (es rfl (es rfl (es rfl (es rfl (es rfl (es rfl (es rfl (es rfl (es rfl (es rfl l6_86)))))))))))
              have l10_93 := lookE hA93 10 (es rfl (es rfl (es rfl (es rfl (es rfl (es rfl (es rfl (es rfl (es rfl (es rfl (es rfl l10_86)))))))))))
              have l11_93 := lookE hA93 11 (es rfl (es rfl (es rfl (es rfl (es rfl (es rfl (es rfl (es rfl (es rfl (es rfl (es rfl l11_86)))))))))))
              have l12_93 := lookE hA93 12 (es rfl (es rfl (es rfl (es rfl (es rfl (es rfl (es rfl (es rfl (es rfl (es rfl (es rfl l12_86)))))))))))
              have l121_93 := lookE hA93 121 (et rfl)
              clear hA93 hsz86 hdf86 l0_86 l1_86 l5_86 l6_86 l10_86 l11_86 l12_86 l108_86
              refine then_n (hK89 _ _ ?_)
              clear hK89
              refine cond_dec l121_93 (fun c94 => ?_) (fun c94 => ?_)
              · skip
                refine wp_seq_k (fun K95 hK95 => ?_)
                -- region 25
                refine region_in ?_
                refine W_call rfl rfl rfl Try.func12 (by kernel_rfl) rfl (args0) (shw_c  ) ?_
                rintro _ w96 ⟨rfl, hP96⟩
                refine ⟨_, rfl, ?_⟩
                have hS96 := hS92.join hP96
                replace hS96 : St w NoX [c77_83, c_83] w96 := hS96
                refine W_v rfl rfl (V_asg rfl (et rfl)) ?_
                refine W_end ?_
                refine gen_Q (fun A97 hA97 => ?_)
                have hsz97 : SzN A97 215 := by rw [hA97]; infer_instance
                have hdf97 : A97.defers = [] := by rw [hA97]; simp only [df_put]; exact hdf93
                have l4_97 := lookE hA97 4 (et rfl)
                clear hA97 hsz93 hdf93 l0_93 l1_93 l5_93 l6_93 l10_93 l11_93 l12_93 l121_93
                have hS98 : St w NoX [] w96 := hS96.sel [] (by decide) rfl
                refine then_n (hK95 _ _ ?_)
                clear hK95
                refine wp_ret ?_
                refine inb_ret ?_
                refine then_ret ?_
                refine then_ret ?_
                refine inb_ret ?_
                refine then_ret ?_
                refine inb_ret ?_
                refine then_ret ?_
                refine then_ret ?_
                refine inb_ret ?_
                refine then_ret ?_
                refine ret_in (results_1 Try.results5 (rv_tmp l4_97)) hdf97 ?_
                -- leaf FFFFTTT
                exact ⟨rfl, hS98.fin0⟩
              · skip
                refine wp_skip ?_
                refine inb_n ?_
                refine then_n (hK88 _ _ ?_)
                clear hK88
                -- region 23
                refine region_in ?_
                refine W_v rfl rfl (V_mov rfl l12_93) ?_
                refine W_v rfl rfl (V_add rfl (et rfl) rfl (by omega) (by omega)) ?_
                refine W_v rfl rfl (V_asg rfl (et rfl)) ?_
                refine W_end ?_
                refine gen_Q (fun A99 hA99 => ?_)
                have hsz99 : SzN A99 215 := by rw [hA99]; infer_instance
                have hdf99 : A99.defers = [] := by rw [hA99]; simp only [df_put]; exact hdf93
                have l0_99 := lookE hA99 0 (es rfl (es rfl (es rfl l0_93)))
                have l1_99 := lookE hA99 1 (es rfl (es rfl (es rfl l1_93)))
                have l5_99 := lookE hA99 5 (es rfl (es rfl (es rfl l5_93)))
                have l6_99 := lookE hA99 6 (es rfl (es rfl (es rfl l6_93)))
                have l10_99 := lookE hA99 10 (es rfl (es rfl (es rfl l10_93)))
                have l11_99 := lookE hA99 11 (es rfl (es rfl (es rfl l11_93)))
                have l12_99 := lookE hA99 12 (et rfl)
                clear hA99 hsz93 hdf93 l0_93 l1_93 l5_93 l6_93 l10_93 l11_93 l12_93 l121_93
                refine then_n ⟨i2 - (q + 1), by simp only [hm83]; omega, hsz99, hdf99, (q + 1), rfl, (by omega), (no_stepQ h1 hy90 c94), ((l12_99).trans (by first | rfl | (simp; done) | (congr 1; omega))), ((l0_99).trans l0_82.symm), ((l1_99).trans l1_82.symm), ((l5_99).trans l5_82.symm), ((l6_99).trans l6_82.symm), ((l10_99).trans l10_82.symm), ((l11_99).trans l11_82.symm), (by subst hc77_83 hc_83; exact hS92)⟩
            · skip
              refine wp_exit ?_
              refine then_exit ?_
              refine then_exit ?_
              refine inb_hit ?_
              refine then_n (hK80 _ _ ?_)
              clear hK80
              refine wp_seq_k (fun K100 hK100 => ?_)
              -- region 26
              refine region_in ?_
              refine W_v rfl rfl (V_asg rfl rfl) ?_
              refine W_end ?_
              refine gen_Q (fun A101 hA101 => ?_)
              have hsz101 : SzN A101 215 := by rw [hA101]; infer_instance
              have hdf101 : A101.defers = [] := by rw [hA101]; simp only [df_put]; exact hdf86
              have l0_101 := lookE hA101 0 (es rfl l0_86)
              have l1_101 := lookE hA101 1 (es rfl l1_86)
              have l5_101 := lookE hA101 5 (es rfl l5_86)
              have l6_101 := lookE hA101 6 (es rfl l6_86)
              have l10_101 := lookE hA101 10 (es rfl l10_86)
              have l11_101 := lookE hA101 11 (es rfl l11_86)
              have l13_101 := lookE hA101 13 (et rfl)
              clear hA101 hsz86 hdf86 l0_86 l1_86 l5_86 l6_86 l10_86 l11_86 l12_86 l108_86
              refine then_n (hK100 _ _ ?_)
              clear hK100
              refine wp_block ?_
              -- loop 27
              refine loopX (fun mz A' w' => SzN A' 215 ∧ A'.defers = [] ∧ (∃ (p : Nat), (mz = l.length - p) ∧ (p ≤ l.length) ∧ (∀ k, k < p → ∀ x, l[k]? = some x → x = y73.2 → x ∈ fsts ms) ∧ (EV A' (.tmp 13) = .int .i64 (p : Int)) ∧ (EV A' (.tmp 0) = EV A101 (.tmp 0)) ∧ (EV A' (.tmp 1) = EV A101 (.tmp 1)) ∧ (EV A' (.tmp 5) = EV A101 (.tmp 5)) ∧ (EV A' (.tmp 6) = EV A101 (.tmp 6)) ∧ (EV A' (.tmp 10) = EV A101 (.tmp 10)) ∧ (EV A' (.tmp 11) = EV A101 (.tmp 11)) ∧ (St w NoX [ro 2 mvC v77 (((ms.take i2).map swp) ++ [(y73.2, y73.1)]), io .i64 v_17 (fwT l ms)] w'))) (l.length - 0) ⟨hsz101, hdf101, 0, rfl, (by omega), (fun _ h => by omega), ((l13_101).trans (by first | rfl | (simp; done) | (congr 1; omega))), rfl, rfl, rfl, rfl, rfl, rfl, (by subst hc77_83 hc_83; exact hS83)⟩ ?_
              clear hS83 hc77_83 hc_83
              rintro n102 A102 w102 ⟨hsz102, hdf102, p, hm102, hp, h2, l13_102, u0_102, u1_102, u5_102, u6_102, u10_102, u11_102, hS102⟩
              have l0_102 := u0_102.trans l0_101
              have l1_102 := u1_102.trans l1_101
              have l5_102 := u5_102.trans l5_101
              have l6_102 := u6_102.trans l6_101
              have l10_102 := u10_102.trans l10_101
              have l11_102 := u11_102.trans l11_101
              obtain ⟨c77_102, c_102, hc77_102, hc_102, hS102⟩ := gen2 hS102
              refine wp_seq_k (fun K103 hK103 => ?_)
              refine wp_seq_k (fun K104 hK104 => ?_)
              -- region 27
              refine region_in ?_
              refine W_v rfl rfl (V_mov rfl l13_102) ?_
              refine W_v rfl rfl (V_mov rfl (es rfl l0_102)) ?_
              refine W_v rfl rfl (V_lenS rfl (et rfl) (sl_SlN h_rv.at) Try.underlying22) ?_
              refine W_v rfl rfl (V_lss rfl (es rfl (es rfl (et rfl))) (et rfl)) ?_
              refine W_end ?_
              refine gen_Q (fun A105 hA105 => ?_)
              have hsz105 : SzN A105 215 := by rw [hA105]; infer_instance
              have hdf105 : A105.defers = [] := by rw [hA105]; simp only [df_put]; exact hdf102
              have l0_105 := lookE hA105 0 (es rfl (es rfl (es rfl (es rfl l0_102))))
              have l1_105 := lookE hA105 1 (es rfl (es rfl (es rfl (es rfl l1_102))))
              have l5_105 := lookE hA105 5 (es rfl (es rfl (es rfl (es rfl l5_102))))
              have l6_105 := lookE hA105 6 (es rfl (es rfl (es rfl (es rfl l6_102))))
              have l10_105 := lookE hA105 10 (es rfl (es rfl (es rfl (es rfl l10_102))))
              have l11_105 := lookE hA105 11 (es rfl (es rfl (es rfl (es rfl l11_102))))
              have l13_105 := lookE hA105 13 (es rfl (es rfl (es rfl (es rfl l13_102))))
              have l126_105 := lookE hA105 126 (et rfl)
              clear hA105 hsz102 hdf102 l13_102 l0_102 l1_102 l5_102 l6_102 l10_102 l11_102
              refine then_n (hK104 _ _ ?_)
              clear hK104
              refine cond_dec l126_105 (fun c106 => ?_) (fun c106 => ?_)
              · skip
                refine wp_skip ?_
                refine then_n (hK103 _ _ ?_)
                clear hK103
                refine wp_seq_k (fun K107 hK107 => ?_)
                refine wp_block ?_
                refine wp_seq_k (fun K108 hK108 => ?_)
                refine wp_seq_k (fun K109 hK109 => ?_)
                -- region 29
                refine region_monoS 10 10 [] (by kernel_rfl) (by kernel_rfl) ?_
                refine D_v rfl rfl (V_mov rfl l0_105) rfl rfl ?_
                refine D_v rfl rfl (V_mov rfl (es rfl l13_105)) rfl rfl ?_
                have k110 : p < l.length := by first | omega | (simp only [List.length_cons, List.length_nil]; omega)
                obtain ⟨y110, hy110⟩ := get_some (xs := l) (k := p) k110
                obtain ⟨B110, O110, C110, hv110⟩ := (SlN.blk (sl_SlN h_rv.at) (by first | omega | (simp only [List.length_cons, List.length_nil]; omega)))
                refine D_v rfl rfl (V_ixS (off := O110 + p) 1 (p) rfl (es rfl (et rfl)) (et rfl) hv110 (by omega) k110 Try.underlying22 (by kernel_rfl) (congrArg _ (Nat.mul_one _))) rfl rfl ?_
                refine D_r rfl rfl (by kernel_rfl) (fun sx hx hF => (VR_ldC rfl (et rfl) ((sl_SlN ((hS102.grow hx).ro h_rv)).cell hv110 (map_get hy110)) Try.underlying3 rfl)) rfl rfl ?_
                refine D_v rfl rfl (V_mov rfl (es rfl (es rfl (es rfl (es rfl l1_105))))) rfl rfl ?_
                refine D_v rfl rfl (V_mov rfl (es rfl (es rfl (es rfl (es rfl (es rfl l11_105)))))) rfl rfl ?_
                refine D_v rfl rfl (V_ixS (off := O73 + i2 * 2) 2 (i2) rfl (es rfl (et rfl)) (et rfl) hv73 (by omega) k73 Try.underlying33 (by kernel_rfl) rfl) rfl rfl ?_
                refine D_v rfl rfl (V_fa (off' := O73 + i2 * 2 + 1) rfl (et rfl) Try.underlying39 rfl (by decide) rfl) rfl rfl ?_
                refine D_r rfl rfl (by kernel_rfl) (fun sx hx hF => (VR_ldC (v := .int .i64 (y73.2)) rfl (et rfl) (SlN.row mvC_len (sl_SlN ((hS102.grow hx).ro h_mv)) hv73 hy73 rfl 1 _ rfl) Try.underlying3 rfl)) rfl rfl ?_
                refine D_v rfl rfl (V_neq rfl (es rfl (es rfl (es rfl (es rfl (es rfl (et rfl)))))) (et rfl)) rfl rfl ?_
                refine ZS_none hS102 (Nat.le_refl _) (Nat.le_refl _) (fun s112 hJ112 hL112 hF112 => ?_)
                have hS112 := hJ112.st; clear hF112 hJ112 hL112
                generalize s112.1 = w112 at *
                replace hS112 : St w NoX [c77_102, c_102] w112 := hS112
                refine gen_Q (fun A113 hA113 => ?_)
                have hsz113 : SzN A113 215 := by rw [hA113]; infer_instance
                have hdf113 : A113.defers = [] := by rw [hA113]; simp only [df_put]; exact hdf105
                have l0_113 := lookE hA113 0 (es rfl (es rfl (es rfl (es rfl (es rfl (es rfl (es rfl (es rfl (es rfl (es rfl l0_105))))))))))
                have l1_113 := lookE hA113 1 (es rfl (es rfl (es rfl (es rfl (es rfl (es rfl (es rfl (es rfl (es rfl (es rfl l1_105))))))))))
                have l5_113 := lookE hA113 5 (es rfl (es rfl (es rfl (es rfl (es rfl (es rfl (es rfl (es rfl (es rfl (es rfl l5_105))))))))))
                have l6_113 := lookE hA113 6 (es rfl (es rfl (es rfl (es rfl (es rfl (es rfl (es rfl (es rfl (es rfl (es rfl l6_105))))))))))
                have l10_113 := lookE hA113 10 (es rfl (es rfl (es rfl (es rfl (es rfl (es rfl (es rfl (es rfl (es rfl (es rfl l10_105))))))))))
                have l11_113 := lookE hA113 11 (es rfl (es rfl (es rfl (es rfl (es rfl (es rfl (es rfl (es rfl (es rfl (es rfl l11_105))))))))))
                have l13_113 := lookE hA113 13 (es rfl (es rfl (es rfl (es rfl (es rfl (es rfl (es rfl (es rfl (es rfl (es rfl l13_105))))))))))
                have l138_113 := lookE hA113 138 (et rfl)
                clear hA113 hsz105 hdf105 l0_105 l1_105 l5_105 l6_105 l10_105 l11_105 l13_105 l126_105
                refine then_n (hK109 _ _ ?_)
                clear hK109
                refine cond_dec l138_113 (fun c114 => ?_) (fun c114 => ?_)
                · skip
                  refine wp_exit ?_
                  refine then_exit ?_
                  refine inb_hit ?_
                  refine then_n (hK107 _ _ ?_)
                  clear hK107
                  -- region 28
                  refine region_in ?_
                  refine W_v rfl rfl (V_mov rfl l13_113) ?_
                  refine W_v rfl rfl (V_add rfl (et rfl) rfl (by omega) (by omega)) ?_
                  refine W_v rfl rfl (V_asg rfl (et rfl)) ?_
                  refine W_end ?_
                  refine gen_Q (fun A115 hA115 => ?_)
                  have hsz115 : SzN A115 215 := by rw [hA115]; infer_instance
                  have hdf115 : A115.defers = [] := by rw [hA115]; simp only [df_put]; exact hdf113
                  have l0_115 := lookE hA115 0 (es rfl (es rfl (es rfl l0_113)))
                  have l1_115 := lookE hA115 1 (es rfl (es rfl (es rfl l1_113)))
                  have l5_115 := lookE hA115 5 (es rfl (es rfl (es rfl l5_113)))
                  have l6_115 := lookE hA115 6 (es rfl (es rfl (es rfl l6_113)))
                  have l10_115 := lookE hA115 10 (es rfl (es rfl (es rfl l10_113)))
                  have l11_115 := lookE hA115 11 (es rfl (es rfl (es rfl l11_113)))
                  have l13_115 := lookE hA115 13 (et rfl)
                  clear hA115 hsz113 hdf113 l0_113 l1_113 l5_113 l6_113 l10_113 l11_113 l13_113 l138_113
                  refine then_n ⟨l.length - (p + 1), by simp only [hm102]; omega, hsz115, hdf115, (p + 1), rfl, (by omega), (h2_step h2 hy110 (fun e => absurd e c114)), ((l13_115).trans (by first | rfl | (simp; done) | (congr 1; omega))), ((l0_115).trans l0_101.symm), ((l1_115).trans l1_101.symm), ((l5_115).trans l5_101.symm), ((l6_115).trans l6_101.symm), ((l10_115).trans l10_101.symm), ((l11_115).trans l11_101.symm), (by subst hc77_102 hc_102; exact hS112)⟩
                · skip
                  refine wp_skip ?_
                  refine then_n (hK108 _ _ ?_)
                  clear hK108
                  refine wp_seq_k (fun K116 hK116 => ?_)
                  -- region 30
                  refine region_in ?_
                  refine W_v rfl rfl (V_asg rfl rfl) ?_
                  refine W_end ?_
                  refine gen_Q (fun A117 hA117 => ?_)
                  have hsz117 : SzN A117 215 := by rw [hA117]; infer_instance
                  have hdf117 : A117.defers = [] := by rw [hA117]; simp only [df_put]; exact hdf113
                  have l0_117 := lookE hA117 0 (es rfl l0_113)
                  have l1_117 := lookE hA117 1 (es rfl l1_113)
                  have l5_117 := lookE hA117 5 (es rfl l5_113)
                  have l6_117 := lookE hA117 6 (es rfl l6_113)
                  have l10_117 := lookE hA117 10 (es rfl l10_113)
                  have l11_117 := lookE hA117 11 (es rfl l11_113)
                  have l13_117 := lookE hA117 13 (es rfl l13_113)
                  have l14_117 := lookE hA117 14 (et rfl)
                  clear hA117 hsz113 hdf113 l0_113 l1_113 l5_113 l6_113 l10_113 l11_113 l13_113 l138_113
                  refine then_n (hK116 _ _ ?_)
                  clear hK116
                  refine wp_seq_k (fun K118 hK118 => ?_)
                  refine wp_seq_k (fun K119 hK119 => ?_)
                  -- region 31
                  refine region_in ?_
                  refine W_v rfl rfl (V_asg rfl rfl) ?_
                  refine W_end ?_
                  refine gen_Q (fun A120 hA120 => ?_)
                  have hsz120 : SzN A120 215 := by rw [hA120]; infer_instance
                  have hdf120 : A120.defers = [] := by rw [hA120]; simp only [df_put]; exact hdf117
                  have l0_120 := lookE hA120 0 (es rfl l0_117)
                  have l1_120 := lookE hA120 1 (es rfl l1_117)
                  have l5_120 := lookE hA120 5 (es rfl l5_117)
                  have l6_120 := lookE hA120 6 (es rfl l6_117)
                  have l10_120 := lookE hA120 10 (es rfl l10_117)
                  have l11_120 := lookE hA120 11 (es rfl l11_117)
                  have l13_120 := lookE hA120 13 (es rfl l13_117)
                  have l14_120 := lookE hA120 14 (es rfl l14_117)
                  have l15_120 := lookE hA120 15 (et rfl)
                  clear hA120 hsz117 hdf117 l0_117 l1_117 l5_117 l6_117 l10_117 l11_117 l13_117 l14_117
                  refine then_n (hK119 _ _ ?_)
                  clear hK119
                  refine wp_block ?_
                  -- loop 32
                  refine loopX (fun mz A' w' => SzN A' 215 ∧ A'.defers = [] ∧ (∃ (m : Nat) (hb : Bool), (mz = ms.length - m) ∧ (m ≤ ms.length) ∧ (hb = decide (y110 ∈ fsts (ms.take m))) ∧ (EV A' (.tmp 15) = .int .i64 (m : Int)) ∧ (EV A' (.tmp 14) = .bool hb) ∧ (EV A' (.tmp 0) = EV A120 (.tmp 0)) ∧ (EV A' (.tmp 1) = EV A120 (.tmp 1)) ∧ (EV A' (.tmp 5) = EV A120 (.tmp 5)) ∧ (EV A' (.tmp 6) = EV A120 (.tmp 6)) ∧ (EV A' (.tmp 10) = EV A120 (.tmp 10)) ∧ (EV A' (.tmp 11) = EV A120 (.tmp 11)) ∧ (EV A' (.tmp 13) = EV A120 (.tmp 13)) ∧ (St w NoX [ro 2 mvC v77 (((ms.take i2).map swp) ++ [(y73.2, y73.1)]), io .i64 v_17 (fwT l ms)] w'))) (ms.length - 0) ⟨hsz120, hdf120, 0, false, rfl, (by omega), (by simp [fsts]), ((l15_120).trans (by first | rfl | (simp; done) | (congr 1; omega))), ((l14_120).trans (by first | rfl | (simp; done) | (congr 1; omega))), rfl, rfl, rfl, rfl, rfl, rfl, rfl, (by subst hc77_102 hc_102; exact hS112)⟩ ?_
                  clear hS112 hc77_102 hc_102
                  rintro n121 A121 w121 ⟨hsz121, hdf121, m, hb, hm121, hm, hhb, l15_121, l14_121, u0_121, u1_121, u5_121, u6_121, u10_121, u11_121, u13_121, hS121⟩
                  have l0_121 := u0_121.trans l0_120
                  have l1_121 := u1_121.trans l1_120
                  have l5_121 := u5_121.trans l5_120
                  have l6_121 := u6_121.trans l6_120
                  have l10_121 := u10_121.trans l10_120
                  have l11_121 := u11_121.trans l11_120
                  have l13_121 := u13_121.trans l13_120
                  obtain ⟨c77_121, c_121, hc77_121, hc_121, hS121⟩ := gen2 hS121
                  refine wp_seq_k (fun K122 hK122 => ?_)
                  refine wp_seq_k (fun K123 hK123 => ?_)
                  -- region 32
                  refine region_in ?_
                  refine W_v rfl rfl (V_mov rfl l15_121) ?_
                  refine W_v rfl rfl (V_mov rfl (es rfl l1_121)) ?_
                  refine W_v rfl rfl (V_lenS rfl (et rfl) (sl_SlN h_mv.at) Try.underlying33) ?_
                  refine W_v rfl rfl (V_lss rfl (es rfl (es rfl (et rfl))) (et rfl)) ?_
                  refine W_end ?_
                  refine gen_Q (fun A124 hA124 => ?_)
                  have hsz124 : SzN A124 215 := by rw [hA124]; infer_instance
                  have hdf124 : A124.defers = [] := by rw [hA124]; simp only [df_put]; exact hdf121
                  have l0_124 := lookE hA124 0 (es rfl (es rfl (es rfl (es rfl l0_121))))
                  have l1_124 := lookE hA124 1 (es rfl (es rfl (es rfl (es rfl l1_121))))
                  have l5_124 := lookE hA124 5 (es rfl (es rfl (es rfl (es rfl l5_121))))
                  have l6_124 := lookE hA124 6 (es rfl (es rfl (es rfl (es rfl l6_121))))
                  have l10_124 := lookE hA124 10 (es rfl (es rfl (es rfl (es rfl l10_121))))
                  have l11_124 := lookE hA124 11 (es rfl (es rfl (es rfl (es rfl l11_121))))
                  have l13_124 := lookE hA124 13 (es rfl (es rfl (es rfl (es rfl l13_121))))
                  have l14_124 := lookE hA124 14 (es rfl (es rfl (es rfl (es rfl l14_121))))
                  have l15_124 := lookE hA124 15 (es rfl (es rfl (es rfl (es rfl l15_121))))
                  have l142_124 := lookE hA124 142 (et rfl)
                  clear hA124 hsz121 hdf121 l15_121 l14_121 l0_121 l1_121 l5_121 l6_121 l10_121 l11_121 l13_121
                  refine then_n (hK123 _ _ ?_)
                  clear hK123
                  refine cond_dec l142_124 (fun c125 => ?_) (fun c125 => ?_)
                  · skip
                    refine wp_skip ?_
                    refine then_n (hK122 _ _ ?_)
                    clear hK122
                    refine wp_seq_k (fun K126 hK126 => ?_)
                    refine wp_block ?_
                    -- region 34
                    refine region_monoS 14 14 [] (by kernel_rfl) (by kernel_rfl) ?_
                    refine D_v rfl rfl (V_mov rfl l14_124) rfl rfl ?_
                    refine D_splitB rfl rfl (V_mov rfl (et rfl)) rfl rfl (fun c127 => ?_) (fun c127 => ?_)
                    · skip
                      refine D_off rfl (wanted_f rfl rfl (et rfl) (ez rfl) rfl) rfl ?_
                      refine D_off rfl (wanted_f rfl rfl (es rfl (et rfl)) (ez rfl) rfl) rfl ?_
                      refine D_off rfl (wanted_f rfl rfl (es rfl (es rfl (et rfl))) (ez rfl) rfl) rfl ?_
                      refine D_off rfl (wanted_f rfl rfl (es rfl (es rfl (es rfl (et rfl)))) (ez rfl) rfl) rfl ?_
                      refine D_off rfl (wanted_f rfl rfl (es rfl (es rfl (es rfl (es rfl (et rfl))))) (ez rfl) rfl) rfl ?_
                      refine D_off rfl (wanted_f rfl rfl (es rfl (es rfl (es rfl (es rfl (es rfl (et rfl)))))) (ez rfl) rfl) rfl ?_
                      refine D_off rfl (wanted_f rfl rfl (es rfl (es rfl (es rfl (es rfl (es rfl (es rfl (et rfl))))))) (ez rfl) rfl) rfl ?_
                      refine D_off rfl (wanted_f rfl rfl (es rfl (es rfl (es rfl (es rfl (es rfl (es rfl (es rfl (et rfl)))))))) (ez rfl) rfl) rfl ?_
                      refine D_off rfl (wanted_f rfl rfl (es rfl (es rfl (es rfl (es rfl (es rfl (es rfl (es rfl (es rfl (et rfl))))))))) (ez rfl) rfl) rfl ?_
                      refine D_off rfl (wanted_f rfl rfl (es rfl (es rfl (es rfl (es rfl (es rfl (es rfl (es rfl (es rfl (es rfl (et rfl)))))))))) (ez rfl) rfl) rfl ?_
                      refine D_v rfl rfl (V_pickT rfl (es rfl (es rfl (es rfl (es rfl (es rfl (es rfl (es rfl (es rfl (es rfl (es rfl (et rfl))))))))))) rfl) rfl rfl ?_
                      refine D_v rfl rfl (V_asg rfl (et rfl)) rfl rfl ?_
                      refine ZS_none hS121 (Nat.le_refl _) (Nat.le_refl _) (fun s128 hJ128 hL128 hF128 => ?_)
                      have hS128 := hJ128.st; clear hF128 hJ128 hL128
                      generalize s128.1 = w128 at *
                      replace hS128 : St w NoX [c77_121, c_121] w128 := hS128
                      refine gen_Q (fun A129 hA129 => ?_)
                      have hsz129 : SzN A129 215 := by rw [hA129]; infer_instance
                      have hdf129 : A129.defers = [] := by rw [hA129]; simp only [df_put]; exact hdf124
                      have l0_129 := lookE hA129 0 (es rfl (es rfl (es rfl (es rfl (es rfl (es rfl (es rfl (es rfl (es rfl (es rfl (es rfl (es rfl (es rfl (es rfl l0_124))))))))))))))
                      have l1_129 := lookE hA129 1 (es rfl (es rfl (es rfl (es rfl (es rfl (es rfl (es rfl (es rfl (es rfl (es rfl (es rfl (es rfl (es rfl (es rfl l1_124))))))))))))))
                      have l5_129 := lookE hA129 5 (es rfl (es rfl (es rfl (es rfl (es rfl (es rfl (es rfl (es rfl (es rfl (es rfl (es rfl (es rfl (es rfl (es rfl l5_124))))))))))))))
                      have l6_129 := lookE hA129 6 (es rfl (es rfl (es rfl (es rfl (es rfl (es rfl (es rfl (es rfl (es rfl (es rfl (es rfl (es rfl (es rfl (es rfl l6_124))))))))))))))
                      have l10_129 := lookE hA129 10 (es rfl (es rfl (es rfl (es rfl (es rfl (es rfl (es rfl (es rfl (es rfl (es rfl (es rfl (es rfl (es rfl (es rfl l10_124))))))))))))))
                      have l11_129 := lookE hA129 11 (es rfl (es rfl (es rfl (es rfl (es rfl (es rfl (es rfl (es rfl (es rfl (es rfl (es rfl (es rfl (es rfl (es rfl l11_124))))))))))))))
                      have l13_129 := lookE hA129 13 (es rfl (es rfl (es rfl (es rfl (es rfl (es rfl (es rfl (es rfl (es rfl (es rfl (es rfl (es rfl (es rfl (es rfl l13_124))))))))))))))
                      have l14_129 := lookE hA129 14 (et rfl)
                      have l15_129 := lookE hA129 15 (es rfl (es rfl (es rfl (es rfl (es rfl (es rfl (es rfl (es rfl (es rfl (es rfl (es rfl (es rfl (es rfl (es rfl l15_124))))))))))))))
                      have l147_129 := lookE hA129 147 (es rfl (es rfl (es rfl (es rfl (es rfl (es rfl (es rfl (es rfl (es rfl (es rfl (es rfl (et rfl))))))))))))
                      have l148_129 := lookE hA129 148 (es rfl (es rfl (es rfl (es rfl (es rfl (es rfl (es rfl (es rfl (es rfl (es rfl (et rfl)))))))))))
                      have l149_129 := lookE hA129 149 (es rfl (es rfl (es rfl (es rfl (es rfl (es rfl (es rfl (es rfl (es rfl (et rfl))))))))))
                      have l150_129 := lookE hA129 150 (es rfl (es rfl (es rfl (es rfl (es rfl (es rfl (es rfl (es rfl (et rfl)))))))))
                      have l151_129 := lookE hA129 151 (es rfl (es rfl (es rfl (es rfl (es rfl (es rfl (es rfl (et rfl))))))))
                      have l152_129 := lookE hA129 152 (es rfl (es rfl (es rfl (es rfl (es rfl (es rfl (et rfl)))))))
                      have l153_129 := lookE hA129 153 (es rfl (es rfl (es rfl (es rfl (es rfl (et rfl))))))
                      have l154_129 := lookE hA129 154 (es rfl (es rfl (es rfl (es rfl (et rfl)))))
                      have l155_129 := lookE hA129 155 (es rfl (es rfl (es rfl (et rfl))))
                      have l156_129 := lookE hA129 156 (es rfl (es rfl (et rfl)))
                      clear hA129 hsz124 hdf124 l0_124 l1_124 l5_124 l6_124 l10_124 l11_124 l13_124 l14_124 l15_124 l142_124
                      refine inb_n ?_
                      refine then_n (hK126 _ _ ?_)
                      clear hK126
                      -- region 33
                      refine region_in ?_
                      refine W_v rfl rfl (V_mov rfl l15_129) ?_
                      refine W_v rfl rfl (V_add rfl (et rfl) rfl (by omega) (by omega)) ?_
                      refine W_v rfl rfl (V_asg rfl (et rfl)) ?_
                      refine W_end ?_
                      refine gen_Q (fun A130 hA130 => ?_)
                      have hsz130 : SzN A130 215 := by rw [hA130]; infer_instance
                      have hdf130 : A130.defers = [] := by rw [hA130]; simp only [df_put]; exact hdf129
                      have l0_130 := lookE hA130 0 (es rfl (es rfl (es rfl l0_129)))
                      have l1_130 := lookE hA130 1 (es rfl (es rfl (es rfl l1_129)))
                      have l5_130 := lookE hA130 5 (es rfl (es rfl (es rfl l5_129)))
                      have l6_130 := lookE hA130 6 (es rfl (es rfl (es rfl l6_129)))
                      have l10_130 := lookE hA130 10 (es rfl (es rfl (es rfl l10_129)))
                      have l11_130 := lookE hA130 11 (es rfl (es rfl (es rfl l11_129)))
                      have l13_130 := lookE hA130 13 (es rfl (es rfl (es rfl l13_129)))
                      have l14_130 := lookE hA130 14 (es rfl (es rfl (es rfl l14_129)))
                      have l15_130 := lookE hA130 15 (et rfl)
                      have l147_130 := lookE hA130 147 (es rfl (es rfl (es rfl l147_129)))
                      have l148_130 := lookE hA130 148 (es rfl (es rfl (es rfl l148_129)))
                      have l149_130 := lookE hA130 149 (es rfl (es rfl (es rfl l149_129)))
                      have l150_130 := lookE hA130 150 (es rfl (es rfl (es rfl l150_129)))
                      have l151_130 := lookE hA130 151 (es rfl (es rfl (es rfl l151_129)))
                      have l152_130 := lookE hA130 152 (es rfl (es rfl (es rfl l152_129)))
                      have l153_130 := lookE hA130 153 (es rfl (es rfl (es rfl l153_129)))
                      have l154_130 := lookE hA130 154 (es rfl (es rfl (es rfl l154_129)))
                      have l155_130 := lookE hA130 155 (es rfl (es rfl (es rfl l155_129)))
                      have l156_130 := lookE hA130 156 (es rfl (es rfl (es rfl l156_129)))
                      clear hA130 hsz129 hdf129 l0_129 l1_129 l5_129 l6_129 l10_129 l11_129 l13_129 l14_129 l15_129 l147_129 l148_129 l149_129 l150_129 l151_129 l152_129 l153_129 l154_129 l155_129 l156_129
                      refine then_n ⟨ms.length - (m + 1), by simp only [hm121]; omega, hsz130, hdf130, (m + 1), true, rfl, (by omega), (mem_t hhb c127), ((l15_130).trans (by first | rfl | (simp; done) | (congr 1; omega))), ((l14_130).trans (by first | rfl | (simp; done) | (congr 1; omega))), ((l0_130).trans l0_120.symm), ((l1_130).trans l1_120.symm), ((l5_130).trans l5_120.symm), ((l6_130).trans l6_120.symm), ((l10_130).trans l10_120.symm), ((l11_130).trans l11_120.symm), ((l13_130).trans l13_120.symm), (by subst hc77_121 hc_121; exact hS128)⟩
                    · skip
                      refine D_v rfl (wanted_t rfl rfl (et rfl) (ez rfl)) (V_mov rfl (es rfl (es rfl l1_124))) rfl rfl ?_
                      refine D_v rfl (wanted_t rfl rfl (es rfl (et rfl)) (ez rfl)) (V_mov rfl (es rfl (es rfl (es rfl l15_124)))) rfl rfl ?_
                      have k131 : m < ms.length := by first | omega | (simp only [List.length_cons, List.length_nil]; omega)
                      obtain ⟨y131, hy131⟩ := get_some (xs := ms) (k := m) k131
                      refine D_v rfl (wanted_t rfl rfl (es rfl (es rfl (et rfl))) (ez rfl)) (V_ixS (off := O73 + m * 2) 2 (m) rfl (es rfl (et rfl)) (et rfl) hv73 (by omega) k131 Try.underlying33 (by kernel_rfl) rfl) rfl rfl ?_
                      refine D_v rfl (wanted_t rfl rfl (es rfl (es rfl (es rfl (et rfl)))) (ez rfl)) (V_fa (off' := O73 + m * 2 + 0) rfl (et rfl) Try.underlying39 rfl (by decide) rfl) rfl rfl ?_
                      refine D_r rfl (wanted_t rfl rfl (es rfl (es rfl (es rfl (es rfl (et rfl))))) (ez rfl)) (by kernel_rfl) (fun sx hx hF => (VR_ldC (v := .int .i64 (y131.1)) rfl (et rfl) (SlN.row mvC_len (sl_SlN ((hS121.grow hx).ro h_mv)) hv73 hy131 rfl 0 _ rfl) Try.underlying3 rfl)) rfl rfl ?_
                      refine D_v rfl (wanted_t rfl rfl (es rfl (es rfl (es rfl (es rfl (es rfl (et rfl)))))) (ez rfl)) (V_mov rfl (es rfl (es rfl (es rfl (es rfl (es rfl (es rfl (es rfl l0_124)))))))) rfl rfl ?_
                      refine D_v rfl (wanted_t rfl rfl (es rfl (es rfl (es rfl (es rfl (es rfl (es rfl (et rfl))))))) (ez rfl)) (V_mov rfl (es rfl (es rfl (es rfl (es rfl (es rfl (es rfl (es rfl (es rfl l13_124))))))))) rfl rfl ?_
                      refine D_v rfl (wanted_t rfl rfl (es rfl (es rfl (es rfl (es rfl (es rfl (es rfl (es rfl (et rfl)))))))) (ez rfl)) (V_ixS (off := O110 + p) 1 (p) rfl (es rfl (et rfl)) (et rfl) hv110 (by omega) k110 Try.underlying22 (by kernel_rfl) (congrArg _ (Nat.mul_one _))) rfl rfl ?_
                      refine D_r rfl (wanted_t rfl rfl (es rfl (es rfl (es rfl (es rfl (es rfl (es rfl (es rfl (es rfl (et rfl))))))))) (ez rfl)) (by kernel_rfl) (fun sx hx hF => (VR_ldC rfl (et rfl) ((sl_SlN ((hS121.grow hx).ro h_rv)).cell hv110 (map_get hy110)) Try.underlying3 rfl)) rfl rfl ?_
                      refine D_v rfl (wanted_t rfl rfl (es rfl (es rfl (es rfl (es rfl (es rfl (es rfl (es rfl (es rfl (es rfl (et rfl)))))))))) (ez rfl)) (V_eql rfl (es rfl (es rfl (es rfl (es rfl (et rfl))))) (et rfl)) rfl rfl ?_
                      refine D_v rfl rfl (V_pickF rfl (es rfl (es rfl (es rfl (es rfl (es rfl (es rfl (es rfl (es rfl (es rfl (es rfl (et rfl))))))))))) (et rfl)) rfl rfl ?_
                      refine D_v rfl rfl (V_asg rfl (et rfl)) rfl rfl ?_
                      refine ZS_none hS121 (Nat.le_refl _) (Nat.le_refl _) (fun s133 hJ133 hL133 hF133 => ?_)
                      have hS133 := hJ133.st; clear hF133 hJ133 hL133
                      generalize s133.1 = w133 at *
                      replace hS133 : St w NoX [c77_121, c_121] w133 := hS133
                      refine gen_Q (fun A134 hA134 => ?_)
                      have hsz134 : SzN A134 215 := by rw [hA134]; infer_instance
                      have hdf134 : A134.defers = [] := by rw [hA134]; simp only [df_put]; exact hdf124
                      have l0_134 := lookE hA134 0 (es rfl (es rfl (es rfl (es rfl (es rfl (es rfl (es rfl (es rfl (es rfl (es rfl (es rfl (es rfl (es rfl (es rfl l0_124))))))))))))))
                      have l1_134 := lookE hA134 1 (es rfl (es rfl (es rfl (es rfl (es rfl (es rfl (es rfl (es rfl (es rfl (es rfl (es rfl (es rfl (es rfl (es rfl l1_124))))))))))))))
                      have l5_134 := lookE hA134 5 (es rfl (es rfl (es rfl (es rfl (es rfl (es rfl (es rfl (es rfl (es rfl (es rfl (es rfl (es rfl (es rfl (es rfl l5_124))))))))))))))
                      have l6_134 := lookE hA134 6 (es rfl (es rfl (es rfl (es rfl (es rfl (es rfl (es rfl (es rfl (es rfl (es rfl (es rfl (es rfl (es rfl (es rfl l6_124))))))))))))))
                      have l10_134 := lookE hA134 10 (es rfl (es rfl (es rfl (es rfl (es rfl (es rfl (es rfl (es rfl (es rfl (es rfl (es rfl (es rfl (es rfl (es rfl l10_124))))))))))))))
                      have l11_134 := lookE hA134 11 (es rfl (es rfl (es rfl (es rfl (es rfl (es rfl (es rfl (es rfl (es rfl (es rfl (es rfl (es rfl (es rfl (es rfl l11_124))))))))))))))
                      have l13_134 := lookE hA134 13 (es rfl (es rfl (es rfl (es rfl (es rfl (es rfl (es rfl (es rfl (es rfl (es rfl (es rfl (es rfl (es rfl (es rfl l13_124))))))))))))))
                      have l14_134 := lookE hA134 14 (et rfl)
                      have l15_134 := lookE hA134 15 (es rfl (es rfl (es rfl (es rfl (es rfl (es rfl (es rfl (es rfl (es rfl (es rfl (es rfl (es rfl (es rfl (es rfl l15_124))))))))))))))
                      have l147_134 := lookE hA134 147 (es rfl (es rfl (es rfl (es rfl (es rfl (es rfl (es rfl (es rfl (es rfl (es rfl (es rfl (et rfl))))))))))))
                      have l148_134 := lookE hA134 148 (es rfl (es rfl (es rfl (es rfl (es rfl (es rfl (es rfl (es rfl (es rfl (es rfl (et rfl)))))))))))
                      have l149_134 := lookE hA134 149 (es rfl (es rfl (es rfl (es rfl (es rfl (es rfl (es rfl (es rfl (es rfl (et rfl))))))))))
                      have l150_134 := lookE hA134 150 (es rfl (es rfl (es rfl (es rfl (es rfl (es rfl (es rfl (es rfl (et rfl)))))))))
                      have l151_134 := lookE hA134 151 (es rfl (es rfl (es rfl (es rfl (es rfl (es rfl (es rfl (et rfl))))))))
                      have l152_134 := lookE hA134 152 (es rfl (es rfl (es rfl (es rfl (es rfl (es rfl (et rfl)))))))
                      have l153_134 := lookE hA134 153 (es rfl (es rfl (es rfl (es rfl (es rfl (et rfl))))))
                      have l154_134 := lookE hA134 154 (es rfl (es rfl (es rfl (es rfl (et rfl)))))
                      have l155_134 := lookE hA134 155 (es rfl (es rfl (es rfl (et rfl))))
                      have l156_134 := lookE hA134 156 (es rfl (es rfl (et rfl)))
                      clear hA134 hsz124 hdf124 l0_124 l1_124 l5_124 l6_124 l10_124 l11_124 l13_124 l14_124 l15_124 l142_124
                      refine inb_n ?_
                      refine then_n (hK126 _ _ ?_)
                      clear hK126
                      -- region 33
                      refine region_in ?_
                      refine W_v rfl rfl (V_mov rfl l15_134) ?_
                      refine W_v rfl rfl (V_add rfl (et rfl) rfl (by omega) (by omega)) ?_
                      refine W_v rfl rfl (V_asg rfl (et rfl)) ?_
                      refine W_end ?_
                      refine gen_Q (fun A135 hA135 => ?_)
                      have hsz135 : SzN A135 215 := by rw [hA135]; infer_instance
                      have hdf135 : A135.defers = [] := by rw [hA135]; simp only [df_put]; exact hdf134
                      have l0_135 := lookE hA135 0 (es rfl (es rfl (es rfl l0_134)))
                      have l1_135 := lookE hA135 1 (es rfl (es rfl (es rfl l1_134)))
                      have l5_135 := lookE hA135 5 (es rfl (es rfl (es rfl l5_134)))
                      have l6_135 := lookE hA135 6 (es rfl (es rfl (es rfl l6_134)))
                      have l10_135 := lookE hA135 10 (es rfl (es rfl (es rfl l10_134)))
                      have l11_135 := lookE hA135 11 (es rfl (es rfl (es rfl l11_134)))
                      have l13_135 := lookE hA135 13 (es rfl (es rfl (es rfl l13_134)))
                      have l14_135 := lookE hA135 14 (es rfl (es rfl (es rfl l14_134)))
                      have l15_135 := lookE hA135 15 (et rfl)
                      have l147_135 := lookE hA135 147 (es rfl (es rfl (es rfl l147_134)))
                      have l148_135 := lookE hA135 148 (es rfl (es rfl (es rfl l148_134)))
                      have l149_135 := lookE hA135 149 (es rfl (es rfl (es rfl l149_134)))
                      have l150_135 := lookE hA135 150 (es rfl (es rfl (es rfl l150_134)))
                      have l151_135 := lookE hA135 151 (es rfl (es rfl (es rfl l151_134)))
                      have l152_135 := lookE hA135 152 (es rfl (es rfl (es rfl l152_134)))
                      have l153_135 := lookE hA135 153 (es rfl (es rfl (es rfl l153_134)))
                      have l154_135 := lookE hA135 154 (es rfl (es rfl (es rfl l154_134)))
                      have l155_135 := lookE hA135 155 (es rfl (es rfl (es rfl l155_134)))
                      have l156_135 := lookE hA135 156 (es rfl (es rfl (es rfl l156_134)))
                      clear hA135 hsz134 hdf134 l0_134 l1_134 l5_134 l6_134 l10_134 l11_134 l13_134 l14_134 l15_134 l147_134 l148_134 l149_134 l150_134 l151_134 l152_134 l153_134 l154_134 l155_134 l156_134
                      refine then_n ⟨ms.length - (m + 1), by simp only [hm121]; omega, hsz135, hdf135, (m + 1), (decide (y131.1 = y110)), rfl, (by omega), (mem_f hhb c127 hy131), ((l15_135).trans (by first | rfl | (simp; done) | (congr 1; omega))), ((l14_135).trans (by first | rfl | (simp; done) | (congr 1; omega))), ((l0_135).trans l0_120.symm), ((l1_135).trans l1_120.symm), ((l5_135).trans l5_120.symm), ((l6_135).trans l6_120.symm), ((l10_135).trans l10_120.symm), ((l11_135).trans l11_120.symm), ((l13_135).trans l13_120.symm), (by subst hc77_121 hc_121; exact hS133)⟩
                  · skip
                    refine wp_exit ?_
                    refine then_exit ?_
                    refine then_exit ?_
                    refine inb_hit ?_
                    refine then_n (hK118 _ _ ?_)
                    clear hK118
                    refine wp_seq_k (fun K136 hK136 => ?_)
                    -- region 35
                    refine region_in ?_
                    refine W_v rfl rfl (V_mov rfl l14_124) ?_
                    refine W_v rfl rfl (V_not rfl (et rfl)) ?_
                    refine W_end ?_
                    refine gen_Q (fun A137 hA137 => ?_)
                    have hsz137 : SzN A137 215 := by rw [hA137]; infer_instance
                    have hdf137 : A137.defers = [] := by rw [hA137]; simp only [df_put]; exact hdf124
                    have l0_137 := lookE hA137 0 (es rfl (es rfl l0_124))
                    have l1_137 := lookE hA137 1 (es rfl (es rfl l1_124))
                    have l5_137 := lookE hA137 5 (es rfl (es rfl l5_124))
                    have l6_137 := lookE hA137 6 (es rfl (es rfl l6_124))
                    have l10_137 := lookE hA137 10 (es rfl (es rfl l10_124))
                    have l11_137 := lookE hA137 11 (es rfl (es rfl l11_124))
                    have l13_137 := lookE hA137 13 (es rfl (es rfl l13_124))
                    have l159_137 := lookE hA137 159 (et rfl)
                    clear hA137 hsz124 hdf124 l0_124 l1_124 l5_124 l6_124 l10_124 l11_124 l13_124 l14_124 l15_124 l142_124
                    refine then_n (hK136 _ _ ?_)
                    clear hK136
                    refine cond_b l159_137 (fun c138 => ?_) (fun c138 => ?_)
                    · skip
                      refine wp_seq_k (fun K139 hK139 => ?_)
                      -- region 36
                      refine region_in ?_
                      refine W_call rfl rfl rfl Try.func12 (by kernel_rfl) rfl (args0) (shw_c  ) ?_
                      rintro _ w140 ⟨rfl, hP140⟩
                      refine ⟨_, rfl, ?_⟩
                      have hS140 := hS121.join hP140
                      replace hS140 : St w NoX [c77_121, c_121] w140 := hS140
                      refine W_v rfl rfl (V_asg rfl (et rfl)) ?_
                      refine W_end ?_
                      refine gen_Q (fun A141 hA141 => ?_)
                      have hsz141 : SzN A141 215 := by rw [hA141]; infer_instance
                      have hdf141 : A141.defers = [] := by rw [hA141]; simp only [df_put]; exact hdf137
                      have l4_141 := lookE hA141 4 (et rfl)
                      clear hA141 hsz137 hdf137 l0_137 l1_137 l5_137 l6_137 l10_137 l11_137 l13_137 l159_137
                      have hS142 : St w NoX [] w140 := hS140.sel [] (by decide) rfl
                      refine then_n (hK139 _ _ ?_)
                      clear hK139
                      refine wp_ret ?_
                      refine inb_ret ?_
                      refine then_ret ?_
                      refine then_ret ?_
                      refine inb_ret ?_
                      refine inb_ret ?_
                      refine then_ret ?_
                      refine then_ret ?_
                      refine inb_ret ?_
                      refine then_ret ?_
                      refine ret_in (results_1 Try.results5 (rv_tmp l4_141)) hdf141 ?_
                      -- leaf FFFFTFTFFT
                      exact ⟨rfl, hS142.fin0⟩
                    · skip
                      refine wp_skip ?_
                      refine inb_n ?_
                      refine then_n (hK107 _ _ ?_)
                      clear hK107
                      -- region 28
                      refine region_in ?_
                      refine W_v rfl rfl (V_mov rfl l13_137) ?_
                      refine W_v rfl rfl (V_add rfl (et rfl) rfl (by omega) (by omega)) ?_
                      refine W_v rfl rfl (V_asg rfl (et rfl)) ?_
                      refine W_end ?_
                      refine gen_Q (fun A143 hA143 => ?_)
                      have hsz143 : SzN A143 215 := by rw [hA143]; infer_instance
                      have hdf143 : A143.defers = [] := by rw [hA143]; simp only [df_put]; exact hdf137
                      have l0_143 := lookE hA143 0 (es rfl (es rfl (es rfl l0_137)))
                      have l1_143 := lookE hA143 1 (es rfl (es rfl (es rfl l1_137)))
                      have l5_143 := lookE hA143 5 (es rfl (es rfl (es rfl l5_137)))
                      have l6_143 := lookE hA143 6 (es rfl (es rfl (es rfl l6_137)))
                      have l10_143 := lookE hA143 10 (es rfl (es rfl (es rfl l10_137)))
                      have l11_143 := lookE hA143 11 (es rfl (es rfl (es rfl l11_137)))
                      have l13_143 := lookE hA143 13 (et rfl)
                      clear hA143 hsz137 hdf137 l0_137 l1_137 l5_137 l6_137 l10_137 l11_137 l13_137 l159_137
                      refine then_n ⟨l.length - (p + 1), by simp only [hm102]; omega, hsz143, hdf143, (p + 1), rfl, (by omega), (h2_step h2 hy110 (fun e => mem_take hhb (by simpa using c138) (by omega))), ((l13_143).trans (by first | rfl | (simp; done) | (congr 1; omega))), ((l0_143).trans l0_101.symm), ((l1_143).trans l1_101.symm), ((l5_143).trans l5_101.symm), ((l6_143).trans l6_101.symm), ((l10_143).trans l10_101.symm), ((l11_143).trans l11_101.symm), (by subst hc77_121 hc_121; exact hS121)⟩
              · skip
                refine wp_exit ?_
                refine then_exit ?_
                refine then_exit ?_
                refine inb_hit ?_
                refine inb_n ?_
                refine then_n (hK71 _ _ ?_)
                clear hK71
                -- region 19
                refine region_in ?_
                refine W_v rfl rfl (V_mov rfl l11_105) ?_
                refine W_v rfl rfl (V_add rfl (et rfl) rfl (by omega) (by omega)) ?_
                refine W_v rfl rfl (V_asg rfl (et rfl)) ?_
                refine W_end ?_
                refine gen_Q (fun A144 hA144 => ?_)
                have hsz144 : SzN A144 215 := by rw [hA144]; infer_instance
                have hdf144 : A144.defers = [] := by rw [hA144]; simp only [df_put]; exact hdf105
                have l0_144 := lookE hA144 0 (es rfl (es rfl (es rfl l0_105)))
                have l1_144 := lookE hA144 1 (es rfl (es rfl (es rfl l1_105)))
                have l5_144 := lookE hA144 5 (es rfl (es rfl (es rfl l5_105)))
                have l6_144 := lookE hA144 6 (es rfl (es rfl (es rfl l6_105)))
                have l10_144 := lookE hA144 10 (es rfl (es rfl (es rfl l10_105)))
                have l11_144 := lookE hA144 11 (et rfl)
                clear hA144 hsz105 hdf105 l0_105 l1_105 l5_105 l6_105 l10_105 l11_105 l13_105 l126_105
                refine then_n ⟨ms.length - (i2 + 1), by simp only [hm66]; omega, hsz144, hdf144, (i2 + 1), v77, rfl, (by omega), (BkK_step hbk hy73 (fun q hq => h1 q (by omega)) (fun k hk => h2 k (by omega))), ((l11_144).trans (by first | rfl | (simp; done) | (congr 1; omega))), ((l10_144).trans (by first | rfl | (simp; done) | (congr 1; omega))), ((l0_144).trans l0_64.symm), ((l1_144).trans l1_64.symm), ((l5_144).trans l5_64.symm), ((l6_144).trans l6_64.symm), (by have q0 : c77_102 = ro 2 mvC v77 ((ms.take (i2 + 1)).map swp) := hc77_102.trans ((congrArg (ro 2 mvC _) (swp_snoc hy73))); have q1 := hc_102; subst q0 q1; exact hS102)⟩
          · skip
            have hB := BkK_all hbk (by omega)
            have hI : ms.take i2 = ms := List.take_of_length_le (by omega)
            refine wp_exit ?_
            refine then_exit ?_
            refine then_exit ?_
            refine inb_hit ?_
            refine then_n (hK62 _ _ ?_)
            clear hK62
            refine wp_seq_k (fun K145 hK145 => ?_)
            -- region 37
            refine region_in ?_
            refine W_v rfl rfl (V_mov rfl l5_69) ?_
            refine W_v rfl rfl (V_mov rfl (es rfl l10_69)) ?_
            refine W_call rfl rfl rfl Try.func20 (by kernel_rfl) rfl (args2 (es rfl (et rfl)) (et rfl)) (kFw_c (hS66.chC 1 rfl hc_66).own (hS66.chC 0 rfl hc65_66).own ) ?_
            rintro _ w146 ⟨v_146, rfl, hP146⟩
            refine ⟨_, rfl, ?_⟩
            obtain ⟨c_146, hc_146, hP146⟩ := gen1 hP146
            have hS146 := hS66.join hP146
            replace hS146 : St w NoX [c_146, c65_66, c_66] w146 := hS146
            refine W_v rfl rfl (V_mov rfl (et rfl)) ?_
            refine W_v rfl rfl (V_ext (v := v_146) rfl (et rfl) rfl) ?_
            refine W_v rfl rfl (V_ext (v := .int .i64 ((fwN (fwT l ms) ((ms.take i2).map swp)))) rfl (es rfl (et rfl)) rfl) ?_
            refine W_v rfl rfl (V_ext (v := .int .i64 ((fwE (fwT l ms) ((ms.take i2).map swp)))) rfl (es rfl (es rfl (et rfl))) rfl) ?_
            refine W_v rfl rfl (V_asg rfl (es rfl (es rfl (et rfl)))) ?_
            refine W_v rfl rfl (V_asg rfl (es rfl (es rfl (et rfl)))) ?_
            refine W_v rfl rfl (V_asg rfl (es rfl (es rfl (et rfl)))) ?_
            refine W_end ?_
            refine gen_Q (fun A147 hA147 => ?_)
            have hsz147 : SzN A147 215 := by rw [hA147]; infer_instance
            have hdf147 : A147.defers = [] := by rw [hA147]; simp only [df_put]; exact hdf69
            have l0_147 := lookE hA147 0 (es rfl (es rfl (es rfl (es rfl (es rfl (es rfl (es rfl (es rfl (es rfl (es rfl l0_69))))))))))
            have l5_147 := lookE hA147 5 (es rfl (es rfl (es rfl (es rfl (es rfl (es rfl (es rfl (es rfl (es rfl (es rfl l5_69))))))))))
            have l6_147 := lookE hA147 6 (es rfl (es rfl (es rfl (es rfl (es rfl (es rfl (es rfl (es rfl (es rfl (es rfl l6_69))))))))))
            have l16_147 := lookE hA147 16 (es rfl (es rfl (et rfl)))
            have l17_147 := lookE hA147 17 (es rfl (et rfl))
            have l18_147 := lookE hA147 18 (et rfl)
            clear hA147 hsz69 hdf69 l0_69 l1_69 l5_69 l6_69 l10_69 l11_69 l89_69
            have hS148 : St w NoX [c_146, c_66] w146 := hS146.sel [0, 2] (by decide) rfl
            refine then_n (hK145 _ _ ?_)
            clear hK145
            refine wp_seq_k (fun K149 hK149 => ?_)
            refine wp_seq_k (fun K150 hK150 => ?_)
            -- region 38
            refine region_in ?_
            refine W_v rfl rfl (V_asg rfl rfl) ?_
            refine W_end ?_
            refine gen_Q (fun A151 hA151 => ?_)
            have hsz151 : SzN A151 215 := by rw [hA151]; infer_instance
            have hdf151 : A151.defers = [] := by rw [hA151]; simp only [df_put]; exact hdf147
            have l0_151 := lookE hA151 0 (es rfl l0_147)
            have l5_151 := lookE hA151 5 (es rfl l5_147)
            have l6_151 := lookE hA151 6 (es rfl l6_147)
            have l16_151 := lookE hA151 16 (es rfl l16_147)
            have l17_151 := lookE hA151 17 (es rfl l17_147)
            have l18_151 := lookE hA151 18 (es rfl l18_147)
            have l19_151 := lookE hA151 19 (et rfl)
            clear hA151 hsz147 hdf147 l0_147 l5_147 l6_147 l16_147 l17_147 l18_147
            refine then_n (hK150 _ _ ?_)
            clear hK150
            refine wp_block ?_
            -- loop 39
            refine loopX (fun mz A' w' => SzN A' 215 ∧ A'.defers = [] ∧ (∃ (i3 : Nat), (mz = l.length - i3) ∧ (i3 ≤ l.length) ∧ (EV A' (.tmp 19) = .int .i64 (i3 : Int)) ∧ (EV A' (.tmp 0) = EV A151 (.tmp 0)) ∧ (EV A' (.tmp 5) = EV A151 (.tmp 5)) ∧ (EV A' (.tmp 6) = EV A151 (.tmp 6)) ∧ (EV A' (.tmp 16) = EV A151 (.tmp 16)) ∧ (EV A' (.tmp 17) = EV A151 (.tmp 17)) ∧ (EV A' (.tmp 18) = EV A151 (.tmp 18)) ∧ (St w NoX [io .i64 v_146 (fwT (fwT l ms) ((ms.take i2).map swp)), io .i64 v_17 (fwT l ms)] w'))) (l.length - 0) ⟨hsz151, hdf151, 0, rfl, (by omega), ((l19_151).trans (by first | rfl | (simp; done) | (congr 1; omega))), rfl, rfl, rfl, rfl, rfl, rfl, (by subst hc_146 hc_66; exact hS148)⟩ ?_
            clear hS148 hc_146 hc_66
            rintro n152 A152 w152 ⟨hsz152, hdf152, i3, hm152, hbi3, l19_152, u0_152, u5_152, u6_152, u16_152, u17_152, u18_152, hS152⟩
            have l0_152 := u0_152.trans l0_151
            have l5_152 := u5_152.trans l5_151
            have l6_152 := u6_152.trans l6_151
            have l16_152 := u16_152.trans l16_151
            have l17_152 := u17_152.trans l17_151
            have l18_152 := u18_152.trans l18_151
            obtain ⟨c_152, c_152b, hc_152, hc_152b, hS152⟩ := gen2 hS152
            refine wp_seq_k (fun K153 hK153 => ?_)
            refine wp_seq_k (fun K154 hK154 => ?_)
            -- region 39
            refine region_in ?_
            refine W_v rfl rfl (V_mov rfl l19_152) ?_
            refine W_v rfl rfl (V_mov rfl (es rfl l0_152)) ?_
            refine W_v rfl rfl (V_lenS rfl (et rfl) (sl_SlN h_rv.at) Try.underlying22) ?_
            refine W_v rfl rfl (V_lss rfl (es rfl (es rfl (et rfl))) (et rfl)) ?_
            refine W_end ?_
            refine gen_Q (fun A155 hA155 => ?_)
            have hsz155 : SzN A155 215 := by rw [hA155]; infer_instance
            have hdf155 : A155.defers = [] := by rw [hA155]; simp only [df_put]; exact hdf152
            have l0_155 := lookE hA155 0 (es rfl (es rfl (es rfl (es rfl l0_152))))
            have l5_155 := lookE hA155 5 (es rfl (es rfl (es rfl (es rfl l5_152))))
            have l6_155 := lookE hA155 6 (es rfl (es rfl (es rfl (es rfl l6_152))))
            have l16_155 := lookE hA155 16 (es rfl (es rfl (es rfl (es rfl l16_152))))
            have l17_155 := lookE hA155 17 (es rfl (es rfl (es rfl (es rfl l17_152))))
            have l18_155 := lookE hA155 18 (es rfl (es rfl (es rfl (es rfl l18_152))))
            have l19_155 := lookE hA155 19 (es rfl (es rfl (es rfl (es rfl l19_152))))
            have l171_155 := lookE hA155 171 (et rfl)
            clear hA155 hsz152 hdf152 l19_152 l0_152 l5_152 l6_152 l16_152 l17_152 l18_152
            refine then_n (hK154 _ _ ?_)
            clear hK154
            refine cond_dec l171_155 (fun c156 => ?_) (fun c156 => ?_)
            · skip
              refine wp_skip ?_
              refine then_n (hK153 _ _ ?_)
              clear hK153
              refine wp_seq_k (fun K157 hK157 => ?_)
              refine wp_block ?_
              refine wp_seq_k (fun K158 hK158 => ?_)
              -- region 41
              refine region_in ?_
              refine W_v rfl rfl (V_asg rfl rfl) ?_
              refine W_end ?_
              refine gen_Q (fun A159 hA159 => ?_)
              have hsz159 : SzN A159 215 := by rw [hA159]; infer_instance
              have hdf159 : A159.defers = [] := by rw [hA159]; simp only [df_put]; exact hdf155
              have l0_159 := lookE hA159 0 (es rfl l0_155)
              have l5_159 := lookE hA159 5 (es rfl l5_155)
              have l6_159 := lookE hA159 6 (es rfl l6_155)
              have l16_159 := lookE hA159 16 (es rfl l16_155)
              have l17_159 := lookE hA159 17 (es rfl l17_155)
              have l18_159 := lookE hA159 18 (es rfl l18_155)
              have l19_159 := lookE hA159 19 (es rfl l19_155)
              have l20_159 := lookE hA159 20 (et rfl)
              clear hA159 hsz155 hdf155 l0_155 l5_155 l6_155 l16_155 l17_155 l18_155 l19_155 l171_155
              refine then_n (hK158 _ _ ?_)
              clear hK158
              refine wp_block ?_
              -- loop 42
              refine loopX (fun mz A' w' => SzN A' 215 ∧ A'.defers = [] ∧ (∃ (k3 : Nat), (mz = l.length - k3) ∧ (k3 ≤ l.length) ∧ (EV A' (.tmp 20) = .int .i64 (k3 : Int)) ∧ (EV A' (.tmp 0) = EV A159 (.tmp 0)) ∧ (EV A' (.tmp 5) = EV A159 (.tmp 5)) ∧ (EV A' (.tmp 6) = EV A159 (.tmp 6)) ∧ (EV A' (.tmp 16) = EV A159 (.tmp 16)) ∧ (EV A' (.tmp 17) = EV A159 (.tmp 17)) ∧ (EV A' (.tmp 18) = EV A159 (.tmp 18)) ∧ (EV A' (.tmp 19) = EV A159 (.tmp 19)) ∧ (St w NoX [io .i64 v_146 (fwT (fwT l ms) ((ms.take i2).map swp)), io .i64 v_17 (fwT l ms)] w'))) (l.length - 0) ⟨hsz159, hdf159, 0, rfl, (by omega), ((l20_159).trans (by first | rfl | (simp; done) | (congr 1; omega))), rfl, rfl, rfl, rfl, rfl, rfl, rfl, (by subst hc_152 hc_152b; exact hS152)⟩ ?_
              clear hS152 hc_152 hc_152b
              rintro n160 A160 w160 ⟨hsz160, hdf160, k3, hm160, hbk3, l20_160, u0_160, u5_160, u6_160, u16_160, u17_160, u18_160, u19_160, hS160⟩
              have l0_160 := u0_160.trans l0_159
              have l5_160 := u5_160.trans l5_159
              have l6_160 := u6_160.trans l6_159
              have l16_160 := u16_160.trans l16_159
              have l17_160 := u17_160.trans l17_159
              have l18_160 := u18_160.trans l18_159
              have l19_160 := u19_160.trans l19_159
              obtain ⟨c_160, c_152b_160, hc_160, hc_152b_160, hS160⟩ := gen2 hS160
              refine wp_seq_k (fun K161 hK161 => ?_)
              refine wp_seq_k (fun K162 hK162 => ?_)
              -- region 42
              refine region_in ?_
              refine W_v rfl rfl (V_mov rfl l20_160) ?_
              refine W_v rfl rfl (V_mov rfl (es rfl l0_160)) ?_
              refine W_v rfl rfl (V_lenS rfl (et rfl) (sl_SlN h_rv.at) Try.underlying22) ?_
              refine W_v rfl rfl (V_lss rfl (es rfl (es rfl (et rfl))) (et rfl)) ?_
              refine W_end ?_
              refine gen_Q (fun A163 hA163 => ?_)
              have hsz163 : SzN A163 215 := by rw [hA163]; infer_instance
              have hdf163 : A163.defers = [] := by rw [hA163]; simp only [df_put]; exact hdf160
              have l0_163 := lookE hA163 0 (es rfl (es rfl (es rfl (es rfl l0_160))))
              have l5_163 := lookE hA163 5 (es rfl (es rfl (es rfl (es rfl l5_160))))
              have l6_163 := lookE hA163 6 (es rfl (es rfl (es rfl (es rfl l6_160))))
              have l16_163 := lookE hA163 16 (es rfl (es rfl (es rfl (es rfl l16_160))))
              have l17_163 := lookE hA163 17 (es rfl (es rfl (es rfl (es rfl l17_160))))
              have l18_163 := lookE hA163 18 (es rfl (es rfl (es rfl (es rfl l18_160))))
              have l19_163 := lookE hA163 19 (es rfl (es rfl (es rfl (es rfl l19_160))))
              have l20_163 := lookE hA163 20 (es rfl (es rfl (es rfl (es rfl l20_160))))
              have l177_163 := lookE hA163 177 (et rfl)
              clear hA163 hsz160 hdf160 l20_160 l0_160 l5_160 l6_160 l16_160 l17_160 l18_160 l19_160
              refine then_n (hK162 _ _ ?_)
              clear hK162
              refine cond_dec l177_163 (fun c164 => ?_) (fun c164 => ?_)
              · skip
                refine wp_skip ?_
                refine then_n (hK161 _ _ ?_)
                clear hK161
                refine wp_seq_k (fun K165 hK165 => ?_)
                refine wp_block ?_
                refine wp_seq_k (fun K166 hK166 => ?_)
                -- region 44
                refine region_monoS 20 20 [] (by kernel_rfl) (by kernel_rfl) ?_
                refine D_v rfl rfl (V_mov rfl l0_163) rfl rfl ?_
                refine D_v rfl rfl (V_mov rfl (es rfl l19_163)) rfl rfl ?_
                have k167 : i3 < l.length := by first | omega | (simp only [List.length_cons, List.length_nil]; omega)
                obtain ⟨y167, hy167⟩ := get_some (xs := l) (k := i3) k167
                obtain ⟨B167, O167, C167, hv167⟩ := (SlN.blk (sl_SlN h_rv.at) (by first | omega | (simp only [List.length_cons, List.length_nil]; omega)))
                refine D_v rfl rfl (V_ixS (off := O167 + i3) 1 (i3) rfl (es rfl (et rfl)) (et rfl) hv167 (by omega) k167 Try.underlying22 (by kernel_rfl) (congrArg _ (Nat.mul_one _))) rfl rfl ?_
                refine D_r rfl rfl (by kernel_rfl) (fun sx hx hF => (VR_ldC rfl (et rfl) ((sl_SlN ((hS160.grow hx).ro h_rv)).cell hv167 (map_get hy167)) Try.underlying3 rfl)) rfl rfl ?_
                refine D_v rfl rfl (V_mov rfl (es rfl (es rfl (es rfl (es rfl l0_163))))) rfl rfl ?_
                refine D_v rfl rfl (V_mov rfl (es rfl (es rfl (es rfl (es rfl (es rfl l20_163)))))) rfl rfl ?_
                have k168 : k3 < l.length := by first | omega | (simp only [List.length_cons, List.length_nil]; omega)
                obtain ⟨y168, hy168⟩ := get_some (xs := l) (k := k3) k168
                refine D_v rfl rfl (V_ixS (off := O167 + k3) 1 (k3) rfl (es rfl (et rfl)) (et rfl) hv167 (by omega) k168 Try.underlying22 (by kernel_rfl) (congrArg _ (Nat.mul_one _))) rfl rfl ?_
                refine D_r rfl rfl (by kernel_rfl) (fun sx hx hF => (VR_ldC rfl (et rfl) ((sl_SlN ((hS160.grow hx).ro h_rv)).cell hv167 (map_get hy168)) Try.underlying3 rfl)) rfl rfl ?_
                refine D_v rfl rfl (V_neq rfl (es rfl (es rfl (es rfl (es rfl (et rfl))))) (et rfl)) rfl rfl ?_
                refine D_split rfl rfl (V_mov rfl (et rfl)) rfl rfl (fun c169 => ?_) (fun c169 => ?_)
                · skip
                  refine D_v rfl (wanted_t rfl rfl (et rfl) (ez rfl)) (V_mov rfl (es rfl (es rfl (es rfl (es rfl (es rfl (es rfl (es rfl (es rfl (es rfl (es rfl l5_163))))))))))) rfl rfl ?_
                  refine D_v rfl (wanted_t rfl rfl (es rfl (et rfl)) (ez rfl)) (V_mov rfl (es rfl (es rfl (es rfl (es rfl (es rfl (es rfl (es rfl (es rfl (es rfl (es rfl (es rfl l19_163)))))))))))) rfl rfl ?_
                  have k170 : i3 < (fwT l ms).length := by first | omega | (simp only [List.length_cons, List.length_nil]; omega)
                  obtain ⟨y170, hy170⟩ := get_some (xs := (fwT l ms)) (k := i3) k170
                  obtain ⟨B170, O170, C170, hv170⟩ := (SlN.blk (ow_at (hS160.chq 1 rfl hc_152b_160)) (by first | omega | (simp only [List.length_cons, List.length_nil]; omega)))
                  refine D_v rfl (wanted_t rfl rfl (es rfl (es rfl (et rfl))) (ez rfl)) (V_ixS (off := O170 + i3) 1 (i3) rfl (es rfl (et rfl)) (et rfl) hv170 (by omega) k170 Try.underlying22 (by kernel_rfl) (congrArg _ (Nat.mul_one _))) rfl rfl ?_
                  refine D_r rfl (wanted_t rfl rfl (es rfl (es rfl (es rfl (et rfl)))) (ez rfl)) (by kernel_rfl) (fun sx hx hF => (VR_ldC rfl (et rfl) ((ow_at ((hS160.grow hx).chq 1 rfl hc_152b_160)).cell hv170 (map_get hy170)) Try.underlying3 rfl)) rfl rfl ?_
                  refine D_v rfl (wanted_t rfl rfl (es rfl (es rfl (es rfl (es rfl (et rfl))))) (ez rfl)) (V_mov rfl (es rfl (es rfl (es rfl (es rfl (es rfl (es rfl (es rfl (es rfl (es rfl (es rfl (es rfl (es rfl (es rfl (es rfl l5_163))))))))))))))) rfl rfl ?_
                  refine D_v rfl (wanted_t rfl rfl (es rfl (es rfl (es rfl (es rfl (es rfl (et rfl)))))) (ez rfl)) (V_mov rfl (es rfl (es rfl (es rfl (es rfl (es rfl (es rfl (es rfl (es rfl (es rfl (es rfl (es rfl (es rfl (es rfl (es rfl (es rfl l20_163)))))))))))))))) rfl rfl ?_
                  have k171 : k3 < (fwT l ms).length := by first | omega | (simp only [List.length_cons, List.length_nil]; omega)
                  obtain ⟨y171, hy171⟩ := get_some (xs := (fwT l ms)) (k := k3) k171
                  refine D_v rfl (wanted_t rfl rfl (es rfl (es rfl (es rfl (es rfl (es rfl (es rfl (et rfl))))))) (ez rfl)) (V_ixS (off := O170 + k3) 1 (k3) rfl (es rfl (et rfl)) (et rfl) hv170 (by omega) k171 Try.underlying22 (by kernel_rfl) (congrArg _ (Nat.mul_one _))) rfl rfl ?_
                  refine D_r rfl (wanted_t rfl rfl (es rfl (es rfl (es rfl (es rfl (es rfl (es rfl (es rfl (et rfl)))))))) (ez rfl)) (by kernel_rfl) (fun sx hx hF => (VR_ldC rfl (et rfl) ((ow_at ((hS160.grow hx).chq 1 rfl hc_152b_160)).cell hv170 (map_get hy171)) Try.underlying3 rfl)) rfl rfl ?_
                  refine D_v rfl (wanted_t rfl rfl (es rfl (es rfl (es rfl (es rfl (es rfl (es rfl (es rfl (es rfl (et rfl))))))))) (ez rfl)) (V_eql rfl (es rfl (es rfl (es rfl (es rfl (et rfl))))) (et rfl)) rfl rfl ?_
                  refine D_v rfl rfl (V_pickT rfl (es rfl (es rfl (es rfl (es rfl (es rfl (es rfl (es rfl (es rfl (es rfl (et rfl)))))))))) (et rfl)) rfl rfl ?_
                  refine ZS_none hS160 (Nat.le_refl _) (Nat.le_refl _) (fun s172 hJ172 hL172 hF172 => ?_)
                  have hS172 := hJ172.st; clear hF172 hJ172 hL172
                  generalize s172.1 = w172 at *
                  replace hS172 : St w NoX [c_160, c_152b_160] w172 := hS172
                  refine gen_Q (fun A173 hA173 => ?_)
                  have hsz173 : SzN A173 215 := by rw [hA173]; infer_instance
                  have hdf173 : A173.defers = [] := by rw [hA173]; simp only [df_put]; exact hdf163
                  have l0_173 := lookE hA173 0 (es rfl (es rfl (es rfl (es rfl (es rfl (es rfl (es rfl (es rfl (es rfl (es rfl (es rfl (es rfl (es rfl (es rfl (es rfl (es rfl (es rfl (es rfl (es rfl (es rfl l0_163))))))))))))))))))))
                  have l5_173 := lookE hA173 5 (es rfl (es rfl (es rfl (es rfl (es rfl (es rfl (es rfl (es rfl (es rfl (es rfl (es rfl (es rfl (es rfl (es rfl (es rfl (es rfl (es rfl (es rfl (es rfl (es rfl l5_163))))))))))))))))))))
                  have l6_173 := lookE hA173 6 (es rfl (es rfl (es rfl (es rfl (es rfl (es rfl (es rfl (es rfl (es rfl (es rfl (es rfl (es rfl (es rfl (es rfl (es rfl (es rfl (es rfl (es rfl (es rfl (es rfl l6_163))))))))))))))))))))
                  have l16_173 := lookE hA173 16 (es rfl (es rfl (es rfl (es rfl (es rfl (es rfl (es rfl (es rfl (es rfl (es rfl (es rfl (es rfl (es rfl (es rfl (es rfl (es rfl (es rfl (es rfl (es rfl (es rfl l16_163))))))))))))))))))))
                  have l17_173 := lookE hA173 17 (es rfl (es rfl (es rfl (es rfl (es rfl (es rfl (es rfl (es rfl (es rfl (es rfl (es rfl (es rfl (es rfl (es rfl (es rfl (es rfl (es rfl (es rfl (es rfl (es rfl l17_163))))))))))))))))))))
                  have l18_173 := lookE hA173 18 (es rfl (es rfl (es rfl (es rfl (es rfl (es rfl (es rfl (es rfl (es rfl (es rfl (es rfl (es rfl (es rfl (es rfl (es rfl (es rfl (es rfl (es rfl (es rfl (es rfl l18_163))))))))))))))))))))
                  have l19_173 := lookE hA173 19 (es rfl (es rfl (es rfl (es rfl (es rfl (es rfl (es rfl (es rfl (es rfl (es rfl (es rfl (es rfl (es rfl (es rfl (es rfl (es rfl (es rfl (es rfl (es rfl (es rfl l19_163))))))))))))))))))))
                  have l20_173 := lookE hA173 20 (es rfl (es rfl (es rfl (es rfl (es rfl (es rfl (es rfl (es rfl (es rfl (es rfl (es rfl (es rfl (es rfl (es rfl (es rfl (es rfl (es rfl (es rfl (es rfl (es rfl l20_163))))))))))))))))))))
                  have l190_173 := lookE hA173 190 (es rfl (es rfl (es rfl (es rfl (es rfl (es rfl (es rfl (es rfl (es rfl (et rfl))))))))))
                  have l191_173 := lookE hA173 191 (es rfl (es rfl (es rfl (es rfl (es rfl (es rfl (es rfl (es rfl (et rfl)))))))))
                  have l192_173 := lookE hA173 192 (es rfl (es rfl (es rfl (es rfl (es rfl (es rfl (es rfl (et rfl))))))))
                  have l193_173 := lookE hA173 193 (es rfl (es rfl (es rfl (es rfl (es rfl (es rfl (et rfl)))))))
                  have l194_173 := lookE hA173 194 (es rfl (es rfl (es rfl (es rfl (es rfl (et rfl))))))
                  have l195_173 := lookE hA173 195 (es rfl (es rfl (es rfl (es rfl (et rfl)))))
                  have l196_173 := lookE hA173 196 (es rfl (es rfl (es rfl (et rfl))))
                  have l197_173 := lookE hA173 197 (es rfl (es rfl (et rfl)))
                  have l198_173 := lookE hA173 198 (es rfl (et rfl))
                  have l199_173 := lookE hA173 199 (et rfl)
                  clear hA173 hsz163 hdf163 l0_163 l5_163 l6_163 l16_163 l17_163 l18_163 l19_163 l20_163 l177_163
                  refine then_n (hK166 _ _ ?_)
                  clear hK166
                  refine cond_not l199_173 (by rw [decide_eq_false_iff_not]; exact back_inj h0 hB hy167 hy168 hy170 hy171 c169) ?_
                  refine wp_skip ?_
                  refine inb_n ?_
                  refine then_n (hK165 _ _ ?_)
                  clear hK165
                  -- region 43
                  refine region_in ?_
                  refine W_v rfl rfl (V_mov rfl l20_173) ?_
                  refine W_v rfl rfl (V_add rfl (et rfl) rfl (by omega) (by omega)) ?_
                  refine W_v rfl rfl (V_asg rfl (et rfl)) ?_
                  refine W_end ?_
                  refine gen_Q (fun A174 hA174 => ?_)
                  have hsz174 : SzN A174 215 := by rw [hA174]; infer_instance
                  have hdf174 : A174.defers = [] := by rw [hA174]; simp only [df_put]; exact hdf173
                  have l0_174 := lookE hA174 0 (es rfl (es rfl (es rfl l0_173)))
                  have l5_174 := lookE hA174 5 (es rfl (es rfl (es rfl l5_173)))
                  have l6_174 := lookE hA174 6 (es rfl (es rfl (es rfl l6_173)))
                  have l16_174 := lookE hA174 16 (es rfl (es rfl (es rfl l16_173)))
                  have l17_174 := lookE hA174 17 (es rfl (es rfl (es rfl l17_173)))
                  have l18_174 := lookE hA174 18 (es rfl (es rfl (es rfl l18_173)))
                  have l19_174 := lookE hA174 19 (es rfl (es rfl (es rfl l19_173)))
                  have l20_174 := lookE hA174 20 (et rfl)
                  have l190_174 := lookE hA174 190 (es rfl (es rfl (es rfl l190_173)))
                  have l191_174 := lookE hA174 191 (es rfl (es rfl (es rfl l191_173)))
                  have l192_174 := lookE hA174 192 (es rfl (es rfl (es rfl l192_173)))
                  have l193_174 := lookE hA174 193 (es rfl (es rfl (es rfl l193_173)))
                  have l194_174 := lookE hA174 194 (es rfl (es rfl (es rfl l194_173)))
                  have l195_174 := lookE hA174 195 (es rfl (es rfl (es rfl l195_173)))
                  have l196_174 := lookE hA174 196 (es rfl (es rfl (es rfl l196_173)))
                  have l197_174 := lookE hA174 197 (es rfl (es rfl (es rfl l197_173)))
                  have l198_174 := lookE hA174 198 (es rfl (es rfl (es rfl l198_173)))
                  clear hA174 hsz173 hdf173 l0_173 l5_173 l6_173 l16_173 l17_173 l18_173 l19_173 l20_173 l190_173 l191_173 l192_173 l193_173 l194_173 l195_173 l196_173 l197_173 l198_173 l199_173
                  refine then_n ⟨l.length - (k3 + 1), by simp only [hm160]; omega, hsz174, hdf174, (k3 + 1), rfl, (by omega), ((l20_174).trans (by first | rfl | (simp; done) | (congr 1; omega))), ((l0_174).trans l0_159.symm), ((l5_174).trans l5_159.symm), ((l6_174).trans l6_159.symm), ((l16_174).trans l16_159.symm), ((l17_174).trans l17_159.symm), ((l18_174).trans l18_159.symm), ((l19_174).trans l19_159.symm), (by subst hc_160 hc_152b_160; exact hS172)⟩
                · skip
                  refine D_off rfl (wanted_f rfl rfl (et rfl) (ez rfl) rfl) rfl ?_
                  refine D_off rfl (wanted_f rfl rfl (es rfl (et rfl)) (ez rfl) rfl) rfl ?_
                  refine D_off rfl (wanted_f rfl rfl (es rfl (es rfl (et rfl))) (ez rfl) rfl) rfl ?_
                  refine D_off rfl (wanted_f rfl rfl (es rfl (es rfl (es rfl (et rfl)))) (ez rfl) rfl) rfl ?_
                  refine D_off rfl (wanted_f rfl rfl (es rfl (es rfl (es rfl (es rfl (et rfl))))) (ez rfl) rfl) rfl ?_
                  refine D_off rfl (wanted_f rfl rfl (es rfl (es rfl (es rfl (es rfl (es rfl (et rfl)))))) (ez rfl) rfl) rfl ?_
                  refine D_off rfl (wanted_f rfl rfl (es rfl (es rfl (es rfl (es rfl (es rfl (es rfl (et rfl))))))) (ez rfl) rfl) rfl ?_
                  refine D_off rfl (wanted_f rfl rfl (es rfl (es rfl (es rfl (es rfl (es rfl (es rfl (es rfl (et rfl)))))))) (ez rfl) rfl) rfl ?_
                  refine D_off rfl (wanted_f rfl rfl (es rfl (es rfl (es rfl (es rfl (es rfl (es rfl (es rfl (es rfl (et rfl))))))))) (ez rfl) rfl) rfl ?_
                  refine D_v rfl rfl (V_pickF rfl (es rfl (es rfl (es rfl (es rfl (es rfl (es rfl (es rfl (es rfl (es rfl (et rfl)))))))))) rfl) rfl rfl ?_
                  refine ZS_none hS160 (Nat.le_refl _) (Nat.le_refl _) (fun s175 hJ175 hL175 hF175 => ?_)
                  have hS175 := hJ175.st; clear hF175 hJ175 hL175
                  generalize s175.1 = w175 at *
                  replace hS175 : St w NoX [c_160, c_152b_160] w175 := hS175
                  refine gen_Q (fun A176 hA176 => ?_)
                  have hsz176 : SzN A176 215 := by rw [hA176]; infer_instance
                  have hdf176 : A176.defers = [] := by rw [hA176]; simp only [df_put]; exact hdf163
                  have l0_176 := lookE hA176 0 (es rfl (es rfl (es rfl (es rfl (es rfl (es rfl (es rfl (es rfl (es rfl (es rfl (es rfl (es rfl (es rfl (es rfl (es rfl (es rfl (es rfl (es rfl (es rfl (es rfl l0_163))))))))))))))))))))
                  have l5_176 := lookE hA176 5 (es rfl (es rfl (es rfl (es rfl (es rfl (es rfl (es rfl (es rfl (es rfl (es rfl (es rfl (es rfl (es rfl (es rfl (es rfl (es rfl (es rfl (es rfl (es rfl (es rfl l5_163))))))))))))))))))))
                  have l6_176 := lookE hA176 6 (es rfl (es rfl (es rfl (es rfl (es rfl (es rfl (es rfl (es rfl (es rfl (es rfl (es rfl (es rfl (es rfl (es rfl (es rfl (es rfl (es rfl (es rfl (es rfl (es rfl l6_163))))))))))))))))))))
                  have l16_176 := lookE hA176 16 (es rfl (es rfl (es rfl (es rfl (es rfl (es rfl (es rfl (es rfl (es rfl (es rfl (es rfl (es rfl (es rfl (es rfl (es rfl (es rfl (es rfl (es rfl (es rfl (es rfl l16_163))))))))))))))))))))
                  have l17_176 := lookE hA176 17 (es rfl (es rfl (es rfl (es rfl (es rfl (es rfl (es rfl (es rfl (es rfl (es rfl (es rfl (es rfl (es rfl (es rfl (es rfl (es rfl (es rfl (es rfl (es rfl (es rfl l17_163))))))))))))))))))))
                  have l18_176 := lookE hA176 18 (es rfl (es rfl (es rfl (es rfl (es rfl (es rfl (es rfl (es rfl (es rfl (es rfl (es rfl (es rfl (es rfl (es rfl (es rfl (es rfl (es rfl (es rfl (es rfl (es rfl l18_163))))))))))))))))))))
                  have l19_176 := lookE hA176 19 (es rfl (es rfl (es rfl (es rfl (es rfl (es rfl (es rfl (es rfl (es rfl (es rfl (es rfl (es rfl (es rfl (es rfl (es rfl (es rfl (es rfl (es rfl (es rfl (es rfl l19_163))))))))))))))))))))
                  have l20_176 := lookE hA176 20 (es rfl (es rfl (es rfl (es rfl (es rfl (es rfl (es rfl (es rfl (es rfl (es rfl (es rfl (es rfl (es rfl (es rfl (es rfl (es rfl (es rfl (es rfl (es rfl (es rfl l20_163))))))))))))))))))))
                  have l190_176 := lookE hA176 190 (es rfl (es rfl (es rfl (es rfl (es rfl (es rfl (es rfl (es rfl (es rfl (et rfl))))))))))
                  have l191_176 := lookE hA176 191 (es rfl (es rfl (es rfl (es rfl (es rfl (es rfl (es rfl (es rfl (et rfl)))))))))
                  have l192_176 := lookE hA176 192 (es rfl (es rfl (es rfl (es rfl (es rfl (es rfl (es rfl (et rfl))))))))
                  have l193_176 := lookE hA176 193 (es rfl (es rfl (es rfl (es rfl (es rfl (es rfl (et rfl)))))))
                  have l194_176 := lookE hA176 194 (es rfl (es rfl (es rfl (es rfl (es rfl (et rfl))))))
                  have l195_176 := lookE hA176 195 (es rfl (es rfl (es rfl (es rfl (et rfl)))))
                  have l196_176 := lookE hA176 196 (es rfl (es rfl (es rfl (et rfl))))
                  have l197_176 := lookE hA176 197 (es rfl (es rfl (et rfl)))
                  have l198_176 := lookE hA176 198 (es rfl (et rfl))
                  have l199_176 := lookE hA176 199 (et rfl)
                  clear hA176 hsz163 hdf163 l0_163 l5_163 l6_163 l16_163 l17_163 l18_163 l19_163 l20_163 l177_163
                  refine then_n (hK166 _ _ ?_)
                  clear hK166
                  refine cond_f l199_176 ?_
                  refine wp_skip ?_
                  refine inb_n ?_
                  refine then_n (hK165 _ _ ?_)
                  clear hK165
                  -- region 43
                  refine region_in ?_
                  refine W_v rfl rfl (V_mov rfl l20_176) ?_
                  refine W_v rfl rfl (V_add rfl (et rfl) rfl (by omega) (by omega)) ?_
                  refine W_v rfl rfl (V_asg rfl (et rfl)) ?_
                  refine W_end ?_
                  refine gen_Q (fun A177 hA177 => ?_)
                  have hsz177 : SzN A177 215 := by rw [hA177]; infer_instance
                  have hdf177 : A177.defers = [] := by rw [hA177]; simp only [df_put]; exact hdf176
                  have l0_177 := lookE hA177 0 (es rfl (es rfl (es rfl l0_176)))
                  have l5_177 := lookE hA177 5 (es rfl (es rfl (es rfl l5_176)))
                  have l6_177 := lookE hA177 6 (es rfl (es rfl (es rfl l6_176)))
                  have l16_177 := lookE hA177 16 (es rfl (es rfl (es rfl l16_176)))
                  have l17_177 := lookE hA177 17 (es rfl (es rfl (es rfl l17_176)))
                  have l18_177 := lookE hA177 18 (es rfl (es rfl (es rfl l18_176)))
                  have l19_177 := lookE hA177 19 (es rfl (es rfl (es rfl l19_176)))
                  have l20_177 := lookE hA177 20 (et rfl)
                  have l190_177 := lookE hA177 190 (es rfl (es rfl (es rfl l190_176)))
                  have l191_177 := lookE hA177 191 (es rfl (es rfl (es rfl l191_176)))
                  have l192_177 := lookE hA177 192 (es rfl (es rfl (es rfl l192_176)))
                  have l193_177 := lookE hA177 193 (es rfl (es rfl (es rfl l193_176)))
                  have l194_177 := lookE hA177 194 (es rfl (es rfl (es rfl l194_176)))
                  have l195_177 := lookE hA177 195 (es rfl (es rfl (es rfl l195_176)))
                  have l196_177 := lookE hA177 196 (es rfl (es rfl (es rfl l196_176)))
                  have l197_177 := lookE hA177 197 (es rfl (es rfl (es rfl l197_176)))
                  have l198_177 := lookE hA177 198 (es rfl (es rfl (es rfl l198_176)))
                  clear hA177 hsz176 hdf176 l0_176 l5_176 l6_176 l16_176 l17_176 l18_176 l19_176 l20_176 l190_176 l191_176 l192_176 l193_176 l194_176 l195_176 l196_176 l197_176 l198_176 l199_176
                  refine then_n ⟨l.length - (k3 + 1), by simp only [hm160]; omega, hsz177, hdf177, (k3 + 1), rfl, (by omega), ((l20_177).trans (by first | rfl | (simp; done) | (congr 1; omega))), ((l0_177).trans l0_159.symm), ((l5_177).trans l5_159.symm), ((l6_177).trans l6_159.symm), ((l16_177).trans l16_159.symm), ((l17_177).trans l17_159.symm), ((l18_177).trans l18_159.symm), ((l19_177).trans l19_159.symm), (by subst hc_160 hc_152b_160; exact hS175)⟩
              · skip
                refine wp_exit ?_
                refine then_exit ?_
                refine then_exit ?_
                refine inb_hit ?_
                refine inb_n ?_
                refine then_n (hK157 _ _ ?_)
                clear hK157
                -- region 40
                refine region_in ?_
                refine W_v rfl rfl (V_mov rfl l19_163) ?_
                refine W_v rfl rfl (V_add rfl (et rfl) rfl (by omega) (by omega)) ?_
                refine W_v rfl rfl (V_asg rfl (et rfl)) ?_
                refine W_end ?_
                refine gen_Q (fun A178 hA178 => ?_)
                have hsz178 : SzN A178 215 := by rw [hA178]; infer_instance
                have hdf178 : A178.defers = [] := by rw [hA178]; simp only [df_put]; exact hdf163
                have l0_178 := lookE hA178 0 (es rfl (es rfl (es rfl l0_163)))
                have l5_178 := lookE hA178 5 (es rfl (es rfl (es rfl l5_163)))
                have l6_178 := lookE hA178 6 (es rfl (es rfl (es rfl l6_163)))
                have l16_178 := lookE hA178 16 (es rfl (es rfl (es rfl l16_163)))
                have l17_178 := lookE hA178 17 (es rfl (es rfl (es rfl l17_163)))
                have l18_178 := lookE hA178 18 (es rfl (es rfl (es rfl l18_163)))
                have l19_178 := lookE hA178 19 (et rfl)
                clear hA178 hsz163 hdf163 l0_163 l5_163 l6_163 l16_163 l17_163 l18_163 l19_163 l20_163 l177_163
                refine then_n ⟨l.length - (i3 + 1), by simp only [hm152]; omega, hsz178, hdf178, (i3 + 1), rfl, (by omega), ((l19_178).trans (by first | rfl | (simp; done) | (congr 1; omega))), ((l0_178).trans l0_151.symm), ((l5_178).trans l5_151.symm), ((l6_178).trans l6_151.symm), ((l16_178).trans l16_151.symm), ((l17_178).trans l17_151.symm), ((l18_178).trans l18_151.symm), (by subst hc_160 hc_152b_160; exact hS160)⟩
            · skip
              refine wp_exit ?_
              refine then_exit ?_
              refine then_exit ?_
              refine inb_hit ?_
              refine then_n (hK149 _ _ ?_)
              clear hK149
              refine wp_seq_k (fun K179 hK179 => ?_)
              -- region 46
              refine region_in ?_
              refine W_v rfl rfl (V_mov rfl l16_155) ?_
              refine W_v rfl rfl (V_mov rfl (es rfl l0_155)) ?_
              refine W_call rfl rfl rfl Try.func17 (by kernel_rfl) rfl (args2 (es rfl (et rfl)) (et rfl)) (qInts_c (hS152.chC 0 rfl hc_152).own (hS152.roC h_rv) ) ?_
              rintro _ w180 ⟨rfl, hP180⟩
              refine ⟨_, rfl, ?_⟩
              have hS180 := hS152.join hP180
              replace hS180 : St w NoX [c_152, c_152b] w180 := hS180
              refine W_sure (c' := true) rfl rfl (V_mov rfl (et rfl)) (by rw [decide_eq_true_eq]; rw [hI]; exact (back_all h0 hB).2.1) ?_
              refine W_v rfl (wanted_t rfl rfl (et rfl) (ez rfl)) (V_mov rfl (es rfl (es rfl (es rfl (es rfl l17_155))))) ?_
              refine W_v rfl (wanted_t rfl rfl (es rfl (et rfl)) (ez rfl)) (V_mov rfl (es rfl (es rfl (es rfl (es rfl (es rfl l6_155)))))) ?_
              refine W_v rfl (wanted_t rfl rfl (es rfl (es rfl (et rfl))) (ez rfl)) (V_eql rfl (es rfl (et rfl)) (et rfl)) ?_
              refine W_v rfl rfl (V_pickT rfl (es rfl (es rfl (es rfl (et rfl)))) (et rfl)) ?_
              refine W_sure (c' := true) rfl rfl (V_mov rfl (et rfl)) (by rw [decide_eq_true_eq]; rw [hI]; exact (back_all h0 hB).2.2) ?_
              refine W_v rfl (wanted_t rfl rfl (et rfl) (ez rfl)) (V_mov rfl (es rfl (es rfl (es rfl (es rfl (es rfl (es rfl (es rfl (es rfl (es rfl l18_155)))))))))) ?_
              refine W_v rfl (wanted_t rfl rfl (es rfl (et rfl)) (ez rfl)) (V_eql rfl (et rfl) rfl) ?_
              refine W_v rfl rfl (V_pickT rfl (es rfl (es rfl (et rfl))) (et rfl)) ?_
              refine W_sure (c' := true) rfl rfl (V_mov rfl (et rfl)) (by rw [decide_eq_true_eq]; rw [hI]; exact (back_all h0 hB).1) ?_
              refine W_call rfl (wanted_t rfl rfl (et rfl) (ez rfl)) rfl Try.func12 (by kernel_rfl) rfl (args0) (shw_c  ) ?_
              rintro _ w181 ⟨rfl, hP181⟩
              refine ⟨_, rfl, ?_⟩
              have hS181 := hS180.join hP181
              replace hS181 : St w NoX [c_152, c_152b] w181 := hS181
              refine W_v rfl rfl (V_pickT rfl (es rfl (et rfl)) (et rfl)) ?_
              refine W_v rfl rfl (V_asg rfl (et rfl)) ?_
              refine W_end ?_
              refine gen_Q (fun A182 hA182 => ?_)
              have hsz182 : SzN A182 215 := by rw [hA182]; infer_instance
              have hdf182 : A182.defers = [] := by rw [hA182]; simp only [df_put]; exact hdf155
              have l4_182 := lookE hA182 4 (et rfl)
              clear hA182 hsz155 hdf155 l0_155 l5_155 l6_155 l16_155 l17_155 l18_155 l19_155 l171_155
              have hS183 : St w NoX [] w181 := hS181.sel [] (by decide) rfl
              refine then_n (hK179 _ _ ?_)
              clear hK179
              refine wp_ret ?_
              refine ret_in (results_1 Try.results5 (rv_tmp l4_182)) hdf182 ?_
              -- leaf FFFFFF
              exact ⟨rfl, hS183.fin0⟩

end Go.Proofs.Ytbnijekjaafoaaa