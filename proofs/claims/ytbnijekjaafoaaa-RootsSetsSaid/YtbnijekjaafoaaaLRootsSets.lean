import Derived.Test.YtbnijekjaafoaaaProg
import Derived.Test.YtbnijekjaafoaaaRt6
import Derived.Test.YtbnijekjaafoaaaPl19d
namespace Go.Proofs.Ytbnijekjaafoaaa
open Go.RowKit Go.Own Go.Own.R


set_option maxHeartbeats 4000000 in
theorem RootsSets_c {rv : Value} {l : List Int} {xa : Int} {xb : Int} {xx : Int} {w : World} (h_rv : Ro w NoX (il .i64 rv l))  :
    Calls Try.prog 10 #[rv, .agg #[.int .i64 xa, .int .i64 xb, .int .i64 xx]] w fun e w' => e = .returned (.bool true) ∧ St w NoX [] w' := by
  refine calls_in 152 Try.func10 rfl rfl (by simp) (fun A0 hsz0 hdf0 hargs => ?_)
  have l0_0 := hargs 0 (rv) rfl
  have l1_0 := hargs 1 (.agg #[.int .i64 xa, .int .i64 xb, .int .i64 xx]) rfl
  clear hargs; replace hsz0 : SzN A0 152 := ⟨hsz0⟩
  have hS := St.nil w
  have bh_rv := SlN.le (sl_SlN h_rv.at)
  refine wp_seq_k (fun K1 hK1 => ?_)
  -- region 0
  refine region_in ?_
  refine W_boxS (zs := #[.int .i64 (xa), .int .i64 (xb), .int .i64 (xx)]) hS rfl rfl rfl l1_0 (by rfl) (fun g2 w2 c2 hc2 hS2 => ?_)
  replace hS2 : St w NoX [c2] w2 := hS2
  refine W_v rfl rfl (V_asg rfl rfl) ?_
  refine W_end ?_
  refine gen_Q (fun A3 hA3 => ?_)
  have hsz3 : SzN A3 152 := by rw [hA3]; infer_instance
  have hdf3 : A3.defers = [] := by rw [hA3]; simp only [df_put]; exact hdf0
  have l0_3 := lookE hA3 0 (es rfl (es rfl l0_0))
  have l3_3 := lookE hA3 3 (es rfl (et rfl))
  clear hA3 hsz0 hdf0 l0_0 l1_0
  refine then_n (hK1 _ _ ?_)
  clear hK1
  refine wp_seq_k (fun K4 hK4 => ?_)
  refine wp_seq_k (fun K5 hK5 => ?_)
  -- region 1
  refine region_in ?_
  refine W_v rfl rfl (V_mov rfl l0_3) ?_
  refine W_call rfl rfl rfl Try.func11 (by kernel_rfl) rfl (args2 (et rfl) rfl) (far_c (ms := []) (mv := .slice none 0 0) (hS2.roC h_rv) ro_nil ) ?_
  rintro _ w6 ⟨rfl, hP6⟩
  refine ⟨_, rfl, ?_⟩
  have hS6 := hS2.join hP6
  replace hS6 : St w NoX [c2] w6 := hS6
  refine W_end ?_
  refine gen_Q (fun A7 hA7 => ?_)
  have hsz7 : SzN A7 152 := by rw [hA7]; infer_instance
  have hdf7 : A7.defers = [] := by rw [hA7]; simp only [df_put]; exact hdf3
  have l0_7 := lookE hA7 0 (es rfl (es rfl l0_3))
  have l3_7 := lookE hA7 3 (es rfl (es rfl l3_3))
  have l19_7 := lookE hA7 19 (et rfl)
  clear hA7 hsz3 hdf3 l0_3 l3_3
  refine then_n (hK5 _ _ ?_)
  clear hK5
  refine cond_dec l19_7 (fun c8 => ?_) (fun c8 => ?_)
  · skip
    refine wp_seq_k (fun K9 hK9 => ?_)
    -- region 2
    refine region_in ?_
    refine W_call rfl rfl rfl Try.func12 (by kernel_rfl) rfl (args0) (shw_c  ) ?_
    rintro _ w10 ⟨rfl, hP10⟩
    refine ⟨_, rfl, ?_⟩
    have hS10 := hS6.join hP10
    replace hS10 : St w NoX [c2] w10 := hS10
    refine W_v rfl rfl (V_asg rfl (et rfl)) ?_
    refine W_end ?_
    refine gen_Q (fun A11 hA11 => ?_)
    have hsz11 : SzN A11 152 := by rw [hA11]; infer_instance
    have hdf11 : A11.defers = [] := by rw [hA11]; simp only [df_put]; exact hdf7
    have l4_11 := lookE hA11 4 (et rfl)
    clear hA11 hsz7 hdf7 l0_7 l3_7 l19_7
    have hS12 : St w NoX [] w10 := hS10.sel [] (by decide) rfl
    refine then_n (hK9 _ _ ?_)
    clear hK9
    refine wp_ret ?_
    refine then_ret ?_
    refine ret_in (results_1 Try.results10 (rv_tmp l4_11)) hdf11 ?_
    -- leaf T
    exact ⟨rfl, hS12.fin0⟩
  · skip
    refine wp_skip ?_
    refine then_n (hK4 _ _ ?_)
    clear hK4
    refine wp_seq_k (fun K13 hK13 => ?_)
    -- region 3
    refine region_in ?_
    refine W_v rfl rfl (V_mov rfl l0_7) ?_
    refine W_v rfl rfl (V_fa (off' := 0) rfl (es rfl l3_7) Try.underlying48 rfl (by decide) rfl) ?_
    refine W_r rfl rfl (VR_ldC rfl (et rfl) (cell_box (v := .int .i64 (xa)) (hS6.obj 0 rfl hc2) rfl) Try.underlying3 rfl) ?_
    refine W_v rfl rfl (V_fa (off' := 2) rfl (es rfl (es rfl (es rfl l3_7))) Try.underlying48 rfl (by decide) rfl) ?_
    refine W_r rfl rfl (VR_ldC rfl (et rfl) (cell_box (v := .int .i64 (xx)) (hS6.obj 0 rfl hc2) rfl) Try.underlying3 rfl) ?_
    refine W_call rfl rfl rfl Try.func24 (by kernel_rfl) rfl (args3 (es rfl (es rfl (es rfl (es rfl (et rfl))))) (es rfl (es rfl (et rfl))) (et rfl)) (kSt_c (a := xa) (x := xx) (hS6.roC h_rv) ) ?_
    rintro _ w14 ⟨v_14, rfl, hP14⟩
    refine ⟨_, rfl, ?_⟩
    obtain ⟨c_14, hc_14, hP14⟩ := gen1 hP14
    have hS14 := hS6.join hP14
    replace hS14 : St w NoX [c_14, c2] w14 := hS14
    refine W_v rfl rfl (V_mov rfl (et rfl)) ?_
    refine W_v rfl rfl (V_ext (v := v_14) rfl (et rfl) rfl) ?_
    refine W_v rfl rfl (V_ext (v := .int .i64 ((stE l xa xx))) rfl (es rfl (et rfl)) rfl) ?_
    refine W_v rfl rfl (V_asg rfl (es rfl (et rfl))) ?_
    refine W_v rfl rfl (V_asg rfl (es rfl (et rfl))) ?_
    refine W_end ?_
    refine gen_Q (fun A15 hA15 => ?_)
    have hsz15 : SzN A15 152 := by rw [hA15]; infer_instance
    have hdf15 : A15.defers = [] := by rw [hA15]; simp only [df_put]; exact hdf7
    have l0_15 := lookE hA15 0 (es rfl (es rfl (es rfl (es rfl (es rfl (es rfl (es rfl (es rfl (es rfl (es rfl (es rfl l0_7)))))))))))
    have l3_15 := lookE hA15 3 (es rfl (es rfl (es rfl (es rfl (es rfl (es rfl (es rfl (es rfl (es rfl (es rfl (es rfl l3_7)))))))))))
    have l5_15 := lookE hA15 5 (es rfl (et rfl))
    have l6_15 := lookE hA15 6 (et rfl)
    clear hA15 hsz7 hdf7 l0_7 l3_7 l19_7
    refine then_n (hK13 _ _ ?_)
    clear hK13
    refine wp_seq_k (fun K16 hK16 => ?_)
    refine wp_seq_k (fun K17 hK17 => ?_)
    -- region 4
    refine region_in ?_
    refine W_v rfl rfl (V_mov rfl l6_15) ?_
    refine W_v rfl rfl (V_neq rfl (et rfl) rfl) ?_
    refine W_end ?_
    refine gen_Q (fun A18 hA18 => ?_)
    have hsz18 : SzN A18 152 := by rw [hA18]; infer_instance
    have hdf18 : A18.defers = [] := by rw [hA18]; simp only [df_put]; exact hdf15
    have l0_18 := lookE hA18 0 (es rfl (es rfl l0_15))
    have l3_18 := lookE hA18 3 (es rfl (es rfl l3_15))
    have l5_18 := lookE hA18 5 (es rfl (es rfl l5_15))
    have l31_18 := lookE hA18 31 (et rfl)
    clear hA18 hsz15 hdf15 l0_15 l3_15 l5_15 l6_15
    refine then_n (hK17 _ _ ?_)
    clear hK17
    refine cond_dec l31_18 (fun c19 => ?_) (fun c19 => ?_)
    · skip
      refine wp_seq_k (fun K20 hK20 => ?_)
      -- region 5
      refine region_in ?_
      refine W_v rfl rfl (V_mov rfl l5_18) ?_
      refine W_v rfl rfl (V_lenS rfl (et rfl) (ow_at (hS14.chq 0 rfl hc_14)) Try.underlying22) ?_
      refine W_v rfl rfl (V_eql rfl (et rfl) rfl) ?_
      refine W_sure (c' := true) rfl rfl (V_mov rfl (et rfl)) (by rw [decide_eq_true_eq]; rw [stT_err (by assumption)]; rfl) ?_
      refine W_call rfl (wanted_t rfl rfl (et rfl) (ez rfl)) rfl Try.func12 (by kernel_rfl) rfl (args0) (shw_c  ) ?_
      rintro _ w21 ⟨rfl, hP21⟩
      refine ⟨_, rfl, ?_⟩
      have hS21 := hS14.join hP21
      replace hS21 : St w NoX [c_14, c2] w21 := hS21
      refine W_v rfl rfl (V_pickT rfl (es rfl (et rfl)) (et rfl)) ?_
      refine W_v rfl rfl (V_asg rfl (et rfl)) ?_
      refine W_end ?_
      refine gen_Q (fun A22 hA22 => ?_)
      have hsz22 : SzN A22 152 := by rw [hA22]; infer_instance
      have hdf22 : A22.defers = [] := by rw [hA22]; simp only [df_put]; exact hdf18
      have l4_22 := lookE hA22 4 (et rfl)
      clear hA22 hsz18 hdf18 l0_18 l3_18 l5_18 l31_18
      have hS23 : St w NoX [] w21 := hS21.sel [] (by decide) rfl
      refine then_n (hK20 _ _ ?_)
      clear hK20
      refine wp_ret ?_
      refine then_ret ?_
      refine ret_in (results_1 Try.results10 (rv_tmp l4_22)) hdf22 ?_
      -- leaf FT
      exact ⟨rfl, hS23.fin0⟩
    · skip
      have h0 : stE l xa xx = 0 := by simpa using c19
      have s0 := st0 h0
      have g0 := st_get h0
      have hsl := s0.2.2.2.1
      refine wp_skip ?_
      refine then_n (hK16 _ _ ?_)
      clear hK16
      refine wp_seq_k (fun K24 hK24 => ?_)
      -- region 6
      refine region_in ?_
      refine W_v rfl rfl (V_mov rfl l5_18) ?_
      refine W_v rfl rfl (V_fa (off' := 0) rfl (es rfl l3_18) Try.underlying48 rfl (by decide) rfl) ?_
      refine W_r rfl rfl (VR_ldC rfl (et rfl) (cell_box (v := .int .i64 (xa)) (hS14.obj 1 rfl hc2) rfl) Try.underlying3 rfl) ?_
      refine W_call rfl rfl rfl Try.func27 (by kernel_rfl) rfl (args2 (es rfl (es rfl (et rfl))) (et rfl)) (kGt_c (a := xa) (hS14.chC 0 rfl hc_14).own ) ?_
      rintro _ w25 ⟨rfl, hP25⟩
      refine ⟨_, rfl, ?_⟩
      have hS25 := hS14.join hP25
      replace hS25 : St w NoX [c_14, c2] w25 := hS25
      refine W_v rfl rfl (V_mov rfl (et rfl)) ?_
      refine W_v rfl rfl (V_ext (v := .int .i64 ((gtN (stT l xa xx) xa))) rfl (et rfl) rfl) ?_
      refine W_v rfl rfl (V_ext (v := .int .i64 ((nmE (stT l xa xx) [xa]))) rfl (es rfl (et rfl)) rfl) ?_
      refine W_v rfl rfl (V_asg rfl (es rfl (et rfl))) ?_
      refine W_v rfl rfl (V_asg rfl (es rfl (et rfl))) ?_
      refine W_end ?_
      refine gen_Q (fun A26 hA26 => ?_)
      have hsz26 : SzN A26 152 := by rw [hA26]; infer_instance
      have hdf26 : A26.defers = [] := by rw [hA26]; simp only [df_put]; exact hdf18
      have l0_26 := lookE hA26 0 (es rfl (es rfl (es rfl (es rfl (es rfl (es rfl (es rfl (es rfl (es rfl l0_18)))))))))
      have l3_26 := lookE hA26 3 (es rfl (es rfl (es rfl (es rfl (es rfl (es rfl (es rfl (es rfl (es rfl l3_18)))))))))
      have l5_26 := lookE hA26 5 (es rfl (es rfl (es rfl (es rfl (es rfl (es rfl (es rfl (es rfl (es rfl l5_18)))))))))
      have l7_26 := lookE hA26 7 (es rfl (et rfl))
      have l8_26 := lookE hA26 8 (et rfl)
      clear hA26 hsz18 hdf18 l0_18 l3_18 l5_18 l31_18
      refine then_n (hK24 _ _ ?_)
      clear hK24
      refine wp_seq_k (fun K27 hK27 => ?_)
      refine wp_seq_k (fun K28 hK28 => ?_)
      -- region 7
      refine region_in ?_
      refine W_v rfl rfl (V_mov rfl l7_26) ?_
      refine W_v rfl rfl (V_fa (off' := 2) rfl (es rfl l3_26) Try.underlying48 rfl (by decide) rfl) ?_
      refine W_r rfl rfl (VR_ldC rfl (et rfl) (cell_box (v := .int .i64 (xx)) (hS25.obj 1 rfl hc2) rfl) Try.underlying3 rfl) ?_
      refine W_v rfl rfl (V_neq rfl (es rfl (es rfl (et rfl))) (et rfl)) ?_
      refine W_sure (c' := false) rfl rfl (V_mov rfl (et rfl)) (by rw [decide_eq_false_iff_not]; rw [g0.2.1]; simp) ?_
      refine W_v rfl (wanted_t rfl rfl (et rfl) (ez rfl)) (V_mov rfl (es rfl (es rfl (es rfl (es rfl (es rfl l8_26)))))) ?_
      refine W_v rfl (wanted_t rfl rfl (es rfl (et rfl)) (ez rfl)) (V_neq rfl (et rfl) rfl) ?_
      refine W_v rfl rfl (V_pickF rfl (es rfl (es rfl (et rfl))) (et rfl)) ?_
      refine W_sure (c' := false) rfl rfl (V_mov rfl (et rfl)) (by rw [decide_eq_false_iff_not]; rw [g0.1]; simp) ?_
      refine W_v rfl (wanted_t rfl rfl (et rfl) (ez rfl)) (V_mov rfl (es rfl (es rfl (es rfl (es rfl (es rfl (es rfl (es rfl (es rfl (es rfl l5_26)))))))))) ?_
      refine W_v rfl (wanted_t rfl rfl (es rfl (et rfl)) (ez rfl)) (V_lenS rfl (et rfl) (ow_at (hS25.chq 0 rfl hc_14)) Try.underlying22) ?_
      refine W_v rfl (wanted_t rfl rfl (es rfl (es rfl (et rfl))) (ez rfl)) (V_mov rfl (es rfl (es rfl (es rfl (es rfl (es rfl (es rfl (es rfl (es rfl (es rfl (es rfl (es rfl l0_26)))))))))))) ?_
      refine W_v rfl (wanted_t rfl rfl (es rfl (es rfl (es rfl (et rfl)))) (ez rfl)) (V_lenS rfl (et rfl) (sl_SlN h_rv.at) Try.underlying22) ?_
      refine W_v rfl (wanted_t rfl rfl (es rfl (es rfl (es rfl (es rfl (et rfl))))) (ez rfl)) (V_neq rfl (es rfl (es rfl (et rfl))) (et rfl)) ?_
      refine W_v rfl rfl (V_pickF rfl (es rfl (es rfl (es rfl (es rfl (es rfl (et rfl)))))) (et rfl)) ?_
      refine W_end ?_
      refine gen_Q (fun A29 hA29 => ?_)
      have hsz29 : SzN A29 152 := by rw [hA29]; infer_instance
      have hdf29 : A29.defers = [] := by rw [hA29]; simp only [df_put]; exact hdf26
      have l0_29 := lookE hA29 0 (es rfl (es rfl (es rfl (es rfl (es rfl (es rfl (es rfl (es rfl (es rfl (es rfl (es rfl (es rfl (es rfl (es rfl (es rfl l0_26)))))))))))))))
      have l3_29 := lookE hA29 3 (es rfl (es rfl (es rfl (es rfl (es rfl (es rfl (es rfl (es rfl (es rfl (es rfl (es rfl (es rfl (es rfl (es rfl (es rfl l3_26)))))))))))))))
      have l5_29 := lookE hA29 5 (es rfl (es rfl (es rfl (es rfl (es rfl (es rfl (es rfl (es rfl (es rfl (es rfl (es rfl (es rfl (es rfl (es rfl (es rfl l5_26)))))))))))))))
      have l59_29 := lookE hA29 59 (et rfl)
      clear hA29 hsz26 hdf26 l0_26 l3_26 l5_26 l7_26 l8_26
      refine then_n (hK28 _ _ ?_)
      clear hK28
      refine cond_not l59_29 (by rw [decide_eq_false_iff_not]; rw [s0.2.2.2.1]; simp) ?_
      refine wp_skip ?_
      refine then_n (hK27 _ _ ?_)
      clear hK27
      refine wp_seq_k (fun K30 hK30 => ?_)
      refine wp_seq_k (fun K31 hK31 => ?_)
      -- region 9
      refine region_in ?_
      refine W_v rfl rfl (V_asg rfl rfl) ?_
      refine W_end ?_
      refine gen_Q (fun A32 hA32 => ?_)
      have hsz32 : SzN A32 152 := by rw [hA32]; infer_instance
      have hdf32 : A32.defers = [] := by rw [hA32]; simp only [df_put]; exact hdf29
      have l0_32 := lookE hA32 0 (es rfl l0_29)
      have l3_32 := lookE hA32 3 (es rfl l3_29)
      have l5_32 := lookE hA32 5 (es rfl l5_29)
      have l9_32 := lookE hA32 9 (et rfl)
      clear hA32 hsz29 hdf29 l0_29 l3_29 l5_29 l59_29
      refine then_n (hK31 _ _ ?_)
      clear hK31
      refine wp_block ?_
      -- loop 10
      refine loopX (fun mz A' w' => SzN A' 152 ∧ A'.defers = [] ∧ (∃ (i : Nat), (mz = l.length - i) ∧ (i ≤ l.length) ∧ (EV A' (.tmp 9) = .int .i64 (i : Int)) ∧ (EV A' (.tmp 0) = EV A32 (.tmp 0)) ∧ (EV A' (.tmp 3) = EV A32 (.tmp 3)) ∧ (EV A' (.tmp 5) = EV A32 (.tmp 5)) ∧ (St w NoX [io .i64 v_14 (stT l xa xx), bx g2 48 #[.int .i64 (xa), .int .i64 (xb), .int .i64 (xx)]] w'))) (l.length - 0) ⟨hsz32, hdf32, 0, rfl, (by omega), ((l9_32).trans (by first | rfl | (simp; done) | (congr 1; omega))), rfl, rfl, rfl, (by subst hc_14 hc2; exact hS25)⟩ ?_
      clear hS25 hc_14 hc2
      rintro n33 A33 w33 ⟨hsz33, hdf33, i, hm33, hi, l9_33, u0_33, u3_33, u5_33, hS33⟩
      have l0_33 := u0_33.trans l0_32
      have l3_33 := u3_33.trans l3_32
      have l5_33 := u5_33.trans l5_32
      obtain ⟨c_33, c2_33, hc_33, hc2_33, hS33⟩ := gen2 hS33
      refine wp_seq_k (fun K34 hK34 => ?_)
      refine wp_seq_k (fun K35 hK35 => ?_)
      -- region 10
      refine region_in ?_
      refine W_v rfl rfl (V_mov rfl l9_33) ?_
      refine W_v rfl rfl (V_mov rfl (es rfl l0_33)) ?_
      refine W_v rfl rfl (V_lenS rfl (et rfl) (sl_SlN h_rv.at) Try.underlying22) ?_
      refine W_v rfl rfl (V_lss rfl (es rfl (es rfl (et rfl))) (et rfl)) ?_
      refine W_end ?_
      refine gen_Q (fun A36 hA36 => ?_)
      have hsz36 : SzN A36 152 := by rw [hA36]; infer_instance
      have hdf36 : A36.defers = [] := by rw [hA36]; simp only [df_put]; exact hdf33
      have l0_36 := lookE hA36 0 (es rfl (es rfl (es rfl (es rfl l0_33))))
      have l3_36 := lookE hA36 3 (es rfl (es rfl (es rfl (es rfl l3_33))))
      have l5_36 := lookE hA36 5 (es rfl (es rfl (es rfl (es rfl l5_33))))
      have l9_36 := lookE hA36 9 (es rfl (es rfl (es rfl (es rfl l9_33))))
      have l63_36 := lookE hA36 63 (et rfl)
      clear hA36 hsz33 hdf33 l9_33 l0_33 l3_33 l5_33
      refine then_n (hK35 _ _ ?_)
      clear hK35
      refine cond_dec l63_36 (fun c37 => ?_) (fun c37 => ?_)
      · skip
        refine wp_skip ?_
        refine then_n (hK34 _ _ ?_)
        clear hK34
        refine wp_seq_k (fun K38 hK38 => ?_)
        refine wp_block ?_
        refine wp_seq_k (fun K39 hK39 => ?_)
        -- region 12
        refine region_monoS 15 15 [] (by kernel_rfl) (by kernel_rfl) ?_
        refine D_v rfl rfl (V_mov rfl l9_36) rfl rfl ?_
        refine D_v rfl rfl (V_fa (off' := 0) rfl (es rfl l3_36) Try.underlying48 rfl (by decide) rfl) rfl rfl ?_
        refine D_r rfl rfl (by kernel_rfl) (fun sx hx hF => (VR_ldC rfl (et rfl) (cell_box (v := .int .i64 (xa)) ((hS33.grow hx).obj 1 rfl hc2_33) rfl) Try.underlying3 rfl)) rfl rfl ?_
        refine D_v rfl rfl (V_neq rfl (es rfl (es rfl (et rfl))) (et rfl)) rfl rfl ?_
        refine D_split rfl rfl (V_mov rfl (et rfl)) rfl rfl (fun c40 => ?_) (fun c40 => ?_)
        · skip
          refine D_v rfl (wanted_t rfl rfl (et rfl) (ez rfl)) (V_mov rfl (es rfl (es rfl (es rfl (es rfl (es rfl l5_36)))))) rfl rfl ?_
          refine D_v rfl (wanted_t rfl rfl (es rfl (et rfl)) (ez rfl)) (V_mov rfl (es rfl (es rfl (es rfl (es rfl (es rfl (es rfl l9_36))))))) rfl rfl ?_
          have k41 : i < (stT l xa xx).length := by first | omega | (simp only [List.length_cons, List.length_nil]; omega)
          obtain ⟨y41, hy41⟩ := get_some (xs := (stT l xa xx)) (k := i) k41
          obtain ⟨B41, O41, C41, hv41⟩ := (SlN.blk (ow_at (hS33.chq 0 rfl hc_33)) (by first | omega | (simp only [List.length_cons, List.length_nil]; omega)))
          refine D_v rfl (wanted_t rfl rfl (es rfl (es rfl (et rfl))) (ez rfl)) (V_ixS (off := O41 + i) 1 (i) rfl (es rfl (et rfl)) (et rfl) hv41 (by omega) k41 Try.underlying22 (by kernel_rfl) (congrArg _ (Nat.mul_one _))) rfl rfl ?_
          refine D_r rfl (wanted_t rfl rfl (es rfl (es rfl (es rfl (et rfl)))) (ez rfl)) (by kernel_rfl) (fun sx hx hF => (VR_ldC rfl (et rfl) ((ow_at ((hS33.grow hx).chq 0 rfl hc_33)).cell hv41 (map_get hy41)) Try.underlying3 rfl)) rfl rfl ?_
          refine D_v rfl (wanted_t rfl rfl (es rfl (es rfl (es rfl (es rfl (et rfl))))) (ez rfl)) (V_mov rfl (es rfl (es rfl (es rfl (es rfl (es rfl (es rfl (es rfl (es rfl (es rfl l0_36)))))))))) rfl rfl ?_
          refine D_v rfl (wanted_t rfl rfl (es rfl (es rfl (es rfl (es rfl (es rfl (et rfl)))))) (ez rfl)) (V_mov rfl (es rfl (es rfl (es rfl (es rfl (es rfl (es rfl (es rfl (es rfl (es rfl (es rfl l9_36))))))))))) rfl rfl ?_
          have k42 : i < l.length := by first | omega | (simp only [List.length_cons, List.length_nil]; omega)
          obtain ⟨y42, hy42⟩ := get_some (xs := l) (k := i) k42
          obtain ⟨B42, O42, C42, hv42⟩ := (SlN.blk (sl_SlN h_rv.at) (by first | omega | (simp only [List.length_cons, List.length_nil]; omega)))
          refine D_v rfl (wanted_t rfl rfl (es rfl (es rfl (es rfl (es rfl (es rfl (es rfl (et rfl))))))) (ez rfl)) (V_ixS (off := O42 + i) 1 (i) rfl (es rfl (et rfl)) (et rfl) hv42 (by omega) k42 Try.underlying22 (by kernel_rfl) (congrArg _ (Nat.mul_one _))) rfl rfl ?_
          refine D_r rfl (wanted_t rfl rfl (es rfl (es rfl (es rfl (es rfl (es rfl (es rfl (es rfl (et rfl)))))))) (ez rfl)) (by kernel_rfl) (fun sx hx hF => (VR_ldC rfl (et rfl) ((sl_SlN ((hS33.grow hx).ro h_rv)).cell hv42 (map_get hy42)) Try.underlying3 rfl)) rfl rfl ?_
          refine D_v rfl (wanted_t rfl rfl (es rfl (es rfl (es rfl (es rfl (es rfl (es rfl (es rfl (es rfl (et rfl))))))))) (ez rfl)) (V_neq rfl (es rfl (es rfl (es rfl (es rfl (et rfl))))) (et rfl)) rfl rfl ?_
          refine D_v rfl rfl (V_pickT rfl (es rfl (es rfl (es rfl (es rfl (es rfl (es rfl (es rfl (es rfl (es rfl (et rfl)))))))))) (et rfl)) rfl rfl ?_
          refine ZS_none hS33 (Nat.le_refl _) (Nat.le_refl _) (fun s43 hJ43 hL43 hF43 => ?_)
          have hS43 := hJ43.st; clear hF43 hJ43 hL43
          generalize s43.1 = w43 at *
          replace hS43 : St w NoX [c_33, c2_33] w43 := hS43
          refine gen_Q (fun A44 hA44 => ?_)
          have hsz44 : SzN A44 152 := by rw [hA44]; infer_instance
          have hdf44 : A44.defers = [] := by rw [hA44]; simp only [df_put]; exact hdf36
          have l0_44 := lookE hA44 0 (es rfl (es rfl (es rfl (es rfl (es rfl (es rfl (es rfl (es rfl (es rfl (es rfl (es rfl (es rfl (es rfl (es rfl (es rfl l0_36)))))))))))))))
          have l3_44 := lookE hA44 3 (es rfl (es rfl (es rfl (es rfl (es rfl (es rfl (es rfl (es rfl (es rfl (es rfl (es rfl (es rfl (es rfl (es rfl (es rfl l3_36)))))))))))))))
          have l5_44 := lookE hA44 5 (es rfl (es rfl (es rfl (es rfl (es rfl (es rfl (es rfl (es rfl (es rfl (es rfl (es rfl (es rfl (es rfl (es rfl (es rfl l5_36)))))))))))))))
          have l9_44 := lookE hA44 9 (es rfl (es rfl (es rfl (es rfl (es rfl (es rfl (es rfl (es rfl (es rfl (es rfl (es rfl (es rfl (es rfl (es rfl (es rfl l9_36)))))))))))))))
          have l71_44 := lookE hA44 71 (es rfl (es rfl (es rfl (es rfl (es rfl (es rfl (es rfl (es rfl (es rfl (et rfl))))))))))
          have l72_44 := lookE hA44 72 (es rfl (es rfl (es rfl (es rfl (es rfl (es rfl (es rfl (es rfl (et rfl)))))))))
          have l73_44 := lookE hA44 73 (es rfl (es rfl (es rfl (es rfl (es rfl (es rfl (es rfl (et rfl))))))))
          have l74_44 := lookE hA44 74 (es rfl (es rfl (es rfl (es rfl (es rfl (es rfl (et rfl)))))))
          have l75_44 := lookE hA44 75 (es rfl (es rfl (es rfl (es rfl (es rfl (et rfl))))))
          have l76_44 := lookE hA44 76 (es rfl (es rfl (es rfl (es rfl (et rfl)))))
          have l77_44 := lookE hA44 77 (es rfl (es rfl (es rfl (et rfl))))
          have l78_44 := lookE hA44 78 (es rfl (es rfl (et rfl)))
          have l79_44 := lookE hA44 79 (es rfl (et rfl))
          have l80_44 := lookE hA44 80 (et rfl)
          clear hA44 hsz36 hdf36 l0_36 l3_36 l5_36 l9_36 l63_36
          refine then_n (hK39 _ _ ?_)
          clear hK39
          refine cond_not l80_44 (by rw [decide_eq_false_iff_not]; exact fun h => h (st_other h0 c40 hy41 hy42)) ?_
          refine wp_skip ?_
          refine inb_n ?_
          refine then_n (hK38 _ _ ?_)
          clear hK38
          -- region 11
          refine region_in ?_
          refine W_v rfl rfl (V_mov rfl l9_44) ?_
          refine W_v rfl rfl (V_add rfl (et rfl) rfl (by omega) (by omega)) ?_
          refine W_v rfl rfl (V_asg rfl (et rfl)) ?_
          refine W_end ?_
          refine gen_Q (fun A45 hA45 => ?_)
          have hsz45 : SzN A45 152 := by rw [hA45]; infer_instance
          have hdf45 : A45.defers = [] := by rw [hA45]; simp only [df_put]; exact hdf44
          have l0_45 := lookE hA45 0 (es rfl (es rfl (es rfl l0_44)))
          have l3_45 := lookE hA45 3 (es rfl (es rfl (es rfl l3_44)))
          have l5_45 := lookE hA45 5 (es rfl (es rfl (es rfl l5_44)))
          have l9_45 := lookE hA45 9 (et rfl)
          have l71_45 := lookE hA45 71 (es rfl (es rfl (es rfl l71_44)))
          have l72_45 := lookE hA45 72 (es rfl (es rfl (es rfl l72_44)))
          have l73_45 := lookE hA45 73 (es rfl (es rfl (es rfl l73_44)))
          have l74_45 := lookE hA45 74 (es rfl (es rfl (es rfl l74_44)))
          have l75_45 := lookE hA45 75 (es rfl (es rfl (es rfl l75_44)))
          have l76_45 := lookE hA45 76 (es rfl (es rfl (es rfl l76_44)))
          have l77_45 := lookE hA45 77 (es rfl (es rfl (es rfl l77_44)))
          have l78_45 := lookE hA45 78 (es rfl (es rfl (es rfl l78_44)))
          have l79_45 := lookE hA45 79 (es rfl (es rfl (es rfl l79_44)))
          clear hA45 hsz44 hdf44 l0_44 l3_44 l5_44 l9_44 l71_44 l72_44 l73_44 l74_44 l75_44 l76_44 l77_44 l78_44 l79_44 l80_44
          refine then_n ⟨l.length - (i + 1), by simp only [hm33]; omega, hsz45, hdf45, (i + 1), rfl, (by omega), ((l9_45).trans (by first | rfl | (simp; done) | (congr 1; omega))), ((l0_45).trans l0_32.symm), ((l3_45).trans l3_32.symm), ((l5_45).trans l5_32.symm), (by subst hc_33 hc2_33; exact hS43)⟩
        · skip
          refine D_off rfl (wanted_f rfl rfl (et rfl) (ez rfl) rfl) rfl ?_
          refine D_off rfl (wanted_f rfl rfl (es rfl (et rfl)) (ez rfl) rfl) rfl ?_
          refine D_off rfl (wanted_f rfl rfl (es rfl (es rfl (et rfl))) (ez rfl) rfl) rfl ?_
          refine D_off rfl (wanted_f rfl rfl (es rfl (es rfl (es rfl (et rfl)))) (ez rfl) rfl) rfl ?_
          refine D_off rfl (wanted_f rfl rfl (es rfl (es rfl (es rfl (es rfl (et rfl))))) (ez rfl) rfl) rfl ?_
          refine D_off rfl (wanted_f rfl rfl (es rfl (es rfl (es rfl (es rfl (es rfl (et rfl)))))) (ez rfl) rfl) rfl ?_
          refine D_off rfl (wanted_f rfl rfl (es rfl (es rfl (es rfl (es rfl (es rfl (es rfl (et rfl))))))) (ez rfl) rfl) rfl ?_
          refine D_off rfl (wanted_f rfl rfl (es rfl (es rfl (es rfl (es rfl (es rfl (es rfl (es rfl (et rfl)))))))) (ez rfl) rfl) rfl ?_
          refine D_off rfl (wanted_f rfl rfl (es rfl (es rfl (es rfl (es rfl (es rfl (es rfl (es rfl (es rfl (et rfl))))))))) (ez rfl) rfl) rfl ?_
          refine D_v rfl rfl (V_pickF rfl (es rfl (es rfl (es rfl (es rfl (es rfl (es rfl (es rfl (es rfl (es rfl (et rfl)))))))))) rfl) rfl rfl ?_
          refine ZS_none hS33 (Nat.le_refl _) (Nat.le_refl _) (fun s46 hJ46 hL46 hF46 => ?_)
          have hS46 := hJ46.st; clear hF46 hJ46 hL46
          generalize s46.1 = w46 at *
          replace hS46 : St w NoX [c_33, c2_33] w46 := hS46
          refine gen_Q (fun A47 hA47 => ?_)
          have hsz47 : SzN A47 152 := by rw [hA47]; infer_instance
          have hdf47 : A47.defers = [] := by rw [hA47]; simp only [df_put]; exact hdf36
          have l0_47 := lookE hA47 0 (es rfl (es rfl (es rfl (es rfl (es rfl (es rfl (es rfl (es rfl (es rfl (es rfl (es rfl (es rfl (es rfl (es rfl (es rfl l0_36)))))))))))))))
          have l3_47 := lookE hA47 3 (es rfl (es rfl (es rfl (es rfl (es rfl (es rfl (es rfl (es rfl (es rfl (es rfl (es rfl (es rfl (es rfl (es rfl (es rfl l3_36)))))))))))))))
          have l5_47 := lookE hA47 5 (es rfl (es rfl (es rfl (es rfl (es rfl (es rfl (es rfl (es rfl (es rfl (es rfl (es rfl (es rfl (es rfl (es rfl (es rfl l5_36)))))))))))))))
          have l9_47 := lookE hA47 9 (es rfl (es rfl (es rfl (es rfl (es rfl (es rfl (es rfl (es rfl (es rfl (es rfl (es rfl (es rfl (es rfl (es rfl (es rfl l9_36)))))))))))))))
          have l71_47 := lookE hA47 71 (es rfl (es rfl (es rfl (es rfl (es rfl (es rfl (es rfl (es rfl (es rfl (et rfl))))))))))
          have l72_47 := lookE hA47 72 (es rfl (es rfl (es rfl (es rfl (es rfl (es rfl (es rfl (es rfl (et rfl)))))))))
          have l73_47 := lookE hA47 73 (es rfl (es rfl (es rfl (es rfl (es rfl (es rfl (es rfl (et rfl))))))))
          have l74_47 := lookE hA47 74 (es rfl (es rfl (es rfl (es rfl (es rfl (es rfl (et rfl)))))))
          have l75_47 := lookE hA47 75 (es rfl (es rfl (es rfl (es rfl (es rfl (et rfl))))))
          have l76_47 := lookE hA47 76 (es rfl (es rfl (es rfl (es rfl (et rfl)))))
          have l77_47 := lookE hA47 77 (es rfl (es rfl (es rfl (et rfl))))
          have l78_47 := lookE hA47 78 (es rfl (es rfl (et rfl)))
          have l79_47 := lookE hA47 79 (es rfl (et rfl))
          have l80_47 := lookE hA47 80 (et rfl)
          clear hA47 hsz36 hdf36 l0_36 l3_36 l5_36 l9_36 l63_36
          refine then_n (hK39 _ _ ?_)
          clear hK39
          refine cond_f l80_47 ?_
          refine wp_skip ?_
          refine inb_n ?_
          refine then_n (hK38 _ _ ?_)
          clear hK38
          -- region 11
          refine region_in ?_
          refine W_v rfl rfl (V_mov rfl l9_47) ?_
          refine W_v rfl rfl (V_add rfl (et rfl) rfl (by omega) (by omega)) ?_
          refine W_v rfl rfl (V_asg rfl (et rfl)) ?_
          refine W_end ?_
          refine gen_Q (fun A48 hA48 => ?_)
          have hsz48 : SzN A48 152 := by rw [hA48]; infer_instance
          have hdf48 : A48.defers = [] := by rw [hA48]; simp only [df_put]; exact hdf47
          have l0_48 := lookE hA48 0 (es rfl (es rfl (es rfl l0_47)))
          have l3_48 := lookE hA48 3 (es rfl (es rfl (es rfl l3_47)))
          have l5_48 := lookE hA48 5 (es rfl (es rfl (es rfl l5_47)))
          have l9_48 := lookE hA48 9 (et rfl)
          have l71_48 := lookE hA48 71 (es rfl (es rfl (es rfl l71_47)))
          have l72_48 := lookE hA48 72 (es rfl (es rfl (es rfl l72_47)))
          have l73_48 := lookE hA48 73 (es rfl (es rfl (es rfl l73_47)))
          have l74_48 := lookE hA48 74 (es rfl (es rfl (es rfl l74_47)))
          have l75_48 := lookE hA48 75 (es rfl (es rfl (es rfl l75_47)))
          have l76_48 := lookE hA48 76 (es rfl (es rfl (es rfl l76_47)))
          have l77_48 := lookE hA48 77 (es rfl (es rfl (es rfl l77_47)))
          have l78_48 := lookE hA48 78 (es rfl (es rfl (es rfl l78_47)))
          have l79_48 := lookE hA48 79 (es rfl (es rfl (es rfl l79_47)))
          clear hA48 hsz47 hdf47 l0_47 l3_47 l5_47 l9_47 l71_47 l72_47 l73_47 l74_47 l75_47 l76_47 l77_47 l78_47 l79_47 l80_47
          refine then_n ⟨l.length - (i + 1), by simp only [hm33]; omega, hsz48, hdf48, (i + 1), rfl, (by omega), ((l9_48).trans (by first | rfl | (simp; done) | (congr 1; omega))), ((l0_48).trans l0_32.symm), ((l3_48).trans l3_32.symm), ((l5_48).trans l5_32.symm), (by subst hc_33 hc2_33; exact hS46)⟩
      · skip
        refine wp_exit ?_
        refine then_exit ?_
        refine then_exit ?_
        refine inb_hit ?_
        refine then_n (hK30 _ _ ?_)
        clear hK30
        refine wp_seq_k (fun K49 hK49 => ?_)
        -- region 14
        refine region_in ?_
        refine W_v rfl rfl (V_mov rfl l5_36) ?_
        refine W_v rfl rfl (V_fa (off' := 1) rfl (es rfl l3_36) Try.underlying48 rfl (by decide) rfl) ?_
        refine W_r rfl rfl (VR_ldC rfl (et rfl) (cell_box (v := .int .i64 (xb)) (hS33.obj 1 rfl hc2_33) rfl) Try.underlying3 rfl) ?_
        refine W_v rfl rfl (V_fa (off' := 0) rfl (es rfl (es rfl (es rfl l3_36))) Try.underlying48 rfl (by decide) rfl) ?_
        refine W_r rfl rfl (VR_ldC rfl (et rfl) (cell_box (v := .int .i64 (xa)) (hS33.obj 1 rfl hc2_33) rfl) Try.underlying3 rfl) ?_
        refine W_call rfl rfl rfl Try.func25 (by kernel_rfl) rfl (args3 (es rfl (es rfl (es rfl (es rfl (et rfl))))) (es rfl (es rfl (et rfl))) (et rfl)) (kMv_c (a := xb) (b := xa) (hS33.chC 0 rfl hc_33).own ) ?_
        rintro _ w50 ⟨v_50, rfl, hP50⟩
        refine ⟨_, rfl, ?_⟩
        obtain ⟨c_50, hc_50, hP50⟩ := gen1 hP50
        have hS50 := hS33.join hP50
        replace hS50 : St w NoX [c_50, c_33, c2_33] w50 := hS50
        refine W_v rfl rfl (V_mov rfl (et rfl)) ?_
        refine W_v rfl rfl (V_ext (v := v_50) rfl (et rfl) rfl) ?_
        refine W_v rfl rfl (V_ext (v := .int .i64 ((nmE (stT l xa xx) [xb, xa]))) rfl (es rfl (et rfl)) rfl) ?_
        refine W_v rfl rfl (V_asg rfl (es rfl (et rfl))) ?_
        refine W_v rfl rfl (V_asg rfl (es rfl (et rfl))) ?_
        refine W_end ?_
        refine gen_Q (fun A51 hA51 => ?_)
        have hsz51 : SzN A51 152 := by rw [hA51]; infer_instance
        have hdf51 : A51.defers = [] := by rw [hA51]; simp only [df_put]; exact hdf36
        have l0_51 := lookE hA51 0 (es rfl (es rfl (es rfl (es rfl (es rfl (es rfl (es rfl (es rfl (es rfl (es rfl (es rfl l0_36)))))))))))
        have l3_51 := lookE hA51 3 (es rfl (es rfl (es rfl (es rfl (es rfl (es rfl (es rfl (es rfl (es rfl (es rfl (es rfl l3_36)))))))))))
        have l10_51 := lookE hA51 10 (es rfl (et rfl))
        have l11_51 := lookE hA51 11 (et rfl)
        clear hA51 hsz36 hdf36 l0_36 l3_36 l5_36 l9_36 l63_36
        have hS52 : St w NoX [c_50, c2_33] w50 := hS50.sel [0, 2] (by decide) rfl
        refine then_n (hK49 _ _ ?_)
        clear hK49
        refine wp_seq_k (fun K53 hK53 => ?_)
        refine wp_seq_k (fun K54 hK54 => ?_)
        -- region 15
        refine region_in ?_
        refine W_v rfl rfl (V_mov rfl l11_51) ?_
        refine W_v rfl rfl (V_neq rfl (et rfl) rfl) ?_
        refine W_end ?_
        refine gen_Q (fun A55 hA55 => ?_)
        have hsz55 : SzN A55 152 := by rw [hA55]; infer_instance
        have hdf55 : A55.defers = [] := by rw [hA55]; simp only [df_put]; exact hdf51
        have l0_55 := lookE hA55 0 (es rfl (es rfl l0_51))
        have l3_55 := lookE hA55 3 (es rfl (es rfl l3_51))
        have l10_55 := lookE hA55 10 (es rfl (es rfl l10_51))
        have l11_55 := lookE hA55 11 (es rfl (es rfl l11_51))
        have l91_55 := lookE hA55 91 (et rfl)
        clear hA55 hsz51 hdf51 l0_51 l3_51 l10_51 l11_51
        refine then_n (hK54 _ _ ?_)
        clear hK54
        refine cond_dec l91_55 (fun c56 => ?_) (fun c56 => ?_)
        · skip
          refine wp_seq_k (fun K57 hK57 => ?_)
          -- region 16
          refine region_in ?_
          refine W_v rfl rfl (V_fa (off' := 1) rfl l3_55 Try.underlying48 rfl (by decide) rfl) ?_
          refine W_r rfl rfl (VR_ldC rfl (et rfl) (cell_box (v := .int .i64 (xb)) (hS52.obj 1 rfl hc2_33) rfl) Try.underlying3 rfl) ?_
          refine W_v rfl rfl (V_lss rfl (et rfl) rfl) ?_
          refine W_split rfl rfl (V_mov rfl (et rfl)) (fun c58 => ?_) (fun c58 => ?_)
          · skip
            refine W_off rfl (wanted_f rfl rfl (et rfl) (ez rfl) rfl) ?_
            refine W_off rfl (wanted_f rfl rfl (es rfl (et rfl)) (ez rfl) rfl) ?_
            refine W_off rfl (wanted_f rfl rfl (es rfl (es rfl (et rfl))) (ez rfl) rfl) ?_
            refine W_off rfl (wanted_f rfl rfl (es rfl (es rfl (es rfl (et rfl)))) (ez rfl) rfl) ?_
            refine W_off rfl (wanted_f rfl rfl (es rfl (es rfl (es rfl (es rfl (et rfl))))) (ez rfl) rfl) ?_
            refine W_v rfl rfl (V_pickT rfl (es rfl (es rfl (es rfl (es rfl (es rfl (et rfl)))))) rfl) ?_
            refine W_v rfl rfl (V_mov rfl (et rfl)) ?_
            refine W_v rfl (wanted_t rfl rfl (et rfl) (ez rfl)) (V_mov rfl (es rfl (es rfl (es rfl (es rfl (es rfl (es rfl (es rfl (es rfl (es rfl (es rfl (es rfl l11_55)))))))))))) ?_
            refine W_v rfl (wanted_t rfl rfl (es rfl (et rfl)) (ez rfl)) (V_eql rfl (et rfl) rfl) ?_
            refine W_v rfl rfl (V_pickT rfl (es rfl (es rfl (et rfl))) (et rfl)) ?_
            refine W_sure (c' := true) rfl rfl (V_mov rfl (et rfl)) (by rw [decide_eq_true_eq]; exact (nmE_two s0.2.2.1 (by rw [s0.2.2.2.1]; exact s0.2.2.2.2.1)).2 (by assumption)) ?_
            refine W_call rfl (wanted_t rfl rfl (et rfl) (ez rfl)) rfl Try.func12 (by kernel_rfl) rfl (args0) (shw_c  ) ?_
            rintro _ w59 ⟨rfl, hP59⟩
            refine ⟨_, rfl, ?_⟩
            have hS59 := hS52.join hP59
            replace hS59 : St w NoX [c_50, c2_33] w59 := hS59
            refine W_v rfl rfl (V_pickT rfl (es rfl (et rfl)) (et rfl)) ?_
            refine W_v rfl rfl (V_asg rfl (et rfl)) ?_
            refine W_end ?_
            refine gen_Q (fun A60 hA60 => ?_)
            have hsz60 : SzN A60 152 := by rw [hA60]; infer_instance
            have hdf60 : A60.defers = [] := by rw [hA60]; simp only [df_put]; exact hdf55
            have l4_60 := lookE hA60 4 (et rfl)
            clear hA60 hsz55 hdf55 l0_55 l3_55 l10_55 l11_55 l91_55
            have hS61 : St w NoX [] w59 := hS59.sel [] (by decide) rfl
            refine then_n (hK57 _ _ ?_)
            clear hK57
            refine wp_ret ?_
            refine then_ret ?_
            refine ret_in (results_1 Try.results10 (rv_tmp l4_60)) hdf60 ?_
            -- leaf FFFTT
            exact ⟨rfl, hS61.fin0⟩
          · skip
            refine W_v rfl (wanted_t rfl rfl (et rfl) (ez rfl)) (V_fa (off' := 1) rfl (es rfl (es rfl (es rfl (es rfl l3_55)))) Try.underlying48 rfl (by decide) rfl) ?_
            refine W_r rfl (wanted_t rfl rfl (es rfl (et rfl)) (ez rfl)) (VR_ldC rfl (et rfl) (cell_box (v := .int .i64 (xb)) (hS52.obj 1 rfl hc2_33) rfl) Try.underlying3 rfl) ?_
            refine W_v rfl (wanted_t rfl rfl (es rfl (es rfl (et rfl))) (ez rfl)) (V_mov rfl (es rfl (es rfl (es rfl (es rfl (es rfl (es rfl l0_55))))))) ?_
            refine W_v rfl (wanted_t rfl rfl (es rfl (es rfl (es rfl (et rfl)))) (ez rfl)) (V_lenS rfl (et rfl) (sl_SlN h_rv.at) Try.underlying22) ?_
            refine W_v rfl (wanted_t rfl rfl (es rfl (es rfl (es rfl (es rfl (et rfl))))) (ez rfl)) (V_geq rfl (es rfl (es rfl (et rfl))) (et rfl)) ?_
            refine W_v rfl rfl (V_pickF rfl (es rfl (es rfl (es rfl (es rfl (es rfl (et rfl)))))) (et rfl)) ?_
            refine W_sure (c' := true) rfl rfl (V_mov rfl (et rfl)) (by rw [decide_eq_true_eq]; have hq := (nmE_two (b := xb) s0.2.2.1 (by rw [s0.2.2.2.1]; exact s0.2.2.2.2.1)).1; rw [s0.2.2.2.1] at hq; omega) ?_
            refine W_v rfl (wanted_t rfl rfl (et rfl) (ez rfl)) (V_mov rfl (es rfl (es rfl (es rfl (es rfl (es rfl (es rfl (es rfl (es rfl (es rfl (es rfl (es rfl l11_55)))))))))))) ?_
            refine W_v rfl (wanted_t rfl rfl (es rfl (et rfl)) (ez rfl)) (V_eql rfl (et rfl) rfl) ?_
            refine W_v rfl rfl (V_pickT rfl (es rfl (es rfl (et rfl))) (et rfl)) ?_
            refine W_sure (c' := true) rfl rfl (V_mov rfl (et rfl)) (by rw [decide_eq_true_eq]; exact (nmE_two s0.2.2.1 (by rw [s0.2.2.2.1]; exact s0.2.2.2.2.1)).2 (by assumption)) ?_
            refine W_call rfl (wanted_t rfl rfl (et rfl) (ez rfl)) rfl Try.func12 (by kernel_rfl) rfl (args0) (shw_c  ) ?_
            rintro _ w62 ⟨rfl, hP62⟩
            refine ⟨_, rfl, ?_⟩
            have hS62 := hS52.join hP62
            replace hS62 : St w NoX [c_50, c2_33] w62 := hS62
            refine W_v rfl rfl (V_pickT rfl (es rfl (et rfl)) (et rfl)) ?_
            refine W_v rfl rfl (V_asg rfl (et rfl)) ?_
            refine W_end ?_
            refine gen_Q (fun A63 hA63 => ?_)
            have hsz63 : SzN A63 152 := by rw [hA63]; infer_instance
            have hdf63 : A63.defers = [] := by rw [hA63]; simp only [df_put]; exact hdf55
            have l4_63 := lookE hA63 4 (et rfl)
            clear hA63 hsz55 hdf55 l0_55 l3_55 l10_55 l11_55 l91_55
            have hS64 : St w NoX [] w62 := hS62.sel [] (by decide) rfl
            refine then_n (hK57 _ _ ?_)
            clear hK57
            refine wp_ret ?_
            refine then_ret ?_
            refine ret_in (results_1 Try.results10 (rv_tmp l4_63)) hdf63 ?_
            -- leaf FFFTF
            exact ⟨rfl, hS64.fin0⟩
        · skip
          have h1 : nmE (stT l xa xx) [xb, xa] = 0 := by simpa using c56
          have m0 := mv0 h1
          have c0 := st_get m0.2.2.2.2
          refine wp_skip ?_
          refine then_n (hK53 _ _ ?_)
          clear hK53
          refine wp_seq_k (fun K65 hK65 => ?_)
          -- region 17
          refine region_in ?_
          refine W_v rfl rfl (V_mov rfl l10_55) ?_
          refine W_v rfl rfl (V_fa (off' := 0) rfl (es rfl l3_55) Try.underlying48 rfl (by decide) rfl) ?_
          refine W_r rfl rfl (VR_ldC rfl (et rfl) (cell_box (v := .int .i64 (xa)) (hS52.obj 1 rfl hc2_33) rfl) Try.underlying3 rfl) ?_
          refine W_v rfl rfl (V_fa (off' := 1) rfl (es rfl (es rfl (es rfl l3_55))) Try.underlying48 rfl (by decide) rfl) ?_
          refine W_r rfl rfl (VR_ldC rfl (et rfl) (cell_box (v := .int .i64 (xb)) (hS52.obj 1 rfl hc2_33) rfl) Try.underlying3 rfl) ?_
          refine W_call rfl rfl rfl Try.func33 (by kernel_rfl) rfl (args3 (es rfl (es rfl (es rfl (es rfl (et rfl))))) (es rfl (es rfl (et rfl))) (et rfl)) (kAl_c (a := xa) (b := xb) (hS52.chC 0 rfl hc_50).own ) ?_
          rintro _ w66 ⟨rfl, hP66⟩
          refine ⟨_, rfl, ?_⟩
          have hS66 := hS52.join hP66
          replace hS66 : St w NoX [c_50, c2_33] w66 := hS66
          refine W_v rfl rfl (V_mov rfl (et rfl)) ?_
          refine W_v rfl rfl (V_ext (v := .bool ((alB (mvT (stT l xa xx) xb xa) xa xb))) rfl (et rfl) rfl) ?_
          refine W_v rfl rfl (V_ext (v := .int .i64 ((nmE (mvT (stT l xa xx) xb xa) [xa, xb]))) rfl (es rfl (et rfl)) rfl) ?_
          refine W_v rfl rfl (V_asg rfl (es rfl (et rfl))) ?_
          refine W_v rfl rfl (V_asg rfl (es rfl (et rfl))) ?_
          refine W_end ?_
          refine gen_Q (fun A67 hA67 => ?_)
          have hsz67 : SzN A67 152 := by rw [hA67]; infer_instance
          have hdf67 : A67.defers = [] := by rw [hA67]; simp only [df_put]; exact hdf55
          have l3_67 := lookE hA67 3 (es rfl (es rfl (es rfl (es rfl (es rfl (es rfl (es rfl (es rfl (es rfl (es rfl (es rfl l3_55)))))))))))
          have l10_67 := lookE hA67 10 (es rfl (es rfl (es rfl (es rfl (es rfl (es rfl (es rfl (es rfl (es rfl (es rfl (es rfl l10_55)))))))))))
          have l12_67 := lookE hA67 12 (es rfl (et rfl))
          have l13_67 := lookE hA67 13 (et rfl)
          clear hA67 hsz55 hdf55 l0_55 l3_55 l10_55 l11_55 l91_55
          refine then_n (hK65 _ _ ?_)
          clear hK65
          refine wp_seq_k (fun K68 hK68 => ?_)
          -- region 18
          refine region_in ?_
          refine W_v rfl rfl (V_mov rfl l10_67) ?_
          refine W_v rfl rfl (V_fa (off' := 1) rfl (es rfl l3_67) Try.underlying48 rfl (by decide) rfl) ?_
          refine W_r rfl rfl (VR_ldC rfl (et rfl) (cell_box (v := .int .i64 (xb)) (hS66.obj 1 rfl hc2_33) rfl) Try.underlying3 rfl) ?_
          refine W_call rfl rfl rfl Try.func31 (by kernel_rfl) rfl (args2 (es rfl (es rfl (et rfl))) (et rfl)) (kCl_c (a := xb) (hS66.chC 0 rfl hc_50).own ) ?_
          rintro _ w69 ⟨v_69, rfl, hP69⟩
          refine ⟨_, rfl, ?_⟩
          obtain ⟨c_69, hc_69, hP69⟩ := gen1 hP69
          have hS69 := hS66.join hP69
          replace hS69 : St w NoX [c_69, c_50, c2_33] w69 := hS69
          refine W_v rfl rfl (V_mov rfl (et rfl)) ?_
          refine W_v rfl rfl (V_ext (v := v_69) rfl (et rfl) rfl) ?_
          refine W_v rfl rfl (V_ext (v := .int .i64 ((stE (mvT (stT l xa xx) xb xa) xb 0))) rfl (es rfl (et rfl)) rfl) ?_
          refine W_v rfl rfl (V_asg rfl (es rfl (et rfl))) ?_
          refine W_v rfl rfl (V_asg rfl (es rfl (et rfl))) ?_
          refine W_end ?_
          refine gen_Q (fun A70 hA70 => ?_)
          have hsz70 : SzN A70 152 := by rw [hA70]; infer_instance
          have hdf70 : A70.defers = [] := by rw [hA70]; simp only [df_put]; exact hdf67
          have l3_70 := lookE hA70 3 (es rfl (es rfl (es rfl (es rfl (es rfl (es rfl (es rfl (es rfl (es rfl l3_67)))))))))
          have l12_70 := lookE hA70 12 (es rfl (es rfl (es rfl (es rfl (es rfl (es rfl (es rfl (es rfl (es rfl l12_67)))))))))
          have l13_70 := lookE hA70 13 (es rfl (es rfl (es rfl (es rfl (es rfl (es rfl (es rfl (es rfl (es rfl l13_67)))))))))
          have l14_70 := lookE hA70 14 (es rfl (et rfl))
          have l15_70 := lookE hA70 15 (et rfl)
          clear hA70 hsz67 hdf67 l3_67 l10_67 l12_67 l13_67
          have hS71 : St w NoX [c_69, c2_33] w69 := hS69.sel [0, 2] (by decide) rfl
          refine then_n (hK68 _ _ ?_)
          clear hK68
          refine wp_seq_k (fun K72 hK72 => ?_)
          -- region 19
          refine region_in ?_
          refine W_v rfl rfl (V_mov rfl l14_70) ?_
          refine W_v rfl rfl (V_fa (off' := 1) rfl (es rfl l3_70) Try.underlying48 rfl (by decide) rfl) ?_
          refine W_r rfl rfl (VR_ldC rfl (et rfl) (cell_box (v := .int .i64 (xb)) (hS71.obj 1 rfl hc2_33) rfl) Try.underlying3 rfl) ?_
          refine W_call rfl rfl rfl Try.func27 (by kernel_rfl) rfl (args2 (es rfl (es rfl (et rfl))) (et rfl)) (kGt_c (a := xb) (hS71.chC 0 rfl hc_69).own ) ?_
          rintro _ w73 ⟨rfl, hP73⟩
          refine ⟨_, rfl, ?_⟩
          have hS73 := hS71.join hP73
          replace hS73 : St w NoX [c_69, c2_33] w73 := hS73
          refine W_v rfl rfl (V_mov rfl (et rfl)) ?_
          refine W_v rfl rfl (V_ext (v := .int .i64 ((gtN (stT (mvT (stT l xa xx) xb xa) xb 0) xb))) rfl (et rfl) rfl) ?_
          refine W_v rfl rfl (V_ext (v := .int .i64 ((nmE (stT (mvT (stT l xa xx) xb xa) xb 0) [xb]))) rfl (es rfl (et rfl)) rfl) ?_
          refine W_v rfl rfl (V_asg rfl (es rfl (et rfl))) ?_
          refine W_v rfl rfl (V_asg rfl (es rfl (et rfl))) ?_
          refine W_end ?_
          refine gen_Q (fun A74 hA74 => ?_)
          have hsz74 : SzN A74 152 := by rw [hA74]; infer_instance
          have hdf74 : A74.defers = [] := by rw [hA74]; simp only [df_put]; exact hdf70
          have l12_74 := lookE hA74 12 (es rfl (es rfl (es rfl (es rfl (es rfl (es rfl (es rfl (es rfl (es rfl l12_70)))))))))
          have l13_74 := lookE hA74 13 (es rfl (es rfl (es rfl (es rfl (es rfl (es rfl (es rfl (es rfl (es rfl l13_70)))))))))
          have l15_74 := lookE hA74 15 (es rfl (es rfl (es rfl (es rfl (es rfl (es rfl (es rfl (es rfl (es rfl l15_70)))))))))
          have l16_74 := lookE hA74 16 (es rfl (et rfl))
          have l17_74 := lookE hA74 17 (et rfl)
          clear hA74 hsz70 hdf70 l3_70 l12_70 l13_70 l14_70 l15_70
          have hS75 : St w NoX [] w73 := hS73.sel [] (by decide) rfl
          refine then_n (hK72 _ _ ?_)
          clear hK72
          refine wp_seq_k (fun K76 hK76 => ?_)
          -- region 20
          refine region_in ?_
          refine W_v rfl rfl (V_mov rfl l12_74) ?_
          refine W_sure (c' := true) rfl rfl (V_mov rfl (et rfl)) (by exact m0.2.2.2.1) ?_
          refine W_v rfl (wanted_t rfl rfl (et rfl) (ez rfl)) (V_mov rfl (es rfl (es rfl l13_74))) ?_
          refine W_v rfl (wanted_t rfl rfl (es rfl (et rfl)) (ez rfl)) (V_eql rfl (et rfl) rfl) ?_
          refine W_v rfl rfl (V_pickT rfl (es rfl (es rfl (et rfl))) (et rfl)) ?_
          refine W_sure (c' := true) rfl rfl (V_mov rfl (et rfl)) (by rw [decide_eq_true_eq]; first | exact m0.2.2.1 | exact c0.1) ?_
          refine W_v rfl (wanted_t rfl rfl (et rfl) (ez rfl)) (V_mov rfl (es rfl (es rfl (es rfl (es rfl (es rfl (es rfl l15_74))))))) ?_
          refine W_v rfl (wanted_t rfl rfl (es rfl (et rfl)) (ez rfl)) (V_eql rfl (et rfl) rfl) ?_
          refine W_v rfl rfl (V_pickT rfl (es rfl (es rfl (et rfl))) (et rfl)) ?_
          refine W_sure (c' := true) rfl rfl (V_mov rfl (et rfl)) (by rw [decide_eq_true_eq]; exact m0.2.2.2.2) ?_
          refine W_v rfl (wanted_t rfl rfl (et rfl) (ez rfl)) (V_mov rfl (es rfl (es rfl (es rfl (es rfl (es rfl (es rfl (es rfl (es rfl (es rfl (es rfl l16_74))))))))))) ?_
          refine W_v rfl (wanted_t rfl rfl (es rfl (et rfl)) (ez rfl)) (V_eql rfl (et rfl) rfl) ?_
          refine W_v rfl rfl (V_pickT rfl (es rfl (es rfl (et rfl))) (et rfl)) ?_
          refine W_sure (c' := true) rfl rfl (V_mov rfl (et rfl)) (by rw [decide_eq_true_eq]; exact c0.2.1) ?_
          refine W_v rfl (wanted_t rfl rfl (et rfl) (ez rfl)) (V_mov rfl (es rfl (es rfl (es rfl (es rfl (es rfl (es rfl (es rfl (es rfl (es rfl (es rfl (es rfl (es rfl (es rfl (es rfl l17_74))))))))))))))) ?_
          refine W_v rfl (wanted_t rfl rfl (es rfl (et rfl)) (ez rfl)) (V_eql rfl (et rfl) rfl) ?_
          refine W_v rfl rfl (V_pickT rfl (es rfl (es rfl (et rfl))) (et rfl)) ?_
          refine W_sure (c' := true) rfl rfl (V_mov rfl (et rfl)) (by rw [decide_eq_true_eq]; exact c0.1) ?_
          refine W_call rfl (wanted_t rfl rfl (et rfl) (ez rfl)) rfl Try.func12 (by kernel_rfl) rfl (args0) (shw_c  ) ?_
          rintro _ w77 ⟨rfl, hP77⟩
          refine ⟨_, rfl, ?_⟩
          have hS77 := hS75.join hP77
          replace hS77 : St w NoX [] w77 := hS77
          refine W_v rfl rfl (V_pickT rfl (es rfl (et rfl)) (et rfl)) ?_
          refine W_v rfl rfl (V_asg rfl (et rfl)) ?_
          refine W_end ?_
          refine gen_Q (fun A78 hA78 => ?_)
          have hsz78 : SzN A78 152 := by rw [hA78]; infer_instance
          have hdf78 : A78.defers = [] := by rw [hA78]; simp only [df_put]; exact hdf74
          have l4_78 := lookE hA78 4 (et rfl)
          clear hA78 hsz74 hdf74 l12_74 l13_74 l15_74 l16_74 l17_74
          refine then_n (hK76 _ _ ?_)
          clear hK76
          refine wp_ret ?_
          refine ret_in (results_1 Try.results10 (rv_tmp l4_78)) hdf78 ?_
          -- leaf FFFF
          exact ⟨rfl, hS77.fin0⟩

end Go.Proofs.Ytbnijekjaafoaaa