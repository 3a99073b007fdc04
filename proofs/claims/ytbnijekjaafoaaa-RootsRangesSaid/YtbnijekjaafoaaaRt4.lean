import Derived.Test.YtbnijekjaafoaaaProg
import Derived.Test.YtbnijekjaafoaaaRt3
namespace Go.Proofs.Ytbnijekjaafoaaa
open Go.RowKit Go.Own Go.Own.R


set_option maxHeartbeats 4000000 in
theorem kwy_c {mv : Value} {ms : List (Int × Int)} {w : World} (h_mv : Ro w NoX (rl 2 mvC mv ms))  :
    Calls Try.prog 38 #[mv] w fun e w' => ∃ v, e = .returned (.tuple #[v, .int .i64 (mvR ms).1, .int .i64 (mvR ms).2]) ∧ St w NoX [mi v (wyM ms)] w' := by
  refine calls_in 55 Try.func38 rfl rfl (by simp) (fun A0 hsz0 hdf0 hargs => ?_)
  have l0_0 := hargs 0 (mv) rfl
  clear hargs; replace hsz0 : SzN A0 55 := ⟨hsz0⟩
  have hS := St.nil w
  have bh_mv := SlN.le (sl_SlN h_mv.at)
  refine wp_seq_k (fun K1 hK1 => ?_)
  -- region 0
  refine region_in ?_
  refine W_v rfl rfl (V_asg rfl rfl) ?_
  refine W_v rfl rfl (V_asg rfl rfl) ?_
  refine W_v rfl rfl (V_asg rfl rfl) ?_
  refine W_end ?_
  refine gen_Q (fun A2 hA2 => ?_)
  have hsz2 : SzN A2 55 := by rw [hA2]; infer_instance
  have hdf2 : A2.defers = [] := by rw [hA2]; simp only [df_put]; exact hdf0
  have l0_2 := lookE hA2 0 (es rfl (es rfl (es rfl l0_0)))
  clear hA2 hsz0 hdf0 l0_0
  refine then_n (hK1 _ _ ?_)
  clear hK1
  refine wp_seq_k (fun K3 hK3 => ?_)
  refine wp_seq_k (fun K4 hK4 => ?_)
  -- region 1
  refine region_in ?_
  refine W_v rfl rfl (V_mov rfl l0_2) ?_
  refine W_v rfl rfl (V_lenS rfl (et rfl) (sl_SlN h_mv.at) Try.underlying33) ?_
  refine W_v rfl rfl (V_gtr rfl (et rfl) rfl) ?_
  refine W_end ?_
  refine gen_Q (fun A5 hA5 => ?_)
  have hsz5 : SzN A5 55 := by rw [hA5]; infer_instance
  have hdf5 : A5.defers = [] := by rw [hA5]; simp only [df_put]; exact hdf2
  have l0_5 := lookE hA5 0 (es rfl (es rfl (es rfl l0_2)))
  have l11_5 := lookE hA5 11 (et rfl)
  clear hA5 hsz2 hdf2 l0_2
  refine then_n (hK4 _ _ ?_)
  clear hK4
  refine cond_dec l11_5 (fun c6 => ?_) (fun c6 => ?_)
  · skip
    refine wp_seq_k (fun K7 hK7 => ?_)
    -- region 2
    refine region_in ?_
    refine W_v rfl rfl (V_asg rfl rfl) ?_
    refine W_v rfl rfl (V_asg rfl rfl) ?_
    refine W_v rfl rfl (V_asg rfl rfl) ?_
    refine W_end ?_
    refine gen_Q (fun A8 hA8 => ?_)
    have hsz8 : SzN A8 55 := by rw [hA8]; infer_instance
    have hdf8 : A8.defers = [] := by rw [hA8]; simp only [df_put]; exact hdf5
    have l2_8 := lookE hA8 2 (es rfl (es rfl (et rfl)))
    have l3_8 := lookE hA8 3 (es rfl (et rfl))
    have l4_8 := lookE hA8 4 (et rfl)
    clear hA8 hsz5 hdf5 l0_5 l11_5
    refine then_n (hK7 _ _ ?_)
    clear hK7
    refine wp_ret ?_
    refine then_ret ?_
    refine ret_in (results_3 Try.results38 (rv_tmp l2_8) (rv_tmp l3_8) (rv_tmp l4_8)) hdf8 ?_
    -- leaf T
    obtain ⟨c9, hc9, hS9⟩ := St.mnil (k := .i64) hS
    replace hc9 : c9 = mi (.map none) [] := hc9
    have h := mvR_long c6
    rw [h]
    exact ⟨_, rfl, (hS9.fin1 0 rfl (hc9.trans (by rw [wyM_err (by rw [h]; simp)] <;> rfl)))⟩
  · skip
    refine wp_skip ?_
    refine then_n (hK3 _ _ ?_)
    clear hK3
    refine wp_seq_k (fun K10 hK10 => ?_)
    -- region 3
    refine region_in ?_
    refine W_mkMapS .i64 hS rfl rfl rfl (fun g11 w11 c11 hc11 hS11 => ?_)
    replace hc11 : c11 = mi (.map (some g11)) [] := hc11
    replace hS11 : St w NoX [c11] w11 := hS11
    refine W_v rfl rfl (V_asg rfl (et rfl)) ?_
    refine W_end ?_
    refine gen_Q (fun A12 hA12 => ?_)
    have hsz12 : SzN A12 55 := by rw [hA12]; infer_instance
    have hdf12 : A12.defers = [] := by rw [hA12]; simp only [df_put]; exact hdf5
    have l0_12 := lookE hA12 0 (es rfl (es rfl l0_5))
    have l2_12 := lookE hA12 2 (et rfl)
    clear hA12 hsz5 hdf5 l0_5 l11_5
    refine then_n (hK10 _ _ ?_)
    clear hK10
    refine wp_seq_k (fun K13 hK13 => ?_)
    refine wp_seq_k (fun K14 hK14 => ?_)
    -- region 4
    refine region_in ?_
    refine W_v rfl rfl (V_mov rfl l0_12) ?_
    refine W_v rfl rfl (V_lenS rfl (et rfl) (sl_SlN h_mv.at) Try.underlying33) ?_
    refine W_v rfl rfl (V_mov rfl rfl) ?_
    refine W_end ?_
    refine gen_Q (fun A15 hA15 => ?_)
    have hsz15 : SzN A15 55 := by rw [hA15]; infer_instance
    have hdf15 : A15.defers = [] := by rw [hA15]; simp only [df_put]; exact hdf12
    have l2_15 := lookE hA15 2 (es rfl (es rfl (es rfl l2_12)))
    have l13_15 := lookE hA15 13 (es rfl (es rfl (et rfl)))
    have l14_15 := lookE hA15 14 (es rfl (et rfl))
    have l15_15 := lookE hA15 15 (et rfl)
    clear hA15 hsz12 hdf12 l0_12 l2_12
    refine then_n (hK14 _ _ ?_)
    clear hK14
    refine wp_block ?_
    -- loop 5
    refine loopX (fun mz A' w' => SzN A' 55 ∧ A'.defers = [] ∧ (∃ (k : Nat), (mz = ms.length - k) ∧ (k ≤ ms.length) ∧ (mvR ms = mvGo (fsts (ms.take k)) (ms.drop k) k) ∧ (EV A' (.tmp 15) = .int .i64 (k : Int)) ∧ (EV A' (.tmp 2) = EV A15 (.tmp 2)) ∧ (EV A' (.tmp 13) = EV A15 (.tmp 13)) ∧ (EV A' (.tmp 14) = EV A15 (.tmp 14)) ∧ (St w NoX [mi (.map (some g11)) (ms.take k)] w'))) (ms.length - 0) ⟨hsz15, hdf15, 0, rfl, (by omega), (mvR_init (by omega)), ((l15_15).trans (by first | rfl | (simp; done) | (congr 1; omega))), rfl, rfl, rfl, (by have q0 : c11 = mi (.map (some g11)) (ms.take 0) := hc11.trans (rfl); subst q0; exact hS11)⟩ ?_
    clear hS11 hc11
    rintro n16 A16 w16 ⟨hsz16, hdf16, k, hm16, hk, hz, l15_16, u2_16, u13_16, u14_16, hS16⟩
    have l2_16 := u2_16.trans l2_15
    have l13_16 := u13_16.trans l13_15
    have l14_16 := u14_16.trans l14_15
    obtain ⟨c11_16, hc11_16, hS16⟩ := gen1 hS16
    refine wp_seq_k (fun K17 hK17 => ?_)
    -- region 5
    refine region_in ?_
    refine W_v rfl rfl (V_lss rfl l15_16 l14_16) ?_
    refine W_end ?_
    refine gen_Q (fun A18 hA18 => ?_)
    have hsz18 : SzN A18 55 := by rw [hA18]; infer_instance
    have hdf18 : A18.defers = [] := by rw [hA18]; simp only [df_put]; exact hdf16
    have l2_18 := lookE hA18 2 (es rfl l2_16)
    have l13_18 := lookE hA18 13 (es rfl l13_16)
    have l14_18 := lookE hA18 14 (es rfl l14_16)
    have l15_18 := lookE hA18 15 (es rfl l15_16)
    have l16_18 := lookE hA18 16 (et rfl)
    clear hA18 hsz16 hdf16 l15_16 l2_16 l13_16 l14_16
    refine then_n (hK17 _ _ ?_)
    clear hK17
    refine wp_seq_k (fun K19 hK19 => ?_)
    refine cond_dec l16_18 (fun c20 => ?_) (fun c20 => ?_)
    · skip
      refine wp_skip ?_
      refine then_n (hK19 _ _ ?_)
      clear hK19
      refine wp_seq_k (fun K21 hK21 => ?_)
      refine wp_block ?_
      refine wp_seq_k (fun K22 hK22 => ?_)
      -- region 6
      refine region_in ?_
      refine W_v rfl rfl (V_mov rfl l15_18) ?_
      have k23 : k < ms.length := by first | omega | (simp only [List.length_cons, List.length_nil]; omega)
      obtain ⟨y23, hy23⟩ := get_some (xs := ms) (k := k) k23
      obtain ⟨B23, O23, C23, hv23⟩ := (SlN.blk (sl_SlN h_mv.at) (by first | omega | (simp only [List.length_cons, List.length_nil]; omega)))
      refine W_v rfl rfl (V_ixS (off := O23 + k * 2) 2 (k) rfl (es rfl l13_18) (es rfl l15_18) hv23 (by omega) k23 Try.underlying33 (by kernel_rfl) rfl) ?_
      refine W_r rfl rfl (VR_ldR (ys := mvC y23) rfl (et rfl) (SlN.row mvC_len (sl_SlN (hS16.ro h_mv)) hv23 hy23 rfl) Try.underlying39 rfl (by kernel_rfl)) ?_
      refine W_allocS (z := .agg #[.int .i64 0, .int .i64 0]) (zs := #[.int .i64 0, .int .i64 0]) hS16 rfl rfl rfl (by kernel_rfl) (by rfl) (fun g24 w24 c24 hc24 hS24 => ?_)
      replace hS24 : St w NoX [c24, c11_16] w24 := hS24
      refine W_v rfl rfl (V_asg rfl (es rfl (es rfl (es rfl (et rfl))))) ?_
      refine W_stAS 0 hS24 rfl hc24 rfl rfl rfl (es rfl (et rfl)) (es rfl (es rfl (et rfl))) (by first | (rw [List.all_toArray] <;> rfl) | (simp only [List.all_toArray, List.all_cons, List.all_nil] <;> rfl)) (by rfl) (by kernel_rfl) (fun w25 c25 hc25 hS25 => ?_)
      replace hS25 : St w NoX [c25, c11_16] w25 := hS25
      refine W_end ?_
      refine gen_Q (fun A26 hA26 => ?_)
      have hsz26 : SzN A26 55 := by rw [hA26]; infer_instance
      have hdf26 : A26.defers = [] := by rw [hA26]; simp only [df_put]; exact hdf18
      have l2_26 := lookE hA26 2 (es rfl (es rfl (es rfl (es rfl (es rfl l2_18)))))
      have l5_26 := lookE hA26 5 (et rfl)
      have l6_26 := lookE hA26 6 (es rfl (et rfl))
      have l13_26 := lookE hA26 13 (es rfl (es rfl (es rfl (es rfl (es rfl l13_18)))))
      have l14_26 := lookE hA26 14 (es rfl (es rfl (es rfl (es rfl (es rfl l14_18)))))
      have l15_26 := lookE hA26 15 (es rfl (es rfl (es rfl (es rfl (es rfl l15_18)))))
      clear hA26 hsz18 hdf18 l2_18 l13_18 l14_18 l15_18 l16_18
      refine then_n (hK22 _ _ ?_)
      clear hK22
      refine wp_seq_k (fun K27 hK27 => ?_)
      refine wp_seq_k (fun K28 hK28 => ?_)
      -- region 7
      refine region_in ?_
      refine W_v rfl rfl (V_fa (off' := 0) rfl l6_26 Try.underlying39 rfl (by decide) rfl) ?_
      refine W_r rfl rfl (VR_ldC rfl (et rfl) (cell_box (v := .int .i64 (y23.1)) (hS25.obj 0 rfl hc25) rfl) Try.underlying3 rfl) ?_
      refine W_v rfl rfl (V_eql rfl (et rfl) rfl) ?_
      refine W_split rfl rfl (V_mov rfl (et rfl)) (fun c29 => ?_) (fun c29 => ?_)
      · skip
        refine W_off rfl (wanted_f rfl rfl (et rfl) (ez rfl) rfl) ?_
        refine W_off rfl (wanted_f rfl rfl (es rfl (et rfl)) (ez rfl) rfl) ?_
        refine W_off rfl (wanted_f rfl rfl (es rfl (es rfl (et rfl))) (ez rfl) rfl) ?_
        refine W_v rfl rfl (V_pickT rfl (es rfl (es rfl (es rfl (et rfl)))) rfl) ?_
        refine W_v rfl rfl (V_mov rfl (et rfl)) ?_
        refine W_off rfl (wanted_f rfl rfl (et rfl) (ez rfl) rfl) ?_
        refine W_off rfl (wanted_f rfl rfl (es rfl (et rfl)) (ez rfl) rfl) ?_
        refine W_off rfl (wanted_f rfl rfl (es rfl (es rfl (et rfl))) (ez rfl) rfl) ?_
        refine W_v rfl rfl (V_pickT rfl (es rfl (es rfl (es rfl (et rfl)))) rfl) ?_
        refine W_v rfl rfl (V_mov rfl (et rfl)) ?_
        refine W_off rfl (wanted_f rfl rfl (et rfl) (ez rfl) rfl) ?_
        refine W_off rfl (wanted_f rfl rfl (es rfl (et rfl)) (ez rfl) rfl) ?_
        refine W_off rfl (wanted_f rfl rfl (es rfl (es rfl (et rfl))) (ez rfl) rfl) ?_
        refine W_v rfl rfl (V_pickT rfl (es rfl (es rfl (es rfl (et rfl)))) rfl) ?_
        refine W_end ?_
        refine gen_Q (fun A30 hA30 => ?_)
        have hsz30 : SzN A30 55 := by rw [hA30]; infer_instance
        have hdf30 : A30.defers = [] := by rw [hA30]; simp only [df_put]; exact hdf26
        have l2_30 := lookE hA30 2 (es rfl (es rfl (es rfl (es rfl (es rfl (es rfl (es rfl (es rfl (es rfl (es rfl (es rfl (es rfl (es rfl (es rfl (es rfl (es rfl (es rfl (es rfl l2_26))))))))))))))))))
        have l5_30 := lookE hA30 5 (es rfl (es rfl (es rfl (es rfl (es rfl (es rfl (es rfl (es rfl (es rfl (es rfl (es rfl (es rfl (es rfl (es rfl (es rfl (es rfl (es rfl (es rfl l5_26))))))))))))))))))
        have l6_30 := lookE hA30 6 (es rfl (es rfl (es rfl (es rfl (es rfl (es rfl (es rfl (es rfl (es rfl (es rfl (es rfl (es rfl (es rfl (es rfl (es rfl (es rfl (es rfl (es rfl l6_26))))))))))))))))))
        have l13_30 := lookE hA30 13 (es rfl (es rfl (es rfl (es rfl (es rfl (es rfl (es rfl (es rfl (es rfl (es rfl (es rfl (es rfl (es rfl (es rfl (es rfl (es rfl (es rfl (es rfl l13_26))))))))))))))))))
        have l14_30 := lookE hA30 14 (es rfl (es rfl (es rfl (es rfl (es rfl (es rfl (es rfl (es rfl (es rfl (es rfl (es rfl (es rfl (es rfl (es rfl (es rfl (es rfl (es rfl (es rfl l14_26))))))))))))))))))
        have l15_30 := lookE hA30 15 (es rfl (es rfl (es rfl (es rfl (es rfl (es rfl (es rfl (es rfl (es rfl (es rfl (es rfl (es rfl (es rfl (es rfl (es rfl (es rfl (es rfl (es rfl l15_26))))))))))))))))))
        have l24_30 := lookE hA30 24 (es rfl (es rfl (es rfl (es rfl (es rfl (es rfl (es rfl (es rfl (es rfl (es rfl (es rfl (es rfl (es rfl (et rfl))))))))))))))
        have l25_30 := lookE hA30 25 (es rfl (es rfl (es rfl (es rfl (es rfl (es rfl (es rfl (es rfl (es rfl (es rfl (es rfl (es rfl (et rfl)))))))))))))
        have l26_30 := lookE hA30 26 (es rfl (es rfl (es rfl (es rfl (es rfl (es rfl (es rfl (es rfl (es rfl (es rfl (es rfl (et rfl))))))))))))
        have l29_30 := lookE hA30 29 (es rfl (es rfl (es rfl (es rfl (es rfl (es rfl (es rfl (es rfl (et rfl)))))))))
        have l30_30 := lookE hA30 30 (es rfl (es rfl (es rfl (es rfl (es rfl (es rfl (es rfl (et rfl))))))))
        have l31_30 := lookE hA30 31 (es rfl (es rfl (es rfl (es rfl (es rfl (es rfl (et rfl)))))))
        have l34_30 := lookE hA30 34 (es rfl (es rfl (es rfl (et rfl))))
        have l35_30 := lookE hA30 35 (es rfl (es rfl (et rfl)))
        have l36_30 := lookE hA30 36 (es rfl (et rfl))
        have l37_30 := lookE hA30 37 (et rfl)
        clear hA30 hsz26 hdf26 l2_26 l5_26 l6_26 l13_26 l14_26 l15_26
        refine then_n (hK28 _ _ ?_)
        clear hK28
        refine cond_t l37_30 ?_
        refine wp_seq_k (fun K31 hK31 => ?_)
        -- region 8
        refine region_in ?_
        refine W_v rfl rfl (V_mov rfl l5_30) ?_
        refine W_v rfl rfl (V_asg rfl rfl) ?_
        refine W_v rfl rfl (V_asg rfl (es rfl (et rfl))) ?_
        refine W_v rfl rfl (V_asg rfl rfl) ?_
        refine W_end ?_
        refine gen_Q (fun A32 hA32 => ?_)
        have hsz32 : SzN A32 55 := by rw [hA32]; infer_instance
        have hdf32 : A32.defers = [] := by rw [hA32]; simp only [df_put]; exact hdf30
        have l2_32 := lookE hA32 2 (es rfl (es rfl (et rfl)))
        have l3_32 := lookE hA32 3 (es rfl (et rfl))
        have l4_32 := lookE hA32 4 (et rfl)
        clear hA32 hsz30 hdf30 l2_30 l5_30 l6_30 l13_30 l14_30 l15_30 l24_30 l25_30 l26_30 l29_30 l30_30 l31_30 l34_30 l35_30 l36_30 l37_30
        have hS33 : St w NoX [] w25 := hS25.sel [] (by decide) rfl
        refine then_n (hK31 _ _ ?_)
        clear hK31
        refine wp_ret ?_
        refine then_ret ?_
        refine inb_ret ?_
        refine then_ret ?_
        refine then_ret ?_
        refine inb_ret ?_
        refine then_ret ?_
        refine ret_in (results_3 Try.results38 (rv_tmp l2_32) (rv_tmp l3_32) (rv_tmp l4_32)) hdf32 ?_
        -- leaf FTT
        obtain ⟨c34, hc34, hS34⟩ := St.mnil (k := .i64) hS33
        replace hc34 : c34 = mi (.map none) [] := hc34
        have h := mv_bad hz hy23 (by unfold badM; omega)
        rw [h]
        exact ⟨_, rfl, (hS34.fin1 0 rfl (hc34.trans (by rw [wyM_err (by rw [h]; simp)] <;> rfl)))⟩
      · skip
        refine W_v rfl (wanted_t rfl rfl (et rfl) (ez rfl)) (V_fa (off' := 1) rfl (es rfl (es rfl (es rfl (es rfl l6_26)))) Try.underlying39 rfl (by decide) rfl) ?_
        refine W_r rfl (wanted_t rfl rfl (es rfl (et rfl)) (ez rfl)) (VR_ldC rfl (et rfl) (cell_box (v := .int .i64 (y23.2)) (hS25.obj 0 rfl hc25) rfl) Try.underlying3 rfl) ?_
        refine W_v rfl (wanted_t rfl rfl (es rfl (es rfl (et rfl))) (ez rfl)) (V_eql rfl (et rfl) rfl) ?_
        refine W_v rfl rfl (V_pickF rfl (es rfl (es rfl (es rfl (et rfl)))) (et rfl)) ?_
        refine W_split rfl rfl (V_mov rfl (et rfl)) (fun c35 => ?_) (fun c35 => ?_)
        · skip
          refine W_off rfl (wanted_f rfl rfl (et rfl) (ez rfl) rfl) ?_
          refine W_off rfl (wanted_f rfl rfl (es rfl (et rfl)) (ez rfl) rfl) ?_
          refine W_off rfl (wanted_f rfl rfl (es rfl (es rfl (et rfl))) (ez rfl) rfl) ?_
          refine W_v rfl rfl (V_pickT rfl (es rfl (es rfl (es rfl (et rfl)))) rfl) ?_
          refine W_v rfl rfl (V_mov rfl (et rfl)) ?_
          refine W_off rfl (wanted_f rfl rfl (et rfl) (ez rfl) rfl) ?_
          refine W_off rfl (wanted_f rfl rfl (es rfl (et rfl)) (ez rfl) rfl) ?_
          refine W_off rfl (wanted_f rfl rfl (es rfl (es rfl (et rfl))) (ez rfl) rfl) ?_
          refine W_v rfl rfl (V_pickT rfl (es rfl (es rfl (es rfl (et rfl)))) rfl) ?_
          refine W_end ?_
          refine gen_Q (fun A36 hA36 => ?_)
          have hsz36 : SzN A36 55 := by rw [hA36]; infer_instance
          have hdf36 : A36.defers = [] := by rw [hA36]; simp only [df_put]; exact hdf26
          have l2_36 := lookE hA36 2 (es rfl (es rfl (es rfl (es rfl (es rfl (es rfl (es rfl (es rfl (es rfl (es rfl (es rfl (es rfl (es rfl (es rfl (es rfl (es rfl (es rfl (es rfl l2_26))))))))))))))))))
          have l5_36 := lookE hA36 5 (es rfl (es rfl (es rfl (es rfl (es rfl (es rfl (es rfl (es rfl (es rfl (es rfl (es rfl (es rfl (es rfl (es rfl (es rfl (es rfl (es rfl (es rfl l5_26))))))))))))))))))
          have l6_36 := lookE hA36 6 (es rfl (es rfl (es rfl (es rfl (es rfl (es rfl (es rfl (es rfl (es rfl (es rfl (es rfl (es rfl (es rfl (es rfl (es rfl (es rfl (es rfl (es rfl l6_26))))))))))))))))))
          have l13_36 := lookE hA36 13 (es rfl (es rfl (es rfl (es rfl (es rfl (es rfl (es rfl (es rfl (es rfl (es rfl (es rfl (es rfl (es rfl (es rfl (es rfl (es rfl (es rfl (es rfl l13_26))))))))))))))))))
          have l14_36 := lookE hA36 14 (es rfl (es rfl (es rfl (es rfl (es rfl (es rfl (es rfl (es rfl (es rfl (es rfl (es rfl (es rfl (es rfl (es rfl (es rfl (es rfl (es rfl (es rfl l14_26))))))))))))))))))
          have l15_36 := lookE hA36 15 (es rfl (es rfl (es rfl (es rfl (es rfl (es rfl (es rfl (es rfl (es rfl (es rfl (es rfl (es rfl (es rfl (es rfl (es rfl (es rfl (es rfl (es rfl l15_26))))))))))))))))))
          have l24_36 := lookE hA36 24 (es rfl (es rfl (es rfl (es rfl (es rfl (es rfl (es rfl (es rfl (es rfl (es rfl (es rfl (es rfl (es rfl (et rfl))))))))))))))
          have l25_36 := lookE hA36 25 (es rfl (es rfl (es rfl (es rfl (es rfl (es rfl (es rfl (es rfl (es rfl (es rfl (es rfl (es rfl (et rfl)))))))))))))
          have l26_36 := lookE hA36 26 (es rfl (es rfl (es rfl (es rfl (es rfl (es rfl (es rfl (es rfl (es rfl (es rfl (es rfl (et rfl))))))))))))
          have l29_36 := lookE hA36 29 (es rfl (es rfl (es rfl (es rfl (es rfl (es rfl (es rfl (es rfl (et rfl)))))))))
          have l30_36 := lookE hA36 30 (es rfl (es rfl (es rfl (es rfl (es rfl (es rfl (es rfl (et rfl))))))))
          have l31_36 := lookE hA36 31 (es rfl (es rfl (es rfl (es rfl (es rfl (es rfl (et rfl)))))))
          have l34_36 := lookE hA36 34 (es rfl (es rfl (es rfl (et rfl))))
          have l35_36 := lookE hA36 35 (es rfl (es rfl (et rfl)))
          have l36_36 := lookE hA36 36 (es rfl (et rfl))
          have l37_36 := lookE hA36 37 (et rfl)
          clear hA36 hsz26 hdf26 l2_26 l5_26 l6_26 l13_26 l14_26 l15_26
          refine then_n (hK28 _ _ ?_)
          clear hK28
          refine cond_t l37_36 ?_
          refine wp_seq_k (fun K37 hK37 => ?_)
          -- region 8
          refine region_in ?_
          refine W_v rfl rfl (V_mov rfl l5_36) ?_
          refine W_v rfl rfl (V_asg rfl rfl) ?_
          refine W_v rfl rfl (V_asg rfl (es rfl (et rfl))) ?_
          refine W_v rfl rfl (V_asg rfl rfl) ?_
          refine W_end ?_
          refine gen_Q (fun A38 hA38 => ?_)
          have hsz38 : SzN A38 55 := by rw [hA38]; infer_instance
          have hdf38 : A38.defers = [] := by rw [hA38]; simp only [df_put]; exact hdf36
          have l2_38 := lookE hA38 2 (es rfl (es rfl (et rfl)))
          have l3_38 := lookE hA38 3 (es rfl (et rfl))
          have l4_38 := lookE hA38 4 (et rfl)
          clear hA38 hsz36 hdf36 l2_36 l5_36 l6_36 l13_36 l14_36 l15_36 l24_36 l25_36 l26_36 l29_36 l30_36 l31_36 l34_36 l35_36 l36_36 l37_36
          have hS39 : St w NoX [] w25 := hS25.sel [] (by decide) rfl
          refine then_n (hK37 _ _ ?_)
          clear hK37
          refine wp_ret ?_
          refine then_ret ?_
          refine inb_ret ?_
          refine then_ret ?_
          refine then_ret ?_
          refine inb_ret ?_
          refine then_ret ?_
          refine ret_in (results_3 Try.results38 (rv_tmp l2_38) (rv_tmp l3_38) (rv_tmp l4_38)) hdf38 ?_
          -- leaf FTFT
          obtain ⟨c40, hc40, hS40⟩ := St.mnil (k := .i64) hS39
          replace hc40 : c40 = mi (.map none) [] := hc40
          have h := mv_bad hz hy23 (by unfold badM; omega)
          rw [h]
          exact ⟨_, rfl, (hS40.fin1 0 rfl (hc40.trans (by rw [wyM_err (by rw [h]; simp)] <;> rfl)))⟩
        · skip
          refine W_v rfl (wanted_t rfl rfl (et rfl) (ez rfl)) (V_fa (off' := 0) rfl (es rfl (es rfl (es rfl (es rfl (es rfl (es rfl (es rfl (es rfl (es rfl l6_26))))))))) Try.underlying39 rfl (by decide) rfl) ?_
          refine W_r rfl (wanted_t rfl rfl (es rfl (et rfl)) (ez rfl)) (VR_ldC rfl (et rfl) (cell_box (v := .int .i64 (y23.1)) (hS25.obj 0 rfl hc25) rfl) Try.underlying3 rfl) ?_
          refine W_call rfl (wanted_t rfl rfl (es rfl (es rfl (et rfl))) (ez rfl)) rfl Try.func40 (by kernel_rfl) rfl (args1 (et rfl)) (out_c (a := y23.1)  ) ?_
          rintro _ w41 ⟨rfl, hP41⟩
          refine ⟨_, rfl, ?_⟩
          have hS41 := hS25.join hP41
          replace hS41 : St w NoX [c25, c11_16] w41 := hS41
          refine W_v rfl rfl (V_pickF rfl (es rfl (es rfl (es rfl (et rfl)))) (et rfl)) ?_
          refine W_split rfl rfl (V_mov rfl (et rfl)) (fun c42 => ?_) (fun c42 => ?_)
          · skip
            refine W_off rfl (wanted_f rfl rfl (et rfl) (ez rfl) rfl) ?_
            refine W_off rfl (wanted_f rfl rfl (es rfl (et rfl)) (ez rfl) rfl) ?_
            refine W_off rfl (wanted_f rfl rfl (es rfl (es rfl (et rfl))) (ez rfl) rfl) ?_
            refine W_v rfl rfl (V_pickT rfl (es rfl (es rfl (es rfl (et rfl)))) rfl) ?_
            refine W_end ?_
            refine gen_Q (fun A43 hA43 => ?_)
            have hsz43 : SzN A43 55 := by rw [hA43]; infer_instance
            have hdf43 : A43.defers = [] := by rw [hA43]; simp only [df_put]; exact hdf26
            have l2_43 := lookE hA43 2 (es rfl (es rfl (es rfl (es rfl (es rfl (es rfl (es rfl (es rfl (es rfl (es rfl (es rfl (es rfl (es rfl (es rfl (es rfl (es rfl (es rfl (es rfl l2_26))))))))))))))))))
            have l5_43 := lookE hA43 5 (es rfl (es rfl (es rfl (es rfl (es rfl (es rfl (es rfl (es rfl (es rfl (es rfl (es rfl (es rfl (es rfl (es rfl (es rfl (es rfl (es rfl (es rfl l5_26))))))))))))))))))
            have l6_43 := lookE hA43 6 (es rfl (es rfl (es rfl (es rfl (es rfl (es rfl (es rfl (es rfl (es rfl (es rfl (es rfl (es rfl (es rfl (es rfl (es rfl (es rfl (es rfl (es rfl l6_26))))))))))))))))))
            have l13_43 := lookE hA43 13 (es rfl (es rfl (es rfl (es rfl (es rfl (es rfl (es rfl (es rfl (es rfl (es rfl (es rfl (es rfl (es rfl (es rfl (es rfl (es rfl (es rfl (es rfl l13_26))))))))))))))))))
            have l14_43 := lookE hA43 14 (es rfl (es rfl (es rfl (es rfl (es rfl (es rfl (es rfl (es rfl (es rfl (es rfl (es rfl (es rfl (es rfl (es rfl (es rfl (es rfl (es rfl (es rfl l14_26))))))))))))))))))
            have l15_43 := lookE hA43 15 (es rfl (es rfl (es rfl (es rfl (es rfl (es rfl (es rfl (es rfl (es rfl (es rfl (es rfl (es rfl (es rfl (es rfl (es rfl (es rfl (es rfl (es rfl l15_26))))))))))))))))))
            have l24_43 := lookE hA43 24 (es rfl (es rfl (es rfl (es rfl (es rfl (es rfl (es rfl (es rfl (es rfl (es rfl (es rfl (es rfl (es rfl (et rfl))))))))))))))
            have l25_43 := lookE hA43 25 (es rfl (es rfl (es rfl (es rfl (es rfl (es rfl (es rfl (es rfl (es rfl (es rfl (es rfl (es rfl (et rfl)))))))))))))
            have l26_43 := lookE hA43 26 (es rfl (es rfl (es rfl (es rfl (es rfl (es rfl (es rfl (es rfl (es rfl (es rfl (es rfl (et rfl))))))))))))
            have l29_43 := lookE hA43 29 (es rfl (es rfl (es rfl (es rfl (es rfl (es rfl (es rfl (es rfl (et rfl)))))))))
            have l30_43 := lookE hA43 30 (es rfl (es rfl (es rfl (es rfl (es rfl (es rfl (es rfl (et rfl))))))))
            have l31_43 := lookE hA43 31 (es rfl (es rfl (es rfl (es rfl (es rfl (es rfl (et rfl)))))))
            have l34_43 := lookE hA43 34 (es rfl (es rfl (es rfl (et rfl))))
            have l35_43 := lookE hA43 35 (es rfl (es rfl (et rfl)))
            have l36_43 := lookE hA43 36 (es rfl (et rfl))
            have l37_43 := lookE hA43 37 (et rfl)
            clear hA43 hsz26 hdf26 l2_26 l5_26 l6_26 l13_26 l14_26 l15_26
            refine then_n (hK28 _ _ ?_)
            clear hK28
            refine cond_t l37_43 ?_
            refine wp_seq_k (fun K44 hK44 => ?_)
            -- region 8
            refine region_in ?_
            refine W_v rfl rfl (V_mov rfl l5_43) ?_
            refine W_v rfl rfl (V_asg rfl rfl) ?_
            refine W_v rfl rfl (V_asg rfl (es rfl (et rfl))) ?_
            refine W_v rfl rfl (V_asg rfl rfl) ?_
            refine W_end ?_
            refine gen_Q (fun A45 hA45 => ?_)
            have hsz45 : SzN A45 55 := by rw [hA45]; infer_instance
            have hdf45 : A45.defers = [] := by rw [hA45]; simp only [df_put]; exact hdf43
            have l2_45 := lookE hA45 2 (es rfl (es rfl (et rfl)))
            have l3_45 := lookE hA45 3 (es rfl (et rfl))
            have l4_45 := lookE hA45 4 (et rfl)
            clear hA45 hsz43 hdf43 l2_43 l5_43 l6_43 l13_43 l14_43 l15_43 l24_43 l25_43 l26_43 l29_43 l30_43 l31_43 l34_43 l35_43 l36_43 l37_43
            have hS46 : St w NoX [] w41 := hS41.sel [] (by decide) rfl
            refine then_n (hK44 _ _ ?_)
            clear hK44
            refine wp_ret ?_
            refine then_ret ?_
            refine inb_ret ?_
            refine then_ret ?_
            refine then_ret ?_
            refine inb_ret ?_
            refine then_ret ?_
            refine ret_in (results_3 Try.results38 (rv_tmp l2_45) (rv_tmp l3_45) (rv_tmp l4_45)) hdf45 ?_
            -- leaf FTFFT
            obtain ⟨c47, hc47, hS47⟩ := St.mnil (k := .i64) hS46
            replace hc47 : c47 = mi (.map none) [] := hc47
            have h := mv_bad hz hy23 (by unfold badM; omega)
            rw [h]
            exact ⟨_, rfl, (hS47.fin1 0 rfl (hc47.trans (by rw [wyM_err (by rw [h]; simp)] <;> rfl)))⟩
          · skip
            refine W_v rfl (wanted_t rfl rfl (et rfl) (ez rfl)) (V_fa (off' := 1) rfl (es rfl (es rfl (es rfl (es rfl (es rfl (es rfl (es rfl (es rfl (es rfl (es rfl (es rfl (es rfl (es rfl (es rfl l6_26)))))))))))))) Try.underlying39 rfl (by decide) rfl) ?_
            refine W_r rfl (wanted_t rfl rfl (es rfl (et rfl)) (ez rfl)) (VR_ldC rfl (et rfl) (cell_box (v := .int .i64 (y23.2)) (hS41.obj 0 rfl hc25) rfl) Try.underlying3 rfl) ?_
            refine W_call rfl (wanted_t rfl rfl (es rfl (es rfl (et rfl))) (ez rfl)) rfl Try.func40 (by kernel_rfl) rfl (args1 (et rfl)) (out_c (a := y23.2)  ) ?_
            rintro _ w48 ⟨rfl, hP48⟩
            refine ⟨_, rfl, ?_⟩
            have hS48 := hS41.join hP48
            replace hS48 : St w NoX [c25, c11_16] w48 := hS48
            refine W_v rfl rfl (V_pickF rfl (es rfl (es rfl (es rfl (et rfl)))) (et rfl)) ?_
            refine W_end ?_
            refine gen_Q (fun A49 hA49 => ?_)
            have hsz49 : SzN A49 55 := by rw [hA49]; infer_instance
            have hdf49 : A49.defers = [] := by rw [hA49]; simp only [df_put]; exact hdf26
            have l2_49 := lookE hA49 2 (es rfl (es rfl (es rfl (es rfl (es rfl (es rfl (es rfl (es rfl (es rfl (es rfl (es rfl (es rfl (es rfl (es rfl (es rfl (es rfl (es rfl (es rfl l2_26))))))))))))))))))
            have l5_49 := lookE hA49 5 (es rfl (es rfl (es rfl (es rfl (es rfl (es rfl (es rfl (es rfl (es rfl (es rfl (es rfl (es rfl (es rfl (es rfl (es rfl (es rfl (es rfl (es rfl l5_26))))))))))))))))))
            have l6_49 := lookE hA49 6 (es rfl (es rfl (es rfl (es rfl (es rfl (es rfl (es rfl (es rfl (es rfl (es rfl (es rfl (es rfl (es rfl (es rfl (es rfl (es rfl (es rfl (es rfl l6_26))))))))))))))))))
            have l13_49 := lookE hA49 13 (es rfl (es rfl (es rfl (es rfl (es rfl (es rfl (es rfl (es rfl (es rfl (es rfl (es rfl (es rfl (es rfl (es rfl (es rfl (es rfl (es rfl (es rfl l13_26))))))))))))))))))
            have l14_49 := lookE hA49 14 (es rfl (es rfl (es rfl (es rfl (es rfl (es rfl (es rfl (es rfl (es rfl (es rfl (es rfl (es rfl (es rfl (es rfl (es rfl (es rfl (es rfl (es rfl l14_26))))))))))))))))))
            have l15_49 := lookE hA49 15 (es rfl (es rfl (es rfl (es rfl (es rfl (es rfl (es rfl (es rfl (es rfl (es rfl (es rfl (es rfl (es rfl (es rfl (es rfl (es rfl (es rfl (es rfl l15_26))))))))))))))))))
            have l24_49 := lookE hA49 24 (es rfl (es rfl (es rfl (es rfl (es rfl (es rfl (es rfl (es rfl (es rfl (es rfl (es rfl (es rfl (es rfl (et rfl))))))))))))))
            have l25_49 := lookE hA49 25 (es rfl (es rfl (es rfl (es rfl (es rfl (es rfl (es rfl (es rfl (es rfl (es rfl (es rfl (es rfl (et rfl)))))))))))))
            have l26_49 := lookE hA49 26 (es rfl (es rfl (es rfl (es rfl (es rfl (es rfl (es rfl (es rfl (es rfl (es rfl (es rfl (et rfl))))))))))))
            have l29_49 := lookE hA49 29 (es rfl (es rfl (es rfl (es rfl (es rfl (es rfl (es rfl (es rfl (et rfl)))))))))
            have l30_49 := lookE hA49 30 (es rfl (es rfl (es rfl (es rfl (es rfl (es rfl (es rfl (et rfl))))))))
            have l31_49 := lookE hA49 31 (es rfl (es rfl (es rfl (es rfl (es rfl (es rfl (et rfl)))))))
            have l34_49 := lookE hA49 34 (es rfl (es rfl (es rfl (et rfl))))
            have l35_49 := lookE hA49 35 (es rfl (es rfl (et rfl)))
            have l36_49 := lookE hA49 36 (es rfl (et rfl))
            have l37_49 := lookE hA49 37 (et rfl)
            clear hA49 hsz26 hdf26 l2_26 l5_26 l6_26 l13_26 l14_26 l15_26
            refine then_n (hK28 _ _ ?_)
            clear hK28
            refine cond_dec l37_49 (fun c50 => ?_) (fun c50 => ?_)
            · skip
              refine wp_seq_k (fun K51 hK51 => ?_)
              -- region 8
              refine region_in ?_
              refine W_v rfl rfl (V_mov rfl l5_49) ?_
              refine W_v rfl rfl (V_asg rfl rfl) ?_
              refine W_v rfl rfl (V_asg rfl (es rfl (et rfl))) ?_
              refine W_v rfl rfl (V_asg rfl rfl) ?_
              refine W_end ?_
              refine gen_Q (fun A52 hA52 => ?_)
              have hsz52 : SzN A52 55 := by rw [hA52]; infer_instance
              have hdf52 : A52.defers = [] := by rw [hA52]; simp only [df_put]; exact hdf49
              have l2_52 := lookE hA52 2 (es rfl (es rfl (et rfl)))
              have l3_52 := lookE hA52 3 (es rfl (et rfl))
              have l4_52 := lookE hA52 4 (et rfl)
              clear hA52 hsz49 hdf49 l2_49 l5_49 l6_49 l13_49 l14_49 l15_49 l24_49 l25_49 l26_49 l29_49 l30_49 l31_49 l34_49 l35_49 l36_49 l37_49
              have hS53 : St w NoX [] w48 := hS48.sel [] (by decide) rfl
              refine then_n (hK51 _ _ ?_)
              clear hK51
              refine wp_ret ?_
              refine then_ret ?_
              refine inb_ret ?_
              refine then_ret ?_
              refine then_ret ?_
              refine inb_ret ?_
              refine then_ret ?_
              refine ret_in (results_3 Try.results38 (rv_tmp l2_52) (rv_tmp l3_52) (rv_tmp l4_52)) hdf52 ?_
              -- leaf FTFFFT
              obtain ⟨c54, hc54, hS54⟩ := St.mnil (k := .i64) hS53
              replace hc54 : c54 = mi (.map none) [] := hc54
              have h := mv_bad hz hy23 (by unfold badM; omega)
              rw [h]
              exact ⟨_, rfl, (hS54.fin1 0 rfl (hc54.trans (by rw [wyM_err (by rw [h]; simp)] <;> rfl)))⟩
            · skip
              refine wp_skip ?_
              refine then_n (hK27 _ _ ?_)
              clear hK27
              refine wp_seq_k (fun K55 hK55 => ?_)
              refine wp_seq_k (fun K56 hK56 => ?_)
              -- region 9
              refine region_in ?_
              refine W_v rfl rfl (V_mov rfl l2_49) ?_
              refine W_v rfl rfl (V_fa (off' := 0) rfl (es rfl l6_49) Try.underlying39 rfl (by decide) rfl) ?_
              refine W_r rfl rfl (VR_ldC rfl (et rfl) (cell_box (v := .int .i64 (y23.1)) (hS48.obj 0 rfl hc25) rfl) Try.underlying3 rfl) ?_
              refine W_r rfl rfl (VR_lookI rfl (es rfl (es rfl (et rfl))) (et rfl) (hS48.chq 1 rfl hc11_16) Try.underlying57 Try.underlying3 (by kernel_rfl)) ?_
              refine W_v rfl rfl (V_mov rfl (et rfl)) ?_
              refine W_v rfl rfl (V_ext (v := .int .i64 ((lkN (ms.take k) y23.1))) rfl (et rfl) rfl) ?_
              refine W_v rfl rfl (V_ext (v := .bool ((lkB (ms.take k) y23.1))) rfl (es rfl (et rfl)) rfl) ?_
              refine W_v rfl rfl (V_asg rfl (es rfl (et rfl))) ?_
              refine W_v rfl rfl (V_asg rfl (es rfl (et rfl))) ?_
              refine W_end ?_
              refine gen_Q (fun A57 hA57 => ?_)
              have hsz57 : SzN A57 55 := by rw [hA57]; infer_instance
              have hdf57 : A57.defers = [] := by rw [hA57]; simp only [df_put]; exact hdf49
              have l2_57 := lookE hA57 2 (es rfl (es rfl (es rfl (es rfl (es rfl (es rfl (es rfl (es rfl (es rfl l2_49)))))))))
              have l5_57 := lookE hA57 5 (es rfl (es rfl (es rfl (es rfl (es rfl (es rfl (es rfl (es rfl (es rfl l5_49)))))))))
              have l6_57 := lookE hA57 6 (es rfl (es rfl (es rfl (es rfl (es rfl (es rfl (es rfl (es rfl (es rfl l6_49)))))))))
              have l8_57 := lookE hA57 8 (et rfl)
              have l13_57 := lookE hA57 13 (es rfl (es rfl (es rfl (es rfl (es rfl (es rfl (es rfl (es rfl (es rfl l13_49)))))))))
              have l14_57 := lookE hA57 14 (es rfl (es rfl (es rfl (es rfl (es rfl (es rfl (es rfl (es rfl (es rfl l14_49)))))))))
              have l15_57 := lookE hA57 15 (es rfl (es rfl (es rfl (es rfl (es rfl (es rfl (es rfl (es rfl (es rfl l15_49)))))))))
              have l24_57 := lookE hA57 24 (es rfl (es rfl (es rfl (es rfl (es rfl (es rfl (es rfl (es rfl (es rfl l24_49)))))))))
              have l25_57 := lookE hA57 25 (es rfl (es rfl (es rfl (es rfl (es rfl (es rfl (es rfl (es rfl (es rfl l25_49)))))))))
              have l26_57 := lookE hA57 26 (es rfl (es rfl (es rfl (es rfl (es rfl (es rfl (es rfl (es rfl (es rfl l26_49)))))))))
              have l29_57 := lookE hA57 29 (es rfl (es rfl (es rfl (es rfl (es rfl (es rfl (es rfl (es rfl (es rfl l29_49)))))))))
              have l30_57 := lookE hA57 30 (es rfl (es rfl (es rfl (es rfl (es rfl (es rfl (es rfl (es rfl (es rfl l30_49)))))))))
              have l31_57 := lookE hA57 31 (es rfl (es rfl (es rfl (es rfl (es rfl (es rfl (es rfl (es rfl (es rfl l31_49)))))))))
              have l34_57 := lookE hA57 34 (es rfl (es rfl (es rfl (es rfl (es rfl (es rfl (es rfl (es rfl (es rfl l34_49)))))))))
              have l35_57 := lookE hA57 35 (es rfl (es rfl (es rfl (es rfl (es rfl (es rfl (es rfl (es rfl (es rfl l35_49)))))))))
              have l36_57 := lookE hA57 36 (es rfl (es rfl (es rfl (es rfl (es rfl (es rfl (es rfl (es rfl (es rfl l36_49)))))))))
              clear hA57 hsz49 hdf49 l2_49 l5_49 l6_49 l13_49 l14_49 l15_49 l24_49 l25_49 l26_49 l29_49 l30_49 l31_49 l34_49 l35_49 l36_49 l37_49
              refine then_n (hK56 _ _ ?_)
              clear hK56
              refine wp_seq_k (fun K58 hK58 => ?_)
              -- region 10
              refine region_in ?_
              refine W_v rfl rfl (V_mov rfl l8_57) ?_
              refine W_end ?_
              refine gen_Q (fun A59 hA59 => ?_)
              have hsz59 : SzN A59 55 := by rw [hA59]; infer_instance
              have hdf59 : A59.defers = [] := by rw [hA59]; simp only [df_put]; exact hdf57
              have l2_59 := lookE hA59 2 (es rfl l2_57)
              have l5_59 := lookE hA59 5 (es rfl l5_57)
              have l6_59 := lookE hA59 6 (es rfl l6_57)
              have l13_59 := lookE hA59 13 (es rfl l13_57)
              have l14_59 := lookE hA59 14 (es rfl l14_57)
              have l15_59 := lookE hA59 15 (es rfl l15_57)
              have l24_59 := lookE hA59 24 (es rfl l24_57)
              have l25_59 := lookE hA59 25 (es rfl l25_57)
              have l26_59 := lookE hA59 26 (es rfl l26_57)
              have l29_59 := lookE hA59 29 (es rfl l29_57)
              have l30_59 := lookE hA59 30 (es rfl l30_57)
              have l31_59 := lookE hA59 31 (es rfl l31_57)
              have l34_59 := lookE hA59 34 (es rfl l34_57)
              have l35_59 := lookE hA59 35 (es rfl l35_57)
              have l36_59 := lookE hA59 36 (es rfl l36_57)
              have l46_59 := lookE hA59 46 (et rfl)
              clear hA59 hsz57 hdf57 l2_57 l5_57 l6_57 l8_57 l13_57 l14_57 l15_57 l24_57 l25_57 l26_57 l29_57 l30_57 l31_57 l34_57 l35_57 l36_57
              refine then_n (hK58 _ _ ?_)
              clear hK58
              refine cond_b l46_59 (fun c60 => ?_) (fun c60 => ?_)
              · skip
                refine wp_seq_k (fun K61 hK61 => ?_)
                -- region 11
                refine region_in ?_
                refine W_v rfl rfl (V_mov rfl l5_59) ?_
                refine W_v rfl rfl (V_asg rfl rfl) ?_
                refine W_v rfl rfl (V_asg rfl (es rfl (et rfl))) ?_
                refine W_v rfl rfl (V_asg rfl rfl) ?_
                refine W_end ?_
                refine gen_Q (fun A62 hA62 => ?_)
                have hsz62 : SzN A62 55 := by rw [hA62]; infer_instance
                have hdf62 : A62.defers = [] := by rw [hA62]; simp only [df_put]; exact hdf59
                have l2_62 := lookE hA62 2 (es rfl (es rfl (et rfl)))
                have l3_62 := lookE hA62 3 (es rfl (et rfl))
                have l4_62 := lookE hA62 4 (et rfl)
                clear hA62 hsz59 hdf59 l2_59 l5_59 l6_59 l13_59 l14_59 l15_59 l24_59 l25_59 l26_59 l29_59 l30_59 l31_59 l34_59 l35_59 l36_59 l46_59
                have hS63 : St w NoX [] w48 := hS48.sel [] (by decide) rfl
                refine then_n (hK61 _ _ ?_)
                clear hK61
                refine wp_ret ?_
                refine then_ret ?_
                refine inb_ret ?_
                refine then_ret ?_
                refine then_ret ?_
                refine inb_ret ?_
                refine then_ret ?_
                refine ret_in (results_3 Try.results38 (rv_tmp l2_62) (rv_tmp l3_62) (rv_tmp l4_62)) hdf62 ?_
                -- leaf FTFFFFT
                obtain ⟨c64, hc64, hS64⟩ := St.mnil (k := .i64) hS63
                replace hc64 : c64 = mi (.map none) [] := hc64
                have h := mv_twice hz hy23 (by unfold badM; omega) (lkB_in c60)
                rw [h]
                exact ⟨_, rfl, (hS64.fin1 0 rfl (hc64.trans (by rw [wyM_err (by rw [h]; simp)] <;> rfl)))⟩
              · skip
                refine wp_skip ?_
                refine then_n (hK55 _ _ ?_)
                clear hK55
                -- region 12
                refine region_in ?_
                refine W_v rfl rfl (V_mov rfl l2_59) ?_
                refine W_v rfl rfl (V_fa (off' := 0) rfl (es rfl l6_59) Try.underlying39 rfl (by decide) rfl) ?_
                refine W_r rfl rfl (VR_ldC rfl (et rfl) (cell_box (v := .int .i64 (y23.1)) (hS48.obj 0 rfl hc25) rfl) Try.underlying3 rfl) ?_
                refine W_v rfl rfl (V_fa (off' := 1) rfl (es rfl (es rfl (es rfl l6_59))) Try.underlying39 rfl (by decide) rfl) ?_
                refine W_r rfl rfl (VR_ldC rfl (et rfl) (cell_box (v := .int .i64 (y23.2)) (hS48.obj 0 rfl hc25) rfl) Try.underlying3 rfl) ?_
                refine W_mapNewI 1 hS48 rfl hc11_16 rfl rfl rfl rfl (es rfl (es rfl (es rfl (es rfl (et rfl))))) (es rfl (es rfl (et rfl))) (et rfl) Try.underlying57 Try.underlying3 (c60) (fun w65 c65 hc65 hS65 => ?_)
                replace hc65 : c65 = mi (.map (some g11)) ((ms.take k) ++ [(y23.1, y23.2)]) := hc65
                replace hS65 : St w NoX [c25, c65] w65 := hS65
                refine W_end ?_
                refine gen_Q (fun A66 hA66 => ?_)
                have hsz66 : SzN A66 55 := by rw [hA66]; infer_instance
                have hdf66 : A66.defers = [] := by rw [hA66]; simp only [df_put]; exact hdf59
                have l2_66 := lookE hA66 2 (es rfl (es rfl (es rfl (es rfl (es rfl l2_59)))))
                have l13_66 := lookE hA66 13 (es rfl (es rfl (es rfl (es rfl (es rfl l13_59)))))
                have l14_66 := lookE hA66 14 (es rfl (es rfl (es rfl (es rfl (es rfl l14_59)))))
                have l15_66 := lookE hA66 15 (es rfl (es rfl (es rfl (es rfl (es rfl l15_59)))))
                have l24_66 := lookE hA66 24 (es rfl (es rfl (es rfl (es rfl (es rfl l24_59)))))
                have l25_66 := lookE hA66 25 (es rfl (es rfl (es rfl (es rfl (es rfl l25_59)))))
                have l26_66 := lookE hA66 26 (es rfl (es rfl (es rfl (es rfl (es rfl l26_59)))))
                have l29_66 := lookE hA66 29 (es rfl (es rfl (es rfl (es rfl (es rfl l29_59)))))
                have l30_66 := lookE hA66 30 (es rfl (es rfl (es rfl (es rfl (es rfl l30_59)))))
                have l31_66 := lookE hA66 31 (es rfl (es rfl (es rfl (es rfl (es rfl l31_59)))))
                have l34_66 := lookE hA66 34 (es rfl (es rfl (es rfl (es rfl (es rfl l34_59)))))
                have l35_66 := lookE hA66 35 (es rfl (es rfl (es rfl (es rfl (es rfl l35_59)))))
                have l36_66 := lookE hA66 36 (es rfl (es rfl (es rfl (es rfl (es rfl l36_59)))))
                clear hA66 hsz59 hdf59 l2_59 l5_59 l6_59 l13_59 l14_59 l15_59 l24_59 l25_59 l26_59 l29_59 l30_59 l31_59 l34_59 l35_59 l36_59 l46_59
                refine inb_n ?_
                refine then_n (hK21 _ _ ?_)
                clear hK21
                -- region 13
                refine region_in ?_
                refine W_v rfl rfl (V_add rfl l15_66 rfl (by omega) (by omega)) ?_
                refine W_v rfl rfl (V_mov rfl (et rfl)) ?_
                refine W_end ?_
                refine gen_Q (fun A67 hA67 => ?_)
                have hsz67 : SzN A67 55 := by rw [hA67]; infer_instance
                have hdf67 : A67.defers = [] := by rw [hA67]; simp only [df_put]; exact hdf66
                have l2_67 := lookE hA67 2 (es rfl (es rfl l2_66))
                have l13_67 := lookE hA67 13 (es rfl (es rfl l13_66))
                have l14_67 := lookE hA67 14 (es rfl (es rfl l14_66))
                have l15_67 := lookE hA67 15 (et rfl)
                have l24_67 := lookE hA67 24 (es rfl (es rfl l24_66))
                have l25_67 := lookE hA67 25 (es rfl (es rfl l25_66))
                have l26_67 := lookE hA67 26 (es rfl (es rfl l26_66))
                have l29_67 := lookE hA67 29 (es rfl (es rfl l29_66))
                have l30_67 := lookE hA67 30 (es rfl (es rfl l30_66))
                have l31_67 := lookE hA67 31 (es rfl (es rfl l31_66))
                have l34_67 := lookE hA67 34 (es rfl (es rfl l34_66))
                have l35_67 := lookE hA67 35 (es rfl (es rfl l35_66))
                have l36_67 := lookE hA67 36 (es rfl (es rfl l36_66))
                clear hA67 hsz66 hdf66 l2_66 l13_66 l14_66 l15_66 l24_66 l25_66 l26_66 l29_66 l30_66 l31_66 l34_66 l35_66 l36_66
                have hS68 : St w NoX [c65] w65 := hS65.sel [1] (by decide) rfl
                refine then_n ⟨ms.length - (k + 1), by simp only [hm16]; omega, hsz67, hdf67, (k + 1), rfl, (by omega), (mv_step hz hy23 (by unfold badM; omega) (lkB_out c60)), ((l15_67).trans (by first | rfl | (simp; done) | (congr 1; omega))), ((l2_67).trans l2_15.symm), ((l13_67).trans l13_15.symm), ((l14_67).trans l14_15.symm), (by have q0 : c65 = mi (.map (some g11)) (ms.take (k + 1)) := hc65.trans ((congrArg (mi _) (take_pair hy23))); subst q0; exact hS68)⟩
    · skip
      refine wp_exit ?_
      refine then_exit ?_
      refine then_exit ?_
      refine inb_hit ?_
      refine then_n (hK13 _ _ ?_)
      clear hK13
      refine wp_seq_k (fun K69 hK69 => ?_)
      -- region 14
      refine region_in ?_
      refine W_v rfl rfl (V_mov rfl l2_18) ?_
      refine W_v rfl rfl (V_asg rfl (et rfl)) ?_
      refine W_v rfl rfl (V_asg rfl rfl) ?_
      refine W_v rfl rfl (V_asg rfl rfl) ?_
      refine W_end ?_
      refine gen_Q (fun A70 hA70 => ?_)
      have hsz70 : SzN A70 55 := by rw [hA70]; infer_instance
      have hdf70 : A70.defers = [] := by rw [hA70]; simp only [df_put]; exact hdf18
      have l2_70 := lookE hA70 2 (es rfl (es rfl (et rfl)))
      have l3_70 := lookE hA70 3 (es rfl (et rfl))
      have l4_70 := lookE hA70 4 (et rfl)
      clear hA70 hsz18 hdf18 l2_18 l13_18 l14_18 l15_18 l16_18
      refine then_n (hK69 _ _ ?_)
      clear hK69
      refine wp_ret ?_
      refine ret_in (results_3 Try.results38 (rv_tmp l2_70) (rv_tmp l3_70) (rv_tmp l4_70)) hdf70 ?_
      -- leaf FF
      have h := mv_done hz (by omega)
      rw [h]
      exact ⟨_, rfl, (hS16.fin1 0 rfl (hc11_16.trans (by rw [wyM_ok (by rw [h]), List.take_of_length_le (by omega)])))⟩

set_option maxHeartbeats 4000000 in
theorem kMs_c {mv : Value} {ms : List (Int × Int)} {w : World} (h_mv : Ro w NoX (rl 2 mvC mv ms))  :
    Calls Try.prog 18 #[mv] w fun e w' => e = .returned (.tuple #[.int .i64 (mvR ms).1, .int .i64 (mvR ms).2]) ∧ St w NoX [] w' := by
  refine calls_in 12 Try.func18 rfl rfl (by simp) (fun A0 hsz0 hdf0 hargs => ?_)
  have l0_0 := hargs 0 (mv) rfl
  clear hargs; replace hsz0 : SzN A0 12 := ⟨hsz0⟩
  have hS := St.nil w
  have bh_mv := SlN.le (sl_SlN h_mv.at)
  refine wp_seq_k (fun K1 hK1 => ?_)
  -- region 0
  refine region_in ?_
  refine W_v rfl rfl (V_asg rfl rfl) ?_
  refine W_v rfl rfl (V_asg rfl rfl) ?_
  refine W_end ?_
  refine gen_Q (fun A2 hA2 => ?_)
  have hsz2 : SzN A2 12 := by rw [hA2]; infer_instance
  have hdf2 : A2.defers = [] := by rw [hA2]; simp only [df_put]; exact hdf0
  have l0_2 := lookE hA2 0 (es rfl (es rfl l0_0))
  clear hA2 hsz0 hdf0 l0_0
  refine then_n (hK1 _ _ ?_)
  clear hK1
  refine wp_seq_k (fun K3 hK3 => ?_)
  -- region 1
  refine region_in ?_
  refine W_v rfl rfl (V_mov rfl l0_2) ?_
  refine W_call rfl rfl rfl Try.func38 (by kernel_rfl) rfl (args1 (et rfl)) (kwy_c (hS.roC h_mv) ) ?_
  rintro _ w4 ⟨v_4, rfl, hP4⟩
  refine ⟨_, rfl, ?_⟩
  obtain ⟨c_4, hc_4, hP4⟩ := gen1 hP4
  have hS4 := hS.join hP4
  replace hS4 : St w NoX [c_4] w4 := hS4
  refine W_v rfl rfl (V_mov rfl (et rfl)) ?_
  refine W_v rfl rfl (V_ext (v := v_4) rfl (et rfl) rfl) ?_
  refine W_v rfl rfl (V_ext (v := .int .i64 ((mvR ms).1)) rfl (es rfl (et rfl)) rfl) ?_
  refine W_v rfl rfl (V_ext (v := .int .i64 ((mvR ms).2)) rfl (es rfl (es rfl (et rfl))) rfl) ?_
  refine W_v rfl rfl (V_asg rfl (es rfl (et rfl))) ?_
  refine W_v rfl rfl (V_asg rfl (es rfl (et rfl))) ?_
  refine W_end ?_
  refine gen_Q (fun A5 hA5 => ?_)
  have hsz5 : SzN A5 12 := by rw [hA5]; infer_instance
  have hdf5 : A5.defers = [] := by rw [hA5]; simp only [df_put]; exact hdf2
  have l2_5 := lookE hA5 2 (es rfl (et rfl))
  have l3_5 := lookE hA5 3 (et rfl)
  clear hA5 hsz2 hdf2 l0_2
  have hS6 : St w NoX [] w4 := hS4.sel [] (by decide) rfl
  refine then_n (hK3 _ _ ?_)
  clear hK3
  refine wp_seq_k (fun K7 hK7 => ?_)
  -- region 2
  refine region_in ?_
  refine W_v rfl rfl (V_mov rfl l2_5) ?_
  refine W_v rfl rfl (V_mov rfl (es rfl l3_5)) ?_
  refine W_v rfl rfl (V_asg rfl (es rfl (et rfl))) ?_
  refine W_v rfl rfl (V_asg rfl (es rfl (et rfl))) ?_
  refine W_end ?_
  refine gen_Q (fun A8 hA8 => ?_)
  have hsz8 : SzN A8 12 := by rw [hA8]; infer_instance
  have hdf8 : A8.defers = [] := by rw [hA8]; simp only [df_put]; exact hdf5
  have l2_8 := lookE hA8 2 (es rfl (et rfl))
  have l3_8 := lookE hA8 3 (et rfl)
  clear hA8 hsz5 hdf5 l2_5 l3_5
  refine then_n (hK7 _ _ ?_)
  clear hK7
  refine wp_ret ?_
  refine ret_in (results_2 Try.results18 (rv_tmp l2_8) (rv_tmp l3_8)) hdf8 ?_
  -- leaf 
  exact ⟨rfl, hS6.fin0⟩

set_option maxHeartbeats 4000000 in
theorem qMs_c {mv : Value} {ms : List (Int × Int)} {w : World} (h_mv : Ro w NoX (rl 2 mvC mv ms))  :
    Calls Try.prog 19 #[mv] w fun e w' => e = .returned (.tuple #[.int .i64 (mvR ms).1, .int .i64 (mvR ms).2]) ∧ St w NoX [] w' := by
  refine calls_in 63 Try.func19 rfl rfl (by simp) (fun A0 hsz0 hdf0 hargs => ?_)
  have l0_0 := hargs 0 (mv) rfl
  clear hargs; replace hsz0 : SzN A0 63 := ⟨hsz0⟩
  have hS := St.nil w
  have bh_mv := SlN.le (sl_SlN h_mv.at)
  refine wp_seq_k (fun K1 hK1 => ?_)
  -- region 0
  refine region_in ?_
  refine W_v rfl rfl (V_asg rfl rfl) ?_
  refine W_v rfl rfl (V_asg rfl rfl) ?_
  refine W_end ?_
  refine gen_Q (fun A2 hA2 => ?_)
  have hsz2 : SzN A2 63 := by rw [hA2]; infer_instance
  have hdf2 : A2.defers = [] := by rw [hA2]; simp only [df_put]; exact hdf0
  have l0_2 := lookE hA2 0 (es rfl (es rfl l0_0))
  clear hA2 hsz0 hdf0 l0_0
  refine then_n (hK1 _ _ ?_)
  clear hK1
  refine wp_seq_k (fun K3 hK3 => ?_)
  refine wp_seq_k (fun K4 hK4 => ?_)
  -- region 1
  refine region_in ?_
  refine W_v rfl rfl (V_mov rfl l0_2) ?_
  refine W_v rfl rfl (V_lenS rfl (et rfl) (sl_SlN h_mv.at) Try.underlying33) ?_
  refine W_v rfl rfl (V_gtr rfl (et rfl) rfl) ?_
  refine W_end ?_
  refine gen_Q (fun A5 hA5 => ?_)
  have hsz5 : SzN A5 63 := by rw [hA5]; infer_instance
  have hdf5 : A5.defers = [] := by rw [hA5]; simp only [df_put]; exact hdf2
  have l0_5 := lookE hA5 0 (es rfl (es rfl (es rfl l0_2)))
  have l8_5 := lookE hA5 8 (et rfl)
  clear hA5 hsz2 hdf2 l0_2
  refine then_n (hK4 _ _ ?_)
  clear hK4
  refine cond_dec l8_5 (fun c6 => ?_) (fun c6 => ?_)
  · skip
    refine wp_seq_k (fun K7 hK7 => ?_)
    -- region 2
    refine region_in ?_
    refine W_v rfl rfl (V_asg rfl rfl) ?_
    refine W_v rfl rfl (V_asg rfl rfl) ?_
    refine W_end ?_
    refine gen_Q (fun A8 hA8 => ?_)
    have hsz8 : SzN A8 63 := by rw [hA8]; infer_instance
    have hdf8 : A8.defers = [] := by rw [hA8]; simp only [df_put]; exact hdf5
    have l2_8 := lookE hA8 2 (es rfl (et rfl))
    have l3_8 := lookE hA8 3 (et rfl)
    clear hA8 hsz5 hdf5 l0_5 l8_5
    refine then_n (hK7 _ _ ?_)
    clear hK7
    refine wp_ret ?_
    refine then_ret ?_
    refine ret_in (results_2 Try.results19 (rv_tmp l2_8) (rv_tmp l3_8)) hdf8 ?_
    -- leaf T
    have h := mvR_long c6
    rw [h]
    exact ⟨rfl, hS.fin0⟩
  · skip
    refine wp_skip ?_
    refine then_n (hK3 _ _ ?_)
    clear hK3
    refine wp_seq_k (fun K9 hK9 => ?_)
    -- region 3
    refine region_in ?_
    refine W_mkS (z := .bool false) (bytes := 1) 1601 hS rfl rfl rfl rfl rfl (by omega) Try.underlying60 (by kernel_rfl) (by omega) rfl (fun v10 w10 c10 hc10 hS10 => ?_)
    replace hc10 : c10 = bo v10 (List.replicate 1601 false) := hc10.trans (by simp only [io, bo, List.map_replicate, List.length_replicate])
    replace hS10 : St w NoX [c10] w10 := hS10
    refine W_v rfl rfl (V_asg rfl (et rfl)) ?_
    refine W_end ?_
    refine gen_Q (fun A11 hA11 => ?_)
    have hsz11 : SzN A11 63 := by rw [hA11]; infer_instance
    have hdf11 : A11.defers = [] := by rw [hA11]; simp only [df_put]; exact hdf5
    have l0_11 := lookE hA11 0 (es rfl (es rfl l0_5))
    have l4_11 := lookE hA11 4 (et rfl)
    clear hA11 hsz5 hdf5 l0_5 l8_5
    refine then_n (hK9 _ _ ?_)
    clear hK9
    refine wp_seq_k (fun K12 hK12 => ?_)
    refine wp_seq_k (fun K13 hK13 => ?_)
    -- region 4
    refine region_in ?_
    refine W_v rfl rfl (V_asg rfl rfl) ?_
    refine W_end ?_
    refine gen_Q (fun A14 hA14 => ?_)
    have hsz14 : SzN A14 63 := by rw [hA14]; infer_instance
    have hdf14 : A14.defers = [] := by rw [hA14]; simp only [df_put]; exact hdf11
    have l0_14 := lookE hA14 0 (es rfl l0_11)
    have l4_14 := lookE hA14 4 (es rfl l4_11)
    have l5_14 := lookE hA14 5 (et rfl)
    clear hA14 hsz11 hdf11 l0_11 l4_11
    refine then_n (hK13 _ _ ?_)
    clear hK13
    refine wp_block ?_
    -- loop 5
    have hml := fun k => metT_len (ms.take k)
    refine loopX (fun mz A' w' => SzN A' 63 ∧ A'.defers = [] ∧ (∃ (k : Nat), (mz = ms.length - k) ∧ (k ≤ ms.length) ∧ (mvR ms = mvGo (fsts (ms.take k)) (ms.drop k) k) ∧ (EV A' (.tmp 5) = .int .i64 (k : Int)) ∧ (EV A' (.tmp 0) = EV A14 (.tmp 0)) ∧ (EV A' (.tmp 4) = EV A14 (.tmp 4)) ∧ (St w NoX [bo v10 (metT (ms.take k))] w'))) (ms.length - 0) ⟨hsz14, hdf14, 0, rfl, (by omega), (mvR_init (by omega)), ((l5_14).trans (by first | rfl | (simp; done) | (congr 1; omega))), rfl, rfl, (by have q0 : c10 = bo v10 (metT (ms.take 0)) := hc10.trans ((congrArg (bo _) (metT_nil ms))); subst q0; exact hS10)⟩ ?_
    clear hS10 hc10
    rintro n15 A15 w15 ⟨hsz15, hdf15, k, hm15, hk, hz, l5_15, u0_15, u4_15, hS15⟩
    have l0_15 := u0_15.trans l0_14
    have l4_15 := u4_15.trans l4_14
    obtain ⟨c10_15, hc10_15, hS15⟩ := gen1 hS15
    refine wp_seq_k (fun K16 hK16 => ?_)
    refine wp_seq_k (fun K17 hK17 => ?_)
    -- region 5
    refine region_in ?_
    refine W_v rfl rfl (V_mov rfl l5_15) ?_
    refine W_v rfl rfl (V_mov rfl (es rfl l0_15)) ?_
    refine W_v rfl rfl (V_lenS rfl (et rfl) (sl_SlN h_mv.at) Try.underlying33) ?_
    refine W_v rfl rfl (V_lss rfl (es rfl (es rfl (et rfl))) (et rfl)) ?_
    refine W_end ?_
    refine gen_Q (fun A18 hA18 => ?_)
    have hsz18 : SzN A18 63 := by rw [hA18]; infer_instance
    have hdf18 : A18.defers = [] := by rw [hA18]; simp only [df_put]; exact hdf15
    have l0_18 := lookE hA18 0 (es rfl (es rfl (es rfl (es rfl l0_15))))
    have l4_18 := lookE hA18 4 (es rfl (es rfl (es rfl (es rfl l4_15))))
    have l5_18 := lookE hA18 5 (es rfl (es rfl (es rfl (es rfl l5_15))))
    have l13_18 := lookE hA18 13 (et rfl)
    clear hA18 hsz15 hdf15 l5_15 l0_15 l4_15
    refine then_n (hK17 _ _ ?_)
    clear hK17
    refine cond_dec l13_18 (fun c19 => ?_) (fun c19 => ?_)
    · skip
      refine wp_skip ?_
      refine then_n (hK16 _ _ ?_)
      clear hK16
      refine wp_seq_k (fun K20 hK20 => ?_)
      refine wp_block ?_
      refine wp_seq_k (fun K21 hK21 => ?_)
      refine wp_seq_k (fun K22 hK22 => ?_)
      -- region 7
      refine region_in ?_
      refine W_v rfl rfl (V_mov rfl l0_18) ?_
      refine W_v rfl rfl (V_mov rfl (es rfl l5_18)) ?_
      have k23 : k < ms.length := by first | omega | (simp only [List.length_cons, List.length_nil]; omega)
      obtain ⟨y23, hy23⟩ := get_some (xs := ms) (k := k) k23
      obtain ⟨B23, O23, C23, hv23⟩ := (SlN.blk (sl_SlN h_mv.at) (by first | omega | (simp only [List.length_cons, List.length_nil]; omega)))
      refine W_v rfl rfl (V_ixS (off := O23 + k * 2) 2 (k) rfl (es rfl (et rfl)) (et rfl) hv23 (by omega) k23 Try.underlying33 (by kernel_rfl) rfl) ?_
      refine W_v rfl rfl (V_fa (off' := O23 + k * 2 + 0) rfl (et rfl) Try.underlying39 rfl (by decide) rfl) ?_
      refine W_r rfl rfl (VR_ldC (v := .int .i64 (y23.1)) rfl (et rfl) (SlN.row mvC_len (sl_SlN (hS15.ro h_mv)) hv23 hy23 rfl 0 _ rfl) Try.underlying3 rfl) ?_
      refine W_v rfl rfl (V_lss rfl (et rfl) rfl) ?_
      refine W_split rfl rfl (V_mov rfl (et rfl)) (fun c24 => ?_) (fun c24 => ?_)
      · skip
        refine W_off rfl (wanted_f rfl rfl (et rfl) (ez rfl) rfl) ?_
        refine W_off rfl (wanted_f rfl rfl (es rfl (et rfl)) (ez rfl) rfl) ?_
        refine W_off rfl (wanted_f rfl rfl (es rfl (es rfl (et rfl))) (ez rfl) rfl) ?_
        refine W_off rfl (wanted_f rfl rfl (es rfl (es rfl (es rfl (et rfl)))) (ez rfl) rfl) ?_
        refine W_off rfl (wanted_f rfl rfl (es rfl (es rfl (es rfl (es rfl (et rfl))))) (ez rfl) rfl) ?_
        refine W_off rfl (wanted_f rfl rfl (es rfl (es rfl (es rfl (es rfl (es rfl (et rfl)))))) (ez rfl) rfl) ?_
        refine W_v rfl rfl (V_pickT rfl (es rfl (es rfl (es rfl (es rfl (es rfl (es rfl (et rfl))))))) rfl) ?_
        refine W_v rfl rfl (V_mov rfl (et rfl)) ?_
        refine W_off rfl (wanted_f rfl rfl (et rfl) (ez rfl) rfl) ?_
        refine W_off rfl (wanted_f rfl rfl (es rfl (et rfl)) (ez rfl) rfl) ?_
        refine W_off rfl (wanted_f rfl rfl (es rfl (es rfl (et rfl))) (ez rfl) rfl) ?_
        refine W_off rfl (wanted_f rfl rfl (es rfl (es rfl (es rfl (et rfl)))) (ez rfl) rfl) ?_
        refine W_off rfl (wanted_f rfl rfl (es rfl (es rfl (es rfl (es rfl (et rfl))))) (ez rfl) rfl) ?_
        refine W_off rfl (wanted_f rfl rfl (es rfl (es rfl (es rfl (es rfl (es rfl (et rfl)))))) (ez rfl) rfl) ?_
        refine W_v rfl rfl (V_pickT rfl (es rfl (es rfl (es rfl (es rfl (es rfl (es rfl (et rfl))))))) rfl) ?_
        refine W_v rfl rfl (V_mov rfl (et rfl)) ?_
        refine W_off rfl (wanted_f rfl rfl (et rfl) (ez rfl) rfl) ?_
        refine W_off rfl (wanted_f rfl rfl (es rfl (et rfl)) (ez rfl) rfl) ?_
        refine W_off rfl (wanted_f rfl rfl (es rfl (es rfl (et rfl))) (ez rfl) rfl) ?_
        refine W_off rfl (wanted_f rfl rfl (es rfl (es rfl (es rfl (et rfl)))) (ez rfl) rfl) ?_
        refine W_off rfl (wanted_f rfl rfl (es rfl (es rfl (es rfl (es rfl (et rfl))))) (ez rfl) rfl) ?_
        refine W_off rfl (wanted_f rfl rfl (es rfl (es rfl (es rfl (es rfl (es rfl (et rfl)))))) (ez rfl) rfl) ?_
        refine W_v rfl rfl (V_pickT rfl (es rfl (es rfl (es rfl (es rfl (es rfl (es rfl (et rfl))))))) rfl) ?_
        refine W_end ?_
        refine gen_Q (fun A25 hA25 => ?_)
        have hsz25 : SzN A25 63 := by rw [hA25]; infer_instance
        have hdf25 : A25.defers = [] := by rw [hA25]; simp only [df_put]; exact hdf18
        have l0_25 := lookE hA25 0 (es rfl (es rfl (es rfl (es rfl (es rfl (es rfl (es rfl (es rfl (es rfl (es rfl (es rfl (es rfl (es rfl (es rfl (es rfl (es rfl (es rfl (es rfl (es rfl (es rfl (es rfl (es rfl (es rfl (es rfl (es rfl (es rfl (es rfl (es rfl (es rfl (es rfl l0_18))))))))))))))))))))))))))))))
        have l4_25 := lookE hA25 4 (es rfl (es rfl (es rfl (es rfl (es rfl (es rfl (es rfl (es rfl (es rfl (es rfl (es rfl (es rfl (es rfl (es rfl (es rfl (es rfl (es rfl (es rfl (es rfl (es rfl (es rfl (es rfl (es rfl (es rfl (es rfl (es rfl (es rfl (es rfl (es rfl (es rfl l4_18))))))))))))))))))))))))))))))
        have l5_25 := lookE hA25 5 (es rfl (es rfl (es rfl (es rfl (es rfl (es rfl (es rfl (es rfl (es rfl (es rfl (es rfl (es rfl (es rfl (es rfl (es rfl (es rfl (es rfl (es rfl (es rfl (es rfl (es rfl (es rfl (es rfl (es rfl (es rfl (es rfl (es rfl (es rfl (es rfl (es rfl l5_18))))))))))))))))))))))))))))))
        have l23_25 := lookE hA25 23 (es rfl (es rfl (es rfl (es rfl (es rfl (es rfl (es rfl (es rfl (es rfl (es rfl (es rfl (es rfl (es rfl (es rfl (es rfl (es rfl (es rfl (es rfl (es rfl (es rfl (es rfl (es rfl (et rfl)))))))))))))))))))))))
        have l24_25 := lookE hA25 24 (es rfl (es rfl (es rfl (es rfl (es rfl (es rfl (es rfl (es rfl (es rfl (es rfl (es rfl (es rfl (es rfl (es rfl (es rfl (es rfl (es rfl (es rfl (es rfl (es rfl (es rfl (et rfl))))))))))))))))))))))
        have l25_25 := lookE hA25 25 (es rfl (es rfl (es rfl (es rfl (es rfl (es rfl (es rfl (es rfl (es rfl (es rfl (es rfl (es rfl (es rfl (es rfl (es rfl (es rfl (es rfl (es rfl (es rfl (es rfl (et rfl)))))))))))))))))))))
        have l26_25 := lookE hA25 26 (es rfl (es rfl (es rfl (es rfl (es rfl (es rfl (es rfl (es rfl (es rfl (es rfl (es rfl (es rfl (es rfl (es rfl (es rfl (es rfl (es rfl (es rfl (es rfl (et rfl))))))))))))))))))))
        have l27_25 := lookE hA25 27 (es rfl (es rfl (es rfl (es rfl (es rfl (es rfl (es rfl (es rfl (es rfl (es rfl (es rfl (es rfl (es rfl (es rfl (es rfl (es rfl (es rfl (es rfl (et rfl)))))))))))))))))))
        have l28_25 := lookE hA25 28 (es rfl (es rfl (es rfl (es rfl (es rfl (es rfl (es rfl (es rfl (es rfl (es rfl (es rfl (es rfl (es rfl (es rfl (es rfl (es rfl (es rfl (et rfl))))))))))))))))))
        have l31_25 := lookE hA25 31 (es rfl (es rfl (es rfl (es rfl (es rfl (es rfl (es rfl (es rfl (es rfl (es rfl (es rfl (es rfl (es rfl (es rfl (et rfl)))))))))))))))
        have l32_25 := lookE hA25 32 (es rfl (es rfl (es rfl (es rfl (es rfl (es rfl (es rfl (es rfl (es rfl (es rfl (es rfl (es rfl (es rfl (et rfl))))))))))))))
        have l33_25 := lookE hA25 33 (es rfl (es rfl (es rfl (es rfl (es rfl (es rfl (es rfl (es rfl (es rfl (es rfl (es rfl (es rfl (et rfl)))))))))))))
        have l34_25 := lookE hA25 34 (es rfl (es rfl (es rfl (es rfl (es rfl (es rfl (es rfl (es rfl (es rfl (es rfl (es rfl (et rfl))))))))))))
        have l35_25 := lookE hA25 35 (es rfl (es rfl (es rfl (es rfl (es rfl (es rfl (es rfl (es rfl (es rfl (es rfl (et rfl)))))))))))
        have l36_25 := lookE hA25 36 (es rfl (es rfl (es rfl (es rfl (es rfl (es rfl (es rfl (es rfl (es rfl (et rfl))))))))))
        have l39_25 := lookE hA25 39 (es rfl (es rfl (es rfl (es rfl (es rfl (es rfl (et rfl)))))))
        have l40_25 := lookE hA25 40 (es rfl (es rfl (es rfl (es rfl (es rfl (et rfl))))))
        have l41_25 := lookE hA25 41 (es rfl (es rfl (es rfl (es rfl (et rfl)))))
        have l42_25 := lookE hA25 42 (es rfl (es rfl (es rfl (et rfl))))
        have l43_25 := lookE hA25 43 (es rfl (es rfl (et rfl)))
        have l44_25 := lookE hA25 44 (es rfl (et rfl))
        have l45_25 := lookE hA25 45 (et rfl)
        clear hA25 hsz18 hdf18 l0_18 l4_18 l5_18 l13_18
        refine then_n (hK22 _ _ ?_)
        clear hK22
        refine cond_t l45_25 ?_
        refine wp_seq_k (fun K26 hK26 => ?_)
        -- region 8
        refine region_in ?_
        refine W_v rfl rfl (V_mov rfl l5_25) ?_
        refine W_v rfl rfl (V_asg rfl (et rfl)) ?_
        refine W_v rfl rfl (V_asg rfl rfl) ?_
        refine W_end ?_
        refine gen_Q (fun A27 hA27 => ?_)
        have hsz27 : SzN A27 63 := by rw [hA27]; infer_instance
        have hdf27 : A27.defers = [] := by rw [hA27]; simp only [df_put]; exact hdf25
        have l2_27 := lookE hA27 2 (es rfl (et rfl))
        have l3_27 := lookE hA27 3 (et rfl)
        clear hA27 hsz25 hdf25 l0_25 l4_25 l5_25 l23_25 l24_25 l25_25 l26_25 l27_25 l28_25 l31_25 l32_25 l33_25 l34_25 l35_25 l36_25 l39_25 l40_25 l41_25 l42_25 l43_25 l44_25 l45_25
        have hS28 : St w NoX [] w15 := hS15.sel [] (by decide) rfl
        refine then_n (hK26 _ _ ?_)
        clear hK26
        refine wp_ret ?_
        refine then_ret ?_
        refine inb_ret ?_
        refine then_ret ?_
        refine then_ret ?_
        refine inb_ret ?_
        refine then_ret ?_
        refine ret_in (results_2 Try.results19 (rv_tmp l2_27) (rv_tmp l3_27)) hdf27 ?_
        -- leaf FTT
        have h := mv_bad hz hy23 (by unfold badM; omega)
        rw [h]
        exact ⟨rfl, hS28.fin0⟩
      · skip
        refine W_v rfl (wanted_t rfl rfl (et rfl) (ez rfl)) (V_mov rfl (es rfl (es rfl (es rfl (es rfl (es rfl (es rfl (es rfl l0_18)))))))) ?_
        refine W_v rfl (wanted_t rfl rfl (es rfl (et rfl)) (ez rfl)) (V_mov rfl (es rfl (es rfl (es rfl (es rfl (es rfl (es rfl (es rfl (es rfl l5_18))))))))) ?_
        refine W_v rfl (wanted_t rfl rfl (es rfl (es rfl (et rfl))) (ez rfl)) (V_ixS (off := O23 + k * 2) 2 (k) rfl (es rfl (et rfl)) (et rfl) hv23 (by omega) k23 Try.underlying33 (by kernel_rfl) rfl) ?_
        refine W_v rfl (wanted_t rfl rfl (es rfl (es rfl (es rfl (et rfl)))) (ez rfl)) (V_fa (off' := O23 + k * 2 + 0) rfl (et rfl) Try.underlying39 rfl (by decide) rfl) ?_
        refine W_r rfl (wanted_t rfl rfl (es rfl (es rfl (es rfl (es rfl (et rfl))))) (ez rfl)) (VR_ldC (v := .int .i64 (y23.1)) rfl (et rfl) (SlN.row mvC_len (sl_SlN (hS15.ro h_mv)) hv23 hy23 rfl 0 _ rfl) Try.underlying3 rfl) ?_
        refine W_v rfl (wanted_t rfl rfl (es rfl (es rfl (es rfl (es rfl (es rfl (et rfl)))))) (ez rfl)) (V_gtr rfl (et rfl) rfl) ?_
        refine W_v rfl rfl (V_pickF rfl (es rfl (es rfl (es rfl (es rfl (es rfl (es rfl (et rfl))))))) (et rfl)) ?_
        refine W_split rfl rfl (V_mov rfl (et rfl)) (fun c30 => ?_) (fun c30 => ?_)
        · skip
          refine W_off rfl (wanted_f rfl rfl (et rfl) (ez rfl) rfl) ?_
          refine W_off rfl (wanted_f rfl rfl (es rfl (et rfl)) (ez rfl) rfl) ?_
          refine W_off rfl (wanted_f rfl rfl (es rfl (es rfl (et rfl))) (ez rfl) rfl) ?_
          refine W_off rfl (wanted_f rfl rfl (es rfl (es rfl (es rfl (et rfl)))) (ez rfl) rfl) ?_
          refine W_off rfl (wanted_f rfl rfl (es rfl (es rfl (es rfl (es rfl (et rfl))))) (ez rfl) rfl) ?_
          refine W_off rfl (wanted_f rfl rfl (es rfl (es rfl (es rfl (es rfl (es rfl (et rfl)))))) (ez rfl) rfl) ?_
          refine W_v rfl rfl (V_pickT rfl (es rfl (es rfl (es rfl (es rfl (es rfl (es rfl (et rfl))))))) rfl) ?_
          refine W_v rfl rfl (V_mov rfl (et rfl)) ?_
          refine W_off rfl (wanted_f rfl rfl (et rfl) (ez rfl) rfl) ?_
          refine W_off rfl (wanted_f rfl rfl (es rfl (et rfl)) (ez rfl) rfl) ?_
          refine W_off rfl (wanted_f rfl rfl (es rfl (es rfl (et rfl))) (ez rfl) rfl) ?_
          refine W_off rfl (wanted_f rfl rfl (es rfl (es rfl (es rfl (et rfl)))) (ez rfl) rfl) ?_
          refine W_off rfl (wanted_f rfl rfl (es rfl (es rfl (es rfl (es rfl (et rfl))))) (ez rfl) rfl) ?_
          refine W_off rfl (wanted_f rfl rfl (es rfl (es rfl (es rfl (es rfl (es rfl (et rfl)))))) (ez rfl) rfl) ?_
          refine W_v rfl rfl (V_pickT rfl (es rfl (es rfl (es rfl (es rfl (es rfl (es rfl (et rfl))))))) rfl) ?_
          refine W_end ?_
          refine gen_Q (fun A31 hA31 => ?_)
          have hsz31 : SzN A31 63 := by rw [hA31]; infer_instance
          have hdf31 : A31.defers = [] := by rw [hA31]; simp only [df_put]; exact hdf18
          have l0_31 := lookE hA31 0 (es rfl (es rfl (es rfl (es rfl (es rfl (es rfl (es rfl (es rfl (es rfl (es rfl (es rfl (es rfl (es rfl (es rfl (es rfl (es rfl (es rfl (es rfl (es rfl (es rfl (es rfl (es rfl (es rfl (es rfl (es rfl (es rfl (es rfl (es rfl (es rfl (es rfl l0_18))))))))))))))))))))))))))))))
          have l4_31 := lookE hA31 4 (es rfl (es rfl (es rfl (es rfl (es rfl (es rfl (es rfl (es rfl (es rfl (es rfl (es rfl (es rfl (es rfl (es rfl (es rfl (es rfl (es rfl (es rfl (es rfl (es rfl (es rfl (es rfl (es rfl (es rfl (es rfl (es rfl (es rfl (es rfl (es rfl (es rfl l4_18))))))))))))))))))))))))))))))
          have l5_31 := lookE hA31 5 (es rfl (es rfl (es rfl (es rfl (es rfl (es rfl (es rfl (es rfl (es rfl (es rfl (es rfl (es rfl (es rfl (es rfl (es rfl (es rfl (es rfl (es rfl (es rfl (es rfl (es rfl (es rfl (es rfl (es rfl (es rfl (es rfl (es rfl (es rfl (es rfl (es rfl l5_18))))))))))))))))))))))))))))))
          have l23_31 := lookE hA31 23 (es rfl (es rfl (es rfl (es rfl (es rfl (es rfl (es rfl (es rfl (es rfl (es rfl (es rfl (es rfl (es rfl (es rfl (es rfl (es rfl (es rfl (es rfl (es rfl (es rfl (es rfl (es rfl (et rfl)))))))))))))))))))))))
          have l24_31 := lookE hA31 24 (es rfl (es rfl (es rfl (es rfl (es rfl (es rfl (es rfl (es rfl (es rfl (es rfl (es rfl (es rfl (es rfl (es rfl (es rfl (es rfl (es rfl (es rfl (es rfl (es rfl (es rfl (et rfl))))))))))))))))))))))
          have l25_31 := lookE hA31 25 (es rfl (es rfl (es rfl (es rfl (es rfl (es rfl (es rfl (es rfl (es rfl (es rfl (es rfl (es rfl (es rfl (es rfl (es rfl (es rfl (es rfl (es rfl (es rfl (es rfl (et rfl)))))))))))))))))))))
          have l26_31 := lookE hA31 26 (es rfl (es rfl (es rfl (es rfl (es rfl (es rfl (es rfl (es rfl (es rfl (es rfl (es rfl (es rfl (es rfl (es rfl (es rfl (es rfl (es rfl (es rfl (es rfl (et rfl))))))))))))))))))))
          have l27_31 := lookE hA31 27 (es rfl (es rfl (es rfl (es rfl (es rfl (es rfl (es rfl (es rfl (es rfl (es rfl (es rfl (es rfl (es rfl (es rfl (es rfl (es rfl (es rfl (es rfl (et rfl)))))))))))))))))))
          have l28_31 := lookE hA31 28 (es rfl (es rfl (es rfl (es rfl (es rfl (es rfl (es rfl (es rfl (es rfl (es rfl (es rfl (es rfl (es rfl (es rfl (es rfl (es rfl (es rfl (et rfl))))))))))))))))))
          have l31_31 := lookE hA31 31 (es rfl (es rfl (es rfl (es rfl (es rfl (es rfl (es rfl (es rfl (es rfl (es rfl (es rfl (es rfl (es rfl (es rfl (et rfl)))))))))))))))
          have l32_31 := lookE hA31 32 (es rfl (es rfl (es rfl (es rfl (es rfl (es rfl (es rfl (es rfl (es rfl (es rfl (es rfl (es rfl (es rfl (et rfl))))))))))))))
          have l33_31 := lookE hA31 33 (es rfl (es rfl (es rfl (es rfl (es rfl (es rfl (es rfl (es rfl (es rfl (es rfl (es rfl (es rfl (et rfl)))))))))))))
          have l34_31 := lookE hA31 34 (es rfl (es rfl (es rfl (es rfl (es rfl (es rfl (es rfl (es rfl (es rfl (es rfl (es rfl (et rfl))))))))))))
          have l35_31 := lookE hA31 35 (es rfl (es rfl (es rfl (es rfl (es rfl (es rfl (es rfl (es rfl (es rfl (es rfl (et rfl)))))))))))
          have l36_31 := lookE hA31 36 (es rfl (es rfl (es rfl (es rfl (es rfl (es rfl (es rfl (es rfl (es rfl (et rfl))))))))))
          have l39_31 := lookE hA31 39 (es rfl (es rfl (es rfl (es rfl (es rfl (es rfl (et rfl)))))))
          have l40_31 := lookE hA31 40 (es rfl (es rfl (es rfl (es rfl (es rfl (et rfl))))))
          have l41_31 := lookE hA31 41 (es rfl (es rfl (es rfl (es rfl (et rfl)))))
          have l42_31 := lookE hA31 42 (es rfl (es rfl (es rfl (et rfl))))
          have l43_31 := lookE hA31 43 (es rfl (es rfl (et rfl)))
          have l44_31 := lookE hA31 44 (es rfl (et rfl))
          have l45_31 := lookE hA31 45 (et rfl)
          clear hA31 hsz18 hdf18 l0_18 l4_18 l5_18 l13_18
          refine then_n (hK22 _ _ ?_)
          clear hK22
          refine cond_t l45_31 ?_
          refine wp_seq_k (fun K32 hK32 => ?_)
          -- region 8
          refine region_in ?_
          refine W_v rfl rfl (V_mov rfl l5_31) ?_
          refine W_v rfl rfl (V_asg rfl (et rfl)) ?_
          refine W_v rfl rfl (V_asg rfl rfl) ?_
          refine W_end ?_
          refine gen_Q (fun A33 hA33 => ?_)
          have hsz33 : SzN A33 63 := by rw [hA33]; infer_instance
          have hdf33 : A33.defers = [] := by rw [hA33]; simp only [df_put]; exact hdf31
          have l2_33 := lookE hA33 2 (es rfl (et rfl))
          have l3_33 := lookE hA33 3 (et rfl)
          clear hA33 hsz31 hdf31 l0_31 l4_31 l5_31 l23_31 l24_31 l25_31 l26_31 l27_31 l28_31 l31_31 l32_31 l33_31 l34_31 l35_31 l36_31 l39_31 l40_31 l41_31 l42_31 l43_31 l44_31 l45_31
          have hS34 : St w NoX [] w15 := hS15.sel [] (by decide) rfl
          refine then_n (hK32 _ _ ?_)
          clear hK32
          refine wp_ret ?_
          refine then_ret ?_
          refine inb_ret ?_
          refine then_ret ?_
          refine then_ret ?_
          refine inb_ret ?_
          refine then_ret ?_
          refine ret_in (results_2 Try.results19 (rv_tmp l2_33) (rv_tmp l3_33)) hdf33 ?_
          -- leaf FTFT
          have h := mv_bad hz hy23 (by unfold badM; omega)
          rw [h]
          exact ⟨rfl, hS34.fin0⟩
        · skip
          refine W_v rfl (wanted_t rfl rfl (et rfl) (ez rfl)) (V_mov rfl (es rfl (es rfl (es rfl (es rfl (es rfl (es rfl (es rfl (es rfl (es rfl (es rfl (es rfl (es rfl (es rfl (es rfl (es rfl l0_18)))))))))))))))) ?_
          refine W_v rfl (wanted_t rfl rfl (es rfl (et rfl)) (ez rfl)) (V_mov rfl (es rfl (es rfl (es rfl (es rfl (es rfl (es rfl (es rfl (es rfl (es rfl (es rfl (es rfl (es rfl (es rfl (es rfl (es rfl (es rfl l5_18))))))))))))))))) ?_
          refine W_v rfl (wanted_t rfl rfl (es rfl (es rfl (et rfl))) (ez rfl)) (V_ixS (off := O23 + k * 2) 2 (k) rfl (es rfl (et rfl)) (et rfl) hv23 (by omega) k23 Try.underlying33 (by kernel_rfl) rfl) ?_
          refine W_v rfl (wanted_t rfl rfl (es rfl (es rfl (es rfl (et rfl)))) (ez rfl)) (V_fa (off' := O23 + k * 2 + 1) rfl (et rfl) Try.underlying39 rfl (by decide) rfl) ?_
          refine W_r rfl (wanted_t rfl rfl (es rfl (es rfl (es rfl (es rfl (et rfl))))) (ez rfl)) (VR_ldC (v := .int .i64 (y23.2)) rfl (et rfl) (SlN.row mvC_len (sl_SlN (hS15.ro h_mv)) hv23 hy23 rfl 1 _ rfl) Try.underlying3 rfl) ?_
          refine W_v rfl (wanted_t rfl rfl (es rfl (es rfl (es rfl (es rfl (es rfl (et rfl)))))) (ez rfl)) (V_lss rfl (et rfl) rfl) ?_
          refine W_v rfl rfl (V_pickF rfl (es rfl (es rfl (es rfl (es rfl (es rfl (es rfl (et rfl))))))) (et rfl)) ?_
          refine W_split rfl rfl (V_mov rfl (et rfl)) (fun c36 => ?_) (fun c36 => ?_)
          · skip
            refine W_off rfl (wanted_f rfl rfl (et rfl) (ez rfl) rfl) ?_
            refine W_off rfl (wanted_f rfl rfl (es rfl (et rfl)) (ez rfl) rfl) ?_
            refine W_off rfl (wanted_f rfl rfl (es rfl (es rfl (et rfl))) (ez rfl) rfl) ?_
            refine W_off rfl (wanted_f rfl rfl (es rfl (es rfl (es rfl (et rfl)))) (ez rfl) rfl) ?_
            refine W_off rfl (wanted_f rfl rfl (es rfl (es rfl (es rfl (es rfl (et rfl))))) (ez rfl) rfl) ?_
            refine W_off rfl (wanted_f rfl rfl (es rfl (es rfl (es rfl (es rfl (es rfl (et rfl)))))) (ez rfl) rfl) ?_
            refine W_v rfl rfl (V_pickT rfl (es rfl (es rfl (es rfl (es rfl (es rfl (es rfl (et rfl))))))) rfl) ?_
            refine W_end ?_
            refine gen_Q (fun A37 hA37 => ?_)
            have hsz37 : SzN A37 63 := by rw [hA37]; infer_instance
            have hdf37 : A37.defers = [] := by rw [hA37]; simp only [df_put]; exact hdf18
            have l0_37 := lookE hA37 0 (es rfl (es rfl (es rfl (es rfl (es rfl (es rfl (es rfl (es rfl (es rfl (es rfl (es rfl (es rfl (es rfl (es rfl (es rfl (es rfl (es rfl (es rfl (es rfl (es rfl (es rfl (es rfl (es rfl (es rfl (es rfl (es rfl (es rfl (es rfl (es rfl (es rfl l0_18))))))))))))))))))))))))))))))
            have l4_37 := lookE hA37 4 (es rfl (es rfl (es rfl (es rfl (es rfl (es rfl (es rfl (es rfl (es rfl (es rfl (es rfl (es rfl (es rfl (es rfl (es rfl (es rfl (es rfl (es rfl (es rfl (es rfl (es rfl (es rfl (es rfl (es rfl (es rfl (es rfl (es rfl (es rfl (es rfl (es rfl l4_18))))))))))))))))))))))))))))))
            have l5_37 := lookE hA37 5 (es rfl (es rfl (es rfl (es rfl (es rfl (es rfl (es rfl (es rfl (es rfl (es rfl (es rfl (es rfl (es rfl (es rfl (es rfl (es rfl (es rfl (es rfl (es rfl (es rfl (es rfl (es rfl (es rfl (es rfl (es rfl (es rfl (es rfl (es rfl (es rfl (es rfl l5_18))))))))))))))))))))))))))))))
            have l23_37 := lookE hA37 23 (es rfl (es rfl (es rfl (es rfl (es rfl (es rfl (es rfl (es rfl (es rfl (es rfl (es rfl (es rfl (es rfl (es rfl (es rfl (es rfl (es rfl (es rfl (es rfl (es rfl (es rfl (es rfl (et rfl)))))))))))))))))))))))
            have l24_37 := lookE hA37 24 (es rfl (es rfl (es rfl (es rfl (es rfl (es rfl (es rfl (es rfl (es rfl (es rfl (es rfl (es rfl (es rfl (es rfl (es rfl (es rfl (es rfl (es rfl (es rfl (es rfl (es rfl (et rfl))))))))))))))))))))))
            have l25_37 := lookE hA37 25 (es rfl (es rfl (es rfl (es rfl (es rfl (es rfl (es rfl (es rfl (es rfl (es rfl (es rfl (es rfl (es rfl (es rfl (es rfl (es rfl (es rfl (es rfl (es rfl (es rfl (et rfl)))))))))))))))))))))
            have l26_37 := lookE hA37 26 (es rfl (es rfl (es rfl (es rfl (es rfl (es rfl (es rfl (es rfl (es rfl (es rfl (es rfl (es rfl (es rfl (es rfl (es rfl (es rfl (es rfl (es rfl (es rfl (et rfl))))))))))))))))))))
            have l27_37 := lookE hA37 27 (es rfl (es rfl (es rfl (es rfl (es rfl (es rfl (es rfl (es rfl (es rfl (es rfl (es rfl (es rfl (es rfl (es rfl (es rfl (es rfl (es rfl (es rfl (et rfl)))))))))))))))))))
            have l28_37 := lookE hA37 28 (es rfl (es rfl (es rfl (es rfl (es rfl (es rfl (es rfl (es rfl (es rfl (es rfl (es rfl (es rfl (es rfl (es rfl (es rfl (es rfl (es rfl (et rfl))))))))))))))))))
            have l31_37 := lookE hA37 31 (es rfl (es rfl (es rfl (es rfl (es rfl (es rfl (es rfl (es rfl (es rfl (es rfl (es rfl (es rfl (es rfl (es rfl (et rfl)))))))))))))))
            have l32_37 := lookE hA37 32 (es rfl (es rfl (es rfl (es rfl (es rfl (es rfl (es rfl (es rfl (es rfl (es rfl (es rfl (es rfl (es rfl (et rfl))))))))))))))
            have l33_37 := lookE hA37 33 (es rfl (es rfl (es rfl (es rfl (es rfl (es rfl (es rfl (es rfl (es rfl (es rfl (es rfl (es rfl (et rfl)))))))))))))
            have l34_37 := lookE hA37 34 (es rfl (es rfl (es rfl (es rfl (es rfl (es rfl (es rfl (es rfl (es rfl (es rfl (es rfl (et rfl))))))))))))
            have l35_37 := lookE hA37 35 (es rfl (es rfl (es rfl (es rfl (es rfl (es rfl (es rfl (es rfl (es rfl (es rfl (et rfl)))))))))))
            have l36_37 := lookE hA37 36 (es rfl (es rfl (es rfl (es rfl (es rfl (es rfl (es rfl (es rfl (es rfl (et rfl))))))))))
            have l39_37 := lookE hA37 39 (es rfl (es rfl (es rfl (es rfl (es rfl (es rfl (et rfl)))))))
            have l40_37 := lookE hA37 40 (es rfl (es rfl (es rfl (es rfl (es rfl (et rfl))))))
            have l41_37 := lookE hA37 41 (es rfl (es rfl (es rfl (es rfl (et rfl)))))
            have l42_37 := lookE hA37 42 (es rfl (es rfl (es rfl (et rfl))))
            have l43_37 := lookE hA37 43 (es rfl (es rfl (et rfl)))
            have l44_37 := lookE hA37 44 (es rfl (et rfl))
            have l45_37 := lookE hA37 45 (et rfl)
            clear hA37 hsz18 hdf18 l0_18 l4_18 l5_18 l13_18
            refine then_n (hK22 _ _ ?_)
            clear hK22
            refine cond_t l45_37 ?_
            refine wp_seq_k (fun K38 hK38 => ?_)
            -- region 8
            refine region_in ?_
            refine W_v rfl rfl (V_mov rfl l5_37) ?_
            refine W_v rfl rfl (V_asg rfl (et rfl)) ?_
            refine W_v rfl rfl (V_asg rfl rfl) ?_
            refine W_end ?_
            refine gen_Q (fun A39 hA39 => ?_)
            have hsz39 : SzN A39 63 := by rw [hA39]; infer_instance
            have hdf39 : A39.defers = [] := by rw [hA39]; simp only [df_put]; exact hdf37
            have l2_39 := lookE hA39 2 (es rfl (et rfl))
            have l3_39 := lookE hA39 3 (et rfl)
            clear hA39 hsz37 hdf37 l0_37 l4_37 l5_37 l23_37 l24_37 l25_37 l26_37 l27_37 l28_37 l31_37 l32_37 l33_37 l34_37 l35_37 l36_37 l39_37 l40_37 l41_37 l42_37 l43_37 l44_37 l45_37
            have hS40 : St w NoX [] w15 := hS15.sel [] (by decide) rfl
            refine then_n (hK38 _ _ ?_)
            clear hK38
            refine wp_ret ?_
            refine then_ret ?_
            refine inb_ret ?_
            refine then_ret ?_
            refine then_ret ?_
            refine inb_ret ?_
            refine then_ret ?_
            refine ret_in (results_2 Try.results19 (rv_tmp l2_39) (rv_tmp l3_39)) hdf39 ?_
            -- leaf FTFFT
            have h := mv_bad hz hy23 (by unfold badM; omega)
            rw [h]
            exact ⟨rfl, hS40.fin0⟩
          · skip
            refine W_v rfl (wanted_t rfl rfl (et rfl) (ez rfl)) (V_mov rfl (es rfl (es rfl (es rfl (es rfl (es rfl (es rfl (es rfl (es rfl (es rfl (es rfl (es rfl (es rfl (es rfl (es rfl (es rfl (es rfl (es rfl (es rfl (es rfl (es rfl (es rfl (es rfl (es rfl l0_18)))))))))))))))))))))))) ?_
            refine W_v rfl (wanted_t rfl rfl (es rfl (et rfl)) (ez rfl)) (V_mov rfl (es rfl (es rfl (es rfl (es rfl (es rfl (es rfl (es rfl (es rfl (es rfl (es rfl (es rfl (es rfl (es rfl (es rfl (es rfl (es rfl (es rfl (es rfl (es rfl (es rfl (es rfl (es rfl (es rfl (es rfl l5_18))))))))))))))))))))))))) ?_
            refine W_v rfl (wanted_t rfl rfl (es rfl (es rfl (et rfl))) (ez rfl)) (V_ixS (off := O23 + k * 2) 2 (k) rfl (es rfl (et rfl)) (et rfl) hv23 (by omega) k23 Try.underlying33 (by kernel_rfl) rfl) ?_
            refine W_v rfl (wanted_t rfl rfl (es rfl (es rfl (es rfl (et rfl)))) (ez rfl)) (V_fa (off' := O23 + k * 2 + 1) rfl (et rfl) Try.underlying39 rfl (by decide) rfl) ?_
            refine W_r rfl (wanted_t rfl rfl (es rfl (es rfl (es rfl (es rfl (et rfl))))) (ez rfl)) (VR_ldC (v := .int .i64 (y23.2)) rfl (et rfl) (SlN.row mvC_len (sl_SlN (hS15.ro h_mv)) hv23 hy23 rfl 1 _ rfl) Try.underlying3 rfl) ?_
            refine W_v rfl (wanted_t rfl rfl (es rfl (es rfl (es rfl (es rfl (es rfl (et rfl)))))) (ez rfl)) (V_gtr rfl (et rfl) rfl) ?_
            refine W_v rfl rfl (V_pickF rfl (es rfl (es rfl (es rfl (es rfl (es rfl (es rfl (et rfl))))))) (et rfl)) ?_
            refine W_end ?_
            refine gen_Q (fun A42 hA42 => ?_)
            have hsz42 : SzN A42 63 := by rw [hA42]; infer_instance
            have hdf42 : A42.defers = [] := by rw [hA42]; simp only [df_put]; exact hdf18
            have l0_42 := lookE hA42 0 (es rfl (es rfl (es rfl (es rfl (es rfl (es rfl (es rfl (es rfl (es rfl (es rfl (es rfl (es rfl (es rfl (es rfl (es rfl (es rfl (es rfl (es rfl (es rfl (es rfl (es rfl (es rfl (es rfl (es rfl (es rfl (es rfl (es rfl (es rfl (es rfl (es rfl l0_18))))))))))))))))))))))))))))))
            have l4_42 := lookE hA42 4 (es rfl (es rfl (es rfl (es rfl (es rfl (es rfl (es rfl (es rfl (es rfl (es rfl (es rfl (es rfl (es rfl (es rfl (es rfl (es rfl (es rfl (es rfl (es rfl (es rfl (es rfl (es rfl (es rfl (es rfl (es rfl (es rfl (es rfl (es rfl (es rfl (es rfl l4_18))))))))))))))))))))))))))))))
            have l5_42 := lookE hA42 5 (es rfl (es rfl (es rfl (es rfl (es rfl (es rfl (es rfl (es rfl (es rfl (es rfl (es rfl (es rfl (es rfl (es rfl (es rfl (es rfl (es rfl (es rfl (es rfl (es rfl (es rfl (es rfl (es rfl (es rfl (es rfl (es rfl (es rfl (es rfl (es rfl (es rfl l5_18))))))))))))))))))))))))))))))
            have l23_42 := lookE hA42 23 (es rfl (es rfl (es rfl (es rfl (es rfl (es rfl (es rfl (es rfl (es rfl (es rfl (es rfl (es rfl (es rfl (es rfl (es rfl (es rfl (es rfl (es rfl (es rfl (es rfl (es rfl (es rfl (et rfl)))))))))))))))))))))))
            have l24_42 := lookE hA42 24 (es rfl (es rfl (es rfl (es rfl (es rfl (es rfl (es rfl (es rfl (es rfl (es rfl (es rfl (es rfl (es rfl (es rfl (es rfl (es rfl (es rfl (es rfl (es rfl (es rfl (es rfl (et rfl))))))))))))))))))))))
            have l25_42 := lookE hA42 25 (es rfl (es rfl (es rfl (es rfl (es rfl (es rfl (es rfl (es rfl (es rfl (es rfl (es rfl (es rfl (es rfl (es rfl (es rfl (es rfl (es rfl (es rfl (es rfl (es rfl (et rfl)))))))))))))))))))))
            have l26_42 := lookE hA42 26 (es rfl (es rfl (es rfl (es rfl (es rfl (es rfl (es rfl (es rfl (es rfl (es rfl (es rfl (es rfl (es rfl (es rfl (es rfl (es rfl (es rfl (es rfl (es rfl (et rfl))))))))))))))))))))
            have l27_42 := lookE hA42 27 (es rfl (es rfl (es rfl (es rfl (es rfl (es rfl (es rfl (es rfl (es rfl (es rfl (es rfl (es rfl (es rfl (es rfl (es rfl (es rfl (es rfl (es rfl (et rfl)))))))))))))))))))
            have l28_42 := lookE hA42 28 (es rfl (es rfl (es rfl (es rfl (es rfl (es rfl (es rfl (es rfl (es rfl (es rfl (es rfl (es rfl (es rfl (es rfl (es rfl (es rfl (es rfl (et rfl))))))))))))))))))
            have l31_42 := lookE hA42 31 (es rfl (es rfl (es rfl (es rfl (es rfl (es rfl (es rfl (es rfl (es rfl (es rfl (es rfl (es rfl (es rfl (es rfl (et rfl)))))))))))))))
            have l32_42 := lookE hA42 32 (es rfl (es rfl (es rfl (es rfl (es rfl (es rfl (es rfl (es rfl (es rfl (es rfl (es rfl (es rfl (es rfl (et rfl))))))))))))))
            have l33_42 := lookE hA42 33 (es rfl (es rfl (es rfl (es rfl (es rfl (es rfl (es rfl (es rfl (es rfl (es rfl (es rfl (es rfl (et rfl)))))))))))))
            have l34_42 := lookE hA42 34 (es rfl (es rfl (es rfl (es rfl (es rfl (es rfl (es rfl (es rfl (es rfl (es rfl (es rfl (et rfl))))))))))))
            have l35_42 := lookE hA42 35 (es rfl (es rfl (es rfl (es rfl (es rfl (es rfl (es rfl (es rfl (es rfl (es rfl (et rfl)))))))))))
            have l36_42 := lookE hA42 36 (es rfl (es rfl (es rfl (es rfl (es rfl (es rfl (es rfl (es rfl (es rfl (et rfl))))))))))
            have l39_42 := lookE hA42 39 (es rfl (es rfl (es rfl (es rfl (es rfl (es rfl (et rfl)))))))
            have l40_42 := lookE hA42 40 (es rfl (es rfl (es rfl (es rfl (es rfl (et rfl))))))
            have l41_42 := lookE hA42 41 (es rfl (es rfl (es rfl (es rfl (et rfl)))))
            have l42_42 := lookE hA42 42 (es rfl (es rfl (es rfl (et rfl))))
            have l43_42 := lookE hA42 43 (es rfl (es rfl (et rfl)))
            have l44_42 := lookE hA42 44 (es rfl (et rfl))
            have l45_42 := lookE hA42 45 (et rfl)
            clear hA42 hsz18 hdf18 l0_18 l4_18 l5_18 l13_18
            refine then_n (hK22 _ _ ?_)
            clear hK22
            refine cond_dec l45_42 (fun c43 => ?_) (fun c43 => ?_)
            · skip
              refine wp_seq_k (fun K44 hK44 => ?_)
              -- region 8
              refine region_in ?_
              refine W_v rfl rfl (V_mov rfl l5_42) ?_
              refine W_v rfl rfl (V_asg rfl (et rfl)) ?_
              refine W_v rfl rfl (V_asg rfl rfl) ?_
              refine W_end ?_
              refine gen_Q (fun A45 hA45 => ?_)
              have hsz45 : SzN A45 63 := by rw [hA45]; infer_instance
              have hdf45 : A45.defers = [] := by rw [hA45]; simp only [df_put]; exact hdf42
              have l2_45 := lookE hA45 2 (es rfl (et rfl))
              have l3_45 := lookE hA45 3 (et rfl)
              clear hA45 hsz42 hdf42 l0_42 l4_42 l5_42 l23_42 l24_42 l25_42 l26_42 l27_42 l28_42 l31_42 l32_42 l33_42 l34_42 l35_42 l36_42 l39_42 l40_42 l41_42 l42_42 l43_42 l44_42 l45_42
              have hS46 : St w NoX [] w15 := hS15.sel [] (by decide) rfl
              refine then_n (hK44 _ _ ?_)
              clear hK44
              refine wp_ret ?_
              refine then_ret ?_
              refine inb_ret ?_
              refine then_ret ?_
              refine then_ret ?_
              refine inb_ret ?_
              refine then_ret ?_
              refine ret_in (results_2 Try.results19 (rv_tmp l2_45) (rv_tmp l3_45)) hdf45 ?_
              -- leaf FTFFFT
              have h := mv_bad hz hy23 (by unfold badM; omega)
              rw [h]
              exact ⟨rfl, hS46.fin0⟩
            · skip
              refine wp_skip ?_
              refine then_n (hK21 _ _ ?_)
              clear hK21
              refine wp_seq_k (fun K47 hK47 => ?_)
              refine wp_seq_k (fun K48 hK48 => ?_)
              -- region 9
              refine region_in ?_
              refine W_v rfl rfl (V_mov rfl l4_42) ?_
              refine W_v rfl rfl (V_mov rfl (es rfl l0_42)) ?_
              refine W_v rfl rfl (V_mov rfl (es rfl (es rfl l5_42))) ?_
              refine W_v rfl rfl (V_ixS (off := O23 + k * 2) 2 (k) rfl (es rfl (et rfl)) (et rfl) hv23 (by omega) k23 Try.underlying33 (by kernel_rfl) rfl) ?_
              refine W_v rfl rfl (V_fa (off' := O23 + k * 2 + 0) rfl (et rfl) Try.underlying39 rfl (by decide) rfl) ?_
              refine W_r rfl rfl (VR_ldC (v := .int .i64 (y23.1)) rfl (et rfl) (SlN.row mvC_len (sl_SlN (hS15.ro h_mv)) hv23 hy23 rfl 0 _ rfl) Try.underlying3 rfl) ?_
              have k50 : (y23.1).toNat < (metT (ms.take k)).length := by rw [metT_len]; omega
              obtain ⟨y50, hy50⟩ := get_some (xs := (metT (ms.take k))) (k := (y23.1).toNat) k50
              obtain ⟨B50, O50, C50, hv50⟩ := (SlN.blk (ow_at (hS15.chq 0 rfl hc10_15)) (by first | omega | (simp only [List.length_cons, List.length_nil]; omega)))
              refine W_v rfl rfl (V_ixS (off := O50 + ((y23.1).toNat)) 1 ((y23.1).toNat) rfl (es rfl (es rfl (es rfl (es rfl (es rfl (et rfl)))))) (et rfl) hv50 (by omega) k50 Try.underlying60 (by kernel_rfl) (congrArg _ (Nat.mul_one _))) ?_
              refine W_r rfl rfl (VR_ldC rfl (et rfl) ((ow_at (hS15.chq 0 rfl hc10_15)).cell hv50 (map_get hy50)) Try.underlying4 rfl) ?_
              refine W_end ?_
              refine gen_Q (fun A51 hA51 => ?_)
              have hsz51 : SzN A51 63 := by rw [hA51]; infer_instance
              have hdf51 : A51.defers = [] := by rw [hA51]; simp only [df_put]; exact hdf42
              have l0_51 := lookE hA51 0 (es rfl (es rfl (es rfl (es rfl (es rfl (es rfl (es rfl (es rfl l0_42))))))))
              have l4_51 := lookE hA51 4 (es rfl (es rfl (es rfl (es rfl (es rfl (es rfl (es rfl (es rfl l4_42))))))))
              have l5_51 := lookE hA51 5 (es rfl (es rfl (es rfl (es rfl (es rfl (es rfl (es rfl (es rfl l5_42))))))))
              have l23_51 := lookE hA51 23 (es rfl (es rfl (es rfl (es rfl (es rfl (es rfl (es rfl (es rfl l23_42))))))))
              have l24_51 := lookE hA51 24 (es rfl (es rfl (es rfl (es rfl (es rfl (es rfl (es rfl (es rfl l24_42))))))))
              have l25_51 := lookE hA51 25 (es rfl (es rfl (es rfl (es rfl (es rfl (es rfl (es rfl (es rfl l25_42))))))))
              have l26_51 := lookE hA51 26 (es rfl (es rfl (es rfl (es rfl (es rfl (es rfl (es rfl (es rfl l26_42))))))))
              have l27_51 := lookE hA51 27 (es rfl (es rfl (es rfl (es rfl (es rfl (es rfl (es rfl (es rfl l27_42))))))))
              have l28_51 := lookE hA51 28 (es rfl (es rfl (es rfl (es rfl (es rfl (es rfl (es rfl (es rfl l28_42))))))))
              have l31_51 := lookE hA51 31 (es rfl (es rfl (es rfl (es rfl (es rfl (es rfl (es rfl (es rfl l31_42))))))))
              have l32_51 := lookE hA51 32 (es rfl (es rfl (es rfl (es rfl (es rfl (es rfl (es rfl (es rfl l32_42))))))))
              have l33_51 := lookE hA51 33 (es rfl (es rfl (es rfl (es rfl (es rfl (es rfl (es rfl (es rfl l33_42))))))))
              have l34_51 := lookE hA51 34 (es rfl (es rfl (es rfl (es rfl (es rfl (es rfl (es rfl (es rfl l34_42))))))))
              have l35_51 := lookE hA51 35 (es rfl (es rfl (es rfl (es rfl (es rfl (es rfl (es rfl (es rfl l35_42))))))))
              have l36_51 := lookE hA51 36 (es rfl (es rfl (es rfl (es rfl (es rfl (es rfl (es rfl (es rfl l36_42))))))))
              have l39_51 := lookE hA51 39 (es rfl (es rfl (es rfl (es rfl (es rfl (es rfl (es rfl (es rfl l39_42))))))))
              have l40_51 := lookE hA51 40 (es rfl (es rfl (es rfl (es rfl (es rfl (es rfl (es rfl (es rfl l40_42))))))))
              have l41_51 := lookE hA51 41 (es rfl (es rfl (es rfl (es rfl (es rfl (es rfl (es rfl (es rfl l41_42))))))))
              have l42_51 := lookE hA51 42 (es rfl (es rfl (es rfl (es rfl (es rfl (es rfl (es rfl (es rfl l42_42))))))))
              have l43_51 := lookE hA51 43 (es rfl (es rfl (es rfl (es rfl (es rfl (es rfl (es rfl (es rfl l43_42))))))))
              have l44_51 := lookE hA51 44 (es rfl (es rfl (es rfl (es rfl (es rfl (es rfl (es rfl (es rfl l44_42))))))))
              have l54_51 := lookE hA51 54 (et rfl)
              clear hA51 hsz42 hdf42 l0_42 l4_42 l5_42 l23_42 l24_42 l25_42 l26_42 l27_42 l28_42 l31_42 l32_42 l33_42 l34_42 l35_42 l36_42 l39_42 l40_42 l41_42 l42_42 l43_42 l44_42 l45_42
              refine then_n (hK48 _ _ ?_)
              clear hK48
              refine cond_b l54_51 (fun c52 => ?_) (fun c52 => ?_)
              · skip
                refine wp_seq_k (fun K53 hK53 => ?_)
                -- region 10
                refine region_in ?_
                refine W_v rfl rfl (V_mov rfl l5_51) ?_
                refine W_v rfl rfl (V_asg rfl (et rfl)) ?_
                refine W_v rfl rfl (V_asg rfl rfl) ?_
                refine W_end ?_
                refine gen_Q (fun A54 hA54 => ?_)
                have hsz54 : SzN A54 63 := by rw [hA54]; infer_instance
                have hdf54 : A54.defers = [] := by rw [hA54]; simp only [df_put]; exact hdf51
                have l2_54 := lookE hA54 2 (es rfl (et rfl))
                have l3_54 := lookE hA54 3 (et rfl)
                clear hA54 hsz51 hdf51 l0_51 l4_51 l5_51 l23_51 l24_51 l25_51 l26_51 l27_51 l28_51 l31_51 l32_51 l33_51 l34_51 l35_51 l36_51 l39_51 l40_51 l41_51 l42_51 l43_51 l44_51 l54_51
                have hS55 : St w NoX [] w15 := hS15.sel [] (by decide) rfl
                refine then_n (hK53 _ _ ?_)
                clear hK53
                refine wp_ret ?_
                refine then_ret ?_
                refine inb_ret ?_
                refine then_ret ?_
                refine then_ret ?_
                refine inb_ret ?_
                refine then_ret ?_
                refine ret_in (results_2 Try.results19 (rv_tmp l2_54) (rv_tmp l3_54)) hdf54 ?_
                -- leaf FTFFFFT
                have h := mv_twice hz hy23 (by unfold badM; omega) (met_in (by omega) hy50 c52)
                rw [h]
                exact ⟨rfl, hS55.fin0⟩
              · skip
                refine wp_skip ?_
                refine then_n (hK47 _ _ ?_)
                clear hK47
                -- region 11
                refine region_in ?_
                refine W_v rfl rfl (V_mov rfl l4_51) ?_
                refine W_v rfl rfl (V_mov rfl (es rfl l0_51)) ?_
                refine W_v rfl rfl (V_mov rfl (es rfl (es rfl l5_51))) ?_
                refine W_v rfl rfl (V_ixS (off := O23 + k * 2) 2 (k) rfl (es rfl (et rfl)) (et rfl) hv23 (by omega) k23 Try.underlying33 (by kernel_rfl) rfl) ?_
                refine W_v rfl rfl (V_fa (off' := O23 + k * 2 + 0) rfl (et rfl) Try.underlying39 rfl (by decide) rfl) ?_
                refine W_r rfl rfl (VR_ldC (v := .int .i64 (y23.1)) rfl (et rfl) (SlN.row mvC_len (sl_SlN (hS15.ro h_mv)) hv23 hy23 rfl 0 _ rfl) Try.underlying3 rfl) ?_
                refine W_v rfl rfl (V_ixS (off := O50 + ((y23.1).toNat)) 1 ((y23.1).toNat) rfl (es rfl (es rfl (es rfl (es rfl (es rfl (et rfl)))))) (et rfl) hv50 (by omega) k50 Try.underlying60 (by kernel_rfl) (congrArg _ (Nat.mul_one _))) ?_
                refine W_stE 0 hS15 rfl hc10_15 hv50 rfl rfl rfl (et rfl) rfl (by rfl) rfl (by first | (simp only [List.length_map]; omega) | omega) (by kernel_rfl) (fun w58 c58 hc58 hS58 => ?_)
                replace hc58 : c58 = bo v10 ((metT (ms.take k)).set ((y23.1).toNat) true) := hc58.trans (by simp [io, bo, List.map_set] <;> rfl)
                replace hS58 : St w NoX [c58] w58 := hS58
                refine W_end ?_
                refine gen_Q (fun A59 hA59 => ?_)
                have hsz59 : SzN A59 63 := by rw [hA59]; infer_instance
                have hdf59 : A59.defers = [] := by rw [hA59]; simp only [df_put]; exact hdf51
                have l0_59 := lookE hA59 0 (es rfl (es rfl (es rfl (es rfl (es rfl (es rfl (es rfl l0_51)))))))
                have l4_59 := lookE hA59 4 (es rfl (es rfl (es rfl (es rfl (es rfl (es rfl (es rfl l4_51)))))))
                have l5_59 := lookE hA59 5 (es rfl (es rfl (es rfl (es rfl (es rfl (es rfl (es rfl l5_51)))))))
                have l23_59 := lookE hA59 23 (es rfl (es rfl (es rfl (es rfl (es rfl (es rfl (es rfl l23_51)))))))
                have l24_59 := lookE hA59 24 (es rfl (es rfl (es rfl (es rfl (es rfl (es rfl (es rfl l24_51)))))))
                have l25_59 := lookE hA59 25 (es rfl (es rfl (es rfl (es rfl (es rfl (es rfl (es rfl l25_51)))))))
                have l26_59 := lookE hA59 26 (es rfl (es rfl (es rfl (es rfl (es rfl (es rfl (es rfl l26_51)))))))
                have l27_59 := lookE hA59 27 (es rfl (es rfl (es rfl (es rfl (es rfl (es rfl (es rfl l27_51)))))))
                have l28_59 := lookE hA59 28 (es rfl (es rfl (es rfl (es rfl (es rfl (es rfl (es rfl l28_51)))))))
                have l31_59 := lookE hA59 31 (es rfl (es rfl (es rfl (es rfl (es rfl (es rfl (es rfl l31_51)))))))
                have l32_59 := lookE hA59 32 (es rfl (es rfl (es rfl (es rfl (es rfl (es rfl (es rfl l32_51)))))))
                have l33_59 := lookE hA59 33 (es rfl (es rfl (es rfl (es rfl (es rfl (es rfl (es rfl l33_51)))))))
                have l34_59 := lookE hA59 34 (es rfl (es rfl (es rfl (es rfl (es rfl (es rfl (es rfl l34_51)))))))
                have l35_59 := lookE hA59 35 (es rfl (es rfl (es rfl (es rfl (es rfl (es rfl (es rfl l35_51)))))))
                have l36_59 := lookE hA59 36 (es rfl (es rfl (es rfl (es rfl (es rfl (es rfl (es rfl l36_51)))))))
                have l39_59 := lookE hA59 39 (es rfl (es rfl (es rfl (es rfl (es rfl (es rfl (es rfl l39_51)))))))
                have l40_59 := lookE hA59 40 (es rfl (es rfl (es rfl (es rfl (es rfl (es rfl (es rfl l40_51)))))))
                have l41_59 := lookE hA59 41 (es rfl (es rfl (es rfl (es rfl (es rfl (es rfl (es rfl l41_51)))))))
                have l42_59 := lookE hA59 42 (es rfl (es rfl (es rfl (es rfl (es rfl (es rfl (es rfl l42_51)))))))
                have l43_59 := lookE hA59 43 (es rfl (es rfl (es rfl (es rfl (es rfl (es rfl (es rfl l43_51)))))))
                have l44_59 := lookE hA59 44 (es rfl (es rfl (es rfl (es rfl (es rfl (es rfl (es rfl l44_51)))))))
                clear hA59 hsz51 hdf51 l0_51 l4_51 l5_51 l23_51 l24_51 l25_51 l26_51 l27_51 l28_51 l31_51 l32_51 l33_51 l34_51 l35_51 l36_51 l39_51 l40_51 l41_51 l42_51 l43_51 l44_51 l54_51
                refine inb_n ?_
                refine then_n (hK20 _ _ ?_)
                clear hK20
                -- region 6
                refine region_in ?_
                refine W_v rfl rfl (V_mov rfl l5_59) ?_
                refine W_v rfl rfl (V_add rfl (et rfl) rfl (by omega) (by omega)) ?_
                refine W_v rfl rfl (V_asg rfl (et rfl)) ?_
                refine W_end ?_
                refine gen_Q (fun A60 hA60 => ?_)
                have hsz60 : SzN A60 63 := by rw [hA60]; infer_instance
                have hdf60 : A60.defers = [] := by rw [hA60]; simp only [df_put]; exact hdf59
                have l0_60 := lookE hA60 0 (es rfl (es rfl (es rfl l0_59)))
                have l4_60 := lookE hA60 4 (es rfl (es rfl (es rfl l4_59)))
                have l5_60 := lookE hA60 5 (et rfl)
                have l23_60 := lookE hA60 23 (es rfl (es rfl (es rfl l23_59)))
                have l24_60 := lookE hA60 24 (es rfl (es rfl (es rfl l24_59)))
                have l25_60 := lookE hA60 25 (es rfl (es rfl (es rfl l25_59)))
                have l26_60 := lookE hA60 26 (es rfl (es rfl (es rfl l26_59)))
                have l27_60 := lookE hA60 27 (es rfl (es rfl (es rfl l27_59)))
                have l28_60 := lookE hA60 28 (es rfl (es rfl (es rfl l28_59)))
                have l31_60 := lookE hA60 31 (es rfl (es rfl (es rfl l31_59)))
                have l32_60 := lookE hA60 32 (es rfl (es rfl (es rfl l32_59)))
                have l33_60 := lookE hA60 33 (es rfl (es rfl (es rfl l33_59)))
                have l34_60 := lookE hA60 34 (es rfl (es rfl (es rfl l34_59)))
                have l35_60 := lookE hA60 35 (es rfl (es rfl (es rfl l35_59)))
                have l36_60 := lookE hA60 36 (es rfl (es rfl (es rfl l36_59)))
                have l39_60 := lookE hA60 39 (es rfl (es rfl (es rfl l39_59)))
                have l40_60 := lookE hA60 40 (es rfl (es rfl (es rfl l40_59)))
                have l41_60 := lookE hA60 41 (es rfl (es rfl (es rfl l41_59)))
                have l42_60 := lookE hA60 42 (es rfl (es rfl (es rfl l42_59)))
                have l43_60 := lookE hA60 43 (es rfl (es rfl (es rfl l43_59)))
                have l44_60 := lookE hA60 44 (es rfl (es rfl (es rfl l44_59)))
                clear hA60 hsz59 hdf59 l0_59 l4_59 l5_59 l23_59 l24_59 l25_59 l26_59 l27_59 l28_59 l31_59 l32_59 l33_59 l34_59 l35_59 l36_59 l39_59 l40_59 l41_59 l42_59 l43_59 l44_59
                refine then_n ⟨ms.length - (k + 1), by simp only [hm15]; omega, hsz60, hdf60, (k + 1), rfl, (by omega), (mv_step hz hy23 (by unfold badM; omega) (met_out (by omega) hy50 c52)), ((l5_60).trans (by first | rfl | (simp; done) | (congr 1; omega))), ((l0_60).trans l0_14.symm), ((l4_60).trans l4_14.symm), (by have q0 : c58 = bo v10 (metT (ms.take (k + 1))) := hc58.trans ((congrArg (bo _) (metT_set hy23 (by omega)))); subst q0; exact hS58)⟩
    · skip
      refine wp_exit ?_
      refine then_exit ?_
      refine then_exit ?_
      refine inb_hit ?_
      refine then_n (hK12 _ _ ?_)
      clear hK12
      refine wp_seq_k (fun K61 hK61 => ?_)
      -- region 12
      refine region_in ?_
      refine W_v rfl rfl (V_asg rfl rfl) ?_
      refine W_v rfl rfl (V_asg rfl rfl) ?_
      refine W_end ?_
      refine gen_Q (fun A62 hA62 => ?_)
      have hsz62 : SzN A62 63 := by rw [hA62]; infer_instance
      have hdf62 : A62.defers = [] := by rw [hA62]; simp only [df_put]; exact hdf18
      have l2_62 := lookE hA62 2 (es rfl (et rfl))
      have l3_62 := lookE hA62 3 (et rfl)
      clear hA62 hsz18 hdf18 l0_18 l4_18 l5_18 l13_18
      have hS63 : St w NoX [] w15 := hS15.sel [] (by decide) rfl
      refine then_n (hK61 _ _ ?_)
      clear hK61
      refine wp_ret ?_
      refine ret_in (results_2 Try.results19 (rv_tmp l2_62) (rv_tmp l3_62)) hdf62 ?_
      -- leaf FF
      have h := mv_done hz (by omega)
      rw [h]
      exact ⟨rfl, hS63.fin0⟩

set_option maxHeartbeats 4000000 in
theorem kFw_c {rv : Value} {l : List Int} {mv : Value} {ms : List (Int × Int)} {w : World} (h_rv : Ro w NoX (il .i64 rv l)) (h_mv : Ro w NoX (rl 2 mvC mv ms))  :
    Calls Try.prog 20 #[rv, mv] w fun e w' => ∃ v, e = .returned (.tuple #[v, .int .i64 (fwN l ms), .int .i64 (fwE l ms)]) ∧ St w NoX [io .i64 (v) (fwT l ms)] w' := by
  refine calls_in 57 Try.func20 rfl rfl (by simp) (fun A0 hsz0 hdf0 hargs => ?_)
  have l0_0 := hargs 0 (rv) rfl
  have l1_0 := hargs 1 (mv) rfl
  clear hargs; replace hsz0 : SzN A0 57 := ⟨hsz0⟩
  have hS := St.nil w
  have bh_rv := SlN.le (sl_SlN h_rv.at)
  have bh_mv := SlN.le (sl_SlN h_mv.at)
  refine wp_seq_k (fun K1 hK1 => ?_)
  -- region 0
  refine region_in ?_
  refine W_v rfl rfl (V_asg rfl rfl) ?_
  refine W_v rfl rfl (V_asg rfl rfl) ?_
  refine W_v rfl rfl (V_asg rfl rfl) ?_
  refine W_end ?_
  refine gen_Q (fun A2 hA2 => ?_)
  have hsz2 : SzN A2 57 := by rw [hA2]; infer_instance
  have hdf2 : A2.defers = [] := by rw [hA2]; simp only [df_put]; exact hdf0
  have l0_2 := lookE hA2 0 (es rfl (es rfl (es rfl l0_0)))
  have l1_2 := lookE hA2 1 (es rfl (es rfl (es rfl l1_0)))
  have l5_2 := lookE hA2 5 (es rfl (et rfl))
  clear hA2 hsz0 hdf0 l0_0 l1_0
  refine then_n (hK1 _ _ ?_)
  clear hK1
  refine wp_seq_k (fun K3 hK3 => ?_)
  -- region 1
  refine region_in ?_
  refine W_v rfl rfl (V_mov rfl l0_2) ?_
  refine W_call rfl rfl rfl Try.func35 (by kernel_rfl) rfl (args2 (et rfl) rfl) (nm_c (ns := []) (nv := .slice none 0 0) (hS.roC h_rv) ro_nil ) ?_
  rintro _ w4 ⟨v_4, rfl, hP4⟩
  refine ⟨_, rfl, ?_⟩
  obtain ⟨c_4, hc_4, hP4⟩ := gen1 hP4
  have hS4 := hS.join hP4
  replace hS4 : St w NoX [c_4] w4 := hS4
  refine W_v rfl rfl (V_mov rfl (et rfl)) ?_
  refine W_v rfl rfl (V_ext (v := v_4) rfl (et rfl) rfl) ?_
  refine W_v rfl rfl (V_ext (v := .int .i64 ((nmE l []))) rfl (es rfl (et rfl)) rfl) ?_
  refine W_v rfl rfl (V_asg rfl (es rfl (et rfl))) ?_
  refine W_v rfl rfl (V_asg rfl (es rfl (et rfl))) ?_
  refine W_end ?_
  refine gen_Q (fun A5 hA5 => ?_)
  have hsz5 : SzN A5 57 := by rw [hA5]; infer_instance
  have hdf5 : A5.defers = [] := by rw [hA5]; simp only [df_put]; exact hdf2
  have l0_5 := lookE hA5 0 (es rfl (es rfl (es rfl (es rfl (es rfl (es rfl (es rfl l0_2)))))))
  have l1_5 := lookE hA5 1 (es rfl (es rfl (es rfl (es rfl (es rfl (es rfl (es rfl l1_2)))))))
  have l4_5 := lookE hA5 4 (es rfl (et rfl))
  have l5_5 := lookE hA5 5 (es rfl (es rfl (es rfl (es rfl (es rfl (es rfl (es rfl l5_2)))))))
  have l6_5 := lookE hA5 6 (et rfl)
  clear hA5 hsz2 hdf2 l0_2 l1_2 l5_2
  refine then_n (hK3 _ _ ?_)
  clear hK3
  refine wp_seq_k (fun K6 hK6 => ?_)
  refine wp_seq_k (fun K7 hK7 => ?_)
  -- region 2
  refine region_in ?_
  refine W_v rfl rfl (V_mov rfl l6_5) ?_
  refine W_v rfl rfl (V_neq rfl (et rfl) rfl) ?_
  refine W_end ?_
  refine gen_Q (fun A8 hA8 => ?_)
  have hsz8 : SzN A8 57 := by rw [hA8]; infer_instance
  have hdf8 : A8.defers = [] := by rw [hA8]; simp only [df_put]; exact hdf5
  have l0_8 := lookE hA8 0 (es rfl (es rfl l0_5))
  have l1_8 := lookE hA8 1 (es rfl (es rfl l1_5))
  have l4_8 := lookE hA8 4 (es rfl (es rfl l4_5))
  have l5_8 := lookE hA8 5 (es rfl (es rfl l5_5))
  have l6_8 := lookE hA8 6 (es rfl (es rfl l6_5))
  have l19_8 := lookE hA8 19 (et rfl)
  clear hA8 hsz5 hdf5 l0_5 l1_5 l4_5 l5_5 l6_5
  refine then_n (hK7 _ _ ?_)
  clear hK7
  refine cond_dec l19_8 (fun c9 => ?_) (fun c9 => ?_)
  · skip
    refine wp_seq_k (fun K10 hK10 => ?_)
    -- region 3
    refine region_in ?_
    refine W_v rfl rfl (V_mov rfl l6_8) ?_
    refine W_v rfl rfl (V_asg rfl rfl) ?_
    refine W_v rfl rfl (V_asg rfl rfl) ?_
    refine W_v rfl rfl (V_asg rfl (es rfl (es rfl (et rfl)))) ?_
    refine W_end ?_
    refine gen_Q (fun A11 hA11 => ?_)
    have hsz11 : SzN A11 57 := by rw [hA11]; infer_instance
    have hdf11 : A11.defers = [] := by rw [hA11]; simp only [df_put]; exact hdf8
    have l4_11 := lookE hA11 4 (es rfl (es rfl (et rfl)))
    have l5_11 := lookE hA11 5 (es rfl (et rfl))
    have l6_11 := lookE hA11 6 (et rfl)
    clear hA11 hsz8 hdf8 l0_8 l1_8 l4_8 l5_8 l6_8 l19_8
    have hS12 : St w NoX [] w4 := hS4.sel [] (by decide) rfl
    refine then_n (hK10 _ _ ?_)
    clear hK10
    refine wp_ret ?_
    refine then_ret ?_
    refine ret_in (results_3 Try.results20 (rv_tmp l4_11) (rv_tmp l5_11) (rv_tmp l6_11)) hdf11 ?_
    -- leaf T
    obtain ⟨c13, hc13, hS13⟩ := hS12.pnil (s := 1)
    have hnn := nmE_nil l
    have h : fwE l ms = (nmE l []) := by first | exact fwE_ck (by assumption) | (rw [fwE_ck (l := l) (ms := ms) (by first | assumption | (rw [← hnn]; assumption))]; first | rfl | exact hnn.symm) | exact fwE_mv (l := l) (ms := ms) (by assumption)
    have h2 := fw_err (l := l) (ms := ms) (by rw [h]; assumption)
    rw [h, h2.2]
    exact ⟨_, rfl, (hS13.fin1 0 rfl (hc13.trans (by rw [h2.1] <;> rfl)))⟩
  · skip
    have hck : (ckR l).2 = 0 := by rw [← nmE_nil]; simpa using c9
    have hE : nmE l [] = 0 := by rw [nmE_nil]; exact hck
    obtain ⟨hl1, hl8, hin0⟩ := ckR_good hck
    have hT := nmT_ok hE
    have hTl : (nmT l []).length = l.length := by rw [hT]
    refine wp_skip ?_
    refine then_n (hK6 _ _ ?_)
    clear hK6
    refine wp_seq_k (fun K14 hK14 => ?_)
    -- region 4
    refine region_in ?_
    refine W_v rfl rfl (V_mov rfl l1_8) ?_
    refine W_call rfl rfl rfl Try.func38 (by kernel_rfl) rfl (args1 (et rfl)) (kwy_c (hS4.roC h_mv) ) ?_
    rintro _ w15 ⟨v_15, rfl, hP15⟩
    refine ⟨_, rfl, ?_⟩
    obtain ⟨c_15, hc_15, hP15⟩ := gen1 hP15
    have hS15 := hS4.join hP15
    replace hS15 : St w NoX [c_15, c_4] w15 := hS15
    refine W_v rfl rfl (V_mov rfl (et rfl)) ?_
    refine W_v rfl rfl (V_ext (v := v_15) rfl (et rfl) rfl) ?_
    refine W_v rfl rfl (V_ext (v := .int .i64 ((mvR ms).1)) rfl (es rfl (et rfl)) rfl) ?_
    refine W_v rfl rfl (V_ext (v := .int .i64 ((mvR ms).2)) rfl (es rfl (es rfl (et rfl))) rfl) ?_
    refine W_v rfl rfl (V_asg rfl (es rfl (es rfl (et rfl)))) ?_
    refine W_v rfl rfl (V_asg rfl (es rfl (es rfl (et rfl)))) ?_
    refine W_v rfl rfl (V_asg rfl (es rfl (es rfl (et rfl)))) ?_
    refine W_end ?_
    refine gen_Q (fun A16 hA16 => ?_)
    have hsz16 : SzN A16 57 := by rw [hA16]; infer_instance
    have hdf16 : A16.defers = [] := by rw [hA16]; simp only [df_put]; exact hdf8
    have l0_16 := lookE hA16 0 (es rfl (es rfl (es rfl (es rfl (es rfl (es rfl (es rfl (es rfl (es rfl l0_8)))))))))
    have l4_16 := lookE hA16 4 (es rfl (es rfl (es rfl (es rfl (es rfl (es rfl (es rfl (es rfl (es rfl l4_8)))))))))
    have l5_16 := lookE hA16 5 (es rfl (es rfl (es rfl (es rfl (es rfl (es rfl (es rfl (es rfl (es rfl l5_8)))))))))
    have l6_16 := lookE hA16 6 (et rfl)
    have l7_16 := lookE hA16 7 (es rfl (es rfl (et rfl)))
    clear hA16 hsz8 hdf8 l0_8 l1_8 l4_8 l5_8 l6_8 l19_8
    refine then_n (hK14 _ _ ?_)
    clear hK14
    refine wp_seq_k (fun K17 hK17 => ?_)
    refine wp_seq_k (fun K18 hK18 => ?_)
    -- region 5
    refine region_in ?_
    refine W_v rfl rfl (V_mov rfl l6_16) ?_
    refine W_v rfl rfl (V_neq rfl (et rfl) rfl) ?_
    refine W_end ?_
    refine gen_Q (fun A19 hA19 => ?_)
    have hsz19 : SzN A19 57 := by rw [hA19]; infer_instance
    have hdf19 : A19.defers = [] := by rw [hA19]; simp only [df_put]; exact hdf16
    have l0_19 := lookE hA19 0 (es rfl (es rfl l0_16))
    have l4_19 := lookE hA19 4 (es rfl (es rfl l4_16))
    have l5_19 := lookE hA19 5 (es rfl (es rfl l5_16))
    have l6_19 := lookE hA19 6 (es rfl (es rfl l6_16))
    have l7_19 := lookE hA19 7 (es rfl (es rfl l7_16))
    have l28_19 := lookE hA19 28 (et rfl)
    clear hA19 hsz16 hdf16 l0_16 l4_16 l5_16 l6_16 l7_16
    refine then_n (hK18 _ _ ?_)
    clear hK18
    refine cond_dec l28_19 (fun c20 => ?_) (fun c20 => ?_)
    · skip
      refine wp_seq_k (fun K21 hK21 => ?_)
      -- region 6
      refine region_in ?_
      refine W_v rfl rfl (V_mov rfl l6_19) ?_
      refine W_v rfl rfl (V_asg rfl rfl) ?_
      refine W_v rfl rfl (V_asg rfl rfl) ?_
      refine W_v rfl rfl (V_asg rfl (es rfl (es rfl (et rfl)))) ?_
      refine W_end ?_
      refine gen_Q (fun A22 hA22 => ?_)
      have hsz22 : SzN A22 57 := by rw [hA22]; infer_instance
      have hdf22 : A22.defers = [] := by rw [hA22]; simp only [df_put]; exact hdf19
      have l4_22 := lookE hA22 4 (es rfl (es rfl (et rfl)))
      have l5_22 := lookE hA22 5 (es rfl (et rfl))
      have l6_22 := lookE hA22 6 (et rfl)
      clear hA22 hsz19 hdf19 l0_19 l4_19 l5_19 l6_19 l7_19 l28_19
      have hS23 : St w NoX [] w15 := hS15.sel [] (by decide) rfl
      refine then_n (hK21 _ _ ?_)
      clear hK21
      refine wp_ret ?_
      refine then_ret ?_
      refine ret_in (results_3 Try.results20 (rv_tmp l4_22) (rv_tmp l5_22) (rv_tmp l6_22)) hdf22 ?_
      -- leaf FT
      obtain ⟨c24, hc24, hS24⟩ := hS23.pnil (s := 1)
      have hnn := nmE_nil l
      have h : fwE l ms = (mvR ms).2 := by first | exact fwE_ck (by assumption) | (rw [fwE_ck (l := l) (ms := ms) (by first | assumption | (rw [← hnn]; assumption))]; first | rfl | exact hnn.symm) | exact fwE_mv (l := l) (ms := ms) (by assumption)
      have h2 := fw_err (l := l) (ms := ms) (by rw [h]; assumption)
      rw [h, h2.2]
      exact ⟨_, rfl, (hS24.fin1 0 rfl (hc24.trans (by rw [h2.1] <;> rfl)))⟩
    · skip
      have hmv : (mvR ms).2 = 0 := by simpa using c20
      have hW := wyM_ok hmv
      refine wp_skip ?_
      refine then_n (hK17 _ _ ?_)
      clear hK17
      refine wp_seq_k (fun K25 hK25 => ?_)
      refine wp_seq_k (fun K26 hK26 => ?_)
      -- region 7
      refine region_in ?_
      refine W_v rfl rfl (V_mov rfl l0_19) ?_
      refine W_v rfl rfl (V_lenS rfl (et rfl) (sl_SlN h_rv.at) Try.underlying22) ?_
      refine W_v rfl rfl (V_mov rfl rfl) ?_
      refine W_end ?_
      refine gen_Q (fun A27 hA27 => ?_)
      have hsz27 : SzN A27 57 := by rw [hA27]; infer_instance
      have hdf27 : A27.defers = [] := by rw [hA27]; simp only [df_put]; exact hdf19
      have l4_27 := lookE hA27 4 (es rfl (es rfl (es rfl l4_19)))
      have l5_27 := lookE hA27 5 (es rfl (es rfl (es rfl l5_19)))
      have l7_27 := lookE hA27 7 (es rfl (es rfl (es rfl l7_19)))
      have l30_27 := lookE hA27 30 (es rfl (es rfl (et rfl)))
      have l31_27 := lookE hA27 31 (es rfl (et rfl))
      have l32_27 := lookE hA27 32 (et rfl)
      clear hA27 hsz19 hdf19 l0_19 l4_19 l5_19 l6_19 l7_19 l28_19
      refine then_n (hK26 _ _ ?_)
      clear hK26
      refine wp_block ?_
      -- loop 8
      refine loopX (fun mz A' w' => SzN A' 57 ∧ A'.defers = [] ∧ (∃ (k : Nat), (mz = l.length - k) ∧ (k ≤ l.length) ∧ (0 ≤ fwC l ms k ∧ fwC l ms k ≤ l.length) ∧ ((fwK l ms k).length = l.length) ∧ (EV A' (.tmp 32) = .int .i64 (k : Int)) ∧ (EV A' (.tmp 5) = .int .i64 (fwC l ms k)) ∧ (EV A' (.tmp 4) = EV A27 (.tmp 4)) ∧ (EV A' (.tmp 7) = EV A27 (.tmp 7)) ∧ (EV A' (.tmp 30) = EV A27 (.tmp 30)) ∧ (EV A' (.tmp 31) = EV A27 (.tmp 31)) ∧ (St w NoX [mi v_15 (wyM ms), io .i64 v_4 (fwK l ms k)] w'))) (l.length - 0) ⟨hsz27, hdf27, 0, rfl, (by omega), (fwC_bd _ _ _), (fwK_len _ _ _), ((l32_27).trans (by first | rfl | (simp; done) | (congr 1; omega))), ((l5_27).trans (rfl)), rfl, rfl, rfl, rfl, (by have q0 := hc_15; have q1 : c_4 = io .i64 v_4 (fwK l ms 0) := hc_4.trans ((by rw [hT, fwK_zero])); subst q0 q1; exact hS15)⟩ ?_
      clear hS15 hc_15 hc_4
      rintro n28 A28 w28 ⟨hsz28, hdf28, k, hm28, hk, hcb, hkl, l32_28, l5_28, u4_28, u7_28, u30_28, u31_28, hS28⟩
      have l4_28 := u4_28.trans l4_27
      have l7_28 := u7_28.trans l7_27
      have l30_28 := u30_28.trans l30_27
      have l31_28 := u31_28.trans l31_27
      obtain ⟨c_28, c_28b, hc_28, hc_28b, hS28⟩ := gen2 hS28
      refine wp_seq_k (fun K29 hK29 => ?_)
      -- region 8
      refine region_in ?_
      refine W_v rfl rfl (V_lss rfl l32_28 l31_28) ?_
      refine W_end ?_
      refine gen_Q (fun A30 hA30 => ?_)
      have hsz30 : SzN A30 57 := by rw [hA30]; infer_instance
      have hdf30 : A30.defers = [] := by rw [hA30]; simp only [df_put]; exact hdf28
      have l4_30 := lookE hA30 4 (es rfl l4_28)
      have l5_30 := lookE hA30 5 (es rfl l5_28)
      have l7_30 := lookE hA30 7 (es rfl l7_28)
      have l30_30 := lookE hA30 30 (es rfl l30_28)
      have l31_30 := lookE hA30 31 (es rfl l31_28)
      have l32_30 := lookE hA30 32 (es rfl l32_28)
      have l33_30 := lookE hA30 33 (et rfl)
      clear hA30 hsz28 hdf28 l32_28 l5_28 l4_28 l7_28 l30_28 l31_28
      refine then_n (hK29 _ _ ?_)
      clear hK29
      refine wp_seq_k (fun K31 hK31 => ?_)
      refine cond_dec l33_30 (fun c32 => ?_) (fun c32 => ?_)
      · skip
        refine wp_skip ?_
        refine then_n (hK31 _ _ ?_)
        clear hK31
        refine wp_seq_k (fun K33 hK33 => ?_)
        refine wp_block ?_
        refine wp_seq_k (fun K34 hK34 => ?_)
        -- region 9
        refine region_in ?_
        refine W_v rfl rfl (V_mov rfl l32_30) ?_
        have k35 : k < l.length := by first | omega | (simp only [List.length_cons, List.length_nil]; omega)
        obtain ⟨y35, hy35⟩ := get_some (xs := l) (k := k) k35
        obtain ⟨B35, O35, C35, hv35⟩ := (SlN.blk (sl_SlN h_rv.at) (by first | omega | (simp only [List.length_cons, List.length_nil]; omega)))
        refine W_v rfl rfl (V_ixS (off := O35 + k) 1 (k) rfl (es rfl l30_30) (es rfl l32_30) hv35 (by omega) k35 Try.underlying22 (by kernel_rfl) (congrArg _ (Nat.mul_one _))) ?_
        refine W_r rfl rfl (VR_ldC rfl (et rfl) ((sl_SlN (hS28.ro h_rv)).cell hv35 (map_get hy35)) Try.underlying3 rfl) ?_
        refine W_v rfl rfl (V_asg rfl (es rfl (es rfl (et rfl)))) ?_
        refine W_v rfl rfl (V_asg rfl (es rfl (et rfl))) ?_
        refine W_end ?_
        refine gen_Q (fun A36 hA36 => ?_)
        have hsz36 : SzN A36 57 := by rw [hA36]; infer_instance
        have hdf36 : A36.defers = [] := by rw [hA36]; simp only [df_put]; exact hdf30
        have l4_36 := lookE hA36 4 (es rfl (es rfl (es rfl (es rfl (es rfl l4_30)))))
        have l5_36 := lookE hA36 5 (es rfl (es rfl (es rfl (es rfl (es rfl l5_30)))))
        have l7_36 := lookE hA36 7 (es rfl (es rfl (es rfl (es rfl (es rfl l7_30)))))
        have l9_36 := lookE hA36 9 (es rfl (et rfl))
        have l10_36 := lookE hA36 10 (et rfl)
        have l30_36 := lookE hA36 30 (es rfl (es rfl (es rfl (es rfl (es rfl l30_30)))))
        have l31_36 := lookE hA36 31 (es rfl (es rfl (es rfl (es rfl (es rfl l31_30)))))
        have l32_36 := lookE hA36 32 (es rfl (es rfl (es rfl (es rfl (es rfl l32_30)))))
        clear hA36 hsz30 hdf30 l4_30 l5_30 l7_30 l30_30 l31_30 l32_30 l33_30
        refine then_n (hK34 _ _ ?_)
        clear hK34
        refine wp_seq_k (fun K37 hK37 => ?_)
        -- region 10
        refine region_in ?_
        refine W_v rfl rfl (V_mov rfl l7_36) ?_
        refine W_v rfl rfl (V_mov rfl (es rfl l10_36)) ?_
        refine W_r rfl rfl (VR_lookI rfl (es rfl (et rfl)) (et rfl) (hS28.chq 0 rfl hc_28) Try.underlying57 Try.underlying3 (by kernel_rfl)) ?_
        refine W_v rfl rfl (V_mov rfl (et rfl)) ?_
        refine W_v rfl rfl (V_ext (v := .int .i64 ((lkN (wyM ms) y35))) rfl (et rfl) rfl) ?_
        refine W_v rfl rfl (V_ext (v := .bool ((lkB (wyM ms) y35))) rfl (es rfl (et rfl)) rfl) ?_
        refine W_v rfl rfl (V_asg rfl (es rfl (et rfl))) ?_
        refine W_v rfl rfl (V_asg rfl (es rfl (et rfl))) ?_
        refine W_end ?_
        refine gen_Q (fun A38 hA38 => ?_)
        have hsz38 : SzN A38 57 := by rw [hA38]; infer_instance
        have hdf38 : A38.defers = [] := by rw [hA38]; simp only [df_put]; exact hdf36
        have l4_38 := lookE hA38 4 (es rfl (es rfl (es rfl (es rfl (es rfl (es rfl (es rfl (es rfl l4_36))))))))
        have l5_38 := lookE hA38 5 (es rfl (es rfl (es rfl (es rfl (es rfl (es rfl (es rfl (es rfl l5_36))))))))
        have l7_38 := lookE hA38 7 (es rfl (es rfl (es rfl (es rfl (es rfl (es rfl (es rfl (es rfl l7_36))))))))
        have l9_38 := lookE hA38 9 (es rfl (es rfl (es rfl (es rfl (es rfl (es rfl (es rfl (es rfl l9_36))))))))
        have l10_38 := lookE hA38 10 (es rfl (es rfl (es rfl (es rfl (es rfl (es rfl (es rfl (es rfl l10_36))))))))
        have l11_38 := lookE hA38 11 (es rfl (et rfl))
        have l12_38 := lookE hA38 12 (et rfl)
        have l30_38 := lookE hA38 30 (es rfl (es rfl (es rfl (es rfl (es rfl (es rfl (es rfl (es rfl l30_36))))))))
        have l31_38 := lookE hA38 31 (es rfl (es rfl (es rfl (es rfl (es rfl (es rfl (es rfl (es rfl l31_36))))))))
        have l32_38 := lookE hA38 32 (es rfl (es rfl (es rfl (es rfl (es rfl (es rfl (es rfl (es rfl l32_36))))))))
        clear hA38 hsz36 hdf36 l4_36 l5_36 l7_36 l9_36 l10_36 l30_36 l31_36 l32_36
        refine then_n (hK37 _ _ ?_)
        clear hK37
        refine wp_seq_k (fun K39 hK39 => ?_)
        refine wp_seq_k (fun K40 hK40 => ?_)
        -- region 11
        refine region_in ?_
        refine W_v rfl rfl (V_mov rfl l12_38) ?_
        refine W_v rfl rfl (V_not rfl (et rfl)) ?_
        refine W_end ?_
        refine gen_Q (fun A41 hA41 => ?_)
        have hsz41 : SzN A41 57 := by rw [hA41]; infer_instance
        have hdf41 : A41.defers = [] := by rw [hA41]; simp only [df_put]; exact hdf38
        have l4_41 := lookE hA41 4 (es rfl (es rfl l4_38))
        have l5_41 := lookE hA41 5 (es rfl (es rfl l5_38))
        have l7_41 := lookE hA41 7 (es rfl (es rfl l7_38))
        have l9_41 := lookE hA41 9 (es rfl (es rfl l9_38))
        have l10_41 := lookE hA41 10 (es rfl (es rfl l10_38))
        have l11_41 := lookE hA41 11 (es rfl (es rfl l11_38))
        have l30_41 := lookE hA41 30 (es rfl (es rfl l30_38))
        have l31_41 := lookE hA41 31 (es rfl (es rfl l31_38))
        have l32_41 := lookE hA41 32 (es rfl (es rfl l32_38))
        have l44_41 := lookE hA41 44 (et rfl)
        clear hA41 hsz38 hdf38 l4_38 l5_38 l7_38 l9_38 l10_38 l11_38 l12_38 l30_38 l31_38 l32_38
        refine then_n (hK40 _ _ ?_)
        clear hK40
        refine cond_b l44_41 (fun c42 => ?_) (fun c42 => ?_)
        · skip
          refine wp_exit ?_
          refine then_exit ?_
          refine inb_hit ?_
          refine then_n (hK33 _ _ ?_)
          clear hK33
          -- region 15
          refine region_in ?_
          refine W_v rfl rfl (V_add rfl l32_41 rfl (by omega) (by omega)) ?_
          refine W_v rfl rfl (V_mov rfl (et rfl)) ?_
          refine W_end ?_
          refine gen_Q (fun A43 hA43 => ?_)
          have hsz43 : SzN A43 57 := by rw [hA43]; infer_instance
          have hdf43 : A43.defers = [] := by rw [hA43]; simp only [df_put]; exact hdf41
          have l4_43 := lookE hA43 4 (es rfl (es rfl l4_41))
          have l5_43 := lookE hA43 5 (es rfl (es rfl l5_41))
          have l7_43 := lookE hA43 7 (es rfl (es rfl l7_41))
          have l30_43 := lookE hA43 30 (es rfl (es rfl l30_41))
          have l31_43 := lookE hA43 31 (es rfl (es rfl l31_41))
          have l32_43 := lookE hA43 32 (et rfl)
          clear hA43 hsz41 hdf41 l4_41 l5_41 l7_41 l9_41 l10_41 l11_41 l30_41 l31_41 l32_41 l44_41
          refine then_n ⟨l.length - (k + 1), by simp only [hm28]; omega, hsz43, hdf43, (k + 1), rfl, (by omega), (fwC_bd _ _ _), (fwK_len _ _ _), ((l32_43).trans (by first | rfl | (simp; done) | (congr 1; omega))), ((l5_43).trans ((by rw [fwC_eq hy35 (fw1_out (by have hq := c42; rw [hW] at hq; simpa using hq))]))), ((l4_43).trans l4_27.symm), ((l7_43).trans l7_27.symm), ((l30_43).trans l30_27.symm), ((l31_43).trans l31_27.symm), (by have q0 := hc_28; have q1 : c_28b = io .i64 v_4 (fwK l ms (k + 1)) := hc_28b.trans ((congrArg (io .i64 _) (fwK_same hy35 (fw1_out (by have hq := c42; rw [hW] at hq; simpa using hq))))); subst q0 q1; exact hS28)⟩
        · skip
          refine wp_skip ?_
          refine then_n (hK39 _ _ ?_)
          clear hK39
          refine wp_seq_k (fun K44 hK44 => ?_)
          -- region 12
          refine region_in ?_
          refine W_v rfl rfl (V_mov rfl l4_41) ?_
          refine W_v rfl rfl (V_mov rfl (es rfl l9_41)) ?_
          refine W_v rfl rfl (V_mov rfl (es rfl (es rfl l11_41))) ?_
          have k45 : k < (fwK l ms k).length := by first | omega | (simp only [List.length_cons, List.length_nil]; omega)
          obtain ⟨y45, hy45⟩ := get_some (xs := (fwK l ms k)) (k := k) k45
          obtain ⟨B45, O45, C45, hv45⟩ := (SlN.blk (ow_at (hS28.chq 1 rfl hc_28b)) (by first | omega | (simp only [List.length_cons, List.length_nil]; omega)))
          refine W_v rfl rfl (V_ixS (off := O45 + k) 1 (k) rfl (es rfl (es rfl (et rfl))) (es rfl (et rfl)) hv45 (by omega) k45 Try.underlying22 (by kernel_rfl) (congrArg _ (Nat.mul_one _))) ?_
          refine W_stE 1 hS28 rfl hc_28b hv45 rfl rfl rfl (et rfl) (es rfl (et rfl)) (by rfl) rfl (by first | (simp only [List.length_map]; omega) | omega) (by kernel_rfl) (fun w46 c46 hc46 hS46 => ?_)
          replace hc46 : c46 = io .i64 v_4 ((fwK l ms k).set k (lkN (wyM ms) y35)) := hc46.trans (by simp [io, bo, List.map_set] <;> rfl)
          replace hS46 : St w NoX [c_28, c46] w46 := hS46
          refine W_end ?_
          refine gen_Q (fun A47 hA47 => ?_)
          have hsz47 : SzN A47 57 := by rw [hA47]; infer_instance
          have hdf47 : A47.defers = [] := by rw [hA47]; simp only [df_put]; exact hdf41
          have l4_47 := lookE hA47 4 (es rfl (es rfl (es rfl (es rfl l4_41))))
          have l5_47 := lookE hA47 5 (es rfl (es rfl (es rfl (es rfl l5_41))))
          have l7_47 := lookE hA47 7 (es rfl (es rfl (es rfl (es rfl l7_41))))
          have l10_47 := lookE hA47 10 (es rfl (es rfl (es rfl (es rfl l10_41))))
          have l11_47 := lookE hA47 11 (es rfl (es rfl (es rfl (es rfl l11_41))))
          have l30_47 := lookE hA47 30 (es rfl (es rfl (es rfl (es rfl l30_41))))
          have l31_47 := lookE hA47 31 (es rfl (es rfl (es rfl (es rfl l31_41))))
          have l32_47 := lookE hA47 32 (es rfl (es rfl (es rfl (es rfl l32_41))))
          clear hA47 hsz41 hdf41 l4_41 l5_41 l7_41 l9_41 l10_41 l11_41 l30_41 l31_41 l32_41 l44_41
          refine then_n (hK44 _ _ ?_)
          clear hK44
          refine wp_seq_k (fun K48 hK48 => ?_)
          -- region 13
          refine region_in ?_
          refine W_v rfl rfl (V_mov rfl l10_47) ?_
          refine W_v rfl rfl (V_mov rfl (es rfl l11_47)) ?_
          refine W_v rfl rfl (V_neq rfl (es rfl (et rfl)) (et rfl)) ?_
          refine W_end ?_
          refine gen_Q (fun A49 hA49 => ?_)
          have hsz49 : SzN A49 57 := by rw [hA49]; infer_instance
          have hdf49 : A49.defers = [] := by rw [hA49]; simp only [df_put]; exact hdf47
          have l4_49 := lookE hA49 4 (es rfl (es rfl (es rfl l4_47)))
          have l5_49 := lookE hA49 5 (es rfl (es rfl (es rfl l5_47)))
          have l7_49 := lookE hA49 7 (es rfl (es rfl (es rfl l7_47)))
          have l30_49 := lookE hA49 30 (es rfl (es rfl (es rfl l30_47)))
          have l31_49 := lookE hA49 31 (es rfl (es rfl (es rfl l31_47)))
          have l32_49 := lookE hA49 32 (es rfl (es rfl (es rfl l32_47)))
          have l51_49 := lookE hA49 51 (et rfl)
          clear hA49 hsz47 hdf47 l4_47 l5_47 l7_47 l10_47 l11_47 l30_47 l31_47 l32_47
          refine then_n (hK48 _ _ ?_)
          clear hK48
          refine cond_dec l51_49 (fun c50 => ?_) (fun c50 => ?_)
          · skip
            -- region 14
            refine region_in ?_
            refine W_v rfl rfl (V_mov rfl l5_49) ?_
            refine W_v rfl rfl (V_add rfl (et rfl) rfl (by omega) (by omega)) ?_
            refine W_v rfl rfl (V_asg rfl (et rfl)) ?_
            refine W_end ?_
            refine gen_Q (fun A51 hA51 => ?_)
            have hsz51 : SzN A51 57 := by rw [hA51]; infer_instance
            have hdf51 : A51.defers = [] := by rw [hA51]; simp only [df_put]; exact hdf49
            have l4_51 := lookE hA51 4 (es rfl (es rfl (es rfl l4_49)))
            have l5_51 := lookE hA51 5 (et rfl)
            have l7_51 := lookE hA51 7 (es rfl (es rfl (es rfl l7_49)))
            have l30_51 := lookE hA51 30 (es rfl (es rfl (es rfl l30_49)))
            have l31_51 := lookE hA51 31 (es rfl (es rfl (es rfl l31_49)))
            have l32_51 := lookE hA51 32 (es rfl (es rfl (es rfl l32_49)))
            clear hA51 hsz49 hdf49 l4_49 l5_49 l7_49 l30_49 l31_49 l32_49 l51_49
            refine inb_n ?_
            refine then_n (hK33 _ _ ?_)
            clear hK33
            -- region 15
            refine region_in ?_
            refine W_v rfl rfl (V_add rfl l32_51 rfl (by omega) (by omega)) ?_
            refine W_v rfl rfl (V_mov rfl (et rfl)) ?_
            refine W_end ?_
            refine gen_Q (fun A52 hA52 => ?_)
            have hsz52 : SzN A52 57 := by rw [hA52]; infer_instance
            have hdf52 : A52.defers = [] := by rw [hA52]; simp only [df_put]; exact hdf51
            have l4_52 := lookE hA52 4 (es rfl (es rfl l4_51))
            have l5_52 := lookE hA52 5 (es rfl (es rfl l5_51))
            have l7_52 := lookE hA52 7 (es rfl (es rfl l7_51))
            have l30_52 := lookE hA52 30 (es rfl (es rfl l30_51))
            have l31_52 := lookE hA52 31 (es rfl (es rfl l31_51))
            have l32_52 := lookE hA52 32 (et rfl)
            clear hA52 hsz51 hdf51 l4_51 l5_51 l7_51 l30_51 l31_51 l32_51
            refine then_n ⟨l.length - (k + 1), by simp only [hm28]; omega, hsz52, hdf52, (k + 1), rfl, (by omega), (fwC_bd _ _ _), (fwK_len _ _ _), ((l32_52).trans (by first | rfl | (simp; done) | (congr 1; omega))), ((l5_52).trans ((by rw [fwC_ne hy35 (fun h => c50 (by rw [hW]; exact ((fw1_in (by have hq := c42; rw [hW] at hq; simpa using hq)).symm.trans h).symm))]))), ((l4_52).trans l4_27.symm), ((l7_52).trans l7_27.symm), ((l30_52).trans l30_27.symm), ((l31_52).trans l31_27.symm), (by have q0 := hc_28; have q1 : c46 = io .i64 v_4 (fwK l ms (k + 1)) := hc46.trans ((congrArg (io .i64 _) (by rw [← fwK_set hy35, (fw1_in (by have hq := c42; rw [hW] at hq; simpa using hq)), hW]))); subst q0 q1; exact hS46)⟩
          · skip
            refine wp_skip ?_
            refine inb_n ?_
            refine then_n (hK33 _ _ ?_)
            clear hK33
            -- region 15
            refine region_in ?_
            refine W_v rfl rfl (V_add rfl l32_49 rfl (by omega) (by omega)) ?_
            refine W_v rfl rfl (V_mov rfl (et rfl)) ?_
            refine W_end ?_
            refine gen_Q (fun A53 hA53 => ?_)
            have hsz53 : SzN A53 57 := by rw [hA53]; infer_instance
            have hdf53 : A53.defers = [] := by rw [hA53]; simp only [df_put]; exact hdf49
            have l4_53 := lookE hA53 4 (es rfl (es rfl l4_49))
            have l5_53 := lookE hA53 5 (es rfl (es rfl l5_49))
            have l7_53 := lookE hA53 7 (es rfl (es rfl l7_49))
            have l30_53 := lookE hA53 30 (es rfl (es rfl l30_49))
            have l31_53 := lookE hA53 31 (es rfl (es rfl l31_49))
            have l32_53 := lookE hA53 32 (et rfl)
            clear hA53 hsz49 hdf49 l4_49 l5_49 l7_49 l30_49 l31_49 l32_49 l51_49
            refine then_n ⟨l.length - (k + 1), by simp only [hm28]; omega, hsz53, hdf53, (k + 1), rfl, (by omega), (fwC_bd _ _ _), (fwK_len _ _ _), ((l32_53).trans (by first | rfl | (simp; done) | (congr 1; omega))), ((l5_53).trans ((by rw [fwC_eq hy35 ((fw1_in (by have hq := c42; rw [hW] at hq; simpa using hq)).trans (by have hq := c50; rw [hW] at hq; omega))]))), ((l4_53).trans l4_27.symm), ((l7_53).trans l7_27.symm), ((l30_53).trans l30_27.symm), ((l31_53).trans l31_27.symm), (by have q0 := hc_28; have q1 : c46 = io .i64 v_4 (fwK l ms (k + 1)) := hc46.trans ((congrArg (io .i64 _) (by rw [← fwK_set hy35, (fw1_in (by have hq := c42; rw [hW] at hq; simpa using hq)), hW]))); subst q0 q1; exact hS46)⟩
      · skip
        refine wp_exit ?_
        refine then_exit ?_
        refine then_exit ?_
        refine inb_hit ?_
        refine then_n (hK25 _ _ ?_)
        clear hK25
        refine wp_seq_k (fun K54 hK54 => ?_)
        -- region 16
        refine region_in ?_
        refine W_v rfl rfl (V_mov rfl l4_30) ?_
        refine W_v rfl rfl (V_mov rfl (es rfl l5_30)) ?_
        refine W_v rfl rfl (V_asg rfl (es rfl (et rfl))) ?_
        refine W_v rfl rfl (V_asg rfl (es rfl (et rfl))) ?_
        refine W_v rfl rfl (V_asg rfl rfl) ?_
        refine W_end ?_
        refine gen_Q (fun A55 hA55 => ?_)
        have hsz55 : SzN A55 57 := by rw [hA55]; infer_instance
        have hdf55 : A55.defers = [] := by rw [hA55]; simp only [df_put]; exact hdf30
        have l4_55 := lookE hA55 4 (es rfl (es rfl (et rfl)))
        have l5_55 := lookE hA55 5 (es rfl (et rfl))
        have l6_55 := lookE hA55 6 (et rfl)
        clear hA55 hsz30 hdf30 l4_30 l5_30 l7_30 l30_30 l31_30 l32_30 l33_30
        have hS56 : St w NoX [c_28b] w28 := hS28.sel [1] (by decide) rfl
        refine then_n (hK54 _ _ ?_)
        clear hK54
        refine wp_ret ?_
        refine ret_in (results_3 Try.results20 (rv_tmp l4_55) (rv_tmp l5_55) (rv_tmp l6_55)) hdf55 ?_
        -- leaf FFF
        have h : fwE l ms = 0 := (fwE_mv hck).trans hmv
        have h2 := fw_ok h
        rw [h, h2.2, ← fwC_all (k := k) (by omega)]
        exact ⟨_, rfl, (hS56.fin1 0 rfl (hc_28b.trans (by rw [h2.1, fwK_all (by omega)])))⟩

end Go.Proofs.Ytbnijekjaafoaaa