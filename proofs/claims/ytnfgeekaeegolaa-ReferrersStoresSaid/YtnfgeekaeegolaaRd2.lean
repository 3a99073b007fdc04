import Derived.Test.YtnfgeekaeegolaaProg
import Derived.Test.YtnfgeekaeegolaaRd1
import Derived.Test.YtnfgeekaeegolaaPl9f
namespace Go.Proofs.Ytnfgeekaeegolaa
open Go.RowKit Go.Own Go.Own.R Go.Own.S Go.Own.F


set_option maxHeartbeats 4000000 in
theorem isNaN_c {x : Int} {w : World}   :
    Calls Try.prog 61 #[.int .i64 x] w fun e w' => e = .returned (.bool false) ∧ St w NoX [] w' := by
  refine calls_in 6 Try.func61 rfl rfl (by simp) (fun A0 hsz0 hdf0 hargs => ?_)
  have l0_0 := hargs 0 (.int .i64 x) rfl
  clear hargs; replace hsz0 : SzN A0 6 := ⟨hsz0⟩
  have hS := St.nil w
  refine wp_seq_k (fun K1 hK1 => ?_)
  refine region_in ?_
  refine W_v rfl rfl (V_asg rfl rfl) ?_
  refine W_end ?_
  refine gen_Q (fun A2 hA2 => ?_)
  have hsz2 := szq hA2
  have hdf2 : A2.defers = [] := by rw [hA2]; simp only [df_put]; exact hdf0
  have l0_2 := lookE hA2 0 (es rfl l0_0)
  clear hA2 hsz0 hdf0 l0_0
  refine then_n (hK1 _ _ ?_)
  clear hK1
  refine wp_seq_k (fun K3 hK3 => ?_)
  refine region_in ?_
  refine W_v rfl rfl (V_mov rfl l0_2) ?_
  refine W_v rfl rfl (V_mov rfl (es rfl l0_2)) ?_
  refine W_v rfl rfl (V_neq rfl (es rfl (et rfl)) (et rfl)) ?_
  refine W_v rfl rfl (V_asg rfl (et rfl)) ?_
  refine W_end ?_
  refine gen_Q (fun A4 hA4 => ?_)
  have hsz4 := szq hA4
  have hdf4 : A4.defers = [] := by rw [hA4]; simp only [df_put]; exact hdf2
  have l2_4 := lookE hA4 2 (et rfl)
  clear hA4 hsz2 hdf2 l0_2
  refine then_n (hK3 _ _ ?_)
  clear hK3
  refine wp_ret ?_
  refine ret_in (results_1 Try.results61 (rv_tmp l2_4)) hdf4 ?_
  -- leaf 
  exact ⟨by simp, hS.fin0⟩

set_option maxHeartbeats 4000000 in
theorem cmpI_c {x : Int} {y : Int} {w : World}   :
    Calls Try.prog 48 #[.int .i64 x, .int .i64 y] w fun e w' => e = .returned (.int .i64 (cmpI x y)) ∧ St w NoX [] w' := by
  refine calls_in 20 Try.func48 rfl rfl (by simp) (fun A0 hsz0 hdf0 hargs => ?_)
  have l0_0 := hargs 0 (.int .i64 x) rfl
  have l1_0 := hargs 1 (.int .i64 y) rfl
  clear hargs; replace hsz0 : SzN A0 20 := ⟨hsz0⟩
  have hS := St.nil w
  refine wp_seq_k (fun K1 hK1 => ?_)
  refine region_in ?_
  refine W_v rfl rfl (V_asg rfl rfl) ?_
  refine W_end ?_
  refine gen_Q (fun A2 hA2 => ?_)
  have hsz2 := szq hA2
  have hdf2 : A2.defers = [] := by rw [hA2]; simp only [df_put]; exact hdf0
  have l0_2 := lookE hA2 0 (es rfl l0_0)
  have l1_2 := lookE hA2 1 (es rfl l1_0)
  clear hA2 hsz0 hdf0 l0_0 l1_0
  refine then_n (hK1 _ _ ?_)
  clear hK1
  refine wp_seq_k (fun K3 hK3 => ?_)
  refine region_in ?_
  refine W_v rfl rfl (V_mov rfl l0_2) ?_
  refine W_call rfl rfl rfl Try.func61 (by kernel_rfl) rfl (args1 (et rfl)) (isNaN_c (x := x)  ) ?_
  rintro _ w4 ⟨rfl, hP4⟩
  refine ⟨_, rfl, ?_⟩
  have hS4 := hS.join hP4
  replace hS4 : St w NoX [] w4 := hS4
  refine W_v rfl rfl (V_asg rfl (et rfl)) ?_
  refine W_end ?_
  refine gen_Q (fun A5 hA5 => ?_)
  have hsz5 := szq hA5
  have hdf5 : A5.defers = [] := by rw [hA5]; simp only [df_put]; exact hdf2
  have l0_5 := lookE hA5 0 (e2 rfl (es rfl l0_2))
  have l1_5 := lookE hA5 1 (e2 rfl (es rfl l1_2))
  have l5_5 := lookE hA5 5 (et rfl)
  clear hA5 hsz2 hdf2 l0_2 l1_2
  refine then_n (hK3 _ _ ?_)
  clear hK3
  refine wp_seq_k (fun K6 hK6 => ?_)
  refine region_in ?_
  refine W_v rfl rfl (V_mov rfl l1_5) ?_
  refine W_call rfl rfl rfl Try.func61 (by kernel_rfl) rfl (args1 (et rfl)) (isNaN_c (x := y)  ) ?_
  rintro _ w7 ⟨rfl, hP7⟩
  refine ⟨_, rfl, ?_⟩
  have hS7 := hS4.join hP7
  replace hS7 : St w NoX [] w7 := hS7
  refine W_v rfl rfl (V_asg rfl (et rfl)) ?_
  refine W_end ?_
  refine gen_Q (fun A8 hA8 => ?_)
  have hsz8 := szq hA8
  have hdf8 : A8.defers = [] := by rw [hA8]; simp only [df_put]; exact hdf5
  have l0_8 := lookE hA8 0 (e2 rfl (es rfl l0_5))
  have l1_8 := lookE hA8 1 (e2 rfl (es rfl l1_5))
  have l5_8 := lookE hA8 5 (e2 rfl (es rfl l5_5))
  have l6_8 := lookE hA8 6 (et rfl)
  clear hA8 hsz5 hdf5 l0_5 l1_5 l5_5
  refine then_n (hK6 _ _ ?_)
  clear hK6
  refine wp_seq_k (fun K9 hK9 => ?_)
  refine wp_seq_k (fun K10 hK10 => ?_)
  refine region_in ?_
  refine W_v rfl rfl (V_mov rfl l5_8) ?_
  refine W_end ?_
  refine gen_Q (fun A11 hA11 => ?_)
  have hsz11 := szq hA11
  have hdf11 : A11.defers = [] := by rw [hA11]; simp only [df_put]; exact hdf8
  have l0_11 := lookE hA11 0 (es rfl l0_8)
  have l1_11 := lookE hA11 1 (es rfl l1_8)
  have l6_11 := lookE hA11 6 (es rfl l6_8)
  have l11_11 := lookE hA11 11 (et rfl)
  clear hA11 hsz8 hdf8 l0_8 l1_8 l5_8 l6_8
  refine then_n (hK10 _ _ ?_)
  clear hK10
  refine cond_f l11_11 ?_
  refine wp_skip ?_
  refine then_n (hK9 _ _ ?_)
  clear hK9
  refine wp_seq_k (fun K12 hK12 => ?_)
  refine wp_seq_k (fun K13 hK13 => ?_)
  refine region_in ?_
  refine W_v rfl rfl (V_mov rfl l6_11) ?_
  refine W_end ?_
  refine gen_Q (fun A14 hA14 => ?_)
  have hsz14 := szq hA14
  have hdf14 : A14.defers = [] := by rw [hA14]; simp only [df_put]; exact hdf11
  have l0_14 := lookE hA14 0 (es rfl l0_11)
  have l1_14 := lookE hA14 1 (es rfl l1_11)
  have l13_14 := lookE hA14 13 (et rfl)
  clear hA14 hsz11 hdf11 l0_11 l1_11 l6_11 l11_11
  refine then_n (hK13 _ _ ?_)
  clear hK13
  refine cond_f l13_14 ?_
  refine wp_skip ?_
  refine then_n (hK12 _ _ ?_)
  clear hK12
  refine wp_seq_k (fun K15 hK15 => ?_)
  refine wp_seq_k (fun K16 hK16 => ?_)
  refine region_in ?_
  refine W_v rfl rfl (V_mov rfl l0_14) ?_
  refine W_v rfl rfl (V_mov rfl (es rfl l1_14)) ?_
  refine W_v rfl rfl (V_lss rfl (es rfl (et rfl)) (et rfl)) ?_
  refine W_end ?_
  refine gen_Q (fun A17 hA17 => ?_)
  have hsz17 := szq hA17
  have hdf17 : A17.defers = [] := by rw [hA17]; simp only [df_put]; exact hdf14
  have l0_17 := lookE hA17 0 (e2 rfl (es rfl l0_14))
  have l1_17 := lookE hA17 1 (e2 rfl (es rfl l1_14))
  have l16_17 := lookE hA17 16 (et rfl)
  clear hA17 hsz14 hdf14 l0_14 l1_14 l13_14
  refine then_n (hK16 _ _ ?_)
  clear hK16
  refine cond_dec l16_17 (fun c18 => ?_) (fun c18 => ?_)
  · skip
    refine wp_seq_k (fun K19 hK19 => ?_)
    refine region_in ?_
    refine W_v rfl rfl (V_asg rfl rfl) ?_
    refine W_end ?_
    refine gen_Q (fun A20 hA20 => ?_)
    have hsz20 := szq hA20
    have hdf20 : A20.defers = [] := by rw [hA20]; simp only [df_put]; exact hdf17
    have l4_20 := lookE hA20 4 (et rfl)
    clear hA20 hsz17 hdf17 l0_17 l1_17 l16_17
    refine then_n (hK19 _ _ ?_)
    clear hK19
    refine wp_ret ?_
    refine then_ret ?_
    refine ret_in (results_1 Try.results48 (rv_tmp l4_20)) hdf20 ?_
    -- leaf T
    exact ⟨retI (by unfold cmpI; split <;> first | omega | (split <;> omega)), hS7.fin0⟩
  · skip
    refine wp_skip ?_
    refine then_n (hK15 _ _ ?_)
    clear hK15
    refine wp_seq_k (fun K21 hK21 => ?_)
    refine wp_seq_k (fun K22 hK22 => ?_)
    refine region_in ?_
    refine W_v rfl rfl (V_mov rfl l0_17) ?_
    refine W_v rfl rfl (V_mov rfl (es rfl l1_17)) ?_
    refine W_v rfl rfl (V_gtr rfl (es rfl (et rfl)) (et rfl)) ?_
    refine W_end ?_
    refine gen_Q (fun A23 hA23 => ?_)
    have hsz23 := szq hA23
    have hdf23 : A23.defers = [] := by rw [hA23]; simp only [df_put]; exact hdf17
    have l19_23 := lookE hA23 19 (et rfl)
    clear hA23 hsz17 hdf17 l0_17 l1_17 l16_17
    refine then_n (hK22 _ _ ?_)
    clear hK22
    refine cond_dec l19_23 (fun c24 => ?_) (fun c24 => ?_)
    · skip
      refine wp_seq_k (fun K25 hK25 => ?_)
      refine region_in ?_
      refine W_v rfl rfl (V_asg rfl rfl) ?_
      refine W_end ?_
      refine gen_Q (fun A26 hA26 => ?_)
      have hsz26 := szq hA26
      have hdf26 : A26.defers = [] := by rw [hA26]; simp only [df_put]; exact hdf23
      have l4_26 := lookE hA26 4 (et rfl)
      clear hA26 hsz23 hdf23 l19_23
      refine then_n (hK25 _ _ ?_)
      clear hK25
      refine wp_ret ?_
      refine then_ret ?_
      refine ret_in (results_1 Try.results48 (rv_tmp l4_26)) hdf26 ?_
      -- leaf FT
      exact ⟨retI (by unfold cmpI; split <;> first | omega | (split <;> omega)), hS7.fin0⟩
    · skip
      refine wp_skip ?_
      refine then_n (hK21 _ _ ?_)
      clear hK21
      refine wp_seq_k (fun K27 hK27 => ?_)
      refine region_in ?_
      refine W_v rfl rfl (V_asg rfl rfl) ?_
      refine W_end ?_
      refine gen_Q (fun A28 hA28 => ?_)
      have hsz28 := szq hA28
      have hdf28 : A28.defers = [] := by rw [hA28]; simp only [df_put]; exact hdf23
      have l4_28 := lookE hA28 4 (et rfl)
      clear hA28 hsz23 hdf23 l19_23
      refine then_n (hK27 _ _ ?_)
      clear hK27
      refine wp_ret ?_
      refine ret_in (results_1 Try.results48 (rv_tmp l4_28)) hdf28 ?_
      -- leaf FF
      exact ⟨retI (by unfold cmpI; split <;> first | omega | (split <;> omega)), hS7.fin0⟩

set_option maxHeartbeats 4000000 in
theorem cmpOr_c {v : Value} {zs : List Int} {w : World} (h_v : Ro w NoX (il .i64 v zs))  :
    Calls Try.prog 47 #[v] w fun e w' => e = .returned (.int .i64 (orI zs)) ∧ St w NoX [] w' := by
  refine calls_in 18 Try.func47 rfl rfl (by simp) (fun A0 hsz0 hdf0 hargs => ?_)
  have l0_0 := hargs 0 (v) rfl
  clear hargs; replace hsz0 : SzN A0 18 := ⟨hsz0⟩
  have hS := St.nil w
  have bh_v := SlN.le (sl_SlN h_v.at)
  refine wp_seq_k (fun K1 hK1 => ?_)
  refine region_in ?_
  refine W_v rfl rfl (V_asg rfl rfl) ?_
  refine W_end ?_
  refine gen_Q (fun A2 hA2 => ?_)
  have hsz2 := szq hA2
  have hdf2 : A2.defers = [] := by rw [hA2]; simp only [df_put]; exact hdf0
  have l0_2 := lookE hA2 0 (es rfl l0_0)
  clear hA2 hsz0 hdf0 l0_0
  refine then_n (hK1 _ _ ?_)
  clear hK1
  refine wp_seq_k (fun K3 hK3 => ?_)
  refine region_in ?_
  refine W_v rfl rfl (V_asg rfl rfl) ?_
  refine W_end ?_
  refine gen_Q (fun A4 hA4 => ?_)
  have hsz4 := szq hA4
  have hdf4 : A4.defers = [] := by rw [hA4]; simp only [df_put]; exact hdf2
  have l0_4 := lookE hA4 0 (es rfl l0_2)
  have l3_4 := lookE hA4 3 (et rfl)
  clear hA4 hsz2 hdf2 l0_2
  refine then_n (hK3 _ _ ?_)
  clear hK3
  refine wp_seq_k (fun K5 hK5 => ?_)
  refine wp_seq_k (fun K6 hK6 => ?_)
  refine region_in ?_
  refine W_v rfl rfl (V_mov rfl l0_4) ?_
  refine W_v rfl rfl (V_lenS rfl (et rfl) (sl_SlN h_v.at) Try.underlying23) ?_
  refine W_v rfl rfl (V_mov rfl rfl) ?_
  refine W_end ?_
  refine gen_Q (fun A7 hA7 => ?_)
  have hsz7 := szq hA7
  have hdf7 : A7.defers = [] := by rw [hA7]; simp only [df_put]; exact hdf4
  have l3_7 := lookE hA7 3 (e2 rfl (es rfl l3_4))
  have l6_7 := lookE hA7 6 (e2 rfl (et rfl))
  have l7_7 := lookE hA7 7 (es rfl (et rfl))
  have l8_7 := lookE hA7 8 (et rfl)
  clear hA7 hsz4 hdf4 l0_4 l3_4
  refine then_n (hK6 _ _ ?_)
  clear hK6
  refine wp_block ?_
  -- loop 3
  refine loopX (fun mz A' w' => SzN A' 18 ∧ A'.defers = [] ∧ (∃ (k : Nat), (mz = zs.length - k) ∧ (k ≤ zs.length) ∧ (orI zs = orI (zs.drop k)) ∧ (EV A' (.tmp 8) = .int .i64 (k : Int)) ∧ (EV A' (.tmp 3) = EV A7 (.tmp 3)) ∧ (EV A' (.tmp 6) = EV A7 (.tmp 6)) ∧ (EV A' (.tmp 7) = EV A7 (.tmp 7)) ∧ (St w NoX [] w'))) (zs.length - 0) ⟨hsz7, hdf7, 0, rfl, (Nat.zero_le _), rfl, ((l8_7).trans (by first | rfl | (simp; done) | (congr 1; omega))), rfl, rfl, rfl, hS⟩ ?_
  clear hS
  rintro n8 A8 w8 ⟨hsz8, hdf8, k, hm8, hk, hz, l8_8, u3_8, u6_8, u7_8, hS8⟩
  have l3_8 := u3_8.trans l3_7
  have l6_8 := u6_8.trans l6_7
  have l7_8 := u7_8.trans l7_7
  refine wp_seq_k (fun K9 hK9 => ?_)
  refine region_in ?_
  refine W_v rfl rfl (V_lss rfl l8_8 l7_8) ?_
  refine W_end ?_
  refine gen_Q (fun A10 hA10 => ?_)
  have hsz10 := szq hA10
  have hdf10 : A10.defers = [] := by rw [hA10]; simp only [df_put]; exact hdf8
  have l3_10 := lookE hA10 3 (es rfl l3_8)
  have l6_10 := lookE hA10 6 (es rfl l6_8)
  have l7_10 := lookE hA10 7 (es rfl l7_8)
  have l8_10 := lookE hA10 8 (es rfl l8_8)
  have l9_10 := lookE hA10 9 (et rfl)
  clear hA10 hsz8 hdf8 l8_8 l3_8 l6_8 l7_8
  refine then_n (hK9 _ _ ?_)
  clear hK9
  refine wp_seq_k (fun K11 hK11 => ?_)
  refine cond_dec l9_10 (fun c12 => ?_) (fun c12 => ?_)
  · skip
    refine wp_skip ?_
    refine then_n (hK11 _ _ ?_)
    clear hK11
    refine wp_seq_k (fun K13 hK13 => ?_)
    refine wp_block ?_
    refine wp_seq_k (fun K14 hK14 => ?_)
    refine region_in ?_
    have k15 : k < zs.length := by first | omega | (simp only [List.length_cons, List.length_nil]; omega) | (simp only [List.length_set]; omega) | decide
    obtain ⟨y15, hy15⟩ := get_some (xs := zs) (k := k) k15
    obtain ⟨B15, O15, C15, hv15⟩ := (SlN.blk (sl_SlN h_v.at) (by first | omega | (simp only [List.length_cons, List.length_nil]; omega) | (simp only [List.length_set]; omega) | decide))
    refine W_v rfl rfl (V_ixS (off := O15 + k) 1 (k) rfl l6_10 l8_10 hv15 (by omega) k15 Try.underlying23 (by kernel_rfl) (congrArg _ (Nat.mul_one _))) ?_
    refine W_r rfl rfl (VR_ldC rfl (et rfl) ((sl_SlN (hS8.ro h_v)).cell hv15 (map_get hy15)) Try.underlying3 rfl) ?_
    refine W_v rfl rfl (V_asg rfl (et rfl)) ?_
    refine W_end ?_
    refine gen_Q (fun A16 hA16 => ?_)
    have hsz16 := szq hA16
    have hdf16 : A16.defers = [] := by rw [hA16]; simp only [df_put]; exact hdf10
    have l3_16 := lookE hA16 3 (e2 rfl (es rfl l3_10))
    have l5_16 := lookE hA16 5 (et rfl)
    have l6_16 := lookE hA16 6 (e2 rfl (es rfl l6_10))
    have l7_16 := lookE hA16 7 (e2 rfl (es rfl l7_10))
    have l8_16 := lookE hA16 8 (e2 rfl (es rfl l8_10))
    clear hA16 hsz10 hdf10 l3_10 l6_10 l7_10 l8_10 l9_10
    refine then_n (hK14 _ _ ?_)
    clear hK14
    refine wp_seq_k (fun K17 hK17 => ?_)
    refine region_in ?_
    refine W_v rfl rfl (V_mov rfl l5_16) ?_
    refine W_v rfl rfl (V_mov rfl (es rfl l3_16)) ?_
    refine W_v rfl rfl (V_neq rfl (es rfl (et rfl)) (et rfl)) ?_
    refine W_end ?_
    refine gen_Q (fun A18 hA18 => ?_)
    have hsz18 := szq hA18
    have hdf18 : A18.defers = [] := by rw [hA18]; simp only [df_put]; exact hdf16
    have l3_18 := lookE hA18 3 (e2 rfl (es rfl l3_16))
    have l5_18 := lookE hA18 5 (e2 rfl (es rfl l5_16))
    have l6_18 := lookE hA18 6 (e2 rfl (es rfl l6_16))
    have l7_18 := lookE hA18 7 (e2 rfl (es rfl l7_16))
    have l8_18 := lookE hA18 8 (e2 rfl (es rfl l8_16))
    have l14_18 := lookE hA18 14 (et rfl)
    clear hA18 hsz16 hdf16 l3_16 l5_16 l6_16 l7_16 l8_16
    refine then_n (hK17 _ _ ?_)
    clear hK17
    refine cond_dec l14_18 (fun c19 => ?_) (fun c19 => ?_)
    · skip
      refine wp_seq_k (fun K20 hK20 => ?_)
      refine region_in ?_
      refine W_v rfl rfl (V_mov rfl l5_18) ?_
      refine W_v rfl rfl (V_asg rfl (et rfl)) ?_
      refine W_end ?_
      refine gen_Q (fun A21 hA21 => ?_)
      have hsz21 := szq hA21
      have hdf21 : A21.defers = [] := by rw [hA21]; simp only [df_put]; exact hdf18
      have l2_21 := lookE hA21 2 (et rfl)
      clear hA21 hsz18 hdf18 l3_18 l5_18 l6_18 l7_18 l8_18 l14_18
      refine then_n (hK20 _ _ ?_)
      clear hK20
      refine wp_ret ?_
      refine inb_ret ?_
      refine then_ret ?_
      refine then_ret ?_
      refine inb_ret ?_
      refine then_ret ?_
      refine ret_in (results_1 Try.results47 (rv_tmp l2_21)) hdf21 ?_
      -- leaf TT
      exact ⟨retI (by rw [hz]; exact (orI_hit hy15 (by simpa using c19)).symm), hS8.fin0⟩
    · skip
      refine wp_skip ?_
      refine inb_n ?_
      refine then_n (hK13 _ _ ?_)
      clear hK13
      refine region_in ?_
      refine W_v rfl rfl (V_add rfl l8_18 rfl (by omega) (by omega)) ?_
      refine W_v rfl rfl (V_mov rfl (et rfl)) ?_
      refine W_end ?_
      refine gen_Q (fun A22 hA22 => ?_)
      have hsz22 := szq hA22
      have hdf22 : A22.defers = [] := by rw [hA22]; simp only [df_put]; exact hdf18
      have l3_22 := lookE hA22 3 (es rfl (es rfl l3_18))
      have l6_22 := lookE hA22 6 (es rfl (es rfl l6_18))
      have l7_22 := lookE hA22 7 (es rfl (es rfl l7_18))
      have l8_22 := lookE hA22 8 (et rfl)
      clear hA22 hsz18 hdf18 l3_18 l5_18 l6_18 l7_18 l8_18 l14_18
      refine then_n ⟨zs.length - (k + 1), by simp only [hm8]; omega, hsz22, hdf22, (k + 1), rfl, (by omega), (by rw [hz]; exact orI_skip hy15 (by simpa using c19)), ((l8_22).trans (by first | rfl | (simp; done) | (congr 1; omega))), ((l3_22).trans l3_7.symm), ((l6_22).trans l6_7.symm), ((l7_22).trans l7_7.symm), hS8⟩
  · skip
    refine wp_exit ?_
    refine then_exit ?_
    refine then_exit ?_
    refine inb_hit ?_
    refine then_n (hK5 _ _ ?_)
    clear hK5
    refine wp_seq_k (fun K23 hK23 => ?_)
    refine region_in ?_
    refine W_v rfl rfl (V_mov rfl l3_10) ?_
    refine W_v rfl rfl (V_asg rfl (et rfl)) ?_
    refine W_end ?_
    refine gen_Q (fun A24 hA24 => ?_)
    have hsz24 := szq hA24
    have hdf24 : A24.defers = [] := by rw [hA24]; simp only [df_put]; exact hdf10
    have l2_24 := lookE hA24 2 (et rfl)
    clear hA24 hsz10 hdf10 l3_10 l6_10 l7_10 l8_10 l9_10
    refine then_n (hK23 _ _ ?_)
    clear hK23
    refine wp_ret ?_
    refine ret_in (results_1 Try.results47 (rv_tmp l2_24)) hdf24 ?_
    -- leaf F
    exact ⟨retI (by rw [hz, List.drop_eq_nil_of_le (by omega)]; rfl), hS8.fin0⟩

set_option maxHeartbeats 4000000 in
theorem kmo1_c {a1 : Int} {a2 : Int} {b1 : Int} {b2 : Int} {w : World}   :
    Calls Try.prog 46 #[.agg #[.int .i64 a1, .int .i64 a2], .agg #[.int .i64 b1, .int .i64 b2]] w fun e w' => e = .returned (.int .i64 (orI [cmpI a2 b2, cmpI b1 a1])) ∧ St w NoX [] w' := by
  refine calls_in 17 Try.func46 rfl rfl (by simp) (fun A0 hsz0 hdf0 hargs => ?_)
  have l0_0 := hargs 0 (.agg #[.int .i64 a1, .int .i64 a2]) rfl
  have l1_0 := hargs 1 (.agg #[.int .i64 b1, .int .i64 b2]) rfl
  clear hargs; replace hsz0 : SzN A0 17 := ⟨hsz0⟩
  have hS := St.nil w
  refine wp_seq_k (fun K1 hK1 => ?_)
  refine region_in ?_
  refine W_boxS (zs := #[.int .i64 (a1), .int .i64 (a2)]) hS rfl rfl rfl l0_0 (by rfl) (fun g2 w2 c2 hc2 hS2 => ?_)
  replace hS2 : St w NoX [c2] w2 := hS2
  refine W_boxS (zs := #[.int .i64 (b1), .int .i64 (b2)]) hS2 rfl rfl rfl (es rfl l1_0) (by rfl) (fun g3 w3 c3 hc3 hS3 => ?_)
  replace hS3 : St w NoX [c3, c2] w3 := hS3
  refine W_v rfl rfl (V_asg rfl rfl) ?_
  refine W_end ?_
  refine gen_Q (fun A4 hA4 => ?_)
  have hsz4 := szq hA4
  have hdf4 : A4.defers = [] := by rw [hA4]; simp only [df_put]; exact hdf0
  have l2_4 := lookE hA4 2 (e2 rfl (et rfl))
  have l3_4 := lookE hA4 3 (es rfl (et rfl))
  clear hA4 hsz0 hdf0 l0_0 l1_0
  refine then_n (hK1 _ _ ?_)
  clear hK1
  refine wp_seq_k (fun K5 hK5 => ?_)
  refine region_monoS 13 13 [none, none, none, none, some (SPv [] (fun _ => fun u l' => u = .int .i64 (cmpI a2 b2) ∧ l' = []) 4), none, none, none, none, some (SPv [] (fun _ => fun u l' => u = .int .i64 (cmpI b1 a1) ∧ l' = []) 9), some (SPv [] (fun _ => fun u l' => ∃ g_, u = .slice (some ⟨g_, 0, none⟩) 2 2 ∧ ∃ c_, c_ = io .i64 (.slice (some ⟨g_, 0, none⟩) 2 2) [(cmpI a2 b2), (cmpI b1 a1)] ∧ l' = [c_]) 10), some (SPv [] (fun _ => fun u l' => u = .int .i64 (orI [(cmpI a2 b2), (cmpI b1 a1)]) ∧ l' = []) 11)] (by kernel_rfl) (by kernel_rfl) ?_
  refine D_v rfl rfl (V_fa (off' := 1) rfl l2_4 Try.underlying42 rfl (by decide +kernel) rfl) rfl rfl ?_
  refine D_r rfl rfl (by kernel_rfl) (fun sx hx hF => (VR_ldC rfl (et rfl) (cell_box (v := .int .i64 (a2)) ((hS3.grow hx).obj 1 rfl hc2) rfl) Try.underlying3 rfl)) rfl rfl ?_
  refine D_v rfl rfl (V_fa (off' := 1) rfl (es rfl (es rfl l3_4)) Try.underlying42 rfl (by decide +kernel) rfl) rfl rfl ?_
  refine D_r rfl rfl (by kernel_rfl) (fun sx hx hF => (VR_ldC rfl (et rfl) (cell_box (v := .int .i64 (b2)) ((hS3.grow hx).obj 0 rfl hc3) rfl) Try.underlying3 rfl)) rfl rfl ?_
  refine D_call (ts := []) (vs := []) (C0 := fun _ => fun u l' => u = .int .i64 (cmpI a2 b2) ∧ l' = []) (C := fun u l' => u = .int .i64 (cmpI a2 b2) ∧ l' = []) rfl rfl rfl Try.func48 (by kernel_rfl) rfl (args2 (e2 rfl (et rfl)) (et rfl)) rfl rfl rfl rfl (fun sx hx hF => ?_) (fun u6 l6 hu6 => ?_)
  · refine (cmpI_c (x := a2) (y := b2)  ).mono ?_
    rintro _ _ ⟨rfl, hz⟩
    exact ⟨_, rfl, _, ⟨rfl, rfl⟩, hz⟩
  obtain ⟨rfl, hl6⟩ := hu6
  refine D_v rfl rfl (V_fa (off' := 0) rfl (e4 rfl (es rfl l3_4)) Try.underlying42 rfl (by decide +kernel) rfl) rfl rfl ?_
  refine D_r rfl rfl (by kernel_rfl) (fun sx hx hF => (VR_ldC rfl (et rfl) (cell_box (v := .int .i64 (b1)) ((hS3.grow hx).obj 0 rfl hc3) rfl) Try.underlying3 rfl)) rfl rfl ?_
  refine D_v rfl rfl (V_fa (off' := 0) rfl (e6 rfl (es rfl l2_4)) Try.underlying42 rfl (by decide +kernel) rfl) rfl rfl ?_
  refine D_r rfl rfl (by kernel_rfl) (fun sx hx hF => (VR_ldC rfl (et rfl) (cell_box (v := .int .i64 (a1)) ((hS3.grow hx).obj 1 rfl hc2) rfl) Try.underlying3 rfl)) rfl rfl ?_
  refine D_call (ts := []) (vs := []) (C0 := fun _ => fun u l' => u = .int .i64 (cmpI b1 a1) ∧ l' = []) (C := fun u l' => u = .int .i64 (cmpI b1 a1) ∧ l' = []) rfl rfl rfl Try.func48 (by kernel_rfl) rfl (args2 (e2 rfl (et rfl)) (et rfl)) rfl rfl rfl rfl (fun sx hx hF => ?_) (fun u7 l7 hu7 => ?_)
  · refine (cmpI_c (x := b1) (y := a1)  ).mono ?_
    rintro _ _ ⟨rfl, hz⟩
    exact ⟨_, rfl, _, ⟨rfl, rfl⟩, hz⟩
  obtain ⟨rfl, hl7⟩ := hu7
  have hll8 : [(cmpI a2 b2), (cmpI b1 a1)].length = 2 := rfl
  refine D_lay (ts := []) (vs := []) (C0 := fun _ => fun u l' => ∃ g_, u = .slice (some ⟨g_, 0, none⟩) 2 2 ∧ ∃ c_, c_ = io .i64 (.slice (some ⟨g_, 0, none⟩) 2 2) [(cmpI a2 b2), (cmpI b1 a1)] ∧ l' = [c_]) (C := fun u l' => ∃ g_, u = .slice (some ⟨g_, 0, none⟩) 2 2 ∧ ∃ c_, c_ = io .i64 (.slice (some ⟨g_, 0, none⟩) 2 2) [(cmpI a2 b2), (cmpI b1 a1)] ∧ l' = [c_]) rfl rfl rfl rfl rfl rfl (fun sx hx hF => lay_lit (vs := [.int .i64 ((cmpI a2 b2)), .int .i64 ((cmpI b1 a1))]) 1 rfl (parts2 (e5 rfl (et rfl)) (et rfl)) rfl Try.underlying23 (by kernel_rfl) (by decide) (by intro v hv; simp only [List.mem_cons, List.not_mem_nil, or_false] at hv; rcases hv with rfl | rfl <;> rfl) (by rfl)) (fun u8 l8 hu8 => ?_)
  obtain ⟨g8, rfl, c8, hc8, hl8⟩ := hu8
  refine D_call (ts := []) (vs := []) (C0 := fun _ => fun u l' => u = .int .i64 (orI [(cmpI a2 b2), (cmpI b1 a1)]) ∧ l' = []) (C := fun u l' => u = .int .i64 (orI [(cmpI a2 b2), (cmpI b1 a1)]) ∧ l' = []) rfl rfl rfl Try.func47 (by kernel_rfl) rfl (args1 (et rfl)) rfl rfl rfl rfl (fun sx hx hF => ?_) (fun u9 l9 hu9 => ?_)
  · obtain ⟨ll8, ws8, we8, ⟨g8q, hq8, c8_, hc8_, hl8_⟩, hm8, k8, e8⟩ := L.ancF_get hF (by kernel_rfl); cases hq8; subst hl8_; refine (cmpOr_c ((k8.grow e8).chC 0 rfl hc8_).own ).mono ?_
    rintro _ _ ⟨rfl, hz⟩
    exact ⟨_, rfl, _, ⟨rfl, rfl⟩, hz⟩
  obtain ⟨rfl, hl9⟩ := hu9
  refine D_v rfl rfl (V_asg rfl (et rfl)) rfl rfl ?_
  refine ZS_none hS3 (Nat.le_refl _) (Nat.le_refl _) (fun s10 hJ10 hL10 hF10 => ?_)
  obtain ⟨ll6, ws6, we6, ⟨hq6, hl6r⟩, hm6, k6, e6⟩ := L.all_get (L.all_rest (L.all_rest (L.all_rest hF10))); cases hq6; subst hl6r
  replace hJ10 := hJ10.add hL10 (i := 4) rfl hm6 k6 e6
  obtain ⟨ll7, ws7, we7, ⟨hq7, hl7r⟩, hm7, k7, e7⟩ := L.all_get (L.all_rest (L.all_rest hF10)); cases hq7; subst hl7r
  replace hJ10 := hJ10.add hL10 (i := 9) rfl hm7 k7 e7
  obtain ⟨ll8, ws8, we8, ⟨g8q, hq8, c8r, hc8r, hl8r⟩, hm8, k8, e8⟩ := L.all_get (L.all_rest hF10); cases hq8; subst hl8r
  replace hJ10 := hJ10.add hL10 (i := 10) rfl hm8 k8 e8
  obtain ⟨ll9, ws9, we9, ⟨hq9, hl9r⟩, hm9, k9, e9⟩ := L.all_get hF10; cases hq9; subst hl9r
  replace hJ10 := hJ10.add hL10 (i := 11) rfl hm9 k9 e9
  have hS10 := hJ10.st; clear hF10 hJ10 hL10
  generalize s10.1 = w10 at *
  replace hS10 : St w NoX [c8r, c3, c2] w10 := hS10
  refine gen_Q (fun A11 hA11 => ?_)
  have hsz11 := szq hA11
  have hdf11 : A11.defers = [] := by rw [hA11]; simp only [df_put]; exact hdf4
  have l4_11 := lookE hA11 4 (et rfl)
  clear hA11 hsz4 hdf4 l2_4 l3_4
  have hS12 : St w NoX [] w10 := hS10.sel [] (by decide) rfl
  refine then_n (hK5 _ _ ?_)
  clear hK5
  refine wp_ret ?_
  refine ret_in (results_1 Try.results46 (rv_tmp l4_11)) hdf11 ?_
  -- leaf 
  exact ⟨rfl, hS12.fin0⟩

set_option maxHeartbeats 4000000 in
theorem kmf_c {cv : Value} {l : List (Int × Int)} {w : World} (h_cv : Ro w NoX (rl 2 rcC cv l)) (h0 : 0 < l.length) (hasc : l.Pairwise (fun x y => x.1 < y.1)) :
    Calls Try.prog 45 #[cv, .func (.func 46) #[] #[]] w fun e w' => e = .returned (.agg #[.int .i64 (mxP l).1, .int .i64 (mxP l).2]) ∧ St w NoX [] w' := by
  refine calls_in 33 Try.func45 rfl rfl (by simp) (fun A0 hsz0 hdf0 hargs => ?_)
  have l0_0 := hargs 0 (cv) rfl
  have l1_0 := hargs 1 (.func (.func 46) #[] #[]) rfl
  clear hargs; replace hsz0 : SzN A0 33 := ⟨hsz0⟩
  have hS := St.nil w
  have bh_cv := SlN.le (sl_SlN h_cv.at)
  refine wp_seq_k (fun K1 hK1 => ?_)
  refine region_in ?_
  refine W_allocS (z := .agg #[.int .i64 0, .int .i64 0]) (zs := #[.int .i64 0, .int .i64 0]) hS rfl rfl rfl (by kernel_rfl) (by rfl) (fun g2 w2 c2 hc2 hS2 => ?_)
  replace hS2 : St w NoX [c2] w2 := hS2
  refine W_end ?_
  refine gen_Q (fun A3 hA3 => ?_)
  have hsz3 := szq hA3
  have hdf3 : A3.defers = [] := by rw [hA3]; simp only [df_put]; exact hdf0
  have l0_3 := lookE hA3 0 (es rfl l0_0)
  have l1_3 := lookE hA3 1 (es rfl l1_0)
  have l4_3 := lookE hA3 4 (et rfl)
  clear hA3 hsz0 hdf0 l0_0 l1_0
  refine then_n (hK1 _ _ ?_)
  clear hK1
  refine wp_seq_k (fun K4 hK4 => ?_)
  refine wp_seq_k (fun K5 hK5 => ?_)
  refine region_in ?_
  refine W_v rfl rfl (V_mov rfl l0_3) ?_
  refine W_v rfl rfl (V_lenS rfl (et rfl) (sl_SlN h_cv.at) Try.underlying28) ?_
  refine W_v rfl rfl (V_lss rfl (et rfl) rfl) ?_
  refine W_end ?_
  refine gen_Q (fun A6 hA6 => ?_)
  have hsz6 := szq hA6
  have hdf6 : A6.defers = [] := by rw [hA6]; simp only [df_put]; exact hdf3
  have l0_6 := lookE hA6 0 (e2 rfl (es rfl l0_3))
  have l1_6 := lookE hA6 1 (e2 rfl (es rfl l1_3))
  have l4_6 := lookE hA6 4 (e2 rfl (es rfl l4_3))
  have l9_6 := lookE hA6 9 (et rfl)
  clear hA6 hsz3 hdf3 l0_3 l1_3 l4_3
  refine then_n (hK5 _ _ ?_)
  clear hK5
  refine cond_not l9_6 (by rw [decide_eq_false_iff_not]; omega) ?_
  refine wp_skip ?_
  refine then_n (hK4 _ _ ?_)
  clear hK4
  refine wp_seq_k (fun K7 hK7 => ?_)
  refine region_in ?_
  refine W_v rfl rfl (V_mov rfl l0_6) ?_
  have k8 : 0 < l.length := by first | omega | (simp only [List.length_cons, List.length_nil]; omega) | (simp only [List.length_set]; omega) | decide
  obtain ⟨y8, hy8⟩ := get_some (xs := l) (k := 0) k8
  obtain ⟨B8, O8, C8, hv8⟩ := (SlN.blk (sl_SlN h_cv.at) (by first | omega | (simp only [List.length_cons, List.length_nil]; omega) | (simp only [List.length_set]; omega) | decide))
  refine W_v rfl rfl (V_ixS (off := O8 + 0 * 2) 2 (0) rfl (et rfl) rfl hv8 (by omega) k8 Try.underlying28 (by kernel_rfl) rfl) ?_
  refine W_r rfl rfl (VR_ldR (ys := rcC y8) rfl (et rfl) (SlN.row rcC_len (sl_SlN (hS2.ro h_cv)) hv8 hy8 rfl) Try.underlying42 rfl (by kernel_rfl)) ?_
  refine W_allocS (z := .agg #[.int .i64 0, .int .i64 0]) (zs := #[.int .i64 0, .int .i64 0]) hS2 rfl rfl rfl (by kernel_rfl) (by rfl) (fun g9 w9 c9 hc9 hS9 => ?_)
  replace hS9 : St w NoX [c9, c2] w9 := hS9
  refine W_stAS 0 hS9 rfl hc9 rfl rfl rfl (et rfl) (es rfl (et rfl)) (by first | (rw [List.all_toArray] <;> rfl) | (simp only [List.all_toArray, List.all_cons, List.all_nil] <;> rfl)) (by rfl) (by kernel_rfl) (fun w10 c10 hc10 hS10 => ?_)
  replace hS10 : St w NoX [c10, c2] w10 := hS10
  refine W_end ?_
  refine gen_Q (fun A11 hA11 => ?_)
  have hsz11 := szq hA11
  have hdf11 : A11.defers = [] := by rw [hA11]; simp only [df_put]; exact hdf6
  have l0_11 := lookE hA11 0 (e3 rfl (es rfl l0_6))
  have l1_11 := lookE hA11 1 (e3 rfl (es rfl l1_6))
  have l4_11 := lookE hA11 4 (e3 rfl (es rfl l4_6))
  have l5_11 := lookE hA11 5 (et rfl)
  clear hA11 hsz6 hdf6 l0_6 l1_6 l4_6 l9_6
  refine then_n (hK7 _ _ ?_)
  clear hK7
  refine wp_seq_k (fun K12 hK12 => ?_)
  refine wp_seq_k (fun K13 hK13 => ?_)
  refine region_in ?_
  refine W_v rfl rfl (V_asg rfl rfl) ?_
  refine W_end ?_
  refine gen_Q (fun A14 hA14 => ?_)
  have hsz14 := szq hA14
  have hdf14 : A14.defers = [] := by rw [hA14]; simp only [df_put]; exact hdf11
  have l0_14 := lookE hA14 0 (es rfl l0_11)
  have l1_14 := lookE hA14 1 (es rfl l1_11)
  have l4_14 := lookE hA14 4 (es rfl l4_11)
  have l5_14 := lookE hA14 5 (es rfl l5_11)
  have l6_14 := lookE hA14 6 (et rfl)
  clear hA14 hsz11 hdf11 l0_11 l1_11 l4_11 l5_11
  refine then_n (hK13 _ _ ?_)
  clear hK13
  refine wp_block ?_
  -- loop 5
  refine loopX (fun mz A' w' => SzN A' 33 ∧ A'.defers = [] ∧ (∃ (k : Nat), (mz = l.length - k) ∧ (k ≤ l.length) ∧ (1 ≤ k) ∧ (EV A' (.tmp 6) = .int .i64 (k : Int)) ∧ (EV A' (.tmp 0) = EV A14 (.tmp 0)) ∧ (EV A' (.tmp 1) = EV A14 (.tmp 1)) ∧ (EV A' (.tmp 4) = EV A14 (.tmp 4)) ∧ (EV A' (.tmp 5) = EV A14 (.tmp 5)) ∧ (St w NoX [bx g9 42 #[.int .i64 ((mxP (l.take k)).1), .int .i64 ((mxP (l.take k)).2)], bx g2 42 #[.int .i64 0, .int .i64 0]] w'))) (l.length - 1) ⟨hsz14, hdf14, 1, rfl, (by omega), (by omega), ((l6_14).trans (by first | rfl | (simp; done) | (congr 1; omega))), rfl, rfl, rfl, rfl, (by have q0 : c10 = bx g9 42 #[.int .i64 ((mxP (l.take 1)).1), .int .i64 ((mxP (l.take 1)).2)] := hc10.trans ((by rw [mx_first hy8] <;> rfl)); have q1 := hc2; subst q0 q1; exact hS10)⟩ ?_
  clear hS10 hc10 hc2
  rintro n15 A15 w15 ⟨hsz15, hdf15, k, hm15, hk, hk1, l6_15, u0_15, u1_15, u4_15, u5_15, hS15⟩
  have l0_15 := u0_15.trans l0_14
  have l1_15 := u1_15.trans l1_14
  have l4_15 := u4_15.trans l4_14
  have l5_15 := u5_15.trans l5_14
  obtain ⟨c10_15, c2_15, hc10_15, hc2_15, hS15⟩ := gen2 hS15
  refine wp_seq_k (fun K16 hK16 => ?_)
  refine wp_seq_k (fun K17 hK17 => ?_)
  refine region_in ?_
  refine W_v rfl rfl (V_mov rfl l6_15) ?_
  refine W_v rfl rfl (V_mov rfl (es rfl l0_15)) ?_
  refine W_v rfl rfl (V_lenS rfl (et rfl) (sl_SlN h_cv.at) Try.underlying28) ?_
  refine W_v rfl rfl (V_lss rfl (e2 rfl (et rfl)) (et rfl)) ?_
  refine W_end ?_
  refine gen_Q (fun A18 hA18 => ?_)
  have hsz18 := szq hA18
  have hdf18 : A18.defers = [] := by rw [hA18]; simp only [df_put]; exact hdf15
  have l0_18 := lookE hA18 0 (e3 rfl (es rfl l0_15))
  have l1_18 := lookE hA18 1 (e3 rfl (es rfl l1_15))
  have l4_18 := lookE hA18 4 (e3 rfl (es rfl l4_15))
  have l5_18 := lookE hA18 5 (e3 rfl (es rfl l5_15))
  have l6_18 := lookE hA18 6 (e3 rfl (es rfl l6_15))
  have l17_18 := lookE hA18 17 (et rfl)
  clear hA18 hsz15 hdf15 l6_15 l0_15 l1_15 l4_15 l5_15
  refine then_n (hK17 _ _ ?_)
  clear hK17
  refine cond_dec l17_18 (fun c19 => ?_) (fun c19 => ?_)
  · skip
    refine wp_skip ?_
    refine then_n (hK16 _ _ ?_)
    clear hK16
    refine wp_seq_k (fun K20 hK20 => ?_)
    refine wp_block ?_
    refine wp_seq_k (fun K21 hK21 => ?_)
    have k22 : k < l.length := by first | omega | (simp only [List.length_cons, List.length_nil]; omega) | (simp only [List.length_set]; omega) | decide
    obtain ⟨y22, hy22⟩ := get_some (xs := l) (k := k) k22
    refine region_monoS 8 8 [none, none, none, none, none, none, some (SPv [] (fun _ => fun u l' => u = .int .i64 (orI [cmpI y22.2 ((mxP (l.take k)).2), cmpI ((mxP (l.take k)).1) y22.1]) ∧ l' = []) 6)] (by kernel_rfl) (by kernel_rfl) ?_
    refine D_v rfl rfl (V_mov rfl l1_18) rfl rfl ?_
    refine D_v rfl rfl (V_mov rfl (es rfl l0_18)) rfl rfl ?_
    refine D_v rfl rfl (V_mov rfl (es rfl (es rfl l6_18))) rfl rfl ?_
    obtain ⟨B22, O22, C22, hv22⟩ := (SlN.blk (sl_SlN h_cv.at) (by first | omega | (simp only [List.length_cons, List.length_nil]; omega) | (simp only [List.length_set]; omega) | decide))
    refine D_v rfl rfl (V_ixS (off := O22 + k * 2) 2 (k) rfl (es rfl (et rfl)) (et rfl) hv22 (by omega) k22 Try.underlying28 (by kernel_rfl) rfl) rfl rfl ?_
    refine D_r rfl rfl (by kernel_rfl) (fun sx hx hF => (VR_ldR (ys := rcC y22) rfl (et rfl) (SlN.row rcC_len (sl_SlN ((hS15.grow hx).ro h_cv)) hv22 hy22 rfl) Try.underlying42 rfl (by kernel_rfl))) rfl rfl ?_
    refine D_r rfl rfl (by kernel_rfl) (fun sx hx hF => (VR_ldA rfl (e4 rfl (es rfl l5_18)) ((hS15.grow hx).obj 0 rfl hc10_15) Try.underlying42 rfl (by kernel_rfl))) rfl rfl ?_
    refine D_callV (ts := []) (vs := []) (C0 := fun _ => fun u l' => u = .int .i64 (orI [cmpI y22.2 ((mxP (l.take k)).2), cmpI ((mxP (l.take k)).1) y22.1]) ∧ l' = []) (C := fun u l' => u = .int .i64 (orI [cmpI y22.2 ((mxP (l.take k)).2), cmpI ((mxP (l.take k)).1) y22.1]) ∧ l' = []) rfl rfl rfl (e5 rfl (et rfl)) Try.func46 (by kernel_rfl) rfl (args2 (es rfl (et rfl)) (et rfl)) rfl rfl rfl rfl (fun sx hx hF => ?_) (fun u23 l23 hu23 => ?_)
    · refine (kmo1_c (a1 := y22.1) (a2 := y22.2) (b1 := (mxP (l.take k)).1) (b2 := (mxP (l.take k)).2)  ).mono ?_
      rintro _ _ ⟨rfl, hz⟩
      exact ⟨_, rfl, _, ⟨rfl, rfl⟩, hz⟩
    obtain ⟨rfl, hl23⟩ := hu23
    refine D_v rfl rfl (V_gtr rfl (et rfl) rfl) rfl rfl ?_
    refine ZS_none hS15 (Nat.le_refl _) (Nat.le_refl _) (fun s24 hJ24 hL24 hF24 => ?_)
    obtain ⟨ll23, ws23, we23, ⟨hq23, hl23r⟩, hm23, k23, e23⟩ := L.all_get hF24; cases hq23; subst hl23r
    replace hJ24 := hJ24.add hL24 (i := 6) rfl hm23 k23 e23
    have hS24 := hJ24.st; clear hF24 hJ24 hL24
    generalize s24.1 = w24 at *
    replace hS24 : St w NoX [c10_15, c2_15] w24 := hS24
    refine gen_Q (fun A25 hA25 => ?_)
    have hsz25 := szq hA25
    have hdf25 : A25.defers = [] := by rw [hA25]; simp only [df_put]; exact hdf18
    have l0_25 := lookE hA25 0 (e7 rfl (es rfl l0_18))
    have l1_25 := lookE hA25 1 (e7 rfl (es rfl l1_18))
    have l4_25 := lookE hA25 4 (e7 rfl (es rfl l4_18))
    have l5_25 := lookE hA25 5 (e7 rfl (es rfl l5_18))
    have l6_25 := lookE hA25 6 (e7 rfl (es rfl l6_18))
    have l27_25 := lookE hA25 27 (et rfl)
    clear hA25 hsz18 hdf18 l0_18 l1_18 l4_18 l5_18 l6_18 l17_18
    refine then_n (hK21 _ _ ?_)
    clear hK21
    refine cond_dec l27_25 (fun c26 => ?_) (fun c26 => ?_)
    · skip
      refine region_in ?_
      refine W_v rfl rfl (V_mov rfl l0_25) ?_
      refine W_v rfl rfl (V_mov rfl (es rfl l6_25)) ?_
      refine W_v rfl rfl (V_ixS (off := O22 + k * 2) 2 (k) rfl (es rfl (et rfl)) (et rfl) hv22 (by omega) k22 Try.underlying28 (by kernel_rfl) rfl) ?_
      refine W_r rfl rfl (VR_ldR (ys := rcC y22) rfl (et rfl) (SlN.row rcC_len (sl_SlN (hS24.ro h_cv)) hv22 hy22 rfl) Try.underlying42 rfl (by kernel_rfl)) ?_
      refine W_stAS 0 hS24 rfl hc10_15 rfl rfl rfl (e3 rfl (es rfl l5_25)) (et rfl) (by first | (rw [List.all_toArray] <;> rfl) | (simp only [List.all_toArray, List.all_cons, List.all_nil] <;> rfl)) (by rfl) (by kernel_rfl) (fun w28 c28 hc28 hS28 => ?_)
      replace hS28 : St w NoX [c28, c2_15] w28 := hS28
      refine W_end ?_
      refine gen_Q (fun A29 hA29 => ?_)
      have hsz29 := szq hA29
      have hdf29 : A29.defers = [] := by rw [hA29]; simp only [df_put]; exact hdf25
      have l0_29 := lookE hA29 0 (e3 rfl (es rfl l0_25))
      have l1_29 := lookE hA29 1 (e3 rfl (es rfl l1_25))
      have l4_29 := lookE hA29 4 (e3 rfl (es rfl l4_25))
      have l5_29 := lookE hA29 5 (e3 rfl (es rfl l5_25))
      have l6_29 := lookE hA29 6 (e3 rfl (es rfl l6_25))
      clear hA29 hsz25 hdf25 l0_25 l1_25 l4_25 l5_25 l6_25 l27_25
      refine inb_n ?_
      refine then_n (hK20 _ _ ?_)
      clear hK20
      refine region_in ?_
      refine W_v rfl rfl (V_mov rfl l6_29) ?_
      refine W_v rfl rfl (V_add rfl (et rfl) rfl (by omega) (by omega)) ?_
      refine W_v rfl rfl (V_asg rfl (et rfl)) ?_
      refine W_end ?_
      refine gen_Q (fun A30 hA30 => ?_)
      have hsz30 := szq hA30
      have hdf30 : A30.defers = [] := by rw [hA30]; simp only [df_put]; exact hdf29
      have l0_30 := lookE hA30 0 (e2 rfl (es rfl l0_29))
      have l1_30 := lookE hA30 1 (e2 rfl (es rfl l1_29))
      have l4_30 := lookE hA30 4 (e2 rfl (es rfl l4_29))
      have l5_30 := lookE hA30 5 (e2 rfl (es rfl l5_29))
      have l6_30 := lookE hA30 6 (et rfl)
      clear hA30 hsz29 hdf29 l0_29 l1_29 l4_29 l5_29 l6_29
      refine then_n ⟨l.length - (k + 1), by simp only [hm15]; omega, hsz30, hdf30, (k + 1), rfl, (by omega), (by omega), ((l6_30).trans (by first | rfl | (simp; done) | (congr 1; omega))), ((l0_30).trans l0_14.symm), ((l1_30).trans l1_14.symm), ((l4_30).trans l4_14.symm), ((l5_30).trans l5_14.symm), (by have q0 : c28 = bx g9 42 #[.int .i64 ((mxP (l.take (k + 1))).1), .int .i64 ((mxP (l.take (k + 1))).2)] := hc28.trans ((by rw [mx_in (by omega) hy22 (by first | exact (or_pos (mxP_lt hasc (by omega) hy22)).1 (by omega) | exact fun h => absurd ((or_pos (mxP_lt hasc (by omega) hy22)).2 h) (by omega))] <;> rfl)); have q1 := hc2_15; subst q0 q1; exact hS28)⟩
    · skip
      refine wp_skip ?_
      refine inb_n ?_
      refine then_n (hK20 _ _ ?_)
      clear hK20
      refine region_in ?_
      refine W_v rfl rfl (V_mov rfl l6_25) ?_
      refine W_v rfl rfl (V_add rfl (et rfl) rfl (by omega) (by omega)) ?_
      refine W_v rfl rfl (V_asg rfl (et rfl)) ?_
      refine W_end ?_
      refine gen_Q (fun A31 hA31 => ?_)
      have hsz31 := szq hA31
      have hdf31 : A31.defers = [] := by rw [hA31]; simp only [df_put]; exact hdf25
      have l0_31 := lookE hA31 0 (e2 rfl (es rfl l0_25))
      have l1_31 := lookE hA31 1 (e2 rfl (es rfl l1_25))
      have l4_31 := lookE hA31 4 (e2 rfl (es rfl l4_25))
      have l5_31 := lookE hA31 5 (e2 rfl (es rfl l5_25))
      have l6_31 := lookE hA31 6 (et rfl)
      clear hA31 hsz25 hdf25 l0_25 l1_25 l4_25 l5_25 l6_25 l27_25
      refine then_n ⟨l.length - (k + 1), by simp only [hm15]; omega, hsz31, hdf31, (k + 1), rfl, (by omega), (by omega), ((l6_31).trans (by first | rfl | (simp; done) | (congr 1; omega))), ((l0_31).trans l0_14.symm), ((l1_31).trans l1_14.symm), ((l4_31).trans l4_14.symm), ((l5_31).trans l5_14.symm), (by have q0 : c10_15 = bx g9 42 #[.int .i64 ((mxP (l.take (k + 1))).1), .int .i64 ((mxP (l.take (k + 1))).2)] := hc10_15.trans ((by rw [mx_out (by omega) hy22 (by first | exact (or_pos (mxP_lt hasc (by omega) hy22)).1 (by omega) | exact fun h => absurd ((or_pos (mxP_lt hasc (by omega) hy22)).2 h) (by omega))] <;> rfl)); have q1 := hc2_15; subst q0 q1; exact hS24)⟩
  · skip
    refine wp_exit ?_
    refine then_exit ?_
    refine then_exit ?_
    refine inb_hit ?_
    refine then_n (hK12 _ _ ?_)
    clear hK12
    refine wp_seq_k (fun K32 hK32 => ?_)
    refine region_in ?_
    refine W_r rfl rfl (VR_ldA rfl l5_18 (hS15.obj 0 rfl hc10_15) Try.underlying42 rfl (by kernel_rfl)) ?_
    refine W_stAS 1 hS15 rfl hc2_15 rfl rfl rfl (es rfl l4_18) (et rfl) (by first | (rw [List.all_toArray] <;> rfl) | (simp only [List.all_toArray, List.all_cons, List.all_nil] <;> rfl)) (by rfl) (by kernel_rfl) (fun w33 c33 hc33 hS33 => ?_)
    replace hS33 : St w NoX [c10_15, c33] w33 := hS33
    refine W_end ?_
    refine gen_Q (fun A34 hA34 => ?_)
    have hsz34 := szq hA34
    have hdf34 : A34.defers = [] := by rw [hA34]; simp only [df_put]; exact hdf18
    have l4_34 := lookE hA34 4 (es rfl l4_18)
    clear hA34 hsz18 hdf18 l0_18 l1_18 l4_18 l5_18 l6_18 l17_18
    have hS35 : St w NoX [c33] w33 := hS33.sel [1] (by decide) rfl
    refine then_n (hK32 _ _ ?_)
    clear hK32
    refine wp_ret ?_
    refine ret_in (results_1 Try.results45 (rv_cellA l4_34 (hS35.obj 0 rfl hc33) Try.underlying42 rfl (by kernel_rfl))) hdf34 ?_
    -- leaf F
    have hx : l.take k = l := List.take_of_length_le (by omega)
    rw [hx]
    exact ⟨rfl, hS35.fin0⟩

end Go.Proofs.Ytnfgeekaeegolaa