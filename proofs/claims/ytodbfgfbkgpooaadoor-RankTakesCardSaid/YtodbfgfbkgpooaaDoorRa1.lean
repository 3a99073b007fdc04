import Derived.Test.YtodbfgfbkgpooaaDoorProg
import Derived.Test.YtodbfgfbkgpooaaDoorSepG
import Derived.Test.YtodbfgfbkgpooaaDoorPl12
namespace Go.Proofs.YtodbfgfbkgpooaaDoor
open Go.RowKit Go.Own


set_option maxHeartbeats 4000000 in
theorem isNaN_c {x : Int} {w : World}   :
    Calls Tryd.prog 48 #[.int .i64 x] w fun e w' => e = .returned (.bool false) ∧ St w NoX [] w' := by
  refine calls_in 6 Tryd.func48 rfl rfl (by simp) (fun A0 hsz0 hdf0 hargs => ?_)
  have l0_0 := hargs 0 (.int .i64 x) rfl
  clear hargs; replace hsz0 : SzN A0 6 := ⟨hsz0⟩
  have hS := St.nil w
  refine wp_seq_k (fun K1 hK1 => ?_)
  -- region 0
  refine region_in ?_
  refine W_v rfl rfl (V_asg rfl rfl) ?_
  refine W_end ?_
  refine gen_Q (fun A2 hA2 => ?_)
  have hsz2 : SzN A2 6 := by rw [hA2]; infer_instance
  have hdf2 : A2.defers = [] := by rw [hA2]; simp only [df_put]; exact hdf0
  have l0_2 := lookE hA2 0 (es rfl l0_0)
  clear hA2 hsz0 hdf0 l0_0
  refine then_n (hK1 _ _ ?_)
  clear hK1
  refine wp_seq_k (fun K3 hK3 => ?_)
  -- region 1
  refine region_in ?_
  refine W_v rfl rfl (V_mov rfl l0_2) ?_
  refine W_v rfl rfl (V_mov rfl (es rfl l0_2)) ?_
  refine W_v rfl rfl (V_neq rfl (es rfl (et rfl)) (et rfl)) ?_
  refine W_v rfl rfl (V_asg rfl (et rfl)) ?_
  refine W_end ?_
  refine gen_Q (fun A4 hA4 => ?_)
  have hsz4 : SzN A4 6 := by rw [hA4]; infer_instance
  have hdf4 : A4.defers = [] := by rw [hA4]; simp only [df_put]; exact hdf2
  have l2_4 := lookE hA4 2 (et rfl)
  clear hA4 hsz2 hdf2 l0_2
  refine then_n (hK3 _ _ ?_)
  clear hK3
  refine wp_ret ?_
  refine ret_in (results_1 Tryd.results48 (rv_tmp l2_4)) hdf4 ?_
  -- leaf 
  exact ⟨by simp, hS.fin0⟩

set_option maxHeartbeats 4000000 in
theorem cmpI_c {x : Int} {y : Int} {w : World}   :
    Calls Tryd.prog 40 #[.int .i64 x, .int .i64 y] w fun e w' => e = .returned (.int .i64 (cmpI x y)) ∧ St w NoX [] w' := by
  refine calls_in 20 Tryd.func40 rfl rfl (by simp) (fun A0 hsz0 hdf0 hargs => ?_)
  have l0_0 := hargs 0 (.int .i64 x) rfl
  have l1_0 := hargs 1 (.int .i64 y) rfl
  clear hargs; replace hsz0 : SzN A0 20 := ⟨hsz0⟩
  have hS := St.nil w
  refine wp_seq_k (fun K1 hK1 => ?_)
  -- region 0
  refine region_in ?_
  refine W_v rfl rfl (V_asg rfl rfl) ?_
  refine W_end ?_
  refine gen_Q (fun A2 hA2 => ?_)
  have hsz2 : SzN A2 20 := by rw [hA2]; infer_instance
  have hdf2 : A2.defers = [] := by rw [hA2]; simp only [df_put]; exact hdf0
  have l0_2 := lookE hA2 0 (es rfl l0_0)
  have l1_2 := lookE hA2 1 (es rfl l1_0)
  clear hA2 hsz0 hdf0 l0_0 l1_0
  refine then_n (hK1 _ _ ?_)
  clear hK1
  refine wp_seq_k (fun K3 hK3 => ?_)
  -- region 1
  refine region_in ?_
  refine W_v rfl rfl (V_mov rfl l0_2) ?_
  refine W_call rfl rfl rfl Tryd.func48 (by kernel_rfl) rfl (args1 (et rfl)) (isNaN_c (x := x)  ) ?_
  rintro _ w4 ⟨rfl, hP4⟩
  refine ⟨_, rfl, ?_⟩
  have hS4 := hS.join hP4
  replace hS4 : St w NoX [] w4 := hS4
  refine W_v rfl rfl (V_asg rfl (et rfl)) ?_
  refine W_end ?_
  refine gen_Q (fun A5 hA5 => ?_)
  have hsz5 : SzN A5 20 := by rw [hA5]; infer_instance
  have hdf5 : A5.defers = [] := by rw [hA5]; simp only [df_put]; exact hdf2
  have l0_5 := lookE hA5 0 (es rfl (es rfl (es rfl l0_2)))
  have l1_5 := lookE hA5 1 (es rfl (es rfl (es rfl l1_2)))
  have l5_5 := lookE hA5 5 (et rfl)
  clear hA5 hsz2 hdf2 l0_2 l1_2
  refine then_n (hK3 _ _ ?_)
  clear hK3
  refine wp_seq_k (fun K6 hK6 => ?_)
  -- region 2
  refine region_in ?_
  refine W_v rfl rfl (V_mov rfl l1_5) ?_
  refine W_call rfl rfl rfl Tryd.func48 (by kernel_rfl) rfl (args1 (et rfl)) (isNaN_c (x := y)  ) ?_
  rintro _ w7 ⟨rfl, hP7⟩
  refine ⟨_, rfl, ?_⟩
  have hS7 := hS4.join hP7
  replace hS7 : St w NoX [] w7 := hS7
  refine W_v rfl rfl (V_asg rfl (et rfl)) ?_
  refine W_end ?_
  refine gen_Q (fun A8 hA8 => ?_)
  have hsz8 : SzN A8 20 := by rw [hA8]; infer_instance
  have hdf8 : A8.defers = [] := by rw [hA8]; simp only [df_put]; exact hdf5
  have l0_8 := lookE hA8 0 (es rfl (es rfl (es rfl l0_5)))
  have l1_8 := lookE hA8 1 (es rfl (es rfl (es rfl l1_5)))
  have l5_8 := lookE hA8 5 (es rfl (es rfl (es rfl l5_5)))
  have l6_8 := lookE hA8 6 (et rfl)
  clear hA8 hsz5 hdf5 l0_5 l1_5 l5_5
  refine then_n (hK6 _ _ ?_)
  clear hK6
  refine wp_seq_k (fun K9 hK9 => ?_)
  refine wp_seq_k (fun K10 hK10 => ?_)
  -- region 3
  refine region_in ?_
  refine W_v rfl rfl (V_mov rfl l5_8) ?_
  refine W_end ?_
  refine gen_Q (fun A11 hA11 => ?_)
  have hsz11 : SzN A11 20 := by rw [hA11]; infer_instance
  have hdf11 : A11.defers = [] := by rw [hA11]; simp only [df_put]; exact hdf8
  have l0_11 := lookE hA11 0 (es rfl l0_8)
  have l1_11 := lookE hA11 1 (es rfl l1_8)
  have l6_11 := lookE hA11 6 (es rfl l6_8)
  have l11_11 := lookE hA11 11 (et rfl)
  clear hA11 hsz8 hdf8 l0_8 l1_8 l5_8 l6_8
  refine then_n (hK10 _ _ ?_)
  clear hK10
  refine cond_f l11_11 ?_
  refine wp_skip ?_
  refine then_n (hK9 _ _ ?_)
  clear hK9
  refine wp_seq_k (fun K12 hK12 => ?_)
  refine wp_seq_k (fun K13 hK13 => ?_)
  -- region 7
  refine region_in ?_
  refine W_v rfl rfl (V_mov rfl l6_11) ?_
  refine W_end ?_
  refine gen_Q (fun A14 hA14 => ?_)
  have hsz14 : SzN A14 20 := by rw [hA14]; infer_instance
  have hdf14 : A14.defers = [] := by rw [hA14]; simp only [df_put]; exact hdf11
  have l0_14 := lookE hA14 0 (es rfl l0_11)
  have l1_14 := lookE hA14 1 (es rfl l1_11)
  have l13_14 := lookE hA14 13 (et rfl)
  clear hA14 hsz11 hdf11 l0_11 l1_11 l6_11 l11_11
  refine then_n (hK13 _ _ ?_)
  clear hK13
  refine cond_f l13_14 ?_
  refine wp_skip ?_
  refine then_n (hK12 _ _ ?_)
  clear hK12
  refine wp_seq_k (fun K15 hK15 => ?_)
  refine wp_seq_k (fun K16 hK16 => ?_)
  -- region 9
  refine region_in ?_
  refine W_v rfl rfl (V_mov rfl l0_14) ?_
  refine W_v rfl rfl (V_mov rfl (es rfl l1_14)) ?_
  refine W_v rfl rfl (V_lss rfl (es rfl (et rfl)) (et rfl)) ?_
  refine W_end ?_
  refine gen_Q (fun A17 hA17 => ?_)
  have hsz17 : SzN A17 20 := by rw [hA17]; infer_instance
  have hdf17 : A17.defers = [] := by rw [hA17]; simp only [df_put]; exact hdf14
  have l0_17 := lookE hA17 0 (es rfl (es rfl (es rfl l0_14)))
  have l1_17 := lookE hA17 1 (es rfl (es rfl (es rfl l1_14)))
  have l16_17 := lookE hA17 16 (et rfl)
  clear hA17 hsz14 hdf14 l0_14 l1_14 l13_14
  refine then_n (hK16 _ _ ?_)
  clear hK16
  refine cond_dec l16_17 (fun c18 => ?_) (fun c18 => ?_)
  · skip
    refine wp_seq_k (fun K19 hK19 => ?_)
    -- region 10
    refine region_in ?_
    refine W_v rfl rfl (V_asg rfl rfl) ?_
    refine W_end ?_
    refine gen_Q (fun A20 hA20 => ?_)
    have hsz20 : SzN A20 20 := by rw [hA20]; infer_instance
    have hdf20 : A20.defers = [] := by rw [hA20]; simp only [df_put]; exact hdf17
    have l4_20 := lookE hA20 4 (et rfl)
    clear hA20 hsz17 hdf17 l0_17 l1_17 l16_17
    refine then_n (hK19 _ _ ?_)
    clear hK19
    refine wp_ret ?_
    refine then_ret ?_
    refine ret_in (results_1 Tryd.results40 (rv_tmp l4_20)) hdf20 ?_
    -- leaf T
    exact ⟨retI (by unfold cmpI; split <;> first | omega | (split <;> omega)), hS7.fin0⟩
  · skip
    refine wp_skip ?_
    refine then_n (hK15 _ _ ?_)
    clear hK15
    refine wp_seq_k (fun K21 hK21 => ?_)
    refine wp_seq_k (fun K22 hK22 => ?_)
    -- region 11
    refine region_in ?_
    refine W_v rfl rfl (V_mov rfl l0_17) ?_
    refine W_v rfl rfl (V_mov rfl (es rfl l1_17)) ?_
    refine W_v rfl rfl (V_gtr rfl (es rfl (et rfl)) (et rfl)) ?_
    refine W_end ?_
    refine gen_Q (fun A23 hA23 => ?_)
    have hsz23 : SzN A23 20 := by rw [hA23]; infer_instance
    have hdf23 : A23.defers = [] := by rw [hA23]; simp only [df_put]; exact hdf17
    have l19_23 := lookE hA23 19 (et rfl)
    clear hA23 hsz17 hdf17 l0_17 l1_17 l16_17
    refine then_n (hK22 _ _ ?_)
    clear hK22
    refine cond_dec l19_23 (fun c24 => ?_) (fun c24 => ?_)
    · skip
      refine wp_seq_k (fun K25 hK25 => ?_)
      -- region 12
      refine region_in ?_
      refine W_v rfl rfl (V_asg rfl rfl) ?_
      refine W_end ?_
      refine gen_Q (fun A26 hA26 => ?_)
      have hsz26 : SzN A26 20 := by rw [hA26]; infer_instance
      have hdf26 : A26.defers = [] := by rw [hA26]; simp only [df_put]; exact hdf23
      have l4_26 := lookE hA26 4 (et rfl)
      clear hA26 hsz23 hdf23 l19_23
      refine then_n (hK25 _ _ ?_)
      clear hK25
      refine wp_ret ?_
      refine then_ret ?_
      refine ret_in (results_1 Tryd.results40 (rv_tmp l4_26)) hdf26 ?_
      -- leaf FT
      exact ⟨retI (by unfold cmpI; split <;> first | omega | (split <;> omega)), hS7.fin0⟩
    · skip
      refine wp_skip ?_
      refine then_n (hK21 _ _ ?_)
      clear hK21
      refine wp_seq_k (fun K27 hK27 => ?_)
      -- region 13
      refine region_in ?_
      refine W_v rfl rfl (V_asg rfl rfl) ?_
      refine W_end ?_
      refine gen_Q (fun A28 hA28 => ?_)
      have hsz28 : SzN A28 20 := by rw [hA28]; infer_instance
      have hdf28 : A28.defers = [] := by rw [hA28]; simp only [df_put]; exact hdf23
      have l4_28 := lookE hA28 4 (et rfl)
      clear hA28 hsz23 hdf23 l19_23
      refine then_n (hK27 _ _ ?_)
      clear hK27
      refine wp_ret ?_
      refine ret_in (results_1 Tryd.results40 (rv_tmp l4_28)) hdf28 ?_
      -- leaf FF
      exact ⟨retI (by unfold cmpI; split <;> first | omega | (split <;> omega)), hS7.fin0⟩

set_option maxHeartbeats 4000000 in
theorem cmpOr_c {v : Value} {zs : List Int} {w : World} (h_v : Ro w NoX (il .i64 v zs))  :
    Calls Tryd.prog 39 #[v] w fun e w' => e = .returned (.int .i64 (orI zs)) ∧ St w NoX [] w' := by
  refine calls_in 18 Tryd.func39 rfl rfl (by simp) (fun A0 hsz0 hdf0 hargs => ?_)
  have l0_0 := hargs 0 (v) rfl
  clear hargs; replace hsz0 : SzN A0 18 := ⟨hsz0⟩
  have hS := St.nil w
  have bh_v := SlN.le (sl_SlN h_v.at)
  refine wp_seq_k (fun K1 hK1 => ?_)
  -- region 0
  refine region_in ?_
  refine W_v rfl rfl (V_asg rfl rfl) ?_
  refine W_end ?_
  refine gen_Q (fun A2 hA2 => ?_)
  have hsz2 : SzN A2 18 := by rw [hA2]; infer_instance
  have hdf2 : A2.defers = [] := by rw [hA2]; simp only [df_put]; exact hdf0
  have l0_2 := lookE hA2 0 (es rfl l0_0)
  clear hA2 hsz0 hdf0 l0_0
  refine then_n (hK1 _ _ ?_)
  clear hK1
  refine wp_seq_k (fun K3 hK3 => ?_)
  -- region 1
  refine region_in ?_
  refine W_v rfl rfl (V_asg rfl rfl) ?_
  refine W_end ?_
  refine gen_Q (fun A4 hA4 => ?_)
  have hsz4 : SzN A4 18 := by rw [hA4]; infer_instance
  have hdf4 : A4.defers = [] := by rw [hA4]; simp only [df_put]; exact hdf2
  have l0_4 := lookE hA4 0 (es rfl l0_2)
  have l3_4 := lookE hA4 3 (et rfl)
  clear hA4 hsz2 hdf2 l0_2
  refine then_n (hK3 _ _ ?_)
  clear hK3
  refine wp_seq_k (fun K5 hK5 => ?_)
  refine wp_seq_k (fun K6 hK6 => ?_)
  -- region 2
  refine region_in ?_
  refine W_v rfl rfl (V_mov rfl l0_4) ?_
  refine W_v rfl rfl (V_lenS rfl (et rfl) (sl_SlN h_v.at) Tryd.underlying22) ?_
  refine W_v rfl rfl (V_mov rfl rfl) ?_
  refine W_end ?_
  refine gen_Q (fun A7 hA7 => ?_)
  have hsz7 : SzN A7 18 := by rw [hA7]; infer_instance
  have hdf7 : A7.defers = [] := by rw [hA7]; simp only [df_put]; exact hdf4
  have l3_7 := lookE hA7 3 (es rfl (es rfl (es rfl l3_4)))
  have l6_7 := lookE hA7 6 (es rfl (es rfl (et rfl)))
  have l7_7 := lookE hA7 7 (es rfl (et rfl))
  have l8_7 := lookE hA7 8 (et rfl)
  clear hA7 hsz4 hdf4 l0_4 l3_4
  refine then_n (hK6 _ _ ?_)
  clear hK6
  refine wp_block ?_
  -- loop 3
  refine loopX (fun mz A' w' => SzN A' 18 ∧ A'.defers = [] ∧ (∃ (k : Nat), (mz = zs.length - k) ∧ (k ≤ zs.length) ∧ (orI zs = orI (zs.drop k)) ∧ (EV A' (.tmp 8) = .int .i64 (k : Int)) ∧ (EV A' (.tmp 3) = EV A7 (.tmp 3)) ∧ (EV A' (.tmp 6) = EV A7 (.tmp 6)) ∧ (EV A' (.tmp 7) = EV A7 (.tmp 7)) ∧ (St w NoX [] w'))) (zs.length - 0) ⟨hsz7, hdf7, 0, rfl, (Nat.zero_le _), rfl, ((l8_7).trans (by first | rfl | (simp; done) | (congr 1; omega))), rfl, rfl, rfl, hS⟩ ?_
  clear hS
  rintro n8 A8 w8 ⟨hsz8, hdf8, k, hm8, hk, hz, l8_8, u3_8, u6_8, u7_8, hS8⟩
  have l3_8 := u3_8.trans l3_7
  have l6_8 := u6_8.trans l6_7
  have l7_8 := u7_8.trans l7_7
  refine wp_seq_k (fun K9 hK9 => ?_)
  -- region 3
  refine region_in ?_
  refine W_v rfl rfl (V_lss rfl l8_8 l7_8) ?_
  refine W_end ?_
  refine gen_Q (fun A10 hA10 => ?_)
  have hsz10 : SzN A10 18 := by rw [hA10]; infer_instance
  have hdf10 : A10.defers = [] := by rw [hA10]; simp only [df_put]; exact hdf8
  have l3_10 := lookE hA10 3 (es rfl l3_8)
  have l6_10 := lookE hA10 6 (es rfl l6_8)
  have l7_10 := lookE hA10 7 (es rfl l7_8)
  have l8_10 := lookE hA10 8 (es rfl l8_8)
  have l9_10 := lookE hA10 9 (et rfl)
  clear hA10 hsz8 hdf8 l8_8 l3_8 l6_8 l7_8
  refine then_n (hK9 _ _ ?_)
  clear hK9
  refine wp_seq_k (fun K11 hK11 => ?_)
  refine cond_dec l9_10 (fun c12 => ?_) (fun c12 => ?_)
  · skip
    refine wp_skip ?_
    refine then_n (hK11 _ _ ?_)
    clear hK11
    refine wp_seq_k (fun K13 hK13 => ?_)
    refine wp_block ?_
    refine wp_seq_k (fun K14 hK14 => ?_)
    -- region 4
    refine region_in ?_
    have k15 : k < zs.length := by first | omega | (simp only [List.length_cons, List.length_nil]; omega)
    obtain ⟨y15, hy15⟩ := get_some (xs := zs) (k := k) k15
    
    obtain ⟨B15, O15, C15, hv15⟩ := (SlN.blk (sl_SlN h_v.at) (by first | omega | (simp only [List.length_cons, List.length_nil]; omega)))
    refine W_v rfl rfl (V_ixS (off := O15 + k) 1 (k) rfl l6_10 l8_10 hv15 (by omega) k15 Tryd.underlying22 (by kernel_rfl) (congrArg _ (Nat.mul_one _))) ?_
    refine W_r rfl rfl (VR_ldC rfl (et rfl) ((sl_SlN (hS8.ro h_v)).cell hv15 (map_get hy15)) Tryd.underlying3 rfl) ?_
    refine W_v rfl rfl (V_asg rfl (et rfl)) ?_
    refine W_end ?_
    refine gen_Q (fun A16 hA16 => ?_)
    have hsz16 : SzN A16 18 := by rw [hA16]; infer_instance
    have hdf16 : A16.defers = [] := by rw [hA16]; simp only [df_put]; exact hdf10
    have l3_16 := lookE hA16 3 (es rfl (es rfl (es rfl l3_10)))
    have l5_16 := lookE hA16 5 (et rfl)
    have l6_16 := lookE hA16 6 (es rfl (es rfl (es rfl l6_10)))
    have l7_16 := lookE hA16 7 (es rfl (es rfl (es rfl l7_10)))
    have l8_16 := lookE hA16 8 (es rfl (es rfl (es rfl l8_10)))
    clear hA16 hsz10 hdf10 l3_10 l6_10 l7_10 l8_10 l9_10
    refine then_n (hK14 _ _ ?_)
    clear hK14
    refine wp_seq_k (fun K17 hK17 => ?_)
    -- region 5
    refine region_in ?_
    refine W_v rfl rfl (V_mov rfl l5_16) ?_
    refine W_v rfl rfl (V_mov rfl (es rfl l3_16)) ?_
    refine W_v rfl rfl (V_neq rfl (es rfl (et rfl)) (et rfl)) ?_
    refine W_end ?_
    refine gen_Q (fun A18 hA18 => ?_)
    have hsz18 : SzN A18 18 := by rw [hA18]; infer_instance
    have hdf18 : A18.defers = [] := by rw [hA18]; simp only [df_put]; exact hdf16
    have l3_18 := lookE hA18 3 (es rfl (es rfl (es rfl l3_16)))
    have l5_18 := lookE hA18 5 (es rfl (es rfl (es rfl l5_16)))
    have l6_18 := lookE hA18 6 (es rfl (es rfl (es rfl l6_16)))
    have l7_18 := lookE hA18 7 (es rfl (es rfl (es rfl l7_16)))
    have l8_18 := lookE hA18 8 (es rfl (es rfl (es rfl l8_16)))
    have l14_18 := lookE hA18 14 (et rfl)
    clear hA18 hsz16 hdf16 l3_16 l5_16 l6_16 l7_16 l8_16
    refine then_n (hK17 _ _ ?_)
    clear hK17
    refine cond_dec l14_18 (fun c19 => ?_) (fun c19 => ?_)
    · skip
      refine wp_seq_k (fun K20 hK20 => ?_)
      -- region 6
      refine region_in ?_
      refine W_v rfl rfl (V_mov rfl l5_18) ?_
      refine W_v rfl rfl (V_asg rfl (et rfl)) ?_
      refine W_end ?_
      refine gen_Q (fun A21 hA21 => ?_)
      have hsz21 : SzN A21 18 := by rw [hA21]; infer_instance
      have hdf21 : A21.defers = [] := by rw [hA21]; simp only [df_put]; exact hdf18
      have l2_21 := lookE hA21 2 (et rfl)
      clear hA21 hsz18 hdf18 l3_18 l5_18 l6_18 l7_18 l8_18 l14_18
      refine then_n (hK20 _ _ ?_)
      clear hK20
      refine wp_ret ?_
      refine inb_ret ?_
      refine then_ret ?_
      refine then_ret ?_
      refine inb_ret ?_
      refine then_ret ?_
      refine ret_in (results_1 Tryd.results39 (rv_tmp l2_21)) hdf21 ?_
      -- leaf TT
      exact ⟨retI (by rw [hz]; exact (orI_hit hy15 (by simpa using c19)).symm), hS8.fin0⟩
    · skip
      refine wp_skip ?_
      refine inb_n ?_
      refine then_n (hK13 _ _ ?_)
      clear hK13
      -- region 7
      refine region_in ?_
      refine W_v rfl rfl (V_add rfl l8_18 rfl (by omega) (by omega)) ?_
      refine W_v rfl rfl (V_mov rfl (et rfl)) ?_
      refine W_end ?_
      refine gen_Q (fun A22 hA22 => ?_)
      have hsz22 : SzN A22 18 := by rw [hA22]; infer_instance
      have hdf22 : A22.defers = [] := by rw [hA22]; simp only [df_put]; exact hdf18
      have l3_22 := lookE hA22 3 (es rfl (es rfl l3_18))
      have l6_22 := lookE hA22 6 (es rfl (es rfl l6_18))
      have l7_22 := lookE hA22 7 (es rfl (es rfl l7_18))
      have l8_22 := lookE hA22 8 (et rfl)
      clear hA22 hsz18 hdf18 l3_18 l5_18 l6_18 l7_18 l8_18 l14_18
      refine then_n ⟨zs.length - (k + 1), by simp only [hm8]; omega, hsz22, hdf22, (k + 1), rfl, (by omega), (by rw [hz]; exact orI_skip hy15 (by simpa using c19)), ((l8_22).trans (by first | rfl | (simp; done) | (congr 1; omega))), ((l3_22).trans l3_7.symm), ((l6_22).trans l6_7.symm), ((l7_22).trans l7_7.symm), hS8⟩
  · skip
    refine wp_exit ?_
    refine then_exit ?_
    refine then_exit ?_
    refine inb_hit ?_
    refine then_n (hK5 _ _ ?_)
    clear hK5
    refine wp_seq_k (fun K23 hK23 => ?_)
    -- region 8
    refine region_in ?_
    refine W_v rfl rfl (V_mov rfl l3_10) ?_
    refine W_v rfl rfl (V_asg rfl (et rfl)) ?_
    refine W_end ?_
    refine gen_Q (fun A24 hA24 => ?_)
    have hsz24 : SzN A24 18 := by rw [hA24]; infer_instance
    have hdf24 : A24.defers = [] := by rw [hA24]; simp only [df_put]; exact hdf10
    have l2_24 := lookE hA24 2 (et rfl)
    clear hA24 hsz10 hdf10 l3_10 l6_10 l7_10 l8_10 l9_10
    refine then_n (hK23 _ _ ?_)
    clear hK23
    refine wp_ret ?_
    refine ret_in (results_1 Tryd.results39 (rv_tmp l2_24)) hdf24 ?_
    -- leaf F
    exact ⟨retI (by rw [hz, List.drop_eq_nil_of_le (by omega)]; rfl), hS8.fin0⟩

set_option maxHeartbeats 4000000 in
theorem kall_c {lv : Value} {lo : List Int} {yv : Value} {yo : List Int} {w : World} (h_lv : Ro w NoX (il .i64 lv lo)) (h_yv : Ro w NoX (il .i64 yv yo))  :
    Calls Tryd.prog 42 #[.agg #[lv, yv]] w fun e w' => ∃ g, e = .returned (.func (.func 49) #[] #[.pointer (some ⟨g, 0, none⟩)]) ∧ St w NoX [bx g 24 #[lv, yv]] w' := by
  refine calls_in 4 Tryd.func42 rfl rfl (by simp) (fun A0 hsz0 hdf0 hargs => ?_)
  have l0_0 := hargs 0 (.agg #[lv, yv]) rfl
  clear hargs; replace hsz0 : SzN A0 4 := ⟨hsz0⟩
  have hS := St.nil w
  have bh_lv := SlN.le (sl_SlN h_lv.at)
  have bh_yv := SlN.le (sl_SlN h_yv.at)
  refine wp_seq_k (fun K1 hK1 => ?_)
  -- region 0
  refine region_in ?_
  refine W_boxS (zs := #[lv, yv]) hS rfl rfl rfl l0_0 (by rfl) (fun g2 w2 c2 hc2 hS2 => ?_)
  replace hS2 : St w NoX [c2] w2 := hS2
  refine W_v rfl rfl (V_asg rfl rfl) ?_
  refine W_end ?_
  refine gen_Q (fun A3 hA3 => ?_)
  have hsz3 : SzN A3 4 := by rw [hA3]; infer_instance
  have hdf3 : A3.defers = [] := by rw [hA3]; simp only [df_put]; exact hdf0
  have l1_3 := lookE hA3 1 (es rfl (et rfl))
  clear hA3 hsz0 hdf0 l0_0
  refine then_n (hK1 _ _ ?_)
  clear hK1
  refine wp_seq_k (fun K4 hK4 => ?_)
  -- region 1
  refine region_in ?_
  refine W_v rfl rfl (V_mkf rfl (args0) (args1 l1_3)) ?_
  refine W_v rfl rfl (V_asg rfl (et rfl)) ?_
  refine W_end ?_
  refine gen_Q (fun A5 hA5 => ?_)
  have hsz5 : SzN A5 4 := by rw [hA5]; infer_instance
  have hdf5 : A5.defers = [] := by rw [hA5]; simp only [df_put]; exact hdf3
  have l2_5 := lookE hA5 2 (et rfl)
  clear hA5 hsz3 hdf3 l1_3
  refine then_n (hK4 _ _ ?_)
  clear hK4
  refine wp_ret ?_
  refine ret_in (results_1 Tryd.results42 (rv_tmp l2_5)) hdf5 ?_
  -- leaf 
  exact ⟨_, rfl, (hS2.fin1 0 rfl (hc2))⟩

set_option maxHeartbeats 4000000 in
theorem kall_it {g0 : Nat} {lv : Value} {yv : Value} {lo : List Int} {yo : List Int} {Rd : World → Prop} (hRd : ∀ W, Rd W → (bx g0 24 #[lv, yv]).at W ∧ (il .i64 lv lo).at W ∧ (il .i64 yv yo).at W)  :
    Iter (α := Int × Int × Int) Tryd.prog 49 #[.pointer (some ⟨g0, 0, none⟩)] encR (· = ranked lo yo) (· <+: ranked lo yo) (· <+: ranked lo yo) Rd := by
  intro l wb X cs ij J Jx w hij hR hY hS
  obtain ⟨hS, hback⟩ := hS.front hij
  clear hij
  generalize cs.eraseIdx ij = rest at hS hback
  obtain ⟨cj, hcj⟩ : ∃ c, c = J [] := ⟨_, rfl⟩
  rw [← hcj] at hS
  refine calls_inR 34 Tryd.func49 rfl rfl (by simp) (fun A0 hsz0 hdf0 hargs => ?_)
  have l0_0 := hargs 0 (.func (.yield l) #[] #[]) rfl
  have l1_0 := hargs 1 (.pointer (some ⟨g0, 0, none⟩)) rfl
  clear hargs; replace hsz0 : SzN A0 34 := ⟨hsz0⟩
  have bh_lv := SlN.le (sl_SlN (hRd _ (hR _ _ _ 0 hS (congrArg some hcj))).2.1)
  have bh_yv := SlN.le (sl_SlN (hRd _ (hR _ _ _ 0 hS (congrArg some hcj))).2.2)
  refine R_seq (fun K1 hK1 => ?_)
  -- region 0
  refine R_region (by kernel_rfl) ?_
  refine W_v rfl rfl (V_fa (off' := 0) rfl l1_0 Tryd.underlying24 rfl (by decide) rfl) ?_
  refine W_r rfl rfl (VR_ldC rfl (et rfl) (cell_box (v := lv) (ob_at (hRd _ (hR _ _ _ 0 hS (congrArg some hcj))).1) rfl) Tryd.underlying22 rfl) ?_
  refine W_v rfl rfl (V_fa (off' := 1) rfl (es rfl (es rfl l1_0)) Tryd.underlying24 rfl (by decide) rfl) ?_
  refine W_r rfl rfl (VR_ldC rfl (et rfl) (cell_box (v := yv) (ob_at (hRd _ (hR _ _ _ 0 hS (congrArg some hcj))).1) rfl) Tryd.underlying22 rfl) ?_
  have hll2 : [lv, yv].length = 2 := rfl
  refine W_litS (vs := [lv, yv]) (xs := [lv, yv]) 1 hS rfl rfl rfl (parts2 (es rfl (es rfl (et rfl))) (et rfl)) rfl Tryd.underlying75 (by kernel_rfl) (by decide) (by intro v hv; simp only [List.mem_cons, List.not_mem_nil, or_false] at hv; rcases hv with rfl | rfl <;> simp [SlN_cells (sl_SlN (hRd _ (hR _ _ _ 0 hS (congrArg some hcj))).2.1), SlN_cells (sl_SlN (hRd _ (hR _ _ _ 0 hS (congrArg some hcj))).2.2)]) (by simp [SlN_cells (sl_SlN (hRd _ (hR _ _ _ 0 hS (congrArg some hcj))).2.1), SlN_cells (sl_SlN (hRd _ (hR _ _ _ 0 hS (congrArg some hcj))).2.2)]) (fun g2 w2 c2 hc2 hS2 => ?_)
  replace hc2 : c2 = ow 1 [lv, yv].length (.slice (some ⟨g2, 0, none⟩) 2 2) [lv, yv] := hc2
  replace hS2 : St wb X (c2 :: cj :: rest) w2 := hS2
  refine W_v rfl rfl (V_lenS rfl (et rfl) (ow_at (hS2.chq 0 rfl hc2)) Tryd.underlying75) ?_
  refine W_v rfl rfl (V_mov rfl rfl) ?_
  refine W_end ?_
  refine Qo_normal ?_
  refine gen_Q (fun A3 hA3 => ?_)
  have hsz3 : SzN A3 34 := by rw [hA3]; infer_instance
  have hdf3 : A3.defers = [] := by rw [hA3]; simp only [df_put]; exact hdf0
  have l0_3 := lookE hA3 0 (es rfl (es rfl (es rfl (es rfl (es rfl (es rfl (es rfl l0_0)))))))
  have l11_3 := lookE hA3 11 (es rfl (es rfl (et rfl)))
  have l12_3 := lookE hA3 12 (es rfl (et rfl))
  have l13_3 := lookE hA3 13 (et rfl)
  clear hA3 hsz0 hdf0 l0_0 l1_0
  refine then_n (hK1 _ _ ?_)
  clear hK1
  refine R_block ?_
  -- loop 1
  refine R_loop (fun mz A' w' => SzN A' 34 ∧ A'.defers = [] ∧ (∃ (k : Nat), (mz = 2 - k) ∧ (k ≤ 2) ∧ (EV A' (.tmp 13) = .int .i64 (k : Int)) ∧ (EV A' (.tmp 0) = EV A3 (.tmp 0)) ∧ (EV A' (.tmp 11) = EV A3 (.tmp 11)) ∧ (EV A' (.tmp 12) = EV A3 (.tmp 12)) ∧ (St wb X ((ow 1 [lv, yv].length (.slice (some ⟨g2, 0, none⟩) 2 2) [lv, yv]) :: (J (rkPre lo yo k)) :: rest) w'))) (2 - 0) ⟨hsz3, hdf3, 0, rfl, (by omega), ((l13_3).trans (by first | rfl | (simp; done) | (congr 1; omega))), rfl, rfl, rfl, (by have q0 := hc2; have q1 : cj = J (rkPre lo yo 0) := hcj.trans (rfl); subst q0 q1; exact hS2)⟩ ?_
  clear hS2 hc2 hcj
  rintro n4 A4 w4 ⟨hsz4, hdf4, k, hm4, hk, l13_4, u0_4, u11_4, u12_4, hS4⟩
  have l0_4 := u0_4.trans l0_3
  have l11_4 := u11_4.trans l11_3
  have l12_4 := u12_4.trans l12_3
  obtain ⟨c2_4, cj_4, hc2_4, hcj_4, hS4⟩ := gen2 hS4
  refine R_seq (fun K5 hK5 => ?_)
  -- region 1
  refine R_region (by kernel_rfl) ?_
  refine W_v rfl rfl (V_lss rfl l13_4 l12_4) ?_
  refine W_end ?_
  refine Qo_normal ?_
  refine gen_Q (fun A6 hA6 => ?_)
  have hsz6 : SzN A6 34 := by rw [hA6]; infer_instance
  have hdf6 : A6.defers = [] := by rw [hA6]; simp only [df_put]; exact hdf4
  have l0_6 := lookE hA6 0 (es rfl l0_4)
  have l11_6 := lookE hA6 11 (es rfl l11_4)
  have l12_6 := lookE hA6 12 (es rfl l12_4)
  have l13_6 := lookE hA6 13 (es rfl l13_4)
  have l14_6 := lookE hA6 14 (et rfl)
  clear hA6 hsz4 hdf4 l13_4 l0_4 l11_4 l12_4
  refine then_n (hK5 _ _ ?_)
  clear hK5
  refine R_seq (fun K7 hK7 => ?_)
  refine R_cond_dec l14_6 (fun c8 => ?_) (fun c8 => ?_)
  · skip
    refine R_skip ?_
    refine then_n (hK7 _ _ ?_)
    clear hK7
    refine R_seq (fun K9 hK9 => ?_)
    refine R_block ?_
    refine R_seq (fun K10 hK10 => ?_)
    -- region 2
    refine R_region (by kernel_rfl) ?_
    refine W_v rfl rfl (V_mov rfl l13_6) ?_
    have k11 : k < [lv, yv].length := by first | omega | (simp only [List.length_cons, List.length_nil]; omega)
    obtain ⟨y11, hy11⟩ := get_some (xs := [lv, yv]) (k := k) k11
    
    obtain ⟨B11, O11, C11, hv11⟩ := (SlN.blk (ow_at (hS4.chq 0 rfl hc2_4)) (by first | omega | (simp only [List.length_cons, List.length_nil]; omega)))
    refine W_v rfl rfl (V_ixS (off := O11 + k) 1 (k) rfl (es rfl l11_6) (es rfl l13_6) hv11 (by omega) k11 Tryd.underlying75 (by kernel_rfl) (congrArg _ (Nat.mul_one _))) ?_
    have fy12 : ∀ W, Rd W → (il .i64 y11 (trAt lo yo k)).at W := fun W h => two_at hy11 (hRd W h).2.1 (hRd W h).2.2
    have bfy12 : ((trAt lo yo k).length : Int) ≤ 9223372036854775807 := by unfold trAt; split <;> assumption
    refine W_r rfl rfl (VR_ldC rfl (et rfl) ((ow_at (hS4.chq 0 rfl hc2_4)).cell hv11 hy11) Tryd.underlying22 rfl) ?_
    refine W_v rfl rfl (V_asg rfl (es rfl (es rfl (et rfl)))) ?_
    refine W_v rfl rfl (V_asg rfl (es rfl (et rfl))) ?_
    refine W_end ?_
    refine Qo_normal ?_
    refine gen_Q (fun A13 hA13 => ?_)
    have hsz13 : SzN A13 34 := by rw [hA13]; infer_instance
    have hdf13 : A13.defers = [] := by rw [hA13]; simp only [df_put]; exact hdf6
    have l0_13 := lookE hA13 0 (es rfl (es rfl (es rfl (es rfl (es rfl l0_6)))))
    have l3_13 := lookE hA13 3 (es rfl (et rfl))
    have l4_13 := lookE hA13 4 (et rfl)
    have l11_13 := lookE hA13 11 (es rfl (es rfl (es rfl (es rfl (es rfl l11_6)))))
    have l12_13 := lookE hA13 12 (es rfl (es rfl (es rfl (es rfl (es rfl l12_6)))))
    have l13_13 := lookE hA13 13 (es rfl (es rfl (es rfl (es rfl (es rfl l13_6)))))
    clear hA13 hsz6 hdf6 l0_6 l11_6 l12_6 l13_6 l14_6
    refine then_n (hK10 _ _ ?_)
    clear hK10
    refine R_seq (fun K14 hK14 => ?_)
    -- region 3
    refine R_region (by kernel_rfl) ?_
    refine W_v rfl rfl (V_mov rfl l4_13) ?_
    refine W_v rfl rfl (V_lenS rfl (et rfl) (sl_SlN (fy12 _ (hR _ _ _ 1 hS4 (congrArg some hcj_4)))) Tryd.underlying22) ?_
    refine W_v rfl rfl (V_mov rfl rfl) ?_
    refine W_end ?_
    refine Qo_normal ?_
    refine gen_Q (fun A15 hA15 => ?_)
    have hsz15 : SzN A15 34 := by rw [hA15]; infer_instance
    have hdf15 : A15.defers = [] := by rw [hA15]; simp only [df_put]; exact hdf13
    have l0_15 := lookE hA15 0 (es rfl (es rfl (es rfl l0_13)))
    have l3_15 := lookE hA15 3 (es rfl (es rfl (es rfl l3_13)))
    have l11_15 := lookE hA15 11 (es rfl (es rfl (es rfl l11_13)))
    have l12_15 := lookE hA15 12 (es rfl (es rfl (es rfl l12_13)))
    have l13_15 := lookE hA15 13 (es rfl (es rfl (es rfl l13_13)))
    have l18_15 := lookE hA15 18 (es rfl (es rfl (et rfl)))
    have l19_15 := lookE hA15 19 (es rfl (et rfl))
    have l20_15 := lookE hA15 20 (et rfl)
    clear hA15 hsz13 hdf13 l0_13 l3_13 l4_13 l11_13 l12_13 l13_13
    refine then_n (hK14 _ _ ?_)
    clear hK14
    refine R_block ?_
    -- loop 4
    refine R_loop (fun mz A' w' => SzN A' 34 ∧ A'.defers = [] ∧ (∃ (m : Nat), (mz = (trAt lo yo k).length - m) ∧ (m ≤ (trAt lo yo k).length) ∧ (k < 2) ∧ (EV A' (.tmp 20) = .int .i64 (m : Int)) ∧ (EV A' (.tmp 0) = EV A15 (.tmp 0)) ∧ (EV A' (.tmp 3) = EV A15 (.tmp 3)) ∧ (EV A' (.tmp 11) = EV A15 (.tmp 11)) ∧ (EV A' (.tmp 12) = EV A15 (.tmp 12)) ∧ (EV A' (.tmp 13) = EV A15 (.tmp 13)) ∧ (EV A' (.tmp 18) = EV A15 (.tmp 18)) ∧ (EV A' (.tmp 19) = EV A15 (.tmp 19)) ∧ (St wb X ((ow 1 [lv, yv].length (.slice (some ⟨g2, 0, none⟩) 2 2) [lv, yv]) :: (J (rkPre lo yo k ++ rkSeg k ((trAt lo yo k).take m))) :: rest) w'))) ((trAt lo yo k).length - 0) ⟨hsz15, hdf15, 0, rfl, (Nat.zero_le _), (by omega), ((l20_15).trans (by first | rfl | (simp; done) | (congr 1; omega))), rfl, rfl, rfl, rfl, rfl, rfl, rfl, (by have q0 := hc2_4; have q1 : cj_4 = J (rkPre lo yo k ++ rkSeg k ((trAt lo yo k).take 0)) := hcj_4.trans (congrArg J (by simp [rkSeg])); subst q0 q1; exact hS4)⟩ ?_
    clear hS4 hc2_4 hcj_4
    rintro n16 A16 w16 ⟨hsz16, hdf16, m, hm16, hm, hk2, l20_16, u0_16, u3_16, u11_16, u12_16, u13_16, u18_16, u19_16, hS16⟩
    have l0_16 := u0_16.trans l0_15
    have l3_16 := u3_16.trans l3_15
    have l11_16 := u11_16.trans l11_15
    have l12_16 := u12_16.trans l12_15
    have l13_16 := u13_16.trans l13_15
    have l18_16 := u18_16.trans l18_15
    have l19_16 := u19_16.trans l19_15
    obtain ⟨c2_16, cj_16, hc2_16, hcj_16, hS16⟩ := gen2 hS16
    refine R_seq (fun K17 hK17 => ?_)
    -- region 4
    refine R_region (by kernel_rfl) ?_
    refine W_v rfl rfl (V_lss rfl l20_16 l19_16) ?_
    refine W_end ?_
    refine Qo_normal ?_
    refine gen_Q (fun A18 hA18 => ?_)
    have hsz18 : SzN A18 34 := by rw [hA18]; infer_instance
    have hdf18 : A18.defers = [] := by rw [hA18]; simp only [df_put]; exact hdf16
    have l0_18 := lookE hA18 0 (es rfl l0_16)
    have l3_18 := lookE hA18 3 (es rfl l3_16)
    have l11_18 := lookE hA18 11 (es rfl l11_16)
    have l12_18 := lookE hA18 12 (es rfl l12_16)
    have l13_18 := lookE hA18 13 (es rfl l13_16)
    have l18_18 := lookE hA18 18 (es rfl l18_16)
    have l19_18 := lookE hA18 19 (es rfl l19_16)
    have l20_18 := lookE hA18 20 (es rfl l20_16)
    have l21_18 := lookE hA18 21 (et rfl)
    clear hA18 hsz16 hdf16 l20_16 l0_16 l3_16 l11_16 l12_16 l13_16 l18_16 l19_16
    refine then_n (hK17 _ _ ?_)
    clear hK17
    refine R_seq (fun K19 hK19 => ?_)
    refine R_cond_dec l21_18 (fun c20 => ?_) (fun c20 => ?_)
    · skip
      refine R_skip ?_
      refine then_n (hK19 _ _ ?_)
      clear hK19
      refine R_seq (fun K21 hK21 => ?_)
      refine R_block ?_
      refine R_seq (fun K22 hK22 => ?_)
      -- region 5
      refine R_region (by kernel_rfl) ?_
      refine W_v rfl rfl (V_mov rfl l20_18) ?_
      have k23 : m < (trAt lo yo k).length := by first | omega | (simp only [List.length_cons, List.length_nil]; omega)
      obtain ⟨y23, hy23⟩ := get_some (xs := (trAt lo yo k)) (k := m) k23
      
      obtain ⟨B23, O23, C23, hv23⟩ := (SlN.blk (sl_SlN (fy12 _ (hR _ _ _ 1 hS16 (congrArg some hcj_16)))) (by first | omega | (simp only [List.length_cons, List.length_nil]; omega)))
      refine W_v rfl rfl (V_ixS (off := O23 + m) 1 (m) rfl (es rfl l18_18) (es rfl l20_18) hv23 (by omega) k23 Tryd.underlying22 (by kernel_rfl) (congrArg _ (Nat.mul_one _))) ?_
      refine W_r rfl rfl (VR_ldC rfl (et rfl) ((sl_SlN (fy12 _ (hR _ _ _ 1 hS16 (congrArg some hcj_16)))).cell hv23 (map_get hy23)) Tryd.underlying3 rfl) ?_
      refine W_v rfl rfl (V_asg rfl (es rfl (es rfl (et rfl)))) ?_
      refine W_v rfl rfl (V_asg rfl (es rfl (et rfl))) ?_
      refine W_end ?_
      refine Qo_normal ?_
      refine gen_Q (fun A24 hA24 => ?_)
      have hsz24 : SzN A24 34 := by rw [hA24]; infer_instance
      have hdf24 : A24.defers = [] := by rw [hA24]; simp only [df_put]; exact hdf18
      have l0_24 := lookE hA24 0 (es rfl (es rfl (es rfl (es rfl (es rfl l0_18)))))
      have l3_24 := lookE hA24 3 (es rfl (es rfl (es rfl (es rfl (es rfl l3_18)))))
      have l5_24 := lookE hA24 5 (es rfl (et rfl))
      have l6_24 := lookE hA24 6 (et rfl)
      have l11_24 := lookE hA24 11 (es rfl (es rfl (es rfl (es rfl (es rfl l11_18)))))
      have l12_24 := lookE hA24 12 (es rfl (es rfl (es rfl (es rfl (es rfl l12_18)))))
      have l13_24 := lookE hA24 13 (es rfl (es rfl (es rfl (es rfl (es rfl l13_18)))))
      have l18_24 := lookE hA24 18 (es rfl (es rfl (es rfl (es rfl (es rfl l18_18)))))
      have l19_24 := lookE hA24 19 (es rfl (es rfl (es rfl (es rfl (es rfl l19_18)))))
      have l20_24 := lookE hA24 20 (es rfl (es rfl (es rfl (es rfl (es rfl l20_18)))))
      clear hA24 hsz18 hdf18 l0_18 l3_18 l11_18 l12_18 l13_18 l18_18 l19_18 l20_18 l21_18
      refine then_n (hK22 _ _ ?_)
      clear hK22
      refine R_seq (fun K25 hK25 => ?_)
      -- region 6
      refine R_regionI ?_
      refine I_v rfl rfl (by rfl) (V_mov rfl l0_24) ?_
      refine I_v rfl rfl (by rfl) (V_mov rfl (es rfl l6_24)) ?_
      refine I_v rfl rfl (by rfl) (V_mov rfl (es rfl (es rfl l3_24))) ?_
      refine I_v rfl rfl (by rfl) (V_mov rfl (es rfl (es rfl (es rfl l5_24)))) ?_
      refine I_v rfl rfl (by rfl) (V_bldS (n := 2) (z := .agg #[.int .i64 0, .int .i64 0]) rfl (parts2 (es rfl (et rfl)) (et rfl)) (by kernel_rfl) (by simp only [List.all_cons, List.all_nil, Bool.and_true] <;> rfl) (by kernel_rfl) (by simp only [List.foldl_cons, List.foldl_nil, Value.cells, List.setIfInBounds_toArray, List.set_cons_succ, List.set_cons_zero] <;> rfl)) ?_
      refine I_yield rfl rfl (by rfl) (hY (rkPre lo yo k ++ rkSeg k ((trAt lo yo k).take m)) (y23, (k : Int), (m : Int)) _ _ 1 hS16 (congrArg some hcj_16) (rk_pre hk2 hy23)) (fun res hr => run_yield2 rfl (es rfl (es rfl (es rfl (es rfl (et rfl))))) (es rfl (es rfl (es rfl (et rfl)))) (et rfl) hr) ?_
      rintro _ w26 (⟨rfl, hS26⟩ | ⟨rfl, hS26⟩)
      · refine ⟨_, rfl, ?_⟩
        obtain ⟨cj26, hcj26⟩ : ∃ c, c = J (rkPre lo yo k ++ rkSeg k ((trAt lo yo k).take m) ++ [(y23, (k : Int), (m : Int))]) := ⟨_, rfl⟩
        rw [← hcj26] at hS26
        replace hS26 : St wb X (c2_16 :: cj26 :: rest) w26 := hS26
        refine I_up (by kernel_rfl) ?_
        refine W_v rfl rfl (V_notT rfl (et rfl)) ?_
        refine W_end ?_
        refine Qo_normal ?_
        refine gen_Q (fun A27 hA27 => ?_)
        have hsz27 : SzN A27 34 := by rw [hA27]; infer_instance
        have hdf27 : A27.defers = [] := by rw [hA27]; simp only [df_put]; exact hdf24
        have l0_27 := lookE hA27 0 (es rfl (es rfl (es rfl (es rfl (es rfl (es rfl (es rfl l0_24)))))))
        have l3_27 := lookE hA27 3 (es rfl (es rfl (es rfl (es rfl (es rfl (es rfl (es rfl l3_24)))))))
        have l11_27 := lookE hA27 11 (es rfl (es rfl (es rfl (es rfl (es rfl (es rfl (es rfl l11_24)))))))
        have l12_27 := lookE hA27 12 (es rfl (es rfl (es rfl (es rfl (es rfl (es rfl (es rfl l12_24)))))))
        have l13_27 := lookE hA27 13 (es rfl (es rfl (es rfl (es rfl (es rfl (es rfl (es rfl l13_24)))))))
        have l18_27 := lookE hA27 18 (es rfl (es rfl (es rfl (es rfl (es rfl (es rfl (es rfl l18_24)))))))
        have l19_27 := lookE hA27 19 (es rfl (es rfl (es rfl (es rfl (es rfl (es rfl (es rfl l19_24)))))))
        have l20_27 := lookE hA27 20 (es rfl (es rfl (es rfl (es rfl (es rfl (es rfl (es rfl l20_24)))))))
        have l31_27 := lookE hA27 31 (et rfl)
        clear hA27 hsz24 hdf24 l0_24 l3_24 l5_24 l6_24 l11_24 l12_24 l13_24 l18_24 l19_24 l20_24
        refine then_n (hK25 _ _ ?_)
        clear hK25
        refine R_cond_f l31_27 ?_
        refine R_skip ?_
        refine inb_n ?_
        refine then_n (hK21 _ _ ?_)
        clear hK21
        -- region 7
        refine R_region (by kernel_rfl) ?_
        refine W_v rfl rfl (V_add rfl l20_27 rfl (by omega) (by omega)) ?_
        refine W_v rfl rfl (V_mov rfl (et rfl)) ?_
        refine W_end ?_
        refine Qo_normal ?_
        refine gen_Q (fun A28 hA28 => ?_)
        have hsz28 : SzN A28 34 := by rw [hA28]; infer_instance
        have hdf28 : A28.defers = [] := by rw [hA28]; simp only [df_put]; exact hdf27
        have l0_28 := lookE hA28 0 (es rfl (es rfl l0_27))
        have l3_28 := lookE hA28 3 (es rfl (es rfl l3_27))
        have l11_28 := lookE hA28 11 (es rfl (es rfl l11_27))
        have l12_28 := lookE hA28 12 (es rfl (es rfl l12_27))
        have l13_28 := lookE hA28 13 (es rfl (es rfl l13_27))
        have l18_28 := lookE hA28 18 (es rfl (es rfl l18_27))
        have l19_28 := lookE hA28 19 (es rfl (es rfl l19_27))
        have l20_28 := lookE hA28 20 (et rfl)
        clear hA28 hsz27 hdf27 l0_27 l3_27 l11_27 l12_27 l13_27 l18_27 l19_27 l20_27 l31_27
        refine then_n ⟨(trAt lo yo k).length - (m + 1), by simp only [hm16]; omega, hsz28, hdf28, (m + 1), rfl, (by omega), hk2, ((l20_28).trans (by first | rfl | (simp; done) | (congr 1; omega))), ((l0_28).trans l0_15.symm), ((l3_28).trans l3_15.symm), ((l11_28).trans l11_15.symm), ((l12_28).trans l12_15.symm), ((l13_28).trans l13_15.symm), ((l18_28).trans l18_15.symm), ((l19_28).trans l19_15.symm), (by have q0 := hc2_16; have q1 : cj26 = J (rkPre lo yo k ++ rkSeg k ((trAt lo yo k).take (m + 1))) := hcj26.trans (congrArg J (rk_snoc hy23)); subst q0 q1; exact hS26)⟩
      · refine ⟨_, rfl, ?_⟩
        obtain ⟨cj26, hcj26⟩ : ∃ c, c = Jx (rkPre lo yo k ++ rkSeg k ((trAt lo yo k).take m) ++ [(y23, (k : Int), (m : Int))]) := ⟨_, rfl⟩
        rw [← hcj26] at hS26
        replace hS26 : St wb X (c2_16 :: cj26 :: rest) w26 := hS26
        refine I_up (by kernel_rfl) ?_
        refine W_v rfl rfl (V_notF rfl (et rfl)) ?_
        refine W_end ?_
        refine Qo_normal ?_
        refine gen_Q (fun A29 hA29 => ?_)
        have hsz29 : SzN A29 34 := by rw [hA29]; infer_instance
        have hdf29 : A29.defers = [] := by rw [hA29]; simp only [df_put]; exact hdf24
        have l0_29 := lookE hA29 0 (es rfl (es rfl (es rfl (es rfl (es rfl (es rfl (es rfl l0_24)))))))
        have l3_29 := lookE hA29 3 (es rfl (es rfl (es rfl (es rfl (es rfl (es rfl (es rfl l3_24)))))))
        have l11_29 := lookE hA29 11 (es rfl (es rfl (es rfl (es rfl (es rfl (es rfl (es rfl l11_24)))))))
        have l12_29 := lookE hA29 12 (es rfl (es rfl (es rfl (es rfl (es rfl (es rfl (es rfl l12_24)))))))
        have l13_29 := lookE hA29 13 (es rfl (es rfl (es rfl (es rfl (es rfl (es rfl (es rfl l13_24)))))))
        have l18_29 := lookE hA29 18 (es rfl (es rfl (es rfl (es rfl (es rfl (es rfl (es rfl l18_24)))))))
        have l19_29 := lookE hA29 19 (es rfl (es rfl (es rfl (es rfl (es rfl (es rfl (es rfl l19_24)))))))
        have l20_29 := lookE hA29 20 (es rfl (es rfl (es rfl (es rfl (es rfl (es rfl (es rfl l20_24)))))))
        have l31_29 := lookE hA29 31 (et rfl)
        clear hA29 hsz24 hdf24 l0_24 l3_24 l5_24 l6_24 l11_24 l12_24 l13_24 l18_24 l19_24 l20_24
        refine then_n (hK25 _ _ ?_)
        clear hK25
        refine R_cond_t l31_29 ?_
        refine R_ret ?_
        refine inb_ret ?_
        refine then_ret ?_
        refine then_ret ?_
        refine inb_ret ?_
        refine inb_ret ?_
        refine then_ret ?_
        refine then_ret ?_
        refine inb_ret ?_
        refine ret_inR0 (results_0 Tryd.results49 ) hdf29 ?_
        -- leaf TTN
        have hS31 := hS26.del 0
        replace hS31 : St wb X (cj26 :: rest) w26 := hS31
        exact ⟨⟨_, rfl⟩, .inr ⟨_, (rk_pre hk2 hy23), hback _ _ (hcj26 ▸ hS31)⟩⟩
    · skip
      refine R_exit ?_
      refine then_exit ?_
      refine then_exit ?_
      refine inb_hit ?_
      refine inb_n ?_
      refine then_n (hK9 _ _ ?_)
      clear hK9
      -- region 8
      refine R_region (by kernel_rfl) ?_
      refine W_v rfl rfl (V_add rfl l13_18 rfl (by omega) (by omega)) ?_
      refine W_v rfl rfl (V_mov rfl (et rfl)) ?_
      refine W_end ?_
      refine Qo_normal ?_
      refine gen_Q (fun A32 hA32 => ?_)
      have hsz32 : SzN A32 34 := by rw [hA32]; infer_instance
      have hdf32 : A32.defers = [] := by rw [hA32]; simp only [df_put]; exact hdf18
      have l0_32 := lookE hA32 0 (es rfl (es rfl l0_18))
      have l11_32 := lookE hA32 11 (es rfl (es rfl l11_18))
      have l12_32 := lookE hA32 12 (es rfl (es rfl l12_18))
      have l13_32 := lookE hA32 13 (et rfl)
      clear hA32 hsz18 hdf18 l0_18 l3_18 l11_18 l12_18 l13_18 l18_18 l19_18 l20_18 l21_18
      refine then_n ⟨2 - (k + 1), by simp only [hm4]; omega, hsz32, hdf32, (k + 1), rfl, (by omega), ((l13_32).trans (by first | rfl | (simp; done) | (congr 1; omega))), ((l0_32).trans l0_3.symm), ((l11_32).trans l11_3.symm), ((l12_32).trans l12_3.symm), (by have q0 := hc2_16; have q1 : cj_16 = J (rkPre lo yo (k + 1)) := hcj_16.trans (congrArg J (rk_next (by omega) (by omega))); subst q0 q1; exact hS16)⟩
  · skip
    refine R_exit ?_
    refine then_exit ?_
    refine then_exit ?_
    refine inb_hit ?_
    refine ret_inR0 (results_0 Tryd.results49 ) hdf6 ?_
    -- leaf F
    have hS34 := hS4.del 0
    replace hS34 : St wb X (cj_4 :: rest) w4 := hS34
    exact ⟨⟨_, rfl⟩, .inl ⟨_, (by rw [show k = 2 by omega]; rfl), hback _ _ (hcj_4 ▸ hS34)⟩⟩

end Go.Proofs.YtodbfgfbkgpooaaDoor