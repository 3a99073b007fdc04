import Derived.Test.YtbnijekjaafoaaaProg
import Derived.Test.YtbnijekjaafoaaaRt5
namespace Go.Proofs.Ytbnijekjaafoaaa
open Go.RowKit Go.Own Go.Own.R


set_option maxHeartbeats 4000000 in
theorem far_c {rv : Value} {l : List Int} {mv : Value} {ms : List (Int × Int)} {w : World} (h_rv : Ro w NoX (il .i64 rv l)) (h_mv : Ro w NoX (rl 2 mvC mv ms))  :
    Calls Try.prog 11 #[rv, mv] w fun e w' => e = .returned (.bool (decide (12 < l.length ∨ (60 < ms.length ∧ ms.length ≤ 2000) ∨ 2005 < ms.length))) ∧ St w NoX [] w' := by
  refine calls_in 23 Try.func11 rfl rfl (by simp) (fun A0 hsz0 hdf0 hargs => ?_)
  have l0_0 := hargs 0 (rv) rfl
  have l1_0 := hargs 1 (mv) rfl
  clear hargs; replace hsz0 : SzN A0 23 := ⟨hsz0⟩
  have hS := St.nil w
  have bh_rv := SlN.le (sl_SlN h_rv.at)
  have bh_mv := SlN.le (sl_SlN h_mv.at)
  refine wp_seq_k (fun K1 hK1 => ?_)
  -- region 0
  refine region_in ?_
  refine W_v rfl rfl (V_asg rfl rfl) ?_
  refine W_end ?_
  refine gen_Q (fun A2 hA2 => ?_)
  have hsz2 : SzN A2 23 := by rw [hA2]; infer_instance
  have hdf2 : A2.defers = [] := by rw [hA2]; simp only [df_put]; exact hdf0
  have l0_2 := lookE hA2 0 (es rfl l0_0)
  have l1_2 := lookE hA2 1 (es rfl l1_0)
  clear hA2 hsz0 hdf0 l0_0 l1_0
  refine then_n (hK1 _ _ ?_)
  clear hK1
  refine wp_seq_k (fun K3 hK3 => ?_)
  -- region 1
  refine region_in ?_
  refine W_v rfl rfl (V_mov rfl l0_2) ?_
  refine W_v rfl rfl (V_lenS rfl (et rfl) (sl_SlN h_rv.at) Try.underlying22) ?_
  refine W_v rfl rfl (V_gtr rfl (et rfl) rfl) ?_
  refine W_split rfl rfl (V_mov rfl (et rfl)) (fun c4 => ?_) (fun c4 => ?_)
  · skip
    refine W_off rfl (wanted_f rfl rfl (et rfl) (ez rfl) rfl) ?_
    refine W_off rfl (wanted_f rfl rfl (es rfl (et rfl)) (ez rfl) rfl) ?_
    refine W_off rfl (wanted_f rfl rfl (es rfl (es rfl (et rfl))) (ez rfl) rfl) ?_
    refine W_off rfl (wanted_f rfl rfl (es rfl (es rfl (es rfl (et rfl)))) (ez rfl) rfl) ?_
    refine W_off rfl (wanted_u rfl rfl (et rfl) (ez rfl)) ?_
    refine W_off rfl (wanted_u rfl rfl (es rfl (et rfl)) (ez rfl)) ?_
    refine W_off rfl (wanted_u rfl rfl (es rfl (es rfl (et rfl))) (ez rfl)) ?_
    refine W_off rfl (wanted_f rfl rfl (es rfl (es rfl (es rfl (es rfl (es rfl (es rfl (es rfl (et rfl)))))))) (ez rfl) rfl) ?_
    refine W_v rfl rfl (V_pickT rfl (es rfl (es rfl (es rfl (es rfl (es rfl (es rfl (es rfl (es rfl (et rfl))))))))) rfl) ?_
    refine W_v rfl rfl (V_mov rfl (et rfl)) ?_
    refine W_off rfl (wanted_f rfl rfl (et rfl) (ez rfl) rfl) ?_
    refine W_off rfl (wanted_f rfl rfl (es rfl (et rfl)) (ez rfl) rfl) ?_
    refine W_off rfl (wanted_f rfl rfl (es rfl (es rfl (et rfl))) (ez rfl) rfl) ?_
    refine W_v rfl rfl (V_pickT rfl (es rfl (es rfl (es rfl (et rfl)))) rfl) ?_
    refine W_v rfl rfl (V_asg rfl (et rfl)) ?_
    refine W_end ?_
    refine gen_Q (fun A5 hA5 => ?_)
    have hsz5 : SzN A5 23 := by rw [hA5]; infer_instance
    have hdf5 : A5.defers = [] := by rw [hA5]; simp only [df_put]; exact hdf2
    have l4_5 := lookE hA5 4 (et rfl)
    clear hA5 hsz2 hdf2 l0_2 l1_2
    refine then_n (hK3 _ _ ?_)
    clear hK3
    refine wp_ret ?_
    refine ret_in (results_1 Try.results11 (rv_tmp l4_5)) hdf5 ?_
    -- leaf T
    rw [show (decide (12 < l.length ∨ (60 < ms.length ∧ ms.length ≤ 2000) ∨ 2005 < ms.length)) = true by exact decide_eq_true (by omega)]
    exact ⟨rfl, hS.fin0⟩
  · skip
    refine W_v rfl (wanted_t rfl rfl (et rfl) (ez rfl)) (V_mov rfl (es rfl (es rfl (es rfl (es rfl l1_2))))) ?_
    refine W_v rfl (wanted_t rfl rfl (es rfl (et rfl)) (ez rfl)) (V_lenS rfl (et rfl) (sl_SlN h_mv.at) Try.underlying33) ?_
    refine W_v rfl (wanted_t rfl rfl (es rfl (es rfl (et rfl))) (ez rfl)) (V_gtr rfl (et rfl) rfl) ?_
    refine W_split rfl (wanted_t rfl rfl (es rfl (es rfl (es rfl (et rfl)))) (ez rfl)) (V_mov rfl (et rfl)) (fun c6 => ?_) (fun c6 => ?_)
    · skip
      refine W_v rfl (wanted_t rfl rfl (et rfl) (ez rfl)) (V_mov rfl (es rfl (es rfl (es rfl (es rfl (es rfl (es rfl (es rfl (es rfl l1_2))))))))) ?_
      refine W_v rfl (wanted_t rfl rfl (es rfl (et rfl)) (ez rfl)) (V_lenS rfl (et rfl) (sl_SlN h_mv.at) Try.underlying33) ?_
      refine W_v rfl (wanted_t rfl rfl (es rfl (es rfl (et rfl))) (ez rfl)) (V_leq rfl (et rfl) rfl) ?_
      refine W_v rfl (wanted_t rfl rfl (es rfl (es rfl (es rfl (es rfl (es rfl (es rfl (es rfl (et rfl)))))))) (ez rfl)) (V_pickT rfl (es rfl (es rfl (es rfl (et rfl)))) (et rfl)) ?_
      refine W_v rfl rfl (V_pickF rfl (es rfl (es rfl (es rfl (es rfl (es rfl (es rfl (es rfl (es rfl (et rfl))))))))) (et rfl)) ?_
      refine W_split rfl rfl (V_mov rfl (et rfl)) (fun c7 => ?_) (fun c7 => ?_)
      · skip
        refine W_off rfl (wanted_f rfl rfl (et rfl) (ez rfl) rfl) ?_
        refine W_off rfl (wanted_f rfl rfl (es rfl (et rfl)) (ez rfl) rfl) ?_
        refine W_off rfl (wanted_f rfl rfl (es rfl (es rfl (et rfl))) (ez rfl) rfl) ?_
        refine W_v rfl rfl (V_pickT rfl (es rfl (es rfl (es rfl (et rfl)))) rfl) ?_
        refine W_v rfl rfl (V_asg rfl (et rfl)) ?_
        refine W_end ?_
        refine gen_Q (fun A8 hA8 => ?_)
        have hsz8 : SzN A8 23 := by rw [hA8]; infer_instance
        have hdf8 : A8.defers = [] := by rw [hA8]; simp only [df_put]; exact hdf2
        have l4_8 := lookE hA8 4 (et rfl)
        clear hA8 hsz2 hdf2 l0_2 l1_2
        refine then_n (hK3 _ _ ?_)
        clear hK3
        refine wp_ret ?_
        refine ret_in (results_1 Try.results11 (rv_tmp l4_8)) hdf8 ?_
        -- leaf FTT
        rw [show (decide (12 < l.length ∨ (60 < ms.length ∧ ms.length ≤ 2000) ∨ 2005 < ms.length)) = true by exact decide_eq_true (by omega)]
        exact ⟨rfl, hS.fin0⟩
      · skip
        refine W_v rfl (wanted_t rfl rfl (et rfl) (ez rfl)) (V_mov rfl (es rfl (es rfl (es rfl (es rfl (es rfl (es rfl (es rfl (es rfl (es rfl (es rfl (es rfl (es rfl (es rfl (es rfl l1_2))))))))))))))) ?_
        refine W_v rfl (wanted_t rfl rfl (es rfl (et rfl)) (ez rfl)) (V_lenS rfl (et rfl) (sl_SlN h_mv.at) Try.underlying33) ?_
        refine W_v rfl (wanted_t rfl rfl (es rfl (es rfl (et rfl))) (ez rfl)) (V_gtr rfl (et rfl) rfl) ?_
        refine W_v rfl rfl (V_pickF rfl (es rfl (es rfl (es rfl (et rfl)))) (et rfl)) ?_
        refine W_v rfl rfl (V_asg rfl (et rfl)) ?_
        refine W_end ?_
        refine gen_Q (fun A9 hA9 => ?_)
        have hsz9 : SzN A9 23 := by rw [hA9]; infer_instance
        have hdf9 : A9.defers = [] := by rw [hA9]; simp only [df_put]; exact hdf2
        have l4_9 := lookE hA9 4 (et rfl)
        clear hA9 hsz2 hdf2 l0_2 l1_2
        refine then_n (hK3 _ _ ?_)
        clear hK3
        refine wp_ret ?_
        refine ret_in (results_1 Try.results11 (rv_tmp l4_9)) hdf9 ?_
        -- leaf FTF
        rw [show (decide (12 < l.length ∨ (60 < ms.length ∧ ms.length ≤ 2000) ∨ 2005 < ms.length)) = decide (2005 < (ms.length : Int)) by exact decide_eq_decide.2 (by omega)]
        exact ⟨rfl, hS.fin0⟩
    · skip
      refine W_off rfl (wanted_f rfl rfl (et rfl) (ez rfl) rfl) ?_
      refine W_off rfl (wanted_f rfl rfl (es rfl (et rfl)) (ez rfl) rfl) ?_
      refine W_off rfl (wanted_f rfl rfl (es rfl (es rfl (et rfl))) (ez rfl) rfl) ?_
      refine W_v rfl (wanted_t rfl rfl (es rfl (es rfl (es rfl (es rfl (es rfl (es rfl (es rfl (et rfl)))))))) (ez rfl)) (V_pickF rfl (es rfl (es rfl (es rfl (et rfl)))) rfl) ?_
      refine W_v rfl rfl (V_pickF rfl (es rfl (es rfl (es rfl (es rfl (es rfl (es rfl (es rfl (es rfl (et rfl))))))))) (et rfl)) ?_
      refine W_v rfl rfl (V_mov rfl (et rfl)) ?_
      refine W_v rfl (wanted_t rfl rfl (et rfl) (ez rfl)) (V_mov rfl (es rfl (es rfl (es rfl (es rfl (es rfl (es rfl (es rfl (es rfl (es rfl (es rfl (es rfl (es rfl (es rfl (es rfl l1_2))))))))))))))) ?_
      refine W_v rfl (wanted_t rfl rfl (es rfl (et rfl)) (ez rfl)) (V_lenS rfl (et rfl) (sl_SlN h_mv.at) Try.underlying33) ?_
      refine W_v rfl (wanted_t rfl rfl (es rfl (es rfl (et rfl))) (ez rfl)) (V_gtr rfl (et rfl) rfl) ?_
      refine W_v rfl rfl (V_pickF rfl (es rfl (es rfl (es rfl (et rfl)))) (et rfl)) ?_
      refine W_v rfl rfl (V_asg rfl (et rfl)) ?_
      refine W_end ?_
      refine gen_Q (fun A10 hA10 => ?_)
      have hsz10 : SzN A10 23 := by rw [hA10]; infer_instance
      have hdf10 : A10.defers = [] := by rw [hA10]; simp only [df_put]; exact hdf2
      have l4_10 := lookE hA10 4 (et rfl)
      clear hA10 hsz2 hdf2 l0_2 l1_2
      refine then_n (hK3 _ _ ?_)
      clear hK3
      refine wp_ret ?_
      refine ret_in (results_1 Try.results11 (rv_tmp l4_10)) hdf10 ?_
      -- leaf FF
      rw [show (decide (12 < l.length ∨ (60 < ms.length ∧ ms.length ≤ 2000) ∨ 2005 < ms.length)) = decide (2005 < (ms.length : Int)) by exact decide_eq_decide.2 (by omega)]
      exact ⟨rfl, hS.fin0⟩

set_option maxHeartbeats 4000000 in
theorem shw_c  {w : World}   :
    Calls Try.prog 12 #[] w fun e w' => e = .returned (.bool true) ∧ St w NoX [] w' := by
  refine calls_in 104 Try.func12 rfl rfl (by simp) (fun A0 hsz0 hdf0 hargs => ?_)
  clear hargs; replace hsz0 : SzN A0 104 := ⟨hsz0⟩
  have hS := St.nil w
  refine wp_seq_k (fun K1 hK1 => ?_)
  -- region 0
  refine region_in ?_
  refine W_v rfl rfl (V_asg rfl rfl) ?_
  refine W_end ?_
  refine gen_Q (fun A2 hA2 => ?_)
  have hsz2 : SzN A2 104 := by rw [hA2]; infer_instance
  have hdf2 : A2.defers = [] := by rw [hA2]; simp only [df_put]; exact hdf0
  clear hA2 hsz0 hdf0
  refine then_n (hK1 _ _ ?_)
  clear hK1
  refine wp_seq_k (fun K3 hK3 => ?_)
  -- region 1
  refine region_in ?_
  have hll4 : [5, 0, 9, 5].length = 4 := rfl
  refine W_litS (vs := [.int .i64 5, .int .i64 0, .int .i64 9, .int .i64 5]) (xs := ([5, 0, 9, 5].map (Value.int .i64))) 1 hS rfl rfl rfl (parts4 rfl rfl rfl rfl) rfl Try.underlying22 (by kernel_rfl) (by decide) (by intro v hv; simp only [List.mem_cons, List.not_mem_nil, or_false] at hv; rcases hv with rfl | rfl | rfl | rfl <;> rfl) (by rfl) (fun g4 w4 c4 hc4 hS4 => ?_)
  replace hc4 : c4 = io .i64 (.slice (some ⟨g4, 0, none⟩) 4 4) [5, 0, 9, 5] := hc4
  replace hS4 : St w NoX [c4] w4 := hS4
  refine W_v rfl rfl (V_asg rfl (et rfl)) ?_
  refine W_end ?_
  refine gen_Q (fun A5 hA5 => ?_)
  have hsz5 : SzN A5 104 := by rw [hA5]; infer_instance
  have hdf5 : A5.defers = [] := by rw [hA5]; simp only [df_put]; exact hdf2
  have l1_5 := lookE hA5 1 (et rfl)
  clear hA5 hsz2 hdf2
  refine then_n (hK3 _ _ ?_)
  clear hK3
  refine wp_seq_k (fun K6 hK6 => ?_)
  -- region 2
  refine region_in ?_
  refine W_v rfl rfl (V_mov rfl l1_5) ?_
  refine W_call rfl rfl rfl Try.func15 (by kernel_rfl) rfl (args1 (et rfl)) (kTg_c (hS4.chC 0 rfl hc4).own ) ?_
  rintro _ w7 ⟨v_7, rfl, hP7⟩
  refine ⟨_, rfl, ?_⟩
  obtain ⟨c_7, hc_7, hP7⟩ := gen1 hP7
  have hS7 := hS4.join hP7
  replace hS7 : St w NoX [c_7, c4] w7 := hS7
  refine W_v rfl rfl (V_mov rfl (et rfl)) ?_
  refine W_v rfl rfl (V_ext (v := v_7) rfl (et rfl) rfl) ?_
  refine W_v rfl rfl (V_ext (v := .int .i64 ((ckR [5, 0, 9, 5]).2)) rfl (es rfl (et rfl)) rfl) ?_
  refine W_v rfl rfl (V_asg rfl (es rfl (et rfl))) ?_
  refine W_v rfl rfl (V_asg rfl (es rfl (et rfl))) ?_
  refine W_end ?_
  refine gen_Q (fun A8 hA8 => ?_)
  have hsz8 : SzN A8 104 := by rw [hA8]; infer_instance
  have hdf8 : A8.defers = [] := by rw [hA8]; simp only [df_put]; exact hdf5
  have l1_8 := lookE hA8 1 (es rfl (es rfl (es rfl (es rfl (es rfl (es rfl (es rfl l1_5)))))))
  have l2_8 := lookE hA8 2 (es rfl (et rfl))
  have l3_8 := lookE hA8 3 (et rfl)
  clear hA8 hsz5 hdf5 l1_5
  refine then_n (hK6 _ _ ?_)
  clear hK6
  refine wp_seq_k (fun K9 hK9 => ?_)
  -- region 3
  refine region_in ?_
  refine W_v rfl rfl (V_mov rfl l1_8) ?_
  refine W_call rfl rfl rfl Try.func13 (by kernel_rfl) rfl (args3 (et rfl) rfl rfl) (kIn_c (f := 5) (t := 6) (hS7.chC 1 rfl hc4).own ) ?_
  rintro _ w10 ⟨rfl, hP10⟩
  refine ⟨_, rfl, ?_⟩
  have hS10 := hS7.join hP10
  replace hS10 : St w NoX [c_7, c4] w10 := hS10
  refine W_v rfl rfl (V_mov rfl (et rfl)) ?_
  refine W_v rfl rfl (V_ext (v := .int .i64 ((inI [5, 0, 9, 5] 5 6))) rfl (et rfl) rfl) ?_
  refine W_v rfl rfl (V_ext (v := .int .i64 ((inN [5, 0, 9, 5] 5 6))) rfl (es rfl (et rfl)) rfl) ?_
  refine W_v rfl rfl (V_ext (v := .int .i64 ((inE [5, 0, 9, 5] 5 6))) rfl (es rfl (es rfl (et rfl))) rfl) ?_
  refine W_v rfl rfl (V_asg rfl (es rfl (es rfl (et rfl)))) ?_
  refine W_v rfl rfl (V_asg rfl (es rfl (es rfl (et rfl)))) ?_
  refine W_v rfl rfl (V_asg rfl (es rfl (es rfl (et rfl)))) ?_
  refine W_end ?_
  refine gen_Q (fun A11 hA11 => ?_)
  have hsz11 : SzN A11 104 := by rw [hA11]; infer_instance
  have hdf11 : A11.defers = [] := by rw [hA11]; simp only [df_put]; exact hdf8
  have l1_11 := lookE hA11 1 (es rfl (es rfl (es rfl (es rfl (es rfl (es rfl (es rfl (es rfl (es rfl l1_8)))))))))
  have l2_11 := lookE hA11 2 (es rfl (es rfl (es rfl (es rfl (es rfl (es rfl (es rfl (es rfl (es rfl l2_8)))))))))
  have l3_11 := lookE hA11 3 (es rfl (es rfl (es rfl (es rfl (es rfl (es rfl (es rfl (es rfl (es rfl l3_8)))))))))
  have l4_11 := lookE hA11 4 (es rfl (es rfl (et rfl)))
  have l5_11 := lookE hA11 5 (es rfl (et rfl))
  have l6_11 := lookE hA11 6 (et rfl)
  clear hA11 hsz8 hdf8 l1_8 l2_8 l3_8
  refine then_n (hK9 _ _ ?_)
  clear hK9
  refine wp_seq_k (fun K12 hK12 => ?_)
  -- region 4
  refine region_in ?_
  refine W_v rfl rfl (V_mov rfl l1_11) ?_
  refine W_call rfl rfl rfl Try.func13 (by kernel_rfl) rfl (args3 (et rfl) rfl rfl) (kIn_c (f := 6) (t := 9) (hS10.chC 1 rfl hc4).own ) ?_
  rintro _ w13 ⟨rfl, hP13⟩
  refine ⟨_, rfl, ?_⟩
  have hS13 := hS10.join hP13
  replace hS13 : St w NoX [c_7, c4] w13 := hS13
  refine W_v rfl rfl (V_mov rfl (et rfl)) ?_
  refine W_v rfl rfl (V_ext (v := .int .i64 ((inI [5, 0, 9, 5] 6 9))) rfl (et rfl) rfl) ?_
  refine W_v rfl rfl (V_ext (v := .int .i64 ((inN [5, 0, 9, 5] 6 9))) rfl (es rfl (et rfl)) rfl) ?_
  refine W_v rfl rfl (V_ext (v := .int .i64 ((inE [5, 0, 9, 5] 6 9))) rfl (es rfl (es rfl (et rfl))) rfl) ?_
  refine W_v rfl rfl (V_asg rfl (es rfl (es rfl (et rfl)))) ?_
  refine W_v rfl rfl (V_asg rfl (es rfl (es rfl (et rfl)))) ?_
  refine W_v rfl rfl (V_asg rfl (es rfl (es rfl (et rfl)))) ?_
  refine W_end ?_
  refine gen_Q (fun A14 hA14 => ?_)
  have hsz14 : SzN A14 104 := by rw [hA14]; infer_instance
  have hdf14 : A14.defers = [] := by rw [hA14]; simp only [df_put]; exact hdf11
  have l1_14 := lookE hA14 1 (es rfl (es rfl (es rfl (es rfl (es rfl (es rfl (es rfl (es rfl (es rfl l1_11)))))))))
  have l2_14 := lookE hA14 2 (es rfl (es rfl (es rfl (es rfl (es rfl (es rfl (es rfl (es rfl (es rfl l2_11)))))))))
  have l3_14 := lookE hA14 3 (es rfl (es rfl (es rfl (es rfl (es rfl (es rfl (es rfl (es rfl (es rfl l3_11)))))))))
  have l4_14 := lookE hA14 4 (es rfl (es rfl (es rfl (es rfl (es rfl (es rfl (es rfl (es rfl (es rfl l4_11)))))))))
  have l5_14 := lookE hA14 5 (es rfl (es rfl (es rfl (es rfl (es rfl (es rfl (es rfl (es rfl (es rfl l5_11)))))))))
  have l6_14 := lookE hA14 6 (es rfl (es rfl (es rfl (es rfl (es rfl (es rfl (es rfl (es rfl (es rfl l6_11)))))))))
  have l9_14 := lookE hA14 9 (et rfl)
  clear hA14 hsz11 hdf11 l1_11 l2_11 l3_11 l4_11 l5_11 l6_11
  refine then_n (hK12 _ _ ?_)
  clear hK12
  refine wp_seq_k (fun K15 hK15 => ?_)
  -- region 5
  refine region_in ?_
  refine W_v rfl rfl (V_mov rfl l1_14) ?_
  refine W_v rfl rfl (V_bldS (n := 2) (z := .agg #[.int .i64 0, .int .i64 0]) rfl (parts2 rfl rfl) (by kernel_rfl) (by simp only [List.all_cons, List.all_nil, Bool.and_true] <;> rfl) (by kernel_rfl) (by simp only [List.foldl_cons, List.foldl_nil, Value.cells, List.setIfInBounds_toArray, List.set_cons_succ, List.set_cons_zero] <;> rfl)) ?_
  refine W_v rfl rfl (V_bldS (n := 2) (z := .agg #[.int .i64 0, .int .i64 0]) rfl (parts2 rfl rfl) (by kernel_rfl) (by simp only [List.all_cons, List.all_nil, Bool.and_true] <;> rfl) (by kernel_rfl) (by simp only [List.foldl_cons, List.foldl_nil, Value.cells, List.setIfInBounds_toArray, List.set_cons_succ, List.set_cons_zero] <;> rfl)) ?_
  have hll16 : [(5, 7), (9, 5)].length = 2 := rfl
  refine W_litS (vs := [.agg #[.int .i64 5, .int .i64 7], .agg #[.int .i64 9, .int .i64 5]]) (xs := ([(5, 7), (9, 5)].flatMap mvC)) 2 hS13 rfl rfl rfl (parts2 (es rfl (et rfl)) (et rfl)) rfl Try.underlying33 (by kernel_rfl) (by decide) (by intro v hv; simp only [List.mem_cons, List.not_mem_nil, or_false] at hv; rcases hv with rfl | rfl <;> rfl) (by rfl) (fun g16 w16 c16 hc16 hS16 => ?_)
  replace hc16 : c16 = ro 2 mvC (.slice (some ⟨g16, 0, none⟩) 2 2) [(5, 7), (9, 5)] := hc16
  replace hS16 : St w NoX [c16, c_7, c4] w16 := hS16
  refine W_call rfl rfl rfl Try.func20 (by kernel_rfl) rfl (args2 (es rfl (es rfl (es rfl (et rfl)))) (et rfl)) (kFw_c (hS16.chC 2 rfl hc4).own (hS16.chC 0 rfl hc16).own ) ?_
  rintro _ w17 ⟨v_17, rfl, hP17⟩
  refine ⟨_, rfl, ?_⟩
  obtain ⟨c_17, hc_17, hP17⟩ := gen1 hP17
  have hS17 := hS16.join hP17
  replace hS17 : St w NoX [c_17, c16, c_7, c4] w17 := hS17
  refine W_v rfl rfl (V_mov rfl (et rfl)) ?_
  refine W_v rfl rfl (V_ext (v := v_17) rfl (et rfl) rfl) ?_
  refine W_v rfl rfl (V_ext (v := .int .i64 ((fwN [5, 0, 9, 5] [(5, 7), (9, 5)]))) rfl (es rfl (et rfl)) rfl) ?_
  refine W_v rfl rfl (V_ext (v := .int .i64 ((fwE [5, 0, 9, 5] [(5, 7), (9, 5)]))) rfl (es rfl (es rfl (et rfl))) rfl) ?_
  refine W_v rfl rfl (V_asg rfl (es rfl (es rfl (et rfl)))) ?_
  refine W_v rfl rfl (V_asg rfl (es rfl (es rfl (et rfl)))) ?_
  refine W_v rfl rfl (V_asg rfl (es rfl (es rfl (et rfl)))) ?_
  refine W_end ?_
  refine gen_Q (fun A18 hA18 => ?_)
  have hsz18 : SzN A18 104 := by rw [hA18]; infer_instance
  have hdf18 : A18.defers = [] := by rw [hA18]; simp only [df_put]; exact hdf14
  have l1_18 := lookE hA18 1 (es rfl (es rfl (es rfl (es rfl (es rfl (es rfl (es rfl (es rfl (es rfl (es rfl (es rfl (es rfl l1_14))))))))))))
  have l2_18 := lookE hA18 2 (es rfl (es rfl (es rfl (es rfl (es rfl (es rfl (es rfl (es rfl (es rfl (es rfl (es rfl (es rfl l2_14))))))))))))
  have l3_18 := lookE hA18 3 (es rfl (es rfl (es rfl (es rfl (es rfl (es rfl (es rfl (es rfl (es rfl (es rfl (es rfl (es rfl l3_14))))))))))))
  have l4_18 := lookE hA18 4 (es rfl (es rfl (es rfl (es rfl (es rfl (es rfl (es rfl (es rfl (es rfl (es rfl (es rfl (es rfl l4_14))))))))))))
  have l5_18 := lookE hA18 5 (es rfl (es rfl (es rfl (es rfl (es rfl (es rfl (es rfl (es rfl (es rfl (es rfl (es rfl (es rfl l5_14))))))))))))
  have l6_18 := lookE hA18 6 (es rfl (es rfl (es rfl (es rfl (es rfl (es rfl (es rfl (es rfl (es rfl (es rfl (es rfl (es rfl l6_14))))))))))))
  have l9_18 := lookE hA18 9 (es rfl (es rfl (es rfl (es rfl (es rfl (es rfl (es rfl (es rfl (es rfl (es rfl (es rfl (es rfl l9_14))))))))))))
  have l10_18 := lookE hA18 10 (es rfl (es rfl (et rfl)))
  have l11_18 := lookE hA18 11 (es rfl (et rfl))
  have l12_18 := lookE hA18 12 (et rfl)
  clear hA18 hsz14 hdf14 l1_14 l2_14 l3_14 l4_14 l5_14 l6_14 l9_14
  have hS19 : St w NoX [c_17, c_7, c4] w17 := hS17.sel [0, 2, 3] (by decide) rfl
  refine then_n (hK15 _ _ ?_)
  clear hK15
  refine wp_seq_k (fun K20 hK20 => ?_)
  -- region 6
  refine region_in ?_
  refine W_v rfl rfl (V_bldS (n := 2) (z := .agg #[.int .i64 0, .int .i64 0]) rfl (parts2 rfl rfl) (by kernel_rfl) (by simp only [List.all_cons, List.all_nil, Bool.and_true] <;> rfl) (by kernel_rfl) (by simp only [List.foldl_cons, List.foldl_nil, Value.cells, List.setIfInBounds_toArray, List.set_cons_succ, List.set_cons_zero] <;> rfl)) ?_
  refine W_v rfl rfl (V_bldS (n := 2) (z := .agg #[.int .i64 0, .int .i64 0]) rfl (parts2 rfl rfl) (by kernel_rfl) (by simp only [List.all_cons, List.all_nil, Bool.and_true] <;> rfl) (by kernel_rfl) (by simp only [List.foldl_cons, List.foldl_nil, Value.cells, List.setIfInBounds_toArray, List.set_cons_succ, List.set_cons_zero] <;> rfl)) ?_
  have hll21 : [(5, 7), (5, 8)].length = 2 := rfl
  refine W_litS (vs := [.agg #[.int .i64 5, .int .i64 7], .agg #[.int .i64 5, .int .i64 8]]) (xs := ([(5, 7), (5, 8)].flatMap mvC)) 2 hS19 rfl rfl rfl (parts2 (es rfl (et rfl)) (et rfl)) rfl Try.underlying33 (by kernel_rfl) (by decide) (by intro v hv; simp only [List.mem_cons, List.not_mem_nil, or_false] at hv; rcases hv with rfl | rfl <;> rfl) (by rfl) (fun g21 w21 c21 hc21 hS21 => ?_)
  replace hc21 : c21 = ro 2 mvC (.slice (some ⟨g21, 0, none⟩) 2 2) [(5, 7), (5, 8)] := hc21
  replace hS21 : St w NoX [c21, c_17, c_7, c4] w21 := hS21
  refine W_call rfl rfl rfl Try.func18 (by kernel_rfl) rfl (args1 (et rfl)) (kMs_c (hS21.chC 0 rfl hc21).own ) ?_
  rintro _ w22 ⟨rfl, hP22⟩
  refine ⟨_, rfl, ?_⟩
  have hS22 := hS21.join hP22
  replace hS22 : St w NoX [c21, c_17, c_7, c4] w22 := hS22
  refine W_v rfl rfl (V_mov rfl (et rfl)) ?_
  refine W_v rfl rfl (V_ext (v := .int .i64 ((mvR [(5, 7), (5, 8)]).1)) rfl (et rfl) rfl) ?_
  refine W_v rfl rfl (V_ext (v := .int .i64 ((mvR [(5, 7), (5, 8)]).2)) rfl (es rfl (et rfl)) rfl) ?_
  refine W_v rfl rfl (V_asg rfl (es rfl (et rfl))) ?_
  refine W_v rfl rfl (V_asg rfl (es rfl (et rfl))) ?_
  refine W_end ?_
  refine gen_Q (fun A23 hA23 => ?_)
  have hsz23 : SzN A23 104 := by rw [hA23]; infer_instance
  have hdf23 : A23.defers = [] := by rw [hA23]; simp only [df_put]; exact hdf18
  have l1_23 := lookE hA23 1 (es rfl (es rfl (es rfl (es rfl (es rfl (es rfl (es rfl (es rfl (es rfl l1_18)))))))))
  have l2_23 := lookE hA23 2 (es rfl (es rfl (es rfl (es rfl (es rfl (es rfl (es rfl (es rfl (es rfl l2_18)))))))))
  have l3_23 := lookE hA23 3 (es rfl (es rfl (es rfl (es rfl (es rfl (es rfl (es rfl (es rfl (es rfl l3_18)))))))))
  have l4_23 := lookE hA23 4 (es rfl (es rfl (es rfl (es rfl (es rfl (es rfl (es rfl (es rfl (es rfl l4_18)))))))))
  have l5_23 := lookE hA23 5 (es rfl (es rfl (es rfl (es rfl (es rfl (es rfl (es rfl (es rfl (es rfl l5_18)))))))))
  have l6_23 := lookE hA23 6 (es rfl (es rfl (es rfl (es rfl (es rfl (es rfl (es rfl (es rfl (es rfl l6_18)))))))))
  have l9_23 := lookE hA23 9 (es rfl (es rfl (es rfl (es rfl (es rfl (es rfl (es rfl (es rfl (es rfl l9_18)))))))))
  have l10_23 := lookE hA23 10 (es rfl (es rfl (es rfl (es rfl (es rfl (es rfl (es rfl (es rfl (es rfl l10_18)))))))))
  have l11_23 := lookE hA23 11 (es rfl (es rfl (es rfl (es rfl (es rfl (es rfl (es rfl (es rfl (es rfl l11_18)))))))))
  have l12_23 := lookE hA23 12 (es rfl (es rfl (es rfl (es rfl (es rfl (es rfl (es rfl (es rfl (es rfl l12_18)))))))))
  have l13_23 := lookE hA23 13 (es rfl (et rfl))
  have l14_23 := lookE hA23 14 (et rfl)
  clear hA23 hsz18 hdf18 l1_18 l2_18 l3_18 l4_18 l5_18 l6_18 l9_18 l10_18 l11_18 l12_18
  have hS24 : St w NoX [c_17, c_7, c4] w22 := hS22.sel [1, 2, 3] (by decide) rfl
  refine then_n (hK20 _ _ ?_)
  clear hK20
  refine wp_seq_k (fun K25 hK25 => ?_)
  -- region 7
  refine region_in ?_
  refine W_v rfl rfl (V_mov rfl l1_23) ?_
  refine W_call rfl rfl rfl Try.func27 (by kernel_rfl) rfl (args2 (et rfl) rfl) (kGt_c (a := 4) (hS24.chC 2 rfl hc4).own ) ?_
  rintro _ w26 ⟨rfl, hP26⟩
  refine ⟨_, rfl, ?_⟩
  have hS26 := hS24.join hP26
  replace hS26 : St w NoX [c_17, c_7, c4] w26 := hS26
  refine W_v rfl rfl (V_mov rfl (et rfl)) ?_
  refine W_v rfl rfl (V_ext (v := .int .i64 ((gtN [5, 0, 9, 5] 4))) rfl (et rfl) rfl) ?_
  refine W_v rfl rfl (V_ext (v := .int .i64 ((nmE [5, 0, 9, 5] [4]))) rfl (es rfl (et rfl)) rfl) ?_
  refine W_v rfl rfl (V_asg rfl (es rfl (et rfl))) ?_
  refine W_v rfl rfl (V_asg rfl (es rfl (et rfl))) ?_
  refine W_end ?_
  refine gen_Q (fun A27 hA27 => ?_)
  have hsz27 : SzN A27 104 := by rw [hA27]; infer_instance
  have hdf27 : A27.defers = [] := by rw [hA27]; simp only [df_put]; exact hdf23
  have l2_27 := lookE hA27 2 (es rfl (es rfl (es rfl (es rfl (es rfl (es rfl (es rfl l2_23)))))))
  have l3_27 := lookE hA27 3 (es rfl (es rfl (es rfl (es rfl (es rfl (es rfl (es rfl l3_23)))))))
  have l4_27 := lookE hA27 4 (es rfl (es rfl (es rfl (es rfl (es rfl (es rfl (es rfl l4_23)))))))
  have l5_27 := lookE hA27 5 (es rfl (es rfl (es rfl (es rfl (es rfl (es rfl (es rfl l5_23)))))))
  have l6_27 := lookE hA27 6 (es rfl (es rfl (es rfl (es rfl (es rfl (es rfl (es rfl l6_23)))))))
  have l9_27 := lookE hA27 9 (es rfl (es rfl (es rfl (es rfl (es rfl (es rfl (es rfl l9_23)))))))
  have l10_27 := lookE hA27 10 (es rfl (es rfl (es rfl (es rfl (es rfl (es rfl (es rfl l10_23)))))))
  have l11_27 := lookE hA27 11 (es rfl (es rfl (es rfl (es rfl (es rfl (es rfl (es rfl l11_23)))))))
  have l12_27 := lookE hA27 12 (es rfl (es rfl (es rfl (es rfl (es rfl (es rfl (es rfl l12_23)))))))
  have l13_27 := lookE hA27 13 (es rfl (es rfl (es rfl (es rfl (es rfl (es rfl (es rfl l13_23)))))))
  have l14_27 := lookE hA27 14 (es rfl (es rfl (es rfl (es rfl (es rfl (es rfl (es rfl l14_23)))))))
  have l16_27 := lookE hA27 16 (et rfl)
  clear hA27 hsz23 hdf23 l1_23 l2_23 l3_23 l4_23 l5_23 l6_23 l9_23 l10_23 l11_23 l12_23 l13_23 l14_23
  have hS28 : St w NoX [c_17, c_7] w26 := hS26.sel [0, 1] (by decide) rfl
  refine then_n (hK25 _ _ ?_)
  clear hK25
  refine wp_seq_k (fun K29 hK29 => ?_)
  -- region 8
  refine region_in ?_
  refine W_v rfl rfl (V_mov rfl l2_27) ?_
  have hll30 : [5, 9].length = 2 := rfl
  refine W_litS (vs := [.int .i64 5, .int .i64 9]) (xs := ([5, 9].map (Value.int .i64))) 1 hS28 rfl rfl rfl (parts2 rfl rfl) rfl Try.underlying22 (by kernel_rfl) (by decide) (by intro v hv; simp only [List.mem_cons, List.not_mem_nil, or_false] at hv; rcases hv with rfl | rfl <;> rfl) (by rfl) (fun g30 w30 c30 hc30 hS30 => ?_)
  replace hc30 : c30 = io .i64 (.slice (some ⟨g30, 0, none⟩) 2 2) [5, 9] := hc30
  replace hS30 : St w NoX [c30, c_17, c_7] w30 := hS30
  refine W_call rfl rfl rfl Try.func17 (by kernel_rfl) rfl (args2 (es rfl (et rfl)) (et rfl)) (qInts_c (hS30.chC 2 rfl hc_7).own (hS30.chC 0 rfl hc30).own ) ?_
  rintro _ w31 ⟨rfl, hP31⟩
  refine ⟨_, rfl, ?_⟩
  have hS31 := hS30.join hP31
  replace hS31 : St w NoX [c30, c_17, c_7] w31 := hS31
  refine W_sure (c' := true) rfl rfl (V_mov rfl (et rfl)) (by decide +kernel) ?_
  refine W_v rfl (wanted_t rfl rfl (et rfl) (ez rfl)) (V_mov rfl (es rfl (es rfl (es rfl (es rfl l3_27))))) ?_
  refine W_v rfl (wanted_t rfl rfl (es rfl (et rfl)) (ez rfl)) (V_eql rfl (et rfl) rfl) ?_
  refine W_v rfl rfl (V_pickT rfl (es rfl (es rfl (et rfl))) (et rfl)) ?_
  refine W_sure (c' := true) rfl rfl (V_mov rfl (et rfl)) (by decide +kernel) ?_
  refine W_v rfl (wanted_t rfl rfl (et rfl) (ez rfl)) (V_mov rfl (es rfl (es rfl (es rfl (es rfl (es rfl (es rfl (es rfl (es rfl l4_27))))))))) ?_
  refine W_v rfl (wanted_t rfl rfl (es rfl (et rfl)) (ez rfl)) (V_eql rfl (et rfl) rfl) ?_
  refine W_v rfl rfl (V_pickT rfl (es rfl (es rfl (et rfl))) (et rfl)) ?_
  refine W_sure (c' := true) rfl rfl (V_mov rfl (et rfl)) (by decide +kernel) ?_
  refine W_v rfl (wanted_t rfl rfl (et rfl) (ez rfl)) (V_mov rfl (es rfl (es rfl (es rfl (es rfl (es rfl (es rfl (es rfl (es rfl (es rfl (es rfl (es rfl (es rfl l5_27))))))))))))) ?_
  refine W_v rfl (wanted_t rfl rfl (es rfl (et rfl)) (ez rfl)) (V_eql rfl (et rfl) rfl) ?_
  refine W_v rfl rfl (V_pickT rfl (es rfl (es rfl (et rfl))) (et rfl)) ?_
  refine W_sure (c' := true) rfl rfl (V_mov rfl (et rfl)) (by decide +kernel) ?_
  refine W_v rfl (wanted_t rfl rfl (et rfl) (ez rfl)) (V_mov rfl (es rfl (es rfl (es rfl (es rfl (es rfl (es rfl (es rfl (es rfl (es rfl (es rfl (es rfl (es rfl (es rfl (es rfl (es rfl (es rfl l6_27))))))))))))))))) ?_
  refine W_v rfl (wanted_t rfl rfl (es rfl (et rfl)) (ez rfl)) (V_eql rfl (et rfl) rfl) ?_
  refine W_v rfl rfl (V_pickT rfl (es rfl (es rfl (et rfl))) (et rfl)) ?_
  refine W_sure (c' := true) rfl rfl (V_mov rfl (et rfl)) (by decide +kernel) ?_
  refine W_v rfl (wanted_t rfl rfl (et rfl) (ez rfl)) (V_mov rfl (es rfl (es rfl (es rfl (es rfl (es rfl (es rfl (es rfl (es rfl (es rfl (es rfl (es rfl (es rfl (es rfl (es rfl (es rfl (es rfl (es rfl (es rfl (es rfl (es rfl l9_27))))))))))))))))))))) ?_
  refine W_v rfl (wanted_t rfl rfl (es rfl (et rfl)) (ez rfl)) (V_eql rfl (et rfl) rfl) ?_
  refine W_v rfl rfl (V_pickT rfl (es rfl (es rfl (et rfl))) (et rfl)) ?_
  refine W_sure (c' := true) rfl rfl (V_mov rfl (et rfl)) (by decide +kernel) ?_
  refine W_v rfl (wanted_t rfl rfl (et rfl) (ez rfl)) (V_mov rfl (es rfl (es rfl (es rfl (es rfl (es rfl (es rfl (es rfl (es rfl (es rfl (es rfl (es rfl (es rfl (es rfl (es rfl (es rfl (es rfl (es rfl (es rfl (es rfl (es rfl (es rfl (es rfl (es rfl (es rfl l10_27))))))))))))))))))))))))) ?_
  have hll32 : [7, 0, 5, 7].length = 4 := rfl
  refine W_litS (vs := [.int .i64 7, .int .i64 0, .int .i64 5, .int .i64 7]) (xs := ([7, 0, 5, 7].map (Value.int .i64))) 1 hS31 rfl (wanted_t rfl rfl (es rfl (et rfl)) (ez rfl)) rfl (parts4 rfl rfl rfl rfl) rfl Try.underlying22 (by kernel_rfl) (by decide) (by intro v hv; simp only [List.mem_cons, List.not_mem_nil, or_false] at hv; rcases hv with rfl | rfl | rfl | rfl <;> rfl) (by rfl) (fun g32 w32 c32 hc32 hS32 => ?_)
  replace hc32 : c32 = io .i64 (.slice (some ⟨g32, 0, none⟩) 4 4) [7, 0, 5, 7] := hc32
  replace hS32 : St w NoX [c32, c30, c_17, c_7] w32 := hS32
  refine W_call rfl (wanted_t rfl rfl (es rfl (es rfl (et rfl))) (ez rfl)) rfl Try.func17 (by kernel_rfl) rfl (args2 (es rfl (et rfl)) (et rfl)) (qInts_c (hS32.chC 2 rfl hc_17).own (hS32.chC 0 rfl hc32).own ) ?_
  rintro _ w33 ⟨rfl, hP33⟩
  refine ⟨_, rfl, ?_⟩
  have hS33 := hS32.join hP33
  replace hS33 : St w NoX [c32, c30, c_17, c_7] w33 := hS33
  refine W_v rfl rfl (V_pickT rfl (es rfl (es rfl (es rfl (et rfl)))) (et rfl)) ?_
  refine W_sure (c' := true) rfl rfl (V_mov rfl (et rfl)) (by decide +kernel) ?_
  refine W_v rfl (wanted_t rfl rfl (et rfl) (ez rfl)) (V_mov rfl (es rfl (es rfl (es rfl (es rfl (es rfl (es rfl (es rfl (es rfl (es rfl (es rfl (es rfl (es rfl (es rfl (es rfl (es rfl (es rfl (es rfl (es rfl (es rfl (es rfl (es rfl (es rfl (es rfl (es rfl (es rfl (es rfl (es rfl (es rfl (es rfl l11_27)))))))))))))))))))))))))))))) ?_
  refine W_v rfl (wanted_t rfl rfl (es rfl (et rfl)) (ez rfl)) (V_eql rfl (et rfl) rfl) ?_
  refine W_v rfl rfl (V_pickT rfl (es rfl (es rfl (et rfl))) (et rfl)) ?_
  refine W_sure (c' := true) rfl rfl (V_mov rfl (et rfl)) (by decide +kernel) ?_
  refine W_v rfl (wanted_t rfl rfl (et rfl) (ez rfl)) (V_mov rfl (es rfl (es rfl (es rfl (es rfl (es rfl (es rfl (es rfl (es rfl (es rfl (es rfl (es rfl (es rfl (es rfl (es rfl (es rfl (es rfl (es rfl (es rfl (es rfl (es rfl (es rfl (es rfl (es rfl (es rfl (es rfl (es rfl (es rfl (es rfl (es rfl (es rfl (es rfl (es rfl (es rfl l12_27)))))))))))))))))))))))))))))))))) ?_
  refine W_v rfl (wanted_t rfl rfl (es rfl (et rfl)) (ez rfl)) (V_eql rfl (et rfl) rfl) ?_
  refine W_v rfl rfl (V_pickT rfl (es rfl (es rfl (et rfl))) (et rfl)) ?_
  refine W_sure (c' := true) rfl rfl (V_mov rfl (et rfl)) (by decide +kernel) ?_
  refine W_v rfl (wanted_t rfl rfl (et rfl) (ez rfl)) (V_mov rfl (es rfl (es rfl (es rfl (es rfl (es rfl (es rfl (es rfl (es rfl (es rfl (es rfl (es rfl (es rfl (es rfl (es rfl (es rfl (es rfl (es rfl (es rfl (es rfl (es rfl (es rfl (es rfl (es rfl (es rfl (es rfl (es rfl (es rfl (es rfl (es rfl (es rfl (es rfl (es rfl (es rfl (es rfl (es rfl (es rfl (es rfl l13_27)))))))))))))))))))))))))))))))))))))) ?_
  refine W_v rfl (wanted_t rfl rfl (es rfl (et rfl)) (ez rfl)) (V_eql rfl (et rfl) rfl) ?_
  refine W_v rfl rfl (V_pickT rfl (es rfl (es rfl (et rfl))) (et rfl)) ?_
  refine W_sure (c' := true) rfl rfl (V_mov rfl (et rfl)) (by decide +kernel) ?_
  refine W_v rfl (wanted_t rfl rfl (et rfl) (ez rfl)) (V_mov rfl (es rfl (es rfl (es rfl (es rfl (es rfl (es rfl (es rfl (es rfl (es rfl (es rfl (es rfl (es rfl (es rfl (es rfl (es rfl (es rfl (es rfl (es rfl (es rfl (es rfl (es rfl (es rfl (es rfl (es rfl (es rfl (es rfl (es rfl (es rfl (es rfl (es rfl (es rfl (es rfl (es rfl (es rfl (es rfl (es rfl (es rfl (es rfl (es rfl (es rfl (es rfl l14_27)))))))))))))))))))))))))))))))))))))))))) ?_
  refine W_v rfl (wanted_t rfl rfl (es rfl (et rfl)) (ez rfl)) (V_eql rfl (et rfl) rfl) ?_
  refine W_v rfl rfl (V_pickT rfl (es rfl (es rfl (et rfl))) (et rfl)) ?_
  refine W_sure (c' := true) rfl rfl (V_mov rfl (et rfl)) (by decide +kernel) ?_
  refine W_v rfl (wanted_t rfl rfl (et rfl) (ez rfl)) (V_mov rfl (es rfl (es rfl (es rfl (es rfl (es rfl (es rfl (es rfl (es rfl (es rfl (es rfl (es rfl (es rfl (es rfl (es rfl (es rfl (es rfl (es rfl (es rfl (es rfl (es rfl (es rfl (es rfl (es rfl (es rfl (es rfl (es rfl (es rfl (es rfl (es rfl (es rfl (es rfl (es rfl (es rfl (es rfl (es rfl (es rfl (es rfl (es rfl (es rfl (es rfl (es rfl (es rfl (es rfl (es rfl (es rfl l16_27)))))))))))))))))))))))))))))))))))))))))))))) ?_
  refine W_v rfl (wanted_t rfl rfl (es rfl (et rfl)) (ez rfl)) (V_eql rfl (et rfl) rfl) ?_
  refine W_v rfl rfl (V_pickT rfl (es rfl (es rfl (et rfl))) (et rfl)) ?_
  refine W_v rfl rfl (V_asg rfl (et rfl)) ?_
  refine W_end ?_
  refine gen_Q (fun A34 hA34 => ?_)
  have hsz34 : SzN A34 104 := by rw [hA34]; infer_instance
  have hdf34 : A34.defers = [] := by rw [hA34]; simp only [df_put]; exact hdf27
  have l0_34 := lookE hA34 0 (et rfl)
  clear hA34 hsz27 hdf27 l2_27 l3_27 l4_27 l5_27 l6_27 l9_27 l10_27 l11_27 l12_27 l13_27 l14_27 l16_27
  have hS35 : St w NoX [] w33 := hS33.sel [] (by decide) rfl
  refine then_n (hK29 _ _ ?_)
  clear hK29
  refine wp_ret ?_
  refine ret_in (results_1 Try.results12 (rv_tmp l0_34)) hdf34 ?_
  -- leaf 
  rw [show true = decide ((nmE [5, 0, 9, 5] [4]) = 10) by decide +kernel]
  exact ⟨rfl, hS35.fin0⟩

set_option maxHeartbeats 4000000 in
theorem many_c {rv : Value} {l : List Int} {f : Int} {t : Int} {w : World} (h_rv : Ro w NoX (il .i64 rv l))  :
    Calls Try.prog 23 #[rv, .int .i64 f, .int .i64 t] w fun e w' => e = .returned (.tuple #[.int .i64 (inN l f t), .bool (decide (inE l f t = 0 ∨ inE l f t = 4))]) ∧ St w NoX [] w' := by
  refine calls_in 26 Try.func23 rfl rfl (by simp) (fun A0 hsz0 hdf0 hargs => ?_)
  have l0_0 := hargs 0 (rv) rfl
  have l1_0 := hargs 1 (.int .i64 f) rfl
  have l2_0 := hargs 2 (.int .i64 t) rfl
  clear hargs; replace hsz0 : SzN A0 26 := ⟨hsz0⟩
  have hS := St.nil w
  have bh_rv := SlN.le (sl_SlN h_rv.at)
  refine wp_seq_k (fun K1 hK1 => ?_)
  -- region 0
  refine region_in ?_
  refine W_v rfl rfl (V_asg rfl rfl) ?_
  refine W_v rfl rfl (V_asg rfl rfl) ?_
  refine W_end ?_
  refine gen_Q (fun A2 hA2 => ?_)
  have hsz2 : SzN A2 26 := by rw [hA2]; infer_instance
  have hdf2 : A2.defers = [] := by rw [hA2]; simp only [df_put]; exact hdf0
  have l0_2 := lookE hA2 0 (es rfl (es rfl l0_0))
  have l1_2 := lookE hA2 1 (es rfl (es rfl l1_0))
  have l2_2 := lookE hA2 2 (es rfl (es rfl l2_0))
  clear hA2 hsz0 hdf0 l0_0 l1_0 l2_0
  refine then_n (hK1 _ _ ?_)
  clear hK1
  refine wp_seq_k (fun K3 hK3 => ?_)
  -- region 1
  refine region_in ?_
  refine W_v rfl rfl (V_mov rfl l0_2) ?_
  refine W_v rfl rfl (V_mov rfl (es rfl l1_2)) ?_
  refine W_v rfl rfl (V_mov rfl (es rfl (es rfl l2_2))) ?_
  refine W_call rfl rfl rfl Try.func13 (by kernel_rfl) rfl (args3 (es rfl (es rfl (et rfl))) (es rfl (et rfl)) (et rfl)) (kIn_c (f := f) (t := t) (hS.roC h_rv) ) ?_
  rintro _ w4 ⟨rfl, hP4⟩
  refine ⟨_, rfl, ?_⟩
  have hS4 := hS.join hP4
  replace hS4 : St w NoX [] w4 := hS4
  refine W_v rfl rfl (V_mov rfl (et rfl)) ?_
  refine W_v rfl rfl (V_ext (v := .int .i64 ((inI l f t))) rfl (et rfl) rfl) ?_
  refine W_v rfl rfl (V_ext (v := .int .i64 ((inN l f t))) rfl (es rfl (et rfl)) rfl) ?_
  refine W_v rfl rfl (V_ext (v := .int .i64 ((inE l f t))) rfl (es rfl (es rfl (et rfl))) rfl) ?_
  refine W_v rfl rfl (V_asg rfl (es rfl (es rfl (et rfl)))) ?_
  refine W_v rfl rfl (V_asg rfl (es rfl (es rfl (et rfl)))) ?_
  refine W_v rfl rfl (V_asg rfl (es rfl (es rfl (et rfl)))) ?_
  refine W_end ?_
  refine gen_Q (fun A5 hA5 => ?_)
  have hsz5 : SzN A5 26 := by rw [hA5]; infer_instance
  have hdf5 : A5.defers = [] := by rw [hA5]; simp only [df_put]; exact hdf2
  have l9_5 := lookE hA5 9 (es rfl (et rfl))
  have l10_5 := lookE hA5 10 (et rfl)
  clear hA5 hsz2 hdf2 l0_2 l1_2 l2_2
  refine then_n (hK3 _ _ ?_)
  clear hK3
  refine wp_seq_k (fun K6 hK6 => ?_)
  -- region 2
  refine region_in ?_
  refine W_v rfl rfl (V_mov rfl l9_5) ?_
  refine W_v rfl rfl (V_mov rfl (es rfl l10_5)) ?_
  refine W_v rfl rfl (V_eql rfl (et rfl) rfl) ?_
  refine W_split rfl rfl (V_mov rfl (et rfl)) (fun c7 => ?_) (fun c7 => ?_)
  · skip
    refine W_off rfl (wanted_f rfl rfl (et rfl) (ez rfl) rfl) ?_
    refine W_off rfl (wanted_f rfl rfl (es rfl (et rfl)) (ez rfl) rfl) ?_
    refine W_v rfl rfl (V_pickT rfl (es rfl (es rfl (et rfl))) rfl) ?_
    refine W_v rfl rfl (V_asg rfl (es rfl (es rfl (es rfl (es rfl (es rfl (es rfl (et rfl)))))))) ?_
    refine W_v rfl rfl (V_asg rfl (es rfl (et rfl))) ?_
    refine W_end ?_
    refine gen_Q (fun A8 hA8 => ?_)
    have hsz8 : SzN A8 26 := by rw [hA8]; infer_instance
    have hdf8 : A8.defers = [] := by rw [hA8]; simp only [df_put]; exact hdf5
    have l6_8 := lookE hA8 6 (es rfl (et rfl))
    have l7_8 := lookE hA8 7 (et rfl)
    clear hA8 hsz5 hdf5 l9_5 l10_5
    refine then_n (hK6 _ _ ?_)
    clear hK6
    refine wp_ret ?_
    refine ret_in (results_2 Try.results23 (rv_tmp l6_8) (rv_tmp l7_8)) hdf8 ?_
    -- leaf T
    rw [show decide (inE l f t = 0 ∨ inE l f t = 4) = true by exact decide_eq_true (by omega)]
    exact ⟨rfl, hS4.fin0⟩
  · skip
    refine W_v rfl (wanted_t rfl rfl (et rfl) (ez rfl)) (V_mov rfl (es rfl (es rfl (es rfl (es rfl l10_5))))) ?_
    refine W_v rfl (wanted_t rfl rfl (es rfl (et rfl)) (ez rfl)) (V_eql rfl (et rfl) rfl) ?_
    refine W_v rfl rfl (V_pickF rfl (es rfl (es rfl (et rfl))) (et rfl)) ?_
    refine W_v rfl rfl (V_asg rfl (es rfl (es rfl (es rfl (es rfl (es rfl (es rfl (et rfl)))))))) ?_
    refine W_v rfl rfl (V_asg rfl (es rfl (et rfl))) ?_
    refine W_end ?_
    refine gen_Q (fun A9 hA9 => ?_)
    have hsz9 : SzN A9 26 := by rw [hA9]; infer_instance
    have hdf9 : A9.defers = [] := by rw [hA9]; simp only [df_put]; exact hdf5
    have l6_9 := lookE hA9 6 (es rfl (et rfl))
    have l7_9 := lookE hA9 7 (et rfl)
    clear hA9 hsz5 hdf5 l9_5 l10_5
    refine then_n (hK6 _ _ ?_)
    clear hK6
    refine wp_ret ?_
    refine ret_in (results_2 Try.results23 (rv_tmp l6_9) (rv_tmp l7_9)) hdf9 ?_
    -- leaf F
    rw [show decide (inE l f t = 0 ∨ inE l f t = 4) = decide ((inE l f t) = 4) by exact decide_eq_decide.2 (by omega)]
    exact ⟨rfl, hS4.fin0⟩

end Go.Proofs.Ytbnijekjaafoaaa