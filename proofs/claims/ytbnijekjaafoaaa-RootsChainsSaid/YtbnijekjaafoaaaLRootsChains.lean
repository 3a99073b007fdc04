import Derived.Test.YtbnijekjaafoaaaProg
import Derived.Test.YtbnijekjaafoaaaRt6
import Derived.Test.YtbnijekjaafoaaaPl19e
namespace Go.Proofs.Ytbnijekjaafoaaa
open Go.RowKit Go.Own Go.Own.R


set_option maxHeartbeats 4000000 in
theorem RootsChains_c {rv : Value} {l : List Int} {mv : Value} {ms : List (Int × Int)} {nv : Value} {ns : List (Int × Int)} {w : World} (h_rv : Ro w NoX (il .i64 rv l)) (h_mv : Ro w NoX (rl 2 mvC mv ms)) (h_nv : Ro w NoX (rl 2 mvC nv ns))  :
    Calls Try.prog 6 #[rv, mv, nv] w fun e w' => e = .returned (.bool true) ∧ St w NoX [] w' := by
  refine calls_in 158 Try.func6 rfl rfl (by simp) (fun A0 hsz0 hdf0 hargs => ?_)
  have l0_0 := hargs 0 (rv) rfl
  have l1_0 := hargs 1 (mv) rfl
  have l2_0 := hargs 2 (nv) rfl
  clear hargs; replace hsz0 : SzN A0 158 := ⟨hsz0⟩
  have hS := St.nil w
  have bh_rv := SlN.le (sl_SlN h_rv.at)
  have bh_mv := SlN.le (sl_SlN h_mv.at)
  have bh_nv := SlN.le (sl_SlN h_nv.at)
  refine wp_seq_k (fun K1 hK1 => ?_)
  -- region 0
  refine region_in ?_
  refine W_v rfl rfl (V_asg rfl rfl) ?_
  refine W_end ?_
  refine gen_Q (fun A2 hA2 => ?_)
  have hsz2 : SzN A2 158 := by rw [hA2]; infer_instance
  have hdf2 : A2.defers = [] := by rw [hA2]; simp only [df_put]; exact hdf0
  have l0_2 := lookE hA2 0 (es rfl l0_0)
  have l1_2 := lookE hA2 1 (es rfl l1_0)
  have l2_2 := lookE hA2 2 (es rfl l2_0)
  clear hA2 hsz0 hdf0 l0_0 l1_0 l2_0
  refine then_n (hK1 _ _ ?_)
  clear hK1
  refine wp_seq_k (fun K3 hK3 => ?_)
  refine wp_seq_k (fun K4 hK4 => ?_)
  -- region 1
  refine region_in ?_
  refine W_v rfl rfl (V_mov rfl l0_2) ?_
  refine W_v rfl rfl (V_lenS rfl (et rfl) (sl_SlN h_rv.at) Try.underlying22) ?_
  refine W_v rfl rfl (V_gtr rfl (et rfl) rfl) ?_
  refine W_split rfl rfl (V_mov rfl (et rfl)) (fun c5 => ?_) (fun c5 => ?_)
  · skip
    refine W_off rfl (wanted_f rfl rfl (et rfl) (ez rfl) rfl) ?_
    refine W_off rfl (wanted_f rfl rfl (es rfl (et rfl)) (ez rfl) rfl) ?_
    refine W_off rfl (wanted_f rfl rfl (es rfl (es rfl (et rfl))) (ez rfl) rfl) ?_
    refine W_v rfl rfl (V_pickT rfl (es rfl (es rfl (es rfl (et rfl)))) rfl) ?_
    refine W_v rfl rfl (V_mov rfl (et rfl)) ?_
    refine W_off rfl (wanted_f rfl rfl (et rfl) (ez rfl) rfl) ?_
    refine W_off rfl (wanted_f rfl rfl (es rfl (et rfl)) (ez rfl) rfl) ?_
    refine W_off rfl (wanted_f rfl rfl (es rfl (es rfl (et rfl))) (ez rfl) rfl) ?_
    refine W_v rfl rfl (V_pickT rfl (es rfl (es rfl (es rfl (et rfl)))) rfl) ?_
    refine W_end ?_
    refine gen_Q (fun A6 hA6 => ?_)
    have hsz6 : SzN A6 158 := by rw [hA6]; infer_instance
    have hdf6 : A6.defers = [] := by rw [hA6]; simp only [df_put]; exact hdf2
    have l0_6 := lookE hA6 0 (es rfl (es rfl (es rfl (es rfl (es rfl (es rfl (es rfl (es rfl (es rfl (es rfl (es rfl (es rfl (es rfl l0_2)))))))))))))
    have l1_6 := lookE hA6 1 (es rfl (es rfl (es rfl (es rfl (es rfl (es rfl (es rfl (es rfl (es rfl (es rfl (es rfl (es rfl (es rfl l1_2)))))))))))))
    have l2_6 := lookE hA6 2 (es rfl (es rfl (es rfl (es rfl (es rfl (es rfl (es rfl (es rfl (es rfl (es rfl (es rfl (es rfl (es rfl l2_2)))))))))))))
    have l37_6 := lookE hA6 37 (et rfl)
    clear hA6 hsz2 hdf2 l0_2 l1_2 l2_2
    refine then_n (hK4 _ _ ?_)
    clear hK4
    refine cond_t l37_6 ?_
    refine wp_seq_k (fun K7 hK7 => ?_)
    -- region 2
    refine region_in ?_
    refine W_call rfl rfl rfl Try.func12 (by kernel_rfl) rfl (args0) (shw_c  ) ?_
    rintro _ w8 ⟨rfl, hP8⟩
    refine ⟨_, rfl, ?_⟩
    have hS8 := hS.join hP8
    replace hS8 : St w NoX [] w8 := hS8
    refine W_v rfl rfl (V_asg rfl (et rfl)) ?_
    refine W_end ?_
    refine gen_Q (fun A9 hA9 => ?_)
    have hsz9 : SzN A9 158 := by rw [hA9]; infer_instance
    have hdf9 : A9.defers = [] := by rw [hA9]; simp only [df_put]; exact hdf6
    have l6_9 := lookE hA9 6 (et rfl)
    clear hA9 hsz6 hdf6 l0_6 l1_6 l2_6 l37_6
    refine then_n (hK7 _ _ ?_)
    clear hK7
    refine wp_ret ?_
    refine then_ret ?_
    refine ret_in (results_1 Try.results6 (rv_tmp l6_9)) hdf9 ?_
    -- leaf T
    exact ⟨rfl, hS8.fin0⟩
  · skip
    refine W_v rfl (wanted_t rfl rfl (et rfl) (ez rfl)) (V_mov rfl (es rfl (es rfl (es rfl (es rfl l1_2))))) ?_
    refine W_v rfl (wanted_t rfl rfl (es rfl (et rfl)) (ez rfl)) (V_lenS rfl (et rfl) (sl_SlN h_mv.at) Try.underlying33) ?_
    refine W_v rfl (wanted_t rfl rfl (es rfl (es rfl (et rfl))) (ez rfl)) (V_gtr rfl (et rfl) rfl) ?_
    refine W_v rfl rfl (V_pickF rfl (es rfl (es rfl (es rfl (et rfl)))) (et rfl)) ?_
    refine W_split rfl rfl (V_mov rfl (et rfl)) (fun c10 => ?_) (fun c10 => ?_)
    · skip
      refine W_off rfl (wanted_f rfl rfl (et rfl) (ez rfl) rfl) ?_
      refine W_off rfl (wanted_f rfl rfl (es rfl (et rfl)) (ez rfl) rfl) ?_
      refine W_off rfl (wanted_f rfl rfl (es rfl (es rfl (et rfl))) (ez rfl) rfl) ?_
      refine W_v rfl rfl (V_pickT rfl (es rfl (es rfl (es rfl (et rfl)))) rfl) ?_
      refine W_end ?_
      refine gen_Q (fun A11 hA11 => ?_)
      have hsz11 : SzN A11 158 := by rw [hA11]; infer_instance
      have hdf11 : A11.defers = [] := by rw [hA11]; simp only [df_put]; exact hdf2
      have l0_11 := lookE hA11 0 (es rfl (es rfl (es rfl (es rfl (es rfl (es rfl (es rfl (es rfl (es rfl (es rfl (es rfl (es rfl (es rfl l0_2)))))))))))))
      have l1_11 := lookE hA11 1 (es rfl (es rfl (es rfl (es rfl (es rfl (es rfl (es rfl (es rfl (es rfl (es rfl (es rfl (es rfl (es rfl l1_2)))))))))))))
      have l2_11 := lookE hA11 2 (es rfl (es rfl (es rfl (es rfl (es rfl (es rfl (es rfl (es rfl (es rfl (es rfl (es rfl (es rfl (es rfl l2_2)))))))))))))
      have l37_11 := lookE hA11 37 (et rfl)
      clear hA11 hsz2 hdf2 l0_2 l1_2 l2_2
      refine then_n (hK4 _ _ ?_)
      clear hK4
      refine cond_t l37_11 ?_
      refine wp_seq_k (fun K12 hK12 => ?_)
      -- region 2
      refine region_in ?_
      refine W_call rfl rfl rfl Try.func12 (by kernel_rfl) rfl (args0) (shw_c  ) ?_
      rintro _ w13 ⟨rfl, hP13⟩
      refine ⟨_, rfl, ?_⟩
      have hS13 := hS.join hP13
      replace hS13 : St w NoX [] w13 := hS13
      refine W_v rfl rfl (V_asg rfl (et rfl)) ?_
      refine W_end ?_
      refine gen_Q (fun A14 hA14 => ?_)
      have hsz14 : SzN A14 158 := by rw [hA14]; infer_instance
      have hdf14 : A14.defers = [] := by rw [hA14]; simp only [df_put]; exact hdf11
      have l6_14 := lookE hA14 6 (et rfl)
      clear hA14 hsz11 hdf11 l0_11 l1_11 l2_11 l37_11
      refine then_n (hK12 _ _ ?_)
      clear hK12
      refine wp_ret ?_
      refine then_ret ?_
      refine ret_in (results_1 Try.results6 (rv_tmp l6_14)) hdf14 ?_
      -- leaf FT
      exact ⟨rfl, hS13.fin0⟩
    · skip
      refine W_v rfl (wanted_t rfl rfl (et rfl) (ez rfl)) (V_mov rfl (es rfl (es rfl (es rfl (es rfl (es rfl (es rfl (es rfl (es rfl (es rfl l2_2)))))))))) ?_
      refine W_v rfl (wanted_t rfl rfl (es rfl (et rfl)) (ez rfl)) (V_lenS rfl (et rfl) (sl_SlN h_nv.at) Try.underlying33) ?_
      refine W_v rfl (wanted_t rfl rfl (es rfl (es rfl (et rfl))) (ez rfl)) (V_gtr rfl (et rfl) rfl) ?_
      refine W_v rfl rfl (V_pickF rfl (es rfl (es rfl (es rfl (et rfl)))) (et rfl)) ?_
      refine W_end ?_
      refine gen_Q (fun A15 hA15 => ?_)
      have hsz15 : SzN A15 158 := by rw [hA15]; infer_instance
      have hdf15 : A15.defers = [] := by rw [hA15]; simp only [df_put]; exact hdf2
      have l0_15 := lookE hA15 0 (es rfl (es rfl (es rfl (es rfl (es rfl (es rfl (es rfl (es rfl (es rfl (es rfl (es rfl (es rfl (es rfl l0_2)))))))))))))
      have l1_15 := lookE hA15 1 (es rfl (es rfl (es rfl (es rfl (es rfl (es rfl (es rfl (es rfl (es rfl (es rfl (es rfl (es rfl (es rfl l1_2)))))))))))))
      have l2_15 := lookE hA15 2 (es rfl (es rfl (es rfl (es rfl (es rfl (es rfl (es rfl (es rfl (es rfl (es rfl (es rfl (es rfl (es rfl l2_2)))))))))))))
      have l37_15 := lookE hA15 37 (et rfl)
      clear hA15 hsz2 hdf2 l0_2 l1_2 l2_2
      refine then_n (hK4 _ _ ?_)
      clear hK4
      refine cond_dec l37_15 (fun c16 => ?_) (fun c16 => ?_)
      · skip
        refine wp_seq_k (fun K17 hK17 => ?_)
        -- region 2
        refine region_in ?_
        refine W_call rfl rfl rfl Try.func12 (by kernel_rfl) rfl (args0) (shw_c  ) ?_
        rintro _ w18 ⟨rfl, hP18⟩
        refine ⟨_, rfl, ?_⟩
        have hS18 := hS.join hP18
        replace hS18 : St w NoX [] w18 := hS18
        refine W_v rfl rfl (V_asg rfl (et rfl)) ?_
        refine W_end ?_
        refine gen_Q (fun A19 hA19 => ?_)
        have hsz19 : SzN A19 158 := by rw [hA19]; infer_instance
        have hdf19 : A19.defers = [] := by rw [hA19]; simp only [df_put]; exact hdf15
        have l6_19 := lookE hA19 6 (et rfl)
        clear hA19 hsz15 hdf15 l0_15 l1_15 l2_15 l37_15
        refine then_n (hK17 _ _ ?_)
        clear hK17
        refine wp_ret ?_
        refine then_ret ?_
        refine ret_in (results_1 Try.results6 (rv_tmp l6_19)) hdf19 ?_
        -- leaf FFT
        exact ⟨rfl, hS18.fin0⟩
      · skip
        refine wp_skip ?_
        refine then_n (hK3 _ _ ?_)
        clear hK3
        refine wp_seq_k (fun K20 hK20 => ?_)
        -- region 3
        refine region_in ?_
        refine W_v rfl rfl (V_mov rfl l0_15) ?_
        refine W_v rfl rfl (V_mov rfl (es rfl l1_15)) ?_
        refine W_call rfl rfl rfl Try.func20 (by kernel_rfl) rfl (args2 (es rfl (et rfl)) (et rfl)) (kFw_c (hS.roC h_rv) (hS.roC h_mv) ) ?_
        rintro _ w21 ⟨v_21, rfl, hP21⟩
        refine ⟨_, rfl, ?_⟩
        obtain ⟨c_21, hc_21, hP21⟩ := gen1 hP21
        have hS21 := hS.join hP21
        replace hS21 : St w NoX [c_21] w21 := hS21
        refine W_v rfl rfl (V_mov rfl (et rfl)) ?_
        refine W_v rfl rfl (V_ext (v := v_21) rfl (et rfl) rfl) ?_
        refine W_v rfl rfl (V_ext (v := .int .i64 ((fwN l ms))) rfl (es rfl (et rfl)) rfl) ?_
        refine W_v rfl rfl (V_ext (v := .int .i64 ((fwE l ms))) rfl (es rfl (es rfl (et rfl))) rfl) ?_
        refine W_v rfl rfl (V_asg rfl (es rfl (es rfl (et rfl)))) ?_
        refine W_v rfl rfl (V_asg rfl (es rfl (es rfl (et rfl)))) ?_
        refine W_v rfl rfl (V_asg rfl (es rfl (es rfl (et rfl)))) ?_
        refine W_end ?_
        refine gen_Q (fun A22 hA22 => ?_)
        have hsz22 : SzN A22 158 := by rw [hA22]; infer_instance
        have hdf22 : A22.defers = [] := by rw [hA22]; simp only [df_put]; exact hdf15
        have l0_22 := lookE hA22 0 (es rfl (es rfl (es rfl (es rfl (es rfl (es rfl (es rfl (es rfl (es rfl (es rfl l0_15))))))))))
        have l1_22 := lookE hA22 1 (es rfl (es rfl (es rfl (es rfl (es rfl (es rfl (es rfl (es rfl (es rfl (es rfl l1_15))))))))))
        have l2_22 := lookE hA22 2 (es rfl (es rfl (es rfl (es rfl (es rfl (es rfl (es rfl (es rfl (es rfl (es rfl l2_15))))))))))
        have l7_22 := lookE hA22 7 (es rfl (es rfl (et rfl)))
        have l9_22 := lookE hA22 9 (et rfl)
        clear hA22 hsz15 hdf15 l0_15 l1_15 l2_15 l37_15
        refine then_n (hK20 _ _ ?_)
        clear hK20
        refine wp_seq_k (fun K23 hK23 => ?_)
        -- region 4
        refine region_in ?_
        refine W_v rfl rfl (V_mov rfl l2_22) ?_
        refine W_call rfl rfl rfl Try.func18 (by kernel_rfl) rfl (args1 (et rfl)) (kMs_c (hS21.roC h_nv) ) ?_
        rintro _ w24 ⟨rfl, hP24⟩
        refine ⟨_, rfl, ?_⟩
        have hS24 := hS21.join hP24
        replace hS24 : St w NoX [c_21] w24 := hS24
        refine W_v rfl rfl (V_mov rfl (et rfl)) ?_
        refine W_v rfl rfl (V_ext (v := .int .i64 ((mvR ns).1)) rfl (et rfl) rfl) ?_
        refine W_v rfl rfl (V_ext (v := .int .i64 ((mvR ns).2)) rfl (es rfl (et rfl)) rfl) ?_
        refine W_v rfl rfl (V_asg rfl (es rfl (et rfl))) ?_
        refine W_v rfl rfl (V_asg rfl (es rfl (et rfl))) ?_
        refine W_end ?_
        refine gen_Q (fun A25 hA25 => ?_)
        have hsz25 : SzN A25 158 := by rw [hA25]; infer_instance
        have hdf25 : A25.defers = [] := by rw [hA25]; simp only [df_put]; exact hdf22
        have l0_25 := lookE hA25 0 (es rfl (es rfl (es rfl (es rfl (es rfl (es rfl (es rfl l0_22)))))))
        have l1_25 := lookE hA25 1 (es rfl (es rfl (es rfl (es rfl (es rfl (es rfl (es rfl l1_22)))))))
        have l2_25 := lookE hA25 2 (es rfl (es rfl (es rfl (es rfl (es rfl (es rfl (es rfl l2_22)))))))
        have l7_25 := lookE hA25 7 (es rfl (es rfl (es rfl (es rfl (es rfl (es rfl (es rfl l7_22)))))))
        have l9_25 := lookE hA25 9 (es rfl (es rfl (es rfl (es rfl (es rfl (es rfl (es rfl l9_22)))))))
        have l11_25 := lookE hA25 11 (et rfl)
        clear hA25 hsz22 hdf22 l0_22 l1_22 l2_22 l7_22 l9_22
        refine then_n (hK23 _ _ ?_)
        clear hK23
        refine wp_seq_k (fun K26 hK26 => ?_)
        refine wp_seq_k (fun K27 hK27 => ?_)
        -- region 5
        refine region_in ?_
        refine W_v rfl rfl (V_mov rfl l9_25) ?_
        refine W_v rfl rfl (V_neq rfl (et rfl) rfl) ?_
        refine W_split rfl rfl (V_mov rfl (et rfl)) (fun c28 => ?_) (fun c28 => ?_)
        · skip
          refine W_off rfl (wanted_f rfl rfl (et rfl) (ez rfl) rfl) ?_
          refine W_off rfl (wanted_f rfl rfl (es rfl (et rfl)) (ez rfl) rfl) ?_
          refine W_v rfl rfl (V_pickT rfl (es rfl (es rfl (et rfl))) rfl) ?_
          refine W_end ?_
          refine gen_Q (fun A29 hA29 => ?_)
          have hsz29 : SzN A29 158 := by rw [hA29]; infer_instance
          have hdf29 : A29.defers = [] := by rw [hA29]; simp only [df_put]; exact hdf25
          have l0_29 := lookE hA29 0 (es rfl (es rfl (es rfl (es rfl (es rfl (es rfl l0_25))))))
          have l1_29 := lookE hA29 1 (es rfl (es rfl (es rfl (es rfl (es rfl (es rfl l1_25))))))
          have l2_29 := lookE hA29 2 (es rfl (es rfl (es rfl (es rfl (es rfl (es rfl l2_25))))))
          have l7_29 := lookE hA29 7 (es rfl (es rfl (es rfl (es rfl (es rfl (es rfl l7_25))))))
          have l56_29 := lookE hA29 56 (et rfl)
          clear hA29 hsz25 hdf25 l0_25 l1_25 l2_25 l7_25 l9_25 l11_25
          refine then_n (hK27 _ _ ?_)
          clear hK27
          refine cond_t l56_29 ?_
          refine wp_seq_k (fun K30 hK30 => ?_)
          -- region 6
          refine region_in ?_
          refine W_call rfl rfl rfl Try.func12 (by kernel_rfl) rfl (args0) (shw_c  ) ?_
          rintro _ w31 ⟨rfl, hP31⟩
          refine ⟨_, rfl, ?_⟩
          have hS31 := hS24.join hP31
          replace hS31 : St w NoX [c_21] w31 := hS31
          refine W_v rfl rfl (V_asg rfl (et rfl)) ?_
          refine W_end ?_
          refine gen_Q (fun A32 hA32 => ?_)
          have hsz32 : SzN A32 158 := by rw [hA32]; infer_instance
          have hdf32 : A32.defers = [] := by rw [hA32]; simp only [df_put]; exact hdf29
          have l6_32 := lookE hA32 6 (et rfl)
          clear hA32 hsz29 hdf29 l0_29 l1_29 l2_29 l7_29 l56_29
          have hS33 : St w NoX [] w31 := hS31.sel [] (by decide) rfl
          refine then_n (hK30 _ _ ?_)
          clear hK30
          refine wp_ret ?_
          refine then_ret ?_
          refine ret_in (results_1 Try.results6 (rv_tmp l6_32)) hdf32 ?_
          -- leaf FFFT
          exact ⟨rfl, hS33.fin0⟩
        · skip
          have h0 : fwE l ms = 0 := by simpa using c28
          refine W_v rfl (wanted_t rfl rfl (et rfl) (ez rfl)) (V_mov rfl (es rfl (es rfl (es rfl l11_25)))) ?_
          refine W_v rfl (wanted_t rfl rfl (es rfl (et rfl)) (ez rfl)) (V_neq rfl (et rfl) rfl) ?_
          refine W_v rfl rfl (V_pickF rfl (es rfl (es rfl (et rfl))) (et rfl)) ?_
          refine W_end ?_
          refine gen_Q (fun A34 hA34 => ?_)
          have hsz34 : SzN A34 158 := by rw [hA34]; infer_instance
          have hdf34 : A34.defers = [] := by rw [hA34]; simp only [df_put]; exact hdf25
          have l0_34 := lookE hA34 0 (es rfl (es rfl (es rfl (es rfl (es rfl (es rfl l0_25))))))
          have l1_34 := lookE hA34 1 (es rfl (es rfl (es rfl (es rfl (es rfl (es rfl l1_25))))))
          have l2_34 := lookE hA34 2 (es rfl (es rfl (es rfl (es rfl (es rfl (es rfl l2_25))))))
          have l7_34 := lookE hA34 7 (es rfl (es rfl (es rfl (es rfl (es rfl (es rfl l7_25))))))
          have l56_34 := lookE hA34 56 (et rfl)
          clear hA34 hsz25 hdf25 l0_25 l1_25 l2_25 l7_25 l9_25 l11_25
          refine then_n (hK27 _ _ ?_)
          clear hK27
          refine cond_dec l56_34 (fun c35 => ?_) (fun c35 => ?_)
          · skip
            refine wp_seq_k (fun K36 hK36 => ?_)
            -- region 6
            refine region_in ?_
            refine W_call rfl rfl rfl Try.func12 (by kernel_rfl) rfl (args0) (shw_c  ) ?_
            rintro _ w37 ⟨rfl, hP37⟩
            refine ⟨_, rfl, ?_⟩
            have hS37 := hS24.join hP37
            replace hS37 : St w NoX [c_21] w37 := hS37
            refine W_v rfl rfl (V_asg rfl (et rfl)) ?_
            refine W_end ?_
            refine gen_Q (fun A38 hA38 => ?_)
            have hsz38 : SzN A38 158 := by rw [hA38]; infer_instance
            have hdf38 : A38.defers = [] := by rw [hA38]; simp only [df_put]; exact hdf34
            have l6_38 := lookE hA38 6 (et rfl)
            clear hA38 hsz34 hdf34 l0_34 l1_34 l2_34 l7_34 l56_34
            have hS39 : St w NoX [] w37 := hS37.sel [] (by decide) rfl
            refine then_n (hK36 _ _ ?_)
            clear hK36
            refine wp_ret ?_
            refine then_ret ?_
            refine ret_in (results_1 Try.results6 (rv_tmp l6_38)) hdf38 ?_
            -- leaf FFFFT
            exact ⟨rfl, hS39.fin0⟩
          · skip
            have hm0 : (mvR ns).2 = 0 := by simpa using c35
            refine wp_skip ?_
            refine then_n (hK26 _ _ ?_)
            clear hK26
            refine wp_seq_k (fun K40 hK40 => ?_)
            -- region 7
            refine region_in ?_
            refine W_v rfl rfl (V_mov rfl l7_34) ?_
            refine W_v rfl rfl (V_mov rfl (es rfl l2_34)) ?_
            refine W_call rfl rfl rfl Try.func20 (by kernel_rfl) rfl (args2 (es rfl (et rfl)) (et rfl)) (kFw_c (hS24.chC 0 rfl hc_21).own (hS24.roC h_nv) ) ?_
            rintro _ w41 ⟨v_41, rfl, hP41⟩
            refine ⟨_, rfl, ?_⟩
            obtain ⟨c_41, hc_41, hP41⟩ := gen1 hP41
            have hS41 := hS24.join hP41
            replace hS41 : St w NoX [c_41, c_21] w41 := hS41
            refine W_v rfl rfl (V_mov rfl (et rfl)) ?_
            refine W_v rfl rfl (V_ext (v := v_41) rfl (et rfl) rfl) ?_
            refine W_v rfl rfl (V_ext (v := .int .i64 ((fwN (fwT l ms) ns))) rfl (es rfl (et rfl)) rfl) ?_
            refine W_v rfl rfl (V_ext (v := .int .i64 ((fwE (fwT l ms) ns))) rfl (es rfl (es rfl (et rfl))) rfl) ?_
            refine W_v rfl rfl (V_asg rfl (es rfl (es rfl (et rfl)))) ?_
            refine W_v rfl rfl (V_asg rfl (es rfl (es rfl (et rfl)))) ?_
            refine W_v rfl rfl (V_asg rfl (es rfl (es rfl (et rfl)))) ?_
            refine W_end ?_
            refine gen_Q (fun A42 hA42 => ?_)
            have hsz42 : SzN A42 158 := by rw [hA42]; infer_instance
            have hdf42 : A42.defers = [] := by rw [hA42]; simp only [df_put]; exact hdf34
            have l0_42 := lookE hA42 0 (es rfl (es rfl (es rfl (es rfl (es rfl (es rfl (es rfl (es rfl (es rfl (es rfl l0_34))))))))))
            have l1_42 := lookE hA42 1 (es rfl (es rfl (es rfl (es rfl (es rfl (es rfl (es rfl (es rfl (es rfl (es rfl l1_34))))))))))
            have l2_42 := lookE hA42 2 (es rfl (es rfl (es rfl (es rfl (es rfl (es rfl (es rfl (es rfl (es rfl (es rfl l2_34))))))))))
            have l12_42 := lookE hA42 12 (es rfl (es rfl (et rfl)))
            have l14_42 := lookE hA42 14 (et rfl)
            clear hA42 hsz34 hdf34 l0_34 l1_34 l2_34 l7_34 l56_34
            have hS43 : St w NoX [c_41] w41 := hS41.sel [0] (by decide) rfl
            refine then_n (hK40 _ _ ?_)
            clear hK40
            refine wp_seq_k (fun K44 hK44 => ?_)
            -- region 8
            refine region_in ?_
            refine W_v rfl rfl (V_asg rfl rfl) ?_
            refine W_end ?_
            refine gen_Q (fun A45 hA45 => ?_)
            have hsz45 : SzN A45 158 := by rw [hA45]; infer_instance
            have hdf45 : A45.defers = [] := by rw [hA45]; simp only [df_put]; exact hdf42
            have l0_45 := lookE hA45 0 (es rfl l0_42)
            have l1_45 := lookE hA45 1 (es rfl l1_42)
            have l2_45 := lookE hA45 2 (es rfl l2_42)
            have l12_45 := lookE hA45 12 (es rfl l12_42)
            have l14_45 := lookE hA45 14 (es rfl l14_42)
            have l15_45 := lookE hA45 15 (et rfl)
            clear hA45 hsz42 hdf42 l0_42 l1_42 l2_42 l12_42 l14_42
            refine then_n (hK44 _ _ ?_)
            clear hK44
            refine wp_seq_k (fun K46 hK46 => ?_)
            refine wp_seq_k (fun K47 hK47 => ?_)
            -- region 9
            refine region_in ?_
            refine W_v rfl rfl (V_asg rfl rfl) ?_
            refine W_end ?_
            refine gen_Q (fun A48 hA48 => ?_)
            have hsz48 : SzN A48 158 := by rw [hA48]; infer_instance
            have hdf48 : A48.defers = [] := by rw [hA48]; simp only [df_put]; exact hdf45
            have l0_48 := lookE hA48 0 (es rfl l0_45)
            have l1_48 := lookE hA48 1 (es rfl l1_45)
            have l2_48 := lookE hA48 2 (es rfl l2_45)
            have l12_48 := lookE hA48 12 (es rfl l12_45)
            have l14_48 := lookE hA48 14 (es rfl l14_45)
            have l15_48 := lookE hA48 15 (es rfl l15_45)
            have l16_48 := lookE hA48 16 (et rfl)
            clear hA48 hsz45 hdf45 l0_45 l1_45 l2_45 l12_45 l14_45 l15_45
            refine then_n (hK47 _ _ ?_)
            clear hK47
            refine wp_block ?_
            obtain ⟨c49, hc49, hS49⟩ := hS43.pnil (s := 2)
            -- loop 10
            refine loopX (fun mz A' w' => SzN A' 158 ∧ A'.defers = [] ∧ (∃ (i : Nat) (bv : Value), (mz = ms.length - i) ∧ (i ≤ ms.length) ∧ (EV A' (.tmp 16) = .int .i64 (i : Int)) ∧ (EV A' (.tmp 15) = bv) ∧ (EV A' (.tmp 0) = EV A48 (.tmp 0)) ∧ (EV A' (.tmp 1) = EV A48 (.tmp 1)) ∧ (EV A' (.tmp 2) = EV A48 (.tmp 2)) ∧ (EV A' (.tmp 12) = EV A48 (.tmp 12)) ∧ (EV A' (.tmp 14) = EV A48 (.tmp 14)) ∧ (St w NoX [ro 2 mvC bv ((ms.take i).map (led ns)), io .i64 v_41 (fwT (fwT l ms) ns)] w'))) (ms.length - 0) ⟨hsz48, hdf48, 0, (.slice none 0 0), rfl, (by omega), ((l16_48).trans (by first | rfl | (simp; done) | (congr 1; omega))), ((l15_48).trans (by first | rfl | (simp; done) | (congr 1; omega))), rfl, rfl, rfl, rfl, rfl, (by have q0 : c49 = ro 2 mvC (.slice none 0 0) ((ms.take 0).map (led ns)) := hc49.trans (rfl); have q1 := hc_41; subst q0 q1; exact hS49)⟩ ?_
            clear hS49 hc49 hc_41
            rintro n50 A50 w50 ⟨hsz50, hdf50, i, bv, hm50, hi, l16_50, l15_50, u0_50, u1_50, u2_50, u12_50, u14_50, hS50⟩
            have l0_50 := u0_50.trans l0_48
            have l1_50 := u1_50.trans l1_48
            have l2_50 := u2_50.trans l2_48
            have l12_50 := u12_50.trans l12_48
            have l14_50 := u14_50.trans l14_48
            obtain ⟨c49_50, c_50, hc49_50, hc_50, hS50⟩ := gen2 hS50
            refine wp_seq_k (fun K51 hK51 => ?_)
            refine wp_seq_k (fun K52 hK52 => ?_)
            -- region 10
            refine region_in ?_
            refine W_v rfl rfl (V_mov rfl l16_50) ?_
            refine W_v rfl rfl (V_mov rfl (es rfl l1_50)) ?_
            refine W_v rfl rfl (V_lenS rfl (et rfl) (sl_SlN h_mv.at) Try.underlying33) ?_
            refine W_v rfl rfl (V_lss rfl (es rfl (es rfl (et rfl))) (et rfl)) ?_
            refine W_end ?_
            refine gen_Q (fun A53 hA53 => ?_)
            have hsz53 : SzN A53 158 := by rw [hA53]; infer_instance
            have hdf53 : A53.defers = [] := by rw [hA53]; simp only [df_put]; exact hdf50
            have l0_53 := lookE hA53 0 (es rfl (es rfl (es rfl (es rfl l0_50))))
            have l1_53 := lookE hA53 1 (es rfl (es rfl (es rfl (es rfl l1_50))))
            have l2_53 := lookE hA53 2 (es rfl (es rfl (es rfl (es rfl l2_50))))
            have l12_53 := lookE hA53 12 (es rfl (es rfl (es rfl (es rfl l12_50))))
            have l14_53 := lookE hA53 14 (es rfl (es rfl (es rfl (es rfl l14_50))))
            have l15_53 := lookE hA53 15 (es rfl (es rfl (es rfl (es rfl l15_50))))
            have l16_53 := lookE hA53 16 (es rfl (es rfl (es rfl (es rfl l16_50))))
            have l68_53 := lookE hA53 68 (et rfl)
            clear hA53 hsz50 hdf50 l16_50 l15_50 l0_50 l1_50 l2_50 l12_50 l14_50
            refine then_n (hK52 _ _ ?_)
            clear hK52
            refine cond_dec l68_53 (fun c54 => ?_) (fun c54 => ?_)
            · skip
              refine wp_skip ?_
              refine then_n (hK51 _ _ ?_)
              clear hK51
              refine wp_seq_k (fun K55 hK55 => ?_)
              refine wp_block ?_
              refine wp_seq_k (fun K56 hK56 => ?_)
              -- region 12
              refine region_in ?_
              refine W_v rfl rfl (V_mov rfl l1_53) ?_
              refine W_v rfl rfl (V_mov rfl (es rfl l16_53)) ?_
              have k57 : i < ms.length := by first | omega | (simp only [List.length_cons, List.length_nil]; omega)
              obtain ⟨y57, hy57⟩ := get_some (xs := ms) (k := i) k57
              obtain ⟨B57, O57, C57, hv57⟩ := (SlN.blk (sl_SlN h_mv.at) (by first | omega | (simp only [List.length_cons, List.length_nil]; omega)))
              refine W_v rfl rfl (V_ixS (off := O57 + i * 2) 2 (i) rfl (es rfl (et rfl)) (et rfl) hv57 (by omega) k57 Try.underlying33 (by kernel_rfl) rfl) ?_
              refine W_r rfl rfl (VR_ldR (ys := mvC y57) rfl (et rfl) (SlN.row mvC_len (sl_SlN (hS50.ro h_mv)) hv57 hy57 rfl) Try.underlying39 rfl (by kernel_rfl)) ?_
              refine W_allocS (z := .agg #[.int .i64 0, .int .i64 0]) (zs := #[.int .i64 0, .int .i64 0]) hS50 rfl rfl rfl (by kernel_rfl) (by rfl) (fun g58 w58 c58 hc58 hS58 => ?_)
              replace hS58 : St w NoX [c58, c49_50, c_50] w58 := hS58
              refine W_stAS 0 hS58 rfl hc58 rfl rfl rfl (et rfl) (es rfl (et rfl)) (by first | (rw [List.all_toArray] <;> rfl) | (simp only [List.all_toArray, List.all_cons, List.all_nil] <;> rfl)) (by rfl) (by kernel_rfl) (fun w59 c59 hc59 hS59 => ?_)
              replace hS59 : St w NoX [c59, c49_50, c_50] w59 := hS59
              refine W_end ?_
              refine gen_Q (fun A60 hA60 => ?_)
              have hsz60 : SzN A60 158 := by rw [hA60]; infer_instance
              have hdf60 : A60.defers = [] := by rw [hA60]; simp only [df_put]; exact hdf53
              have l0_60 := lookE hA60 0 (es rfl (es rfl (es rfl (es rfl (es rfl l0_53)))))
              have l1_60 := lookE hA60 1 (es rfl (es rfl (es rfl (es rfl (es rfl l1_53)))))
              have l2_60 := lookE hA60 2 (es rfl (es rfl (es rfl (es rfl (es rfl l2_53)))))
              have l12_60 := lookE hA60 12 (es rfl (es rfl (es rfl (es rfl (es rfl l12_53)))))
              have l14_60 := lookE hA60 14 (es rfl (es rfl (es rfl (es rfl (es rfl l14_53)))))
              have l15_60 := lookE hA60 15 (es rfl (es rfl (es rfl (es rfl (es rfl l15_53)))))
              have l16_60 := lookE hA60 16 (es rfl (es rfl (es rfl (es rfl (es rfl l16_53)))))
              have l17_60 := lookE hA60 17 (et rfl)
              clear hA60 hsz53 hdf53 l0_53 l1_53 l2_53 l12_53 l14_53 l15_53 l16_53 l68_53
              refine then_n (hK56 _ _ ?_)
              clear hK56
              refine wp_seq_k (fun K61 hK61 => ?_)
              refine wp_seq_k (fun K62 hK62 => ?_)
              -- region 13
              refine region_in ?_
              refine W_v rfl rfl (V_asg rfl rfl) ?_
              refine W_end ?_
              refine gen_Q (fun A63 hA63 => ?_)
              have hsz63 : SzN A63 158 := by rw [hA63]; infer_instance
              have hdf63 : A63.defers = [] := by rw [hA63]; simp only [df_put]; exact hdf60
              have l0_63 := lookE hA63 0 (es rfl l0_60)
              have l1_63 := lookE hA63 1 (es rfl l1_60)
              have l2_63 := lookE hA63 2 (es rfl l2_60)
              have l12_63 := lookE hA63 12 (es rfl l12_60)
              have l14_63 := lookE hA63 14 (es rfl l14_60)
              have l15_63 := lookE hA63 15 (es rfl l15_60)
              have l16_63 := lookE hA63 16 (es rfl l16_60)
              have l17_63 := lookE hA63 17 (es rfl l17_60)
              have l18_63 := lookE hA63 18 (et rfl)
              clear hA63 hsz60 hdf60 l0_60 l1_60 l2_60 l12_60 l14_60 l15_60 l16_60 l17_60
              refine then_n (hK62 _ _ ?_)
              clear hK62
              refine wp_block ?_
              -- loop 14
              refine loopX (fun mz A' w' => SzN A' 158 ∧ A'.defers = [] ∧ (∃ (k : Nat), (mz = ns.length - k) ∧ (k ≤ ns.length) ∧ (EV A' (.tmp 18) = .int .i64 (k : Int)) ∧ (EV A' (.tmp 0) = EV A63 (.tmp 0)) ∧ (EV A' (.tmp 1) = EV A63 (.tmp 1)) ∧ (EV A' (.tmp 2) = EV A63 (.tmp 2)) ∧ (EV A' (.tmp 12) = EV A63 (.tmp 12)) ∧ (EV A' (.tmp 14) = EV A63 (.tmp 14)) ∧ (EV A' (.tmp 15) = EV A63 (.tmp 15)) ∧ (EV A' (.tmp 16) = EV A63 (.tmp 16)) ∧ (EV A' (.tmp 17) = EV A63 (.tmp 17)) ∧ (St w NoX [bx g58 39 #[.int .i64 (y57.1), .int .i64 ((fwj ns k y57.2))], ro 2 mvC bv ((ms.take i).map (led ns)), io .i64 v_41 (fwT (fwT l ms) ns)] w'))) (ns.length - 0) ⟨hsz63, hdf63, 0, rfl, (by omega), ((l18_63).trans (by first | rfl | (simp; done) | (congr 1; omega))), rfl, rfl, rfl, rfl, rfl, rfl, rfl, rfl, (by have q0 : c59 = bx g58 39 #[.int .i64 (y57.1), .int .i64 ((fwj ns 0 y57.2))] := hc59.trans ((by rw [fwj_zero]; rfl)); have q1 := hc49_50; have q2 := hc_50; subst q0 q1 q2; exact hS59)⟩ ?_
              clear hS59 hc59 hc49_50 hc_50
              rintro n64 A64 w64 ⟨hsz64, hdf64, k, hm64, hk, l18_64, u0_64, u1_64, u2_64, u12_64, u14_64, u15_64, u16_64, u17_64, hS64⟩
              have l0_64 := u0_64.trans l0_63
              have l1_64 := u1_64.trans l1_63
              have l2_64 := u2_64.trans l2_63
              have l12_64 := u12_64.trans l12_63
              have l14_64 := u14_64.trans l14_63
              have l15_64 := u15_64.trans l15_63
              have l16_64 := u16_64.trans l16_63
              have l17_64 := u17_64.trans l17_63
              obtain ⟨c59_64, c49_64, c_64, hc59_64, hc49_64, hc_64, hS64⟩ := gen3 hS64
              refine wp_seq_k (fun K65 hK65 => ?_)
              refine wp_seq_k (fun K66 hK66 => ?_)
              -- region 14
              refine region_in ?_
              refine W_v rfl rfl (V_mov rfl l18_64) ?_
              refine W_v rfl rfl (V_mov rfl (es rfl l2_64)) ?_
              refine W_v rfl rfl (V_lenS rfl (et rfl) (sl_SlN h_nv.at) Try.underlying33) ?_
              refine W_v rfl rfl (V_lss rfl (es rfl (es rfl (et rfl))) (et rfl)) ?_
              refine W_end ?_
              refine gen_Q (fun A67 hA67 => ?_)
              have hsz67 : SzN A67 158 := by rw [hA67]; infer_instance
              have hdf67 : A67.defers = [] := by rw [hA67]; simp only [df_put]; exact hdf64
              have l0_67 := lookE hA67 0 (es rfl (es rfl (es rfl (es rfl l0_64))))
              have l1_67 := lookE hA67 1 (es rfl (es rfl (es rfl (es rfl l1_64))))
              have l2_67 := lookE hA67 2 (es rfl (es rfl (es rfl (es rfl l2_64))))
              have l12_67 := lookE hA67 12 (es rfl (es rfl (es rfl (es rfl l12_64))))
              have l14_67 := lookE hA67 14 (es rfl (es rfl (es rfl (es rfl l14_64))))
              have l15_67 := lookE hA67 15 (es rfl (es rfl (es rfl (es rfl l15_64))))
              have l16_67 := lookE hA67 16 (es rfl (es rfl (es rfl (es rfl l16_64))))
              have l17_67 := lookE hA67 17 (es rfl (es rfl (es rfl (es rfl l17_64))))
              have l18_67 := lookE hA67 18 (es rfl (es rfl (es rfl (es rfl l18_64))))
              have l78_67 := lookE hA67 78 (et rfl)
              clear hA67 hsz64 hdf64 l18_64 l0_64 l1_64 l2_64 l12_64 l14_64 l15_64 l16_64 l17_64
              refine then_n (hK66 _ _ ?_)
              clear hK66
              refine cond_dec l78_67 (fun c68 => ?_) (fun c68 => ?_)
              · skip
                refine wp_skip ?_
                refine then_n (hK65 _ _ ?_)
                clear hK65
                refine wp_seq_k (fun K69 hK69 => ?_)
                refine wp_block ?_
                refine wp_seq_k (fun K70 hK70 => ?_)
                -- region 16
                refine region_monoS 11 11 [] (by kernel_rfl) (by kernel_rfl) ?_
                refine D_v rfl rfl (V_mov rfl l2_67) rfl rfl ?_
                refine D_v rfl rfl (V_mov rfl (es rfl l18_67)) rfl rfl ?_
                have k71 : k < ns.length := by first | omega | (simp only [List.length_cons, List.length_nil]; omega)
                obtain ⟨y71, hy71⟩ := get_some (xs := ns) (k := k) k71
                obtain ⟨B71, O71, C71, hv71⟩ := (SlN.blk (sl_SlN h_nv.at) (by first | omega | (simp only [List.length_cons, List.length_nil]; omega)))
                refine D_v rfl rfl (V_ixS (off := O71 + k * 2) 2 (k) rfl (es rfl (et rfl)) (et rfl) hv71 (by omega) k71 Try.underlying33 (by kernel_rfl) rfl) rfl rfl ?_
                refine D_v rfl rfl (V_fa (off' := O71 + k * 2 + 0) rfl (et rfl) Try.underlying39 rfl (by decide) rfl) rfl rfl ?_
                refine D_r rfl rfl (by kernel_rfl) (fun sx hx hF => (VR_ldC (v := .int .i64 (y71.1)) rfl (et rfl) (SlN.row mvC_len (sl_SlN ((hS64.grow hx).ro h_nv)) hv71 hy71 rfl 0 _ rfl) Try.underlying3 rfl)) rfl rfl ?_
                refine D_v rfl rfl (V_mov rfl (es rfl (es rfl (es rfl (es rfl (es rfl l1_67)))))) rfl rfl ?_
                refine D_v rfl rfl (V_mov rfl (es rfl (es rfl (es rfl (es rfl (es rfl (es rfl l16_67))))))) rfl rfl ?_
                refine D_v rfl rfl (V_ixS (off := O57 + i * 2) 2 (i) rfl (es rfl (et rfl)) (et rfl) hv57 (by omega) k57 Try.underlying33 (by kernel_rfl) rfl) rfl rfl ?_
                refine D_v rfl rfl (V_fa (off' := O57 + i * 2 + 1) rfl (et rfl) Try.underlying39 rfl (by decide) rfl) rfl rfl ?_
                refine D_r rfl rfl (by kernel_rfl) (fun sx hx hF => (VR_ldC (v := .int .i64 (y57.2)) rfl (et rfl) (SlN.row mvC_len (sl_SlN ((hS64.grow hx).ro h_mv)) hv57 hy57 rfl 1 _ rfl) Try.underlying3 rfl)) rfl rfl ?_
                refine D_v rfl rfl (V_eql rfl (es rfl (es rfl (es rfl (es rfl (es rfl (et rfl)))))) (et rfl)) rfl rfl ?_
                refine ZS_none hS64 (Nat.le_refl _) (Nat.le_refl _) (fun s73 hJ73 hL73 hF73 => ?_)
                have hS73 := hJ73.st; clear hF73 hJ73 hL73
                generalize s73.1 = w73 at *
                replace hS73 : St w NoX [c59_64, c49_64, c_64] w73 := hS73
                refine gen_Q (fun A74 hA74 => ?_)
                have hsz74 : SzN A74 158 := by rw [hA74]; infer_instance
                have hdf74 : A74.defers = [] := by rw [hA74]; simp only [df_put]; exact hdf67
                have l0_74 := lookE hA74 0 (es rfl (es rfl (es rfl (es rfl (es rfl (es rfl (es rfl (es rfl (es rfl (es rfl (es rfl l0_67)))))))))))
                have l1_74 := lookE hA74 1 (es rfl (es rfl (es rfl (es rfl (es rfl (es rfl (es rfl (es rfl (es rfl (es rfl (es rfl l1_67)))))))))))
                have l2_74 := lookE hA74 2 (es rfl (es rfl (es rfl (es rfl (es rfl (es rfl (es rfl (es rfl (es rfl (es rfl (es rfl l2_67)))))))))))
                have l12_74 := lookE hA74 12 (es rfl (es rfl (es rfl (es rfl (es rfl (es rfl (es rfl (es rfl (es rfl (es rfl (es rfl l12_67)))))))))))
                have l14_74 := lookE hA74 14 (es rfl (es rfl (es rfl (es rfl (es rfl (es rfl (es rfl (es rfl (es rfl (es rfl (es rfl l14_67)))))))))))
                have l15_74 := lookE hA74 15 (es rfl (es rfl (es rfl (es rfl (es rfl (es rfl (es rfl (es rfl (es rfl (es rfl (es rfl l15_67)))))))))))
                have l16_74 := lookE hA74 16 (es rfl (es rfl (es rfl (es rfl (es rfl (es rfl (es rfl (es rfl (es rfl (es rfl (es rfl l16_67)))))))))))
                have l17_74 := lookE hA74 17 (es rfl (es rfl (es rfl (es rfl (es rfl (es rfl (es rfl (es rfl (es rfl (es rfl (es rfl l17_67)))))))))))
                have l18_74 := lookE hA74 18 (es rfl (es rfl (es rfl (es rfl (es rfl (es rfl (es rfl (es rfl (es rfl (es rfl (es rfl l18_67)))))))))))
                have l91_74 := lookE hA74 91 (et rfl)
                clear hA74 hsz67 hdf67 l0_67 l1_67 l2_67 l12_67 l14_67 l15_67 l16_67 l17_67 l18_67 l78_67
                refine then_n (hK70 _ _ ?_)
                clear hK70
                refine cond_dec l91_74 (fun c75 => ?_) (fun c75 => ?_)
                · skip
                  -- region 17
                  refine region_in ?_
                  refine W_v rfl rfl (V_mov rfl l2_74) ?_
                  refine W_v rfl rfl (V_mov rfl (es rfl l18_74)) ?_
                  refine W_v rfl rfl (V_ixS (off := O71 + k * 2) 2 (k) rfl (es rfl (et rfl)) (et rfl) hv71 (by omega) k71 Try.underlying33 (by kernel_rfl) rfl) ?_
                  refine W_v rfl rfl (V_fa (off' := O71 + k * 2 + 1) rfl (et rfl) Try.underlying39 rfl (by decide) rfl) ?_
                  refine W_r rfl rfl (VR_ldC (v := .int .i64 (y71.2)) rfl (et rfl) (SlN.row mvC_len (sl_SlN (hS73.ro h_nv)) hv71 hy71 rfl 1 _ rfl) Try.underlying3 rfl) ?_
                  refine W_v rfl rfl (V_fa (off' := 1) rfl (es rfl (es rfl (es rfl (es rfl (es rfl l17_74))))) Try.underlying39 rfl (by decide) rfl) ?_
                  refine W_stCS (zs' := #[.int .i64 (y57.1), .int .i64 (y71.2)]) 0 hS73 rfl hc59_64 rfl rfl rfl (et rfl) (es rfl (et rfl)) (by rfl) (by rfl) (by kernel_rfl) (by first | rfl | (simp only [List.setIfInBounds_toArray, List.set_cons_succ, List.set_cons_zero] <;> rfl)) (fun w77 c77 hc77 hS77 => ?_)
                  replace hS77 : St w NoX [c77, c49_64, c_64] w77 := hS77
                  refine W_end ?_
                  refine gen_Q (fun A78 hA78 => ?_)
                  have hsz78 : SzN A78 158 := by rw [hA78]; infer_instance
                  have hdf78 : A78.defers = [] := by rw [hA78]; simp only [df_put]; exact hdf74
                  have l0_78 := lookE hA78 0 (es rfl (es rfl (es rfl (es rfl (es rfl (es rfl l0_74))))))
                  have l1_78 := lookE hA78 1 (es rfl (es rfl (es rfl (es rfl (es rfl (es rfl l1_74))))))
                  have l2_78 := lookE hA78 2 (es rfl (es rfl (es rfl (es rfl (es rfl (es rfl l2_74))))))
                  have l12_78 := lookE hA78 12 (es rfl (es rfl (es rfl (es rfl (es rfl (es rfl l12_74))))))
                  have l14_78 := lookE hA78 14 (es rfl (es rfl (es rfl (es rfl (es rfl (es rfl l14_74))))))
                  have l15_78 := lookE hA78 15 (es rfl (es rfl (es rfl (es rfl (es rfl (es rfl l15_74))))))
                  have l16_78 := lookE hA78 16 (es rfl (es rfl (es rfl (es rfl (es rfl (es rfl l16_74))))))
                  have l17_78 := lookE hA78 17 (es rfl (es rfl (es rfl (es rfl (es rfl (es rfl l17_74))))))
                  have l18_78 := lookE hA78 18 (es rfl (es rfl (es rfl (es rfl (es rfl (es rfl l18_74))))))
                  clear hA78 hsz74 hdf74 l0_74 l1_74 l2_74 l12_74 l14_74 l15_74 l16_74 l17_74 l18_74 l91_74
                  refine inb_n ?_
                  refine then_n (hK69 _ _ ?_)
                  clear hK69
                  -- region 15
                  refine region_in ?_
                  refine W_v rfl rfl (V_mov rfl l18_78) ?_
                  refine W_v rfl rfl (V_add rfl (et rfl) rfl (by omega) (by omega)) ?_
                  refine W_v rfl rfl (V_asg rfl (et rfl)) ?_
                  refine W_end ?_
                  refine gen_Q (fun A79 hA79 => ?_)
                  have hsz79 : SzN A79 158 := by rw [hA79]; infer_instance
                  have hdf79 : A79.defers = [] := by rw [hA79]; simp only [df_put]; exact hdf78
                  have l0_79 := lookE hA79 0 (es rfl (es rfl (es rfl l0_78)))
                  have l1_79 := lookE hA79 1 (es rfl (es rfl (es rfl l1_78)))
                  have l2_79 := lookE hA79 2 (es rfl (es rfl (es rfl l2_78)))
                  have l12_79 := lookE hA79 12 (es rfl (es rfl (es rfl l12_78)))
                  have l14_79 := lookE hA79 14 (es rfl (es rfl (es rfl l14_78)))
                  have l15_79 := lookE hA79 15 (es rfl (es rfl (es rfl l15_78)))
                  have l16_79 := lookE hA79 16 (es rfl (es rfl (es rfl l16_78)))
                  have l17_79 := lookE hA79 17 (es rfl (es rfl (es rfl l17_78)))
                  have l18_79 := lookE hA79 18 (et rfl)
                  clear hA79 hsz78 hdf78 l0_78 l1_78 l2_78 l12_78 l14_78 l15_78 l16_78 l17_78 l18_78
                  refine then_n ⟨ns.length - (k + 1), by simp only [hm64]; omega, hsz79, hdf79, (k + 1), rfl, (by omega), ((l18_79).trans (by first | rfl | (simp; done) | (congr 1; omega))), ((l0_79).trans l0_63.symm), ((l1_79).trans l1_63.symm), ((l2_79).trans l2_63.symm), ((l12_79).trans l12_63.symm), ((l14_79).trans l14_63.symm), ((l15_79).trans l15_63.symm), ((l16_79).trans l16_63.symm), ((l17_79).trans l17_63.symm), (by have q0 : c77 = bx g58 39 #[.int .i64 (y57.1), .int .i64 ((fwj ns (k + 1) y57.2))] := hc77.trans ((by rw [fwj_hit hm0 hy71 c75])); have q1 := hc49_64; have q2 := hc_64; subst q0 q1 q2; exact hS77)⟩
                · skip
                  refine wp_skip ?_
                  refine inb_n ?_
                  refine then_n (hK69 _ _ ?_)
                  clear hK69
                  -- region 15
                  refine region_in ?_
                  refine W_v rfl rfl (V_mov rfl l18_74) ?_
                  refine W_v rfl rfl (V_add rfl (et rfl) rfl (by omega) (by omega)) ?_
                  refine W_v rfl rfl (V_asg rfl (et rfl)) ?_
                  refine W_end ?_
                  refine gen_Q (fun A80 hA80 => ?_)
                  have hsz80 : SzN A80 158 := by rw [hA80]; infer_instance
                  have hdf80 : A80.defers = [] := by rw [hA80]; simp only [df_put]; exact hdf74
                  have l0_80 := lookE hA80 0 (es rfl (es rfl (es rfl l0_74)))
                  have l1_80 := lookE hA80 1 (es rfl (es rfl (es rfl l1_74)))
                  have l2_80 := lookE hA80 2 (es rfl (es rfl (es rfl l2_74)))
                  have l12_80 := lookE hA80 12 (es rfl (es rfl (es rfl l12_74)))
                  have l14_80 := lookE hA80 14 (es rfl (es rfl (es rfl l14_74)))
                  have l15_80 := lookE hA80 15 (es rfl (es rfl (es rfl l15_74)))
                  have l16_80 := lookE hA80 16 (es rfl (es rfl (es rfl l16_74)))
                  have l17_80 := lookE hA80 17 (es rfl (es rfl (es rfl l17_74)))
                  have l18_80 := lookE hA80 18 (et rfl)
                  clear hA80 hsz74 hdf74 l0_74 l1_74 l2_74 l12_74 l14_74 l15_74 l16_74 l17_74 l18_74 l91_74
                  refine then_n ⟨ns.length - (k + 1), by simp only [hm64]; omega, hsz80, hdf80, (k + 1), rfl, (by omega), ((l18_80).trans (by first | rfl | (simp; done) | (congr 1; omega))), ((l0_80).trans l0_63.symm), ((l1_80).trans l1_63.symm), ((l2_80).trans l2_63.symm), ((l12_80).trans l12_63.symm), ((l14_80).trans l14_63.symm), ((l15_80).trans l15_63.symm), ((l16_80).trans l16_63.symm), ((l17_80).trans l17_63.symm), (by have q0 : c59_64 = bx g58 39 #[.int .i64 (y57.1), .int .i64 ((fwj ns (k + 1) y57.2))] := hc59_64.trans ((by rw [fwj_miss hy71 c75])); have q1 := hc49_64; have q2 := hc_64; subst q0 q1 q2; exact hS73)⟩
              · skip
                refine wp_exit ?_
                refine then_exit ?_
                refine then_exit ?_
                refine inb_hit ?_
                refine then_n (hK61 _ _ ?_)
                clear hK61
                -- region 18
                refine region_in ?_
                refine W_v rfl rfl (V_mov rfl l15_67) ?_
                refine W_r rfl rfl (VR_ldA rfl (es rfl l17_67) (hS64.obj 0 rfl hc59_64) Try.underlying39 rfl (by kernel_rfl)) ?_
                have hll81 : [(y57.1, (fwj ns k y57.2))].length = 1 := rfl
                refine W_litS (vs := [.agg #[.int .i64 (y57.1), .int .i64 ((fwj ns k y57.2))]]) (xs := ([(y57.1, (fwj ns k y57.2))].flatMap mvC)) 2 hS64 rfl rfl rfl (parts1 (et rfl)) rfl Try.underlying33 (by kernel_rfl) (by decide) (by intro v hv; simp only [List.mem_cons, List.not_mem_nil, or_false] at hv; rcases hv with rfl <;> rfl) (by rfl) (fun g81 w81 c81 hc81 hS81 => ?_)
                replace hc81 : c81 = ro 2 mvC (.slice (some ⟨g81, 0, none⟩) 1 1) [(y57.1, (fwj ns k y57.2))] := hc81
                replace hS81 : St w NoX [c81, c59_64, c49_64, c_64] w81 := hS81
                refine W_appS 2 2 hS81 rfl hc49_64 rfl rfl rfl (es rfl (es rfl (et rfl))) (et rfl) Try.underlying33 Try.underlying33 (z := .agg #[.int .i64 0, .int .i64 0]) (bytes := 16) (by kernel_rfl) rfl (by decide) (ow_at (hS81.chq 0 rfl hc81)) (ones_r mvC_one) (by simp; omega) (by simp; omega) (fun v82 w82 c82 hc82 hS82 => ?_)
                replace hc82 : c82 = ro 2 mvC v82 (((ms.take i).map (led ns)) ++ [(y57.1, (fwj ns k y57.2))]) := hc82.trans (app_eqR (by simp))
                replace hS82 : St w NoX [c81, c59_64, c82, c_64] w82 := hS82
                refine W_v rfl rfl (V_asg rfl (et rfl)) ?_
                refine W_end ?_
                refine gen_Q (fun A83 hA83 => ?_)
                have hsz83 : SzN A83 158 := by rw [hA83]; infer_instance
                have hdf83 : A83.defers = [] := by rw [hA83]; simp only [df_put]; exact hdf67
                have l0_83 := lookE hA83 0 (es rfl (es rfl (es rfl (es rfl (es rfl l0_67)))))
                have l1_83 := lookE hA83 1 (es rfl (es rfl (es rfl (es rfl (es rfl l1_67)))))
                have l2_83 := lookE hA83 2 (es rfl (es rfl (es rfl (es rfl (es rfl l2_67)))))
                have l12_83 := lookE hA83 12 (es rfl (es rfl (es rfl (es rfl (es rfl l12_67)))))
                have l14_83 := lookE hA83 14 (es rfl (es rfl (es rfl (es rfl (es rfl l14_67)))))
                have l15_83 := lookE hA83 15 (et rfl)
                have l16_83 := lookE hA83 16 (es rfl (es rfl (es rfl (es rfl (es rfl l16_67)))))
                clear hA83 hsz67 hdf67 l0_67 l1_67 l2_67 l12_67 l14_67 l15_67 l16_67 l17_67 l18_67 l78_67
                have hS84 : St w NoX [c82, c_64] w82 := hS82.sel [2, 3] (by decide) rfl
                refine inb_n ?_
                refine then_n (hK55 _ _ ?_)
                clear hK55
                -- region 11
                refine region_in ?_
                refine W_v rfl rfl (V_mov rfl l16_83) ?_
                refine W_v rfl rfl (V_add rfl (et rfl) rfl (by omega) (by omega)) ?_
                refine W_v rfl rfl (V_asg rfl (et rfl)) ?_
                refine W_end ?_
                refine gen_Q (fun A85 hA85 => ?_)
                have hsz85 : SzN A85 158 := by rw [hA85]; infer_instance
                have hdf85 : A85.defers = [] := by rw [hA85]; simp only [df_put]; exact hdf83
                have l0_85 := lookE hA85 0 (es rfl (es rfl (es rfl l0_83)))
                have l1_85 := lookE hA85 1 (es rfl (es rfl (es rfl l1_83)))
                have l2_85 := lookE hA85 2 (es rfl (es rfl (es rfl l2_83)))
                have l12_85 := lookE hA85 12 (es rfl (es rfl (es rfl l12_83)))
                have l14_85 := lookE hA85 14 (es rfl (es rfl (es rfl l14_83)))
                have l15_85 := lookE hA85 15 (es rfl (es rfl (es rfl l15_83)))
                have l16_85 := lookE hA85 16 (et rfl)
                clear hA85 hsz83 hdf83 l0_83 l1_83 l2_83 l12_83 l14_83 l15_83 l16_83
                refine then_n ⟨ms.length - (i + 1), by simp only [hm50]; omega, hsz85, hdf85, (i + 1), v82, rfl, (by omega), ((l16_85).trans (by first | rfl | (simp; done) | (congr 1; omega))), ((l15_85).trans (by first | rfl | (simp; done) | (congr 1; omega))), ((l0_85).trans l0_48.symm), ((l1_85).trans l1_48.symm), ((l2_85).trans l2_48.symm), ((l12_85).trans l12_48.symm), ((l14_85).trans l14_48.symm), (by have q0 : c82 = ro 2 mvC v82 ((ms.take (i + 1)).map (led ns)) := hc82.trans ((congrArg (ro 2 mvC _) (led_snoc hy57 (k := k) (by omega)))); have q1 := hc_64; subst q0 q1; exact hS84)⟩
            · skip
              refine wp_exit ?_
              refine then_exit ?_
              refine then_exit ?_
              refine inb_hit ?_
              refine then_n (hK46 _ _ ?_)
              clear hK46
              refine wp_seq_k (fun K86 hK86 => ?_)
              refine wp_seq_k (fun K87 hK87 => ?_)
              -- region 19
              refine region_in ?_
              refine W_v rfl rfl (V_asg rfl rfl) ?_
              refine W_end ?_
              refine gen_Q (fun A88 hA88 => ?_)
              have hsz88 : SzN A88 158 := by rw [hA88]; infer_instance
              have hdf88 : A88.defers = [] := by rw [hA88]; simp only [df_put]; exact hdf53
              have l0_88 := lookE hA88 0 (es rfl l0_53)
              have l1_88 := lookE hA88 1 (es rfl l1_53)
              have l2_88 := lookE hA88 2 (es rfl l2_53)
              have l12_88 := lookE hA88 12 (es rfl l12_53)
              have l14_88 := lookE hA88 14 (es rfl l14_53)
              have l15_88 := lookE hA88 15 (es rfl l15_53)
              have l19_88 := lookE hA88 19 (et rfl)
              clear hA88 hsz53 hdf53 l0_53 l1_53 l2_53 l12_53 l14_53 l15_53 l16_53 l68_53
              refine then_n (hK87 _ _ ?_)
              clear hK87
              refine wp_block ?_
              -- loop 20
              have hbl := bothK_len ms ns
              refine loopX (fun mz A' w' => SzN A' 158 ∧ A'.defers = [] ∧ (∃ (k2 : Nat) (bv2 : Value), (mz = ns.length - k2) ∧ (k2 ≤ ns.length) ∧ (EV A' (.tmp 19) = .int .i64 (k2 : Int)) ∧ (EV A' (.tmp 15) = bv2) ∧ (EV A' (.tmp 0) = EV A88 (.tmp 0)) ∧ (EV A' (.tmp 1) = EV A88 (.tmp 1)) ∧ (EV A' (.tmp 2) = EV A88 (.tmp 2)) ∧ (EV A' (.tmp 12) = EV A88 (.tmp 12)) ∧ (EV A' (.tmp 14) = EV A88 (.tmp 14)) ∧ (St w NoX [ro 2 mvC bv2 (bothK ms ns k2), io .i64 v_41 (fwT (fwT l ms) ns)] w'))) (ns.length - 0) ⟨hsz88, hdf88, 0, bv, rfl, (by omega), ((l19_88).trans (by first | rfl | (simp; done) | (congr 1; omega))), ((l15_88).trans (by first | rfl | (simp; done) | (congr 1; omega))), rfl, rfl, rfl, rfl, rfl, (by have q0 : c49_50 = ro 2 mvC bv (bothK ms ns 0) := hc49_50.trans ((congrArg (ro 2 mvC _) (bothK_zero _ _ (by omega)))); have q1 := hc_50; subst q0 q1; exact hS50)⟩ ?_
              clear hS50 hc49_50 hc_50
              rintro n89 A89 w89 ⟨hsz89, hdf89, k2, bv2, hm89, hk2, l19_89, l15_89, u0_89, u1_89, u2_89, u12_89, u14_89, hS89⟩
              have l0_89 := u0_89.trans l0_88
              have l1_89 := u1_89.trans l1_88
              have l2_89 := u2_89.trans l2_88
              have l12_89 := u12_89.trans l12_88
              have l14_89 := u14_89.trans l14_88
              obtain ⟨c49_89, c_89, hc49_89, hc_89, hS89⟩ := gen2 hS89
              refine wp_seq_k (fun K90 hK90 => ?_)
              refine wp_seq_k (fun K91 hK91 => ?_)
              -- region 20
              refine region_in ?_
              refine W_v rfl rfl (V_mov rfl l19_89) ?_
              refine W_v rfl rfl (V_mov rfl (es rfl l2_89)) ?_
              refine W_v rfl rfl (V_lenS rfl (et rfl) (sl_SlN h_nv.at) Try.underlying33) ?_
              refine W_v rfl rfl (V_lss rfl (es rfl (es rfl (et rfl))) (et rfl)) ?_
              refine W_end ?_
              refine gen_Q (fun A92 hA92 => ?_)
              have hsz92 : SzN A92 158 := by rw [hA92]; infer_instance
              have hdf92 : A92.defers = [] := by rw [hA92]; simp only [df_put]; exact hdf89
              have l0_92 := lookE hA92 0 (es rfl (es rfl (es rfl (es rfl l0_89))))
              have l1_92 := lookE hA92 1 (es rfl (es rfl (es rfl (es rfl l1_89))))
              have l2_92 := lookE hA92 2 (es rfl (es rfl (es rfl (es rfl l2_89))))
              have l12_92 := lookE hA92 12 (es rfl (es rfl (es rfl (es rfl l12_89))))
              have l14_92 := lookE hA92 14 (es rfl (es rfl (es rfl (es rfl l14_89))))
              have l15_92 := lookE hA92 15 (es rfl (es rfl (es rfl (es rfl l15_89))))
              have l19_92 := lookE hA92 19 (es rfl (es rfl (es rfl (es rfl l19_89))))
              have l105_92 := lookE hA92 105 (et rfl)
              clear hA92 hsz89 hdf89 l19_89 l15_89 l0_89 l1_89 l2_89 l12_89 l14_89
              refine then_n (hK91 _ _ ?_)
              clear hK91
              refine cond_dec l105_92 (fun c93 => ?_) (fun c93 => ?_)
              · skip
                refine wp_skip ?_
                refine then_n (hK90 _ _ ?_)
                clear hK90
                refine wp_seq_k (fun K94 hK94 => ?_)
                refine wp_block ?_
                refine wp_seq_k (fun K95 hK95 => ?_)
                -- region 22
                refine region_in ?_
                refine W_v rfl rfl (V_asg rfl rfl) ?_
                refine W_end ?_
                refine gen_Q (fun A96 hA96 => ?_)
                have hsz96 : SzN A96 158 := by rw [hA96]; infer_instance
                have hdf96 : A96.defers = [] := by rw [hA96]; simp only [df_put]; exact hdf92
                have l0_96 := lookE hA96 0 (es rfl l0_92)
                have l1_96 := lookE hA96 1 (es rfl l1_92)
                have l2_96 := lookE hA96 2 (es rfl l2_92)
                have l12_96 := lookE hA96 12 (es rfl l12_92)
                have l14_96 := lookE hA96 14 (es rfl l14_92)
                have l15_96 := lookE hA96 15 (es rfl l15_92)
                have l19_96 := lookE hA96 19 (es rfl l19_92)
                have l20_96 := lookE hA96 20 (et rfl)
                clear hA96 hsz92 hdf92 l0_92 l1_92 l2_92 l12_92 l14_92 l15_92 l19_92 l105_92
                refine then_n (hK95 _ _ ?_)
                clear hK95
                refine wp_seq_k (fun K97 hK97 => ?_)
                refine wp_seq_k (fun K98 hK98 => ?_)
                -- region 23
                refine region_in ?_
                refine W_v rfl rfl (V_asg rfl rfl) ?_
                refine W_end ?_
                refine gen_Q (fun A99 hA99 => ?_)
                have hsz99 : SzN A99 158 := by rw [hA99]; infer_instance
                have hdf99 : A99.defers = [] := by rw [hA99]; simp only [df_put]; exact hdf96
                have l0_99 := lookE hA99 0 (es rfl l0_96)
                have l1_99 := lookE hA99 1 (es rfl l1_96)
                have l2_99 := lookE hA99 2 (es rfl l2_96)
                have l12_99 := lookE hA99 12 (es rfl l12_96)
                have l14_99 := lookE hA99 14 (es rfl l14_96)
                have l15_99 := lookE hA99 15 (es rfl l15_96)
                have l19_99 := lookE hA99 19 (es rfl l19_96)
                have l20_99 := lookE hA99 20 (es rfl l20_96)
                have l21_99 := lookE hA99 21 (et rfl)
                clear hA99 hsz96 hdf96 l0_96 l1_96 l2_96 l12_96 l14_96 l15_96 l19_96 l20_96
                refine then_n (hK98 _ _ ?_)
                clear hK98
                refine wp_block ?_
                have k100 : k2 < ns.length := by omega
                obtain ⟨y100, hy100⟩ := get_some (xs := ns) (k := k2) (by omega)
                -- loop 24
                refine loopX (fun mz A' w' => SzN A' 158 ∧ A'.defers = [] ∧ (∃ (i2 : Nat) (hb : Bool), (mz = ms.length - i2) ∧ (i2 ≤ ms.length) ∧ (hb = decide (y100.1 ∈ fsts (ms.take i2))) ∧ (EV A' (.tmp 21) = .int .i64 (i2 : Int)) ∧ (EV A' (.tmp 20) = .bool hb) ∧ (EV A' (.tmp 0) = EV A99 (.tmp 0)) ∧ (EV A' (.tmp 1) = EV A99 (.tmp 1)) ∧ (EV A' (.tmp 2) = EV A99 (.tmp 2)) ∧ (EV A' (.tmp 12) = EV A99 (.tmp 12)) ∧ (EV A' (.tmp 14) = EV A99 (.tmp 14)) ∧ (EV A' (.tmp 15) = EV A99 (.tmp 15)) ∧ (EV A' (.tmp 19) = EV A99 (.tmp 19)) ∧ (St w NoX [ro 2 mvC bv2 (bothK ms ns k2), io .i64 v_41 (fwT (fwT l ms) ns)] w'))) (ms.length - 0) ⟨hsz99, hdf99, 0, false, rfl, (by omega), (by simp [fsts]), ((l21_99).trans (by first | rfl | (simp; done) | (congr 1; omega))), ((l20_99).trans (by first | rfl | (simp; done) | (congr 1; omega))), rfl, rfl, rfl, rfl, rfl, rfl, rfl, (by subst hc49_89 hc_89; exact hS89)⟩ ?_
                clear hS89 hc49_89 hc_89
                rintro n101 A101 w101 ⟨hsz101, hdf101, i2, hb, hm101, hi2, hhb, l21_101, l20_101, u0_101, u1_101, u2_101, u12_101, u14_101, u15_101, u19_101, hS101⟩
                have l0_101 := u0_101.trans l0_99
                have l1_101 := u1_101.trans l1_99
                have l2_101 := u2_101.trans l2_99
                have l12_101 := u12_101.trans l12_99
                have l14_101 := u14_101.trans l14_99
                have l15_101 := u15_101.trans l15_99
                have l19_101 := u19_101.trans l19_99
                obtain ⟨c49_101, c_101, hc49_101, hc_101, hS101⟩ := gen2 hS101
                refine wp_seq_k (fun K102 hK102 => ?_)
                refine wp_seq_k (fun K103 hK103 => ?_)
                -- region 24
                refine region_in ?_
                refine W_v rfl rfl (V_mov rfl l21_101) ?_
                refine W_v rfl rfl (V_mov rfl (es rfl l1_101)) ?_
                refine W_v rfl rfl (V_lenS rfl (et rfl) (sl_SlN h_mv.at) Try.underlying33) ?_
                refine W_v rfl rfl (V_lss rfl (es rfl (es rfl (et rfl))) (et rfl)) ?_
                refine W_end ?_
                refine gen_Q (fun A104 hA104 => ?_)
                have hsz104 : SzN A104 158 := by rw [hA104]; infer_instance
                have hdf104 : A104.defers = [] := by rw [hA104]; simp only [df_put]; exact hdf101
                have l0_104 := lookE hA104 0 (es rfl (es rfl (es rfl (es rfl l0_101))))
                have l1_104 := lookE hA104 1 (es rfl (es rfl (es rfl (es rfl l1_101))))
                have l2_104 := lookE hA104 2 (es rfl (es rfl (es rfl (es rfl l2_101))))
                have l12_104 := lookE hA104 12 (es rfl (es rfl (es rfl (es rfl l12_101))))
                have l14_104 := lookE hA104 14 (es rfl (es rfl (es rfl (es rfl l14_101))))
                have l15_104 := lookE hA104 15 (es rfl (es rfl (es rfl (es rfl l15_101))))
                have l19_104 := lookE hA104 19 (es rfl (es rfl (es rfl (es rfl l19_101))))
                have l20_104 := lookE hA104 20 (es rfl (es rfl (es rfl (es rfl l20_101))))
                have l21_104 := lookE hA104 21 (es rfl (es rfl (es rfl (es rfl l21_101))))
                have l111_104 := lookE hA104 111 (et rfl)
                clear hA104 hsz101 hdf101 l21_101 l20_101 l0_101 l1_101 l2_101 l12_101 l14_101 l15_101 l19_101
                refine then_n (hK103 _ _ ?_)
                clear hK103
                refine cond_dec l111_104 (fun c105 => ?_) (fun c105 => ?_)
                · skip
                  refine wp_skip ?_
                  refine then_n (hK102 _ _ ?_)
                  clear hK102
                  refine wp_seq_k (fun K106 hK106 => ?_)
                  refine wp_block ?_
                  -- region 26
                  refine region_monoS 15 15 [] (by kernel_rfl) (by kernel_rfl) ?_
                  refine D_v rfl rfl (V_mov rfl l20_104) rfl rfl ?_
                  refine D_splitB rfl rfl (V_mov rfl (et rfl)) rfl rfl (fun c107 => ?_) (fun c107 => ?_)
                  · skip
                    refine D_off rfl (wanted_f rfl rfl (et rfl) (ez rfl) rfl) rfl ?_
                    refine D_off rfl (wanted_f rfl rfl (es rfl (et rfl)) (ez rfl) rfl) rfl ?_
                    refine D_off rfl (wanted_f rfl rfl (es rfl (es rfl (et rfl))) (ez rfl) rfl) rfl ?_
                    refine D_off rfl (wanted_f rfl rfl (es rfl (es rfl (es rfl (et rfl)))) (ez rfl) rfl) rfl ?_
                    refine D_off rfl (wanted_f rfl rfl (es rfl (es rfl (es rfl (es rfl (et rfl))))) (ez rfl) rfl) rfl ?_
                    refine D_off rfl (wanted_f rfl rfl (es rfl (es rfl (es rfl (es rfl (es rfl (et rfl)))))) (ez rfl) rfl) rfl ?_
                    refine D_off rfl (wanted_f rfl rfl (es rfl (es rfl (es rfl (es rfl (es rfl (es rfl (et rfl))))))) (ez rfl) rfl) rfl ?_
                    refine D_off rfl (wanted_f rfl rfl (es rfl (es rfl (es rfl (es rfl (es rfl (es rfl (es rfl (et rfl)))))))) (ez rfl) rfl) rfl ?_
                    refine D_off rfl (wanted_f rfl rfl (es rfl (es rfl (es rfl (es rfl (es rfl (es rfl (es rfl (es rfl (et rfl))))))))) (ez rfl) rfl) rfl ?_
                    refine D_off rfl (wanted_f rfl rfl (es rfl (es rfl (es rfl (es rfl (es rfl (es rfl (es rfl (es rfl (es rfl (et rfl)))))))))) (ez rfl) rfl) rfl ?_
                    refine D_off rfl (wanted_f rfl rfl (es rfl (es rfl (es rfl (es rfl (es rfl (es rfl (es rfl (es rfl (es rfl (es rfl (et rfl))))))))))) (ez rfl) rfl) rfl ?_
                    refine D_v rfl rfl (V_pickT rfl (es rfl (es rfl (es rfl (es rfl (es rfl (es rfl (es rfl (es rfl (es rfl (es rfl (es rfl (et rfl)))))))))))) rfl) rfl rfl ?_
                    refine D_v rfl rfl (V_asg rfl (et rfl)) rfl rfl ?_
                    refine ZS_none hS101 (Nat.le_refl _) (Nat.le_refl _) (fun s108 hJ108 hL108 hF108 => ?_)
                    have hS108 := hJ108.st; clear hF108 hJ108 hL108
                    generalize s108.1 = w108 at *
                    replace hS108 : St w NoX [c49_101, c_101] w108 := hS108
                    refine gen_Q (fun A109 hA109 => ?_)
                    have hsz109 : SzN A109 158 := by rw [hA109]; infer_instance
                    have hdf109 : A109.defers = [] := by rw [hA109]; simp only [df_put]; exact hdf104
                    have l0_109 := lookE hA109 0 (es rfl (es rfl (es rfl (es rfl (es rfl (es rfl (es rfl (es rfl (es rfl (es rfl (es rfl (es rfl (es rfl (es rfl (es rfl l0_104)))))))))))))))
                    have l1_109 := lookE hA109 1 (es rfl (es rfl (es rfl (es rfl (es rfl (es rfl (es rfl (es rfl (es rfl (es rfl (es rfl (es rfl (es rfl (es rfl (es rfl l1_104)))))))))))))))
                    have l2_109 := lookE hA109 2 (es rfl (es rfl (es rfl (es rfl (es rfl (es rfl (es rfl (es rfl (es rfl (es rfl (es rfl (es rfl (es rfl (es rfl (es rfl l2_104)))))))))))))))
                    have l12_109 := lookE hA109 12 (es rfl (es rfl (es rfl (es rfl (es rfl (es rfl (es rfl (es rfl (es rfl (es rfl (es rfl (es rfl (es rfl (es rfl (es rfl l12_104)))))))))))))))
                    have l14_109 := lookE hA109 14 (es rfl (es rfl (es rfl (es rfl (es rfl (es rfl (es rfl (es rfl (es rfl (es rfl (es rfl (es rfl (es rfl (es rfl (es rfl l14_104)))))))))))))))
                    have l15_109 := lookE hA109 15 (es rfl (es rfl (es rfl (es rfl (es rfl (es rfl (es rfl (es rfl (es rfl (es rfl (es rfl (es rfl (es rfl (es rfl (es rfl l15_104)))))))))))))))
                    have l19_109 := lookE hA109 19 (es rfl (es rfl (es rfl (es rfl (es rfl (es rfl (es rfl (es rfl (es rfl (es rfl (es rfl (es rfl (es rfl (es rfl (es rfl l19_104)))))))))))))))
                    have l20_109 := lookE hA109 20 (et rfl)
                    have l21_109 := lookE hA109 21 (es rfl (es rfl (es rfl (es rfl (es rfl (es rfl (es rfl (es rfl (es rfl (es rfl (es rfl (es rfl (es rfl (es rfl (es rfl l21_104)))))))))))))))
                    have l116_109 := lookE hA109 116 (es rfl (es rfl (es rfl (es rfl (es rfl (es rfl (es rfl (es rfl (es rfl (es rfl (es rfl (es rfl (et rfl)))))))))))))
                    have l117_109 := lookE hA109 117 (es rfl (es rfl (es rfl (es rfl (es rfl (es rfl (es rfl (es rfl (es rfl (es rfl (es rfl (et rfl))))))))))))
                    have l118_109 := lookE hA109 118 (es rfl (es rfl (es rfl (es rfl (es rfl (es rfl (es rfl (es rfl (es rfl (es rfl (et rfl)))))))))))
                    have l119_109 := lookE hA109 119 (es rfl (es rfl (es rfl (es rfl (es rfl (es rfl (es rfl (es rfl (es rfl (et rfl))))))))))
                    have l120_109 := lookE hA109 120 (es rfl (es rfl (es rfl (es rfl (es rfl (es rfl (es rfl (es rfl (et rfl)))))))))
                    have l121_109 := lookE hA109 121 (es rfl (es rfl (es rfl (es rfl (es rfl (es rfl (es rfl (et rfl))))))))
                    have l122_109 := lookE hA109 122 (es rfl (es rfl (es rfl (es rfl (es rfl (es rfl (et rfl)))))))
                    have l123_109 := lookE hA109 123 (es rfl (es rfl (es rfl (es rfl (es rfl (et rfl))))))
                    have l124_109 := lookE hA109 124 (es rfl (es rfl (es rfl (es rfl (et rfl)))))
                    have l125_109 := lookE hA109 125 (es rfl (es rfl (es rfl (et rfl))))
                    have l126_109 := lookE hA109 126 (es rfl (es rfl (et rfl)))
                    clear hA109 hsz104 hdf104 l0_104 l1_104 l2_104 l12_104 l14_104 l15_104 l19_104 l20_104 l21_104 l111_104
                    refine inb_n ?_
                    refine then_n (hK106 _ _ ?_)
                    clear hK106
                    -- region 25
                    refine region_in ?_
                    refine W_v rfl rfl (V_mov rfl l21_109) ?_
                    refine W_v rfl rfl (V_add rfl (et rfl) rfl (by omega) (by omega)) ?_
                    refine W_v rfl rfl (V_asg rfl (et rfl)) ?_
                    refine W_end ?_
                    refine gen_Q (fun A110 hA110 => ?_)
                    have hsz110 : SzN A110 158 := by rw [hA110]; infer_instance
                    have hdf110 : A110.defers = [] := by rw [hA110]; simp only [df_put]; exact hdf109
                    have l0_110 := lookE hA110 0 (es rfl (es rfl (es rfl l0_109)))
                    have l1_110 := lookE hA110 1 (es rfl (es rfl (es rfl l1_109)))
                    have l2_110 := lookE hA110 2 (es rfl (es rfl (es rfl l2_109)))
                    have l12_110 := lookE hA110 12 (es rfl (es rfl (es rfl l12_109)))
                    have l14_110 := lookE hA110 14 (es rfl (es rfl (es rfl l14_109)))
                    have l15_110 := lookE hA110 15 (es rfl (es rfl (es rfl l15_109)))
                    have l19_110 := lookE hA110 19 (es rfl (es rfl (es rfl l19_109)))
                    have l20_110 := lookE hA110 20 (es rfl (es rfl (es rfl l20_109)))
                    have l21_110 := lookE hA110 21 (et rfl)
                    have l116_110 := lookE hA110 116 (es rfl (es rfl (es rfl l116_109)))
                    have l117_110 := lookE hA110 117 (es rfl (es rfl (es rfl l117_109)))
                    have l118_110 := lookE hA110 118 (es rfl (es rfl (es rfl l118_109)))
                    have l119_110 := lookE hA110 119 (es rfl (es rfl (es rfl l119_109)))
                    have l120_110 := lookE hA110 120 (es rfl (es rfl (es rfl l120_109)))
                    have l121_110 := lookE hA110 121 (es rfl (es rfl (es rfl l121_109)))
                    have l122_110 := lookE hA110 122 (es rfl (es rfl (es rfl l122_109)))
                    have l123_110 := lookE hA110 123 (es rfl (es rfl (es rfl l123_109)))
                    have l124_110 := lookE hA110 124 (es rfl (es rfl (es rfl l124_109)))
                    have l125_110 := lookE hA110 125 (es rfl (es rfl (es rfl l125_109)))
                    have l126_110 := lookE hA110 126 (es rfl (es rfl (es rfl l126_109)))
                    clear hA110 hsz109 hdf109 l0_109 l1_109 l2_109 l12_109 l14_109 l15_109 l19_109 l20_109 l21_109 l116_109 l117_109 l118_109 l119_109 l120_109 l121_109 l122_109 l123_109 l124_109 l125_109 l126_109
                    refine then_n ⟨ms.length - (i2 + 1), by simp only [hm101]; omega, hsz110, hdf110, (i2 + 1), true, rfl, (by omega), (mem_t hhb c107), ((l21_110).trans (by first | rfl | (simp; done) | (congr 1; omega))), ((l20_110).trans (by first | rfl | (simp; done) | (congr 1; omega))), ((l0_110).trans l0_99.symm), ((l1_110).trans l1_99.symm), ((l2_110).trans l2_99.symm), ((l12_110).trans l12_99.symm), ((l14_110).trans l14_99.symm), ((l15_110).trans l15_99.symm), ((l19_110).trans l19_99.symm), (by subst hc49_101 hc_101; exact hS108)⟩
                  · skip
                    refine D_v rfl (wanted_t rfl rfl (et rfl) (ez rfl)) (V_mov rfl (es rfl (es rfl l1_104))) rfl rfl ?_
                    refine D_v rfl (wanted_t rfl rfl (es rfl (et rfl)) (ez rfl)) (V_mov rfl (es rfl (es rfl (es rfl l21_104)))) rfl rfl ?_
                    have k111 : i2 < ms.length := by first | omega | (simp only [List.length_cons, List.length_nil]; omega)
                    obtain ⟨y111, hy111⟩ := get_some (xs := ms) (k := i2) k111
                    obtain ⟨B111, O111, C111, hv111⟩ := (SlN.blk (sl_SlN h_mv.at) (by first | omega | (simp only [List.length_cons, List.length_nil]; omega)))
                    refine D_v rfl (wanted_t rfl rfl (es rfl (es rfl (et rfl))) (ez rfl)) (V_ixS (off := O111 + i2 * 2) 2 (i2) rfl (es rfl (et rfl)) (et rfl) hv111 (by omega) k111 Try.underlying33 (by kernel_rfl) rfl) rfl rfl ?_
                    refine D_v rfl (wanted_t rfl rfl (es rfl (es rfl (es rfl (et rfl)))) (ez rfl)) (V_fa (off' := O111 + i2 * 2 + 0) rfl (et rfl) Try.underlying39 rfl (by decide) rfl) rfl rfl ?_
                    refine D_r rfl (wanted_t rfl rfl (es rfl (es rfl (es rfl (es rfl (et rfl))))) (ez rfl)) (by kernel_rfl) (fun sx hx hF => (VR_ldC (v := .int .i64 (y111.1)) rfl (et rfl) (SlN.row mvC_len (sl_SlN ((hS101.grow hx).ro h_mv)) hv111 hy111 rfl 0 _ rfl) Try.underlying3 rfl)) rfl rfl ?_
                    refine D_v rfl (wanted_t rfl rfl (es rfl (es rfl (es rfl (es rfl (es rfl (et rfl)))))) (ez rfl)) (V_mov rfl (es rfl (es rfl (es rfl (es rfl (es rfl (es rfl (es rfl l2_104)))))))) rfl rfl ?_
                    refine D_v rfl (wanted_t rfl rfl (es rfl (es rfl (es rfl (es rfl (es rfl (es rfl (et rfl))))))) (ez rfl)) (V_mov rfl (es rfl (es rfl (es rfl (es rfl (es rfl (es rfl (es rfl (es rfl l19_104))))))))) rfl rfl ?_
                    obtain ⟨B112, O112, C112, hv112⟩ := (SlN.blk (sl_SlN h_nv.at) (by first | omega | (simp only [List.length_cons, List.length_nil]; omega)))
                    refine D_v rfl (wanted_t rfl rfl (es rfl (es rfl (es rfl (es rfl (es rfl (es rfl (es rfl (et rfl)))))))) (ez rfl)) (V_ixS (off := O112 + k2 * 2) 2 (k2) rfl (es rfl (et rfl)) (et rfl) hv112 (by omega) k100 Try.underlying33 (by kernel_rfl) rfl) rfl rfl ?_
                    refine D_v rfl (wanted_t rfl rfl (es rfl (es rfl (es rfl (es rfl (es rfl (es rfl (es rfl (es rfl (et rfl))))))))) (ez rfl)) (V_fa (off' := O112 + k2 * 2 + 0) rfl (et rfl) Try.underlying39 rfl (by decide) rfl) rfl rfl ?_
                    refine D_r rfl (wanted_t rfl rfl (es rfl (es rfl (es rfl (es rfl (es rfl (es rfl (es rfl (es rfl (es rfl (et rfl)))))))))) (ez rfl)) (by kernel_rfl) (fun sx hx hF => (VR_ldC (v := .int .i64 (y100.1)) rfl (et rfl) (SlN.row mvC_len (sl_SlN ((hS101.grow hx).ro h_nv)) hv112 hy100 rfl 0 _ rfl) Try.underlying3 rfl)) rfl rfl ?_
                    refine D_v rfl (wanted_t rfl rfl (es rfl (es rfl (es rfl (es rfl (es rfl (es rfl (es rfl (es rfl (es rfl (es rfl (et rfl))))))))))) (ez rfl)) (V_eql rfl (es rfl (es rfl (es rfl (es rfl (es rfl (et rfl)))))) (et rfl)) rfl rfl ?_
                    refine D_v rfl rfl (V_pickF rfl (es rfl (es rfl (es rfl (es rfl (es rfl (es rfl (es rfl (es rfl (es rfl (es rfl (es rfl (et rfl)))))))))))) (et rfl)) rfl rfl ?_
                    refine D_v rfl rfl (V_asg rfl (et rfl)) rfl rfl ?_
                    refine ZS_none hS101 (Nat.le_refl _) (Nat.le_refl _) (fun s113 hJ113 hL113 hF113 => ?_)
                    have hS113 := hJ113.st; clear hF113 hJ113 hL113
                    generalize s113.1 = w113 at *
                    replace hS113 : St w NoX [c49_101, c_101] w113 := hS113
                    refine gen_Q (fun A114 hA114 => ?_)
                    have hsz114 : SzN A114 158 := by rw [hA114]; infer_instance
                    have hdf114 : A114.defers = [] := by rw [hA114]; simp only [df_put]; exact hdf104
                    have l0_114 := lookE hA114 0 (es rfl (es rfl (es rfl (es rfl (es rfl (es rfl (es rfl (es rfl (es rfl (es rfl (es rfl (es rfl (es rfl (es rfl (es rfl l0_104)))))))))))))))
                    have l1_114 := lookE hA114 1 (es rfl (es rfl (es rfl (es rfl (es rfl (es rfl (es rfl (es rfl (es rfl (es rfl (es rfl (es rfl (es rfl (es rfl (es rfl l1_104)))))))))))))))
                    have l2_114 := lookE hA114 2 (es rfl (es rfl (es rfl (es rfl (es rfl (es rfl (es rfl (es rfl (es rfl (es rfl (es rfl (es rfl (es rfl (es rfl (es rfl l2_104)))))))))))))))
                    have l12_114 := lookE hA114 12 (es rfl (es rfl (es rfl (es rfl (es rfl (es rfl (es rfl (es rfl (es rfl (es rfl (es rfl (es rfl (es rfl (es rfl (es rfl l12_104)))))))))))))))
                    have l14_114 := lookE hA114 14 (es rfl (es rfl (es rfl (es rfl (es rfl (es rfl (es rfl (es rfl (es rfl (es rfl (es rfl (es rfl (es rfl (es rfl (es rfl l14_104)))))))))))))))
                    have l15_114 := lookE hA114 15 (es rfl (es rfl (es rfl (es rfl (es rfl (es rfl (es rfl (es rfl (es rfl (es rfl (es rfl (es rfl (es rfl (es rfl (es rfl l15_104)))))))))))))))
                    have l19_114 := lookE hA114 19 (es rfl (es rfl (es rfl (es rfl (es rfl (es rfl (es rfl (es rfl (es rfl (es rfl (es rfl (es rfl (es rfl (es rfl (es rfl l19_104)))))))))))))))
                    have l20_114 := lookE hA114 20 (et rfl)
                    have l21_114 := lookE hA114 21 (es rfl (es rfl (es rfl (es rfl (es rfl (es rfl (es rfl (es rfl (es rfl (es rfl (es rfl (es rfl (es rfl (es rfl (es rfl l21_104)))))))))))))))
                    have l116_114 := lookE hA114 116 (es rfl (es rfl (es rfl (es rfl (es rfl (es rfl (es rfl (es rfl (es rfl (es rfl (es rfl (es rfl (et rfl)))))))))))))
                    have l117_114 := lookE hA114 117 (es rfl (es rfl (es rfl (es rfl (es rfl (es rfl (es rfl (es rfl (es rfl (es rfl (es rfl (et rfl))))))))))))
                    have l118_114 := lookE hA114 118 (es rfl (es rfl (es rfl (es rfl (es rfl (es rfl (es rfl (es rfl (es rfl (es rfl (et rfl)))))))))))
                    have l119_114 := lookE hA114 119 (es rfl (es rfl (es rfl (es rfl (es rfl (es rfl (es rfl (es rfl (es rfl (et rfl))))))))))
                    have l120_114 := lookE hA114 120 (es rfl (es rfl (es rfl (es rfl (es rfl (es rfl (es rfl (es rfl (et rfl)))))))))
                    have l121_114 := lookE hA114 121 (es rfl (es rfl (es rfl (es rfl (es rfl (es rfl (es rfl (et rfl))))))))
                    have l122_114 := lookE hA114 122 (es rfl (es rfl (es rfl (es rfl (es rfl (es rfl (et rfl)))))))
                    have l123_114 := lookE hA114 123 (es rfl (es rfl (es rfl (es rfl (es rfl (et rfl))))))
                    have l124_114 := lookE hA114 124 (es rfl (es rfl (es rfl (es rfl (et rfl)))))
                    have l125_114 := lookE hA114 125 (es rfl (es rfl (es rfl (et rfl))))
                    have l126_114 := lookE hA114 126 (es rfl (es rfl (et rfl)))
                    clear hA114 hsz104 hdf104 l0_104 l1_104 l2_104 l12_104 l14_104 l15_104 l19_104 l20_104 l21_104 l111_104
                    refine inb_n ?_
                    refine then_n (hK106 _ _ ?_)
                    clear hK106
                    -- region 25
                    refine region_in ?_
                    refine W_v rfl rfl (V_mov rfl l21_114) ?_
                    refine W_v rfl rfl (V_add rfl (et rfl) rfl (by omega) (by omega)) ?_
                    refine W_v rfl rfl (V_asg rfl (et rfl)) ?_
                    refine W_end ?_
                    refine gen_Q (fun A115 hA115 => ?_)
                    have hsz115 : SzN A115 158 := by rw [hA115]; infer_instance
                    have hdf115 : A115.defers = [] := by rw [hA115]; simp only [df_put]; exact hdf114
                    have l0_115 := lookE hA115 0 (es rfl (es rfl (es rfl l0_114)))
                    have l1_115 := lookE hA115 1 (es rfl (es rfl (es rfl l1_114)))
                    have l2_115 := lookE hA115 2 (es rfl (es rfl (es rfl l2_114)))
                    have l12_115 := lookE hA115 12 (es rfl (es rfl (es rfl l12_114)))
                    have l14_115 := lookE hA115 14 (es rfl (es rfl (es rfl l14_114)))
                    have l15_115 := lookE hA115 15 (es rfl (es rfl (es rfl l15_114)))
                    have l19_115 := lookE hA115 19 (es rfl (es rfl (es rfl l19_114)))
                    have l20_115 := lookE hA115 20 (es rfl (es rfl (es rfl l20_114)))
                    have l21_115 := lookE hA115 21 (et rfl)
                    have l116_115 := lookE hA115 116 (es rfl (es rfl (es rfl l116_114)))
                    have l117_115 := lookE hA115 117 (es rfl (es rfl (es rfl l117_114)))
                    have l118_115 := lookE hA115 118 (es rfl (es rfl (es rfl l118_114)))
                    have l119_115 := lookE hA115 119 (es rfl (es rfl (es rfl l119_114)))
                    have l120_115 := lookE hA115 120 (es rfl (es rfl (es rfl l120_114)))
                    have l121_115 := lookE hA115 121 (es rfl (es rfl (es rfl l121_114)))
                    have l122_115 := lookE hA115 122 (es rfl (es rfl (es rfl l122_114)))
                    have l123_115 := lookE hA115 123 (es rfl (es rfl (es rfl l123_114)))
                    have l124_115 := lookE hA115 124 (es rfl (es rfl (es rfl l124_114)))
                    have l125_115 := lookE hA115 125 (es rfl (es rfl (es rfl l125_114)))
                    have l126_115 := lookE hA115 126 (es rfl (es rfl (es rfl l126_114)))
                    clear hA115 hsz114 hdf114 l0_114 l1_114 l2_114 l12_114 l14_114 l15_114 l19_114 l20_114 l21_114 l116_114 l117_114 l118_114 l119_114 l120_114 l121_114 l122_114 l123_114 l124_114 l125_114 l126_114
                    refine then_n ⟨ms.length - (i2 + 1), by simp only [hm101]; omega, hsz115, hdf115, (i2 + 1), (decide (y111.1 = y100.1)), rfl, (by omega), (mem_f hhb c107 hy111), ((l21_115).trans (by first | rfl | (simp; done) | (congr 1; omega))), ((l20_115).trans (by first | rfl | (simp; done) | (congr 1; omega))), ((l0_115).trans l0_99.symm), ((l1_115).trans l1_99.symm), ((l2_115).trans l2_99.symm), ((l12_115).trans l12_99.symm), ((l14_115).trans l14_99.symm), ((l15_115).trans l15_99.symm), ((l19_115).trans l19_99.symm), (by subst hc49_101 hc_101; exact hS113)⟩
                · skip
                  refine wp_exit ?_
                  refine then_exit ?_
                  refine then_exit ?_
                  refine inb_hit ?_
                  refine then_n (hK97 _ _ ?_)
                  clear hK97
                  refine wp_seq_k (fun K116 hK116 => ?_)
                  -- region 27
                  refine region_in ?_
                  refine W_v rfl rfl (V_mov rfl l20_104) ?_
                  refine W_v rfl rfl (V_not rfl (et rfl)) ?_
                  refine W_end ?_
                  refine gen_Q (fun A117 hA117 => ?_)
                  have hsz117 : SzN A117 158 := by rw [hA117]; infer_instance
                  have hdf117 : A117.defers = [] := by rw [hA117]; simp only [df_put]; exact hdf104
                  have l0_117 := lookE hA117 0 (es rfl (es rfl l0_104))
                  have l1_117 := lookE hA117 1 (es rfl (es rfl l1_104))
                  have l2_117 := lookE hA117 2 (es rfl (es rfl l2_104))
                  have l12_117 := lookE hA117 12 (es rfl (es rfl l12_104))
                  have l14_117 := lookE hA117 14 (es rfl (es rfl l14_104))
                  have l15_117 := lookE hA117 15 (es rfl (es rfl l15_104))
                  have l19_117 := lookE hA117 19 (es rfl (es rfl l19_104))
                  have l129_117 := lookE hA117 129 (et rfl)
                  clear hA117 hsz104 hdf104 l0_104 l1_104 l2_104 l12_104 l14_104 l15_104 l19_104 l20_104 l21_104 l111_104
                  refine then_n (hK116 _ _ ?_)
                  clear hK116
                  refine cond_b l129_117 (fun c118 => ?_) (fun c118 => ?_)
                  · skip
                    -- region 28
                    refine region_in ?_
                    refine W_v rfl rfl (V_mov rfl l15_117) ?_
                    refine W_v rfl rfl (V_mov rfl (es rfl l2_117)) ?_
                    refine W_v rfl rfl (V_mov rfl (es rfl (es rfl l19_117))) ?_
                    obtain ⟨B119, O119, C119, hv119⟩ := (SlN.blk (sl_SlN h_nv.at) (by first | omega | (simp only [List.length_cons, List.length_nil]; omega)))
                    refine W_v rfl rfl (V_ixS (off := O119 + k2 * 2) 2 (k2) rfl (es rfl (et rfl)) (et rfl) hv119 (by omega) k100 Try.underlying33 (by kernel_rfl) rfl) ?_
                    refine W_r rfl rfl (VR_ldR (ys := mvC y100) rfl (et rfl) (SlN.row mvC_len (sl_SlN (hS101.ro h_nv)) hv119 hy100 rfl) Try.underlying39 rfl (by kernel_rfl)) ?_
                    have hll120 : [(y100.1, y100.2)].length = 1 := rfl
                    refine W_litS (vs := [.agg #[.int .i64 (y100.1), .int .i64 (y100.2)]]) (xs := ([(y100.1, y100.2)].flatMap mvC)) 2 hS101 rfl rfl rfl (parts1 (et rfl)) rfl Try.underlying33 (by kernel_rfl) (by decide) (by intro v hv; simp only [List.mem_cons, List.not_mem_nil, or_false] at hv; rcases hv with rfl <;> rfl) (by rfl) (fun g120 w120 c120 hc120 hS120 => ?_)
                    replace hc120 : c120 = ro 2 mvC (.slice (some ⟨g120, 0, none⟩) 1 1) [(y100.1, y100.2)] := hc120
                    replace hS120 : St w NoX [c120, c49_101, c_101] w120 := hS120
                    refine W_appS 2 1 hS120 rfl hc49_101 rfl rfl rfl (es rfl (es rfl (es rfl (es rfl (es rfl (et rfl)))))) (et rfl) Try.underlying33 Try.underlying33 (z := .agg #[.int .i64 0, .int .i64 0]) (bytes := 16) (by kernel_rfl) rfl (by decide) (ow_at (hS120.chq 0 rfl hc120)) (ones_r mvC_one) (by have := bothK_len ms ns k2; simp; omega) (by have := bothK_len ms ns k2; simp; omega) (fun v121 w121 c121 hc121 hS121 => ?_)
                    replace hc121 : c121 = ro 2 mvC v121 ((bothK ms ns k2) ++ [(y100.1, y100.2)]) := hc121.trans (app_eqR (by simp))
                    replace hS121 : St w NoX [c120, c121, c_101] w121 := hS121
                    refine W_v rfl rfl (V_asg rfl (et rfl)) ?_
                    refine W_end ?_
                    refine gen_Q (fun A122 hA122 => ?_)
                    have hsz122 : SzN A122 158 := by rw [hA122]; infer_instance
                    have hdf122 : A122.defers = [] := by rw [hA122]; simp only [df_put]; exact hdf117
                    have l0_122 := lookE hA122 0 (es rfl (es rfl (es rfl (es rfl (es rfl (es rfl (es rfl (es rfl l0_117))))))))
                    have l1_122 := lookE hA122 1 (es rfl (es rfl (es rfl (es rfl (es rfl (es rfl (es rfl (es rfl l1_117))))))))
                    have l2_122 := lookE hA122 2 (es rfl (es rfl (es rfl (es rfl (es rfl (es rfl (es rfl (es rfl l2_117))))))))
                    have l12_122 := lookE hA122 12 (es rfl (es rfl (es rfl (es rfl (es rfl (es rfl (es rfl (es rfl l12_117))))))))
                    have l14_122 := lookE hA122 14 (es rfl (es rfl (es rfl (es rfl (es rfl (es rfl (es rfl (es rfl l14_117))))))))
                    have l15_122 := lookE hA122 15 (et rfl)
                    have l19_122 := lookE hA122 19 (es rfl (es rfl (es rfl (es rfl (es rfl (es rfl (es rfl (es rfl l19_117))))))))
                    clear hA122 hsz117 hdf117 l0_117 l1_117 l2_117 l12_117 l14_117 l15_117 l19_117 l129_117
                    have hS123 : St w NoX [c121, c_101] w121 := hS121.sel [1, 2] (by decide) rfl
                    refine inb_n ?_
                    refine then_n (hK94 _ _ ?_)
                    clear hK94
                    -- region 21
                    refine region_in ?_
                    refine W_v rfl rfl (V_mov rfl l19_122) ?_
                    refine W_v rfl rfl (V_add rfl (et rfl) rfl (by omega) (by omega)) ?_
                    refine W_v rfl rfl (V_asg rfl (et rfl)) ?_
                    refine W_end ?_
                    refine gen_Q (fun A124 hA124 => ?_)
                    have hsz124 : SzN A124 158 := by rw [hA124]; infer_instance
                    have hdf124 : A124.defers = [] := by rw [hA124]; simp only [df_put]; exact hdf122
                    have l0_124 := lookE hA124 0 (es rfl (es rfl (es rfl l0_122)))
                    have l1_124 := lookE hA124 1 (es rfl (es rfl (es rfl l1_122)))
                    have l2_124 := lookE hA124 2 (es rfl (es rfl (es rfl l2_122)))
                    have l12_124 := lookE hA124 12 (es rfl (es rfl (es rfl l12_122)))
                    have l14_124 := lookE hA124 14 (es rfl (es rfl (es rfl l14_122)))
                    have l15_124 := lookE hA124 15 (es rfl (es rfl (es rfl l15_122)))
                    have l19_124 := lookE hA124 19 (et rfl)
                    clear hA124 hsz122 hdf122 l0_122 l1_122 l2_122 l12_122 l14_122 l15_122 l19_122
                    refine then_n ⟨ns.length - (k2 + 1), by simp only [hm89]; omega, hsz124, hdf124, (k2 + 1), v121, rfl, (by omega), ((l19_124).trans (by first | rfl | (simp; done) | (congr 1; omega))), ((l15_124).trans (by first | rfl | (simp; done) | (congr 1; omega))), ((l0_124).trans l0_88.symm), ((l1_124).trans l1_88.symm), ((l2_124).trans l2_88.symm), ((l12_124).trans l12_88.symm), ((l14_124).trans l14_88.symm), (by have q0 : c121 = ro 2 mvC v121 (bothK ms ns (k2 + 1)) := hc121.trans ((congrArg (ro 2 mvC _) (bothK_in hy100 hhb (by omega) (by simpa using c118)))); have q1 := hc_101; subst q0 q1; exact hS123)⟩
                  · skip
                    refine wp_skip ?_
                    refine inb_n ?_
                    refine then_n (hK94 _ _ ?_)
                    clear hK94
                    -- region 21
                    refine region_in ?_
                    refine W_v rfl rfl (V_mov rfl l19_117) ?_
                    refine W_v rfl rfl (V_add rfl (et rfl) rfl (by omega) (by omega)) ?_
                    refine W_v rfl rfl (V_asg rfl (et rfl)) ?_
                    refine W_end ?_
                    refine gen_Q (fun A125 hA125 => ?_)
                    have hsz125 : SzN A125 158 := by rw [hA125]; infer_instance
                    have hdf125 : A125.defers = [] := by rw [hA125]; simp only [df_put]; exact hdf117
                    have l0_125 := lookE hA125 0 (es rfl (es rfl (es rfl l0_117)))
                    have l1_125 := lookE hA125 1 (es rfl (es rfl (es rfl l1_117)))
                    have l2_125 := lookE hA125 2 (es rfl (es rfl (es rfl l2_117)))
                    have l12_125 := lookE hA125 12 (es rfl (es rfl (es rfl l12_117)))
                    have l14_125 := lookE hA125 14 (es rfl (es rfl (es rfl l14_117)))
                    have l15_125 := lookE hA125 15 (es rfl (es rfl (es rfl l15_117)))
                    have l19_125 := lookE hA125 19 (et rfl)
                    clear hA125 hsz117 hdf117 l0_117 l1_117 l2_117 l12_117 l14_117 l15_117 l19_117 l129_117
                    refine then_n ⟨ns.length - (k2 + 1), by simp only [hm89]; omega, hsz125, hdf125, (k2 + 1), bv2, rfl, (by omega), ((l19_125).trans (by first | rfl | (simp; done) | (congr 1; omega))), ((l15_125).trans (by first | rfl | (simp; done) | (congr 1; omega))), ((l0_125).trans l0_88.symm), ((l1_125).trans l1_88.symm), ((l2_125).trans l2_88.symm), ((l12_125).trans l12_88.symm), ((l14_125).trans l14_88.symm), (by have q0 : c49_101 = ro 2 mvC bv2 (bothK ms ns (k2 + 1)) := hc49_101.trans ((congrArg (ro 2 mvC _) (bothK_out hy100 hhb (by omega) (by simpa using c118)))); have q1 := hc_101; subst q0 q1; exact hS101)⟩
              · skip
                refine wp_exit ?_
                refine then_exit ?_
                refine then_exit ?_
                refine inb_hit ?_
                refine then_n (hK86 _ _ ?_)
                clear hK86
                refine wp_seq_k (fun K126 hK126 => ?_)
                -- region 29
                refine region_in ?_
                refine W_v rfl rfl (V_mov rfl l0_92) ?_
                refine W_v rfl rfl (V_mov rfl (es rfl l15_92)) ?_
                refine W_call rfl rfl rfl Try.func20 (by kernel_rfl) rfl (args2 (es rfl (et rfl)) (et rfl)) (kFw_c (hS89.roC h_rv) (hS89.chC 0 rfl hc49_89).own ) ?_
                rintro _ w127 ⟨v_127, rfl, hP127⟩
                refine ⟨_, rfl, ?_⟩
                obtain ⟨c_127, hc_127, hP127⟩ := gen1 hP127
                have hS127 := hS89.join hP127
                replace hS127 : St w NoX [c_127, c49_89, c_89] w127 := hS127
                refine W_v rfl rfl (V_mov rfl (et rfl)) ?_
                refine W_v rfl rfl (V_ext (v := v_127) rfl (et rfl) rfl) ?_
                refine W_v rfl rfl (V_ext (v := .int .i64 ((fwN l (bothK ms ns k2)))) rfl (es rfl (et rfl)) rfl) ?_
                refine W_v rfl rfl (V_ext (v := .int .i64 ((fwE l (bothK ms ns k2)))) rfl (es rfl (es rfl (et rfl))) rfl) ?_
                refine W_v rfl rfl (V_asg rfl (es rfl (es rfl (et rfl)))) ?_
                refine W_v rfl rfl (V_asg rfl (es rfl (es rfl (et rfl)))) ?_
                refine W_v rfl rfl (V_asg rfl (es rfl (es rfl (et rfl)))) ?_
                refine W_end ?_
                refine gen_Q (fun A128 hA128 => ?_)
                have hsz128 : SzN A128 158 := by rw [hA128]; infer_instance
                have hdf128 : A128.defers = [] := by rw [hA128]; simp only [df_put]; exact hdf92
                have l12_128 := lookE hA128 12 (es rfl (es rfl (es rfl (es rfl (es rfl (es rfl (es rfl (es rfl (es rfl (es rfl l12_92))))))))))
                have l14_128 := lookE hA128 14 (es rfl (es rfl (es rfl (es rfl (es rfl (es rfl (es rfl (es rfl (es rfl (es rfl l14_92))))))))))
                have l22_128 := lookE hA128 22 (es rfl (es rfl (et rfl)))
                have l24_128 := lookE hA128 24 (et rfl)
                clear hA128 hsz92 hdf92 l0_92 l1_92 l2_92 l12_92 l14_92 l15_92 l19_92 l105_92
                have hS129 : St w NoX [c_127, c_89] w127 := hS127.sel [0, 2] (by decide) rfl
                refine then_n (hK126 _ _ ?_)
                clear hK126
                refine wp_seq_k (fun K130 hK130 => ?_)
                -- region 30
                refine region_in ?_
                refine W_v rfl rfl (V_mov rfl l14_128) ?_
                refine W_v rfl rfl (V_eql rfl (et rfl) rfl) ?_
                refine W_sure (c' := true) rfl rfl (V_mov rfl (et rfl)) (by rw [decide_eq_true_eq]; exact (both_all h0 hm0 (by omega)).1) ?_
                refine W_v rfl (wanted_t rfl rfl (et rfl) (ez rfl)) (V_mov rfl (es rfl (es rfl (es rfl l24_128)))) ?_
                refine W_v rfl (wanted_t rfl rfl (es rfl (et rfl)) (ez rfl)) (V_eql rfl (et rfl) rfl) ?_
                refine W_v rfl rfl (V_pickT rfl (es rfl (es rfl (et rfl))) (et rfl)) ?_
                refine W_sure (c' := true) rfl rfl (V_mov rfl (et rfl)) (by rw [decide_eq_true_eq]; rw [bothK_all (by omega)]; exact (both_all h0 hm0 (by omega)).2.1) ?_
                refine W_v rfl (wanted_t rfl rfl (et rfl) (ez rfl)) (V_mov rfl (es rfl (es rfl (es rfl (es rfl (es rfl (es rfl (es rfl l12_128)))))))) ?_
                refine W_v rfl (wanted_t rfl rfl (es rfl (et rfl)) (ez rfl)) (V_mov rfl (es rfl (es rfl (es rfl (es rfl (es rfl (es rfl (es rfl (es rfl l22_128))))))))) ?_
                refine W_call rfl (wanted_t rfl rfl (es rfl (es rfl (et rfl))) (ez rfl)) rfl Try.func17 (by kernel_rfl) rfl (args2 (es rfl (et rfl)) (et rfl)) (qInts_c (hS129.chC 1 rfl hc_89).own (hS129.chC 0 rfl hc_127).own ) ?_
                rintro _ w131 ⟨rfl, hP131⟩
                refine ⟨_, rfl, ?_⟩
                have hS131 := hS129.join hP131
                replace hS131 : St w NoX [c_127, c_89] w131 := hS131
                refine W_v rfl rfl (V_pickT rfl (es rfl (es rfl (es rfl (et rfl)))) (et rfl)) ?_
                refine W_sure (c' := true) rfl rfl (V_mov rfl (et rfl)) (by rw [decide_eq_true_eq]; rw [bothK_all (by omega)]; exact (both_all h0 hm0 (by omega)).2.2) ?_
                refine W_call rfl (wanted_t rfl rfl (et rfl) (ez rfl)) rfl Try.func12 (by kernel_rfl) rfl (args0) (shw_c  ) ?_
                rintro _ w132 ⟨rfl, hP132⟩
                refine ⟨_, rfl, ?_⟩
                have hS132 := hS131.join hP132
                replace hS132 : St w NoX [c_127, c_89] w132 := hS132
                refine W_v rfl rfl (V_pickT rfl (es rfl (et rfl)) (et rfl)) ?_
                refine W_v rfl rfl (V_asg rfl (et rfl)) ?_
                refine W_end ?_
                refine gen_Q (fun A133 hA133 => ?_)
                have hsz133 : SzN A133 158 := by rw [hA133]; infer_instance
                have hdf133 : A133.defers = [] := by rw [hA133]; simp only [df_put]; exact hdf128
                have l6_133 := lookE hA133 6 (et rfl)
                clear hA133 hsz128 hdf128 l12_128 l14_128 l22_128 l24_128
                have hS134 : St w NoX [] w132 := hS132.sel [] (by decide) rfl
                refine then_n (hK130 _ _ ?_)
                clear hK130
                refine wp_ret ?_
                refine ret_in (results_1 Try.results6 (rv_tmp l6_133)) hdf133 ?_
                -- leaf FFFFFFF
                exact ⟨rfl, hS134.fin0⟩

end Go.Proofs.Ytbnijekjaafoaaa