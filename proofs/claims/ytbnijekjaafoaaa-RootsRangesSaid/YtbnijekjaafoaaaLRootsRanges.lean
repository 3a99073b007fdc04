import Derived.Test.YtbnijekjaafoaaaProg
import Derived.Test.YtbnijekjaafoaaaRt6
import Derived.Test.YtbnijekjaafoaaaPl19d
namespace Go.Proofs.Ytbnijekjaafoaaa
open Go.RowKit Go.Own Go.Own.R


set_option maxHeartbeats 4000000 in
theorem RootsRanges_c {rv : Value} {l : List Int} {x0 : Int} {x1 : Int} {x2 : Int} {w : World} (h_rv : Ro w NoX (il .i64 rv l))  :
    Calls Try.prog 7 #[rv, .agg #[.int .i64 x0, .int .i64 x1, .int .i64 x2]] w fun e w' => e = .returned (.bool true) ∧ St w NoX [] w' := by
  refine calls_in 195 Try.func7 rfl rfl (by simp) (fun A0 hsz0 hdf0 hargs => ?_)
  have l0_0 := hargs 0 (rv) rfl
  have l1_0 := hargs 1 (.agg #[.int .i64 x0, .int .i64 x1, .int .i64 x2]) rfl
  clear hargs; replace hsz0 : SzN A0 195 := ⟨hsz0⟩
  have hS := St.nil w
  have bh_rv := SlN.le (sl_SlN h_rv.at)
  refine wp_seq_k (fun K1 hK1 => ?_)
  -- region 0
  refine region_in ?_
  refine W_boxS (zs := #[.int .i64 (x0), .int .i64 (x1), .int .i64 (x2)]) hS rfl rfl rfl l1_0 (by rfl) (fun g2 w2 c2 hc2 hS2 => ?_)
  replace hS2 : St w NoX [c2] w2 := hS2
  refine W_v rfl rfl (V_asg rfl rfl) ?_
  refine W_end ?_
  refine gen_Q (fun A3 hA3 => ?_)
  have hsz3 : SzN A3 195 := by rw [hA3]; infer_instance
  have hdf3 : A3.defers = [] := by rw [hA3]; simp only [df_put]; exact hdf0
  have l0_3 := lookE hA3 0 (es rfl (es rfl l0_0))
  have l3_3 := lookE hA3 3 (es rfl (et rfl))
  clear hA3 hsz0 hdf0 l0_0 l1_0
  refine then_n (hK1 _ _ ?_)
  clear hK1
  refine wp_seq_k (fun K4 hK4 => ?_)
  -- region 1
  refine region_in ?_
  refine W_v rfl rfl (V_mov rfl l0_3) ?_
  refine W_call rfl rfl rfl Try.func22 (by kernel_rfl) rfl (args1 (et rfl)) (kCk_c (hS2.roC h_rv) ) ?_
  rintro _ w5 ⟨rfl, hP5⟩
  refine ⟨_, rfl, ?_⟩
  have hS5 := hS2.join hP5
  replace hS5 : St w NoX [c2] w5 := hS5
  refine W_v rfl rfl (V_mov rfl (et rfl)) ?_
  refine W_v rfl rfl (V_ext (v := .int .i64 ((ckR l).1)) rfl (et rfl) rfl) ?_
  refine W_v rfl rfl (V_ext (v := .int .i64 ((ckR l).2)) rfl (es rfl (et rfl)) rfl) ?_
  refine W_v rfl rfl (V_asg rfl (es rfl (et rfl))) ?_
  refine W_v rfl rfl (V_asg rfl (es rfl (et rfl))) ?_
  refine W_end ?_
  refine gen_Q (fun A6 hA6 => ?_)
  have hsz6 : SzN A6 195 := by rw [hA6]; infer_instance
  have hdf6 : A6.defers = [] := by rw [hA6]; simp only [df_put]; exact hdf3
  have l0_6 := lookE hA6 0 (es rfl (es rfl (es rfl (es rfl (es rfl (es rfl (es rfl l0_3)))))))
  have l3_6 := lookE hA6 3 (es rfl (es rfl (es rfl (es rfl (es rfl (es rfl (es rfl l3_3)))))))
  have l6_6 := lookE hA6 6 (et rfl)
  clear hA6 hsz3 hdf3 l0_3 l3_3
  refine then_n (hK4 _ _ ?_)
  clear hK4
  refine wp_seq_k (fun K7 hK7 => ?_)
  refine wp_seq_k (fun K8 hK8 => ?_)
  -- region 2
  refine region_in ?_
  refine W_v rfl rfl (V_mov rfl l0_6) ?_
  refine W_v rfl rfl (V_lenS rfl (et rfl) (sl_SlN h_rv.at) Try.underlying22) ?_
  refine W_v rfl rfl (V_gtr rfl (et rfl) rfl) ?_
  refine W_split rfl rfl (V_mov rfl (et rfl)) (fun c9 => ?_) (fun c9 => ?_)
  · skip
    refine W_off rfl (wanted_f rfl rfl (et rfl) (ez rfl) rfl) ?_
    refine W_off rfl (wanted_f rfl rfl (es rfl (et rfl)) (ez rfl) rfl) ?_
    refine W_v rfl rfl (V_pickT rfl (es rfl (es rfl (et rfl))) rfl) ?_
    refine W_v rfl rfl (V_mov rfl (et rfl)) ?_
    refine W_off rfl (wanted_f rfl rfl (et rfl) (ez rfl) rfl) ?_
    refine W_off rfl (wanted_f rfl rfl (es rfl (et rfl)) (ez rfl) rfl) ?_
    refine W_off rfl (wanted_f rfl rfl (es rfl (es rfl (et rfl))) (ez rfl) rfl) ?_
    refine W_v rfl rfl (V_pickT rfl (es rfl (es rfl (es rfl (et rfl)))) rfl) ?_
    refine W_v rfl rfl (V_mov rfl (et rfl)) ?_
    refine W_off rfl (wanted_f rfl rfl (et rfl) (ez rfl) rfl) ?_
    refine W_off rfl (wanted_f rfl rfl (es rfl (et rfl)) (ez rfl) rfl) ?_
    refine W_off rfl (wanted_f rfl rfl (es rfl (es rfl (et rfl))) (ez rfl) rfl) ?_
    refine W_off rfl (wanted_f rfl rfl (es rfl (es rfl (es rfl (et rfl)))) (ez rfl) rfl) ?_
    refine W_off rfl (wanted_f rfl rfl (es rfl (es rfl (es rfl (es rfl (et rfl))))) (ez rfl) rfl) ?_
    refine W_v rfl rfl (V_pickT rfl (es rfl (es rfl (es rfl (es rfl (es rfl (et rfl)))))) rfl) ?_
    refine W_v rfl rfl (V_mov rfl (et rfl)) ?_
    refine W_off rfl (wanted_f rfl rfl (et rfl) (ez rfl) rfl) ?_
    refine W_off rfl (wanted_f rfl rfl (es rfl (et rfl)) (ez rfl) rfl) ?_
    refine W_off rfl (wanted_f rfl rfl (es rfl (es rfl (et rfl))) (ez rfl) rfl) ?_
    refine W_off rfl (wanted_f rfl rfl (es rfl (es rfl (es rfl (et rfl)))) (ez rfl) rfl) ?_
    refine W_off rfl (wanted_f rfl rfl (es rfl (es rfl (es rfl (es rfl (et rfl))))) (ez rfl) rfl) ?_
    refine W_v rfl rfl (V_pickT rfl (es rfl (es rfl (es rfl (es rfl (es rfl (et rfl)))))) rfl) ?_
    refine W_v rfl rfl (V_mov rfl (et rfl)) ?_
    refine W_off rfl (wanted_f rfl rfl (et rfl) (ez rfl) rfl) ?_
    refine W_off rfl (wanted_f rfl rfl (es rfl (et rfl)) (ez rfl) rfl) ?_
    refine W_off rfl (wanted_f rfl rfl (es rfl (es rfl (et rfl))) (ez rfl) rfl) ?_
    refine W_v rfl rfl (V_pickT rfl (es rfl (es rfl (es rfl (et rfl)))) rfl) ?_
    refine W_end ?_
    refine gen_Q (fun A10 hA10 => ?_)
    have hsz10 : SzN A10 195 := by rw [hA10]; infer_instance
    have hdf10 : A10.defers = [] := by rw [hA10]; simp only [df_put]; exact hdf6
    have l0_10 := lookE hA10 0 (es rfl (es rfl (es rfl (es rfl (es rfl (es rfl (es rfl (es rfl (es rfl (es rfl (es rfl (es rfl (es rfl (es rfl (es rfl (es rfl (es rfl (es rfl (es rfl (es rfl (es rfl (es rfl (es rfl (es rfl (es rfl (es rfl (es rfl (es rfl (es rfl (es rfl (es rfl l0_6)))))))))))))))))))))))))))))))
    have l3_10 := lookE hA10 3 (es rfl (es rfl (es rfl (es rfl (es rfl (es rfl (es rfl (es rfl (es rfl (es rfl (es rfl (es rfl (es rfl (es rfl (es rfl (es rfl (es rfl (es rfl (es rfl (es rfl (es rfl (es rfl (es rfl (es rfl (es rfl (es rfl (es rfl (es rfl (es rfl (es rfl (es rfl l3_6)))))))))))))))))))))))))))))))
    have l58_10 := lookE hA10 58 (et rfl)
    clear hA10 hsz6 hdf6 l0_6 l3_6 l6_6
    refine then_n (hK8 _ _ ?_)
    clear hK8
    refine cond_t l58_10 ?_
    refine wp_seq_k (fun K11 hK11 => ?_)
    -- region 3
    refine region_in ?_
    refine W_call rfl rfl rfl Try.func12 (by kernel_rfl) rfl (args0) (shw_c  ) ?_
    rintro _ w12 ⟨rfl, hP12⟩
    refine ⟨_, rfl, ?_⟩
    have hS12 := hS5.join hP12
    replace hS12 : St w NoX [c2] w12 := hS12
    refine W_v rfl rfl (V_asg rfl (et rfl)) ?_
    refine W_end ?_
    refine gen_Q (fun A13 hA13 => ?_)
    have hsz13 : SzN A13 195 := by rw [hA13]; infer_instance
    have hdf13 : A13.defers = [] := by rw [hA13]; simp only [df_put]; exact hdf10
    have l4_13 := lookE hA13 4 (et rfl)
    clear hA13 hsz10 hdf10 l0_10 l3_10 l58_10
    have hS14 : St w NoX [] w12 := hS12.sel [] (by decide) rfl
    refine then_n (hK11 _ _ ?_)
    clear hK11
    refine wp_ret ?_
    refine then_ret ?_
    refine ret_in (results_1 Try.results7 (rv_tmp l4_13)) hdf13 ?_
    -- leaf T
    exact ⟨rfl, hS14.fin0⟩
  · skip
    refine W_v rfl (wanted_t rfl rfl (et rfl) (ez rfl)) (V_mov rfl (es rfl (es rfl (es rfl (es rfl l6_6))))) ?_
    refine W_v rfl (wanted_t rfl rfl (es rfl (et rfl)) (ez rfl)) (V_neq rfl (et rfl) rfl) ?_
    refine W_v rfl rfl (V_pickF rfl (es rfl (es rfl (et rfl))) (et rfl)) ?_
    refine W_split rfl rfl (V_mov rfl (et rfl)) (fun c15 => ?_) (fun c15 => ?_)
    · skip
      refine W_off rfl (wanted_f rfl rfl (et rfl) (ez rfl) rfl) ?_
      refine W_off rfl (wanted_f rfl rfl (es rfl (et rfl)) (ez rfl) rfl) ?_
      refine W_off rfl (wanted_f rfl rfl (es rfl (es rfl (et rfl))) (ez rfl) rfl) ?_
      refine W_v rfl rfl (V_pickT rfl (es rfl (es rfl (es rfl (et rfl)))) rfl) ?_
      refine W_v rfl rfl (V_mov rfl (et rfl)) ?_
      refine W_off rfl (wanted_f rfl rfl (et rfl) (ez rfl) rfl) ?_
      refine W_off rfl (wanted_f rfl rfl (es rfl (et rfl)) (ez rfl) rfl) ?_
      refine W_off rfl (wanted_f rfl rfl (es rfl (es rfl (et rfl))) (ez rfl) rfl) ?_
      refine W_off rfl (wanted_f rfl rfl (es rfl (es rfl (es rfl (et rfl)))) (ez rfl) rfl) ?_
      refine W_off rfl (wanted_f rfl rfl (es rfl (es rfl (es rfl (es rfl (et rfl))))) (ez rfl) rfl) ?_
      refine W_v rfl rfl (V_pickT rfl (es rfl (es rfl (es rfl (es rfl (es rfl (et rfl)))))) rfl) ?_
      refine W_v rfl rfl (V_mov rfl (et rfl)) ?_
      refine W_off rfl (wanted_f rfl rfl (et rfl) (ez rfl) rfl) ?_
      refine W_off rfl (wanted_f rfl rfl (es rfl (et rfl)) (ez rfl) rfl) ?_
      refine W_off rfl (wanted_f rfl rfl (es rfl (es rfl (et rfl))) (ez rfl) rfl) ?_
      refine W_off rfl (wanted_f rfl rfl (es rfl (es rfl (es rfl (et rfl)))) (ez rfl) rfl) ?_
      refine W_off rfl (wanted_f rfl rfl (es rfl (es rfl (es rfl (es rfl (et rfl))))) (ez rfl) rfl) ?_
      refine W_v rfl rfl (V_pickT rfl (es rfl (es rfl (es rfl (es rfl (es rfl (et rfl)))))) rfl) ?_
      refine W_v rfl rfl (V_mov rfl (et rfl)) ?_
      refine W_off rfl (wanted_f rfl rfl (et rfl) (ez rfl) rfl) ?_
      refine W_off rfl (wanted_f rfl rfl (es rfl (et rfl)) (ez rfl) rfl) ?_
      refine W_off rfl (wanted_f rfl rfl (es rfl (es rfl (et rfl))) (ez rfl) rfl) ?_
      refine W_v rfl rfl (V_pickT rfl (es rfl (es rfl (es rfl (et rfl)))) rfl) ?_
      refine W_end ?_
      refine gen_Q (fun A16 hA16 => ?_)
      have hsz16 : SzN A16 195 := by rw [hA16]; infer_instance
      have hdf16 : A16.defers = [] := by rw [hA16]; simp only [df_put]; exact hdf6
      have l0_16 := lookE hA16 0 (es rfl (es rfl (es rfl (es rfl (es rfl (es rfl (es rfl (es rfl (es rfl (es rfl (es rfl (es rfl (es rfl (es rfl (es rfl (es rfl (es rfl (es rfl (es rfl (es rfl (es rfl (es rfl (es rfl (es rfl (es rfl (es rfl (es rfl (es rfl (es rfl (es rfl (es rfl l0_6)))))))))))))))))))))))))))))))
      have l3_16 := lookE hA16 3 (es rfl (es rfl (es rfl (es rfl (es rfl (es rfl (es rfl (es rfl (es rfl (es rfl (es rfl (es rfl (es rfl (es rfl (es rfl (es rfl (es rfl (es rfl (es rfl (es rfl (es rfl (es rfl (es rfl (es rfl (es rfl (es rfl (es rfl (es rfl (es rfl (es rfl (es rfl l3_6)))))))))))))))))))))))))))))))
      have l58_16 := lookE hA16 58 (et rfl)
      clear hA16 hsz6 hdf6 l0_6 l3_6 l6_6
      refine then_n (hK8 _ _ ?_)
      clear hK8
      refine cond_t l58_16 ?_
      refine wp_seq_k (fun K17 hK17 => ?_)
      -- region 3
      refine region_in ?_
      refine W_call rfl rfl rfl Try.func12 (by kernel_rfl) rfl (args0) (shw_c  ) ?_
      rintro _ w18 ⟨rfl, hP18⟩
      refine ⟨_, rfl, ?_⟩
      have hS18 := hS5.join hP18
      replace hS18 : St w NoX [c2] w18 := hS18
      refine W_v rfl rfl (V_asg rfl (et rfl)) ?_
      refine W_end ?_
      refine gen_Q (fun A19 hA19 => ?_)
      have hsz19 : SzN A19 195 := by rw [hA19]; infer_instance
      have hdf19 : A19.defers = [] := by rw [hA19]; simp only [df_put]; exact hdf16
      have l4_19 := lookE hA19 4 (et rfl)
      clear hA19 hsz16 hdf16 l0_16 l3_16 l58_16
      have hS20 : St w NoX [] w18 := hS18.sel [] (by decide) rfl
      refine then_n (hK17 _ _ ?_)
      clear hK17
      refine wp_ret ?_
      refine then_ret ?_
      refine ret_in (results_1 Try.results7 (rv_tmp l4_19)) hdf19 ?_
      -- leaf FT
      exact ⟨rfl, hS20.fin0⟩
    · skip
      have hck : (ckR l).2 = 0 := by simpa using c15
      obtain ⟨hl1, hl8, hin0⟩ := ckR_good hck
      refine W_v rfl (wanted_t rfl rfl (et rfl) (ez rfl)) (V_ixA (sz := 1) (off' := 0) 0 rfl (es rfl (es rfl (es rfl (es rfl (es rfl (es rfl (es rfl (es rfl l3_6)))))))) rfl (by rfl) Try.underlying41 (by decide) (by kernel_rfl) rfl) ?_
      refine W_r rfl (wanted_t rfl rfl (es rfl (et rfl)) (ez rfl)) (VR_ldC rfl (et rfl) (cell_box (v := .int .i64 (x0)) (hS5.obj 0 rfl hc2) rfl) Try.underlying3 rfl) ?_
      refine W_v rfl (wanted_t rfl rfl (es rfl (es rfl (et rfl))) (ez rfl)) (V_lss rfl (et rfl) rfl) ?_
      refine W_v rfl rfl (V_pickF rfl (es rfl (es rfl (es rfl (et rfl)))) (et rfl)) ?_
      refine W_split rfl rfl (V_mov rfl (et rfl)) (fun c22 => ?_) (fun c22 => ?_)
      · skip
        refine W_off rfl (wanted_f rfl rfl (et rfl) (ez rfl) rfl) ?_
        refine W_off rfl (wanted_f rfl rfl (es rfl (et rfl)) (ez rfl) rfl) ?_
        refine W_off rfl (wanted_f rfl rfl (es rfl (es rfl (et rfl))) (ez rfl) rfl) ?_
        refine W_off rfl (wanted_f rfl rfl (es rfl (es rfl (es rfl (et rfl)))) (ez rfl) rfl) ?_
        refine W_off rfl (wanted_f rfl rfl (es rfl (es rfl (es rfl (es rfl (et rfl))))) (ez rfl) rfl) ?_
        refine W_v rfl rfl (V_pickT rfl (es rfl (es rfl (es rfl (es rfl (es rfl (et rfl)))))) rfl) ?_
        refine W_v rfl rfl (V_mov rfl (et rfl)) ?_
        refine W_off rfl (wanted_f rfl rfl (et rfl) (ez rfl) rfl) ?_
        refine W_off rfl (wanted_f rfl rfl (es rfl (et rfl)) (ez rfl) rfl) ?_
        refine W_off rfl (wanted_f rfl rfl (es rfl (es rfl (et rfl))) (ez rfl) rfl) ?_
        refine W_off rfl (wanted_f rfl rfl (es rfl (es rfl (es rfl (et rfl)))) (ez rfl) rfl) ?_
        refine W_off rfl (wanted_f rfl rfl (es rfl (es rfl (es rfl (es rfl (et rfl))))) (ez rfl) rfl) ?_
        refine W_v rfl rfl (V_pickT rfl (es rfl (es rfl (es rfl (es rfl (es rfl (et rfl)))))) rfl) ?_
        refine W_v rfl rfl (V_mov rfl (et rfl)) ?_
        refine W_off rfl (wanted_f rfl rfl (et rfl) (ez rfl) rfl) ?_
        refine W_off rfl (wanted_f rfl rfl (es rfl (et rfl)) (ez rfl) rfl) ?_
        refine W_off rfl (wanted_f rfl rfl (es rfl (es rfl (et rfl))) (ez rfl) rfl) ?_
        refine W_v rfl rfl (V_pickT rfl (es rfl (es rfl (es rfl (et rfl)))) rfl) ?_
        refine W_end ?_
        refine gen_Q (fun A23 hA23 => ?_)
        have hsz23 : SzN A23 195 := by rw [hA23]; infer_instance
        have hdf23 : A23.defers = [] := by rw [hA23]; simp only [df_put]; exact hdf6
        have l0_23 := lookE hA23 0 (es rfl (es rfl (es rfl (es rfl (es rfl (es rfl (es rfl (es rfl (es rfl (es rfl (es rfl (es rfl (es rfl (es rfl (es rfl (es rfl (es rfl (es rfl (es rfl (es rfl (es rfl (es rfl (es rfl (es rfl (es rfl (es rfl (es rfl (es rfl (es rfl (es rfl (es rfl l0_6)))))))))))))))))))))))))))))))
        have l3_23 := lookE hA23 3 (es rfl (es rfl (es rfl (es rfl (es rfl (es rfl (es rfl (es rfl (es rfl (es rfl (es rfl (es rfl (es rfl (es rfl (es rfl (es rfl (es rfl (es rfl (es rfl (es rfl (es rfl (es rfl (es rfl (es rfl (es rfl (es rfl (es rfl (es rfl (es rfl (es rfl (es rfl l3_6)))))))))))))))))))))))))))))))
        have l58_23 := lookE hA23 58 (et rfl)
        clear hA23 hsz6 hdf6 l0_6 l3_6 l6_6
        refine then_n (hK8 _ _ ?_)
        clear hK8
        refine cond_t l58_23 ?_
        refine wp_seq_k (fun K24 hK24 => ?_)
        -- region 3
        refine region_in ?_
        refine W_call rfl rfl rfl Try.func12 (by kernel_rfl) rfl (args0) (shw_c  ) ?_
        rintro _ w25 ⟨rfl, hP25⟩
        refine ⟨_, rfl, ?_⟩
        have hS25 := hS5.join hP25
        replace hS25 : St w NoX [c2] w25 := hS25
        refine W_v rfl rfl (V_asg rfl (et rfl)) ?_
        refine W_end ?_
        refine gen_Q (fun A26 hA26 => ?_)
        have hsz26 : SzN A26 195 := by rw [hA26]; infer_instance
        have hdf26 : A26.defers = [] := by rw [hA26]; simp only [df_put]; exact hdf23
        have l4_26 := lookE hA26 4 (et rfl)
        clear hA26 hsz23 hdf23 l0_23 l3_23 l58_23
        have hS27 : St w NoX [] w25 := hS25.sel [] (by decide) rfl
        refine then_n (hK24 _ _ ?_)
        clear hK24
        refine wp_ret ?_
        refine then_ret ?_
        refine ret_in (results_1 Try.results7 (rv_tmp l4_26)) hdf26 ?_
        -- leaf FFT
        exact ⟨rfl, hS27.fin0⟩
      · skip
        refine W_v rfl (wanted_t rfl rfl (et rfl) (ez rfl)) (V_ixA (sz := 1) (off' := 0) 0 rfl (es rfl (es rfl (es rfl (es rfl (es rfl (es rfl (es rfl (es rfl (es rfl (es rfl (es rfl (es rfl (es rfl l3_6))))))))))))) rfl (by rfl) Try.underlying41 (by decide) (by kernel_rfl) rfl) ?_
        refine W_r rfl (wanted_t rfl rfl (es rfl (et rfl)) (ez rfl)) (VR_ldC rfl (et rfl) (cell_box (v := .int .i64 (x0)) (hS5.obj 0 rfl hc2) rfl) Try.underlying3 rfl) ?_
        refine W_v rfl (wanted_t rfl rfl (es rfl (es rfl (et rfl))) (ez rfl)) (V_ixA (sz := 1) (off' := 1) 1 rfl (es rfl (es rfl (es rfl (es rfl (es rfl (es rfl (es rfl (es rfl (es rfl (es rfl (es rfl (es rfl (es rfl (es rfl (es rfl l3_6))))))))))))))) rfl (by rfl) Try.underlying41 (by decide) (by kernel_rfl) rfl) ?_
        refine W_r rfl (wanted_t rfl rfl (es rfl (es rfl (es rfl (et rfl)))) (ez rfl)) (VR_ldC rfl (et rfl) (cell_box (v := .int .i64 (x1)) (hS5.obj 0 rfl hc2) rfl) Try.underlying3 rfl) ?_
        refine W_v rfl (wanted_t rfl rfl (es rfl (es rfl (es rfl (es rfl (et rfl))))) (ez rfl)) (V_gtr rfl (es rfl (es rfl (et rfl))) (et rfl)) ?_
        refine W_v rfl rfl (V_pickF rfl (es rfl (es rfl (es rfl (es rfl (es rfl (et rfl)))))) (et rfl)) ?_
        refine W_split rfl rfl (V_mov rfl (et rfl)) (fun c30 => ?_) (fun c30 => ?_)
        · skip
          refine W_off rfl (wanted_f rfl rfl (et rfl) (ez rfl) rfl) ?_
          refine W_off rfl (wanted_f rfl rfl (es rfl (et rfl)) (ez rfl) rfl) ?_
          refine W_off rfl (wanted_f rfl rfl (es rfl (es rfl (et rfl))) (ez rfl) rfl) ?_
          refine W_off rfl (wanted_f rfl rfl (es rfl (es rfl (es rfl (et rfl)))) (ez rfl) rfl) ?_
          refine W_off rfl (wanted_f rfl rfl (es rfl (es rfl (es rfl (es rfl (et rfl))))) (ez rfl) rfl) ?_
          refine W_v rfl rfl (V_pickT rfl (es rfl (es rfl (es rfl (es rfl (es rfl (et rfl)))))) rfl) ?_
          refine W_v rfl rfl (V_mov rfl (et rfl)) ?_
          refine W_off rfl (wanted_f rfl rfl (et rfl) (ez rfl) rfl) ?_
          refine W_off rfl (wanted_f rfl rfl (es rfl (et rfl)) (ez rfl) rfl) ?_
          refine W_off rfl (wanted_f rfl rfl (es rfl (es rfl (et rfl))) (ez rfl) rfl) ?_
          refine W_v rfl rfl (V_pickT rfl (es rfl (es rfl (es rfl (et rfl)))) rfl) ?_
          refine W_end ?_
          refine gen_Q (fun A31 hA31 => ?_)
          have hsz31 : SzN A31 195 := by rw [hA31]; infer_instance
          have hdf31 : A31.defers = [] := by rw [hA31]; simp only [df_put]; exact hdf6
          have l0_31 := lookE hA31 0 (es rfl (es rfl (es rfl (es rfl (es rfl (es rfl (es rfl (es rfl (es rfl (es rfl (es rfl (es rfl (es rfl (es rfl (es rfl (es rfl (es rfl (es rfl (es rfl (es rfl (es rfl (es rfl (es rfl (es rfl (es rfl (es rfl (es rfl (es rfl (es rfl (es rfl (es rfl l0_6)))))))))))))))))))))))))))))))
          have l3_31 := lookE hA31 3 (es rfl (es rfl (es rfl (es rfl (es rfl (es rfl (es rfl (es rfl (es rfl (es rfl (es rfl (es rfl (es rfl (es rfl (es rfl (es rfl (es rfl (es rfl (es rfl (es rfl (es rfl (es rfl (es rfl (es rfl (es rfl (es rfl (es rfl (es rfl (es rfl (es rfl (es rfl l3_6)))))))))))))))))))))))))))))))
          have l58_31 := lookE hA31 58 (et rfl)
          clear hA31 hsz6 hdf6 l0_6 l3_6 l6_6
          refine then_n (hK8 _ _ ?_)
          clear hK8
          refine cond_t l58_31 ?_
          refine wp_seq_k (fun K32 hK32 => ?_)
          -- region 3
          refine region_in ?_
          refine W_call rfl rfl rfl Try.func12 (by kernel_rfl) rfl (args0) (shw_c  ) ?_
          rintro _ w33 ⟨rfl, hP33⟩
          refine ⟨_, rfl, ?_⟩
          have hS33 := hS5.join hP33
          replace hS33 : St w NoX [c2] w33 := hS33
          refine W_v rfl rfl (V_asg rfl (et rfl)) ?_
          refine W_end ?_
          refine gen_Q (fun A34 hA34 => ?_)
          have hsz34 : SzN A34 195 := by rw [hA34]; infer_instance
          have hdf34 : A34.defers = [] := by rw [hA34]; simp only [df_put]; exact hdf31
          have l4_34 := lookE hA34 4 (et rfl)
          clear hA34 hsz31 hdf31 l0_31 l3_31 l58_31
          have hS35 : St w NoX [] w33 := hS33.sel [] (by decide) rfl
          refine then_n (hK32 _ _ ?_)
          clear hK32
          refine wp_ret ?_
          refine then_ret ?_
          refine ret_in (results_1 Try.results7 (rv_tmp l4_34)) hdf34 ?_
          -- leaf FFFT
          exact ⟨rfl, hS35.fin0⟩
        · skip
          refine W_v rfl (wanted_t rfl rfl (et rfl) (ez rfl)) (V_ixA (sz := 1) (off' := 1) 1 rfl (es rfl (es rfl (es rfl (es rfl (es rfl (es rfl (es rfl (es rfl (es rfl (es rfl (es rfl (es rfl (es rfl (es rfl (es rfl (es rfl (es rfl (es rfl (es rfl (es rfl l3_6)))))))))))))))))))) rfl (by rfl) Try.underlying41 (by decide) (by kernel_rfl) rfl) ?_
          refine W_r rfl (wanted_t rfl rfl (es rfl (et rfl)) (ez rfl)) (VR_ldC rfl (et rfl) (cell_box (v := .int .i64 (x1)) (hS5.obj 0 rfl hc2) rfl) Try.underlying3 rfl) ?_
          refine W_v rfl (wanted_t rfl rfl (es rfl (es rfl (et rfl))) (ez rfl)) (V_ixA (sz := 1) (off' := 2) 2 rfl (es rfl (es rfl (es rfl (es rfl (es rfl (es rfl (es rfl (es rfl (es rfl (es rfl (es rfl (es rfl (es rfl (es rfl (es rfl (es rfl (es rfl (es rfl (es rfl (es rfl (es rfl (es rfl l3_6)))))))))))))))))))))) rfl (by rfl) Try.underlying41 (by decide) (by kernel_rfl) rfl) ?_
          refine W_r rfl (wanted_t rfl rfl (es rfl (es rfl (es rfl (et rfl)))) (ez rfl)) (VR_ldC rfl (et rfl) (cell_box (v := .int .i64 (x2)) (hS5.obj 0 rfl hc2) rfl) Try.underlying3 rfl) ?_
          refine W_v rfl (wanted_t rfl rfl (es rfl (es rfl (es rfl (es rfl (et rfl))))) (ez rfl)) (V_gtr rfl (es rfl (es rfl (et rfl))) (et rfl)) ?_
          refine W_v rfl rfl (V_pickF rfl (es rfl (es rfl (es rfl (es rfl (es rfl (et rfl)))))) (et rfl)) ?_
          refine W_split rfl rfl (V_mov rfl (et rfl)) (fun c38 => ?_) (fun c38 => ?_)
          · skip
            refine W_off rfl (wanted_f rfl rfl (et rfl) (ez rfl) rfl) ?_
            refine W_off rfl (wanted_f rfl rfl (es rfl (et rfl)) (ez rfl) rfl) ?_
            refine W_off rfl (wanted_f rfl rfl (es rfl (es rfl (et rfl))) (ez rfl) rfl) ?_
            refine W_v rfl rfl (V_pickT rfl (es rfl (es rfl (es rfl (et rfl)))) rfl) ?_
            refine W_end ?_
            refine gen_Q (fun A39 hA39 => ?_)
            have hsz39 : SzN A39 195 := by rw [hA39]; infer_instance
            have hdf39 : A39.defers = [] := by rw [hA39]; simp only [df_put]; exact hdf6
            have l0_39 := lookE hA39 0 (es rfl (es rfl (es rfl (es rfl (es rfl (es rfl (es rfl (es rfl (es rfl (es rfl (es rfl (es rfl (es rfl (es rfl (es rfl (es rfl (es rfl (es rfl (es rfl (es rfl (es rfl (es rfl (es rfl (es rfl (es rfl (es rfl (es rfl (es rfl (es rfl (es rfl (es rfl l0_6)))))))))))))))))))))))))))))))
            have l3_39 := lookE hA39 3 (es rfl (es rfl (es rfl (es rfl (es rfl (es rfl (es rfl (es rfl (es rfl (es rfl (es rfl (es rfl (es rfl (es rfl (es rfl (es rfl (es rfl (es rfl (es rfl (es rfl (es rfl (es rfl (es rfl (es rfl (es rfl (es rfl (es rfl (es rfl (es rfl (es rfl (es rfl l3_6)))))))))))))))))))))))))))))))
            have l58_39 := lookE hA39 58 (et rfl)
            clear hA39 hsz6 hdf6 l0_6 l3_6 l6_6
            refine then_n (hK8 _ _ ?_)
            clear hK8
            refine cond_t l58_39 ?_
            refine wp_seq_k (fun K40 hK40 => ?_)
            -- region 3
            refine region_in ?_
            refine W_call rfl rfl rfl Try.func12 (by kernel_rfl) rfl (args0) (shw_c  ) ?_
            rintro _ w41 ⟨rfl, hP41⟩
            refine ⟨_, rfl, ?_⟩
            have hS41 := hS5.join hP41
            replace hS41 : St w NoX [c2] w41 := hS41
            refine W_v rfl rfl (V_asg rfl (et rfl)) ?_
            refine W_end ?_
            refine gen_Q (fun A42 hA42 => ?_)
            have hsz42 : SzN A42 195 := by rw [hA42]; infer_instance
            have hdf42 : A42.defers = [] := by rw [hA42]; simp only [df_put]; exact hdf39
            have l4_42 := lookE hA42 4 (et rfl)
            clear hA42 hsz39 hdf39 l0_39 l3_39 l58_39
            have hS43 : St w NoX [] w41 := hS41.sel [] (by decide) rfl
            refine then_n (hK40 _ _ ?_)
            clear hK40
            refine wp_ret ?_
            refine then_ret ?_
            refine ret_in (results_1 Try.results7 (rv_tmp l4_42)) hdf42 ?_
            -- leaf FFFFT
            exact ⟨rfl, hS43.fin0⟩
          · skip
            refine W_v rfl (wanted_t rfl rfl (et rfl) (ez rfl)) (V_ixA (sz := 1) (off' := 2) 2 rfl (es rfl (es rfl (es rfl (es rfl (es rfl (es rfl (es rfl (es rfl (es rfl (es rfl (es rfl (es rfl (es rfl (es rfl (es rfl (es rfl (es rfl (es rfl (es rfl (es rfl (es rfl (es rfl (es rfl (es rfl (es rfl (es rfl (es rfl l3_6))))))))))))))))))))))))))) rfl (by rfl) Try.underlying41 (by decide) (by kernel_rfl) rfl) ?_
            refine W_r rfl (wanted_t rfl rfl (es rfl (et rfl)) (ez rfl)) (VR_ldC rfl (et rfl) (cell_box (v := .int .i64 (x2)) (hS5.obj 0 rfl hc2) rfl) Try.underlying3 rfl) ?_
            refine W_v rfl (wanted_t rfl rfl (es rfl (es rfl (et rfl))) (ez rfl)) (V_gtr rfl (et rfl) rfl) ?_
            refine W_v rfl rfl (V_pickF rfl (es rfl (es rfl (es rfl (et rfl)))) (et rfl)) ?_
            refine W_end ?_
            refine gen_Q (fun A45 hA45 => ?_)
            have hsz45 : SzN A45 195 := by rw [hA45]; infer_instance
            have hdf45 : A45.defers = [] := by rw [hA45]; simp only [df_put]; exact hdf6
            have l0_45 := lookE hA45 0 (es rfl (es rfl (es rfl (es rfl (es rfl (es rfl (es rfl (es rfl (es rfl (es rfl (es rfl (es rfl (es rfl (es rfl (es rfl (es rfl (es rfl (es rfl (es rfl (es rfl (es rfl (es rfl (es rfl (es rfl (es rfl (es rfl (es rfl (es rfl (es rfl (es rfl (es rfl l0_6)))))))))))))))))))))))))))))))
            have l3_45 := lookE hA45 3 (es rfl (es rfl (es rfl (es rfl (es rfl (es rfl (es rfl (es rfl (es rfl (es rfl (es rfl (es rfl (es rfl (es rfl (es rfl (es rfl (es rfl (es rfl (es rfl (es rfl (es rfl (es rfl (es rfl (es rfl (es rfl (es rfl (es rfl (es rfl (es rfl (es rfl (es rfl l3_6)))))))))))))))))))))))))))))))
            have l58_45 := lookE hA45 58 (et rfl)
            clear hA45 hsz6 hdf6 l0_6 l3_6 l6_6
            refine then_n (hK8 _ _ ?_)
            clear hK8
            refine cond_dec l58_45 (fun c46 => ?_) (fun c46 => ?_)
            · skip
              refine wp_seq_k (fun K47 hK47 => ?_)
              -- region 3
              refine region_in ?_
              refine W_call rfl rfl rfl Try.func12 (by kernel_rfl) rfl (args0) (shw_c  ) ?_
              rintro _ w48 ⟨rfl, hP48⟩
              refine ⟨_, rfl, ?_⟩
              have hS48 := hS5.join hP48
              replace hS48 : St w NoX [c2] w48 := hS48
              refine W_v rfl rfl (V_asg rfl (et rfl)) ?_
              refine W_end ?_
              refine gen_Q (fun A49 hA49 => ?_)
              have hsz49 : SzN A49 195 := by rw [hA49]; infer_instance
              have hdf49 : A49.defers = [] := by rw [hA49]; simp only [df_put]; exact hdf45
              have l4_49 := lookE hA49 4 (et rfl)
              clear hA49 hsz45 hdf45 l0_45 l3_45 l58_45
              have hS50 : St w NoX [] w48 := hS48.sel [] (by decide) rfl
              refine then_n (hK47 _ _ ?_)
              clear hK47
              refine wp_ret ?_
              refine then_ret ?_
              refine ret_in (results_1 Try.results7 (rv_tmp l4_49)) hdf49 ?_
              -- leaf FFFFFT
              exact ⟨rfl, hS50.fin0⟩
            · skip
              have m1 := (many_is (f := x0) (t := x1) hck (by omega)).2
              have m2 := (many_is (f := x1) (t := x2) hck (by omega)).2
              have b1 := cn_bd l x0 x1
              have b2 := cn_bd l x1 x2
              have b3 := cn_bd l 0 1601
              have b4 : nz l = cn l 0 1601 := rfl
              have b5 := tgT_len hck
              refine wp_skip ?_
              refine then_n (hK7 _ _ ?_)
              clear hK7
              refine wp_seq_k (fun K51 hK51 => ?_)
              -- region 4
              refine region_in ?_
              refine W_v rfl rfl (V_mov rfl l0_45) ?_
              refine W_v rfl rfl (V_ixA (sz := 1) (off' := 0) 0 rfl (es rfl l3_45) rfl (by rfl) Try.underlying41 (by decide) (by kernel_rfl) rfl) ?_
              refine W_r rfl rfl (VR_ldC rfl (et rfl) (cell_box (v := .int .i64 (x0)) (hS5.obj 0 rfl hc2) rfl) Try.underlying3 rfl) ?_
              refine W_v rfl rfl (V_ixA (sz := 1) (off' := 1) 1 rfl (es rfl (es rfl (es rfl l3_45))) rfl (by rfl) Try.underlying41 (by decide) (by kernel_rfl) rfl) ?_
              refine W_r rfl rfl (VR_ldC rfl (et rfl) (cell_box (v := .int .i64 (x1)) (hS5.obj 0 rfl hc2) rfl) Try.underlying3 rfl) ?_
              refine W_call rfl rfl rfl Try.func23 (by kernel_rfl) rfl (args3 (es rfl (es rfl (es rfl (es rfl (et rfl))))) (es rfl (es rfl (et rfl))) (et rfl)) (many_c (f := x0) (t := x1) (hS5.roC h_rv) ) ?_
              rintro _ w54 ⟨rfl, hP54⟩
              refine ⟨_, rfl, ?_⟩
              have hS54 := hS5.join hP54
              replace hS54 : St w NoX [c2] w54 := hS54
              refine W_v rfl rfl (V_mov rfl (et rfl)) ?_
              refine W_v rfl rfl (V_ext (v := .int .i64 ((inN l x0 x1))) rfl (et rfl) rfl) ?_
              refine W_v rfl rfl (V_ext (v := .bool (decide (inE l x0 x1 = 0 ∨ inE l x0 x1 = 4))) rfl (es rfl (et rfl)) rfl) ?_
              refine W_v rfl rfl (V_asg rfl (es rfl (et rfl))) ?_
              refine W_v rfl rfl (V_asg rfl (es rfl (et rfl))) ?_
              refine W_end ?_
              refine gen_Q (fun A55 hA55 => ?_)
              have hsz55 : SzN A55 195 := by rw [hA55]; infer_instance
              have hdf55 : A55.defers = [] := by rw [hA55]; simp only [df_put]; exact hdf45
              have l0_55 := lookE hA55 0 (es rfl (es rfl (es rfl (es rfl (es rfl (es rfl (es rfl (es rfl (es rfl (es rfl (es rfl l0_45)))))))))))
              have l3_55 := lookE hA55 3 (es rfl (es rfl (es rfl (es rfl (es rfl (es rfl (es rfl (es rfl (es rfl (es rfl (es rfl l3_45)))))))))))
              have l7_55 := lookE hA55 7 (es rfl (et rfl))
              have l8_55 := lookE hA55 8 (et rfl)
              clear hA55 hsz45 hdf45 l0_45 l3_45 l58_45
              refine then_n (hK51 _ _ ?_)
              clear hK51
              refine wp_seq_k (fun K56 hK56 => ?_)
              -- region 5
              refine region_in ?_
              refine W_v rfl rfl (V_mov rfl l0_55) ?_
              refine W_v rfl rfl (V_ixA (sz := 1) (off' := 1) 1 rfl (es rfl l3_55) rfl (by rfl) Try.underlying41 (by decide) (by kernel_rfl) rfl) ?_
              refine W_r rfl rfl (VR_ldC rfl (et rfl) (cell_box (v := .int .i64 (x1)) (hS54.obj 0 rfl hc2) rfl) Try.underlying3 rfl) ?_
              refine W_v rfl rfl (V_ixA (sz := 1) (off' := 2) 2 rfl (es rfl (es rfl (es rfl l3_55))) rfl (by rfl) Try.underlying41 (by decide) (by kernel_rfl) rfl) ?_
              refine W_r rfl rfl (VR_ldC rfl (et rfl) (cell_box (v := .int .i64 (x2)) (hS54.obj 0 rfl hc2) rfl) Try.underlying3 rfl) ?_
              refine W_call rfl rfl rfl Try.func23 (by kernel_rfl) rfl (args3 (es rfl (es rfl (es rfl (es rfl (et rfl))))) (es rfl (es rfl (et rfl))) (et rfl)) (many_c (f := x1) (t := x2) (hS54.roC h_rv) ) ?_
              rintro _ w59 ⟨rfl, hP59⟩
              refine ⟨_, rfl, ?_⟩
              have hS59 := hS54.join hP59
              replace hS59 : St w NoX [c2] w59 := hS59
              refine W_v rfl rfl (V_mov rfl (et rfl)) ?_
              refine W_v rfl rfl (V_ext (v := .int .i64 ((inN l x1 x2))) rfl (et rfl) rfl) ?_
              refine W_v rfl rfl (V_ext (v := .bool (decide (inE l x1 x2 = 0 ∨ inE l x1 x2 = 4))) rfl (es rfl (et rfl)) rfl) ?_
              refine W_v rfl rfl (V_asg rfl (es rfl (et rfl))) ?_
              refine W_v rfl rfl (V_asg rfl (es rfl (et rfl))) ?_
              refine W_end ?_
              refine gen_Q (fun A60 hA60 => ?_)
              have hsz60 : SzN A60 195 := by rw [hA60]; infer_instance
              have hdf60 : A60.defers = [] := by rw [hA60]; simp only [df_put]; exact hdf55
              have l0_60 := lookE hA60 0 (es rfl (es rfl (es rfl (es rfl (es rfl (es rfl (es rfl (es rfl (es rfl (es rfl (es rfl l0_55)))))))))))
              have l3_60 := lookE hA60 3 (es rfl (es rfl (es rfl (es rfl (es rfl (es rfl (es rfl (es rfl (es rfl (es rfl (es rfl l3_55)))))))))))
              have l7_60 := lookE hA60 7 (es rfl (es rfl (es rfl (es rfl (es rfl (es rfl (es rfl (es rfl (es rfl (es rfl (es rfl l7_55)))))))))))
              have l8_60 := lookE hA60 8 (es rfl (es rfl (es rfl (es rfl (es rfl (es rfl (es rfl (es rfl (es rfl (es rfl (es rfl l8_55)))))))))))
              have l9_60 := lookE hA60 9 (es rfl (et rfl))
              have l10_60 := lookE hA60 10 (et rfl)
              clear hA60 hsz55 hdf55 l0_55 l3_55 l7_55 l8_55
              refine then_n (hK56 _ _ ?_)
              clear hK56
              refine wp_seq_k (fun K61 hK61 => ?_)
              -- region 6
              refine region_in ?_
              refine W_v rfl rfl (V_mov rfl l0_60) ?_
              refine W_v rfl rfl (V_ixA (sz := 1) (off' := 0) 0 rfl (es rfl l3_60) rfl (by rfl) Try.underlying41 (by decide) (by kernel_rfl) rfl) ?_
              refine W_r rfl rfl (VR_ldC rfl (et rfl) (cell_box (v := .int .i64 (x0)) (hS59.obj 0 rfl hc2) rfl) Try.underlying3 rfl) ?_
              refine W_v rfl rfl (V_ixA (sz := 1) (off' := 2) 2 rfl (es rfl (es rfl (es rfl l3_60))) rfl (by rfl) Try.underlying41 (by decide) (by kernel_rfl) rfl) ?_
              refine W_r rfl rfl (VR_ldC rfl (et rfl) (cell_box (v := .int .i64 (x2)) (hS59.obj 0 rfl hc2) rfl) Try.underlying3 rfl) ?_
              refine W_call rfl rfl rfl Try.func23 (by kernel_rfl) rfl (args3 (es rfl (es rfl (es rfl (es rfl (et rfl))))) (es rfl (es rfl (et rfl))) (et rfl)) (many_c (f := x0) (t := x2) (hS59.roC h_rv) ) ?_
              rintro _ w64 ⟨rfl, hP64⟩
              refine ⟨_, rfl, ?_⟩
              have hS64 := hS59.join hP64
              replace hS64 : St w NoX [c2] w64 := hS64
              refine W_v rfl rfl (V_mov rfl (et rfl)) ?_
              refine W_v rfl rfl (V_ext (v := .int .i64 ((inN l x0 x2))) rfl (et rfl) rfl) ?_
              refine W_v rfl rfl (V_ext (v := .bool (decide (inE l x0 x2 = 0 ∨ inE l x0 x2 = 4))) rfl (es rfl (et rfl)) rfl) ?_
              refine W_v rfl rfl (V_asg rfl (es rfl (et rfl))) ?_
              refine W_v rfl rfl (V_asg rfl (es rfl (et rfl))) ?_
              refine W_end ?_
              refine gen_Q (fun A65 hA65 => ?_)
              have hsz65 : SzN A65 195 := by rw [hA65]; infer_instance
              have hdf65 : A65.defers = [] := by rw [hA65]; simp only [df_put]; exact hdf60
              have l0_65 := lookE hA65 0 (es rfl (es rfl (es rfl (es rfl (es rfl (es rfl (es rfl (es rfl (es rfl (es rfl (es rfl l0_60)))))))))))
              have l7_65 := lookE hA65 7 (es rfl (es rfl (es rfl (es rfl (es rfl (es rfl (es rfl (es rfl (es rfl (es rfl (es rfl l7_60)))))))))))
              have l8_65 := lookE hA65 8 (es rfl (es rfl (es rfl (es rfl (es rfl (es rfl (es rfl (es rfl (es rfl (es rfl (es rfl l8_60)))))))))))
              have l9_65 := lookE hA65 9 (es rfl (es rfl (es rfl (es rfl (es rfl (es rfl (es rfl (es rfl (es rfl (es rfl (es rfl l9_60)))))))))))
              have l10_65 := lookE hA65 10 (es rfl (es rfl (es rfl (es rfl (es rfl (es rfl (es rfl (es rfl (es rfl (es rfl (es rfl l10_60)))))))))))
              have l11_65 := lookE hA65 11 (es rfl (et rfl))
              have l12_65 := lookE hA65 12 (et rfl)
              clear hA65 hsz60 hdf60 l0_60 l3_60 l7_60 l8_60 l9_60 l10_60
              have hS66 : St w NoX [] w64 := hS64.sel [] (by decide) rfl
              refine then_n (hK61 _ _ ?_)
              clear hK61
              refine wp_seq_k (fun K67 hK67 => ?_)
              -- region 7
              refine region_in ?_
              refine W_v rfl rfl (V_mov rfl l0_65) ?_
              refine W_call rfl rfl rfl Try.func23 (by kernel_rfl) rfl (args3 (et rfl) rfl rfl) (many_c (f := 0) (t := 1601) (hS66.roC h_rv) ) ?_
              rintro _ w68 ⟨rfl, hP68⟩
              refine ⟨_, rfl, ?_⟩
              have hS68 := hS66.join hP68
              replace hS68 : St w NoX [] w68 := hS68
              refine W_v rfl rfl (V_mov rfl (et rfl)) ?_
              refine W_v rfl rfl (V_ext (v := .int .i64 ((inN l 0 1601))) rfl (et rfl) rfl) ?_
              refine W_v rfl rfl (V_ext (v := .bool (decide (inE l 0 1601 = 0 ∨ inE l 0 1601 = 4))) rfl (es rfl (et rfl)) rfl) ?_
              refine W_v rfl rfl (V_asg rfl (es rfl (et rfl))) ?_
              refine W_v rfl rfl (V_asg rfl (es rfl (et rfl))) ?_
              refine W_end ?_
              refine gen_Q (fun A69 hA69 => ?_)
              have hsz69 : SzN A69 195 := by rw [hA69]; infer_instance
              have hdf69 : A69.defers = [] := by rw [hA69]; simp only [df_put]; exact hdf65
              have l0_69 := lookE hA69 0 (es rfl (es rfl (es rfl (es rfl (es rfl (es rfl (es rfl l0_65)))))))
              have l7_69 := lookE hA69 7 (es rfl (es rfl (es rfl (es rfl (es rfl (es rfl (es rfl l7_65)))))))
              have l8_69 := lookE hA69 8 (es rfl (es rfl (es rfl (es rfl (es rfl (es rfl (es rfl l8_65)))))))
              have l9_69 := lookE hA69 9 (es rfl (es rfl (es rfl (es rfl (es rfl (es rfl (es rfl l9_65)))))))
              have l10_69 := lookE hA69 10 (es rfl (es rfl (es rfl (es rfl (es rfl (es rfl (es rfl l10_65)))))))
              have l11_69 := lookE hA69 11 (es rfl (es rfl (es rfl (es rfl (es rfl (es rfl (es rfl l11_65)))))))
              have l12_69 := lookE hA69 12 (es rfl (es rfl (es rfl (es rfl (es rfl (es rfl (es rfl l12_65)))))))
              have l13_69 := lookE hA69 13 (es rfl (et rfl))
              have l14_69 := lookE hA69 14 (et rfl)
              clear hA69 hsz65 hdf65 l0_65 l7_65 l8_65 l9_65 l10_65 l11_65 l12_65
              refine then_n (hK67 _ _ ?_)
              clear hK67
              refine wp_seq_k (fun K70 hK70 => ?_)
              refine wp_seq_k (fun K71 hK71 => ?_)
              -- region 8
              refine region_in ?_
              refine W_v rfl rfl (V_mov rfl l8_69) ?_
              refine W_v rfl rfl (V_notd rfl (et rfl)) ?_
              refine W_sure (c' := false) rfl rfl (V_mov rfl (et rfl)) (by rw [decide_eq_false_iff_not]; exact fun h => h (many_is hck (by omega)).1) ?_
              refine W_v rfl (wanted_t rfl rfl (et rfl) (ez rfl)) (V_mov rfl (es rfl (es rfl (es rfl l10_69)))) ?_
              refine W_v rfl (wanted_t rfl rfl (es rfl (et rfl)) (ez rfl)) (V_notd rfl (et rfl)) ?_
              refine W_v rfl rfl (V_pickF rfl (es rfl (es rfl (et rfl))) (et rfl)) ?_
              refine W_sure (c' := false) rfl rfl (V_mov rfl (et rfl)) (by rw [decide_eq_false_iff_not]; exact fun h => h (many_is hck (by omega)).1) ?_
              refine W_v rfl (wanted_t rfl rfl (et rfl) (ez rfl)) (V_mov rfl (es rfl (es rfl (es rfl (es rfl (es rfl (es rfl (es rfl l12_69)))))))) ?_
              refine W_v rfl (wanted_t rfl rfl (es rfl (et rfl)) (ez rfl)) (V_notd rfl (et rfl)) ?_
              refine W_v rfl rfl (V_pickF rfl (es rfl (es rfl (et rfl))) (et rfl)) ?_
              refine W_sure (c' := false) rfl rfl (V_mov rfl (et rfl)) (by rw [decide_eq_false_iff_not]; exact fun h => h (many_is hck (by omega)).1) ?_
              refine W_v rfl (wanted_t rfl rfl (et rfl) (ez rfl)) (V_mov rfl (es rfl (es rfl (es rfl (es rfl (es rfl (es rfl (es rfl (es rfl (es rfl (es rfl (es rfl l14_69)))))))))))) ?_
              refine W_v rfl (wanted_t rfl rfl (es rfl (et rfl)) (ez rfl)) (V_notd rfl (et rfl)) ?_
              refine W_v rfl rfl (V_pickF rfl (es rfl (es rfl (et rfl))) (et rfl)) ?_
              refine W_sure (c' := false) rfl rfl (V_mov rfl (et rfl)) (by rw [decide_eq_false_iff_not]; exact fun h => h (many_is hck (by omega)).1) ?_
              refine W_v rfl (wanted_t rfl rfl (et rfl) (ez rfl)) (V_mov rfl (es rfl (es rfl (es rfl (es rfl (es rfl (es rfl (es rfl (es rfl (es rfl (es rfl (es rfl (es rfl (es rfl (es rfl (es rfl l7_69)))))))))))))))) ?_
              refine W_v rfl (wanted_t rfl rfl (es rfl (et rfl)) (ez rfl)) (V_mov rfl (es rfl (es rfl (es rfl (es rfl (es rfl (es rfl (es rfl (es rfl (es rfl (es rfl (es rfl (es rfl (es rfl (es rfl (es rfl (es rfl l9_69))))))))))))))))) ?_
              refine W_v rfl (wanted_t rfl rfl (es rfl (es rfl (et rfl))) (ez rfl)) (V_add rfl (es rfl (et rfl)) (et rfl) (by omega) (by omega)) ?_
              refine W_v rfl (wanted_t rfl rfl (es rfl (es rfl (es rfl (et rfl)))) (ez rfl)) (V_mov rfl (es rfl (es rfl (es rfl (es rfl (es rfl (es rfl (es rfl (es rfl (es rfl (es rfl (es rfl (es rfl (es rfl (es rfl (es rfl (es rfl (es rfl (es rfl l11_69))))))))))))))))))) ?_
              refine W_v rfl (wanted_t rfl rfl (es rfl (es rfl (es rfl (es rfl (et rfl))))) (ez rfl)) (V_neq rfl (es rfl (et rfl)) (et rfl)) ?_
              refine W_v rfl rfl (V_pickF rfl (es rfl (es rfl (es rfl (es rfl (es rfl (et rfl)))))) (et rfl)) ?_
              refine W_end ?_
              refine gen_Q (fun A72 hA72 => ?_)
              have hsz72 : SzN A72 195 := by rw [hA72]; infer_instance
              have hdf72 : A72.defers = [] := by rw [hA72]; simp only [df_put]; exact hdf69
              have l0_72 := lookE hA72 0 (es rfl (es rfl (es rfl (es rfl (es rfl (es rfl (es rfl (es rfl (es rfl (es rfl (es rfl (es rfl (es rfl (es rfl (es rfl (es rfl (es rfl (es rfl (es rfl (es rfl (es rfl l0_69)))))))))))))))))))))
              have l13_72 := lookE hA72 13 (es rfl (es rfl (es rfl (es rfl (es rfl (es rfl (es rfl (es rfl (es rfl (es rfl (es rfl (es rfl (es rfl (es rfl (es rfl (es rfl (es rfl (es rfl (es rfl (es rfl (es rfl l13_69)))))))))))))))))))))
              have l112_72 := lookE hA72 112 (et rfl)
              clear hA72 hsz69 hdf69 l0_69 l7_69 l8_69 l9_69 l10_69 l11_69 l12_69 l13_69 l14_69
              refine then_n (hK71 _ _ ?_)
              clear hK71
              refine cond_not l112_72 (by rw [decide_eq_false_iff_not]; rw [(many_is hck (by omega)).2, (many_is hck (by omega)).2, (many_is hck (by omega)).2, cn_add l (by omega)]; simp) ?_
              refine wp_skip ?_
              refine then_n (hK70 _ _ ?_)
              clear hK70
              refine wp_seq_k (fun K73 hK73 => ?_)
              -- region 10
              refine region_in ?_
              refine W_v rfl rfl (V_asg rfl rfl) ?_
              refine W_end ?_
              refine gen_Q (fun A74 hA74 => ?_)
              have hsz74 : SzN A74 195 := by rw [hA74]; infer_instance
              have hdf74 : A74.defers = [] := by rw [hA74]; simp only [df_put]; exact hdf72
              have l0_74 := lookE hA74 0 (es rfl l0_72)
              have l13_74 := lookE hA74 13 (es rfl l13_72)
              have l15_74 := lookE hA74 15 (et rfl)
              clear hA74 hsz72 hdf72 l0_72 l13_72 l112_72
              refine then_n (hK73 _ _ ?_)
              clear hK73
              refine wp_seq_k (fun K75 hK75 => ?_)
              refine wp_seq_k (fun K76 hK76 => ?_)
              -- region 11
              refine region_in ?_
              refine W_v rfl rfl (V_asg rfl rfl) ?_
              refine W_end ?_
              refine gen_Q (fun A77 hA77 => ?_)
              have hsz77 : SzN A77 195 := by rw [hA77]; infer_instance
              have hdf77 : A77.defers = [] := by rw [hA77]; simp only [df_put]; exact hdf74
              have l0_77 := lookE hA77 0 (es rfl l0_74)
              have l13_77 := lookE hA77 13 (es rfl l13_74)
              have l15_77 := lookE hA77 15 (es rfl l15_74)
              have l16_77 := lookE hA77 16 (et rfl)
              clear hA77 hsz74 hdf74 l0_74 l13_74 l15_74
              refine then_n (hK76 _ _ ?_)
              clear hK76
              refine wp_block ?_
              -- loop 12
              refine loopX (fun mz A' w' => SzN A' 195 ∧ A'.defers = [] ∧ (∃ (i : Nat), (mz = l.length - i) ∧ (i ≤ l.length) ∧ (0 ≤ nz (l.take i) ∧ nz (l.take i) ≤ (l.take i).length) ∧ ((l.take i).length ≤ 8) ∧ (EV A' (.tmp 16) = .int .i64 (i : Int)) ∧ (EV A' (.tmp 15) = .int .i64 (nz (l.take i))) ∧ (EV A' (.tmp 0) = EV A77 (.tmp 0)) ∧ (EV A' (.tmp 13) = EV A77 (.tmp 13)) ∧ (St w NoX [] w'))) (l.length - 0) ⟨hsz77, hdf77, 0, rfl, (by omega), (cn_bd _ _ _), (by rw [List.length_take]; omega), ((l16_77).trans (by first | rfl | (simp; done) | (congr 1; omega))), ((l15_77).trans (rfl)), rfl, rfl, hS68⟩ ?_
              clear hS68
              rintro n78 A78 w78 ⟨hsz78, hdf78, i, hm78, hi, hnb, hlt, l16_78, l15_78, u0_78, u13_78, hS78⟩
              have l0_78 := u0_78.trans l0_77
              have l13_78 := u13_78.trans l13_77
              refine wp_seq_k (fun K79 hK79 => ?_)
              refine wp_seq_k (fun K80 hK80 => ?_)
              -- region 12
              refine region_in ?_
              refine W_v rfl rfl (V_mov rfl l16_78) ?_
              refine W_v rfl rfl (V_mov rfl (es rfl l0_78)) ?_
              refine W_v rfl rfl (V_lenS rfl (et rfl) (sl_SlN h_rv.at) Try.underlying22) ?_
              refine W_v rfl rfl (V_lss rfl (es rfl (es rfl (et rfl))) (et rfl)) ?_
              refine W_end ?_
              refine gen_Q (fun A81 hA81 => ?_)
              have hsz81 : SzN A81 195 := by rw [hA81]; infer_instance
              have hdf81 : A81.defers = [] := by rw [hA81]; simp only [df_put]; exact hdf78
              have l0_81 := lookE hA81 0 (es rfl (es rfl (es rfl (es rfl l0_78))))
              have l13_81 := lookE hA81 13 (es rfl (es rfl (es rfl (es rfl l13_78))))
              have l15_81 := lookE hA81 15 (es rfl (es rfl (es rfl (es rfl l15_78))))
              have l16_81 := lookE hA81 16 (es rfl (es rfl (es rfl (es rfl l16_78))))
              have l116_81 := lookE hA81 116 (et rfl)
              clear hA81 hsz78 hdf78 l16_78 l15_78 l0_78 l13_78
              refine then_n (hK80 _ _ ?_)
              clear hK80
              refine cond_dec l116_81 (fun c82 => ?_) (fun c82 => ?_)
              · skip
                refine wp_skip ?_
                refine then_n (hK79 _ _ ?_)
                clear hK79
                refine wp_seq_k (fun K83 hK83 => ?_)
                refine wp_block ?_
                refine wp_seq_k (fun K84 hK84 => ?_)
                -- region 14
                refine region_in ?_
                refine W_v rfl rfl (V_mov rfl l0_81) ?_
                refine W_v rfl rfl (V_mov rfl (es rfl l16_81)) ?_
                have k85 : i < l.length := by first | omega | (simp only [List.length_cons, List.length_nil]; omega)
                obtain ⟨y85, hy85⟩ := get_some (xs := l) (k := i) k85
                obtain ⟨B85, O85, C85, hv85⟩ := (SlN.blk (sl_SlN h_rv.at) (by first | omega | (simp only [List.length_cons, List.length_nil]; omega)))
                refine W_v rfl rfl (V_ixS (off := O85 + i) 1 (i) rfl (es rfl (et rfl)) (et rfl) hv85 (by omega) k85 Try.underlying22 (by kernel_rfl) (congrArg _ (Nat.mul_one _))) ?_
                refine W_r rfl rfl (VR_ldC rfl (et rfl) ((sl_SlN (hS78.ro h_rv)).cell hv85 (map_get hy85)) Try.underlying3 rfl) ?_
                refine W_v rfl rfl (V_neq rfl (et rfl) rfl) ?_
                refine W_end ?_
                refine gen_Q (fun A86 hA86 => ?_)
                have hsz86 : SzN A86 195 := by rw [hA86]; infer_instance
                have hdf86 : A86.defers = [] := by rw [hA86]; simp only [df_put]; exact hdf81
                have l0_86 := lookE hA86 0 (es rfl (es rfl (es rfl (es rfl (es rfl l0_81)))))
                have l13_86 := lookE hA86 13 (es rfl (es rfl (es rfl (es rfl (es rfl l13_81)))))
                have l15_86 := lookE hA86 15 (es rfl (es rfl (es rfl (es rfl (es rfl l15_81)))))
                have l16_86 := lookE hA86 16 (es rfl (es rfl (es rfl (es rfl (es rfl l16_81)))))
                have l123_86 := lookE hA86 123 (et rfl)
                clear hA86 hsz81 hdf81 l0_81 l13_81 l15_81 l16_81 l116_81
                refine then_n (hK84 _ _ ?_)
                clear hK84
                refine cond_dec l123_86 (fun c87 => ?_) (fun c87 => ?_)
                · skip
                  -- region 15
                  refine region_in ?_
                  refine W_v rfl rfl (V_mov rfl l15_86) ?_
                  refine W_v rfl rfl (V_add rfl (et rfl) rfl (by omega) (by omega)) ?_
                  refine W_v rfl rfl (V_asg rfl (et rfl)) ?_
                  refine W_end ?_
                  refine gen_Q (fun A88 hA88 => ?_)
                  have hsz88 : SzN A88 195 := by rw [hA88]; infer_instance
                  have hdf88 : A88.defers = [] := by rw [hA88]; simp only [df_put]; exact hdf86
                  have l0_88 := lookE hA88 0 (es rfl (es rfl (es rfl l0_86)))
                  have l13_88 := lookE hA88 13 (es rfl (es rfl (es rfl l13_86)))
                  have l15_88 := lookE hA88 15 (et rfl)
                  have l16_88 := lookE hA88 16 (es rfl (es rfl (es rfl l16_86)))
                  clear hA88 hsz86 hdf86 l0_86 l13_86 l15_86 l16_86 l123_86
                  refine inb_n ?_
                  refine then_n (hK83 _ _ ?_)
                  clear hK83
                  -- region 13
                  refine region_in ?_
                  refine W_v rfl rfl (V_mov rfl l16_88) ?_
                  refine W_v rfl rfl (V_add rfl (et rfl) rfl (by omega) (by omega)) ?_
                  refine W_v rfl rfl (V_asg rfl (et rfl)) ?_
                  refine W_end ?_
                  refine gen_Q (fun A89 hA89 => ?_)
                  have hsz89 : SzN A89 195 := by rw [hA89]; infer_instance
                  have hdf89 : A89.defers = [] := by rw [hA89]; simp only [df_put]; exact hdf88
                  have l0_89 := lookE hA89 0 (es rfl (es rfl (es rfl l0_88)))
                  have l13_89 := lookE hA89 13 (es rfl (es rfl (es rfl l13_88)))
                  have l15_89 := lookE hA89 15 (es rfl (es rfl (es rfl l15_88)))
                  have l16_89 := lookE hA89 16 (et rfl)
                  clear hA89 hsz88 hdf88 l0_88 l13_88 l15_88 l16_88
                  refine then_n ⟨l.length - (i + 1), by simp only [hm78]; omega, hsz89, hdf89, (i + 1), rfl, (by omega), (cn_bd _ _ _), (by rw [List.length_take]; omega), ((l16_89).trans (by first | rfl | (simp; done) | (congr 1; omega))), ((l15_89).trans ((by rw [nz_step hin0 hy85]; first | rw [if_pos c87] | (rw [if_neg c87]; simp)))), ((l0_89).trans l0_77.symm), ((l13_89).trans l13_77.symm), hS78⟩
                · skip
                  refine wp_skip ?_
                  refine inb_n ?_
                  refine then_n (hK83 _ _ ?_)
                  clear hK83
                  -- region 13
                  refine region_in ?_
                  refine W_v rfl rfl (V_mov rfl l16_86) ?_
                  refine W_v rfl rfl (V_add rfl (et rfl) rfl (by omega) (by omega)) ?_
                  refine W_v rfl rfl (V_asg rfl (et rfl)) ?_
                  refine W_end ?_
                  refine gen_Q (fun A90 hA90 => ?_)
                  have hsz90 : SzN A90 195 := by rw [hA90]; infer_instance
                  have hdf90 : A90.defers = [] := by rw [hA90]; simp only [df_put]; exact hdf86
                  have l0_90 := lookE hA90 0 (es rfl (es rfl (es rfl l0_86)))
                  have l13_90 := lookE hA90 13 (es rfl (es rfl (es rfl l13_86)))
                  have l15_90 := lookE hA90 15 (es rfl (es rfl (es rfl l15_86)))
                  have l16_90 := lookE hA90 16 (et rfl)
                  clear hA90 hsz86 hdf86 l0_86 l13_86 l15_86 l16_86 l123_86
                  refine then_n ⟨l.length - (i + 1), by simp only [hm78]; omega, hsz90, hdf90, (i + 1), rfl, (by omega), (cn_bd _ _ _), (by rw [List.length_take]; omega), ((l16_90).trans (by first | rfl | (simp; done) | (congr 1; omega))), ((l15_90).trans ((by rw [nz_step hin0 hy85]; first | rw [if_pos c87] | (rw [if_neg c87]; simp)))), ((l0_90).trans l0_77.symm), ((l13_90).trans l13_77.symm), hS78⟩
              · skip
                refine wp_exit ?_
                refine then_exit ?_
                refine then_exit ?_
                refine inb_hit ?_
                refine then_n (hK75 _ _ ?_)
                clear hK75
                refine wp_seq_k (fun K91 hK91 => ?_)
                -- region 16
                refine region_in ?_
                refine W_v rfl rfl (V_mov rfl l0_81) ?_
                refine W_call rfl rfl rfl Try.func15 (by kernel_rfl) rfl (args1 (et rfl)) (kTg_c (hS78.roC h_rv) ) ?_
                rintro _ w92 ⟨v_92, rfl, hP92⟩
                refine ⟨_, rfl, ?_⟩
                obtain ⟨c_92, hc_92, hP92⟩ := gen1 hP92
                have hS92 := hS78.join hP92
                replace hS92 : St w NoX [c_92] w92 := hS92
                refine W_v rfl rfl (V_mov rfl (et rfl)) ?_
                refine W_v rfl rfl (V_ext (v := v_92) rfl (et rfl) rfl) ?_
                refine W_v rfl rfl (V_ext (v := .int .i64 ((ckR l).2)) rfl (es rfl (et rfl)) rfl) ?_
                refine W_v rfl rfl (V_asg rfl (es rfl (et rfl))) ?_
                refine W_v rfl rfl (V_asg rfl (es rfl (et rfl))) ?_
                refine W_end ?_
                refine gen_Q (fun A93 hA93 => ?_)
                have hsz93 : SzN A93 195 := by rw [hA93]; infer_instance
                have hdf93 : A93.defers = [] := by rw [hA93]; simp only [df_put]; exact hdf81
                have l0_93 := lookE hA93 0 (es rfl (es rfl (es rfl (es rfl (es rfl (es rfl (es rfl l0_81)))))))
                have l13_93 := lookE hA93 13 (es rfl (es rfl (es rfl (es rfl (es rfl (es rfl (es rfl l13_81)))))))
                have l15_93 := lookE hA93 15 (es rfl (es rfl (es rfl (es rfl (es rfl (es rfl (es rfl l15_81)))))))
                have l17_93 := lookE hA93 17 (es rfl (et rfl))
                have l18_93 := lookE hA93 18 (et rfl)
                clear hA93 hsz81 hdf81 l0_81 l13_81 l15_81 l16_81 l116_81
                refine then_n (hK91 _ _ ?_)
                clear hK91
                refine wp_seq_k (fun K94 hK94 => ?_)
                refine wp_seq_k (fun K95 hK95 => ?_)
                -- region 17
                refine region_in ?_
                refine W_v rfl rfl (V_mov rfl l13_93) ?_
                refine W_v rfl rfl (V_mov rfl (es rfl l15_93)) ?_
                refine W_v rfl rfl (V_neq rfl (es rfl (et rfl)) (et rfl)) ?_
                refine W_sure (c' := false) rfl rfl (V_mov rfl (et rfl)) (by rw [decide_eq_false_iff_not]; rw [(many_is hck (by omega)).2, List.take_of_length_le (by omega)]; exact fun h => h rfl) ?_
                refine W_v rfl (wanted_t rfl rfl (et rfl) (ez rfl)) (V_mov rfl (es rfl (es rfl (es rfl (es rfl l18_93))))) ?_
                refine W_v rfl (wanted_t rfl rfl (es rfl (et rfl)) (ez rfl)) (V_neq rfl (et rfl) rfl) ?_
                refine W_v rfl rfl (V_pickF rfl (es rfl (es rfl (et rfl))) (et rfl)) ?_
                refine W_sure (c' := false) rfl rfl (V_mov rfl (et rfl)) (by simp [c15]) ?_
                refine W_v rfl (wanted_t rfl rfl (et rfl) (ez rfl)) (V_mov rfl (es rfl (es rfl (es rfl (es rfl (es rfl (es rfl (es rfl (es rfl l17_93))))))))) ?_
                refine W_v rfl (wanted_t rfl rfl (es rfl (et rfl)) (ez rfl)) (V_lenS rfl (et rfl) (ow_at (hS92.chq 0 rfl hc_92)) Try.underlying22) ?_
                refine W_v rfl (wanted_t rfl rfl (es rfl (es rfl (et rfl))) (ez rfl)) (V_mov rfl (es rfl (es rfl (es rfl (es rfl (es rfl (es rfl (es rfl (es rfl (es rfl (es rfl l15_93))))))))))) ?_
                refine W_v rfl (wanted_t rfl rfl (es rfl (es rfl (es rfl (et rfl)))) (ez rfl)) (V_gtr rfl (es rfl (et rfl)) (et rfl)) ?_
                refine W_v rfl rfl (V_pickF rfl (es rfl (es rfl (es rfl (es rfl (et rfl))))) (et rfl)) ?_
                refine W_end ?_
                refine gen_Q (fun A96 hA96 => ?_)
                have hsz96 : SzN A96 195 := by rw [hA96]; infer_instance
                have hdf96 : A96.defers = [] := by rw [hA96]; simp only [df_put]; exact hdf93
                have l0_96 := lookE hA96 0 (es rfl (es rfl (es rfl (es rfl (es rfl (es rfl (es rfl (es rfl (es rfl (es rfl (es rfl (es rfl (es rfl l0_93)))))))))))))
                have l15_96 := lookE hA96 15 (es rfl (es rfl (es rfl (es rfl (es rfl (es rfl (es rfl (es rfl (es rfl (es rfl (es rfl (es rfl (es rfl l15_93)))))))))))))
                have l17_96 := lookE hA96 17 (es rfl (es rfl (es rfl (es rfl (es rfl (es rfl (es rfl (es rfl (es rfl (es rfl (es rfl (es rfl (es rfl l17_93)))))))))))))
                have l143_96 := lookE hA96 143 (et rfl)
                clear hA96 hsz93 hdf93 l0_93 l13_93 l15_93 l17_93 l18_93
                refine then_n (hK95 _ _ ?_)
                clear hK95
                refine cond_not l143_96 (by rw [decide_eq_false_iff_not]; rw [List.take_of_length_le (by omega)]; have := tgT_len hck; omega) ?_
                refine wp_skip ?_
                refine then_n (hK94 _ _ ?_)
                clear hK94
                refine wp_seq_k (fun K97 hK97 => ?_)
                -- region 19
                refine region_in ?_
                refine W_v rfl rfl (V_asg rfl rfl) ?_
                refine W_end ?_
                refine gen_Q (fun A98 hA98 => ?_)
                have hsz98 : SzN A98 195 := by rw [hA98]; infer_instance
                have hdf98 : A98.defers = [] := by rw [hA98]; simp only [df_put]; exact hdf96
                have l0_98 := lookE hA98 0 (es rfl l0_96)
                have l15_98 := lookE hA98 15 (es rfl l15_96)
                have l17_98 := lookE hA98 17 (es rfl l17_96)
                have l19_98 := lookE hA98 19 (et rfl)
                clear hA98 hsz96 hdf96 l0_96 l15_96 l17_96 l143_96
                refine then_n (hK97 _ _ ?_)
                clear hK97
                refine wp_seq_k (fun K99 hK99 => ?_)
                refine wp_seq_k (fun K100 hK100 => ?_)
                -- region 20
                refine region_in ?_
                refine W_v rfl rfl (V_asg rfl rfl) ?_
                refine W_end ?_
                refine gen_Q (fun A101 hA101 => ?_)
                have hsz101 : SzN A101 195 := by rw [hA101]; infer_instance
                have hdf101 : A101.defers = [] := by rw [hA101]; simp only [df_put]; exact hdf98
                have l0_101 := lookE hA101 0 (es rfl l0_98)
                have l15_101 := lookE hA101 15 (es rfl l15_98)
                have l17_101 := lookE hA101 17 (es rfl l17_98)
                have l19_101 := lookE hA101 19 (es rfl l19_98)
                have l20_101 := lookE hA101 20 (et rfl)
                clear hA101 hsz98 hdf98 l0_98 l15_98 l17_98 l19_98
                refine then_n (hK100 _ _ ?_)
                clear hK100
                refine wp_block ?_
                -- loop 21
                refine loopX (fun mz A' w' => SzN A' 195 ∧ A'.defers = [] ∧ (∃ (j : Nat), (mz = (tgT l).length - j) ∧ (j ≤ (tgT l).length) ∧ (0 ≤ sm l ((tgT l).take j) ∧ sm l ((tgT l).take j) ≤ nz l) ∧ (EV A' (.tmp 20) = .int .i64 (j : Int)) ∧ (EV A' (.tmp 19) = .int .i64 (sm l ((tgT l).take j))) ∧ (EV A' (.tmp 0) = EV A101 (.tmp 0)) ∧ (EV A' (.tmp 15) = EV A101 (.tmp 15)) ∧ (EV A' (.tmp 17) = EV A101 (.tmp 17)) ∧ (St w NoX [io .i64 v_92 (tgT l)] w'))) ((tgT l).length - 0) ⟨hsz101, hdf101, 0, rfl, (by omega), (sm_bd hck _), ((l20_101).trans (by first | rfl | (simp; done) | (congr 1; omega))), ((l19_101).trans (rfl)), rfl, rfl, rfl, (by subst hc_92; exact hS92)⟩ ?_
                clear hS92 hc_92
                rintro n102 A102 w102 ⟨hsz102, hdf102, j, hm102, hj, hsb, l20_102, l19_102, u0_102, u15_102, u17_102, hS102⟩
                have l0_102 := u0_102.trans l0_101
                have l15_102 := u15_102.trans l15_101
                have l17_102 := u17_102.trans l17_101
                obtain ⟨c_102, hc_102, hS102⟩ := gen1 hS102
                refine wp_seq_k (fun K103 hK103 => ?_)
                refine wp_seq_k (fun K104 hK104 => ?_)
                -- region 21
                refine region_in ?_
                refine W_v rfl rfl (V_mov rfl l20_102) ?_
                refine W_v rfl rfl (V_mov rfl (es rfl l17_102)) ?_
                refine W_v rfl rfl (V_lenS rfl (et rfl) (ow_at (hS102.chq 0 rfl hc_102)) Try.underlying22) ?_
                refine W_v rfl rfl (V_lss rfl (es rfl (es rfl (et rfl))) (et rfl)) ?_
                refine W_end ?_
                refine gen_Q (fun A105 hA105 => ?_)
                have hsz105 : SzN A105 195 := by rw [hA105]; infer_instance
                have hdf105 : A105.defers = [] := by rw [hA105]; simp only [df_put]; exact hdf102
                have l0_105 := lookE hA105 0 (es rfl (es rfl (es rfl (es rfl l0_102))))
                have l15_105 := lookE hA105 15 (es rfl (es rfl (es rfl (es rfl l15_102))))
                have l17_105 := lookE hA105 17 (es rfl (es rfl (es rfl (es rfl l17_102))))
                have l19_105 := lookE hA105 19 (es rfl (es rfl (es rfl (es rfl l19_102))))
                have l20_105 := lookE hA105 20 (es rfl (es rfl (es rfl (es rfl l20_102))))
                have l147_105 := lookE hA105 147 (et rfl)
                clear hA105 hsz102 hdf102 l20_102 l19_102 l0_102 l15_102 l17_102
                refine then_n (hK104 _ _ ?_)
                clear hK104
                refine cond_dec l147_105 (fun c106 => ?_) (fun c106 => ?_)
                · skip
                  refine wp_skip ?_
                  refine then_n (hK103 _ _ ?_)
                  clear hK103
                  refine wp_seq_k (fun K107 hK107 => ?_)
                  refine wp_block ?_
                  refine wp_seq_k (fun K108 hK108 => ?_)
                  -- region 23
                  have k109 : j < (tgT l).length := by first | omega | (simp only [List.length_cons, List.length_nil]; omega)
                  obtain ⟨y109, hy109⟩ := get_some (xs := (tgT l)) (k := j) k109
                  have hr109 := tgT_mem hck (List.mem_of_getElem? hy109)
                  have hc109 := cn_bd l y109 (y109 + 1)
                  have hi109 : inN l y109 (y109 + 1) = cn l y109 (y109 + 1) := (many_is hck (by omega)).2
                  refine region_monoS 16 16 [none, none, none, none, none, none, none, none, none, none, some (SPc (fun u l' => u = .tuple #[.int .i64 (inN l y109 (y109 + 1)), .bool (decide (inE l y109 (y109 + 1) = 0 ∨ inE l y109 (y109 + 1) = 4))] ∧ l' = []) 10)] (by kernel_rfl) (by kernel_rfl) ?_
                  refine D_v rfl rfl (V_mov rfl l0_105) rfl rfl ?_
                  refine D_v rfl rfl (V_mov rfl (es rfl l17_105)) rfl rfl ?_
                  refine D_v rfl rfl (V_mov rfl (es rfl (es rfl l20_105))) rfl rfl ?_
                  obtain ⟨B109, O109, C109, hv109⟩ := (SlN.blk (ow_at (hS102.chq 0 rfl hc_102)) (by first | omega | (simp only [List.length_cons, List.length_nil]; omega)))
                  refine D_v rfl rfl (V_ixS (off := O109 + j) 1 (j) rfl (es rfl (et rfl)) (et rfl) hv109 (by omega) k109 Try.underlying22 (by kernel_rfl) (congrArg _ (Nat.mul_one _))) rfl rfl ?_
                  refine D_r rfl rfl (by kernel_rfl) (fun sx hx hF => (VR_ldC rfl (et rfl) ((ow_at ((hS102.grow hx).chq 0 rfl hc_102)).cell hv109 (map_get hy109)) Try.underlying3 rfl)) rfl rfl ?_
                  refine D_v rfl rfl (V_mov rfl (es rfl (es rfl (es rfl (es rfl (es rfl l17_105)))))) rfl rfl ?_
                  refine D_v rfl rfl (V_mov rfl (es rfl (es rfl (es rfl (es rfl (es rfl (es rfl l20_105))))))) rfl rfl ?_
                  refine D_v rfl rfl (V_ixS (off := O109 + j) 1 (j) rfl (es rfl (et rfl)) (et rfl) hv109 (by omega) k109 Try.underlying22 (by kernel_rfl) (congrArg _ (Nat.mul_one _))) rfl rfl ?_
                  refine D_r rfl rfl (by kernel_rfl) (fun sx hx hF => (VR_ldC rfl (et rfl) ((ow_at ((hS102.grow hx).chq 0 rfl hc_102)).cell hv109 (map_get hy109)) Try.underlying3 rfl)) rfl rfl ?_
                  refine D_v rfl rfl (V_add rfl (et rfl) rfl (by omega) (by omega)) rfl rfl ?_
                  refine D_call (C := fun u l' => u = .tuple #[.int .i64 (inN l y109 (y109 + 1)), .bool (decide (inE l y109 (y109 + 1) = 0 ∨ inE l y109 (y109 + 1) = 4))] ∧ l' = []) rfl rfl rfl Try.func23 (by kernel_rfl) rfl (args3 (es rfl (es rfl (es rfl (es rfl (es rfl (es rfl (es rfl (es rfl (es rfl (et rfl)))))))))) (es rfl (es rfl (es rfl (es rfl (es rfl (et rfl)))))) (et rfl)) rfl rfl (fun sx hx hF => ?_) (fun u111 l111 hu111 => ?_)
                  · refine (many_c (f := y109) (t := (y109 + 1)) ((hS102.grow hx).roC h_rv) ).mono ?_
                    rintro _ _ ⟨rfl, hz⟩
                    exact ⟨_, rfl, _, ⟨rfl, rfl⟩, hz⟩
                  obtain ⟨rfl, hl111⟩ := hu111
                  refine D_v rfl rfl (V_mov rfl (et rfl)) rfl rfl ?_
                  refine D_v rfl rfl (V_ext (v := .int .i64 ((inN l y109 (y109 + 1)))) rfl (et rfl) rfl) rfl rfl ?_
                  refine D_v rfl rfl (V_ext (v := .bool (decide (inE l y109 (y109 + 1) = 0 ∨ inE l y109 (y109 + 1) = 4))) rfl (es rfl (et rfl)) rfl) rfl rfl ?_
                  refine D_v rfl rfl (V_asg rfl (es rfl (et rfl))) rfl rfl ?_
                  refine D_v rfl rfl (V_asg rfl (es rfl (et rfl))) rfl rfl ?_
                  refine ZS_none hS102 (Nat.le_refl _) (Nat.le_refl _) (fun s112 hJ112 hL112 hF112 => ?_)
                  obtain ⟨ll111, ws111, we111, ⟨hq111, hl111r⟩, hm111, k111, e111⟩ := L.all_get hF112; cases hq111; subst hl111r
                  replace hJ112 := hJ112.add hL112 (i := 10) rfl hm111 k111 e111
                  have hS112 := hJ112.st; clear hF112 hJ112 hL112
                  generalize s112.1 = w112 at *
                  replace hS112 : St w NoX [c_102] w112 := hS112
                  refine gen_Q (fun A113 hA113 => ?_)
                  have hsz113 : SzN A113 195 := by rw [hA113]; infer_instance
                  have hdf113 : A113.defers = [] := by rw [hA113]; simp only [df_put]; exact hdf105
                  have l0_113 := lookE hA113 0 (es rfl (es rfl (es rfl (es rfl (es rfl (es rfl (es rfl (es rfl (es rfl (es rfl (es rfl (es rfl (es rfl (es rfl (es rfl (es rfl l0_105))))))))))))))))
                  have l15_113 := lookE hA113 15 (es rfl (es rfl (es rfl (es rfl (es rfl (es rfl (es rfl (es rfl (es rfl (es rfl (es rfl (es rfl (es rfl (es rfl (es rfl (es rfl l15_105))))))))))))))))
                  have l17_113 := lookE hA113 17 (es rfl (es rfl (es rfl (es rfl (es rfl (es rfl (es rfl (es rfl (es rfl (es rfl (es rfl (es rfl (es rfl (es rfl (es rfl (es rfl l17_105))))))))))))))))
                  have l19_113 := lookE hA113 19 (es rfl (es rfl (es rfl (es rfl (es rfl (es rfl (es rfl (es rfl (es rfl (es rfl (es rfl (es rfl (es rfl (es rfl (es rfl (es rfl l19_105))))))))))))))))
                  have l20_113 := lookE hA113 20 (es rfl (es rfl (es rfl (es rfl (es rfl (es rfl (es rfl (es rfl (es rfl (es rfl (es rfl (es rfl (es rfl (es rfl (es rfl (es rfl l20_105))))))))))))))))
                  have l21_113 := lookE hA113 21 (es rfl (et rfl))
                  have l22_113 := lookE hA113 22 (et rfl)
                  clear hA113 hsz105 hdf105 l0_105 l15_105 l17_105 l19_105 l20_105 l147_105
                  refine then_n (hK108 _ _ ?_)
                  clear hK108
                  refine wp_seq_k (fun K114 hK114 => ?_)
                  refine wp_seq_k (fun K115 hK115 => ?_)
                  -- region 24
                  refine region_monoS 22 22 [] (by kernel_rfl) (by kernel_rfl) ?_
                  refine D_v rfl rfl (V_mov rfl l22_113) rfl rfl ?_
                  refine D_v rfl rfl (V_notd rfl (et rfl)) rfl rfl ?_
                  refine D_sure (c' := false) rfl rfl (V_mov rfl (et rfl)) (by rw [decide_eq_false_iff_not]; have hq := tgT_mem hck (List.mem_of_getElem? hy109); exact fun h => h (many_is hck (by omega)).1) rfl rfl ?_
                  refine D_v rfl (wanted_t rfl rfl (et rfl) (ez rfl)) (V_mov rfl (es rfl (es rfl (es rfl l21_113)))) rfl rfl ?_
                  refine D_v rfl (wanted_t rfl rfl (es rfl (et rfl)) (ez rfl)) (V_lss rfl (et rfl) rfl) rfl rfl ?_
                  refine D_v rfl rfl (V_pickF rfl (es rfl (es rfl (et rfl))) (et rfl)) rfl rfl ?_
                  refine D_sure (c' := false) rfl rfl (V_mov rfl (et rfl)) (by rw [decide_eq_false_iff_not]; have hq := tgT_mem hck (List.mem_of_getElem? hy109); rw [(many_is hck (by omega)).2]; have := cn_in hq.2.2 (by omega); omega) rfl rfl ?_
                  refine D_v rfl (wanted_t rfl rfl (et rfl) (ez rfl)) (V_mov rfl (es rfl (es rfl (es rfl (es rfl (es rfl (es rfl (es rfl l20_113)))))))) rfl rfl ?_
                  refine D_v rfl (wanted_t rfl rfl (es rfl (et rfl)) (ez rfl)) (V_gtr rfl (et rfl) rfl) rfl rfl ?_
                  refine D_split rfl (wanted_t rfl rfl (es rfl (es rfl (et rfl))) (ez rfl)) (V_mov rfl (et rfl)) rfl rfl (fun c116 => ?_) (fun c116 => ?_)
                  · skip
                    refine D_v rfl (wanted_t rfl rfl (et rfl) (ez rfl)) (V_mov rfl (es rfl (es rfl (es rfl (es rfl (es rfl (es rfl (es rfl (es rfl (es rfl (es rfl l17_113))))))))))) rfl rfl ?_
                    refine D_v rfl (wanted_t rfl rfl (es rfl (et rfl)) (ez rfl)) (V_mov rfl (es rfl (es rfl (es rfl (es rfl (es rfl (es rfl (es rfl (es rfl (es rfl (es rfl (es rfl l20_113)))))))))))) rfl rfl ?_
                    refine D_v rfl (wanted_t rfl rfl (es rfl (es rfl (et rfl))) (ez rfl)) (V_ixS (off := O109 + j) 1 (j) rfl (es rfl (et rfl)) (et rfl) hv109 (by omega) k109 Try.underlying22 (by kernel_rfl) (congrArg _ (Nat.mul_one _))) rfl rfl ?_
                    refine D_r rfl (wanted_t rfl rfl (es rfl (es rfl (es rfl (et rfl)))) (ez rfl)) (by kernel_rfl) (fun sx hx hF => (VR_ldC rfl (et rfl) ((ow_at ((hS112.grow hx).chq 0 rfl hc_102)).cell hv109 (map_get hy109)) Try.underlying3 rfl)) rfl rfl ?_
                    refine D_v rfl (wanted_t rfl rfl (es rfl (es rfl (es rfl (es rfl (et rfl))))) (ez rfl)) (V_mov rfl (es rfl (es rfl (es rfl (es rfl (es rfl (es rfl (es rfl (es rfl (es rfl (es rfl (es rfl (es rfl (es rfl (es rfl l17_113))))))))))))))) rfl rfl ?_
                    refine D_v rfl (wanted_t rfl rfl (es rfl (es rfl (es rfl (es rfl (es rfl (et rfl)))))) (ez rfl)) (V_mov rfl (es rfl (es rfl (es rfl (es rfl (es rfl (es rfl (es rfl (es rfl (es rfl (es rfl (es rfl (es rfl (es rfl (es rfl (es rfl l20_113)))))))))))))))) rfl rfl ?_
                    refine D_v rfl (wanted_t rfl rfl (es rfl (es rfl (es rfl (es rfl (es rfl (es rfl (et rfl))))))) (ez rfl)) (V_sb rfl (et rfl) rfl (by omega) (by omega)) rfl rfl ?_
                    have k118 : (j - 1) < (tgT l).length := by first | omega | (simp only [List.length_cons, List.length_nil]; omega)
                    obtain ⟨y118, hy118⟩ := get_some (xs := (tgT l)) (k := (j - 1)) k118
                    have hr118 := tgT_mem hck (List.mem_of_getElem? hy118)
                    have hc118 := cn_bd l y118 (y118 + 1)
                    have hi118 : inN l y118 (y118 + 1) = cn l y118 (y118 + 1) := (many_is hck (by omega)).2
                    refine D_v rfl (wanted_t rfl rfl (es rfl (es rfl (es rfl (es rfl (es rfl (es rfl (es rfl (et rfl)))))))) (ez rfl)) (V_ixS (off := O109 + (j - 1)) 1 ((j - 1)) rfl (es rfl (es rfl (et rfl))) (et rfl) hv109 (by omega) k118 Try.underlying22 (by kernel_rfl) (congrArg _ (Nat.mul_one _))) rfl rfl ?_
                    refine D_r rfl (wanted_t rfl rfl (es rfl (es rfl (es rfl (es rfl (es rfl (es rfl (es rfl (es rfl (et rfl))))))))) (ez rfl)) (by kernel_rfl) (fun sx hx hF => (VR_ldC rfl (et rfl) ((ow_at ((hS112.grow hx).chq 0 rfl hc_102)).cell hv109 (map_get hy118)) Try.underlying3 rfl)) rfl rfl ?_
                    refine D_v rfl (wanted_t rfl rfl (es rfl (es rfl (es rfl (es rfl (es rfl (es rfl (es rfl (es rfl (es rfl (et rfl)))))))))) (ez rfl)) (V_leq rfl (es rfl (es rfl (es rfl (es rfl (es rfl (et rfl)))))) (et rfl)) rfl rfl ?_
                    refine D_v rfl (wanted_t rfl rfl (es rfl (es rfl (es rfl (es rfl (es rfl (es rfl (es rfl (es rfl (es rfl (es rfl (es rfl (es rfl (es rfl (et rfl)))))))))))))) (ez rfl)) (V_pickT rfl (es rfl (es rfl (es rfl (es rfl (es rfl (es rfl (es rfl (es rfl (es rfl (es rfl (et rfl))))))))))) (et rfl)) rfl rfl ?_
                    refine D_v rfl rfl (V_pickF rfl (es rfl (es rfl (es rfl (es rfl (es rfl (es rfl (es rfl (es rfl (es rfl (es rfl (es rfl (es rfl (es rfl (es rfl (et rfl))))))))))))))) (et rfl)) rfl rfl ?_
                    refine ZS_none hS112 (Nat.le_refl _) (Nat.le_refl _) (fun s119 hJ119 hL119 hF119 => ?_)
                    have hS119 := hJ119.st; clear hF119 hJ119 hL119
                    generalize s119.1 = w119 at *
                    replace hS119 : St w NoX [c_102] w119 := hS119
                    refine gen_Q (fun A120 hA120 => ?_)
                    have hsz120 : SzN A120 195 := by rw [hA120]; infer_instance
                    have hdf120 : A120.defers = [] := by rw [hA120]; simp only [df_put]; exact hdf113
                    have l0_120 := lookE hA120 0 (es rfl (es rfl (es rfl (es rfl (es rfl (es rfl (es rfl (es rfl (es rfl (es rfl (es rfl (es rfl (es rfl (es rfl (es rfl (es rfl (es rfl (es rfl (es rfl (es rfl (es rfl (es rfl l0_113))))))))))))))))))))))
                    have l15_120 := lookE hA120 15 (es rfl (es rfl (es rfl (es rfl (es rfl (es rfl (es rfl (es rfl (es rfl (es rfl (es rfl (es rfl (es rfl (es rfl (es rfl (es rfl (es rfl (es rfl (es rfl (es rfl (es rfl (es rfl l15_113))))))))))))))))))))))
                    have l17_120 := lookE hA120 17 (es rfl (es rfl (es rfl (es rfl (es rfl (es rfl (es rfl (es rfl (es rfl (es rfl (es rfl (es rfl (es rfl (es rfl (es rfl (es rfl (es rfl (es rfl (es rfl (es rfl (es rfl (es rfl l17_113))))))))))))))))))))))
                    have l19_120 := lookE hA120 19 (es rfl (es rfl (es rfl (es rfl (es rfl (es rfl (es rfl (es rfl (es rfl (es rfl (es rfl (es rfl (es rfl (es rfl (es rfl (es rfl (es rfl (es rfl (es rfl (es rfl (es rfl (es rfl l19_113))))))))))))))))))))))
                    have l20_120 := lookE hA120 20 (es rfl (es rfl (es rfl (es rfl (es rfl (es rfl (es rfl (es rfl (es rfl (es rfl (es rfl (es rfl (es rfl (es rfl (es rfl (es rfl (es rfl (es rfl (es rfl (es rfl (es rfl (es rfl l20_113))))))))))))))))))))))
                    have l21_120 := lookE hA120 21 (es rfl (es rfl (es rfl (es rfl (es rfl (es rfl (es rfl (es rfl (es rfl (es rfl (es rfl (es rfl (es rfl (es rfl (es rfl (es rfl (es rfl (es rfl (es rfl (es rfl (es rfl (es rfl l21_113))))))))))))))))))))))
                    have l167_120 := lookE hA120 167 (es rfl (es rfl (es rfl (es rfl (es rfl (es rfl (es rfl (es rfl (es rfl (es rfl (es rfl (es rfl (es rfl (es rfl (es rfl (es rfl (es rfl (es rfl (et rfl)))))))))))))))))))
                    have l168_120 := lookE hA120 168 (es rfl (es rfl (es rfl (es rfl (es rfl (es rfl (es rfl (es rfl (es rfl (es rfl (es rfl (es rfl (es rfl (es rfl (es rfl (es rfl (es rfl (et rfl))))))))))))))))))
                    have l171_120 := lookE hA120 171 (es rfl (es rfl (es rfl (es rfl (es rfl (es rfl (es rfl (es rfl (es rfl (es rfl (es rfl (es rfl (es rfl (es rfl (et rfl)))))))))))))))
                    have l172_120 := lookE hA120 172 (es rfl (es rfl (es rfl (es rfl (es rfl (es rfl (es rfl (es rfl (es rfl (es rfl (es rfl (es rfl (es rfl (et rfl))))))))))))))
                    have l173_120 := lookE hA120 173 (es rfl (es rfl (es rfl (es rfl (es rfl (es rfl (es rfl (es rfl (es rfl (es rfl (es rfl (es rfl (et rfl)))))))))))))
                    have l174_120 := lookE hA120 174 (es rfl (es rfl (es rfl (es rfl (es rfl (es rfl (es rfl (es rfl (es rfl (es rfl (es rfl (et rfl))))))))))))
                    have l175_120 := lookE hA120 175 (es rfl (es rfl (es rfl (es rfl (es rfl (es rfl (es rfl (es rfl (es rfl (es rfl (et rfl)))))))))))
                    have l176_120 := lookE hA120 176 (es rfl (es rfl (es rfl (es rfl (es rfl (es rfl (es rfl (es rfl (es rfl (et rfl))))))))))
                    have l177_120 := lookE hA120 177 (es rfl (es rfl (es rfl (es rfl (es rfl (es rfl (es rfl (es rfl (et rfl)))))))))
                    have l178_120 := lookE hA120 178 (es rfl (es rfl (es rfl (es rfl (es rfl (es rfl (es rfl (et rfl))))))))
                    have l179_120 := lookE hA120 179 (es rfl (es rfl (es rfl (es rfl (es rfl (es rfl (et rfl)))))))
                    have l180_120 := lookE hA120 180 (es rfl (es rfl (es rfl (es rfl (es rfl (et rfl))))))
                    have l181_120 := lookE hA120 181 (es rfl (es rfl (es rfl (es rfl (et rfl)))))
                    have l182_120 := lookE hA120 182 (es rfl (es rfl (es rfl (et rfl))))
                    have l183_120 := lookE hA120 183 (es rfl (es rfl (et rfl)))
                    have l184_120 := lookE hA120 184 (es rfl (et rfl))
                    have l185_120 := lookE hA120 185 (et rfl)
                    clear hA120 hsz113 hdf113 l0_113 l15_113 l17_113 l19_113 l20_113 l21_113 l22_113
                    refine then_n (hK115 _ _ ?_)
                    clear hK115
                    refine cond_not l185_120 (by rw [decide_eq_false_iff_not]; have := tgT_asc hck hy109 hy118 (by omega); omega) ?_
                    refine wp_skip ?_
                    refine then_n (hK114 _ _ ?_)
                    clear hK114
                    -- region 26
                    refine region_in ?_
                    refine W_v rfl rfl (V_mov rfl l19_120) ?_
                    refine W_v rfl rfl (V_mov rfl (es rfl l21_120)) ?_
                    refine W_v rfl rfl (V_add rfl (es rfl (et rfl)) (et rfl) (by omega) (by omega)) ?_
                    refine W_v rfl rfl (V_asg rfl (et rfl)) ?_
                    refine W_end ?_
                    refine gen_Q (fun A121 hA121 => ?_)
                    have hsz121 : SzN A121 195 := by rw [hA121]; infer_instance
                    have hdf121 : A121.defers = [] := by rw [hA121]; simp only [df_put]; exact hdf120
                    have l0_121 := lookE hA121 0 (es rfl (es rfl (es rfl (es rfl l0_120))))
                    have l15_121 := lookE hA121 15 (es rfl (es rfl (es rfl (es rfl l15_120))))
                    have l17_121 := lookE hA121 17 (es rfl (es rfl (es rfl (es rfl l17_120))))
                    have l19_121 := lookE hA121 19 (et rfl)
                    have l20_121 := lookE hA121 20 (es rfl (es rfl (es rfl (es rfl l20_120))))
                    have l167_121 := lookE hA121 167 (es rfl (es rfl (es rfl (es rfl l167_120))))
                    have l168_121 := lookE hA121 168 (es rfl (es rfl (es rfl (es rfl l168_120))))
                    have l171_121 := lookE hA121 171 (es rfl (es rfl (es rfl (es rfl l171_120))))
                    have l172_121 := lookE hA121 172 (es rfl (es rfl (es rfl (es rfl l172_120))))
                    have l173_121 := lookE hA121 173 (es rfl (es rfl (es rfl (es rfl l173_120))))
                    have l174_121 := lookE hA121 174 (es rfl (es rfl (es rfl (es rfl l174_120))))
                    have l175_121 := lookE hA121 175 (es rfl (es rfl (es rfl (es rfl l175_120))))
                    have l176_121 := lookE hA121 176 (es rfl (es rfl (es rfl (es rfl l176_120))))
                    have l177_121 := lookE hA121 177 (es rfl (es rfl (es rfl (es rfl l177_120))))
                    have l178_121 := lookE hA121 178 (es rfl (es rfl (es rfl (es rfl l178_120))))
                    have l179_121 := lookE hA121 179 (es rfl (es rfl (es rfl (es rfl l179_120))))
                    have l180_121 := lookE hA121 180 (es rfl (es rfl (es rfl (es rfl l180_120))))
                    have l181_121 := lookE hA121 181 (es rfl (es rfl (es rfl (es rfl l181_120))))
                    have l182_121 := lookE hA121 182 (es rfl (es rfl (es rfl (es rfl l182_120))))
                    have l183_121 := lookE hA121 183 (es rfl (es rfl (es rfl (es rfl l183_120))))
                    have l184_121 := lookE hA121 184 (es rfl (es rfl (es rfl (es rfl l184_120))))
                    clear hA121 hsz120 hdf120 l0_120 l15_120 l17_120 l19_120 l20_120 l21_120 l167_120 l168_120 l171_120 l172_120 l173_120 l174_120 l175_120 l176_120 l177_120 l178_120 l179_120 l180_120 l181_120 l182_120 l183_120 l184_120 l185_120
                    refine inb_n ?_
                    refine then_n (hK107 _ _ ?_)
                    clear hK107
                    -- region 22
                    refine region_in ?_
                    refine W_v rfl rfl (V_mov rfl l20_121) ?_
                    refine W_v rfl rfl (V_add rfl (et rfl) rfl (by omega) (by omega)) ?_
                    refine W_v rfl rfl (V_asg rfl (et rfl)) ?_
                    refine W_end ?_
                    refine gen_Q (fun A122 hA122 => ?_)
                    have hsz122 : SzN A122 195 := by rw [hA122]; infer_instance
                    have hdf122 : A122.defers = [] := by rw [hA122]; simp only [df_put]; exact hdf121
                    have l0_122 := lookE hA122 0 (es rfl (es rfl (es rfl l0_121)))
                    have l15_122 := lookE hA122 15 (es rfl (es rfl (es rfl l15_121)))
                    have l17_122 := lookE hA122 17 (es rfl (es rfl (es rfl l17_121)))
                    have l19_122 := lookE hA122 19 (es rfl (es rfl (es rfl l19_121)))
                    have l20_122 := lookE hA122 20 (et rfl)
                    have l167_122 := lookE hA122 167 (es rfl (es rfl (es rfl l167_121)))
                    have l168_122 := lookE hA122 168 (es rfl (es rfl (es rfl l168_121)))
                    have l171_122 := lookE hA122 171 (es rfl (es rfl (es rfl l171_121)))
                    have l172_122 := lookE hA122 172 (es rfl (es rfl (es rfl l172_121)))
                    have l173_122 := lookE hA122 173 (es rfl (es rfl (es rfl l173_121)))
                    have l174_122 := lookE hA122 174 (es rfl (es rfl (es rfl l174_121)))
                    have l175_122 := lookE hA122 175 (es rfl (es rfl (es rfl l175_121)))
                    have l176_122 := lookE hA122 176 (es rfl (es rfl (es rfl l176_121)))
                    have l177_122 := lookE hA122 177 (es rfl (es rfl (es rfl l177_121)))
                    have l178_122 := lookE hA122 178 (es rfl (es rfl (es rfl l178_121)))
                    have l179_122 := lookE hA122 179 (es rfl (es rfl (es rfl l179_121)))
                    have l180_122 := lookE hA122 180 (es rfl (es rfl (es rfl l180_121)))
                    have l181_122 := lookE hA122 181 (es rfl (es rfl (es rfl l181_121)))
                    have l182_122 := lookE hA122 182 (es rfl (es rfl (es rfl l182_121)))
                    have l183_122 := lookE hA122 183 (es rfl (es rfl (es rfl l183_121)))
                    have l184_122 := lookE hA122 184 (es rfl (es rfl (es rfl l184_121)))
                    clear hA122 hsz121 hdf121 l0_121 l15_121 l17_121 l19_121 l20_121 l167_121 l168_121 l171_121 l172_121 l173_121 l174_121 l175_121 l176_121 l177_121 l178_121 l179_121 l180_121 l181_121 l182_121 l183_121 l184_121
                    refine then_n ⟨(tgT l).length - (j + 1), by simp only [hm102]; omega, hsz122, hdf122, (j + 1), rfl, (by omega), (sm_bd hck _), ((l20_122).trans (by first | rfl | (simp; done) | (congr 1; omega))), ((l19_122).trans ((by rw [sm_snoc hy109, (many_is hck (by omega)).2]))), ((l0_122).trans l0_101.symm), ((l15_122).trans l15_101.symm), ((l17_122).trans l17_101.symm), (by subst hc_102; exact hS119)⟩
                  · skip
                    refine D_off rfl (wanted_f rfl rfl (et rfl) (ez rfl) rfl) rfl ?_
                    refine D_off rfl (wanted_f rfl rfl (es rfl (et rfl)) (ez rfl) rfl) rfl ?_
                    refine D_off rfl (wanted_f rfl rfl (es rfl (es rfl (et rfl))) (ez rfl) rfl) rfl ?_
                    refine D_off rfl (wanted_f rfl rfl (es rfl (es rfl (es rfl (et rfl)))) (ez rfl) rfl) rfl ?_
                    refine D_off rfl (wanted_f rfl rfl (es rfl (es rfl (es rfl (es rfl (et rfl))))) (ez rfl) rfl) rfl ?_
                    refine D_off rfl (wanted_f rfl rfl (es rfl (es rfl (es rfl (es rfl (es rfl (et rfl)))))) (ez rfl) rfl) rfl ?_
                    refine D_off rfl (wanted_f rfl rfl (es rfl (es rfl (es rfl (es rfl (es rfl (es rfl (et rfl))))))) (ez rfl) rfl) rfl ?_
                    refine D_off rfl (wanted_f rfl rfl (es rfl (es rfl (es rfl (es rfl (es rfl (es rfl (es rfl (et rfl)))))))) (ez rfl) rfl) rfl ?_
                    refine D_off rfl (wanted_f rfl rfl (es rfl (es rfl (es rfl (es rfl (es rfl (es rfl (es rfl (es rfl (et rfl))))))))) (ez rfl) rfl) rfl ?_
                    refine D_off rfl (wanted_f rfl rfl (es rfl (es rfl (es rfl (es rfl (es rfl (es rfl (es rfl (es rfl (es rfl (et rfl)))))))))) (ez rfl) rfl) rfl ?_
                    refine D_v rfl (wanted_t rfl rfl (es rfl (es rfl (es rfl (es rfl (es rfl (es rfl (es rfl (es rfl (es rfl (es rfl (es rfl (es rfl (es rfl (et rfl)))))))))))))) (ez rfl)) (V_pickF rfl (es rfl (es rfl (es rfl (es rfl (es rfl (es rfl (es rfl (es rfl (es rfl (es rfl (et rfl))))))))))) rfl) rfl rfl ?_
                    refine D_v rfl rfl (V_pickF rfl (es rfl (es rfl (es rfl (es rfl (es rfl (es rfl (es rfl (es rfl (es rfl (es rfl (es rfl (es rfl (es rfl (es rfl (et rfl))))))))))))))) (et rfl)) rfl rfl ?_
                    refine ZS_none hS112 (Nat.le_refl _) (Nat.le_refl _) (fun s123 hJ123 hL123 hF123 => ?_)
                    have hS123 := hJ123.st; clear hF123 hJ123 hL123
                    generalize s123.1 = w123 at *
                    replace hS123 : St w NoX [c_102] w123 := hS123
                    refine gen_Q (fun A124 hA124 => ?_)
                    have hsz124 : SzN A124 195 := by rw [hA124]; infer_instance
                    have hdf124 : A124.defers = [] := by rw [hA124]; simp only [df_put]; exact hdf113
                    have l0_124 := lookE hA124 0 (es rfl (es rfl (es rfl (es rfl (es rfl (es rfl (es rfl (es rfl (es rfl (es rfl (es rfl (es rfl (es rfl (es rfl (es rfl (es rfl (es rfl (es rfl (es rfl (es rfl (es rfl (es rfl l0_113))))))))))))))))))))))
                    have l15_124 := lookE hA124 15 (es rfl (es rfl (es rfl (es rfl (es rfl (es rfl (es rfl (es rfl (es rfl (es rfl (es rfl (es rfl (es rfl (es rfl (es rfl (es rfl (es rfl (es rfl (es rfl (es rfl (es rfl (es rfl l15_113))))))))))))))))))))))
                    have l17_124 := lookE hA124 17 (es rfl (es rfl (es rfl (es rfl (es rfl (es rfl (es rfl (es rfl (es rfl (es rfl (es rfl (es rfl (es rfl (es rfl (es rfl (es rfl (es rfl (es rfl (es rfl (es rfl (es rfl (es rfl l17_113))))))))))))))))))))))
                    have l19_124 := lookE hA124 19 (es rfl (es rfl (es rfl (es rfl (es rfl (es rfl (es rfl (es rfl (es rfl (es rfl (es rfl (es rfl (es rfl (es rfl (es rfl (es rfl (es rfl (es rfl (es rfl (es rfl (es rfl (es rfl l19_113))))))))))))))))))))))
                    have l20_124 := lookE hA124 20 (es rfl (es rfl (es rfl (es rfl (es rfl (es rfl (es rfl (es rfl (es rfl (es rfl (es rfl (es rfl (es rfl (es rfl (es rfl (es rfl (es rfl (es rfl (es rfl (es rfl (es rfl (es rfl l20_113))))))))))))))))))))))
                    have l21_124 := lookE hA124 21 (es rfl (es rfl (es rfl (es rfl (es rfl (es rfl (es rfl (es rfl (es rfl (es rfl (es rfl (es rfl (es rfl (es rfl (es rfl (es rfl (es rfl (es rfl (es rfl (es rfl (es rfl (es rfl l21_113))))))))))))))))))))))
                    have l167_124 := lookE hA124 167 (es rfl (es rfl (es rfl (es rfl (es rfl (es rfl (es rfl (es rfl (es rfl (es rfl (es rfl (es rfl (es rfl (es rfl (es rfl (es rfl (es rfl (es rfl (et rfl)))))))))))))))))))
                    have l168_124 := lookE hA124 168 (es rfl (es rfl (es rfl (es rfl (es rfl (es rfl (es rfl (es rfl (es rfl (es rfl (es rfl (es rfl (es rfl (es rfl (es rfl (es rfl (es rfl (et rfl))))))))))))))))))
                    have l171_124 := lookE hA124 171 (es rfl (es rfl (es rfl (es rfl (es rfl (es rfl (es rfl (es rfl (es rfl (es rfl (es rfl (es rfl (es rfl (es rfl (et rfl)))))))))))))))
                    have l172_124 := lookE hA124 172 (es rfl (es rfl (es rfl (es rfl (es rfl (es rfl (es rfl (es rfl (es rfl (es rfl (es rfl (es rfl (es rfl (et rfl))))))))))))))
                    have l173_124 := lookE hA124 173 (es rfl (es rfl (es rfl (es rfl (es rfl (es rfl (es rfl (es rfl (es rfl (es rfl (es rfl (es rfl (et rfl)))))))))))))
                    have l174_124 := lookE hA124 174 (es rfl (es rfl (es rfl (es rfl (es rfl (es rfl (es rfl (es rfl (es rfl (es rfl (es rfl (et rfl))))))))))))
                    have l175_124 := lookE hA124 175 (es rfl (es rfl (es rfl (es rfl (es rfl (es rfl (es rfl (es rfl (es rfl (es rfl (et rfl)))))))))))
                    have l176_124 := lookE hA124 176 (es rfl (es rfl (es rfl (es rfl (es rfl (es rfl (es rfl (es rfl (es rfl (et rfl))))))))))
                    have l177_124 := lookE hA124 177 (es rfl (es rfl (es rfl (es rfl (es rfl (es rfl (es rfl (es rfl (et rfl)))))))))
                    have l178_124 := lookE hA124 178 (es rfl (es rfl (es rfl (es rfl (es rfl (es rfl (es rfl (et rfl))))))))
                    have l179_124 := lookE hA124 179 (es rfl (es rfl (es rfl (es rfl (es rfl (es rfl (et rfl)))))))
                    have l180_124 := lookE hA124 180 (es rfl (es rfl (es rfl (es rfl (es rfl (et rfl))))))
                    have l181_124 := lookE hA124 181 (es rfl (es rfl (es rfl (es rfl (et rfl)))))
                    have l182_124 := lookE hA124 182 (es rfl (es rfl (es rfl (et rfl))))
                    have l183_124 := lookE hA124 183 (es rfl (es rfl (et rfl)))
                    have l184_124 := lookE hA124 184 (es rfl (et rfl))
                    have l185_124 := lookE hA124 185 (et rfl)
                    clear hA124 hsz113 hdf113 l0_113 l15_113 l17_113 l19_113 l20_113 l21_113 l22_113
                    refine then_n (hK115 _ _ ?_)
                    clear hK115
                    refine cond_f l185_124 ?_
                    refine wp_skip ?_
                    refine then_n (hK114 _ _ ?_)
                    clear hK114
                    -- region 26
                    refine region_in ?_
                    refine W_v rfl rfl (V_mov rfl l19_124) ?_
                    refine W_v rfl rfl (V_mov rfl (es rfl l21_124)) ?_
                    refine W_v rfl rfl (V_add rfl (es rfl (et rfl)) (et rfl) (by omega) (by omega)) ?_
                    refine W_v rfl rfl (V_asg rfl (et rfl)) ?_
                    refine W_end ?_
                    refine gen_Q (fun A125 hA125 => ?_)
                    have hsz125 : SzN A125 195 := by rw [hA125]; infer_instance
                    have hdf125 : A125.defers = [] := by rw [hA125]; simp only [df_put]; exact hdf124
                    have l0_125 := lookE hA125 0 (es rfl (es rfl (es rfl (es rfl l0_124))))
                    have l15_125 := lookE hA125 15 (es rfl (es rfl (es rfl (es rfl l15_124))))
                    have l17_125 := lookE hA125 17 (es rfl (es rfl (es rfl (es rfl l17_124))))
                    have l19_125 := lookE hA125 19 (et rfl)
                    have l20_125 := lookE hA125 20 (es rfl (es rfl (es rfl (es rfl l20_124))))
                    have l167_125 := lookE hA125 167 (es rfl (es rfl (es rfl (es rfl l167_124))))
                    have l168_125 := lookE hA125 168 (es rfl (es rfl (es rfl (es rfl l168_124))))
                    have l171_125 := lookE hA125 171 (es rfl (es rfl (es rfl (es rfl l171_124))))
                    have l172_125 := lookE hA125 172 (es rfl (es rfl (es rfl (es rfl l172_124))))
                    have l173_125 := lookE hA125 173 (es rfl (es rfl (es rfl (es rfl l173_124))))
                    have l174_125 := lookE hA125 174 (es rfl (es rfl (es rfl (es rfl l174_124))))
                    have l175_125 := lookE hA125 175 (es rfl (es rfl (es rfl (es rfl l175_124))))
                    have l176_125 := lookE hA125 176 (es rfl (es rfl (es rfl (es rfl l176_124))))
                    have l177_125 := lookE hA125 177 (es rfl (es rfl (es rfl (es rfl l177_124))))
                    have l178_125 := lookE hA125 178 (es rfl (es rfl (es rfl (es rfl l178_124))))
                    have l179_125 := lookE hA125 179 (es rfl (es rfl (es rfl (es rfl l179_124))))
                    have l180_125 := lookE hA125 180 (es rfl (es rfl (es rfl (es rfl l180_124))))
                    have l181_125 := lookE hA125 181 (es rfl (es rfl (es rfl (es rfl l181_124))))
                    have l182_125 := lookE hA125 182 (es rfl (es rfl (es rfl (es rfl l182_124))))
                    have l183_125 := lookE hA125 183 (es rfl (es rfl (es rfl (es rfl l183_124))))
                    have l184_125 := lookE hA125 184 (es rfl (es rfl (es rfl (es rfl l184_124))))
                    clear hA125 hsz124 hdf124 l0_124 l15_124 l17_124 l19_124 l20_124 l21_124 l167_124 l168_124 l171_124 l172_124 l173_124 l174_124 l175_124 l176_124 l177_124 l178_124 l179_124 l180_124 l181_124 l182_124 l183_124 l184_124 l185_124
                    refine inb_n ?_
                    refine then_n (hK107 _ _ ?_)
                    clear hK107
                    -- region 22
                    refine region_in ?_
                    refine W_v rfl rfl (V_mov rfl l20_125) ?_
                    refine W_v rfl rfl (V_add rfl (et rfl) rfl (by omega) (by omega)) ?_
                    refine W_v rfl rfl (V_asg rfl (et rfl)) ?_
                    refine W_end ?_
                    refine gen_Q (fun A126 hA126 => ?_)
                    have hsz126 : SzN A126 195 := by rw [hA126]; infer_instance
                    have hdf126 : A126.defers = [] := by rw [hA126]; simp only [df_put]; exact hdf125
                    have l0_126 := lookE hA126 0 (es rfl (es rfl (es rfl l0_125)))
                    have l15_126 := lookE hA126 15 (es rfl (es rfl (es rfl l15_125)))
                    have l17_126 := lookE hA126 17 (es rfl (es rfl (es rfl l17_125)))
                    have l19_126 := lookE hA126 19 (es rfl (es rfl (es rfl l19_125)))
                    have l20_126 := lookE hA126 20 (et rfl)
                    have l167_126 := lookE hA126 167 (es rfl (es rfl (es rfl l167_125)))
                    have l168_126 := lookE hA126 168 (es rfl (es rfl (es rfl l168_125)))
                    have l171_126 := lookE hA126 171 (es rfl (es rfl (es rfl l171_125)))
                    have l172_126 := lookE hA126 172 (es rfl (es rfl (es rfl l172_125)))
                    have l173_126 := lookE hA126 173 (es rfl (es rfl (es rfl l173_125)))
                    have l174_126 := lookE hA126 174 (es rfl (es rfl (es rfl l174_125)))
                    have l175_126 := lookE hA126 175 (es rfl (es rfl (es rfl l175_125)))
                    have l176_126 := lookE hA126 176 (es rfl (es rfl (es rfl l176_125)))
                    have l177_126 := lookE hA126 177 (es rfl (es rfl (es rfl l177_125)))
                    have l178_126 := lookE hA126 178 (es rfl (es rfl (es rfl l178_125)))
                    have l179_126 := lookE hA126 179 (es rfl (es rfl (es rfl l179_125)))
                    have l180_126 := lookE hA126 180 (es rfl (es rfl (es rfl l180_125)))
                    have l181_126 := lookE hA126 181 (es rfl (es rfl (es rfl l181_125)))
                    have l182_126 := lookE hA126 182 (es rfl (es rfl (es rfl l182_125)))
                    have l183_126 := lookE hA126 183 (es rfl (es rfl (es rfl l183_125)))
                    have l184_126 := lookE hA126 184 (es rfl (es rfl (es rfl l184_125)))
                    clear hA126 hsz125 hdf125 l0_125 l15_125 l17_125 l19_125 l20_125 l167_125 l168_125 l171_125 l172_125 l173_125 l174_125 l175_125 l176_125 l177_125 l178_125 l179_125 l180_125 l181_125 l182_125 l183_125 l184_125
                    refine then_n ⟨(tgT l).length - (j + 1), by simp only [hm102]; omega, hsz126, hdf126, (j + 1), rfl, (by omega), (sm_bd hck _), ((l20_126).trans (by first | rfl | (simp; done) | (congr 1; omega))), ((l19_126).trans ((by rw [sm_snoc hy109, (many_is hck (by omega)).2]))), ((l0_126).trans l0_101.symm), ((l15_126).trans l15_101.symm), ((l17_126).trans l17_101.symm), (by subst hc_102; exact hS123)⟩
                · skip
                  refine wp_exit ?_
                  refine then_exit ?_
                  refine then_exit ?_
                  refine inb_hit ?_
                  refine then_n (hK99 _ _ ?_)
                  clear hK99
                  refine wp_seq_k (fun K127 hK127 => ?_)
                  -- region 27
                  refine region_in ?_
                  refine W_v rfl rfl (V_mov rfl l19_105) ?_
                  refine W_v rfl rfl (V_mov rfl (es rfl l15_105)) ?_
                  refine W_v rfl rfl (V_eql rfl (es rfl (et rfl)) (et rfl)) ?_
                  refine W_sure (c' := true) rfl rfl (V_mov rfl (et rfl)) (by rw [decide_eq_true_eq]; rw [List.take_of_length_le (by omega), List.take_of_length_le (by omega), sm_all hck]) ?_
                  refine W_call rfl (wanted_t rfl rfl (et rfl) (ez rfl)) rfl Try.func12 (by kernel_rfl) rfl (args0) (shw_c  ) ?_
                  rintro _ w128 ⟨rfl, hP128⟩
                  refine ⟨_, rfl, ?_⟩
                  have hS128 := hS102.join hP128
                  replace hS128 : St w NoX [c_102] w128 := hS128
                  refine W_v rfl rfl (V_pickT rfl (es rfl (et rfl)) (et rfl)) ?_
                  refine W_v rfl rfl (V_asg rfl (et rfl)) ?_
                  refine W_end ?_
                  refine gen_Q (fun A129 hA129 => ?_)
                  have hsz129 : SzN A129 195 := by rw [hA129]; infer_instance
                  have hdf129 : A129.defers = [] := by rw [hA129]; simp only [df_put]; exact hdf105
                  have l4_129 := lookE hA129 4 (et rfl)
                  clear hA129 hsz105 hdf105 l0_105 l15_105 l17_105 l19_105 l20_105 l147_105
                  have hS130 : St w NoX [] w128 := hS128.sel [] (by decide) rfl
                  refine then_n (hK127 _ _ ?_)
                  clear hK127
                  refine wp_ret ?_
                  refine ret_in (results_1 Try.results7 (rv_tmp l4_129)) hdf129 ?_
                  -- leaf FFFFFFFF
                  exact ⟨rfl, hS130.fin0⟩

end Go.Proofs.Ytbnijekjaafoaaa