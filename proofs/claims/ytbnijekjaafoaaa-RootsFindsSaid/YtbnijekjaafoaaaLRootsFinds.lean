import Derived.Test.YtbnijekjaafoaaaProg
import Derived.Test.YtbnijekjaafoaaaRt6
namespace Go.Proofs.Ytbnijekjaafoaaa
open Go.RowKit Go.Own Go.Own.R


set_option maxHeartbeats 4000000 in
theorem RootsFinds_c {rv : Value} {l : List Int} {x0 : Int} {x1 : Int} {w : World} (h_rv : Ro w NoX (il .i64 rv l))  :
    Calls Try.prog 3 #[rv, .agg #[.int .i64 x0, .int .i64 x1]] w fun e w' => e = .returned (.bool true) ∧ St w NoX [] w' := by
  refine calls_in 74 Try.func3 rfl rfl (by simp) (fun A0 hsz0 hdf0 hargs => ?_)
  have l0_0 := hargs 0 (rv) rfl
  have l1_0 := hargs 1 (.agg #[.int .i64 x0, .int .i64 x1]) rfl
  clear hargs; replace hsz0 : SzN A0 74 := ⟨hsz0⟩
  have hS := St.nil w
  have bh_rv := SlN.le (sl_SlN h_rv.at)
  refine wp_seq_k (fun K1 hK1 => ?_)
  -- region 0
  refine region_in ?_
  refine W_boxS (zs := #[.int .i64 (x0), .int .i64 (x1)]) hS rfl rfl rfl l1_0 (by rfl) (fun g2 w2 c2 hc2 hS2 => ?_)
  replace hS2 : St w NoX [c2] w2 := hS2
  refine W_v rfl rfl (V_asg rfl rfl) ?_
  refine W_end ?_
  refine gen_Q (fun A3 hA3 => ?_)
  have hsz3 : SzN A3 74 := by rw [hA3]; infer_instance
  have hdf3 : A3.defers = [] := by rw [hA3]; simp only [df_put]; exact hdf0
  have l0_3 := lookE hA3 0 (es rfl (es rfl l0_0))
  have l3_3 := lookE hA3 3 (es rfl (et rfl))
  clear hA3 hsz0 hdf0 l0_0 l1_0
  refine then_n (hK1 _ _ ?_)
  clear hK1
  refine wp_seq_k (fun K4 hK4 => ?_)
  refine wp_seq_k (fun K5 hK5 => ?_)
  -- region 1
  refine region_in ?_
  refine W_v rfl rfl (V_mov rfl l0_3) ?_
  refine W_call rfl rfl rfl Try.func11 (by kernel_rfl) rfl (args2 (et rfl) rfl) (far_c (ms := []) (mv := .slice none 0 0) (hS2.roC h_rv) ro_nil ) ?_
  rintro _ w6 ⟨rfl, hP6⟩
  refine ⟨_, rfl, ?_⟩
  have hS6 := hS2.join hP6
  replace hS6 : St w NoX [c2] w6 := hS6
  refine W_end ?_
  refine gen_Q (fun A7 hA7 => ?_)
  have hsz7 : SzN A7 74 := by rw [hA7]; infer_instance
  have hdf7 : A7.defers = [] := by rw [hA7]; simp only [df_put]; exact hdf3
  have l0_7 := lookE hA7 0 (es rfl (es rfl l0_3))
  have l3_7 := lookE hA7 3 (es rfl (es rfl l3_3))
  have l16_7 := lookE hA7 16 (et rfl)
  clear hA7 hsz3 hdf3 l0_3 l3_3
  refine then_n (hK5 _ _ ?_)
  clear hK5
  refine cond_dec l16_7 (fun c8 => ?_) (fun c8 => ?_)
  · skip
    refine wp_seq_k (fun K9 hK9 => ?_)
    -- region 2
    refine region_in ?_
    refine W_call rfl rfl rfl Try.func12 (by kernel_rfl) rfl (args0) (shw_c  ) ?_
    rintro _ w10 ⟨rfl, hP10⟩
    refine ⟨_, rfl, ?_⟩
    have hS10 := hS6.join hP10
    replace hS10 : St w NoX [c2] w10 := hS10
    refine W_v rfl rfl (V_asg rfl (et rfl)) ?_
    refine W_end ?_
    refine gen_Q (fun A11 hA11 => ?_)
    have hsz11 : SzN A11 74 := by rw [hA11]; infer_instance
    have hdf11 : A11.defers = [] := by rw [hA11]; simp only [df_put]; exact hdf7
    have l4_11 := lookE hA11 4 (et rfl)
    clear hA11 hsz7 hdf7 l0_7 l3_7 l16_7
    have hS12 : St w NoX [] w10 := hS10.sel [] (by decide) rfl
    refine then_n (hK9 _ _ ?_)
    clear hK9
    refine wp_ret ?_
    refine then_ret ?_
    refine ret_in (results_1 Try.results3 (rv_tmp l4_11)) hdf11 ?_
    -- leaf T
    exact ⟨rfl, hS12.fin0⟩
  · skip
    refine wp_skip ?_
    refine then_n (hK4 _ _ ?_)
    clear hK4
    refine wp_seq_k (fun K13 hK13 => ?_)
    -- region 3
    refine region_in ?_
    refine W_v rfl rfl (V_mov rfl l0_7) ?_
    refine W_v rfl rfl (V_ixA (sz := 1) (off' := 0) 0 rfl (es rfl l3_7) rfl (by rfl) Try.underlying23 (by decide) (by kernel_rfl) rfl) ?_
    refine W_r rfl rfl (VR_ldC rfl (et rfl) (cell_box (v := .int .i64 (x0)) (hS6.obj 0 rfl hc2) rfl) Try.underlying3 rfl) ?_
    refine W_v rfl rfl (V_ixA (sz := 1) (off' := 1) 1 rfl (es rfl (es rfl (es rfl l3_7))) rfl (by rfl) Try.underlying23 (by decide) (by kernel_rfl) rfl) ?_
    refine W_r rfl rfl (VR_ldC rfl (et rfl) (cell_box (v := .int .i64 (x1)) (hS6.obj 0 rfl hc2) rfl) Try.underlying3 rfl) ?_
    refine W_call rfl rfl rfl Try.func13 (by kernel_rfl) rfl (args3 (es rfl (es rfl (es rfl (es rfl (et rfl))))) (es rfl (es rfl (et rfl))) (et rfl)) (kIn_c (f := x0) (t := x1) (hS6.roC h_rv) ) ?_
    rintro _ w16 ⟨rfl, hP16⟩
    refine ⟨_, rfl, ?_⟩
    have hS16 := hS6.join hP16
    replace hS16 : St w NoX [c2] w16 := hS16
    refine W_v rfl rfl (V_mov rfl (et rfl)) ?_
    refine W_v rfl rfl (V_ext (v := .int .i64 ((inI l x0 x1))) rfl (et rfl) rfl) ?_
    refine W_v rfl rfl (V_ext (v := .int .i64 ((inN l x0 x1))) rfl (es rfl (et rfl)) rfl) ?_
    refine W_v rfl rfl (V_ext (v := .int .i64 ((inE l x0 x1))) rfl (es rfl (es rfl (et rfl))) rfl) ?_
    refine W_v rfl rfl (V_asg rfl (es rfl (es rfl (et rfl)))) ?_
    refine W_v rfl rfl (V_asg rfl (es rfl (es rfl (et rfl)))) ?_
    refine W_v rfl rfl (V_asg rfl (es rfl (es rfl (et rfl)))) ?_
    refine W_end ?_
    refine gen_Q (fun A17 hA17 => ?_)
    have hsz17 : SzN A17 74 := by rw [hA17]; infer_instance
    have hdf17 : A17.defers = [] := by rw [hA17]; simp only [df_put]; exact hdf7
    have l0_17 := lookE hA17 0 (es rfl (es rfl (es rfl (es rfl (es rfl (es rfl (es rfl (es rfl (es rfl (es rfl (es rfl (es rfl (es rfl l0_7)))))))))))))
    have l3_17 := lookE hA17 3 (es rfl (es rfl (es rfl (es rfl (es rfl (es rfl (es rfl (es rfl (es rfl (es rfl (es rfl (es rfl (es rfl l3_7)))))))))))))
    have l5_17 := lookE hA17 5 (es rfl (es rfl (et rfl)))
    have l6_17 := lookE hA17 6 (es rfl (et rfl))
    have l7_17 := lookE hA17 7 (et rfl)
    clear hA17 hsz7 hdf7 l0_7 l3_7 l16_7
    refine then_n (hK13 _ _ ?_)
    clear hK13
    refine wp_seq_k (fun K18 hK18 => ?_)
    -- region 4
    refine region_in ?_
    refine W_v rfl rfl (V_mov rfl l0_17) ?_
    refine W_v rfl rfl (V_ixA (sz := 1) (off' := 0) 0 rfl (es rfl l3_17) rfl (by rfl) Try.underlying23 (by decide) (by kernel_rfl) rfl) ?_
    refine W_r rfl rfl (VR_ldC rfl (et rfl) (cell_box (v := .int .i64 (x0)) (hS16.obj 0 rfl hc2) rfl) Try.underlying3 rfl) ?_
    refine W_v rfl rfl (V_ixA (sz := 1) (off' := 1) 1 rfl (es rfl (es rfl (es rfl l3_17))) rfl (by rfl) Try.underlying23 (by decide) (by kernel_rfl) rfl) ?_
    refine W_r rfl rfl (VR_ldC rfl (et rfl) (cell_box (v := .int .i64 (x1)) (hS16.obj 0 rfl hc2) rfl) Try.underlying3 rfl) ?_
    refine W_call rfl rfl rfl Try.func14 (by kernel_rfl) rfl (args3 (es rfl (es rfl (es rfl (es rfl (et rfl))))) (es rfl (es rfl (et rfl))) (et rfl)) (qIn_c (f := x0) (t := x1) (hS16.roC h_rv) ) ?_
    rintro _ w21 ⟨rfl, hP21⟩
    refine ⟨_, rfl, ?_⟩
    have hS21 := hS16.join hP21
    replace hS21 : St w NoX [c2] w21 := hS21
    refine W_v rfl rfl (V_mov rfl (et rfl)) ?_
    refine W_v rfl rfl (V_ext (v := .int .i64 ((inI l x0 x1))) rfl (et rfl) rfl) ?_
    refine W_v rfl rfl (V_ext (v := .int .i64 ((inN l x0 x1))) rfl (es rfl (et rfl)) rfl) ?_
    refine W_v rfl rfl (V_ext (v := .int .i64 ((inE l x0 x1))) rfl (es rfl (es rfl (et rfl))) rfl) ?_
    refine W_v rfl rfl (V_asg rfl (es rfl (es rfl (et rfl)))) ?_
    refine W_v rfl rfl (V_asg rfl (es rfl (es rfl (et rfl)))) ?_
    refine W_v rfl rfl (V_asg rfl (es rfl (es rfl (et rfl)))) ?_
    refine W_end ?_
    refine gen_Q (fun A22 hA22 => ?_)
    have hsz22 : SzN A22 74 := by rw [hA22]; infer_instance
    have hdf22 : A22.defers = [] := by rw [hA22]; simp only [df_put]; exact hdf17
    have l0_22 := lookE hA22 0 (es rfl (es rfl (es rfl (es rfl (es rfl (es rfl (es rfl (es rfl (es rfl (es rfl (es rfl (es rfl (es rfl l0_17)))))))))))))
    have l5_22 := lookE hA22 5 (es rfl (es rfl (es rfl (es rfl (es rfl (es rfl (es rfl (es rfl (es rfl (es rfl (es rfl (es rfl (es rfl l5_17)))))))))))))
    have l6_22 := lookE hA22 6 (es rfl (es rfl (es rfl (es rfl (es rfl (es rfl (es rfl (es rfl (es rfl (es rfl (es rfl (es rfl (es rfl l6_17)))))))))))))
    have l7_22 := lookE hA22 7 (es rfl (es rfl (es rfl (es rfl (es rfl (es rfl (es rfl (es rfl (es rfl (es rfl (es rfl (es rfl (es rfl l7_17)))))))))))))
    have l8_22 := lookE hA22 8 (es rfl (es rfl (et rfl)))
    have l9_22 := lookE hA22 9 (es rfl (et rfl))
    have l10_22 := lookE hA22 10 (et rfl)
    clear hA22 hsz17 hdf17 l0_17 l3_17 l5_17 l6_17 l7_17
    have hS23 : St w NoX [] w21 := hS21.sel [] (by decide) rfl
    refine then_n (hK18 _ _ ?_)
    clear hK18
    refine wp_seq_k (fun K24 hK24 => ?_)
    -- region 5
    refine region_in ?_
    refine W_v rfl rfl (V_mov rfl l0_22) ?_
    refine W_call rfl rfl rfl Try.func15 (by kernel_rfl) rfl (args1 (et rfl)) (kTg_c (hS23.roC h_rv) ) ?_
    rintro _ w25 ⟨v_25, rfl, hP25⟩
    refine ⟨_, rfl, ?_⟩
    obtain ⟨c_25, hc_25, hP25⟩ := gen1 hP25
    have hS25 := hS23.join hP25
    replace hS25 : St w NoX [c_25] w25 := hS25
    refine W_v rfl rfl (V_mov rfl (et rfl)) ?_
    refine W_v rfl rfl (V_ext (v := v_25) rfl (et rfl) rfl) ?_
    refine W_v rfl rfl (V_ext (v := .int .i64 ((ckR l).2)) rfl (es rfl (et rfl)) rfl) ?_
    refine W_v rfl rfl (V_asg rfl (es rfl (et rfl))) ?_
    refine W_v rfl rfl (V_asg rfl (es rfl (et rfl))) ?_
    refine W_end ?_
    refine gen_Q (fun A26 hA26 => ?_)
    have hsz26 : SzN A26 74 := by rw [hA26]; infer_instance
    have hdf26 : A26.defers = [] := by rw [hA26]; simp only [df_put]; exact hdf22
    have l0_26 := lookE hA26 0 (es rfl (es rfl (es rfl (es rfl (es rfl (es rfl (es rfl l0_22)))))))
    have l5_26 := lookE hA26 5 (es rfl (es rfl (es rfl (es rfl (es rfl (es rfl (es rfl l5_22)))))))
    have l6_26 := lookE hA26 6 (es rfl (es rfl (es rfl (es rfl (es rfl (es rfl (es rfl l6_22)))))))
    have l7_26 := lookE hA26 7 (es rfl (es rfl (es rfl (es rfl (es rfl (es rfl (es rfl l7_22)))))))
    have l8_26 := lookE hA26 8 (es rfl (es rfl (es rfl (es rfl (es rfl (es rfl (es rfl l8_22)))))))
    have l9_26 := lookE hA26 9 (es rfl (es rfl (es rfl (es rfl (es rfl (es rfl (es rfl l9_22)))))))
    have l10_26 := lookE hA26 10 (es rfl (es rfl (es rfl (es rfl (es rfl (es rfl (es rfl l10_22)))))))
    have l11_26 := lookE hA26 11 (es rfl (et rfl))
    have l12_26 := lookE hA26 12 (et rfl)
    clear hA26 hsz22 hdf22 l0_22 l5_22 l6_22 l7_22 l8_22 l9_22 l10_22
    refine then_n (hK24 _ _ ?_)
    clear hK24
    refine wp_seq_k (fun K27 hK27 => ?_)
    -- region 6
    refine region_in ?_
    refine W_v rfl rfl (V_mov rfl l0_26) ?_
    refine W_call rfl rfl rfl Try.func16 (by kernel_rfl) rfl (args1 (et rfl)) (qTg_c (hS25.roC h_rv) ) ?_
    rintro _ w28 ⟨v_28, rfl, hP28⟩
    refine ⟨_, rfl, ?_⟩
    obtain ⟨c_28, hc_28, hP28⟩ := gen1 hP28
    have hS28 := hS25.join hP28
    replace hS28 : St w NoX [c_28, c_25] w28 := hS28
    refine W_v rfl rfl (V_mov rfl (et rfl)) ?_
    refine W_v rfl rfl (V_ext (v := v_28) rfl (et rfl) rfl) ?_
    refine W_v rfl rfl (V_ext (v := .int .i64 ((ckR l).2)) rfl (es rfl (et rfl)) rfl) ?_
    refine W_v rfl rfl (V_asg rfl (es rfl (et rfl))) ?_
    refine W_v rfl rfl (V_asg rfl (es rfl (et rfl))) ?_
    refine W_end ?_
    refine gen_Q (fun A29 hA29 => ?_)
    have hsz29 : SzN A29 74 := by rw [hA29]; infer_instance
    have hdf29 : A29.defers = [] := by rw [hA29]; simp only [df_put]; exact hdf26
    have l5_29 := lookE hA29 5 (es rfl (es rfl (es rfl (es rfl (es rfl (es rfl (es rfl l5_26)))))))
    have l6_29 := lookE hA29 6 (es rfl (es rfl (es rfl (es rfl (es rfl (es rfl (es rfl l6_26)))))))
    have l7_29 := lookE hA29 7 (es rfl (es rfl (es rfl (es rfl (es rfl (es rfl (es rfl l7_26)))))))
    have l8_29 := lookE hA29 8 (es rfl (es rfl (es rfl (es rfl (es rfl (es rfl (es rfl l8_26)))))))
    have l9_29 := lookE hA29 9 (es rfl (es rfl (es rfl (es rfl (es rfl (es rfl (es rfl l9_26)))))))
    have l10_29 := lookE hA29 10 (es rfl (es rfl (es rfl (es rfl (es rfl (es rfl (es rfl l10_26)))))))
    have l11_29 := lookE hA29 11 (es rfl (es rfl (es rfl (es rfl (es rfl (es rfl (es rfl l11_26)))))))
    have l12_29 := lookE hA29 12 (es rfl (es rfl (es rfl (es rfl (es rfl (es rfl (es rfl l12_26)))))))
    have l13_29 := lookE hA29 13 (es rfl (et rfl))
    have l14_29 := lookE hA29 14 (et rfl)
    clear hA29 hsz26 hdf26 l0_26 l5_26 l6_26 l7_26 l8_26 l9_26 l10_26 l11_26 l12_26
    refine then_n (hK27 _ _ ?_)
    clear hK27
    refine wp_seq_k (fun K30 hK30 => ?_)
    -- region 7
    refine region_in ?_
    refine W_v rfl rfl (V_mov rfl l5_29) ?_
    refine W_v rfl rfl (V_mov rfl (es rfl l8_29)) ?_
    refine W_v rfl rfl (V_eql rfl (es rfl (et rfl)) (et rfl)) ?_
    refine W_sure (c' := true) rfl rfl (V_mov rfl (et rfl)) (by simp) ?_
    refine W_v rfl (wanted_t rfl rfl (et rfl) (ez rfl)) (V_mov rfl (es rfl (es rfl (es rfl (es rfl l6_29))))) ?_
    refine W_v rfl (wanted_t rfl rfl (es rfl (et rfl)) (ez rfl)) (V_mov rfl (es rfl (es rfl (es rfl (es rfl (es rfl l9_29)))))) ?_
    refine W_v rfl (wanted_t rfl rfl (es rfl (es rfl (et rfl))) (ez rfl)) (V_eql rfl (es rfl (et rfl)) (et rfl)) ?_
    refine W_v rfl rfl (V_pickT rfl (es rfl (es rfl (es rfl (et rfl)))) (et rfl)) ?_
    refine W_sure (c' := true) rfl rfl (V_mov rfl (et rfl)) (by simp) ?_
    refine W_v rfl (wanted_t rfl rfl (et rfl) (ez rfl)) (V_mov rfl (es rfl (es rfl (es rfl (es rfl (es rfl (es rfl (es rfl (es rfl (es rfl l7_29)))))))))) ?_
    refine W_v rfl (wanted_t rfl rfl (es rfl (et rfl)) (ez rfl)) (V_mov rfl (es rfl (es rfl (es rfl (es rfl (es rfl (es rfl (es rfl (es rfl (es rfl (es rfl l10_29))))))))))) ?_
    refine W_v rfl (wanted_t rfl rfl (es rfl (es rfl (et rfl))) (ez rfl)) (V_eql rfl (es rfl (et rfl)) (et rfl)) ?_
    refine W_v rfl rfl (V_pickT rfl (es rfl (es rfl (es rfl (et rfl)))) (et rfl)) ?_
    refine W_sure (c' := true) rfl rfl (V_mov rfl (et rfl)) (by simp) ?_
    refine W_v rfl (wanted_t rfl rfl (et rfl) (ez rfl)) (V_mov rfl (es rfl (es rfl (es rfl (es rfl (es rfl (es rfl (es rfl (es rfl (es rfl (es rfl (es rfl (es rfl (es rfl (es rfl l11_29))))))))))))))) ?_
    refine W_v rfl (wanted_t rfl rfl (es rfl (et rfl)) (ez rfl)) (V_mov rfl (es rfl (es rfl (es rfl (es rfl (es rfl (es rfl (es rfl (es rfl (es rfl (es rfl (es rfl (es rfl (es rfl (es rfl (es rfl l13_29)))))))))))))))) ?_
    refine W_call rfl (wanted_t rfl rfl (es rfl (es rfl (et rfl))) (ez rfl)) rfl Try.func17 (by kernel_rfl) rfl (args2 (es rfl (et rfl)) (et rfl)) (qInts_c (hS28.chC 1 rfl hc_25).own (hS28.chC 0 rfl hc_28).own ) ?_
    rintro _ w31 ⟨rfl, hP31⟩
    refine ⟨_, rfl, ?_⟩
    have hS31 := hS28.join hP31
    replace hS31 : St w NoX [c_28, c_25] w31 := hS31
    refine W_v rfl rfl (V_pickT rfl (es rfl (es rfl (es rfl (et rfl)))) (et rfl)) ?_
    refine W_sure (c' := true) rfl rfl (V_mov rfl (et rfl)) (by simp) ?_
    refine W_v rfl (wanted_t rfl rfl (et rfl) (ez rfl)) (V_mov rfl (es rfl (es rfl (es rfl (es rfl (es rfl (es rfl (es rfl (es rfl (es rfl (es rfl (es rfl (es rfl (es rfl (es rfl (es rfl (es rfl (es rfl (es rfl (es rfl l12_29)))))))))))))))))))) ?_
    refine W_v rfl (wanted_t rfl rfl (es rfl (et rfl)) (ez rfl)) (V_mov rfl (es rfl (es rfl (es rfl (es rfl (es rfl (es rfl (es rfl (es rfl (es rfl (es rfl (es rfl (es rfl (es rfl (es rfl (es rfl (es rfl (es rfl (es rfl (es rfl (es rfl l14_29))))))))))))))))))))) ?_
    refine W_v rfl (wanted_t rfl rfl (es rfl (es rfl (et rfl))) (ez rfl)) (V_eql rfl (es rfl (et rfl)) (et rfl)) ?_
    refine W_v rfl rfl (V_pickT rfl (es rfl (es rfl (es rfl (et rfl)))) (et rfl)) ?_
    refine W_sure (c' := true) rfl rfl (V_mov rfl (et rfl)) (by simp) ?_
    refine W_call rfl (wanted_t rfl rfl (et rfl) (ez rfl)) rfl Try.func12 (by kernel_rfl) rfl (args0) (shw_c  ) ?_
    rintro _ w32 ⟨rfl, hP32⟩
    refine ⟨_, rfl, ?_⟩
    have hS32 := hS31.join hP32
    replace hS32 : St w NoX [c_28, c_25] w32 := hS32
    refine W_v rfl rfl (V_pickT rfl (es rfl (et rfl)) (et rfl)) ?_
    refine W_v rfl rfl (V_asg rfl (et rfl)) ?_
    refine W_end ?_
    refine gen_Q (fun A33 hA33 => ?_)
    have hsz33 : SzN A33 74 := by rw [hA33]; infer_instance
    have hdf33 : A33.defers = [] := by rw [hA33]; simp only [df_put]; exact hdf29
    have l4_33 := lookE hA33 4 (et rfl)
    clear hA33 hsz29 hdf29 l5_29 l6_29 l7_29 l8_29 l9_29 l10_29 l11_29 l12_29 l13_29 l14_29
    have hS34 : St w NoX [] w32 := hS32.sel [] (by decide) rfl
    refine then_n (hK30 _ _ ?_)
    clear hK30
    refine wp_ret ?_
    refine ret_in (results_1 Try.results3 (rv_tmp l4_33)) hdf33 ?_
    -- leaf F
    exact ⟨rfl, hS34.fin0⟩

end Go.Proofs.Ytbnijekjaafoaaa