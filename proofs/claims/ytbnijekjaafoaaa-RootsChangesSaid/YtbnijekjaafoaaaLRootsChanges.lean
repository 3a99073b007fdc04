import Derived.Test.YtbnijekjaafoaaaProg
import Derived.Test.YtbnijekjaafoaaaRt6
namespace Go.Proofs.Ytbnijekjaafoaaa
open Go.RowKit Go.Own Go.Own.R


set_option maxHeartbeats 4000000 in
theorem RootsChanges_c {rv : Value} {l : List Int} {xa : Int} {xb : Int} {xx : Int} {w : World} (h_rv : Ro w NoX (il .i64 rv l))  :
    Calls Try.prog 9 #[rv, .agg #[.int .i64 xa, .int .i64 xb, .int .i64 xx]] w fun e w' => e = .returned (.bool true) ∧ St w NoX [] w' := by
  refine calls_in 182 Try.func9 rfl rfl (by simp) (fun A0 hsz0 hdf0 hargs => ?_)
  have l0_0 := hargs 0 (rv) rfl
  have l1_0 := hargs 1 (.agg #[.int .i64 xa, .int .i64 xb, .int .i64 xx]) rfl
  clear hargs; replace hsz0 : SzN A0 182 := ⟨hsz0⟩
  have hS := St.nil w
  have bh_rv := SlN.le (sl_SlN h_rv.at)
  refine wp_seq_k (fun K1 hK1 => ?_)
  -- region 0
  refine region_in ?_
  refine W_boxS (zs := #[.int .i64 (xa), .int .i64 (xb), .int .i64 (xx)]) hS rfl rfl rfl l1_0 (by rfl) (fun g2 w2 c2 hc2 hS2 => ?_)
  replace hS2 : St w NoX [c2] w2 := hS2
  refine W_v rfl rfl (V_asg rfl rfl) ?_
  refine W_end ?_
  refine gen_Q (fun A3 hA3 => ?_)
  have hsz3 : SzN A3 182 := by rw [hA3]; infer_instance
  have hdf3 : A3.defers = [] := by rw [hA3]; simp only [df_put]; exact hdf0
  have l0_3 := lookE hA3 0 (es rfl (es rfl l0_0))
  have l3_3 := lookE hA3 3 (es rfl (et rfl))
  clear hA3 hsz0 hdf0 l0_0 l1_0
  refine then_n (hK1 _ _ ?_)
  clear hK1
  refine wp_seq_k (fun K4 hK4 => ?_)
  refine wp_seq_k (fun K5 hK5 => ?_)
  -- region 1
  refine region_in ?_
  refine W_v rfl rfl (V_mov rfl l0_3) ?_
  refine W_call rfl rfl rfl Try.func11 (by kernel_rfl) rfl (args2 (et rfl) rfl) (far_c (ms := []) (mv := .slice none 0 0) (hS2.roC h_rv) ro_nil ) ?_
  rintro _ w6 ⟨rfl, hP6⟩
  refine ⟨_, rfl, ?_⟩
  have hS6 := hS2.join hP6
  replace hS6 : St w NoX [c2] w6 := hS6
  refine W_end ?_
  refine gen_Q (fun A7 hA7 => ?_)
  have hsz7 : SzN A7 182 := by rw [hA7]; infer_instance
  have hdf7 : A7.defers = [] := by rw [hA7]; simp only [df_put]; exact hdf3
  have l0_7 := lookE hA7 0 (es rfl (es rfl l0_3))
  have l3_7 := lookE hA7 3 (es rfl (es rfl l3_3))
  have l21_7 := lookE hA7 21 (et rfl)
  clear hA7 hsz3 hdf3 l0_3 l3_3
  refine then_n (hK5 _ _ ?_)
  clear hK5
  refine cond_dec l21_7 (fun c8 => ?_) (fun c8 => ?_)
  · skip
    refine wp_seq_k (fun K9 hK9 => ?_)
    -- region 2
    refine region_in ?_
    refine W_call rfl rfl rfl Try.func12 (by kernel_rfl) rfl (args0) (shw_c  ) ?_
    rintro _ w10 ⟨rfl, hP10⟩
    refine ⟨_, rfl, ?_⟩
    have hS10 := hS6.join hP10
    replace hS10 : St w NoX [c2] w10 := hS10
    refine W_v rfl rfl (V_asg rfl (et rfl)) ?_
    refine W_end ?_
    refine gen_Q (fun A11 hA11 => ?_)
    have hsz11 : SzN A11 182 := by rw [hA11]; infer_instance
    have hdf11 : A11.defers = [] := by rw [hA11]; simp only [df_put]; exact hdf7
    have l4_11 := lookE hA11 4 (et rfl)
    clear hA11 hsz7 hdf7 l0_7 l3_7 l21_7
    have hS12 : St w NoX [] w10 := hS10.sel [] (by decide) rfl
    refine then_n (hK9 _ _ ?_)
    clear hK9
    refine wp_ret ?_
    refine then_ret ?_
    refine ret_in (results_1 Try.results9 (rv_tmp l4_11)) hdf11 ?_
    -- leaf T
    exact ⟨rfl, hS12.fin0⟩
  · skip
    refine wp_skip ?_
    refine then_n (hK4 _ _ ?_)
    clear hK4
    refine wp_seq_k (fun K13 hK13 => ?_)
    -- region 3
    refine region_in ?_
    refine W_litS (vs := []) (xs := []) 1 hS6 rfl rfl rfl (parts0) rfl Try.underlying22 (by kernel_rfl) (by decide) (by intro v hv; cases hv) (by rfl) (fun g14 w14 c14 hc14 hS14 => ?_)
    replace hc14 : c14 = io .i64 (.slice (some ⟨g14, 0, none⟩) 0 0) [] := hc14
    replace hS14 : St w NoX [c14, c2] w14 := hS14
    refine W_v rfl rfl (V_mov rfl (es rfl l0_7)) ?_
    refine W_appS 1 0 hS14 rfl hc14 rfl rfl rfl (es rfl (et rfl)) (et rfl) Try.underlying22 Try.underlying22 (z := .int .i64 0) (bytes := 8) (by kernel_rfl) rfl (by decide) (sl_SlN (hS14.ro h_rv)) ones_i (by first | omega | (simp; done) | (simp; omega)) (by first | omega | (simp; done) | (simp; omega)) (fun v15 w15 c15 hc15 hS15 => ?_)
    replace hc15 : c15 = io .i64 v15 l := hc15.trans (app_eq (by simp))
    replace hS15 : St w NoX [c15, c2] w15 := hS15
    refine W_v rfl rfl (V_asg rfl (et rfl)) ?_
    refine W_end ?_
    refine gen_Q (fun A16 hA16 => ?_)
    have hsz16 : SzN A16 182 := by rw [hA16]; infer_instance
    have hdf16 : A16.defers = [] := by rw [hA16]; simp only [df_put]; exact hdf7
    have l0_16 := lookE hA16 0 (es rfl (es rfl (es rfl (es rfl l0_7))))
    have l3_16 := lookE hA16 3 (es rfl (es rfl (es rfl (es rfl l3_7))))
    have l5_16 := lookE hA16 5 (et rfl)
    clear hA16 hsz7 hdf7 l0_7 l3_7 l21_7
    refine then_n (hK13 _ _ ?_)
    clear hK13
    refine wp_seq_k (fun K17 hK17 => ?_)
    -- region 4
    refine region_in ?_
    refine W_v rfl rfl (V_mov rfl l0_16) ?_
    refine W_call rfl rfl rfl Try.func22 (by kernel_rfl) rfl (args1 (et rfl)) (kCk_c (hS15.roC h_rv) ) ?_
    rintro _ w18 ⟨rfl, hP18⟩
    refine ⟨_, rfl, ?_⟩
    have hS18 := hS15.join hP18
    replace hS18 : St w NoX [c15, c2] w18 := hS18
    refine W_v rfl rfl (V_mov rfl (et rfl)) ?_
    refine W_v rfl rfl (V_ext (v := .int .i64 ((ckR l).1)) rfl (et rfl) rfl) ?_
    refine W_v rfl rfl (V_ext (v := .int .i64 ((ckR l).2)) rfl (es rfl (et rfl)) rfl) ?_
    refine W_v rfl rfl (V_asg rfl (es rfl (et rfl))) ?_
    refine W_v rfl rfl (V_asg rfl (es rfl (et rfl))) ?_
    refine W_end ?_
    refine gen_Q (fun A19 hA19 => ?_)
    have hsz19 : SzN A19 182 := by rw [hA19]; infer_instance
    have hdf19 : A19.defers = [] := by rw [hA19]; simp only [df_put]; exact hdf16
    have l0_19 := lookE hA19 0 (es rfl (es rfl (es rfl (es rfl (es rfl (es rfl (es rfl l0_16)))))))
    have l3_19 := lookE hA19 3 (es rfl (es rfl (es rfl (es rfl (es rfl (es rfl (es rfl l3_16)))))))
    have l5_19 := lookE hA19 5 (es rfl (es rfl (es rfl (es rfl (es rfl (es rfl (es rfl l5_16)))))))
    have l6_19 := lookE hA19 6 (es rfl (et rfl))
    have l7_19 := lookE hA19 7 (et rfl)
    clear hA19 hsz16 hdf16 l0_16 l3_16 l5_16
    refine then_n (hK17 _ _ ?_)
    clear hK17
    refine wp_seq_k (fun K20 hK20 => ?_)
    -- region 5
    refine region_in ?_
    refine W_v rfl rfl (V_mov rfl l0_19) ?_
    refine W_call rfl rfl rfl Try.func26 (by kernel_rfl) rfl (args1 (et rfl)) (qCk_c (hS18.roC h_rv) ) ?_
    rintro _ w21 ⟨rfl, hP21⟩
    refine ⟨_, rfl, ?_⟩
    have hS21 := hS18.join hP21
    replace hS21 : St w NoX [c15, c2] w21 := hS21
    refine W_v rfl rfl (V_mov rfl (et rfl)) ?_
    refine W_v rfl rfl (V_ext (v := .int .i64 ((ckR l).1)) rfl (et rfl) rfl) ?_
    refine W_v rfl rfl (V_ext (v := .int .i64 ((ckR l).2)) rfl (es rfl (et rfl)) rfl) ?_
    refine W_v rfl rfl (V_asg rfl (es rfl (et rfl))) ?_
    refine W_v rfl rfl (V_asg rfl (es rfl (et rfl))) ?_
    refine W_end ?_
    refine gen_Q (fun A22 hA22 => ?_)
    have hsz22 : SzN A22 182 := by rw [hA22]; infer_instance
    have hdf22 : A22.defers = [] := by rw [hA22]; simp only [df_put]; exact hdf19
    have l0_22 := lookE hA22 0 (es rfl (es rfl (es rfl (es rfl (es rfl (es rfl (es rfl l0_19)))))))
    have l3_22 := lookE hA22 3 (es rfl (es rfl (es rfl (es rfl (es rfl (es rfl (es rfl l3_19)))))))
    have l5_22 := lookE hA22 5 (es rfl (es rfl (es rfl (es rfl (es rfl (es rfl (es rfl l5_19)))))))
    have l6_22 := lookE hA22 6 (es rfl (es rfl (es rfl (es rfl (es rfl (es rfl (es rfl l6_19)))))))
    have l7_22 := lookE hA22 7 (es rfl (es rfl (es rfl (es rfl (es rfl (es rfl (es rfl l7_19)))))))
    have l8_22 := lookE hA22 8 (es rfl (et rfl))
    have l9_22 := lookE hA22 9 (et rfl)
    clear hA22 hsz19 hdf19 l0_19 l3_19 l5_19 l6_19 l7_19
    refine then_n (hK20 _ _ ?_)
    clear hK20
    refine wp_seq_k (fun K23 hK23 => ?_)
    -- region 6
    refine region_in ?_
    refine W_v rfl rfl (V_mov rfl l0_22) ?_
    refine W_v rfl rfl (V_fa (off' := 0) rfl (es rfl l3_22) Try.underlying48 rfl (by decide) rfl) ?_
    refine W_r rfl rfl (VR_ldC rfl (et rfl) (cell_box (v := .int .i64 (xa)) (hS21.obj 1 rfl hc2) rfl) Try.underlying3 rfl) ?_
    refine W_call rfl rfl rfl Try.func27 (by kernel_rfl) rfl (args2 (es rfl (es rfl (et rfl))) (et rfl)) (kGt_c (a := xa) (hS21.roC h_rv) ) ?_
    rintro _ w24 ⟨rfl, hP24⟩
    refine ⟨_, rfl, ?_⟩
    have hS24 := hS21.join hP24
    replace hS24 : St w NoX [c15, c2] w24 := hS24
    refine W_v rfl rfl (V_mov rfl (et rfl)) ?_
    refine W_v rfl rfl (V_ext (v := .int .i64 ((gtN l xa))) rfl (et rfl) rfl) ?_
    refine W_v rfl rfl (V_ext (v := .int .i64 ((nmE l [xa]))) rfl (es rfl (et rfl)) rfl) ?_
    refine W_v rfl rfl (V_asg rfl (es rfl (et rfl))) ?_
    refine W_v rfl rfl (V_asg rfl (es rfl (et rfl))) ?_
    refine W_end ?_
    refine gen_Q (fun A25 hA25 => ?_)
    have hsz25 : SzN A25 182 := by rw [hA25]; infer_instance
    have hdf25 : A25.defers = [] := by rw [hA25]; simp only [df_put]; exact hdf22
    have l0_25 := lookE hA25 0 (es rfl (es rfl (es rfl (es rfl (es rfl (es rfl (es rfl (es rfl (es rfl l0_22)))))))))
    have l3_25 := lookE hA25 3 (es rfl (es rfl (es rfl (es rfl (es rfl (es rfl (es rfl (es rfl (es rfl l3_22)))))))))
    have l5_25 := lookE hA25 5 (es rfl (es rfl (es rfl (es rfl (es rfl (es rfl (es rfl (es rfl (es rfl l5_22)))))))))
    have l6_25 := lookE hA25 6 (es rfl (es rfl (es rfl (es rfl (es rfl (es rfl (es rfl (es rfl (es rfl l6_22)))))))))
    have l7_25 := lookE hA25 7 (es rfl (es rfl (es rfl (es rfl (es rfl (es rfl (es rfl (es rfl (es rfl l7_22)))))))))
    have l8_25 := lookE hA25 8 (es rfl (es rfl (es rfl (es rfl (es rfl (es rfl (es rfl (es rfl (es rfl l8_22)))))))))
    have l9_25 := lookE hA25 9 (es rfl (es rfl (es rfl (es rfl (es rfl (es rfl (es rfl (es rfl (es rfl l9_22)))))))))
    have l10_25 := lookE hA25 10 (es rfl (et rfl))
    have l11_25 := lookE hA25 11 (et rfl)
    clear hA25 hsz22 hdf22 l0_22 l3_22 l5_22 l6_22 l7_22 l8_22 l9_22
    refine then_n (hK23 _ _ ?_)
    clear hK23
    refine wp_seq_k (fun K26 hK26 => ?_)
    -- region 7
    refine region_in ?_
    refine W_v rfl rfl (V_mov rfl l0_25) ?_
    refine W_v rfl rfl (V_fa (off' := 0) rfl (es rfl l3_25) Try.underlying48 rfl (by decide) rfl) ?_
    refine W_r rfl rfl (VR_ldC rfl (et rfl) (cell_box (v := .int .i64 (xa)) (hS24.obj 1 rfl hc2) rfl) Try.underlying3 rfl) ?_
    refine W_call rfl rfl rfl Try.func28 (by kernel_rfl) rfl (args2 (es rfl (es rfl (et rfl))) (et rfl)) (qGt_c (a := xa) (hS24.roC h_rv) ) ?_
    rintro _ w27 ⟨rfl, hP27⟩
    refine ⟨_, rfl, ?_⟩
    have hS27 := hS24.join hP27
    replace hS27 : St w NoX [c15, c2] w27 := hS27
    refine W_v rfl rfl (V_mov rfl (et rfl)) ?_
    refine W_v rfl rfl (V_ext (v := .int .i64 ((gtN l xa))) rfl (et rfl) rfl) ?_
    refine W_v rfl rfl (V_ext (v := .int .i64 ((nmE l [xa]))) rfl (es rfl (et rfl)) rfl) ?_
    refine W_v rfl rfl (V_asg rfl (es rfl (et rfl))) ?_
    refine W_v rfl rfl (V_asg rfl (es rfl (et rfl))) ?_
    refine W_end ?_
    refine gen_Q (fun A28 hA28 => ?_)
    have hsz28 : SzN A28 182 := by rw [hA28]; infer_instance
    have hdf28 : A28.defers = [] := by rw [hA28]; simp only [df_put]; exact hdf25
    have l0_28 := lookE hA28 0 (es rfl (es rfl (es rfl (es rfl (es rfl (es rfl (es rfl (es rfl (es rfl l0_25)))))))))
    have l3_28 := lookE hA28 3 (es rfl (es rfl (es rfl (es rfl (es rfl (es rfl (es rfl (es rfl (es rfl l3_25)))))))))
    have l5_28 := lookE hA28 5 (es rfl (es rfl (es rfl (es rfl (es rfl (es rfl (es rfl (es rfl (es rfl l5_25)))))))))
    have l6_28 := lookE hA28 6 (es rfl (es rfl (es rfl (es rfl (es rfl (es rfl (es rfl (es rfl (es rfl l6_25)))))))))
    have l7_28 := lookE hA28 7 (es rfl (es rfl (es rfl (es rfl (es rfl (es rfl (es rfl (es rfl (es rfl l7_25)))))))))
    have l8_28 := lookE hA28 8 (es rfl (es rfl (es rfl (es rfl (es rfl (es rfl (es rfl (es rfl (es rfl l8_25)))))))))
    have l9_28 := lookE hA28 9 (es rfl (es rfl (es rfl (es rfl (es rfl (es rfl (es rfl (es rfl (es rfl l9_25)))))))))
    have l10_28 := lookE hA28 10 (es rfl (es rfl (es rfl (es rfl (es rfl (es rfl (es rfl (es rfl (es rfl l10_25)))))))))
    have l11_28 := lookE hA28 11 (es rfl (es rfl (es rfl (es rfl (es rfl (es rfl (es rfl (es rfl (es rfl l11_25)))))))))
    have l12_28 := lookE hA28 12 (es rfl (et rfl))
    have l13_28 := lookE hA28 13 (et rfl)
    clear hA28 hsz25 hdf25 l0_25 l3_25 l5_25 l6_25 l7_25 l8_25 l9_25 l10_25 l11_25
    refine then_n (hK26 _ _ ?_)
    clear hK26
    refine wp_seq_k (fun K29 hK29 => ?_)
    refine wp_seq_k (fun K30 hK30 => ?_)
    -- region 8
    refine region_in ?_
    refine W_v rfl rfl (V_mov rfl l6_28) ?_
    refine W_v rfl rfl (V_mov rfl (es rfl l8_28)) ?_
    refine W_v rfl rfl (V_neq rfl (es rfl (et rfl)) (et rfl)) ?_
    refine W_sure (c' := false) rfl rfl (V_mov rfl (et rfl)) (by simp) ?_
    refine W_v rfl (wanted_t rfl rfl (et rfl) (ez rfl)) (V_mov rfl (es rfl (es rfl (es rfl (es rfl l7_28))))) ?_
    refine W_v rfl (wanted_t rfl rfl (es rfl (et rfl)) (ez rfl)) (V_mov rfl (es rfl (es rfl (es rfl (es rfl (es rfl l9_28)))))) ?_
    refine W_v rfl (wanted_t rfl rfl (es rfl (es rfl (et rfl))) (ez rfl)) (V_neq rfl (es rfl (et rfl)) (et rfl)) ?_
    refine W_v rfl rfl (V_pickF rfl (es rfl (es rfl (es rfl (et rfl)))) (et rfl)) ?_
    refine W_sure (c' := false) rfl rfl (V_mov rfl (et rfl)) (by simp) ?_
    refine W_v rfl (wanted_t rfl rfl (et rfl) (ez rfl)) (V_mov rfl (es rfl (es rfl (es rfl (es rfl (es rfl (es rfl (es rfl (es rfl (es rfl l10_28)))))))))) ?_
    refine W_v rfl (wanted_t rfl rfl (es rfl (et rfl)) (ez rfl)) (V_mov rfl (es rfl (es rfl (es rfl (es rfl (es rfl (es rfl (es rfl (es rfl (es rfl (es rfl l12_28))))))))))) ?_
    refine W_v rfl (wanted_t rfl rfl (es rfl (es rfl (et rfl))) (ez rfl)) (V_neq rfl (es rfl (et rfl)) (et rfl)) ?_
    refine W_v rfl rfl (V_pickF rfl (es rfl (es rfl (es rfl (et rfl)))) (et rfl)) ?_
    refine W_sure (c' := false) rfl rfl (V_mov rfl (et rfl)) (by simp) ?_
    refine W_v rfl (wanted_t rfl rfl (et rfl) (ez rfl)) (V_mov rfl (es rfl (es rfl (es rfl (es rfl (es rfl (es rfl (es rfl (es rfl (es rfl (es rfl (es rfl (es rfl (es rfl (es rfl l11_28))))))))))))))) ?_
    refine W_v rfl (wanted_t rfl rfl (es rfl (et rfl)) (ez rfl)) (V_mov rfl (es rfl (es rfl (es rfl (es rfl (es rfl (es rfl (es rfl (es rfl (es rfl (es rfl (es rfl (es rfl (es rfl (es rfl (es rfl l13_28)))))))))))))))) ?_
    refine W_v rfl (wanted_t rfl rfl (es rfl (es rfl (et rfl))) (ez rfl)) (V_neq rfl (es rfl (et rfl)) (et rfl)) ?_
    refine W_v rfl rfl (V_pickF rfl (es rfl (es rfl (es rfl (et rfl)))) (et rfl)) ?_
    refine W_end ?_
    refine gen_Q (fun A31 hA31 => ?_)
    have hsz31 : SzN A31 182 := by rw [hA31]; infer_instance
    have hdf31 : A31.defers = [] := by rw [hA31]; simp only [df_put]; exact hdf28
    have l0_31 := lookE hA31 0 (es rfl (es rfl (es rfl (es rfl (es rfl (es rfl (es rfl (es rfl (es rfl (es rfl (es rfl (es rfl (es rfl (es rfl (es rfl (es rfl (es rfl (es rfl l0_28))))))))))))))))))
    have l3_31 := lookE hA31 3 (es rfl (es rfl (es rfl (es rfl (es rfl (es rfl (es rfl (es rfl (es rfl (es rfl (es rfl (es rfl (es rfl (es rfl (es rfl (es rfl (es rfl (es rfl l3_28))))))))))))))))))
    have l5_31 := lookE hA31 5 (es rfl (es rfl (es rfl (es rfl (es rfl (es rfl (es rfl (es rfl (es rfl (es rfl (es rfl (es rfl (es rfl (es rfl (es rfl (es rfl (es rfl (es rfl l5_28))))))))))))))))))
    have l67_31 := lookE hA31 67 (et rfl)
    clear hA31 hsz28 hdf28 l0_28 l3_28 l5_28 l6_28 l7_28 l8_28 l9_28 l10_28 l11_28 l12_28 l13_28
    refine then_n (hK30 _ _ ?_)
    clear hK30
    refine cond_not l67_31 (by simp) ?_
    refine wp_skip ?_
    refine then_n (hK29 _ _ ?_)
    clear hK29
    refine wp_seq_k (fun K32 hK32 => ?_)
    -- region 10
    refine region_in ?_
    refine W_v rfl rfl (V_mov rfl l0_31) ?_
    refine W_v rfl rfl (V_fa (off' := 0) rfl (es rfl l3_31) Try.underlying48 rfl (by decide) rfl) ?_
    refine W_r rfl rfl (VR_ldC rfl (et rfl) (cell_box (v := .int .i64 (xa)) (hS27.obj 1 rfl hc2) rfl) Try.underlying3 rfl) ?_
    refine W_v rfl rfl (V_fa (off' := 2) rfl (es rfl (es rfl (es rfl l3_31))) Try.underlying48 rfl (by decide) rfl) ?_
    refine W_r rfl rfl (VR_ldC rfl (et rfl) (cell_box (v := .int .i64 (xx)) (hS27.obj 1 rfl hc2) rfl) Try.underlying3 rfl) ?_
    refine W_call rfl rfl rfl Try.func24 (by kernel_rfl) rfl (args3 (es rfl (es rfl (es rfl (es rfl (et rfl))))) (es rfl (es rfl (et rfl))) (et rfl)) (kSt_c (a := xa) (x := xx) (hS27.roC h_rv) ) ?_
    rintro _ w33 ⟨v_33, rfl, hP33⟩
    refine ⟨_, rfl, ?_⟩
    obtain ⟨c_33, hc_33, hP33⟩ := gen1 hP33
    have hS33 := hS27.join hP33
    replace hS33 : St w NoX [c_33, c15, c2] w33 := hS33
    refine W_v rfl rfl (V_mov rfl (et rfl)) ?_
    refine W_v rfl rfl (V_ext (v := v_33) rfl (et rfl) rfl) ?_
    refine W_v rfl rfl (V_ext (v := .int .i64 ((stE l xa xx))) rfl (es rfl (et rfl)) rfl) ?_
    refine W_v rfl rfl (V_asg rfl (es rfl (et rfl))) ?_
    refine W_v rfl rfl (V_asg rfl (es rfl (et rfl))) ?_
    refine W_end ?_
    refine gen_Q (fun A34 hA34 => ?_)
    have hsz34 : SzN A34 182 := by rw [hA34]; infer_instance
    have hdf34 : A34.defers = [] := by rw [hA34]; simp only [df_put]; exact hdf31
    have l0_34 := lookE hA34 0 (es rfl (es rfl (es rfl (es rfl (es rfl (es rfl (es rfl (es rfl (es rfl (es rfl (es rfl l0_31)))))))))))
    have l3_34 := lookE hA34 3 (es rfl (es rfl (es rfl (es rfl (es rfl (es rfl (es rfl (es rfl (es rfl (es rfl (es rfl l3_31)))))))))))
    have l5_34 := lookE hA34 5 (es rfl (es rfl (es rfl (es rfl (es rfl (es rfl (es rfl (es rfl (es rfl (es rfl (es rfl l5_31)))))))))))
    have l7_34 := lookE hA34 7 (et rfl)
    have l14_34 := lookE hA34 14 (es rfl (et rfl))
    clear hA34 hsz31 hdf31 l0_31 l3_31 l5_31 l67_31
    refine then_n (hK32 _ _ ?_)
    clear hK32
    refine wp_seq_k (fun K35 hK35 => ?_)
    -- region 11
    refine region_in ?_
    refine W_v rfl rfl (V_mov rfl l0_34) ?_
    refine W_v rfl rfl (V_fa (off' := 0) rfl (es rfl l3_34) Try.underlying48 rfl (by decide) rfl) ?_
    refine W_r rfl rfl (VR_ldC rfl (et rfl) (cell_box (v := .int .i64 (xa)) (hS33.obj 2 rfl hc2) rfl) Try.underlying3 rfl) ?_
    refine W_v rfl rfl (V_fa (off' := 2) rfl (es rfl (es rfl (es rfl l3_34))) Try.underlying48 rfl (by decide) rfl) ?_
    refine W_r rfl rfl (VR_ldC rfl (et rfl) (cell_box (v := .int .i64 (xx)) (hS33.obj 2 rfl hc2) rfl) Try.underlying3 rfl) ?_
    refine W_call rfl rfl rfl Try.func29 (by kernel_rfl) rfl (args3 (es rfl (es rfl (es rfl (es rfl (et rfl))))) (es rfl (es rfl (et rfl))) (et rfl)) (qSt_c (a := xa) (x := xx) (hS33.roC h_rv) ) ?_
    rintro _ w36 ⟨v_36, rfl, hP36⟩
    refine ⟨_, rfl, ?_⟩
    obtain ⟨c_36, hc_36, hP36⟩ := gen1 hP36
    have hS36 := hS33.join hP36
    replace hS36 : St w NoX [c_36, c_33, c15, c2] w36 := hS36
    refine W_v rfl rfl (V_mov rfl (et rfl)) ?_
    refine W_v rfl rfl (V_ext (v := v_36) rfl (et rfl) rfl) ?_
    refine W_v rfl rfl (V_ext (v := .int .i64 ((stE l xa xx))) rfl (es rfl (et rfl)) rfl) ?_
    refine W_v rfl rfl (V_asg rfl (es rfl (et rfl))) ?_
    refine W_v rfl rfl (V_asg rfl (es rfl (et rfl))) ?_
    refine W_end ?_
    refine gen_Q (fun A37 hA37 => ?_)
    have hsz37 : SzN A37 182 := by rw [hA37]; infer_instance
    have hdf37 : A37.defers = [] := by rw [hA37]; simp only [df_put]; exact hdf34
    have l0_37 := lookE hA37 0 (es rfl (es rfl (es rfl (es rfl (es rfl (es rfl (es rfl (es rfl (es rfl (es rfl (es rfl l0_34)))))))))))
    have l3_37 := lookE hA37 3 (es rfl (es rfl (es rfl (es rfl (es rfl (es rfl (es rfl (es rfl (es rfl (es rfl (es rfl l3_34)))))))))))
    have l5_37 := lookE hA37 5 (es rfl (es rfl (es rfl (es rfl (es rfl (es rfl (es rfl (es rfl (es rfl (es rfl (es rfl l5_34)))))))))))
    have l7_37 := lookE hA37 7 (es rfl (es rfl (es rfl (es rfl (es rfl (es rfl (es rfl (es rfl (es rfl (es rfl (es rfl l7_34)))))))))))
    have l9_37 := lookE hA37 9 (et rfl)
    have l14_37 := lookE hA37 14 (es rfl (es rfl (es rfl (es rfl (es rfl (es rfl (es rfl (es rfl (es rfl (es rfl (es rfl l14_34)))))))))))
    have l15_37 := lookE hA37 15 (es rfl (et rfl))
    clear hA37 hsz34 hdf34 l0_34 l3_34 l5_34 l7_34 l14_34
    refine then_n (hK35 _ _ ?_)
    clear hK35
    refine wp_seq_k (fun K38 hK38 => ?_)
    -- region 12
    refine region_in ?_
    refine W_v rfl rfl (V_mov rfl l0_37) ?_
    refine W_v rfl rfl (V_fa (off' := 0) rfl (es rfl l3_37) Try.underlying48 rfl (by decide) rfl) ?_
    refine W_r rfl rfl (VR_ldC rfl (et rfl) (cell_box (v := .int .i64 (xa)) (hS36.obj 3 rfl hc2) rfl) Try.underlying3 rfl) ?_
    refine W_v rfl rfl (V_fa (off' := 1) rfl (es rfl (es rfl (es rfl l3_37))) Try.underlying48 rfl (by decide) rfl) ?_
    refine W_r rfl rfl (VR_ldC rfl (et rfl) (cell_box (v := .int .i64 (xb)) (hS36.obj 3 rfl hc2) rfl) Try.underlying3 rfl) ?_
    refine W_call rfl rfl rfl Try.func25 (by kernel_rfl) rfl (args3 (es rfl (es rfl (es rfl (es rfl (et rfl))))) (es rfl (es rfl (et rfl))) (et rfl)) (kMv_c (a := xa) (b := xb) (hS36.roC h_rv) ) ?_
    rintro _ w39 ⟨v_39, rfl, hP39⟩
    refine ⟨_, rfl, ?_⟩
    obtain ⟨c_39, hc_39, hP39⟩ := gen1 hP39
    have hS39 := hS36.join hP39
    replace hS39 : St w NoX [c_39, c_36, c_33, c15, c2] w39 := hS39
    refine W_v rfl rfl (V_mov rfl (et rfl)) ?_
    refine W_v rfl rfl (V_ext (v := v_39) rfl (et rfl) rfl) ?_
    refine W_v rfl rfl (V_ext (v := .int .i64 ((nmE l [xa, xb]))) rfl (es rfl (et rfl)) rfl) ?_
    refine W_v rfl rfl (V_asg rfl (es rfl (et rfl))) ?_
    refine W_v rfl rfl (V_asg rfl (es rfl (et rfl))) ?_
    refine W_end ?_
    refine gen_Q (fun A40 hA40 => ?_)
    have hsz40 : SzN A40 182 := by rw [hA40]; infer_instance
    have hdf40 : A40.defers = [] := by rw [hA40]; simp only [df_put]; exact hdf37
    have l0_40 := lookE hA40 0 (es rfl (es rfl (es rfl (es rfl (es rfl (es rfl (es rfl (es rfl (es rfl (es rfl (es rfl l0_37)))))))))))
    have l3_40 := lookE hA40 3 (es rfl (es rfl (es rfl (es rfl (es rfl (es rfl (es rfl (es rfl (es rfl (es rfl (es rfl l3_37)))))))))))
    have l5_40 := lookE hA40 5 (es rfl (es rfl (es rfl (es rfl (es rfl (es rfl (es rfl (es rfl (es rfl (es rfl (es rfl l5_37)))))))))))
    have l7_40 := lookE hA40 7 (es rfl (es rfl (es rfl (es rfl (es rfl (es rfl (es rfl (es rfl (es rfl (es rfl (es rfl l7_37)))))))))))
    have l9_40 := lookE hA40 9 (es rfl (es rfl (es rfl (es rfl (es rfl (es rfl (es rfl (es rfl (es rfl (es rfl (es rfl l9_37)))))))))))
    have l11_40 := lookE hA40 11 (et rfl)
    have l14_40 := lookE hA40 14 (es rfl (es rfl (es rfl (es rfl (es rfl (es rfl (es rfl (es rfl (es rfl (es rfl (es rfl l14_37)))))))))))
    have l15_40 := lookE hA40 15 (es rfl (es rfl (es rfl (es rfl (es rfl (es rfl (es rfl (es rfl (es rfl (es rfl (es rfl l15_37)))))))))))
    have l16_40 := lookE hA40 16 (es rfl (et rfl))
    clear hA40 hsz37 hdf37 l0_37 l3_37 l5_37 l7_37 l9_37 l14_37 l15_37
    refine then_n (hK38 _ _ ?_)
    clear hK38
    refine wp_seq_k (fun K41 hK41 => ?_)
    -- region 13
    refine region_in ?_
    refine W_v rfl rfl (V_mov rfl l0_40) ?_
    refine W_v rfl rfl (V_fa (off' := 0) rfl (es rfl l3_40) Try.underlying48 rfl (by decide) rfl) ?_
    refine W_r rfl rfl (VR_ldC rfl (et rfl) (cell_box (v := .int .i64 (xa)) (hS39.obj 4 rfl hc2) rfl) Try.underlying3 rfl) ?_
    refine W_v rfl rfl (V_fa (off' := 1) rfl (es rfl (es rfl (es rfl l3_40))) Try.underlying48 rfl (by decide) rfl) ?_
    refine W_r rfl rfl (VR_ldC rfl (et rfl) (cell_box (v := .int .i64 (xb)) (hS39.obj 4 rfl hc2) rfl) Try.underlying3 rfl) ?_
    refine W_call rfl rfl rfl Try.func30 (by kernel_rfl) rfl (args3 (es rfl (es rfl (es rfl (es rfl (et rfl))))) (es rfl (es rfl (et rfl))) (et rfl)) (qMv_c (a := xa) (b := xb) (hS39.roC h_rv) ) ?_
    rintro _ w42 ⟨v_42, rfl, hP42⟩
    refine ⟨_, rfl, ?_⟩
    obtain ⟨c_42, hc_42, hP42⟩ := gen1 hP42
    have hS42 := hS39.join hP42
    replace hS42 : St w NoX [c_42, c_39, c_36, c_33, c15, c2] w42 := hS42
    refine W_v rfl rfl (V_mov rfl (et rfl)) ?_
    refine W_v rfl rfl (V_ext (v := v_42) rfl (et rfl) rfl) ?_
    refine W_v rfl rfl (V_ext (v := .int .i64 ((nmE l [xa, xb]))) rfl (es rfl (et rfl)) rfl) ?_
    refine W_v rfl rfl (V_asg rfl (es rfl (et rfl))) ?_
    refine W_v rfl rfl (V_asg rfl (es rfl (et rfl))) ?_
    refine W_end ?_
    refine gen_Q (fun A43 hA43 => ?_)
    have hsz43 : SzN A43 182 := by rw [hA43]; infer_instance
    have hdf43 : A43.defers = [] := by rw [hA43]; simp only [df_put]; exact hdf40
    have l0_43 := lookE hA43 0 (es rfl (es rfl (es rfl (es rfl (es rfl (es rfl (es rfl (es rfl (es rfl (es rfl (es rfl l0_40)))))))))))
    have l3_43 := lookE hA43 3 (es rfl (es rfl (es rfl (es rfl (es rfl (es rfl (es rfl (es rfl (es rfl (es rfl (es rfl l3_40)))))))))))
    have l5_43 := lookE hA43 5 (es rfl (es rfl (es rfl (es rfl (es rfl (es rfl (es rfl (es rfl (es rfl (es rfl (es rfl l5_40)))))))))))
    have l7_43 := lookE hA43 7 (es rfl (es rfl (es rfl (es rfl (es rfl (es rfl (es rfl (es rfl (es rfl (es rfl (es rfl l7_40)))))))))))
    have l9_43 := lookE hA43 9 (es rfl (es rfl (es rfl (es rfl (es rfl (es rfl (es rfl (es rfl (es rfl (es rfl (es rfl l9_40)))))))))))
    have l11_43 := lookE hA43 11 (es rfl (es rfl (es rfl (es rfl (es rfl (es rfl (es rfl (es rfl (es rfl (es rfl (es rfl l11_40)))))))))))
    have l13_43 := lookE hA43 13 (et rfl)
    have l14_43 := lookE hA43 14 (es rfl (es rfl (es rfl (es rfl (es rfl (es rfl (es rfl (es rfl (es rfl (es rfl (es rfl l14_40)))))))))))
    have l15_43 := lookE hA43 15 (es rfl (es rfl (es rfl (es rfl (es rfl (es rfl (es rfl (es rfl (es rfl (es rfl (es rfl l15_40)))))))))))
    have l16_43 := lookE hA43 16 (es rfl (es rfl (es rfl (es rfl (es rfl (es rfl (es rfl (es rfl (es rfl (es rfl (es rfl l16_40)))))))))))
    have l17_43 := lookE hA43 17 (es rfl (et rfl))
    clear hA43 hsz40 hdf40 l0_40 l3_40 l5_40 l7_40 l9_40 l11_40 l14_40 l15_40 l16_40
    refine then_n (hK41 _ _ ?_)
    clear hK41
    refine wp_seq_k (fun K44 hK44 => ?_)
    refine wp_seq_k (fun K45 hK45 => ?_)
    -- region 14
    refine region_in ?_
    refine W_v rfl rfl (V_mov rfl l14_43) ?_
    refine W_v rfl rfl (V_mov rfl (es rfl l15_43)) ?_
    refine W_call rfl rfl rfl Try.func17 (by kernel_rfl) rfl (args2 (es rfl (et rfl)) (et rfl)) (qInts_c (hS42.chC 3 rfl hc_33).own (hS42.chC 2 rfl hc_36).own ) ?_
    rintro _ w46 ⟨rfl, hP46⟩
    refine ⟨_, rfl, ?_⟩
    have hS46 := hS42.join hP46
    replace hS46 : St w NoX [c_42, c_39, c_36, c_33, c15, c2] w46 := hS46
    refine W_v rfl rfl (V_notd rfl (et rfl)) ?_
    refine W_sure (c' := false) rfl rfl (V_mov rfl (et rfl)) (by simp) ?_
    refine W_v rfl (wanted_t rfl rfl (et rfl) (ez rfl)) (V_mov rfl (es rfl (es rfl (es rfl (es rfl (es rfl l7_43)))))) ?_
    refine W_v rfl (wanted_t rfl rfl (es rfl (et rfl)) (ez rfl)) (V_mov rfl (es rfl (es rfl (es rfl (es rfl (es rfl (es rfl l9_43))))))) ?_
    refine W_v rfl (wanted_t rfl rfl (es rfl (es rfl (et rfl))) (ez rfl)) (V_neq rfl (es rfl (et rfl)) (et rfl)) ?_
    refine W_v rfl rfl (V_pickF rfl (es rfl (es rfl (es rfl (et rfl)))) (et rfl)) ?_
    refine W_sure (c' := false) rfl rfl (V_mov rfl (et rfl)) (by simp) ?_
    refine W_v rfl (wanted_t rfl rfl (et rfl) (ez rfl)) (V_mov rfl (es rfl (es rfl (es rfl (es rfl (es rfl (es rfl (es rfl (es rfl (es rfl (es rfl l16_43))))))))))) ?_
    refine W_v rfl (wanted_t rfl rfl (es rfl (et rfl)) (ez rfl)) (V_mov rfl (es rfl (es rfl (es rfl (es rfl (es rfl (es rfl (es rfl (es rfl (es rfl (es rfl (es rfl l17_43)))))))))))) ?_
    refine W_call rfl (wanted_t rfl rfl (es rfl (es rfl (et rfl))) (ez rfl)) rfl Try.func17 (by kernel_rfl) rfl (args2 (es rfl (et rfl)) (et rfl)) (qInts_c (hS46.chC 1 rfl hc_39).own (hS46.chC 0 rfl hc_42).own ) ?_
    rintro _ w47 ⟨rfl, hP47⟩
    refine ⟨_, rfl, ?_⟩
    have hS47 := hS46.join hP47
    replace hS47 : St w NoX [c_42, c_39, c_36, c_33, c15, c2] w47 := hS47
    refine W_v rfl (wanted_t rfl rfl (es rfl (es rfl (es rfl (et rfl)))) (ez rfl)) (V_notd rfl (et rfl)) ?_
    refine W_v rfl rfl (V_pickF rfl (es rfl (es rfl (es rfl (es rfl (et rfl))))) (et rfl)) ?_
    refine W_sure (c' := false) rfl rfl (V_mov rfl (et rfl)) (by simp) ?_
    refine W_v rfl (wanted_t rfl rfl (et rfl) (ez rfl)) (V_mov rfl (es rfl (es rfl (es rfl (es rfl (es rfl (es rfl (es rfl (es rfl (es rfl (es rfl (es rfl (es rfl (es rfl (es rfl (es rfl (es rfl l11_43))))))))))))))))) ?_
    refine W_v rfl (wanted_t rfl rfl (es rfl (et rfl)) (ez rfl)) (V_mov rfl (es rfl (es rfl (es rfl (es rfl (es rfl (es rfl (es rfl (es rfl (es rfl (es rfl (es rfl (es rfl (es rfl (es rfl (es rfl (es rfl (es rfl l13_43)))))))))))))))))) ?_
    refine W_v rfl (wanted_t rfl rfl (es rfl (es rfl (et rfl))) (ez rfl)) (V_neq rfl (es rfl (et rfl)) (et rfl)) ?_
    refine W_v rfl rfl (V_pickF rfl (es rfl (es rfl (es rfl (et rfl)))) (et rfl)) ?_
    refine W_end ?_
    refine gen_Q (fun A48 hA48 => ?_)
    have hsz48 : SzN A48 182 := by rw [hA48]; infer_instance
    have hdf48 : A48.defers = [] := by rw [hA48]; simp only [df_put]; exact hdf43
    have l0_48 := lookE hA48 0 (es rfl (es rfl (es rfl (es rfl (es rfl (es rfl (es rfl (es rfl (es rfl (es rfl (es rfl (es rfl (es rfl (es rfl (es rfl (es rfl (es rfl (es rfl (es rfl (es rfl l0_43))))))))))))))))))))
    have l3_48 := lookE hA48 3 (es rfl (es rfl (es rfl (es rfl (es rfl (es rfl (es rfl (es rfl (es rfl (es rfl (es rfl (es rfl (es rfl (es rfl (es rfl (es rfl (es rfl (es rfl (es rfl (es rfl l3_43))))))))))))))))))))
    have l5_48 := lookE hA48 5 (es rfl (es rfl (es rfl (es rfl (es rfl (es rfl (es rfl (es rfl (es rfl (es rfl (es rfl (es rfl (es rfl (es rfl (es rfl (es rfl (es rfl (es rfl (es rfl (es rfl l5_43))))))))))))))))))))
    have l123_48 := lookE hA48 123 (et rfl)
    clear hA48 hsz43 hdf43 l0_43 l3_43 l5_43 l7_43 l9_43 l11_43 l13_43 l14_43 l15_43 l16_43 l17_43
    have hS49 : St w NoX [c15, c2] w47 := hS47.sel [4, 5] (by decide) rfl
    refine then_n (hK45 _ _ ?_)
    clear hK45
    refine cond_not l123_48 (by simp) ?_
    refine wp_skip ?_
    refine then_n (hK44 _ _ ?_)
    clear hK44
    refine wp_seq_k (fun K50 hK50 => ?_)
    -- region 16
    refine region_in ?_
    refine W_v rfl rfl (V_mov rfl l0_48) ?_
    refine W_v rfl rfl (V_fa (off' := 0) rfl (es rfl l3_48) Try.underlying48 rfl (by decide) rfl) ?_
    refine W_r rfl rfl (VR_ldC rfl (et rfl) (cell_box (v := .int .i64 (xa)) (hS49.obj 1 rfl hc2) rfl) Try.underlying3 rfl) ?_
    refine W_call rfl rfl rfl Try.func31 (by kernel_rfl) rfl (args2 (es rfl (es rfl (et rfl))) (et rfl)) (kCl_c (a := xa) (hS49.roC h_rv) ) ?_
    rintro _ w51 ⟨v_51, rfl, hP51⟩
    refine ⟨_, rfl, ?_⟩
    obtain ⟨c_51, hc_51, hP51⟩ := gen1 hP51
    have hS51 := hS49.join hP51
    replace hS51 : St w NoX [c_51, c15, c2] w51 := hS51
    refine W_v rfl rfl (V_mov rfl (et rfl)) ?_
    refine W_v rfl rfl (V_ext (v := v_51) rfl (et rfl) rfl) ?_
    refine W_v rfl rfl (V_ext (v := .int .i64 ((stE l xa 0))) rfl (es rfl (et rfl)) rfl) ?_
    refine W_v rfl rfl (V_asg rfl (es rfl (et rfl))) ?_
    refine W_v rfl rfl (V_asg rfl (es rfl (et rfl))) ?_
    refine W_end ?_
    refine gen_Q (fun A52 hA52 => ?_)
    have hsz52 : SzN A52 182 := by rw [hA52]; infer_instance
    have hdf52 : A52.defers = [] := by rw [hA52]; simp only [df_put]; exact hdf48
    have l0_52 := lookE hA52 0 (es rfl (es rfl (es rfl (es rfl (es rfl (es rfl (es rfl (es rfl (es rfl l0_48)))))))))
    have l3_52 := lookE hA52 3 (es rfl (es rfl (es rfl (es rfl (es rfl (es rfl (es rfl (es rfl (es rfl l3_48)))))))))
    have l5_52 := lookE hA52 5 (es rfl (es rfl (es rfl (es rfl (es rfl (es rfl (es rfl (es rfl (es rfl l5_48)))))))))
    have l7_52 := lookE hA52 7 (et rfl)
    have l14_52 := lookE hA52 14 (es rfl (et rfl))
    clear hA52 hsz48 hdf48 l0_48 l3_48 l5_48 l123_48
    refine then_n (hK50 _ _ ?_)
    clear hK50
    refine wp_seq_k (fun K53 hK53 => ?_)
    -- region 17
    refine region_in ?_
    refine W_v rfl rfl (V_mov rfl l0_52) ?_
    refine W_v rfl rfl (V_fa (off' := 0) rfl (es rfl l3_52) Try.underlying48 rfl (by decide) rfl) ?_
    refine W_r rfl rfl (VR_ldC rfl (et rfl) (cell_box (v := .int .i64 (xa)) (hS51.obj 2 rfl hc2) rfl) Try.underlying3 rfl) ?_
    refine W_call rfl rfl rfl Try.func32 (by kernel_rfl) rfl (args2 (es rfl (es rfl (et rfl))) (et rfl)) (qCl_c (a := xa) (hS51.roC h_rv) ) ?_
    rintro _ w54 ⟨v_54, rfl, hP54⟩
    refine ⟨_, rfl, ?_⟩
    obtain ⟨c_54, hc_54, hP54⟩ := gen1 hP54
    have hS54 := hS51.join hP54
    replace hS54 : St w NoX [c_54, c_51, c15, c2] w54 := hS54
    refine W_v rfl rfl (V_mov rfl (et rfl)) ?_
    refine W_v rfl rfl (V_ext (v := v_54) rfl (et rfl) rfl) ?_
    refine W_v rfl rfl (V_ext (v := .int .i64 ((stE l xa 0))) rfl (es rfl (et rfl)) rfl) ?_
    refine W_v rfl rfl (V_asg rfl (es rfl (et rfl))) ?_
    refine W_v rfl rfl (V_asg rfl (es rfl (et rfl))) ?_
    refine W_end ?_
    refine gen_Q (fun A55 hA55 => ?_)
    have hsz55 : SzN A55 182 := by rw [hA55]; infer_instance
    have hdf55 : A55.defers = [] := by rw [hA55]; simp only [df_put]; exact hdf52
    have l0_55 := lookE hA55 0 (es rfl (es rfl (es rfl (es rfl (es rfl (es rfl (es rfl (es rfl (es rfl l0_52)))))))))
    have l3_55 := lookE hA55 3 (es rfl (es rfl (es rfl (es rfl (es rfl (es rfl (es rfl (es rfl (es rfl l3_52)))))))))
    have l5_55 := lookE hA55 5 (es rfl (es rfl (es rfl (es rfl (es rfl (es rfl (es rfl (es rfl (es rfl l5_52)))))))))
    have l7_55 := lookE hA55 7 (es rfl (es rfl (es rfl (es rfl (es rfl (es rfl (es rfl (es rfl (es rfl l7_52)))))))))
    have l9_55 := lookE hA55 9 (et rfl)
    have l14_55 := lookE hA55 14 (es rfl (es rfl (es rfl (es rfl (es rfl (es rfl (es rfl (es rfl (es rfl l14_52)))))))))
    have l15_55 := lookE hA55 15 (es rfl (et rfl))
    clear hA55 hsz52 hdf52 l0_52 l3_52 l5_52 l7_52 l14_52
    refine then_n (hK53 _ _ ?_)
    clear hK53
    refine wp_seq_k (fun K56 hK56 => ?_)
    -- region 18
    refine region_in ?_
    refine W_v rfl rfl (V_mov rfl l0_55) ?_
    refine W_v rfl rfl (V_fa (off' := 0) rfl (es rfl l3_55) Try.underlying48 rfl (by decide) rfl) ?_
    refine W_r rfl rfl (VR_ldC rfl (et rfl) (cell_box (v := .int .i64 (xa)) (hS54.obj 3 rfl hc2) rfl) Try.underlying3 rfl) ?_
    refine W_v rfl rfl (V_fa (off' := 1) rfl (es rfl (es rfl (es rfl l3_55))) Try.underlying48 rfl (by decide) rfl) ?_
    refine W_r rfl rfl (VR_ldC rfl (et rfl) (cell_box (v := .int .i64 (xb)) (hS54.obj 3 rfl hc2) rfl) Try.underlying3 rfl) ?_
    refine W_call rfl rfl rfl Try.func33 (by kernel_rfl) rfl (args3 (es rfl (es rfl (es rfl (es rfl (et rfl))))) (es rfl (es rfl (et rfl))) (et rfl)) (kAl_c (a := xa) (b := xb) (hS54.roC h_rv) ) ?_
    rintro _ w57 ⟨rfl, hP57⟩
    refine ⟨_, rfl, ?_⟩
    have hS57 := hS54.join hP57
    replace hS57 : St w NoX [c_54, c_51, c15, c2] w57 := hS57
    refine W_v rfl rfl (V_mov rfl (et rfl)) ?_
    refine W_v rfl rfl (V_ext (v := .bool ((alB l xa xb))) rfl (et rfl) rfl) ?_
    refine W_v rfl rfl (V_ext (v := .int .i64 ((nmE l [xa, xb]))) rfl (es rfl (et rfl)) rfl) ?_
    refine W_v rfl rfl (V_asg rfl (es rfl (et rfl))) ?_
    refine W_v rfl rfl (V_asg rfl (es rfl (et rfl))) ?_
    refine W_end ?_
    refine gen_Q (fun A58 hA58 => ?_)
    have hsz58 : SzN A58 182 := by rw [hA58]; infer_instance
    have hdf58 : A58.defers = [] := by rw [hA58]; simp only [df_put]; exact hdf55
    have l0_58 := lookE hA58 0 (es rfl (es rfl (es rfl (es rfl (es rfl (es rfl (es rfl (es rfl (es rfl (es rfl (es rfl l0_55)))))))))))
    have l3_58 := lookE hA58 3 (es rfl (es rfl (es rfl (es rfl (es rfl (es rfl (es rfl (es rfl (es rfl (es rfl (es rfl l3_55)))))))))))
    have l5_58 := lookE hA58 5 (es rfl (es rfl (es rfl (es rfl (es rfl (es rfl (es rfl (es rfl (es rfl (es rfl (es rfl l5_55)))))))))))
    have l7_58 := lookE hA58 7 (es rfl (es rfl (es rfl (es rfl (es rfl (es rfl (es rfl (es rfl (es rfl (es rfl (es rfl l7_55)))))))))))
    have l9_58 := lookE hA58 9 (es rfl (es rfl (es rfl (es rfl (es rfl (es rfl (es rfl (es rfl (es rfl (es rfl (es rfl l9_55)))))))))))
    have l11_58 := lookE hA58 11 (et rfl)
    have l14_58 := lookE hA58 14 (es rfl (es rfl (es rfl (es rfl (es rfl (es rfl (es rfl (es rfl (es rfl (es rfl (es rfl l14_55)))))))))))
    have l15_58 := lookE hA58 15 (es rfl (es rfl (es rfl (es rfl (es rfl (es rfl (es rfl (es rfl (es rfl (es rfl (es rfl l15_55)))))))))))
    have l18_58 := lookE hA58 18 (es rfl (et rfl))
    clear hA58 hsz55 hdf55 l0_55 l3_55 l5_55 l7_55 l9_55 l14_55 l15_55
    refine then_n (hK56 _ _ ?_)
    clear hK56
    refine wp_seq_k (fun K59 hK59 => ?_)
    -- region 19
    refine region_in ?_
    refine W_v rfl rfl (V_mov rfl l0_58) ?_
    refine W_v rfl rfl (V_fa (off' := 0) rfl (es rfl l3_58) Try.underlying48 rfl (by decide) rfl) ?_
    refine W_r rfl rfl (VR_ldC rfl (et rfl) (cell_box (v := .int .i64 (xa)) (hS57.obj 3 rfl hc2) rfl) Try.underlying3 rfl) ?_
    refine W_v rfl rfl (V_fa (off' := 1) rfl (es rfl (es rfl (es rfl l3_58))) Try.underlying48 rfl (by decide) rfl) ?_
    refine W_r rfl rfl (VR_ldC rfl (et rfl) (cell_box (v := .int .i64 (xb)) (hS57.obj 3 rfl hc2) rfl) Try.underlying3 rfl) ?_
    refine W_call rfl rfl rfl Try.func34 (by kernel_rfl) rfl (args3 (es rfl (es rfl (es rfl (es rfl (et rfl))))) (es rfl (es rfl (et rfl))) (et rfl)) (qAl_c (a := xa) (b := xb) (hS57.roC h_rv) ) ?_
    rintro _ w60 ⟨rfl, hP60⟩
    refine ⟨_, rfl, ?_⟩
    have hS60 := hS57.join hP60
    replace hS60 : St w NoX [c_54, c_51, c15, c2] w60 := hS60
    refine W_v rfl rfl (V_mov rfl (et rfl)) ?_
    refine W_v rfl rfl (V_ext (v := .bool ((alB l xa xb))) rfl (et rfl) rfl) ?_
    refine W_v rfl rfl (V_ext (v := .int .i64 ((nmE l [xa, xb]))) rfl (es rfl (et rfl)) rfl) ?_
    refine W_v rfl rfl (V_asg rfl (es rfl (et rfl))) ?_
    refine W_v rfl rfl (V_asg rfl (es rfl (et rfl))) ?_
    refine W_end ?_
    refine gen_Q (fun A61 hA61 => ?_)
    have hsz61 : SzN A61 182 := by rw [hA61]; infer_instance
    have hdf61 : A61.defers = [] := by rw [hA61]; simp only [df_put]; exact hdf58
    have l0_61 := lookE hA61 0 (es rfl (es rfl (es rfl (es rfl (es rfl (es rfl (es rfl (es rfl (es rfl (es rfl (es rfl l0_58)))))))))))
    have l5_61 := lookE hA61 5 (es rfl (es rfl (es rfl (es rfl (es rfl (es rfl (es rfl (es rfl (es rfl (es rfl (es rfl l5_58)))))))))))
    have l7_61 := lookE hA61 7 (es rfl (es rfl (es rfl (es rfl (es rfl (es rfl (es rfl (es rfl (es rfl (es rfl (es rfl l7_58)))))))))))
    have l9_61 := lookE hA61 9 (es rfl (es rfl (es rfl (es rfl (es rfl (es rfl (es rfl (es rfl (es rfl (es rfl (es rfl l9_58)))))))))))
    have l11_61 := lookE hA61 11 (es rfl (es rfl (es rfl (es rfl (es rfl (es rfl (es rfl (es rfl (es rfl (es rfl (es rfl l11_58)))))))))))
    have l13_61 := lookE hA61 13 (et rfl)
    have l14_61 := lookE hA61 14 (es rfl (es rfl (es rfl (es rfl (es rfl (es rfl (es rfl (es rfl (es rfl (es rfl (es rfl l14_58)))))))))))
    have l15_61 := lookE hA61 15 (es rfl (es rfl (es rfl (es rfl (es rfl (es rfl (es rfl (es rfl (es rfl (es rfl (es rfl l15_58)))))))))))
    have l18_61 := lookE hA61 18 (es rfl (es rfl (es rfl (es rfl (es rfl (es rfl (es rfl (es rfl (es rfl (es rfl (es rfl l18_58)))))))))))
    have l19_61 := lookE hA61 19 (es rfl (et rfl))
    clear hA61 hsz58 hdf58 l0_58 l3_58 l5_58 l7_58 l9_58 l11_58 l14_58 l15_58 l18_58
    have hS62 : St w NoX [c_54, c_51, c15] w60 := hS60.sel [0, 1, 2] (by decide) rfl
    refine then_n (hK59 _ _ ?_)
    clear hK59
    refine wp_seq_k (fun K63 hK63 => ?_)
    -- region 20
    refine region_in ?_
    refine W_v rfl rfl (V_mov rfl l14_61) ?_
    refine W_v rfl rfl (V_mov rfl (es rfl l15_61)) ?_
    refine W_call rfl rfl rfl Try.func17 (by kernel_rfl) rfl (args2 (es rfl (et rfl)) (et rfl)) (qInts_c (hS62.chC 1 rfl hc_51).own (hS62.chC 0 rfl hc_54).own ) ?_
    rintro _ w64 ⟨rfl, hP64⟩
    refine ⟨_, rfl, ?_⟩
    have hS64 := hS62.join hP64
    replace hS64 : St w NoX [c_54, c_51, c15] w64 := hS64
    refine W_sure (c' := true) rfl rfl (V_mov rfl (et rfl)) (by simp) ?_
    refine W_v rfl (wanted_t rfl rfl (et rfl) (ez rfl)) (V_mov rfl (es rfl (es rfl (es rfl (es rfl l7_61))))) ?_
    refine W_v rfl (wanted_t rfl rfl (es rfl (et rfl)) (ez rfl)) (V_mov rfl (es rfl (es rfl (es rfl (es rfl (es rfl l9_61)))))) ?_
    refine W_v rfl (wanted_t rfl rfl (es rfl (es rfl (et rfl))) (ez rfl)) (V_eql rfl (es rfl (et rfl)) (et rfl)) ?_
    refine W_v rfl rfl (V_pickT rfl (es rfl (es rfl (es rfl (et rfl)))) (et rfl)) ?_
    refine W_sure (c' := true) rfl rfl (V_mov rfl (et rfl)) (by simp) ?_
    refine W_v rfl (wanted_t rfl rfl (et rfl) (ez rfl)) (V_mov rfl (es rfl (es rfl (es rfl (es rfl (es rfl (es rfl (es rfl (es rfl (es rfl l18_61)))))))))) ?_
    refine W_v rfl (wanted_t rfl rfl (es rfl (et rfl)) (ez rfl)) (V_mov rfl (es rfl (es rfl (es rfl (es rfl (es rfl (es rfl (es rfl (es rfl (es rfl (es rfl l19_61))))))))))) ?_
    refine W_v rfl (wanted_t rfl rfl (es rfl (es rfl (et rfl))) (ez rfl)) (V_eqB rfl (es rfl (et rfl)) (et rfl) Try.underlying4) ?_
    refine W_v rfl rfl (V_pickT rfl (es rfl (es rfl (es rfl (et rfl)))) (et rfl)) ?_
    refine W_sure (c' := true) rfl rfl (V_mov rfl (et rfl)) (by simp) ?_
    refine W_v rfl (wanted_t rfl rfl (et rfl) (ez rfl)) (V_mov rfl (es rfl (es rfl (es rfl (es rfl (es rfl (es rfl (es rfl (es rfl (es rfl (es rfl (es rfl (es rfl (es rfl (es rfl l11_61))))))))))))))) ?_
    refine W_v rfl (wanted_t rfl rfl (es rfl (et rfl)) (ez rfl)) (V_mov rfl (es rfl (es rfl (es rfl (es rfl (es rfl (es rfl (es rfl (es rfl (es rfl (es rfl (es rfl (es rfl (es rfl (es rfl (es rfl l13_61)))))))))))))))) ?_
    refine W_v rfl (wanted_t rfl rfl (es rfl (es rfl (et rfl))) (ez rfl)) (V_eql rfl (es rfl (et rfl)) (et rfl)) ?_
    refine W_v rfl rfl (V_pickT rfl (es rfl (es rfl (es rfl (et rfl)))) (et rfl)) ?_
    refine W_sure (c' := true) rfl rfl (V_mov rfl (et rfl)) (by simp) ?_
    refine W_v rfl (wanted_t rfl rfl (et rfl) (ez rfl)) (V_mov rfl (es rfl (es rfl (es rfl (es rfl (es rfl (es rfl (es rfl (es rfl (es rfl (es rfl (es rfl (es rfl (es rfl (es rfl (es rfl (es rfl (es rfl (es rfl (es rfl l0_61)))))))))))))))))))) ?_
    refine W_v rfl (wanted_t rfl rfl (es rfl (et rfl)) (ez rfl)) (V_mov rfl (es rfl (es rfl (es rfl (es rfl (es rfl (es rfl (es rfl (es rfl (es rfl (es rfl (es rfl (es rfl (es rfl (es rfl (es rfl (es rfl (es rfl (es rfl (es rfl (es rfl l5_61))))))))))))))))))))) ?_
    refine W_call rfl (wanted_t rfl rfl (es rfl (es rfl (et rfl))) (ez rfl)) rfl Try.func17 (by kernel_rfl) rfl (args2 (es rfl (et rfl)) (et rfl)) (qInts_c (hS64.roC h_rv) (hS64.chC 2 rfl hc15).own ) ?_
    rintro _ w65 ⟨rfl, hP65⟩
    refine ⟨_, rfl, ?_⟩
    have hS65 := hS64.join hP65
    replace hS65 : St w NoX [c_54, c_51, c15] w65 := hS65
    refine W_v rfl rfl (V_pickT rfl (es rfl (es rfl (es rfl (et rfl)))) (et rfl)) ?_
    refine W_sure (c' := true) rfl rfl (V_mov rfl (et rfl)) (by simp) ?_
    refine W_call rfl (wanted_t rfl rfl (et rfl) (ez rfl)) rfl Try.func12 (by kernel_rfl) rfl (args0) (shw_c  ) ?_
    rintro _ w66 ⟨rfl, hP66⟩
    refine ⟨_, rfl, ?_⟩
    have hS66 := hS65.join hP66
    replace hS66 : St w NoX [c_54, c_51, c15] w66 := hS66
    refine W_v rfl rfl (V_pickT rfl (es rfl (et rfl)) (et rfl)) ?_
    refine W_v rfl rfl (V_asg rfl (et rfl)) ?_
    refine W_end ?_
    refine gen_Q (fun A67 hA67 => ?_)
    have hsz67 : SzN A67 182 := by rw [hA67]; infer_instance
    have hdf67 : A67.defers = [] := by rw [hA67]; simp only [df_put]; exact hdf61
    have l4_67 := lookE hA67 4 (et rfl)
    clear hA67 hsz61 hdf61 l0_61 l5_61 l7_61 l9_61 l11_61 l13_61 l14_61 l15_61 l18_61 l19_61
    have hS68 : St w NoX [] w66 := hS66.sel [] (by decide) rfl
    refine then_n (hK63 _ _ ?_)
    clear hK63
    refine wp_ret ?_
    refine ret_in (results_1 Try.results9 (rv_tmp l4_67)) hdf67 ?_
    -- leaf F
    exact ⟨rfl, hS68.fin0⟩

end Go.Proofs.Ytbnijekjaafoaaa