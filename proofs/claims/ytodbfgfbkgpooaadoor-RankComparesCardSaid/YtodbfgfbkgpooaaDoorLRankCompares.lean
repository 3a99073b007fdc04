import Derived.Test.YtodbfgfbkgpooaaDoorProg
import Derived.Test.YtodbfgfbkgpooaaDoorRa7
namespace Go.Proofs.YtodbfgfbkgpooaaDoor
open Go.RowKit Go.Own


set_option maxHeartbeats 4000000 in
theorem RankCompares_c {lv : Value} {lo : List Int} {yv : Value} {yo : List Int} {a : Int} {b : Int} {gT0 : Nat} {w : World} (h_lv : Ro w NoX (il .i64 lv lo)) (h_yv : Ro w NoX (il .i64 yv yo)) (hG0 : Ro w NoX (bx 0 gT0 #[.int .i64 (-1), .int .i64 (-1)]))  :
    Calls Tryd.prog 3 #[.agg #[lv, yv], .int .i64 a, .int .i64 b] w fun e w' => e = .returned (.bool true) ∧ St w NoX [] w' := by
  refine calls_in 112 Tryd.func3 rfl rfl (by simp) (fun A0 hsz0 hdf0 hargs => ?_)
  have l0_0 := hargs 0 (.agg #[lv, yv]) rfl
  have l1_0 := hargs 1 (.int .i64 a) rfl
  have l2_0 := hargs 2 (.int .i64 b) rfl
  clear hargs; replace hsz0 : SzN A0 112 := ⟨hsz0⟩
  have hS := St.nil w
  have bh_lv := SlN.le (sl_SlN h_lv.at)
  have bh_yv := SlN.le (sl_SlN h_yv.at)
  refine wp_seq_k (fun K1 hK1 => ?_)
  -- region 0
  refine region_in ?_
  refine W_boxS (zs := #[lv, yv]) hS rfl rfl rfl l0_0 (by rfl) (fun g2 w2 c2 hc2 hS2 => ?_)
  replace hS2 : St w NoX [c2] w2 := hS2
  refine W_v rfl rfl (V_asg rfl rfl) ?_
  refine W_end ?_
  refine gen_Q (fun A3 hA3 => ?_)
  have hsz3 : SzN A3 112 := by rw [hA3]; infer_instance
  have hdf3 : A3.defers = [] := by rw [hA3]; simp only [df_put]; exact hdf0
  have l1_3 := lookE hA3 1 (es rfl (es rfl l1_0))
  have l2_3 := lookE hA3 2 (es rfl (es rfl l2_0))
  have l3_3 := lookE hA3 3 (es rfl (et rfl))
  clear hA3 hsz0 hdf0 l0_0 l1_0 l2_0
  refine then_n (hK1 _ _ ?_)
  clear hK1
  refine wp_seq_k (fun K4 hK4 => ?_)
  refine wp_seq_k (fun K5 hK5 => ?_)
  -- region 1
  refine region_in ?_
  refine W_r rfl rfl (VR_ldA rfl l3_3 (hS2.obj 0 rfl hc2) Tryd.underlying24 rfl (by kernel_rfl)) ?_
  refine W_call rfl rfl rfl Tryd.func11 (by kernel_rfl) rfl (args1 (et rfl)) (lift0 (Far_c (hS2.roC h_lv).ints (hS2.roC h_yv).ints)) ?_
  rintro _ w6 ⟨rfl, hP6⟩
  refine ⟨_, rfl, ?_⟩
  have hS6 := hS2.join hP6
  replace hS6 : St w NoX [c2] w6 := hS6
  refine W_end ?_
  refine gen_Q (fun A7 hA7 => ?_)
  have hsz7 : SzN A7 112 := by rw [hA7]; infer_instance
  have hdf7 : A7.defers = [] := by rw [hA7]; simp only [df_put]; exact hdf3
  have l1_7 := lookE hA7 1 (es rfl (es rfl l1_3))
  have l2_7 := lookE hA7 2 (es rfl (es rfl l2_3))
  have l3_7 := lookE hA7 3 (es rfl (es rfl l3_3))
  have l18_7 := lookE hA7 18 (et rfl)
  clear hA7 hsz3 hdf3 l1_3 l2_3 l3_3
  refine then_n (hK5 _ _ ?_)
  clear hK5
  refine cond_dec l18_7 (fun c8 => ?_) (fun c8 => ?_)
  · skip
    refine wp_seq_k (fun K9 hK9 => ?_)
    -- region 2
    refine region_in ?_
    refine W_call rfl rfl rfl Tryd.func12 (by kernel_rfl) rfl (args0) (awk_c (hS6.roC hG0) ) ?_
    rintro _ w10 ⟨rfl, hP10⟩
    refine ⟨_, rfl, ?_⟩
    have hS10 := hS6.join hP10
    replace hS10 : St w NoX [c2] w10 := hS10
    refine W_v rfl rfl (V_asg rfl (et rfl)) ?_
    refine W_end ?_
    refine gen_Q (fun A11 hA11 => ?_)
    have hsz11 : SzN A11 112 := by rw [hA11]; infer_instance
    have hdf11 : A11.defers = [] := by rw [hA11]; simp only [df_put]; exact hdf7
    have l6_11 := lookE hA11 6 (et rfl)
    clear hA11 hsz7 hdf7 l1_7 l2_7 l3_7 l18_7
    have hS12 : St w NoX [] w10 := hS10.sel [] (by decide) rfl
    refine then_n (hK9 _ _ ?_)
    clear hK9
    refine wp_ret ?_
    refine then_ret ?_
    refine ret_in (results_1 Tryd.results3 (rv_tmp l6_11)) hdf11 ?_
    -- leaf T
    exact ⟨rfl, hS12.fin0⟩
  · skip
    refine wp_skip ?_
    refine then_n (hK4 _ _ ?_)
    clear hK4
    refine wp_seq_k (fun K13 hK13 => ?_)
    -- region 3
    refine region_in ?_
    refine W_r rfl rfl (VR_ldA rfl l3_7 (hS6.obj 0 rfl hc2) Tryd.underlying24 rfl (by kernel_rfl)) ?_
    refine W_v rfl rfl (V_mov rfl (es rfl l1_7)) ?_
    refine W_v rfl rfl (V_mov rfl (es rfl (es rfl l2_7))) ?_
    refine W_call rfl rfl rfl Tryd.func13 (by kernel_rfl) rfl (args3 (es rfl (es rfl (et rfl))) (es rfl (et rfl)) (et rfl)) (kCmp_c (a := a) (b := b) (hS6.roC h_lv) (hS6.roC h_yv) (hS6.roC hG0) ) ?_
    rintro _ w14 ⟨rfl, hP14⟩
    refine ⟨_, rfl, ?_⟩
    have hS14 := hS6.join hP14
    replace hS14 : St w NoX [c2] w14 := hS14
    refine W_v rfl rfl (V_mov rfl (et rfl)) ?_
    refine W_v rfl rfl (V_ext (v := .int .i64 ((cmN lo yo a b))) rfl (et rfl) rfl) ?_
    refine W_v rfl rfl (V_ext (v := .int .i64 ((cmE lo yo a b))) rfl (es rfl (et rfl)) rfl) ?_
    refine W_v rfl rfl (V_asg rfl (es rfl (et rfl))) ?_
    refine W_v rfl rfl (V_asg rfl (es rfl (et rfl))) ?_
    refine W_end ?_
    refine gen_Q (fun A15 hA15 => ?_)
    have hsz15 : SzN A15 112 := by rw [hA15]; infer_instance
    have hdf15 : A15.defers = [] := by rw [hA15]; simp only [df_put]; exact hdf7
    have l1_15 := lookE hA15 1 (es rfl (es rfl (es rfl (es rfl (es rfl (es rfl (es rfl (es rfl (es rfl l1_7)))))))))
    have l2_15 := lookE hA15 2 (es rfl (es rfl (es rfl (es rfl (es rfl (es rfl (es rfl (es rfl (es rfl l2_7)))))))))
    have l3_15 := lookE hA15 3 (es rfl (es rfl (es rfl (es rfl (es rfl (es rfl (es rfl (es rfl (es rfl l3_7)))))))))
    have l7_15 := lookE hA15 7 (es rfl (et rfl))
    have l8_15 := lookE hA15 8 (et rfl)
    clear hA15 hsz7 hdf7 l1_7 l2_7 l3_7 l18_7
    refine then_n (hK13 _ _ ?_)
    clear hK13
    refine wp_seq_k (fun K16 hK16 => ?_)
    -- region 4
    refine region_in ?_
    refine W_r rfl rfl (VR_ldA rfl l3_15 (hS14.obj 0 rfl hc2) Tryd.underlying24 rfl (by kernel_rfl)) ?_
    refine W_v rfl rfl (V_mov rfl (es rfl l1_15)) ?_
    refine W_v rfl rfl (V_mov rfl (es rfl (es rfl l2_15))) ?_
    refine W_call rfl rfl rfl Tryd.func14 (by kernel_rfl) rfl (args3 (es rfl (es rfl (et rfl))) (es rfl (et rfl)) (et rfl)) (qCmp_c (a := a) (b := b) (hS14.roC h_lv) (hS14.roC h_yv) (by first | omega | (simp; done) | (simp; omega)) (by first | omega | (simp; done) | (simp; omega))) ?_
    rintro _ w17 ⟨rfl, hP17⟩
    refine ⟨_, rfl, ?_⟩
    have hS17 := hS14.join hP17
    replace hS17 : St w NoX [c2] w17 := hS17
    refine W_v rfl rfl (V_mov rfl (et rfl)) ?_
    refine W_v rfl rfl (V_ext (v := .int .i64 ((cmN lo yo a b))) rfl (et rfl) rfl) ?_
    refine W_v rfl rfl (V_ext (v := .int .i64 ((cmE lo yo a b))) rfl (es rfl (et rfl)) rfl) ?_
    refine W_v rfl rfl (V_asg rfl (es rfl (et rfl))) ?_
    refine W_v rfl rfl (V_asg rfl (es rfl (et rfl))) ?_
    refine W_end ?_
    refine gen_Q (fun A18 hA18 => ?_)
    have hsz18 : SzN A18 112 := by rw [hA18]; infer_instance
    have hdf18 : A18.defers = [] := by rw [hA18]; simp only [df_put]; exact hdf15
    have l1_18 := lookE hA18 1 (es rfl (es rfl (es rfl (es rfl (es rfl (es rfl (es rfl (es rfl (es rfl l1_15)))))))))
    have l2_18 := lookE hA18 2 (es rfl (es rfl (es rfl (es rfl (es rfl (es rfl (es rfl (es rfl (es rfl l2_15)))))))))
    have l3_18 := lookE hA18 3 (es rfl (es rfl (es rfl (es rfl (es rfl (es rfl (es rfl (es rfl (es rfl l3_15)))))))))
    have l7_18 := lookE hA18 7 (es rfl (es rfl (es rfl (es rfl (es rfl (es rfl (es rfl (es rfl (es rfl l7_15)))))))))
    have l8_18 := lookE hA18 8 (es rfl (es rfl (es rfl (es rfl (es rfl (es rfl (es rfl (es rfl (es rfl l8_15)))))))))
    have l9_18 := lookE hA18 9 (es rfl (et rfl))
    have l10_18 := lookE hA18 10 (et rfl)
    clear hA18 hsz15 hdf15 l1_15 l2_15 l3_15 l7_15 l8_15
    refine then_n (hK16 _ _ ?_)
    clear hK16
    refine wp_seq_k (fun K19 hK19 => ?_)
    -- region 5
    refine region_in ?_
    refine W_r rfl rfl (VR_ldA rfl l3_18 (hS17.obj 0 rfl hc2) Tryd.underlying24 rfl (by kernel_rfl)) ?_
    refine W_v rfl rfl (V_mov rfl (es rfl l1_18)) ?_
    refine W_call rfl rfl rfl Tryd.func15 (by kernel_rfl) rfl (args2 (es rfl (et rfl)) (et rfl)) (kOld_c (c := a) (hS17.roC h_lv) (hS17.roC h_yv) (hS17.roC hG0) ) ?_
    rintro _ w20 ⟨v_20, rfl, hP20⟩
    refine ⟨_, rfl, ?_⟩
    obtain ⟨c_20, hc_20, hP20⟩ := gen1 hP20
    have hS20 := hS17.join hP20
    replace hS20 : St w NoX [c_20, c2] w20 := hS20
    refine W_v rfl rfl (V_mov rfl (et rfl)) ?_
    refine W_v rfl rfl (V_ext (v := v_20) rfl (et rfl) rfl) ?_
    refine W_v rfl rfl (V_ext (v := .int .i64 ((plE lo yo a))) rfl (es rfl (et rfl)) rfl) ?_
    refine W_v rfl rfl (V_asg rfl (es rfl (et rfl))) ?_
    refine W_v rfl rfl (V_asg rfl (es rfl (et rfl))) ?_
    refine W_end ?_
    refine gen_Q (fun A21 hA21 => ?_)
    have hsz21 : SzN A21 112 := by rw [hA21]; infer_instance
    have hdf21 : A21.defers = [] := by rw [hA21]; simp only [df_put]; exact hdf18
    have l1_21 := lookE hA21 1 (es rfl (es rfl (es rfl (es rfl (es rfl (es rfl (es rfl (es rfl l1_18))))))))
    have l2_21 := lookE hA21 2 (es rfl (es rfl (es rfl (es rfl (es rfl (es rfl (es rfl (es rfl l2_18))))))))
    have l3_21 := lookE hA21 3 (es rfl (es rfl (es rfl (es rfl (es rfl (es rfl (es rfl (es rfl l3_18))))))))
    have l7_21 := lookE hA21 7 (es rfl (es rfl (es rfl (es rfl (es rfl (es rfl (es rfl (es rfl l7_18))))))))
    have l8_21 := lookE hA21 8 (es rfl (es rfl (es rfl (es rfl (es rfl (es rfl (es rfl (es rfl l8_18))))))))
    have l9_21 := lookE hA21 9 (es rfl (es rfl (es rfl (es rfl (es rfl (es rfl (es rfl (es rfl l9_18))))))))
    have l10_21 := lookE hA21 10 (es rfl (es rfl (es rfl (es rfl (es rfl (es rfl (es rfl (es rfl l10_18))))))))
    have l11_21 := lookE hA21 11 (es rfl (et rfl))
    have l12_21 := lookE hA21 12 (et rfl)
    clear hA21 hsz18 hdf18 l1_18 l2_18 l3_18 l7_18 l8_18 l9_18 l10_18
    refine then_n (hK19 _ _ ?_)
    clear hK19
    refine wp_seq_k (fun K22 hK22 => ?_)
    -- region 6
    refine region_in ?_
    refine W_r rfl rfl (VR_ldA rfl l3_21 (hS20.obj 1 rfl hc2) Tryd.underlying24 rfl (by kernel_rfl)) ?_
    refine W_v rfl rfl (V_mov rfl (es rfl l1_21)) ?_
    refine W_call rfl rfl rfl Tryd.func16 (by kernel_rfl) rfl (args2 (es rfl (et rfl)) (et rfl)) (qOld_c (c := a) (hS20.roC h_lv) (hS20.roC h_yv) (by first | omega | (simp; done) | (simp; omega)) (by first | omega | (simp; done) | (simp; omega))) ?_
    rintro _ w23 ⟨v_23, rfl, hP23⟩
    refine ⟨_, rfl, ?_⟩
    obtain ⟨c_23, hc_23, hP23⟩ := gen1 hP23
    have hS23 := hS20.join hP23
    replace hS23 : St w NoX [c_23, c_20, c2] w23 := hS23
    refine W_v rfl rfl (V_mov rfl (et rfl)) ?_
    refine W_v rfl rfl (V_ext (v := v_23) rfl (et rfl) rfl) ?_
    refine W_v rfl rfl (V_ext (v := .int .i64 ((plE lo yo a))) rfl (es rfl (et rfl)) rfl) ?_
    refine W_v rfl rfl (V_asg rfl (es rfl (et rfl))) ?_
    refine W_v rfl rfl (V_asg rfl (es rfl (et rfl))) ?_
    refine W_end ?_
    refine gen_Q (fun A24 hA24 => ?_)
    have hsz24 : SzN A24 112 := by rw [hA24]; infer_instance
    have hdf24 : A24.defers = [] := by rw [hA24]; simp only [df_put]; exact hdf21
    have l1_24 := lookE hA24 1 (es rfl (es rfl (es rfl (es rfl (es rfl (es rfl (es rfl (es rfl l1_21))))))))
    have l2_24 := lookE hA24 2 (es rfl (es rfl (es rfl (es rfl (es rfl (es rfl (es rfl (es rfl l2_21))))))))
    have l3_24 := lookE hA24 3 (es rfl (es rfl (es rfl (es rfl (es rfl (es rfl (es rfl (es rfl l3_21))))))))
    have l7_24 := lookE hA24 7 (es rfl (es rfl (es rfl (es rfl (es rfl (es rfl (es rfl (es rfl l7_21))))))))
    have l8_24 := lookE hA24 8 (es rfl (es rfl (es rfl (es rfl (es rfl (es rfl (es rfl (es rfl l8_21))))))))
    have l9_24 := lookE hA24 9 (es rfl (es rfl (es rfl (es rfl (es rfl (es rfl (es rfl (es rfl l9_21))))))))
    have l10_24 := lookE hA24 10 (es rfl (es rfl (es rfl (es rfl (es rfl (es rfl (es rfl (es rfl l10_21))))))))
    have l11_24 := lookE hA24 11 (es rfl (es rfl (es rfl (es rfl (es rfl (es rfl (es rfl (es rfl l11_21))))))))
    have l12_24 := lookE hA24 12 (es rfl (es rfl (es rfl (es rfl (es rfl (es rfl (es rfl (es rfl l12_21))))))))
    have l13_24 := lookE hA24 13 (es rfl (et rfl))
    have l14_24 := lookE hA24 14 (et rfl)
    clear hA24 hsz21 hdf21 l1_21 l2_21 l3_21 l7_21 l8_21 l9_21 l10_21 l11_21 l12_21
    refine then_n (hK22 _ _ ?_)
    clear hK22
    refine wp_seq_k (fun K25 hK25 => ?_)
    refine wp_seq_k (fun K26 hK26 => ?_)
    -- region 7
    refine region_in ?_
    refine W_v rfl rfl (V_mov rfl l7_24) ?_
    refine W_v rfl rfl (V_mov rfl (es rfl l9_24)) ?_
    refine W_v rfl rfl (V_neq rfl (es rfl (et rfl)) (et rfl)) ?_
    refine W_sure (c' := false) rfl rfl (V_mov rfl (et rfl)) (by simp) ?_
    refine W_v rfl (wanted_t rfl rfl (et rfl) (ez rfl)) (V_mov rfl (es rfl (es rfl (es rfl (es rfl l8_24))))) ?_
    refine W_v rfl (wanted_t rfl rfl (es rfl (et rfl)) (ez rfl)) (V_mov rfl (es rfl (es rfl (es rfl (es rfl (es rfl l10_24)))))) ?_
    refine W_v rfl (wanted_t rfl rfl (es rfl (es rfl (et rfl))) (ez rfl)) (V_neq rfl (es rfl (et rfl)) (et rfl)) ?_
    refine W_v rfl rfl (V_pickF rfl (es rfl (es rfl (es rfl (et rfl)))) (et rfl)) ?_
    refine W_sure (c' := false) rfl rfl (V_mov rfl (et rfl)) (by simp) ?_
    refine W_v rfl (wanted_t rfl rfl (et rfl) (ez rfl)) (V_mov rfl (es rfl (es rfl (es rfl (es rfl (es rfl (es rfl (es rfl (es rfl (es rfl l11_24)))))))))) ?_
    refine W_v rfl (wanted_t rfl rfl (es rfl (et rfl)) (ez rfl)) (V_mov rfl (es rfl (es rfl (es rfl (es rfl (es rfl (es rfl (es rfl (es rfl (es rfl (es rfl l13_24))))))))))) ?_
    refine W_call rfl (wanted_t rfl rfl (es rfl (es rfl (et rfl))) (ez rfl)) rfl Tryd.func17 (by kernel_rfl) rfl (args2 (es rfl (et rfl)) (et rfl)) (lift0 (Ints_c (hS23.chC 1 rfl hc_20).own.ints (hS23.chC 0 rfl hc_23).own.ints)) ?_
    rintro _ w27 ⟨rfl, hP27⟩
    refine ⟨_, rfl, ?_⟩
    have hS27 := hS23.join hP27
    replace hS27 : St w NoX [c_23, c_20, c2] w27 := hS27
    refine W_v rfl (wanted_t rfl rfl (es rfl (es rfl (es rfl (et rfl)))) (ez rfl)) (V_notd rfl (et rfl)) ?_
    refine W_v rfl rfl (V_pickF rfl (es rfl (es rfl (es rfl (es rfl (et rfl))))) (et rfl)) ?_
    refine W_sure (c' := false) rfl rfl (V_mov rfl (et rfl)) (by simp) ?_
    refine W_v rfl (wanted_t rfl rfl (et rfl) (ez rfl)) (V_mov rfl (es rfl (es rfl (es rfl (es rfl (es rfl (es rfl (es rfl (es rfl (es rfl (es rfl (es rfl (es rfl (es rfl (es rfl (es rfl l12_24)))))))))))))))) ?_
    refine W_v rfl (wanted_t rfl rfl (es rfl (et rfl)) (ez rfl)) (V_mov rfl (es rfl (es rfl (es rfl (es rfl (es rfl (es rfl (es rfl (es rfl (es rfl (es rfl (es rfl (es rfl (es rfl (es rfl (es rfl (es rfl l14_24))))))))))))))))) ?_
    refine W_v rfl (wanted_t rfl rfl (es rfl (es rfl (et rfl))) (ez rfl)) (V_neq rfl (es rfl (et rfl)) (et rfl)) ?_
    refine W_v rfl rfl (V_pickF rfl (es rfl (es rfl (es rfl (et rfl)))) (et rfl)) ?_
    refine W_end ?_
    refine gen_Q (fun A28 hA28 => ?_)
    have hsz28 : SzN A28 112 := by rw [hA28]; infer_instance
    have hdf28 : A28.defers = [] := by rw [hA28]; simp only [df_put]; exact hdf24
    have l1_28 := lookE hA28 1 (es rfl (es rfl (es rfl (es rfl (es rfl (es rfl (es rfl (es rfl (es rfl (es rfl (es rfl (es rfl (es rfl (es rfl (es rfl (es rfl (es rfl (es rfl (es rfl l1_24)))))))))))))))))))
    have l2_28 := lookE hA28 2 (es rfl (es rfl (es rfl (es rfl (es rfl (es rfl (es rfl (es rfl (es rfl (es rfl (es rfl (es rfl (es rfl (es rfl (es rfl (es rfl (es rfl (es rfl (es rfl l2_24)))))))))))))))))))
    have l3_28 := lookE hA28 3 (es rfl (es rfl (es rfl (es rfl (es rfl (es rfl (es rfl (es rfl (es rfl (es rfl (es rfl (es rfl (es rfl (es rfl (es rfl (es rfl (es rfl (es rfl (es rfl l3_24)))))))))))))))))))
    have l64_28 := lookE hA28 64 (et rfl)
    clear hA28 hsz24 hdf24 l1_24 l2_24 l3_24 l7_24 l8_24 l9_24 l10_24 l11_24 l12_24 l13_24 l14_24
    have hS29 : St w NoX [c2] w27 := hS27.sel [2] (by decide) rfl
    refine then_n (hK26 _ _ ?_)
    clear hK26
    refine cond_not l64_28 (by simp) ?_
    refine wp_skip ?_
    refine then_n (hK25 _ _ ?_)
    clear hK25
    refine wp_seq_k (fun K30 hK30 => ?_)
    -- region 9
    refine region_in ?_
    refine W_r rfl rfl (VR_ldA rfl l3_28 (hS29.obj 0 rfl hc2) Tryd.underlying24 rfl (by kernel_rfl)) ?_
    refine W_v rfl rfl (V_mov rfl (es rfl l1_28)) ?_
    refine W_call rfl rfl rfl Tryd.func18 (by kernel_rfl) rfl (args2 (es rfl (et rfl)) (et rfl)) (kWt_c (c := a) (hS29.roC h_lv) (hS29.roC h_yv) (hS29.roC hG0) ) ?_
    rintro _ w31 ⟨rfl, hP31⟩
    refine ⟨_, rfl, ?_⟩
    have hS31 := hS29.join hP31
    replace hS31 : St w NoX [c2] w31 := hS31
    refine W_v rfl rfl (V_mov rfl (et rfl)) ?_
    refine W_v rfl rfl (V_ext (v := .int .i64 ((plN lo yo a))) rfl (et rfl) rfl) ?_
    refine W_v rfl rfl (V_ext (v := .int .i64 ((plE lo yo a))) rfl (es rfl (et rfl)) rfl) ?_
    refine W_v rfl rfl (V_asg rfl (es rfl (et rfl))) ?_
    refine W_v rfl rfl (V_asg rfl (es rfl (et rfl))) ?_
    refine W_end ?_
    refine gen_Q (fun A32 hA32 => ?_)
    have hsz32 : SzN A32 112 := by rw [hA32]; infer_instance
    have hdf32 : A32.defers = [] := by rw [hA32]; simp only [df_put]; exact hdf28
    have l1_32 := lookE hA32 1 (es rfl (es rfl (es rfl (es rfl (es rfl (es rfl (es rfl (es rfl l1_28))))))))
    have l2_32 := lookE hA32 2 (es rfl (es rfl (es rfl (es rfl (es rfl (es rfl (es rfl (es rfl l2_28))))))))
    have l3_32 := lookE hA32 3 (es rfl (es rfl (es rfl (es rfl (es rfl (es rfl (es rfl (es rfl l3_28))))))))
    have l7_32 := lookE hA32 7 (es rfl (et rfl))
    have l8_32 := lookE hA32 8 (et rfl)
    clear hA32 hsz28 hdf28 l1_28 l2_28 l3_28 l64_28
    refine then_n (hK30 _ _ ?_)
    clear hK30
    refine wp_seq_k (fun K33 hK33 => ?_)
    -- region 10
    refine region_in ?_
    refine W_r rfl rfl (VR_ldA rfl l3_32 (hS31.obj 0 rfl hc2) Tryd.underlying24 rfl (by kernel_rfl)) ?_
    refine W_v rfl rfl (V_mov rfl (es rfl l1_32)) ?_
    refine W_call rfl rfl rfl Tryd.func19 (by kernel_rfl) rfl (args2 (es rfl (et rfl)) (et rfl)) (qWt_c (c := a) (hS31.roC h_lv) (hS31.roC h_yv) (by first | omega | (simp; done) | (simp; omega)) (by first | omega | (simp; done) | (simp; omega))) ?_
    rintro _ w34 ⟨rfl, hP34⟩
    refine ⟨_, rfl, ?_⟩
    have hS34 := hS31.join hP34
    replace hS34 : St w NoX [c2] w34 := hS34
    refine W_v rfl rfl (V_mov rfl (et rfl)) ?_
    refine W_v rfl rfl (V_ext (v := .int .i64 ((plN lo yo a))) rfl (et rfl) rfl) ?_
    refine W_v rfl rfl (V_ext (v := .int .i64 ((plE lo yo a))) rfl (es rfl (et rfl)) rfl) ?_
    refine W_v rfl rfl (V_asg rfl (es rfl (et rfl))) ?_
    refine W_v rfl rfl (V_asg rfl (es rfl (et rfl))) ?_
    refine W_end ?_
    refine gen_Q (fun A35 hA35 => ?_)
    have hsz35 : SzN A35 112 := by rw [hA35]; infer_instance
    have hdf35 : A35.defers = [] := by rw [hA35]; simp only [df_put]; exact hdf32
    have l1_35 := lookE hA35 1 (es rfl (es rfl (es rfl (es rfl (es rfl (es rfl (es rfl (es rfl l1_32))))))))
    have l2_35 := lookE hA35 2 (es rfl (es rfl (es rfl (es rfl (es rfl (es rfl (es rfl (es rfl l2_32))))))))
    have l3_35 := lookE hA35 3 (es rfl (es rfl (es rfl (es rfl (es rfl (es rfl (es rfl (es rfl l3_32))))))))
    have l7_35 := lookE hA35 7 (es rfl (es rfl (es rfl (es rfl (es rfl (es rfl (es rfl (es rfl l7_32))))))))
    have l8_35 := lookE hA35 8 (es rfl (es rfl (es rfl (es rfl (es rfl (es rfl (es rfl (es rfl l8_32))))))))
    have l9_35 := lookE hA35 9 (es rfl (et rfl))
    have l10_35 := lookE hA35 10 (et rfl)
    clear hA35 hsz32 hdf32 l1_32 l2_32 l3_32 l7_32 l8_32
    refine then_n (hK33 _ _ ?_)
    clear hK33
    refine wp_seq_k (fun K36 hK36 => ?_)
    -- region 11
    refine region_in ?_
    refine W_r rfl rfl (VR_ldA rfl l3_35 (hS34.obj 0 rfl hc2) Tryd.underlying24 rfl (by kernel_rfl)) ?_
    refine W_v rfl rfl (V_mov rfl (es rfl l1_35)) ?_
    refine W_v rfl rfl (V_mov rfl (es rfl (es rfl l2_35))) ?_
    refine W_call rfl rfl rfl Tryd.func20 (by kernel_rfl) rfl (args3 (es rfl (es rfl (et rfl))) (es rfl (et rfl)) (et rfl)) (kExt_c (a := a) (b := b) (hS34.roC h_lv) (hS34.roC h_yv) (hS34.roC hG0) ) ?_
    rintro _ w37 ⟨rfl, hP37⟩
    refine ⟨_, rfl, ?_⟩
    have hS37 := hS34.join hP37
    replace hS37 : St w NoX [c2] w37 := hS37
    refine W_v rfl rfl (V_mov rfl (et rfl)) ?_
    refine W_v rfl rfl (V_ext (v := .bool ((exB lo yo a b))) rfl (et rfl) rfl) ?_
    refine W_v rfl rfl (V_ext (v := .int .i64 ((exE lo yo a b))) rfl (es rfl (et rfl)) rfl) ?_
    refine W_v rfl rfl (V_asg rfl (es rfl (et rfl))) ?_
    refine W_v rfl rfl (V_asg rfl (es rfl (et rfl))) ?_
    refine W_end ?_
    refine gen_Q (fun A38 hA38 => ?_)
    have hsz38 : SzN A38 112 := by rw [hA38]; infer_instance
    have hdf38 : A38.defers = [] := by rw [hA38]; simp only [df_put]; exact hdf35
    have l1_38 := lookE hA38 1 (es rfl (es rfl (es rfl (es rfl (es rfl (es rfl (es rfl (es rfl (es rfl l1_35)))))))))
    have l2_38 := lookE hA38 2 (es rfl (es rfl (es rfl (es rfl (es rfl (es rfl (es rfl (es rfl (es rfl l2_35)))))))))
    have l3_38 := lookE hA38 3 (es rfl (es rfl (es rfl (es rfl (es rfl (es rfl (es rfl (es rfl (es rfl l3_35)))))))))
    have l7_38 := lookE hA38 7 (es rfl (es rfl (es rfl (es rfl (es rfl (es rfl (es rfl (es rfl (es rfl l7_35)))))))))
    have l8_38 := lookE hA38 8 (es rfl (es rfl (es rfl (es rfl (es rfl (es rfl (es rfl (es rfl (es rfl l8_35)))))))))
    have l9_38 := lookE hA38 9 (es rfl (es rfl (es rfl (es rfl (es rfl (es rfl (es rfl (es rfl (es rfl l9_35)))))))))
    have l10_38 := lookE hA38 10 (es rfl (es rfl (es rfl (es rfl (es rfl (es rfl (es rfl (es rfl (es rfl l10_35)))))))))
    have l12_38 := lookE hA38 12 (et rfl)
    have l15_38 := lookE hA38 15 (es rfl (et rfl))
    clear hA38 hsz35 hdf35 l1_35 l2_35 l3_35 l7_35 l8_35 l9_35 l10_35
    refine then_n (hK36 _ _ ?_)
    clear hK36
    refine wp_seq_k (fun K39 hK39 => ?_)
    -- region 12
    refine region_in ?_
    refine W_r rfl rfl (VR_ldA rfl l3_38 (hS37.obj 0 rfl hc2) Tryd.underlying24 rfl (by kernel_rfl)) ?_
    refine W_v rfl rfl (V_mov rfl (es rfl l1_38)) ?_
    refine W_v rfl rfl (V_mov rfl (es rfl (es rfl l2_38))) ?_
    refine W_call rfl rfl rfl Tryd.func21 (by kernel_rfl) rfl (args3 (es rfl (es rfl (et rfl))) (es rfl (et rfl)) (et rfl)) (qExt_c (a := a) (b := b) (hS37.roC h_lv) (hS37.roC h_yv) (by first | omega | (simp; done) | (simp; omega)) (by first | omega | (simp; done) | (simp; omega))) ?_
    rintro _ w40 ⟨rfl, hP40⟩
    refine ⟨_, rfl, ?_⟩
    have hS40 := hS37.join hP40
    replace hS40 : St w NoX [c2] w40 := hS40
    refine W_v rfl rfl (V_mov rfl (et rfl)) ?_
    refine W_v rfl rfl (V_ext (v := .bool ((exB lo yo a b))) rfl (et rfl) rfl) ?_
    refine W_v rfl rfl (V_ext (v := .int .i64 ((exE lo yo a b))) rfl (es rfl (et rfl)) rfl) ?_
    refine W_v rfl rfl (V_asg rfl (es rfl (et rfl))) ?_
    refine W_v rfl rfl (V_asg rfl (es rfl (et rfl))) ?_
    refine W_end ?_
    refine gen_Q (fun A41 hA41 => ?_)
    have hsz41 : SzN A41 112 := by rw [hA41]; infer_instance
    have hdf41 : A41.defers = [] := by rw [hA41]; simp only [df_put]; exact hdf38
    have l7_41 := lookE hA41 7 (es rfl (es rfl (es rfl (es rfl (es rfl (es rfl (es rfl (es rfl (es rfl l7_38)))))))))
    have l8_41 := lookE hA41 8 (es rfl (es rfl (es rfl (es rfl (es rfl (es rfl (es rfl (es rfl (es rfl l8_38)))))))))
    have l9_41 := lookE hA41 9 (es rfl (es rfl (es rfl (es rfl (es rfl (es rfl (es rfl (es rfl (es rfl l9_38)))))))))
    have l10_41 := lookE hA41 10 (es rfl (es rfl (es rfl (es rfl (es rfl (es rfl (es rfl (es rfl (es rfl l10_38)))))))))
    have l12_41 := lookE hA41 12 (es rfl (es rfl (es rfl (es rfl (es rfl (es rfl (es rfl (es rfl (es rfl l12_38)))))))))
    have l14_41 := lookE hA41 14 (et rfl)
    have l15_41 := lookE hA41 15 (es rfl (es rfl (es rfl (es rfl (es rfl (es rfl (es rfl (es rfl (es rfl l15_38)))))))))
    have l16_41 := lookE hA41 16 (es rfl (et rfl))
    clear hA41 hsz38 hdf38 l1_38 l2_38 l3_38 l7_38 l8_38 l9_38 l10_38 l12_38 l15_38
    have hS42 : St w NoX [] w40 := hS40.sel [] (by decide) rfl
    refine then_n (hK39 _ _ ?_)
    clear hK39
    refine wp_seq_k (fun K43 hK43 => ?_)
    -- region 13
    refine region_in ?_
    refine W_v rfl rfl (V_mov rfl l7_41) ?_
    refine W_v rfl rfl (V_mov rfl (es rfl l9_41)) ?_
    refine W_v rfl rfl (V_eql rfl (es rfl (et rfl)) (et rfl)) ?_
    refine W_sure (c' := true) rfl rfl (V_mov rfl (et rfl)) (by simp) ?_
    refine W_v rfl (wanted_t rfl rfl (et rfl) (ez rfl)) (V_mov rfl (es rfl (es rfl (es rfl (es rfl l8_41))))) ?_
    refine W_v rfl (wanted_t rfl rfl (es rfl (et rfl)) (ez rfl)) (V_mov rfl (es rfl (es rfl (es rfl (es rfl (es rfl l10_41)))))) ?_
    refine W_v rfl (wanted_t rfl rfl (es rfl (es rfl (et rfl))) (ez rfl)) (V_eql rfl (es rfl (et rfl)) (et rfl)) ?_
    refine W_v rfl rfl (V_pickT rfl (es rfl (es rfl (es rfl (et rfl)))) (et rfl)) ?_
    refine W_sure (c' := true) rfl rfl (V_mov rfl (et rfl)) (by simp) ?_
    refine W_v rfl (wanted_t rfl rfl (et rfl) (ez rfl)) (V_mov rfl (es rfl (es rfl (es rfl (es rfl (es rfl (es rfl (es rfl (es rfl (es rfl l15_41)))))))))) ?_
    refine W_v rfl (wanted_t rfl rfl (es rfl (et rfl)) (ez rfl)) (V_mov rfl (es rfl (es rfl (es rfl (es rfl (es rfl (es rfl (es rfl (es rfl (es rfl (es rfl l16_41))))))))))) ?_
    refine W_v rfl (wanted_t rfl rfl (es rfl (es rfl (et rfl))) (ez rfl)) (V_eqB rfl (es rfl (et rfl)) (et rfl) Tryd.underlying4) ?_
    refine W_v rfl rfl (V_pickT rfl (es rfl (es rfl (es rfl (et rfl)))) (et rfl)) ?_
    refine W_sure (c' := true) rfl rfl (V_mov rfl (et rfl)) (by simp) ?_
    refine W_v rfl (wanted_t rfl rfl (et rfl) (ez rfl)) (V_mov rfl (es rfl (es rfl (es rfl (es rfl (es rfl (es rfl (es rfl (es rfl (es rfl (es rfl (es rfl (es rfl (es rfl (es rfl l12_41))))))))))))))) ?_
    refine W_v rfl (wanted_t rfl rfl (es rfl (et rfl)) (ez rfl)) (V_mov rfl (es rfl (es rfl (es rfl (es rfl (es rfl (es rfl (es rfl (es rfl (es rfl (es rfl (es rfl (es rfl (es rfl (es rfl (es rfl l14_41)))))))))))))))) ?_
    refine W_v rfl (wanted_t rfl rfl (es rfl (es rfl (et rfl))) (ez rfl)) (V_eql rfl (es rfl (et rfl)) (et rfl)) ?_
    refine W_v rfl rfl (V_pickT rfl (es rfl (es rfl (es rfl (et rfl)))) (et rfl)) ?_
    refine W_sure (c' := true) rfl rfl (V_mov rfl (et rfl)) (by simp) ?_
    refine W_call rfl (wanted_t rfl rfl (et rfl) (ez rfl)) rfl Tryd.func12 (by kernel_rfl) rfl (args0) (awk_c (hS42.roC hG0) ) ?_
    rintro _ w44 ⟨rfl, hP44⟩
    refine ⟨_, rfl, ?_⟩
    have hS44 := hS42.join hP44
    replace hS44 : St w NoX [] w44 := hS44
    refine W_v rfl rfl (V_pickT rfl (es rfl (et rfl)) (et rfl)) ?_
    refine W_v rfl rfl (V_asg rfl (et rfl)) ?_
    refine W_end ?_
    refine gen_Q (fun A45 hA45 => ?_)
    have hsz45 : SzN A45 112 := by rw [hA45]; infer_instance
    have hdf45 : A45.defers = [] := by rw [hA45]; simp only [df_put]; exact hdf41
    have l6_45 := lookE hA45 6 (et rfl)
    clear hA45 hsz41 hdf41 l7_41 l8_41 l9_41 l10_41 l12_41 l14_41 l15_41 l16_41
    refine then_n (hK43 _ _ ?_)
    clear hK43
    refine wp_ret ?_
    refine ret_in (results_1 Tryd.results3 (rv_tmp l6_45)) hdf45 ?_
    -- leaf F
    exact ⟨rfl, hS44.fin0⟩

end Go.Proofs.YtodbfgfbkgpooaaDoor