import Derived.Test.YtoandfgkkmfobaaProg
import Derived.Test.YtoandfgkkmfobaaSl6
import Derived.Test.YtoandfgkkmfobaaPl7f
import Derived.Test.YtoandfgkkmfobaaSepX
namespace Go.Proofs.Ytoandfgkkmfobaa
open Go.RowKit Go.Own Go.Own.R Go.Own.S


set_option maxHeartbeats 4000000 in
theorem SlotsOwn_c {cv : Value} {c : List Int} {a : Int} {w : World} (h_cv : Ro w NoX (il .i64 cv c))  :
    Calls Try.prog 8 #[.agg #[cv], .int .i64 a] w fun e w' => e = .returned (.bool true) ∧ St w NoX [] w' := by
  refine calls_in 137 Try.func8 rfl rfl (by simp) (fun A0 hsz0 hdf0 hargs => ?_)
  have l0_0 := hargs 0 (.agg #[cv]) rfl
  have l1_0 := hargs 1 (.int .i64 a) rfl
  clear hargs; replace hsz0 : SzN A0 137 := ⟨hsz0⟩
  have hS := St.nil w
  have bh_cv := SlN.le (sl_SlN h_cv.at)
  refine wp_seq_k (fun K1 hK1 => ?_)
  -- region 0
  refine region_in ?_
  refine W_boxS (zs := #[cv]) hS rfl rfl rfl l0_0 (by rfl) (fun g2 w2 c2 hc2 hS2 => ?_)
  replace hS2 : St w NoX [c2] w2 := hS2
  refine W_v rfl rfl (V_asg rfl rfl) ?_
  refine W_end ?_
  refine gen_Q (fun A3 hA3 => ?_)
  have hsz3 : SzN A3 137 := by rw [hA3]; infer_instance
  have hdf3 : A3.defers = [] := by rw [hA3]; simp only [df_put]; exact hdf0
  have l1_3 := lookE hA3 1 (es rfl (es rfl l1_0))
  have l2_3 := lookE hA3 2 (es rfl (et rfl))
  clear hA3 hsz0 hdf0 l0_0 l1_0
  refine then_n (hK1 _ _ ?_)
  clear hK1
  refine wp_seq_k (fun K4 hK4 => ?_)
  refine wp_seq_k (fun K5 hK5 => ?_)
  -- region 1
  refine region_in ?_
  refine W_r rfl rfl (VR_ldA rfl l2_3 (hS2.obj 0 rfl hc2) Try.underlying24 rfl (by kernel_rfl)) ?_
  refine W_call rfl rfl rfl Try.func11 (by kernel_rfl) rfl (args1 (et rfl)) (far_c (hS2.roC h_cv) ) ?_
  rintro _ w6 ⟨rfl, hP6⟩
  refine ⟨_, rfl, ?_⟩
  have hS6 := hS2.join hP6
  replace hS6 : St w NoX [c2] w6 := hS6
  refine W_end ?_
  refine gen_Q (fun A7 hA7 => ?_)
  have hsz7 : SzN A7 137 := by rw [hA7]; infer_instance
  have hdf7 : A7.defers = [] := by rw [hA7]; simp only [df_put]; exact hdf3
  have l1_7 := lookE hA7 1 (es rfl (es rfl l1_3))
  have l2_7 := lookE hA7 2 (es rfl (es rfl l2_3))
  have l28_7 := lookE hA7 28 (et rfl)
  clear hA7 hsz3 hdf3 l1_3 l2_3
  refine then_n (hK5 _ _ ?_)
  clear hK5
  refine cond_dec l28_7 (fun c8 => ?_) (fun c8 => ?_)
  · skip
    refine wp_seq_k (fun K9 hK9 => ?_)
    -- region 2
    refine region_in ?_
    refine W_call rfl rfl rfl Try.func12 (by kernel_rfl) rfl (args0) (awake_c  ) ?_
    rintro _ w10 ⟨rfl, hP10⟩
    refine ⟨_, rfl, ?_⟩
    have hS10 := hS6.join hP10
    replace hS10 : St w NoX [c2] w10 := hS10
    refine W_v rfl rfl (V_asg rfl (et rfl)) ?_
    refine W_end ?_
    refine gen_Q (fun A11 hA11 => ?_)
    have hsz11 : SzN A11 137 := by rw [hA11]; infer_instance
    have hdf11 : A11.defers = [] := by rw [hA11]; simp only [df_put]; exact hdf7
    have l4_11 := lookE hA11 4 (et rfl)
    clear hA11 hsz7 hdf7 l1_7 l2_7 l28_7
    have hS12 : St w NoX [] w10 := hS10.sel [] (by decide) rfl
    refine then_n (hK9 _ _ ?_)
    clear hK9
    refine wp_ret ?_
    refine then_ret ?_
    refine ret_in (results_1 Try.results8 (rv_tmp l4_11)) hdf11 ?_
    -- leaf T
    exact ⟨rfl, hS12.fin0⟩
  · skip
    refine wp_skip ?_
    refine then_n (hK4 _ _ ?_)
    clear hK4
    refine wp_seq_k (fun K13 hK13 => ?_)
    -- region 3
    refine region_in ?_
    refine W_litS (vs := []) (xs := []) 1 hS6 rfl rfl rfl (parts0) rfl Try.underlying22 (by kernel_rfl) (by decide) (by intro v hv; cases hv) (by rfl) (fun g14 w14 c14 hc14 hS14 => ?_)
    replace hc14 : c14 = io .i64 (.slice (some ⟨g14, 0, none⟩) 0 0) [] := hc14
    replace hS14 : St w NoX [c14, c2] w14 := hS14
    refine W_v rfl rfl (V_fa (off' := 0) rfl (es rfl l2_7) Try.underlying24 rfl (by decide +kernel) rfl) ?_
    refine W_r rfl rfl (VR_ldC rfl (et rfl) (cell_box (v := cv) (hS14.obj 1 rfl hc2) rfl) Try.underlying22 rfl) ?_
    refine W_appS 1 0 hS14 rfl hc14 rfl rfl rfl (es rfl (es rfl (et rfl))) (et rfl) Try.underlying22 Try.underlying22 (z := .int .i64 0) (bytes := 8) (by kernel_rfl) rfl (by decide) (sl_SlN (hS14.ro h_cv)) ones_i (by first | omega | (simp; done) | (simp; omega)) (by first | omega | (simp; done) | (simp; omega)) (fun v15 w15 c15 hc15 hS15 => ?_)
    replace hc15 : c15 = io .i64 v15 c := hc15.trans (app_eq (by simp))
    replace hS15 : St w NoX [c15, c2] w15 := hS15
    refine W_v rfl rfl (V_bldS (n := 1) (z := .agg #[.slice none 0 0]) rfl (parts1 (et rfl)) (by kernel_rfl) (by simp only [List.all_cons, List.all_nil, SlN_one (ow_at (hS15.chq 0 rfl hc15)), Bool.and_true] <;> rfl) (by kernel_rfl) (by simp only [List.foldl_cons, List.foldl_nil, Value.cells, List.setIfInBounds_toArray, List.set_cons_succ, List.set_cons_zero] <;> rfl)) ?_
    refine W_allocS (z := .agg #[.slice none 0 0]) (zs := #[.slice none 0 0]) hS15 rfl rfl rfl (by kernel_rfl) (by rfl) (fun g16 w16 c16 hc16 hS16 => ?_)
    replace hS16 : St w NoX [c16, c15, c2] w16 := hS16
    refine W_stAS 0 hS16 rfl hc16 rfl rfl rfl (et rfl) (es rfl (et rfl)) (by simp only [List.all_toArray, List.all_cons, List.all_nil, SlN_one (ow_at (hS16.chq 1 rfl hc15))] <;> rfl) (by rfl) (by kernel_rfl) (fun w17 c17 hc17 hS17 => ?_)
    replace hS17 : St w NoX [c17, c15, c2] w17 := hS17
    refine W_end ?_
    refine gen_Q (fun A18 hA18 => ?_)
    have hsz18 : SzN A18 137 := by rw [hA18]; infer_instance
    have hdf18 : A18.defers = [] := by rw [hA18]; simp only [df_put]; exact hdf7
    have l1_18 := lookE hA18 1 (es rfl (es rfl (es rfl (es rfl (es rfl (es rfl l1_7))))))
    have l2_18 := lookE hA18 2 (es rfl (es rfl (es rfl (es rfl (es rfl (es rfl l2_7))))))
    have l5_18 := lookE hA18 5 (et rfl)
    clear hA18 hsz7 hdf7 l1_7 l2_7 l28_7
    refine then_n (hK13 _ _ ?_)
    clear hK13
    refine wp_seq_k (fun K19 hK19 => ?_)
    -- region 4
    refine region_in ?_
    refine W_r rfl rfl (VR_ldA rfl l5_18 (hS17.obj 0 rfl hc17) Try.underlying24 rfl (by kernel_rfl)) ?_
    refine W_v rfl rfl (V_mov rfl (es rfl l1_18)) ?_
    refine W_call rfl rfl rfl Try.func15 (by kernel_rfl) rfl (args2 (es rfl (et rfl)) (et rfl)) (kAdd_c (a := a) (hS17.chC 1 rfl hc15).own ) ?_
    rintro _ w20 ⟨v_20, rfl, hP20⟩
    refine ⟨_, rfl, ?_⟩
    obtain ⟨c_20, hc_20, hP20⟩ := gen1 hP20
    have hS20 := hS17.join hP20
    replace hS20 : St w NoX [c_20, c17, c15, c2] w20 := hS20
    refine W_v rfl rfl (V_mov rfl (et rfl)) ?_
    refine W_v rfl rfl (V_ext (v := .agg #[v_20]) rfl (et rfl) rfl) ?_
    refine W_v rfl rfl (V_ext (v := .bool ((adB c a))) rfl (es rfl (et rfl)) rfl) ?_
    refine W_v rfl rfl (V_ext (v := .int .i64 ((chE c a))) rfl (es rfl (es rfl (et rfl))) rfl) ?_
    refine W_allocS (z := .agg #[.slice none 0 0]) (zs := #[.slice none 0 0]) hS20 rfl rfl rfl (by kernel_rfl) (by rfl) (fun g21 w21 c21 hc21 hS21 => ?_)
    replace hS21 : St w NoX [c21, c_20, c17, c15, c2] w21 := hS21
    refine W_stAS 0 hS21 rfl hc21 rfl rfl rfl (et rfl) (es rfl (es rfl (es rfl (et rfl)))) (by simp only [List.all_toArray, List.all_cons, List.all_nil, SlN_one (ow_at (hS21.chq 1 rfl hc_20))] <;> rfl) (by rfl) (by kernel_rfl) (fun w22 c22 hc22 hS22 => ?_)
    replace hS22 : St w NoX [c22, c_20, c17, c15, c2] w22 := hS22
    refine W_v rfl rfl (V_asg rfl (es rfl (es rfl (et rfl)))) ?_
    refine W_v rfl rfl (V_asg rfl (es rfl (es rfl (et rfl)))) ?_
    refine W_end ?_
    refine gen_Q (fun A23 hA23 => ?_)
    have hsz23 : SzN A23 137 := by rw [hA23]; infer_instance
    have hdf23 : A23.defers = [] := by rw [hA23]; simp only [df_put]; exact hdf18
    have l1_23 := lookE hA23 1 (es rfl (es rfl (es rfl (es rfl (es rfl (es rfl (es rfl (es rfl (es rfl (es rfl l1_18))))))))))
    have l2_23 := lookE hA23 2 (es rfl (es rfl (es rfl (es rfl (es rfl (es rfl (es rfl (es rfl (es rfl (es rfl l2_18))))))))))
    have l5_23 := lookE hA23 5 (es rfl (es rfl (es rfl (es rfl (es rfl (es rfl (es rfl (es rfl (es rfl (es rfl l5_18))))))))))
    have l6_23 := lookE hA23 6 (es rfl (es rfl (et rfl)))
    have l8_23 := lookE hA23 8 (et rfl)
    clear hA23 hsz18 hdf18 l1_18 l2_18 l5_18
    refine then_n (hK19 _ _ ?_)
    clear hK19
    refine wp_seq_k (fun K24 hK24 => ?_)
    -- region 5
    refine region_in ?_
    refine W_r rfl rfl (VR_ldA rfl l5_23 (hS22.obj 2 rfl hc17) Try.underlying24 rfl (by kernel_rfl)) ?_
    refine W_v rfl rfl (V_mov rfl (es rfl l1_23)) ?_
    refine W_call rfl rfl rfl Try.func18 (by kernel_rfl) rfl (args2 (es rfl (et rfl)) (et rfl)) (kDrop_c (a := a) (hS22.chC 3 rfl hc15).own ) ?_
    rintro _ w25 ⟨v_25, rfl, hP25⟩
    refine ⟨_, rfl, ?_⟩
    obtain ⟨c_25, hc_25, hP25⟩ := gen1 hP25
    have hS25 := hS22.join hP25
    replace hS25 : St w NoX [c_25, c22, c_20, c17, c15, c2] w25 := hS25
    refine W_v rfl rfl (V_mov rfl (et rfl)) ?_
    refine W_v rfl rfl (V_ext (v := .agg #[v_25]) rfl (et rfl) rfl) ?_
    refine W_v rfl rfl (V_ext (v := .bool ((hsB c a))) rfl (es rfl (et rfl)) rfl) ?_
    refine W_v rfl rfl (V_ext (v := .int .i64 ((chE c a))) rfl (es rfl (es rfl (et rfl))) rfl) ?_
    refine W_allocS (z := .agg #[.slice none 0 0]) (zs := #[.slice none 0 0]) hS25 rfl rfl rfl (by kernel_rfl) (by rfl) (fun g26 w26 c26 hc26 hS26 => ?_)
    replace hS26 : St w NoX [c26, c_25, c22, c_20, c17, c15, c2] w26 := hS26
    refine W_stAS 0 hS26 rfl hc26 rfl rfl rfl (et rfl) (es rfl (es rfl (es rfl (et rfl)))) (by simp only [List.all_toArray, List.all_cons, List.all_nil, SlN_one (ow_at (hS26.chq 1 rfl hc_25))] <;> rfl) (by rfl) (by kernel_rfl) (fun w27 c27 hc27 hS27 => ?_)
    replace hS27 : St w NoX [c27, c_25, c22, c_20, c17, c15, c2] w27 := hS27
    refine W_v rfl rfl (V_asg rfl (es rfl (es rfl (et rfl)))) ?_
    refine W_v rfl rfl (V_asg rfl (es rfl (es rfl (et rfl)))) ?_
    refine W_end ?_
    refine gen_Q (fun A28 hA28 => ?_)
    have hsz28 : SzN A28 137 := by rw [hA28]; infer_instance
    have hdf28 : A28.defers = [] := by rw [hA28]; simp only [df_put]; exact hdf23
    have l1_28 := lookE hA28 1 (es rfl (es rfl (es rfl (es rfl (es rfl (es rfl (es rfl (es rfl (es rfl (es rfl l1_23))))))))))
    have l2_28 := lookE hA28 2 (es rfl (es rfl (es rfl (es rfl (es rfl (es rfl (es rfl (es rfl (es rfl (es rfl l2_23))))))))))
    have l5_28 := lookE hA28 5 (es rfl (es rfl (es rfl (es rfl (es rfl (es rfl (es rfl (es rfl (es rfl (es rfl l5_23))))))))))
    have l6_28 := lookE hA28 6 (es rfl (es rfl (es rfl (es rfl (es rfl (es rfl (es rfl (es rfl (es rfl (es rfl l6_23))))))))))
    have l8_28 := lookE hA28 8 (es rfl (es rfl (es rfl (es rfl (es rfl (es rfl (es rfl (es rfl (es rfl (es rfl l8_23))))))))))
    have l9_28 := lookE hA28 9 (es rfl (es rfl (et rfl)))
    have l11_28 := lookE hA28 11 (et rfl)
    clear hA28 hsz23 hdf23 l1_23 l2_23 l5_23 l6_23 l8_23
    refine then_n (hK24 _ _ ?_)
    clear hK24
    refine wp_seq_k (fun K29 hK29 => ?_)
    -- region 6
    refine region_in ?_
    refine W_r rfl rfl (VR_ldA rfl l5_28 (hS27.obj 4 rfl hc17) Try.underlying24 rfl (by kernel_rfl)) ?_
    refine W_v rfl rfl (V_mov rfl (es rfl l1_28)) ?_
    refine W_v rfl rfl (V_mov rfl (es rfl (es rfl l1_28))) ?_
    refine W_v rfl rfl (V_addw rfl (et rfl) rfl) ?_
    refine W_call rfl rfl rfl Try.func24 (by kernel_rfl) rfl (args3 (es rfl (es rfl (es rfl (et rfl)))) (es rfl (es rfl (et rfl))) (et rfl)) (kPurge_c (f := a) (t := (IntKind.i64.wrap (a + 100))) (hS27.chC 5 rfl hc15).own ) ?_
    rintro _ w30 ⟨v_30, rfl, hP30⟩
    refine ⟨_, rfl, ?_⟩
    obtain ⟨c_30, hc_30, hP30⟩ := gen1 hP30
    have hS30 := hS27.join hP30
    replace hS30 : St w NoX [c_30, c27, c_25, c22, c_20, c17, c15, c2] w30 := hS30
    refine W_v rfl rfl (V_mov rfl (et rfl)) ?_
    refine W_v rfl rfl (V_ext (v := .agg #[v_30]) rfl (et rfl) rfl) ?_
    refine W_v rfl rfl (V_ext (v := .int .i64 ((pgN c a (IntKind.i64.wrap (a + 100))))) rfl (es rfl (et rfl)) rfl) ?_
    refine W_v rfl rfl (V_ext (v := .int .i64 ((ckS c).2)) rfl (es rfl (es rfl (et rfl))) rfl) ?_
    refine W_allocS (z := .agg #[.slice none 0 0]) (zs := #[.slice none 0 0]) hS30 rfl rfl rfl (by kernel_rfl) (by rfl) (fun g31 w31 c31 hc31 hS31 => ?_)
    replace hS31 : St w NoX [c31, c_30, c27, c_25, c22, c_20, c17, c15, c2] w31 := hS31
    refine W_stAS 0 hS31 rfl hc31 rfl rfl rfl (et rfl) (es rfl (es rfl (es rfl (et rfl)))) (by simp only [List.all_toArray, List.all_cons, List.all_nil, SlN_one (ow_at (hS31.chq 1 rfl hc_30))] <;> rfl) (by rfl) (by kernel_rfl) (fun w32 c32 hc32 hS32 => ?_)
    replace hS32 : St w NoX [c32, c_30, c27, c_25, c22, c_20, c17, c15, c2] w32 := hS32
    refine W_v rfl rfl (V_asg rfl (es rfl (es rfl (et rfl)))) ?_
    refine W_v rfl rfl (V_asg rfl (es rfl (es rfl (et rfl)))) ?_
    refine W_end ?_
    refine gen_Q (fun A33 hA33 => ?_)
    have hsz33 : SzN A33 137 := by rw [hA33]; infer_instance
    have hdf33 : A33.defers = [] := by rw [hA33]; simp only [df_put]; exact hdf28
    have l1_33 := lookE hA33 1 (es rfl (es rfl (es rfl (es rfl (es rfl (es rfl (es rfl (es rfl (es rfl (es rfl (es rfl (es rfl l1_28))))))))))))
    have l2_33 := lookE hA33 2 (es rfl (es rfl (es rfl (es rfl (es rfl (es rfl (es rfl (es rfl (es rfl (es rfl (es rfl (es rfl l2_28))))))))))))
    have l5_33 := lookE hA33 5 (es rfl (es rfl (es rfl (es rfl (es rfl (es rfl (es rfl (es rfl (es rfl (es rfl (es rfl (es rfl l5_28))))))))))))
    have l6_33 := lookE hA33 6 (es rfl (es rfl (es rfl (es rfl (es rfl (es rfl (es rfl (es rfl (es rfl (es rfl (es rfl (es rfl l6_28))))))))))))
    have l8_33 := lookE hA33 8 (es rfl (es rfl (es rfl (es rfl (es rfl (es rfl (es rfl (es rfl (es rfl (es rfl (es rfl (es rfl l8_28))))))))))))
    have l9_33 := lookE hA33 9 (es rfl (es rfl (es rfl (es rfl (es rfl (es rfl (es rfl (es rfl (es rfl (es rfl (es rfl (es rfl l9_28))))))))))))
    have l11_33 := lookE hA33 11 (es rfl (es rfl (es rfl (es rfl (es rfl (es rfl (es rfl (es rfl (es rfl (es rfl (es rfl (es rfl l11_28))))))))))))
    have l12_33 := lookE hA33 12 (es rfl (es rfl (et rfl)))
    have l14_33 := lookE hA33 14 (et rfl)
    clear hA33 hsz28 hdf28 l1_28 l2_28 l5_28 l6_28 l8_28 l9_28 l11_28
    refine then_n (hK29 _ _ ?_)
    clear hK29
    refine wp_seq_k (fun K34 hK34 => ?_)
    -- region 7
    refine region_in ?_
    refine W_r rfl rfl (VR_ldA rfl l5_33 (hS32.obj 6 rfl hc17) Try.underlying24 rfl (by kernel_rfl)) ?_
    refine W_r rfl rfl (VR_ldA rfl (es rfl l5_33) (hS32.obj 6 rfl hc17) Try.underlying24 rfl (by kernel_rfl)) ?_
    refine W_call rfl rfl rfl Try.func22 (by kernel_rfl) rfl (args2 (es rfl (et rfl)) (et rfl)) (kJoin_c (hS32.chC 7 rfl hc15).own (hS32.chC 7 rfl hc15).own ) ?_
    rintro _ w35 ⟨v_35, rfl, hP35⟩
    refine ⟨_, rfl, ?_⟩
    obtain ⟨c_35, hc_35, hP35⟩ := gen1 hP35
    have hS35 := hS32.join hP35
    replace hS35 : St w NoX [c_35, c32, c_30, c27, c_25, c22, c_20, c17, c15, c2] w35 := hS35
    refine W_v rfl rfl (V_mov rfl (et rfl)) ?_
    refine W_v rfl rfl (V_ext (v := .agg #[v_35]) rfl (et rfl) rfl) ?_
    refine W_v rfl rfl (V_ext (v := .int .i64 ((jnE c c))) rfl (es rfl (et rfl)) rfl) ?_
    refine W_allocS (z := .agg #[.slice none 0 0]) (zs := #[.slice none 0 0]) hS35 rfl rfl rfl (by kernel_rfl) (by rfl) (fun g36 w36 c36 hc36 hS36 => ?_)
    replace hS36 : St w NoX [c36, c_35, c32, c_30, c27, c_25, c22, c_20, c17, c15, c2] w36 := hS36
    refine W_stAS 0 hS36 rfl hc36 rfl rfl rfl (et rfl) (es rfl (es rfl (et rfl))) (by simp only [List.all_toArray, List.all_cons, List.all_nil, SlN_one (ow_at (hS36.chq 1 rfl hc_35))] <;> rfl) (by rfl) (by kernel_rfl) (fun w37 c37 hc37 hS37 => ?_)
    replace hS37 : St w NoX [c37, c_35, c32, c_30, c27, c_25, c22, c_20, c17, c15, c2] w37 := hS37
    refine W_v rfl rfl (V_asg rfl (es rfl (et rfl))) ?_
    refine W_end ?_
    refine gen_Q (fun A38 hA38 => ?_)
    have hsz38 : SzN A38 137 := by rw [hA38]; infer_instance
    have hdf38 : A38.defers = [] := by rw [hA38]; simp only [df_put]; exact hdf33
    have l1_38 := lookE hA38 1 (es rfl (es rfl (es rfl (es rfl (es rfl (es rfl (es rfl (es rfl l1_33))))))))
    have l2_38 := lookE hA38 2 (es rfl (es rfl (es rfl (es rfl (es rfl (es rfl (es rfl (es rfl l2_33))))))))
    have l5_38 := lookE hA38 5 (es rfl (es rfl (es rfl (es rfl (es rfl (es rfl (es rfl (es rfl l5_33))))))))
    have l6_38 := lookE hA38 6 (es rfl (es rfl (es rfl (es rfl (es rfl (es rfl (es rfl (es rfl l6_33))))))))
    have l8_38 := lookE hA38 8 (es rfl (es rfl (es rfl (es rfl (es rfl (es rfl (es rfl (es rfl l8_33))))))))
    have l9_38 := lookE hA38 9 (es rfl (es rfl (es rfl (es rfl (es rfl (es rfl (es rfl (es rfl l9_33))))))))
    have l11_38 := lookE hA38 11 (es rfl (es rfl (es rfl (es rfl (es rfl (es rfl (es rfl (es rfl l11_33))))))))
    have l12_38 := lookE hA38 12 (es rfl (es rfl (es rfl (es rfl (es rfl (es rfl (es rfl (es rfl l12_33))))))))
    have l14_38 := lookE hA38 14 (es rfl (es rfl (es rfl (es rfl (es rfl (es rfl (es rfl (es rfl l14_33))))))))
    have l15_38 := lookE hA38 15 (es rfl (et rfl))
    have l16_38 := lookE hA38 16 (et rfl)
    clear hA38 hsz33 hdf33 l1_33 l2_33 l5_33 l6_33 l8_33 l9_33 l11_33 l12_33 l14_33
    refine then_n (hK34 _ _ ?_)
    clear hK34
    refine wp_seq_k (fun K39 hK39 => ?_)
    refine wp_seq_k (fun K40 hK40 => ?_)
    -- region 8
    refine region_in ?_
    refine W_r rfl rfl (VR_ldA rfl l5_38 (hS37.obj 8 rfl hc17) Try.underlying24 rfl (by kernel_rfl)) ?_
    refine W_r rfl rfl (VR_ldA rfl (es rfl l2_38) (hS37.obj 10 rfl hc2) Try.underlying24 rfl (by kernel_rfl)) ?_
    refine W_call rfl rfl rfl Try.func17 (by kernel_rfl) rfl (args2 (es rfl (et rfl)) (et rfl)) (same_c (hS37.chC 9 rfl hc15).own (hS37.roC h_cv) ) ?_
    rintro _ w41 ⟨rfl, hP41⟩
    refine ⟨_, rfl, ?_⟩
    have hS41 := hS37.join hP41
    replace hS41 : St w NoX [c37, c_35, c32, c_30, c27, c_25, c22, c_20, c17, c15, c2] w41 := hS41
    refine W_v rfl rfl (V_notd rfl (et rfl)) ?_
    refine W_end ?_
    refine gen_Q (fun A42 hA42 => ?_)
    have hsz42 : SzN A42 137 := by rw [hA42]; infer_instance
    have hdf42 : A42.defers = [] := by rw [hA42]; simp only [df_put]; exact hdf38
    have l1_42 := lookE hA42 1 (es rfl (es rfl (es rfl (es rfl l1_38))))
    have l2_42 := lookE hA42 2 (es rfl (es rfl (es rfl (es rfl l2_38))))
    have l5_42 := lookE hA42 5 (es rfl (es rfl (es rfl (es rfl l5_38))))
    have l6_42 := lookE hA42 6 (es rfl (es rfl (es rfl (es rfl l6_38))))
    have l8_42 := lookE hA42 8 (es rfl (es rfl (es rfl (es rfl l8_38))))
    have l9_42 := lookE hA42 9 (es rfl (es rfl (es rfl (es rfl l9_38))))
    have l11_42 := lookE hA42 11 (es rfl (es rfl (es rfl (es rfl l11_38))))
    have l12_42 := lookE hA42 12 (es rfl (es rfl (es rfl (es rfl l12_38))))
    have l14_42 := lookE hA42 14 (es rfl (es rfl (es rfl (es rfl l14_38))))
    have l15_42 := lookE hA42 15 (es rfl (es rfl (es rfl (es rfl l15_38))))
    have l16_42 := lookE hA42 16 (es rfl (es rfl (es rfl (es rfl l16_38))))
    have l67_42 := lookE hA42 67 (et rfl)
    clear hA42 hsz38 hdf38 l1_38 l2_38 l5_38 l6_38 l8_38 l9_38 l11_38 l12_38 l14_38 l15_38 l16_38
    refine then_n (hK40 _ _ ?_)
    clear hK40
    refine cond_not l67_42 (by simp) ?_
    refine wp_skip ?_
    refine then_n (hK39 _ _ ?_)
    clear hK39
    refine wp_seq_k (fun K43 hK43 => ?_)
    -- region 10
    refine region_in ?_
    refine W_r rfl rfl (VR_ldA rfl l2_42 (hS41.obj 10 rfl hc2) Try.underlying24 rfl (by kernel_rfl)) ?_
    refine W_v rfl rfl (V_mov rfl (es rfl l1_42)) ?_
    refine W_call rfl rfl rfl Try.func16 (by kernel_rfl) rfl (args2 (es rfl (et rfl)) (et rfl)) (qAdd_c (a := a) (hS41.roC h_cv) ) ?_
    rintro _ w44 ⟨v_44, rfl, hP44⟩
    refine ⟨_, rfl, ?_⟩
    obtain ⟨c_44, hc_44, hP44⟩ := gen1 hP44
    have hS44 := hS41.join hP44
    replace hS44 : St w NoX [c_44, c37, c_35, c32, c_30, c27, c_25, c22, c_20, c17, c15, c2] w44 := hS44
    refine W_v rfl rfl (V_mov rfl (et rfl)) ?_
    refine W_v rfl rfl (V_ext (v := .agg #[v_44]) rfl (et rfl) rfl) ?_
    refine W_v rfl rfl (V_ext (v := .bool ((adB c a))) rfl (es rfl (et rfl)) rfl) ?_
    refine W_v rfl rfl (V_ext (v := .int .i64 ((chE c a))) rfl (es rfl (es rfl (et rfl))) rfl) ?_
    refine W_allocS (z := .agg #[.slice none 0 0]) (zs := #[.slice none 0 0]) hS44 rfl rfl rfl (by kernel_rfl) (by rfl) (fun g45 w45 c45 hc45 hS45 => ?_)
    replace hS45 : St w NoX [c45, c_44, c37, c_35, c32, c_30, c27, c_25, c22, c_20, c17, c15, c2] w45 := hS45
    refine W_stAS 0 hS45 rfl hc45 rfl rfl rfl (et rfl) (es rfl (es rfl (es rfl (et rfl)))) (by simp only [List.all_toArray, List.all_cons, List.all_nil, SlN_one (ow_at (hS45.chq 1 rfl hc_44))] <;> rfl) (by rfl) (by kernel_rfl) (fun w46 c46 hc46 hS46 => ?_)
    replace hS46 : St w NoX [c46, c_44, c37, c_35, c32, c_30, c27, c_25, c22, c_20, c17, c15, c2] w46 := hS46
    refine W_v rfl rfl (V_asg rfl (es rfl (es rfl (et rfl)))) ?_
    refine W_v rfl rfl (V_asg rfl (es rfl (es rfl (et rfl)))) ?_
    refine W_end ?_
    refine gen_Q (fun A47 hA47 => ?_)
    have hsz47 : SzN A47 137 := by rw [hA47]; infer_instance
    have hdf47 : A47.defers = [] := by rw [hA47]; simp only [df_put]; exact hdf42
    have l1_47 := lookE hA47 1 (es rfl (es rfl (es rfl (es rfl (es rfl (es rfl (es rfl (es rfl (es rfl (es rfl l1_42))))))))))
    have l2_47 := lookE hA47 2 (es rfl (es rfl (es rfl (es rfl (es rfl (es rfl (es rfl (es rfl (es rfl (es rfl l2_42))))))))))
    have l5_47 := lookE hA47 5 (es rfl (es rfl (es rfl (es rfl (es rfl (es rfl (es rfl (es rfl (es rfl (es rfl l5_42))))))))))
    have l6_47 := lookE hA47 6 (es rfl (es rfl (es rfl (es rfl (es rfl (es rfl (es rfl (es rfl (es rfl (es rfl l6_42))))))))))
    have l8_47 := lookE hA47 8 (es rfl (es rfl (es rfl (es rfl (es rfl (es rfl (es rfl (es rfl (es rfl (es rfl l8_42))))))))))
    have l9_47 := lookE hA47 9 (es rfl (es rfl (es rfl (es rfl (es rfl (es rfl (es rfl (es rfl (es rfl (es rfl l9_42))))))))))
    have l11_47 := lookE hA47 11 (es rfl (es rfl (es rfl (es rfl (es rfl (es rfl (es rfl (es rfl (es rfl (es rfl l11_42))))))))))
    have l12_47 := lookE hA47 12 (es rfl (es rfl (es rfl (es rfl (es rfl (es rfl (es rfl (es rfl (es rfl (es rfl l12_42))))))))))
    have l14_47 := lookE hA47 14 (es rfl (es rfl (es rfl (es rfl (es rfl (es rfl (es rfl (es rfl (es rfl (es rfl l14_42))))))))))
    have l15_47 := lookE hA47 15 (es rfl (es rfl (es rfl (es rfl (es rfl (es rfl (es rfl (es rfl (es rfl (es rfl l15_42))))))))))
    have l16_47 := lookE hA47 16 (es rfl (es rfl (es rfl (es rfl (es rfl (es rfl (es rfl (es rfl (es rfl (es rfl l16_42))))))))))
    have l17_47 := lookE hA47 17 (es rfl (es rfl (et rfl)))
    clear hA47 hsz42 hdf42 l1_42 l2_42 l5_42 l6_42 l8_42 l9_42 l11_42 l12_42 l14_42 l15_42 l16_42 l67_42
    refine then_n (hK43 _ _ ?_)
    clear hK43
    refine wp_seq_k (fun K48 hK48 => ?_)
    -- region 11
    refine region_in ?_
    refine W_r rfl rfl (VR_ldA rfl l2_47 (hS46.obj 12 rfl hc2) Try.underlying24 rfl (by kernel_rfl)) ?_
    refine W_v rfl rfl (V_mov rfl (es rfl l1_47)) ?_
    refine W_call rfl rfl rfl Try.func19 (by kernel_rfl) rfl (args2 (es rfl (et rfl)) (et rfl)) (qDrop_c (a := a) (hS46.roC h_cv) ) ?_
    rintro _ w49 ⟨v_49, rfl, hP49⟩
    refine ⟨_, rfl, ?_⟩
    obtain ⟨c_49, hc_49, hP49⟩ := gen1 hP49
    have hS49 := hS46.join hP49
    replace hS49 : St w NoX [c_49, c46, c_44, c37, c_35, c32, c_30, c27, c_25, c22, c_20, c17, c15, c2] w49 := hS49
    refine W_v rfl rfl (V_mov rfl (et rfl)) ?_
    refine W_v rfl rfl (V_ext (v := .agg #[v_49]) rfl (et rfl) rfl) ?_
    refine W_v rfl rfl (V_ext (v := .bool ((hsB c a))) rfl (es rfl (et rfl)) rfl) ?_
    refine W_v rfl rfl (V_ext (v := .int .i64 ((chE c a))) rfl (es rfl (es rfl (et rfl))) rfl) ?_
    refine W_allocS (z := .agg #[.slice none 0 0]) (zs := #[.slice none 0 0]) hS49 rfl rfl rfl (by kernel_rfl) (by rfl) (fun g50 w50 c50 hc50 hS50 => ?_)
    replace hS50 : St w NoX [c50, c_49, c46, c_44, c37, c_35, c32, c_30, c27, c_25, c22, c_20, c17, c15, c2] w50 := hS50
    refine W_stAS 0 hS50 rfl hc50 rfl rfl rfl (et rfl) (es rfl (es rfl (es rfl (et rfl)))) (by simp only [List.all_toArray, List.all_cons, List.all_nil, SlN_one (ow_at (hS50.chq 1 rfl hc_49))] <;> rfl) (by rfl) (by kernel_rfl) (fun w51 c51 hc51 hS51 => ?_)
    replace hS51 : St w NoX [c51, c_49, c46, c_44, c37, c_35, c32, c_30, c27, c_25, c22, c_20, c17, c15, c2] w51 := hS51
    refine W_v rfl rfl (V_asg rfl (es rfl (es rfl (et rfl)))) ?_
    refine W_v rfl rfl (V_asg rfl (es rfl (es rfl (et rfl)))) ?_
    refine W_end ?_
    refine gen_Q (fun A52 hA52 => ?_)
    have hsz52 : SzN A52 137 := by rw [hA52]; infer_instance
    have hdf52 : A52.defers = [] := by rw [hA52]; simp only [df_put]; exact hdf47
    have l1_52 := lookE hA52 1 (es rfl (es rfl (es rfl (es rfl (es rfl (es rfl (es rfl (es rfl (es rfl (es rfl l1_47))))))))))
    have l2_52 := lookE hA52 2 (es rfl (es rfl (es rfl (es rfl (es rfl (es rfl (es rfl (es rfl (es rfl (es rfl l2_47))))))))))
    have l5_52 := lookE hA52 5 (es rfl (es rfl (es rfl (es rfl (es rfl (es rfl (es rfl (es rfl (es rfl (es rfl l5_47))))))))))
    have l6_52 := lookE hA52 6 (es rfl (es rfl (es rfl (es rfl (es rfl (es rfl (es rfl (es rfl (es rfl (es rfl l6_47))))))))))
    have l8_52 := lookE hA52 8 (es rfl (es rfl (es rfl (es rfl (es rfl (es rfl (es rfl (es rfl (es rfl (es rfl l8_47))))))))))
    have l9_52 := lookE hA52 9 (es rfl (es rfl (es rfl (es rfl (es rfl (es rfl (es rfl (es rfl (es rfl (es rfl l9_47))))))))))
    have l11_52 := lookE hA52 11 (es rfl (es rfl (es rfl (es rfl (es rfl (es rfl (es rfl (es rfl (es rfl (es rfl l11_47))))))))))
    have l12_52 := lookE hA52 12 (es rfl (es rfl (es rfl (es rfl (es rfl (es rfl (es rfl (es rfl (es rfl (es rfl l12_47))))))))))
    have l14_52 := lookE hA52 14 (es rfl (es rfl (es rfl (es rfl (es rfl (es rfl (es rfl (es rfl (es rfl (es rfl l14_47))))))))))
    have l15_52 := lookE hA52 15 (es rfl (es rfl (es rfl (es rfl (es rfl (es rfl (es rfl (es rfl (es rfl (es rfl l15_47))))))))))
    have l16_52 := lookE hA52 16 (es rfl (es rfl (es rfl (es rfl (es rfl (es rfl (es rfl (es rfl (es rfl (es rfl l16_47))))))))))
    have l17_52 := lookE hA52 17 (es rfl (es rfl (es rfl (es rfl (es rfl (es rfl (es rfl (es rfl (es rfl (es rfl l17_47))))))))))
    have l20_52 := lookE hA52 20 (es rfl (es rfl (et rfl)))
    clear hA52 hsz47 hdf47 l1_47 l2_47 l5_47 l6_47 l8_47 l9_47 l11_47 l12_47 l14_47 l15_47 l16_47 l17_47
    refine then_n (hK48 _ _ ?_)
    clear hK48
    refine wp_seq_k (fun K53 hK53 => ?_)
    -- region 12
    refine region_in ?_
    refine W_r rfl rfl (VR_ldA rfl l2_52 (hS51.obj 14 rfl hc2) Try.underlying24 rfl (by kernel_rfl)) ?_
    refine W_v rfl rfl (V_mov rfl (es rfl l1_52)) ?_
    refine W_v rfl rfl (V_mov rfl (es rfl (es rfl l1_52))) ?_
    refine W_v rfl rfl (V_addw rfl (et rfl) rfl) ?_
    refine W_call rfl rfl rfl Try.func25 (by kernel_rfl) rfl (args3 (es rfl (es rfl (es rfl (et rfl)))) (es rfl (es rfl (et rfl))) (et rfl)) (qPurge_c (f := a) (t := (IntKind.i64.wrap (a + 100))) (hS51.roC h_cv) ) ?_
    rintro _ w54 ⟨v_54, rfl, hP54⟩
    refine ⟨_, rfl, ?_⟩
    obtain ⟨c_54, hc_54, hP54⟩ := gen1 hP54
    have hS54 := hS51.join hP54
    replace hS54 : St w NoX [c_54, c51, c_49, c46, c_44, c37, c_35, c32, c_30, c27, c_25, c22, c_20, c17, c15, c2] w54 := hS54
    refine W_v rfl rfl (V_mov rfl (et rfl)) ?_
    refine W_v rfl rfl (V_ext (v := .agg #[v_54]) rfl (et rfl) rfl) ?_
    refine W_v rfl rfl (V_ext (v := .int .i64 ((pgN c a (IntKind.i64.wrap (a + 100))))) rfl (es rfl (et rfl)) rfl) ?_
    refine W_v rfl rfl (V_ext (v := .int .i64 ((ckS c).2)) rfl (es rfl (es rfl (et rfl))) rfl) ?_
    refine W_allocS (z := .agg #[.slice none 0 0]) (zs := #[.slice none 0 0]) hS54 rfl rfl rfl (by kernel_rfl) (by rfl) (fun g55 w55 c55 hc55 hS55 => ?_)
    replace hS55 : St w NoX [c55, c_54, c51, c_49, c46, c_44, c37, c_35, c32, c_30, c27, c_25, c22, c_20, c17, c15, c2] w55 := hS55
    refine W_stAS 0 hS55 rfl hc55 rfl rfl rfl (et rfl) (es rfl (es rfl (es rfl (et rfl)))) (by simp only [List.all_toArray, List.all_cons, List.all_nil, SlN_one (ow_at (hS55.chq 1 rfl hc_54))] <;> rfl) (by rfl) (by kernel_rfl) (fun w56 c56 hc56 hS56 => ?_)
    replace hS56 : St w NoX [c56, c_54, c51, c_49, c46, c_44, c37, c_35, c32, c_30, c27, c_25, c22, c_20, c17, c15, c2] w56 := hS56
    refine W_v rfl rfl (V_asg rfl (es rfl (es rfl (et rfl)))) ?_
    refine W_v rfl rfl (V_asg rfl (es rfl (es rfl (et rfl)))) ?_
    refine W_end ?_
    refine gen_Q (fun A57 hA57 => ?_)
    have hsz57 : SzN A57 137 := by rw [hA57]; infer_instance
    have hdf57 : A57.defers = [] := by rw [hA57]; simp only [df_put]; exact hdf52
    have l2_57 := lookE hA57 2 (es rfl (es rfl (es rfl (es rfl (es rfl (es rfl (es rfl (es rfl (es rfl (es rfl (es rfl (es rfl l2_52))))))))))))
    have l5_57 := lookE hA57 5 (es rfl (es rfl (es rfl (es rfl (es rfl (es rfl (es rfl (es rfl (es rfl (es rfl (es rfl (es rfl l5_52))))))))))))
    have l6_57 := lookE hA57 6 (es rfl (es rfl (es rfl (es rfl (es rfl (es rfl (es rfl (es rfl (es rfl (es rfl (es rfl (es rfl l6_52))))))))))))
    have l8_57 := lookE hA57 8 (es rfl (es rfl (es rfl (es rfl (es rfl (es rfl (es rfl (es rfl (es rfl (es rfl (es rfl (es rfl l8_52))))))))))))
    have l9_57 := lookE hA57 9 (es rfl (es rfl (es rfl (es rfl (es rfl (es rfl (es rfl (es rfl (es rfl (es rfl (es rfl (es rfl l9_52))))))))))))
    have l11_57 := lookE hA57 11 (es rfl (es rfl (es rfl (es rfl (es rfl (es rfl (es rfl (es rfl (es rfl (es rfl (es rfl (es rfl l11_52))))))))))))
    have l12_57 := lookE hA57 12 (es rfl (es rfl (es rfl (es rfl (es rfl (es rfl (es rfl (es rfl (es rfl (es rfl (es rfl (es rfl l12_52))))))))))))
    have l14_57 := lookE hA57 14 (es rfl (es rfl (es rfl (es rfl (es rfl (es rfl (es rfl (es rfl (es rfl (es rfl (es rfl (es rfl l14_52))))))))))))
    have l15_57 := lookE hA57 15 (es rfl (es rfl (es rfl (es rfl (es rfl (es rfl (es rfl (es rfl (es rfl (es rfl (es rfl (es rfl l15_52))))))))))))
    have l16_57 := lookE hA57 16 (es rfl (es rfl (es rfl (es rfl (es rfl (es rfl (es rfl (es rfl (es rfl (es rfl (es rfl (es rfl l16_52))))))))))))
    have l17_57 := lookE hA57 17 (es rfl (es rfl (es rfl (es rfl (es rfl (es rfl (es rfl (es rfl (es rfl (es rfl (es rfl (es rfl l17_52))))))))))))
    have l20_57 := lookE hA57 20 (es rfl (es rfl (es rfl (es rfl (es rfl (es rfl (es rfl (es rfl (es rfl (es rfl (es rfl (es rfl l20_52))))))))))))
    have l23_57 := lookE hA57 23 (es rfl (es rfl (et rfl)))
    clear hA57 hsz52 hdf52 l1_52 l2_52 l5_52 l6_52 l8_52 l9_52 l11_52 l12_52 l14_52 l15_52 l16_52 l17_52 l20_52
    refine then_n (hK53 _ _ ?_)
    clear hK53
    refine wp_seq_k (fun K58 hK58 => ?_)
    refine wp_seq_k (fun K59 hK59 => ?_)
    -- region 13
    refine region_in ?_
    refine W_v rfl rfl (V_asg rfl rfl) ?_
    refine W_end ?_
    refine gen_Q (fun A60 hA60 => ?_)
    have hsz60 : SzN A60 137 := by rw [hA60]; infer_instance
    have hdf60 : A60.defers = [] := by rw [hA60]; simp only [df_put]; exact hdf57
    have l2_60 := lookE hA60 2 (es rfl l2_57)
    have l5_60 := lookE hA60 5 (es rfl l5_57)
    have l6_60 := lookE hA60 6 (es rfl l6_57)
    have l8_60 := lookE hA60 8 (es rfl l8_57)
    have l9_60 := lookE hA60 9 (es rfl l9_57)
    have l11_60 := lookE hA60 11 (es rfl l11_57)
    have l12_60 := lookE hA60 12 (es rfl l12_57)
    have l14_60 := lookE hA60 14 (es rfl l14_57)
    have l15_60 := lookE hA60 15 (es rfl l15_57)
    have l16_60 := lookE hA60 16 (es rfl l16_57)
    have l17_60 := lookE hA60 17 (es rfl l17_57)
    have l20_60 := lookE hA60 20 (es rfl l20_57)
    have l23_60 := lookE hA60 23 (es rfl l23_57)
    have l26_60 := lookE hA60 26 (et rfl)
    clear hA60 hsz57 hdf57 l2_57 l5_57 l6_57 l8_57 l9_57 l11_57 l12_57 l14_57 l15_57 l16_57 l17_57 l20_57 l23_57
    refine then_n (hK59 _ _ ?_)
    clear hK59
    refine wp_block ?_
    -- loop 14
    refine loopX (fun mz A' w' => SzN A' 137 ∧ A'.defers = [] ∧ (∃ (i : Nat) (dd : List Int), (mz = c.length - i) ∧ (i ≤ c.length) ∧ (dd.length = c.length) ∧ (EV A' (.tmp 26) = .int .i64 (i : Int)) ∧ (EV A' (.tmp 2) = EV A60 (.tmp 2)) ∧ (EV A' (.tmp 5) = EV A60 (.tmp 5)) ∧ (EV A' (.tmp 6) = EV A60 (.tmp 6)) ∧ (EV A' (.tmp 8) = EV A60 (.tmp 8)) ∧ (EV A' (.tmp 9) = EV A60 (.tmp 9)) ∧ (EV A' (.tmp 11) = EV A60 (.tmp 11)) ∧ (EV A' (.tmp 12) = EV A60 (.tmp 12)) ∧ (EV A' (.tmp 14) = EV A60 (.tmp 14)) ∧ (EV A' (.tmp 15) = EV A60 (.tmp 15)) ∧ (EV A' (.tmp 16) = EV A60 (.tmp 16)) ∧ (EV A' (.tmp 17) = EV A60 (.tmp 17)) ∧ (EV A' (.tmp 20) = EV A60 (.tmp 20)) ∧ (EV A' (.tmp 23) = EV A60 (.tmp 23)) ∧ (St w NoX [bx g55 24 #[v_54], io .i64 v_54 (pgT c a (IntKind.i64.wrap (a + 100))), bx g50 24 #[v_49], io .i64 v_49 (drT c a), bx g45 24 #[v_44], io .i64 v_44 (adT c a), bx g36 24 #[v_35], io .i64 v_35 (jnT c c), bx g31 24 #[v_30], io .i64 v_30 (pgT c a (IntKind.i64.wrap (a + 100))), bx g26 24 #[v_25], io .i64 v_25 (drT c a), bx g21 24 #[v_20], io .i64 v_20 (adT c a), bx g16 24 #[v15], io .i64 v15 dd, bx g2 24 #[cv]] w'))) (c.length - 0) ⟨hsz60, hdf60, 0, c, rfl, (by omega), rfl, ((l26_60).trans (by first | rfl | (simp; done) | (congr 1; omega))), rfl, rfl, rfl, rfl, rfl, rfl, rfl, rfl, rfl, rfl, rfl, rfl, rfl, (by have q0 := hc56; have q1 := hc_54; have q2 := hc51; have q3 := hc_49; have q4 := hc46; have q5 := hc_44; have q6 := hc37; have q7 := hc_35; have q8 := hc32; have q9 := hc_30; have q10 := hc27; have q11 := hc_25; have q12 := hc22; have q13 := hc_20; have q14 := hc17; have q15 : c15 = io .i64 v15 c := hc15.trans (rfl); have q16 := hc2; subst q0 q1 q2 q3 q4 q5 q6 q7 q8 q9 q10 q11 q12 q13 q14 q15 q16; exact hS56)⟩ ?_
    clear hS56 hc56 hc_54 hc51 hc_49 hc46 hc_44 hc37 hc_35 hc32 hc_30 hc27 hc_25 hc22 hc_20 hc17 hc15 hc2
    rintro n61 A61 w61 ⟨hsz61, hdf61, i, dd, hm61, hi, hdl, l26_61, u2_61, u5_61, u6_61, u8_61, u9_61, u11_61, u12_61, u14_61, u15_61, u16_61, u17_61, u20_61, u23_61, hS61⟩
    have l2_61 := u2_61.trans l2_60
    have l5_61 := u5_61.trans l5_60
    have l6_61 := u6_61.trans l6_60
    have l8_61 := u8_61.trans l8_60
    have l9_61 := u9_61.trans l9_60
    have l11_61 := u11_61.trans l11_60
    have l12_61 := u12_61.trans l12_60
    have l14_61 := u14_61.trans l14_60
    have l15_61 := u15_61.trans l15_60
    have l16_61 := u16_61.trans l16_60
    have l17_61 := u17_61.trans l17_60
    have l20_61 := u20_61.trans l20_60
    have l23_61 := u23_61.trans l23_60
    obtain ⟨c56_61, c_61, c51_61, c_61b, c46_61, c_61bb, c37_61, c_61bbb, c32_61, c_61bbbb, c27_61, c_61bbbbb, c22_61, c_61bbbbbb, c17_61, c15_61, c2_61, hc56_61, hc_61, hc51_61, hc_61b, hc46_61, hc_61bb, hc37_61, hc_61bbb, hc32_61, hc_61bbbb, hc27_61, hc_61bbbbb, hc22_61, hc_61bbbbbb, hc17_61, hc15_61, hc2_61, hS61⟩ := gen17 hS61
    refine wp_seq_k (fun K62 hK62 => ?_)
    refine wp_seq_k (fun K63 hK63 => ?_)
    -- region 14
    refine region_in ?_
    refine W_v rfl rfl (V_mov rfl l26_61) ?_
    refine W_v rfl rfl (V_fa (off' := 0) rfl (es rfl l5_61) Try.underlying24 rfl (by decide +kernel) rfl) ?_
    refine W_r rfl rfl (VR_ldC rfl (et rfl) (cell_box (v := v15) (hS61.obj 14 rfl hc17_61) rfl) Try.underlying22 rfl) ?_
    refine W_v rfl rfl (V_lenS rfl (et rfl) (ow_at (hS61.chq 15 rfl hc15_61)) Try.underlying22) ?_
    refine W_v rfl rfl (V_lss rfl (es rfl (es rfl (es rfl (et rfl)))) (et rfl)) ?_
    refine W_end ?_
    refine gen_Q (fun A64 hA64 => ?_)
    have hsz64 : SzN A64 137 := by rw [hA64]; infer_instance
    have hdf64 : A64.defers = [] := by rw [hA64]; simp only [df_put]; exact hdf61
    have l2_64 := lookE hA64 2 (es rfl (es rfl (es rfl (es rfl (es rfl l2_61)))))
    have l5_64 := lookE hA64 5 (es rfl (es rfl (es rfl (es rfl (es rfl l5_61)))))
    have l6_64 := lookE hA64 6 (es rfl (es rfl (es rfl (es rfl (es rfl l6_61)))))
    have l8_64 := lookE hA64 8 (es rfl (es rfl (es rfl (es rfl (es rfl l8_61)))))
    have l9_64 := lookE hA64 9 (es rfl (es rfl (es rfl (es rfl (es rfl l9_61)))))
    have l11_64 := lookE hA64 11 (es rfl (es rfl (es rfl (es rfl (es rfl l11_61)))))
    have l12_64 := lookE hA64 12 (es rfl (es rfl (es rfl (es rfl (es rfl l12_61)))))
    have l14_64 := lookE hA64 14 (es rfl (es rfl (es rfl (es rfl (es rfl l14_61)))))
    have l15_64 := lookE hA64 15 (es rfl (es rfl (es rfl (es rfl (es rfl l15_61)))))
    have l16_64 := lookE hA64 16 (es rfl (es rfl (es rfl (es rfl (es rfl l16_61)))))
    have l17_64 := lookE hA64 17 (es rfl (es rfl (es rfl (es rfl (es rfl l17_61)))))
    have l20_64 := lookE hA64 20 (es rfl (es rfl (es rfl (es rfl (es rfl l20_61)))))
    have l23_64 := lookE hA64 23 (es rfl (es rfl (es rfl (es rfl (es rfl l23_61)))))
    have l26_64 := lookE hA64 26 (es rfl (es rfl (es rfl (es rfl (es rfl l26_61)))))
    have l95_64 := lookE hA64 95 (et rfl)
    clear hA64 hsz61 hdf61 l26_61 l2_61 l5_61 l6_61 l8_61 l9_61 l11_61 l12_61 l14_61 l15_61 l16_61 l17_61 l20_61 l23_61
    refine then_n (hK63 _ _ ?_)
    clear hK63
    refine cond_dec l95_64 (fun c65 => ?_) (fun c65 => ?_)
    · skip
      refine wp_skip ?_
      refine then_n (hK62 _ _ ?_)
      clear hK62
      refine wp_seq_k (fun K66 hK66 => ?_)
      refine wp_block ?_
      -- region 16
      refine region_in ?_
      refine W_v rfl rfl (V_fa (off' := 0) rfl l5_64 Try.underlying24 rfl (by decide +kernel) rfl) ?_
      refine W_r rfl rfl (VR_ldC rfl (et rfl) (cell_box (v := v15) (hS61.obj 14 rfl hc17_61) rfl) Try.underlying22 rfl) ?_
      refine W_v rfl rfl (V_mov rfl (es rfl (es rfl l26_64))) ?_
      have k67 : i < dd.length := by first | omega | (simp only [List.length_cons, List.length_nil]; omega)
      obtain ⟨y67, hy67⟩ := get_some (xs := dd) (k := i) k67
      obtain ⟨B67, O67, C67, hv67⟩ := (SlN.blk (ow_at (hS61.chq 15 rfl hc15_61)) (by first | omega | (simp only [List.length_cons, List.length_nil]; omega)))
      refine W_v rfl rfl (V_ixS (off := O67 + i) 1 (i) rfl (es rfl (et rfl)) (et rfl) hv67 (by omega) k67 Try.underlying22 (by kernel_rfl) (congrArg _ (Nat.mul_one _))) ?_
      refine W_stE 15 hS61 rfl hc15_61 hv67 rfl rfl rfl (et rfl) rfl (by rfl) rfl (by first | (simp only [List.length_map]; omega) | omega) (by kernel_rfl) (fun w68 c68 hc68 hS68 => ?_)
      replace hc68 : c68 = io .i64 v15 (dd.set i (-7)) := hc68.trans (by simp [io, bo, List.map_set] <;> rfl)
      replace hS68 : St w NoX [c56_61, c_61, c51_61, c_61b, c46_61, c_61bb, c37_61, c_61bbb, c32_61, c_61bbbb, c27_61, c_61bbbbb, c22_61, c_61bbbbbb, c17_61, c68, c2_61] w68 := hS68
      refine W_end ?_
      refine gen_Q (fun A69 hA69 => ?_)
      have hsz69 : SzN A69 137 := by rw [hA69]; infer_instance
      have hdf69 : A69.defers = [] := by rw [hA69]; simp only [df_put]; exact hdf64
      have l2_69 := lookE hA69 2 (es rfl (es rfl (es rfl (es rfl l2_64))))
      have l5_69 := lookE hA69 5 (es rfl (es rfl (es rfl (es rfl l5_64))))
      have l6_69 := lookE hA69 6 (es rfl (es rfl (es rfl (es rfl l6_64))))
      have l8_69 := lookE hA69 8 (es rfl (es rfl (es rfl (es rfl l8_64))))
      have l9_69 := lookE hA69 9 (es rfl (es rfl (es rfl (es rfl l9_64))))
      have l11_69 := lookE hA69 11 (es rfl (es rfl (es rfl (es rfl l11_64))))
      have l12_69 := lookE hA69 12 (es rfl (es rfl (es rfl (es rfl l12_64))))
      have l14_69 := lookE hA69 14 (es rfl (es rfl (es rfl (es rfl l14_64))))
      have l15_69 := lookE hA69 15 (es rfl (es rfl (es rfl (es rfl l15_64))))
      have l16_69 := lookE hA69 16 (es rfl (es rfl (es rfl (es rfl l16_64))))
      have l17_69 := lookE hA69 17 (es rfl (es rfl (es rfl (es rfl l17_64))))
      have l20_69 := lookE hA69 20 (es rfl (es rfl (es rfl (es rfl l20_64))))
      have l23_69 := lookE hA69 23 (es rfl (es rfl (es rfl (es rfl l23_64))))
      have l26_69 := lookE hA69 26 (es rfl (es rfl (es rfl (es rfl l26_64))))
      clear hA69 hsz64 hdf64 l2_64 l5_64 l6_64 l8_64 l9_64 l11_64 l12_64 l14_64 l15_64 l16_64 l17_64 l20_64 l23_64 l26_64 l95_64
      refine inb_n ?_
      refine then_n (hK66 _ _ ?_)
      clear hK66
      -- region 15
      refine region_in ?_
      refine W_v rfl rfl (V_mov rfl l26_69) ?_
      refine W_v rfl rfl (V_add rfl (et rfl) rfl (by omega) (by omega)) ?_
      refine W_v rfl rfl (V_asg rfl (et rfl)) ?_
      refine W_end ?_
      refine gen_Q (fun A70 hA70 => ?_)
      have hsz70 : SzN A70 137 := by rw [hA70]; infer_instance
      have hdf70 : A70.defers = [] := by rw [hA70]; simp only [df_put]; exact hdf69
      have l2_70 := lookE hA70 2 (es rfl (es rfl (es rfl l2_69)))
      have l5_70 := lookE hA70 5 (es rfl (es rfl (es rfl l5_69)))
      have l6_70 := lookE hA70 6 (es rfl (es rfl (es rfl l6_69)))
      have l8_70 := lookE hA70 8 (es rfl (es rfl (es rfl l8_69)))
      have l9_70 := lookE hA70 9 (es rfl (es rfl (es rfl l9_69)))
      have l11_70 := lookE hA70 11 (es rfl (es rfl (es rfl l11_69)))
      have l12_70 := lookE hA70 12 (es rfl (es rfl (es rfl l12_69)))
      have l14_70 := lookE hA70 14 (es rfl (es rfl (es rfl l14_69)))
      have l15_70 := lookE hA70 15 (es rfl (es rfl (es rfl l15_69)))
      have l16_70 := lookE hA70 16 (es rfl (es rfl (es rfl l16_69)))
      have l17_70 := lookE hA70 17 (es rfl (es rfl (es rfl l17_69)))
      have l20_70 := lookE hA70 20 (es rfl (es rfl (es rfl l20_69)))
      have l23_70 := lookE hA70 23 (es rfl (es rfl (es rfl l23_69)))
      have l26_70 := lookE hA70 26 (et rfl)
      clear hA70 hsz69 hdf69 l2_69 l5_69 l6_69 l8_69 l9_69 l11_69 l12_69 l14_69 l15_69 l16_69 l17_69 l20_69 l23_69 l26_69
      refine then_n ⟨c.length - (i + 1), by simp only [hm61]; omega, hsz70, hdf70, (i + 1), (dd.set i (-7)), rfl, (by omega), (by rw [List.length_set]; exact hdl), ((l26_70).trans (by first | rfl | (simp; done) | (congr 1; omega))), ((l2_70).trans l2_60.symm), ((l5_70).trans l5_60.symm), ((l6_70).trans l6_60.symm), ((l8_70).trans l8_60.symm), ((l9_70).trans l9_60.symm), ((l11_70).trans l11_60.symm), ((l12_70).trans l12_60.symm), ((l14_70).trans l14_60.symm), ((l15_70).trans l15_60.symm), ((l16_70).trans l16_60.symm), ((l17_70).trans l17_60.symm), ((l20_70).trans l20_60.symm), ((l23_70).trans l23_60.symm), (by subst hc56_61 hc_61 hc51_61 hc_61b hc46_61 hc_61bb hc37_61 hc_61bbb hc32_61 hc_61bbbb hc27_61 hc_61bbbbb hc22_61 hc_61bbbbbb hc17_61 hc68 hc2_61; exact hS68)⟩
    · skip
      refine wp_exit ?_
      refine then_exit ?_
      refine then_exit ?_
      refine inb_hit ?_
      refine then_n (hK58 _ _ ?_)
      clear hK58
      refine wp_seq_k (fun K71 hK71 => ?_)
      -- region 17
      refine region_in ?_
      refine W_v rfl rfl (V_mov rfl l8_64) ?_
      refine W_v rfl rfl (V_mov rfl (es rfl l11_64)) ?_
      refine W_v rfl rfl (V_eql rfl (es rfl (et rfl)) (et rfl)) ?_
      refine W_sure (c' := true) rfl rfl (V_mov rfl (et rfl)) (by simp) ?_
      refine W_v rfl (wanted_t rfl rfl (et rfl) (ez rfl)) (V_mov rfl (es rfl (es rfl (es rfl (es rfl l14_64))))) ?_
      refine W_v rfl (wanted_t rfl rfl (es rfl (et rfl)) (ez rfl)) (V_mov rfl (es rfl (es rfl (es rfl (es rfl (es rfl l16_64)))))) ?_
      refine W_v rfl (wanted_t rfl rfl (es rfl (es rfl (et rfl))) (ez rfl)) (V_eql rfl (es rfl (et rfl)) (et rfl)) ?_
      refine W_v rfl rfl (V_pickT rfl (es rfl (es rfl (es rfl (et rfl)))) (et rfl)) ?_
      refine W_sure (c' := true) rfl rfl (V_mov rfl (et rfl)) (by rw [decide_eq_true_eq]; exact (jn_self c).symm) ?_
      refine W_r rfl (wanted_t rfl rfl (et rfl) (ez rfl)) (VR_ldA rfl (es rfl (es rfl (es rfl (es rfl (es rfl (es rfl (es rfl (es rfl (es rfl l6_64))))))))) (hS61.obj 12 rfl hc22_61) Try.underlying24 rfl (by kernel_rfl)) ?_
      refine W_r rfl (wanted_t rfl rfl (es rfl (et rfl)) (ez rfl)) (VR_ldA rfl (es rfl (es rfl (es rfl (es rfl (es rfl (es rfl (es rfl (es rfl (es rfl (es rfl l17_64)))))))))) (hS61.obj 4 rfl hc46_61) Try.underlying24 rfl (by kernel_rfl)) ?_
      refine W_call rfl (wanted_t rfl rfl (es rfl (es rfl (et rfl))) (ez rfl)) rfl Try.func17 (by kernel_rfl) rfl (args2 (es rfl (et rfl)) (et rfl)) (same_c (hS61.chC 13 rfl hc_61bbbbbb).own (hS61.chC 5 rfl hc_61bb).own ) ?_
      rintro _ w72 ⟨rfl, hP72⟩
      refine ⟨_, rfl, ?_⟩
      have hS72 := hS61.join hP72
      replace hS72 : St w NoX [c56_61, c_61, c51_61, c_61b, c46_61, c_61bb, c37_61, c_61bbb, c32_61, c_61bbbb, c27_61, c_61bbbbb, c22_61, c_61bbbbbb, c17_61, c15_61, c2_61] w72 := hS72
      refine W_v rfl rfl (V_pickT rfl (es rfl (es rfl (es rfl (et rfl)))) (et rfl)) ?_
      refine W_sure (c' := true) rfl rfl (V_mov rfl (et rfl)) (by simp) ?_
      refine W_r rfl (wanted_t rfl rfl (et rfl) (ez rfl)) (VR_ldA rfl (es rfl (es rfl (es rfl (es rfl (es rfl (es rfl (es rfl (es rfl (es rfl (es rfl (es rfl (es rfl (es rfl (es rfl l9_64)))))))))))))) (hS72.obj 10 rfl hc27_61) Try.underlying24 rfl (by kernel_rfl)) ?_
      refine W_r rfl (wanted_t rfl rfl (es rfl (et rfl)) (ez rfl)) (VR_ldA rfl (es rfl (es rfl (es rfl (es rfl (es rfl (es rfl (es rfl (es rfl (es rfl (es rfl (es rfl (es rfl (es rfl (es rfl (es rfl l20_64))))))))))))))) (hS72.obj 2 rfl hc51_61) Try.underlying24 rfl (by kernel_rfl)) ?_
      refine W_call rfl (wanted_t rfl rfl (es rfl (es rfl (et rfl))) (ez rfl)) rfl Try.func17 (by kernel_rfl) rfl (args2 (es rfl (et rfl)) (et rfl)) (same_c (hS72.chC 11 rfl hc_61bbbbb).own (hS72.chC 3 rfl hc_61b).own ) ?_
      rintro _ w73 ⟨rfl, hP73⟩
      refine ⟨_, rfl, ?_⟩
      have hS73 := hS72.join hP73
      replace hS73 : St w NoX [c56_61, c_61, c51_61, c_61b, c46_61, c_61bb, c37_61, c_61bbb, c32_61, c_61bbbb, c27_61, c_61bbbbb, c22_61, c_61bbbbbb, c17_61, c15_61, c2_61] w73 := hS73
      refine W_v rfl rfl (V_pickT rfl (es rfl (es rfl (es rfl (et rfl)))) (et rfl)) ?_
      refine W_sure (c' := true) rfl rfl (V_mov rfl (et rfl)) (by simp) ?_
      refine W_r rfl (wanted_t rfl rfl (et rfl) (ez rfl)) (VR_ldA rfl (es rfl (es rfl (es rfl (es rfl (es rfl (es rfl (es rfl (es rfl (es rfl (es rfl (es rfl (es rfl (es rfl (es rfl (es rfl (es rfl (es rfl (es rfl (es rfl l12_64))))))))))))))))))) (hS73.obj 8 rfl hc32_61) Try.underlying24 rfl (by kernel_rfl)) ?_
      refine W_r rfl (wanted_t rfl rfl (es rfl (et rfl)) (ez rfl)) (VR_ldA rfl (es rfl (es rfl (es rfl (es rfl (es rfl (es rfl (es rfl (es rfl (es rfl (es rfl (es rfl (es rfl (es rfl (es rfl (es rfl (es rfl (es rfl (es rfl (es rfl (es rfl l23_64)))))))))))))))))))) (hS73.obj 0 rfl hc56_61) Try.underlying24 rfl (by kernel_rfl)) ?_
      refine W_call rfl (wanted_t rfl rfl (es rfl (es rfl (et rfl))) (ez rfl)) rfl Try.func17 (by kernel_rfl) rfl (args2 (es rfl (et rfl)) (et rfl)) (same_c (hS73.chC 9 rfl hc_61bbbb).own (hS73.chC 1 rfl hc_61).own ) ?_
      rintro _ w74 ⟨rfl, hP74⟩
      refine ⟨_, rfl, ?_⟩
      have hS74 := hS73.join hP74
      replace hS74 : St w NoX [c56_61, c_61, c51_61, c_61b, c46_61, c_61bb, c37_61, c_61bbb, c32_61, c_61bbbb, c27_61, c_61bbbbb, c22_61, c_61bbbbbb, c17_61, c15_61, c2_61] w74 := hS74
      refine W_v rfl rfl (V_pickT rfl (es rfl (es rfl (es rfl (et rfl)))) (et rfl)) ?_
      refine W_sure (c' := true) rfl rfl (V_mov rfl (et rfl)) (by simp) ?_
      refine W_v rfl (wanted_t rfl rfl (et rfl) (ez rfl)) (V_mov rfl (es rfl (es rfl (es rfl (es rfl (es rfl (es rfl (es rfl (es rfl (es rfl (es rfl (es rfl (es rfl (es rfl (es rfl (es rfl (es rfl (es rfl (es rfl (es rfl (es rfl (es rfl (es rfl (es rfl (es rfl l16_64))))))))))))))))))))))))) ?_
      refine W_v rfl (wanted_t rfl rfl (es rfl (et rfl)) (ez rfl)) (V_neq rfl (et rfl) rfl) ?_
      refine W_split rfl (wanted_t rfl rfl (es rfl (es rfl (et rfl))) (ez rfl)) (V_mov rfl (et rfl)) (fun c75 => ?_) (fun c75 => ?_)
      · skip
        refine W_off rfl (wanted_f rfl rfl (et rfl) (ez rfl) rfl) ?_
        refine W_off rfl (wanted_f rfl rfl (es rfl (et rfl)) (ez rfl) rfl) ?_
        refine W_off rfl (wanted_f rfl rfl (es rfl (es rfl (et rfl))) (ez rfl) rfl) ?_
        refine W_v rfl (wanted_t rfl rfl (es rfl (es rfl (es rfl (es rfl (es rfl (es rfl (et rfl))))))) (ez rfl)) (V_pickT rfl (es rfl (es rfl (es rfl (et rfl)))) rfl) ?_
        refine W_v rfl rfl (V_pickT rfl (es rfl (es rfl (es rfl (es rfl (es rfl (es rfl (es rfl (et rfl)))))))) (et rfl)) ?_
        refine W_v rfl rfl (V_mov rfl (et rfl)) ?_
        refine W_call rfl (wanted_t rfl rfl (et rfl) (ez rfl)) rfl Try.func12 (by kernel_rfl) rfl (args0) (awake_c  ) ?_
        rintro _ w76 ⟨rfl, hP76⟩
        refine ⟨_, rfl, ?_⟩
        have hS76 := hS74.join hP76
        replace hS76 : St w NoX [c56_61, c_61, c51_61, c_61b, c46_61, c_61bb, c37_61, c_61bbb, c32_61, c_61bbbb, c27_61, c_61bbbbb, c22_61, c_61bbbbbb, c17_61, c15_61, c2_61] w76 := hS76
        refine W_v rfl rfl (V_pickT rfl (es rfl (et rfl)) (et rfl)) ?_
        refine W_v rfl rfl (V_asg rfl (et rfl)) ?_
        refine W_end ?_
        refine gen_Q (fun A77 hA77 => ?_)
        have hsz77 : SzN A77 137 := by rw [hA77]; infer_instance
        have hdf77 : A77.defers = [] := by rw [hA77]; simp only [df_put]; exact hdf64
        have l4_77 := lookE hA77 4 (et rfl)
        clear hA77 hsz64 hdf64 l2_64 l5_64 l6_64 l8_64 l9_64 l11_64 l12_64 l14_64 l15_64 l16_64 l17_64 l20_64 l23_64 l26_64 l95_64
        have hS78 : St w NoX [] w76 := hS76.sel [] (by decide) rfl
        refine then_n (hK71 _ _ ?_)
        clear hK71
        refine wp_ret ?_
        refine ret_in (results_1 Try.results8 (rv_tmp l4_77)) hdf77 ?_
        -- leaf FFT
        exact ⟨rfl, hS78.fin0⟩
      · skip
        refine W_r rfl (wanted_t rfl rfl (et rfl) (ez rfl)) (VR_ldA rfl (es rfl (es rfl (es rfl (es rfl (es rfl (es rfl (es rfl (es rfl (es rfl (es rfl (es rfl (es rfl (es rfl (es rfl (es rfl (es rfl (es rfl (es rfl (es rfl (es rfl (es rfl (es rfl (es rfl (es rfl (es rfl (es rfl (es rfl l15_64))))))))))))))))))))))))))) (hS74.obj 6 rfl hc37_61) Try.underlying24 rfl (by kernel_rfl)) ?_
        refine W_r rfl (wanted_t rfl rfl (es rfl (et rfl)) (ez rfl)) (VR_ldA rfl (es rfl (es rfl (es rfl (es rfl (es rfl (es rfl (es rfl (es rfl (es rfl (es rfl (es rfl (es rfl (es rfl (es rfl (es rfl (es rfl (es rfl (es rfl (es rfl (es rfl (es rfl (es rfl (es rfl (es rfl (es rfl (es rfl (es rfl (es rfl l2_64)))))))))))))))))))))))))))) (hS74.obj 16 rfl hc2_61) Try.underlying24 rfl (by kernel_rfl)) ?_
        refine W_call rfl (wanted_t rfl rfl (es rfl (es rfl (et rfl))) (ez rfl)) rfl Try.func17 (by kernel_rfl) rfl (args2 (es rfl (et rfl)) (et rfl)) (same_c (hS74.chC 7 rfl hc_61bbb).own (hS74.roC h_cv) ) ?_
        rintro _ w79 ⟨rfl, hP79⟩
        refine ⟨_, rfl, ?_⟩
        have hS79 := hS74.join hP79
        replace hS79 : St w NoX [c56_61, c_61, c51_61, c_61b, c46_61, c_61bb, c37_61, c_61bbb, c32_61, c_61bbbb, c27_61, c_61bbbbb, c22_61, c_61bbbbbb, c17_61, c15_61, c2_61] w79 := hS79
        refine W_v rfl (wanted_t rfl rfl (es rfl (es rfl (es rfl (es rfl (es rfl (es rfl (et rfl))))))) (ez rfl)) (V_pickF rfl (es rfl (es rfl (es rfl (et rfl)))) (et rfl)) ?_
        refine W_v rfl rfl (V_pickT rfl (es rfl (es rfl (es rfl (es rfl (es rfl (es rfl (es rfl (et rfl)))))))) (et rfl)) ?_
        refine W_sure (c' := true) rfl rfl (V_mov rfl (et rfl)) (by rw [decide_eq_true_eq]; exact jn_same (by have hq := c75; simpa using hq)) ?_
        refine W_call rfl (wanted_t rfl rfl (et rfl) (ez rfl)) rfl Try.func12 (by kernel_rfl) rfl (args0) (awake_c  ) ?_
        rintro _ w80 ⟨rfl, hP80⟩
        refine ⟨_, rfl, ?_⟩
        have hS80 := hS79.join hP80
        replace hS80 : St w NoX [c56_61, c_61, c51_61, c_61b, c46_61, c_61bb, c37_61, c_61bbb, c32_61, c_61bbbb, c27_61, c_61bbbbb, c22_61, c_61bbbbbb, c17_61, c15_61, c2_61] w80 := hS80
        refine W_v rfl rfl (V_pickT rfl (es rfl (et rfl)) (et rfl)) ?_
        refine W_v rfl rfl (V_asg rfl (et rfl)) ?_
        refine W_end ?_
        refine gen_Q (fun A81 hA81 => ?_)
        have hsz81 : SzN A81 137 := by rw [hA81]; infer_instance
        have hdf81 : A81.defers = [] := by rw [hA81]; simp only [df_put]; exact hdf64
        have l4_81 := lookE hA81 4 (et rfl)
        clear hA81 hsz64 hdf64 l2_64 l5_64 l6_64 l8_64 l9_64 l11_64 l12_64 l14_64 l15_64 l16_64 l17_64 l20_64 l23_64 l26_64 l95_64
        have hS82 : St w NoX [] w80 := hS80.sel [] (by decide) rfl
        refine then_n (hK71 _ _ ?_)
        clear hK71
        refine wp_ret ?_
        refine ret_in (results_1 Try.results8 (rv_tmp l4_81)) hdf81 ?_
        -- leaf FFF
        exact ⟨rfl, hS82.fin0⟩

end Go.Proofs.Ytoandfgkkmfobaa