import Derived.Test.YtodbfgfbkgpooaaDoorProg
import Derived.Test.YtodbfgfbkgpooaaDoorRa7
import Derived.Test.YtodbfgfbkgpooaaDoorPl12
namespace Go.Proofs.YtodbfgfbkgpooaaDoor
open Go.RowKit Go.Own


set_option maxHeartbeats 4000000 in
theorem RankTurns_c {lv : Value} {lo : List Int} {yv : Value} {yo : List Int} {gT0 : Nat} {w : World} (h_lv : Ro w NoX (il .i64 lv lo)) (h_yv : Ro w NoX (il .i64 yv yo)) (hG0 : Ro w NoX (bx 0 gT0 #[.int .i64 (-1), .int .i64 (-1)]))  :
    Calls Tryd.prog 6 #[.agg #[lv, yv]] w fun e w' => e = .returned (.bool true) ∧ St w NoX [] w' := by
  refine calls_in 134 Tryd.func6 rfl rfl (by simp) (fun A0 hsz0 hdf0 hargs => ?_)
  have l0_0 := hargs 0 (.agg #[lv, yv]) rfl
  clear hargs; replace hsz0 : SzN A0 134 := ⟨hsz0⟩
  have hS := St.nil w
  have bh_lv := SlN.le (sl_SlN h_lv.at)
  have bh_yv := SlN.le (sl_SlN h_yv.at)
  refine wp_seq_k (fun K1 hK1 => ?_)
  -- region 0
  refine region_in ?_
  refine W_boxS (zs := #[lv, yv]) hS rfl rfl rfl l0_0 (by rfl) (fun g2 w2 c2 hc2 hS2 => ?_)
  replace hS2 : St w NoX [c2] w2 := hS2
  refine W_v rfl rfl (V_asg rfl rfl) ?_
  refine W_end ?_
  refine gen_Q (fun A3 hA3 => ?_)
  have hsz3 : SzN A3 134 := by rw [hA3]; infer_instance
  have hdf3 : A3.defers = [] := by rw [hA3]; simp only [df_put]; exact hdf0
  have l1_3 := lookE hA3 1 (es rfl (et rfl))
  clear hA3 hsz0 hdf0 l0_0
  refine then_n (hK1 _ _ ?_)
  clear hK1
  refine wp_seq_k (fun K4 hK4 => ?_)
  refine wp_seq_k (fun K5 hK5 => ?_)
  -- region 1
  refine region_in ?_
  refine W_r rfl rfl (VR_ldA rfl l1_3 (hS2.obj 0 rfl hc2) Tryd.underlying24 rfl (by kernel_rfl)) ?_
  refine W_call rfl rfl rfl Tryd.func24 (by kernel_rfl) rfl (args1 (et rfl)) (good_c (hS2.roC h_lv) (hS2.roC h_yv) ) ?_
  rintro _ w6 ⟨rfl, hP6⟩
  refine ⟨_, rfl, ?_⟩
  have hS6 := hS2.join hP6
  replace hS6 : St w NoX [c2] w6 := hS6
  refine W_v rfl rfl (V_notd rfl (et rfl)) ?_
  refine W_end ?_
  refine gen_Q (fun A7 hA7 => ?_)
  have hsz7 : SzN A7 134 := by rw [hA7]; infer_instance
  have hdf7 : A7.defers = [] := by rw [hA7]; simp only [df_put]; exact hdf3
  have l1_7 := lookE hA7 1 (es rfl (es rfl (es rfl l1_3)))
  have l20_7 := lookE hA7 20 (et rfl)
  clear hA7 hsz3 hdf3 l1_3
  refine then_n (hK5 _ _ ?_)
  clear hK5
  refine cond_dec l20_7 (fun c8 => ?_) (fun c8 => ?_)
  · skip
    refine wp_seq_k (fun K9 hK9 => ?_)
    -- region 2
    refine region_in ?_
    refine W_call rfl rfl rfl Tryd.func12 (by kernel_rfl) rfl (args0) (awk_c (hS6.roC hG0) ) ?_
    rintro _ w10 ⟨rfl, hP10⟩
    refine ⟨_, rfl, ?_⟩
    have hS10 := hS6.join hP10
    replace hS10 : St w NoX [c2] w10 := hS10
    refine W_v rfl rfl (V_asg rfl (et rfl)) ?_
    refine W_end ?_
    refine gen_Q (fun A11 hA11 => ?_)
    have hsz11 : SzN A11 134 := by rw [hA11]; infer_instance
    have hdf11 : A11.defers = [] := by rw [hA11]; simp only [df_put]; exact hdf7
    have l2_11 := lookE hA11 2 (et rfl)
    clear hA11 hsz7 hdf7 l1_7 l20_7
    have hS12 : St w NoX [] w10 := hS10.sel [] (by decide) rfl
    refine then_n (hK9 _ _ ?_)
    clear hK9
    refine wp_ret ?_
    refine then_ret ?_
    refine ret_in (results_1 Tryd.results6 (rv_tmp l2_11)) hdf11 ?_
    -- leaf T
    exact ⟨rfl, hS12.fin0⟩
  · skip
    have hgd : ¬ (30 < lo.length ∨ 30 < yo.length) ∧ (chk lo yo).2.2 = 0 := by first | exact c8 | exact Classical.not_not.1 c8
    have hg := hgd.2
    have hG := (chk_iff lo yo).1 hg
    have hl : lo.length ≤ 30 ∧ yo.length ≤ 30 := by omega
    obtain ⟨hla, hlb⟩ := hl
    have hgn := tn_good hg
    have hms := mv_ok hg hg
    have hmt := mv_ok hg hgn
    have hml : (mvT lo yo yo []).length ≤ 24 := by rw [hmt.2]; exact mvK_len _ _ _ _ _
    refine wp_skip ?_
    refine then_n (hK4 _ _ ?_)
    clear hK4
    refine wp_seq_k (fun K13 hK13 => ?_)
    -- region 3
    refine region_in ?_
    refine W_r rfl rfl (VR_ldA rfl l1_7 (hS6.obj 0 rfl hc2) Tryd.underlying24 rfl (by kernel_rfl)) ?_
    refine W_call rfl rfl rfl Tryd.func29 (by kernel_rfl) rfl (args1 (et rfl)) ((clr_lift (lo := lo) (yo := yo) (by assumption) (lift3 (rClear_c (hS6.roC h_lv).ints (hS6.roC h_yv).ints (by first | omega | (simp; done) | (simp; omega)) (by first | omega | (simp; done) | (simp; omega)))))) ?_
    rintro _ w14 ⟨v1_14, v2_14, v3_14, rfl, hP14⟩
    refine ⟨_, rfl, ?_⟩
    obtain ⟨ct_14, hct_14, hP14⟩ := gen1 hP14
    have hS14 := hS6.join hP14
    replace hS14 : St w NoX [ct_14, c2] w14 := hS14
    refine W_v rfl rfl (V_mov rfl (et rfl)) ?_
    refine W_v rfl rfl (V_ext (v := .agg #[v1_14, v2_14]) rfl (et rfl) rfl) ?_
    refine W_v rfl rfl (V_ext (v := v3_14) rfl (es rfl (et rfl)) rfl) ?_
    refine W_v rfl rfl (V_ext (v := .int .i64 (0)) rfl (es rfl (es rfl (et rfl))) rfl) ?_
    refine W_allocS (z := .agg #[.slice none 0 0, .slice none 0 0]) (zs := #[.slice none 0 0, .slice none 0 0]) hS14 rfl rfl rfl (by kernel_rfl) (by rfl) (fun g15 w15 c15 hc15 hS15 => ?_)
    replace hS15 : St w NoX [c15, ct_14, c2] w15 := hS15
    refine W_stAS 0 hS15 rfl hc15 rfl rfl rfl (et rfl) (es rfl (es rfl (es rfl (et rfl)))) (by simp only [List.all_toArray, List.all_cons, List.all_nil, SlN_one (sl_SlN (at_ff (hS15.chq 1 rfl hct_14))), SlN_one (sl_SlN (at_fs (hS15.chq 1 rfl hct_14)))] <;> rfl) (by rfl) (by kernel_rfl) (fun w16 c16 hc16 hS16 => ?_)
    replace hS16 : St w NoX [c16, ct_14, c2] w16 := hS16
    refine W_v rfl rfl (V_asg rfl (es rfl (es rfl (et rfl)))) ?_
    refine W_v rfl rfl (V_asg rfl (es rfl (es rfl (et rfl)))) ?_
    refine W_end ?_
    refine gen_Q (fun A17 hA17 => ?_)
    have hsz17 : SzN A17 134 := by rw [hA17]; infer_instance
    have hdf17 : A17.defers = [] := by rw [hA17]; simp only [df_put]; exact hdf7
    have l1_17 := lookE hA17 1 (es rfl (es rfl (es rfl (es rfl (es rfl (es rfl (es rfl (es rfl (es rfl l1_7)))))))))
    have l3_17 := lookE hA17 3 (es rfl (es rfl (et rfl)))
    have l5_17 := lookE hA17 5 (et rfl)
    clear hA17 hsz7 hdf7 l1_7 l20_7
    refine then_n (hK13 _ _ ?_)
    clear hK13
    refine wp_seq_k (fun K18 hK18 => ?_)
    -- region 4
    refine region_in ?_
    refine W_r rfl rfl (VR_ldA rfl l3_17 (hS16.obj 0 rfl hc16) Tryd.underlying24 rfl (by kernel_rfl)) ?_
    refine W_call rfl rfl rfl Tryd.func30 (by kernel_rfl) rfl (args1 (et rfl)) ((trn_lift (yo := yo) (by assumption) (lift2 (rTurn_c ((hS16.chC 1 rfl hct_14).fst.fst).ints ((hS16.chC 1 rfl hct_14).fst.snd).ints (by first | omega | (simp; done) | (simp; omega)) (by first | omega | (simp; done) | (simp; omega)))))) ?_
    rintro _ w19 ⟨v1_19, v2_19, rfl, hP19⟩
    refine ⟨_, rfl, ?_⟩
    obtain ⟨ct_19, hct_19, hP19⟩ := gen1 hP19
    have hS19 := hS16.join hP19
    replace hS19 : St w NoX [ct_19, c16, ct_14, c2] w19 := hS19
    refine W_v rfl rfl (V_mov rfl (et rfl)) ?_
    refine W_v rfl rfl (V_ext (v := .agg #[v1_19, v2_19]) rfl (et rfl) rfl) ?_
    refine W_v rfl rfl (V_ext (v := .int .i64 (0)) rfl (es rfl (et rfl)) rfl) ?_
    refine W_allocS (z := .agg #[.slice none 0 0, .slice none 0 0]) (zs := #[.slice none 0 0, .slice none 0 0]) hS19 rfl rfl rfl (by kernel_rfl) (by rfl) (fun g20 w20 c20 hc20 hS20 => ?_)
    replace hS20 : St w NoX [c20, ct_19, c16, ct_14, c2] w20 := hS20
    refine W_stAS 0 hS20 rfl hc20 rfl rfl rfl (et rfl) (es rfl (es rfl (et rfl))) (by simp only [List.all_toArray, List.all_cons, List.all_nil, SlN_one (sl_SlN (at_fst (hS20.chq 1 rfl hct_19))), SlN_one (sl_SlN (at_snd (hS20.chq 1 rfl hct_19)))] <;> rfl) (by rfl) (by kernel_rfl) (fun w21 c21 hc21 hS21 => ?_)
    replace hS21 : St w NoX [c21, ct_19, c16, ct_14, c2] w21 := hS21
    refine W_v rfl rfl (V_asg rfl (es rfl (et rfl))) ?_
    refine W_end ?_
    refine gen_Q (fun A22 hA22 => ?_)
    have hsz22 : SzN A22 134 := by rw [hA22]; infer_instance
    have hdf22 : A22.defers = [] := by rw [hA22]; simp only [df_put]; exact hdf17
    have l1_22 := lookE hA22 1 (es rfl (es rfl (es rfl (es rfl (es rfl (es rfl (es rfl l1_17)))))))
    have l5_22 := lookE hA22 5 (es rfl (es rfl (es rfl (es rfl (es rfl (es rfl (es rfl l5_17)))))))
    have l6_22 := lookE hA22 6 (es rfl (et rfl))
    have l7_22 := lookE hA22 7 (et rfl)
    clear hA22 hsz17 hdf17 l1_17 l3_17 l5_17
    have hS23 : St w NoX [c21, ct_19, c2] w21 := hS21.sel [0, 1, 4] (by decide) rfl
    refine then_n (hK18 _ _ ?_)
    clear hK18
    refine wp_seq_k (fun K24 hK24 => ?_)
    -- region 5
    refine region_in ?_
    refine W_r rfl rfl (VR_ldA rfl l1_22 (hS23.obj 2 rfl hc2) Tryd.underlying24 rfl (by kernel_rfl)) ?_
    refine W_r rfl rfl (VR_ldA rfl (es rfl l1_22) (hS23.obj 2 rfl hc2) Tryd.underlying24 rfl (by kernel_rfl)) ?_
    refine W_call rfl rfl rfl Tryd.func22 (by kernel_rfl) rfl (args2 (es rfl (et rfl)) (et rfl)) (kMv_c (hS23.roC h_lv) (hS23.roC h_yv) (hS23.roC h_lv) (hS23.roC h_yv) (hS23.roC hG0) ) ?_
    rintro _ w25 ⟨v_25, rfl, hP25⟩
    refine ⟨_, rfl, ?_⟩
    obtain ⟨c_25, hc_25, hP25⟩ := gen1 hP25
    have hS25 := hS23.join hP25
    replace hS25 : St w NoX [c_25, c21, ct_19, c2] w25 := hS25
    refine W_v rfl rfl (V_mov rfl (et rfl)) ?_
    refine W_v rfl rfl (V_ext (v := v_25) rfl (et rfl) rfl) ?_
    refine W_v rfl rfl (V_ext (v := .int .i64 ((mvE lo yo lo yo))) rfl (es rfl (et rfl)) rfl) ?_
    refine W_v rfl rfl (V_asg rfl (es rfl (et rfl))) ?_
    refine W_v rfl rfl (V_asg rfl (es rfl (et rfl))) ?_
    refine W_end ?_
    refine gen_Q (fun A26 hA26 => ?_)
    have hsz26 : SzN A26 134 := by rw [hA26]; infer_instance
    have hdf26 : A26.defers = [] := by rw [hA26]; simp only [df_put]; exact hdf22
    have l1_26 := lookE hA26 1 (es rfl (es rfl (es rfl (es rfl (es rfl (es rfl (es rfl (es rfl l1_22))))))))
    have l5_26 := lookE hA26 5 (es rfl (es rfl (es rfl (es rfl (es rfl (es rfl (es rfl (es rfl l5_22))))))))
    have l6_26 := lookE hA26 6 (es rfl (es rfl (es rfl (es rfl (es rfl (es rfl (es rfl (es rfl l6_22))))))))
    have l7_26 := lookE hA26 7 (es rfl (es rfl (es rfl (es rfl (es rfl (es rfl (es rfl (es rfl l7_22))))))))
    have l8_26 := lookE hA26 8 (es rfl (et rfl))
    have l9_26 := lookE hA26 9 (et rfl)
    clear hA26 hsz22 hdf22 l1_22 l5_22 l6_22 l7_22
    refine then_n (hK24 _ _ ?_)
    clear hK24
    refine wp_seq_k (fun K27 hK27 => ?_)
    refine wp_seq_k (fun K28 hK28 => ?_)
    -- region 6
    refine region_in ?_
    refine W_v rfl rfl (V_mov rfl l5_26) ?_
    refine W_v rfl rfl (V_neq rfl (et rfl) rfl) ?_
    refine W_sure (c' := false) rfl rfl (V_mov rfl (et rfl)) (by decide) ?_
    refine W_v rfl (wanted_t rfl rfl (et rfl) (ez rfl)) (V_mov rfl (es rfl (es rfl (es rfl l7_26)))) ?_
    refine W_v rfl (wanted_t rfl rfl (es rfl (et rfl)) (ez rfl)) (V_neq rfl (et rfl) rfl) ?_
    refine W_v rfl rfl (V_pickF rfl (es rfl (es rfl (et rfl))) (et rfl)) ?_
    refine W_sure (c' := false) rfl rfl (V_mov rfl (et rfl)) (by decide) ?_
    refine W_v rfl (wanted_t rfl rfl (et rfl) (ez rfl)) (V_mov rfl (es rfl (es rfl (es rfl (es rfl (es rfl (es rfl (es rfl l9_26)))))))) ?_
    refine W_v rfl (wanted_t rfl rfl (es rfl (et rfl)) (ez rfl)) (V_neq rfl (et rfl) rfl) ?_
    refine W_v rfl rfl (V_pickF rfl (es rfl (es rfl (et rfl))) (et rfl)) ?_
    refine W_sure (c' := false) rfl rfl (V_mov rfl (et rfl)) (by rw [decide_eq_false_iff_not]; rw [hms.1]; simp) ?_
    refine W_v rfl (wanted_t rfl rfl (et rfl) (ez rfl)) (V_mov rfl (es rfl (es rfl (es rfl (es rfl (es rfl (es rfl (es rfl (es rfl (es rfl (es rfl (es rfl l8_26)))))))))))) ?_
    refine W_v rfl (wanted_t rfl rfl (es rfl (et rfl)) (ez rfl)) (V_lenS rfl (et rfl) (ow_at (hS25.chq 0 rfl hc_25)) Tryd.underlying22) ?_
    refine W_v rfl (wanted_t rfl rfl (es rfl (es rfl (et rfl))) (ez rfl)) (V_neq rfl (et rfl) rfl) ?_
    refine W_v rfl rfl (V_pickF rfl (es rfl (es rfl (es rfl (et rfl)))) (et rfl)) ?_
    refine W_end ?_
    refine gen_Q (fun A29 hA29 => ?_)
    have hsz29 : SzN A29 134 := by rw [hA29]; infer_instance
    have hdf29 : A29.defers = [] := by rw [hA29]; simp only [df_put]; exact hdf26
    have l1_29 := lookE hA29 1 (es rfl (es rfl (es rfl (es rfl (es rfl (es rfl (es rfl (es rfl (es rfl (es rfl (es rfl (es rfl (es rfl (es rfl (es rfl l1_26)))))))))))))))
    have l6_29 := lookE hA29 6 (es rfl (es rfl (es rfl (es rfl (es rfl (es rfl (es rfl (es rfl (es rfl (es rfl (es rfl (es rfl (es rfl (es rfl (es rfl l6_26)))))))))))))))
    have l53_29 := lookE hA29 53 (et rfl)
    clear hA29 hsz26 hdf26 l1_26 l5_26 l6_26 l7_26 l8_26 l9_26
    have hS30 : St w NoX [c21, ct_19, c2] w25 := hS25.sel [1, 2, 3] (by decide) rfl
    refine then_n (hK28 _ _ ?_)
    clear hK28
    refine cond_not l53_29 (by rw [decide_eq_false_iff_not]; rw [hms.2, mvK_self]; simp) ?_
    refine wp_skip ?_
    refine then_n (hK27 _ _ ?_)
    clear hK27
    refine wp_seq_k (fun K31 hK31 => ?_)
    refine wp_seq_k (fun K32 hK32 => ?_)
    -- region 8
    refine region_in ?_
    refine W_v rfl rfl (V_asg rfl rfl) ?_
    refine W_end ?_
    refine gen_Q (fun A33 hA33 => ?_)
    have hsz33 : SzN A33 134 := by rw [hA33]; infer_instance
    have hdf33 : A33.defers = [] := by rw [hA33]; simp only [df_put]; exact hdf29
    have l1_33 := lookE hA33 1 (es rfl l1_29)
    have l6_33 := lookE hA33 6 (es rfl l6_29)
    have l10_33 := lookE hA33 10 (et rfl)
    clear hA33 hsz29 hdf29 l1_29 l6_29 l53_29
    refine then_n (hK32 _ _ ?_)
    clear hK32
    refine wp_block ?_
    -- loop 9
    refine loopX (fun mz A' w' => SzN A' 134 ∧ A'.defers = [] ∧ (∃ (i : Nat), (mz = yo.length - i) ∧ (i ≤ yo.length) ∧ (EV A' (.tmp 10) = .int .i64 (i : Int)) ∧ (EV A' (.tmp 1) = EV A33 (.tmp 1)) ∧ (EV A' (.tmp 6) = EV A33 (.tmp 6)) ∧ (St w NoX [bx g20 24 #[v1_19, v2_19], (il .i64 v1_19 yo).and (il .i64 v2_19 []), bx g2 24 #[lv, yv]] w'))) (yo.length - 0) ⟨hsz33, hdf33, 0, rfl, (by omega), ((l10_33).trans (by first | rfl | (simp; done) | (congr 1; omega))), rfl, rfl, (by subst hc21 hct_19 hc2; exact hS30)⟩ ?_
    clear hS30 hc21 hct_19 hc2
    rintro n34 A34 w34 ⟨hsz34, hdf34, i, hm34, hi, l10_34, u1_34, u6_34, hS34⟩
    have l1_34 := u1_34.trans l1_33
    have l6_34 := u6_34.trans l6_33
    obtain ⟨c21_34, ct_34, c2_34, hc21_34, hct_34, hc2_34, hS34⟩ := gen3 hS34
    refine wp_seq_k (fun K35 hK35 => ?_)
    refine wp_seq_k (fun K36 hK36 => ?_)
    -- region 9
    refine region_in ?_
    refine W_v rfl rfl (V_mov rfl l10_34) ?_
    refine W_v rfl rfl (V_fa (off' := 1) rfl (es rfl l1_34) Tryd.underlying24 rfl (by decide) rfl) ?_
    refine W_r rfl rfl (VR_ldC rfl (et rfl) (cell_box (v := yv) (hS34.obj 2 rfl hc2_34) rfl) Tryd.underlying22 rfl) ?_
    refine W_v rfl rfl (V_lenS rfl (et rfl) (sl_SlN h_yv.at) Tryd.underlying22) ?_
    refine W_v rfl rfl (V_lss rfl (es rfl (es rfl (es rfl (et rfl)))) (et rfl)) ?_
    refine W_end ?_
    refine gen_Q (fun A37 hA37 => ?_)
    have hsz37 : SzN A37 134 := by rw [hA37]; infer_instance
    have hdf37 : A37.defers = [] := by rw [hA37]; simp only [df_put]; exact hdf34
    have l1_37 := lookE hA37 1 (es rfl (es rfl (es rfl (es rfl (es rfl l1_34)))))
    have l6_37 := lookE hA37 6 (es rfl (es rfl (es rfl (es rfl (es rfl l6_34)))))
    have l10_37 := lookE hA37 10 (es rfl (es rfl (es rfl (es rfl (es rfl l10_34)))))
    have l58_37 := lookE hA37 58 (et rfl)
    clear hA37 hsz34 hdf34 l10_34 l1_34 l6_34
    refine then_n (hK36 _ _ ?_)
    clear hK36
    refine cond_dec l58_37 (fun c38 => ?_) (fun c38 => ?_)
    · skip
      refine wp_skip ?_
      refine then_n (hK35 _ _ ?_)
      clear hK35
      refine wp_seq_k (fun K39 hK39 => ?_)
      refine wp_block ?_
      refine wp_seq_k (fun K40 hK40 => ?_)
      -- region 11
      have k41 : i < yo.length := by first | omega | (simp only [List.length_cons, List.length_nil]; omega)
      obtain ⟨y41, hy41⟩ := get_some (xs := yo) (k := i) k41
      refine region_monoS 12 12 [none, none, none, none, none, none, some (SPc (fun u l' => u = .tuple #[.int .i64 (plN yo [] y41), .int .i64 (plE yo [] y41)] ∧ l' = []) 6)] (by kernel_rfl) (by kernel_rfl) ?_
      refine D_r rfl rfl (by kernel_rfl) (fun sx hx hF => (VR_ldA rfl l6_37 ((hS34.grow hx).obj 0 rfl hc21_34) Tryd.underlying24 rfl (by kernel_rfl))) rfl rfl ?_
      refine D_v rfl rfl (V_fa (off' := 1) rfl (es rfl l1_37) Tryd.underlying24 rfl (by decide) rfl) rfl rfl ?_
      refine D_r rfl rfl (by kernel_rfl) (fun sx hx hF => (VR_ldC rfl (et rfl) (cell_box (v := yv) ((hS34.grow hx).obj 2 rfl hc2_34) rfl) Tryd.underlying22 rfl)) rfl rfl ?_
      refine D_v rfl rfl (V_mov rfl (es rfl (es rfl (es rfl l10_37)))) rfl rfl ?_
      obtain ⟨B41, O41, C41, hv41⟩ := (SlN.blk (sl_SlN h_yv.at) (by first | omega | (simp only [List.length_cons, List.length_nil]; omega)))
      refine D_v rfl rfl (V_ixS (off := O41 + i) 1 (i) rfl (es rfl (et rfl)) (et rfl) hv41 (by omega) k41 Tryd.underlying22 (by kernel_rfl) (congrArg _ (Nat.mul_one _))) rfl rfl ?_
      refine D_r rfl rfl (by kernel_rfl) (fun sx hx hF => (VR_ldC rfl (et rfl) ((sl_SlN ((hS34.grow hx).ro h_yv)).cell hv41 (map_get hy41)) Tryd.underlying3 rfl)) rfl rfl ?_
      refine D_call (C := fun u l' => u = .tuple #[.int .i64 (plN yo [] y41), .int .i64 (plE yo [] y41)] ∧ l' = []) rfl rfl rfl Tryd.func18 (by kernel_rfl) rfl (args2 (es rfl (es rfl (es rfl (es rfl (es rfl (et rfl)))))) (et rfl)) rfl rfl (fun sx hx hF => ?_) (fun u42 l42 hu42 => ?_)
      · refine (kWt_c (c := y41) (((hS34.grow hx).chC 1 rfl hct_34).fst) (((hS34.grow hx).chC 1 rfl hct_34).snd) ((hS34.grow hx).roC hG0) ).mono ?_
        rintro _ _ ⟨rfl, hz⟩
        exact ⟨_, rfl, _, ⟨rfl, rfl⟩, hz⟩
      obtain ⟨rfl, hl42⟩ := hu42
      refine D_v rfl rfl (V_mov rfl (et rfl)) rfl rfl ?_
      refine D_v rfl rfl (V_ext (v := .int .i64 ((plN yo [] y41))) rfl (et rfl) rfl) rfl rfl ?_
      refine D_v rfl rfl (V_ext (v := .int .i64 ((plE yo [] y41))) rfl (es rfl (et rfl)) rfl) rfl rfl ?_
      refine D_v rfl rfl (V_asg rfl (es rfl (et rfl))) rfl rfl ?_
      refine D_v rfl rfl (V_asg rfl (es rfl (et rfl))) rfl rfl ?_
      refine ZS_none hS34 (Nat.le_refl _) (Nat.le_refl _) (fun s43 hJ43 hL43 hF43 => ?_)
      obtain ⟨ll42, ws42, we42, ⟨hq42, hl42r⟩, hm42, k42, e42⟩ := L.all_get hF43; cases hq42; subst hl42r
      replace hJ43 := hJ43.add hL43 (i := 6) rfl hm42 k42 e42
      have hS43 := hJ43.st; clear hF43 hJ43 hL43
      generalize s43.1 = w43 at *
      replace hS43 : St w NoX [c21_34, ct_34, c2_34] w43 := hS43
      refine gen_Q (fun A44 hA44 => ?_)
      have hsz44 : SzN A44 134 := by rw [hA44]; infer_instance
      have hdf44 : A44.defers = [] := by rw [hA44]; simp only [df_put]; exact hdf37
      have l1_44 := lookE hA44 1 (es rfl (es rfl (es rfl (es rfl (es rfl (es rfl (es rfl (es rfl (es rfl (es rfl (es rfl (es rfl l1_37))))))))))))
      have l6_44 := lookE hA44 6 (es rfl (es rfl (es rfl (es rfl (es rfl (es rfl (es rfl (es rfl (es rfl (es rfl (es rfl (es rfl l6_37))))))))))))
      have l10_44 := lookE hA44 10 (es rfl (es rfl (es rfl (es rfl (es rfl (es rfl (es rfl (es rfl (es rfl (es rfl (es rfl (es rfl l10_37))))))))))))
      have l11_44 := lookE hA44 11 (es rfl (et rfl))
      have l12_44 := lookE hA44 12 (et rfl)
      clear hA44 hsz37 hdf37 l1_37 l6_37 l10_37 l58_37
      refine then_n (hK40 _ _ ?_)
      clear hK40
      refine wp_seq_k (fun K45 hK45 => ?_)
      -- region 12
      refine region_in ?_
      refine W_v rfl rfl (V_mov rfl l12_44) ?_
      refine W_v rfl rfl (V_neq rfl (et rfl) rfl) ?_
      refine W_sure (c' := false) rfl rfl (V_mov rfl (et rfl)) (by rw [decide_eq_false_iff_not]; rw [(tn_at hg hy41).1]; simp) ?_
      refine W_v rfl (wanted_t rfl rfl (et rfl) (ez rfl)) (V_mov rfl (es rfl (es rfl (es rfl l11_44)))) ?_
      refine W_v rfl (wanted_t rfl rfl (es rfl (et rfl)) (ez rfl)) (V_mov rfl (es rfl (es rfl (es rfl (es rfl l10_44))))) ?_
      refine W_v rfl (wanted_t rfl rfl (es rfl (es rfl (et rfl))) (ez rfl)) (V_neq rfl (es rfl (et rfl)) (et rfl)) ?_
      refine W_v rfl rfl (V_pickF rfl (es rfl (es rfl (es rfl (et rfl)))) (et rfl)) ?_
      refine W_end ?_
      refine gen_Q (fun A46 hA46 => ?_)
      have hsz46 : SzN A46 134 := by rw [hA46]; infer_instance
      have hdf46 : A46.defers = [] := by rw [hA46]; simp only [df_put]; exact hdf44
      have l1_46 := lookE hA46 1 (es rfl (es rfl (es rfl (es rfl (es rfl (es rfl (es rfl l1_44)))))))
      have l6_46 := lookE hA46 6 (es rfl (es rfl (es rfl (es rfl (es rfl (es rfl (es rfl l6_44)))))))
      have l10_46 := lookE hA46 10 (es rfl (es rfl (es rfl (es rfl (es rfl (es rfl (es rfl l10_44)))))))
      have l74_46 := lookE hA46 74 (es rfl (es rfl (es rfl (et rfl))))
      have l75_46 := lookE hA46 75 (es rfl (es rfl (et rfl)))
      have l76_46 := lookE hA46 76 (es rfl (et rfl))
      have l77_46 := lookE hA46 77 (et rfl)
      clear hA46 hsz44 hdf44 l1_44 l6_44 l10_44 l11_44 l12_44
      refine then_n (hK45 _ _ ?_)
      clear hK45
      refine cond_not l77_46 (by rw [decide_eq_false_iff_not]; rw [(tn_at hg hy41).2]; simp) ?_
      refine wp_skip ?_
      refine inb_n ?_
      refine then_n (hK39 _ _ ?_)
      clear hK39
      -- region 10
      refine region_in ?_
      refine W_v rfl rfl (V_mov rfl l10_46) ?_
      refine W_v rfl rfl (V_add rfl (et rfl) rfl (by omega) (by omega)) ?_
      refine W_v rfl rfl (V_asg rfl (et rfl)) ?_
      refine W_end ?_
      refine gen_Q (fun A47 hA47 => ?_)
      have hsz47 : SzN A47 134 := by rw [hA47]; infer_instance
      have hdf47 : A47.defers = [] := by rw [hA47]; simp only [df_put]; exact hdf46
      have l1_47 := lookE hA47 1 (es rfl (es rfl (es rfl l1_46)))
      have l6_47 := lookE hA47 6 (es rfl (es rfl (es rfl l6_46)))
      have l10_47 := lookE hA47 10 (et rfl)
      have l74_47 := lookE hA47 74 (es rfl (es rfl (es rfl l74_46)))
      have l75_47 := lookE hA47 75 (es rfl (es rfl (es rfl l75_46)))
      have l76_47 := lookE hA47 76 (es rfl (es rfl (es rfl l76_46)))
      clear hA47 hsz46 hdf46 l1_46 l6_46 l10_46 l74_46 l75_46 l76_46 l77_46
      refine then_n ⟨yo.length - (i + 1), by simp only [hm34]; omega, hsz47, hdf47, (i + 1), rfl, (by omega), ((l10_47).trans (by first | rfl | (simp; done) | (congr 1; omega))), ((l1_47).trans l1_33.symm), ((l6_47).trans l6_33.symm), (by subst hc21_34 hct_34 hc2_34; exact hS43)⟩
    · skip
      refine wp_exit ?_
      refine then_exit ?_
      refine then_exit ?_
      refine inb_hit ?_
      refine then_n (hK31 _ _ ?_)
      clear hK31
      refine wp_seq_k (fun K48 hK48 => ?_)
      -- region 14
      refine region_in ?_
      refine W_r rfl rfl (VR_ldA rfl l1_37 (hS34.obj 2 rfl hc2_34) Tryd.underlying24 rfl (by kernel_rfl)) ?_
      refine W_r rfl rfl (VR_ldA rfl (es rfl l6_37) (hS34.obj 0 rfl hc21_34) Tryd.underlying24 rfl (by kernel_rfl)) ?_
      refine W_call rfl rfl rfl Tryd.func22 (by kernel_rfl) rfl (args2 (es rfl (et rfl)) (et rfl)) (kMv_c (hS34.roC h_lv) (hS34.roC h_yv) ((hS34.chC 1 rfl hct_34).fst) ((hS34.chC 1 rfl hct_34).snd) (hS34.roC hG0) ) ?_
      rintro _ w49 ⟨v_49, rfl, hP49⟩
      refine ⟨_, rfl, ?_⟩
      obtain ⟨c_49, hc_49, hP49⟩ := gen1 hP49
      have hS49 := hS34.join hP49
      replace hS49 : St w NoX [c_49, c21_34, ct_34, c2_34] w49 := hS49
      refine W_v rfl rfl (V_mov rfl (et rfl)) ?_
      refine W_v rfl rfl (V_ext (v := v_49) rfl (et rfl) rfl) ?_
      refine W_v rfl rfl (V_ext (v := .int .i64 ((mvE lo yo yo []))) rfl (es rfl (et rfl)) rfl) ?_
      refine W_v rfl rfl (V_asg rfl (es rfl (et rfl))) ?_
      refine W_v rfl rfl (V_asg rfl (es rfl (et rfl))) ?_
      refine W_end ?_
      refine gen_Q (fun A50 hA50 => ?_)
      have hsz50 : SzN A50 134 := by rw [hA50]; infer_instance
      have hdf50 : A50.defers = [] := by rw [hA50]; simp only [df_put]; exact hdf37
      have l1_50 := lookE hA50 1 (es rfl (es rfl (es rfl (es rfl (es rfl (es rfl (es rfl (es rfl l1_37))))))))
      have l13_50 := lookE hA50 13 (es rfl (et rfl))
      have l14_50 := lookE hA50 14 (et rfl)
      clear hA50 hsz37 hdf37 l1_37 l6_37 l10_37 l58_37
      have hS51 : St w NoX [c_49, c2_34] w49 := hS49.sel [0, 3] (by decide) rfl
      refine then_n (hK48 _ _ ?_)
      clear hK48
      refine wp_seq_k (fun K52 hK52 => ?_)
      refine wp_seq_k (fun K53 hK53 => ?_)
      -- region 15
      refine region_in ?_
      refine W_v rfl rfl (V_asg rfl rfl) ?_
      refine W_end ?_
      refine gen_Q (fun A54 hA54 => ?_)
      have hsz54 : SzN A54 134 := by rw [hA54]; infer_instance
      have hdf54 : A54.defers = [] := by rw [hA54]; simp only [df_put]; exact hdf50
      have l1_54 := lookE hA54 1 (es rfl l1_50)
      have l13_54 := lookE hA54 13 (es rfl l13_50)
      have l14_54 := lookE hA54 14 (es rfl l14_50)
      have l15_54 := lookE hA54 15 (et rfl)
      clear hA54 hsz50 hdf50 l1_50 l13_50 l14_50
      refine then_n (hK53 _ _ ?_)
      clear hK53
      refine wp_block ?_
      -- loop 16
      refine loopX (fun mz A' w' => SzN A' 134 ∧ A'.defers = [] ∧ (∃ (j : Nat), (mz = (mvT lo yo yo []).length - j) ∧ (j ≤ (mvT lo yo yo []).length) ∧ (EV A' (.tmp 15) = .int .i64 (j : Int)) ∧ (EV A' (.tmp 1) = EV A54 (.tmp 1)) ∧ (EV A' (.tmp 13) = EV A54 (.tmp 13)) ∧ (EV A' (.tmp 14) = EV A54 (.tmp 14)) ∧ (St w NoX [io .i64 v_49 (mvT lo yo yo []), bx g2 24 #[lv, yv]] w'))) ((mvT lo yo yo []).length - 0) ⟨hsz54, hdf54, 0, rfl, (by omega), ((l15_54).trans (by first | rfl | (simp; done) | (congr 1; omega))), rfl, rfl, rfl, (by subst hc_49 hc2_34; exact hS51)⟩ ?_
      clear hS51 hc_49 hc2_34
      rintro n55 A55 w55 ⟨hsz55, hdf55, j, hm55, hj, l15_55, u1_55, u13_55, u14_55, hS55⟩
      have l1_55 := u1_55.trans l1_54
      have l13_55 := u13_55.trans l13_54
      have l14_55 := u14_55.trans l14_54
      obtain ⟨c_55, c2_55, hc_55, hc2_55, hS55⟩ := gen2 hS55
      refine wp_seq_k (fun K56 hK56 => ?_)
      refine wp_seq_k (fun K57 hK57 => ?_)
      -- region 16
      refine region_in ?_
      refine W_v rfl rfl (V_mov rfl l15_55) ?_
      refine W_v rfl rfl (V_mov rfl (es rfl l13_55)) ?_
      refine W_v rfl rfl (V_lenS rfl (et rfl) (ow_at (hS55.chq 0 rfl hc_55)) Tryd.underlying22) ?_
      refine W_v rfl rfl (V_lss rfl (es rfl (es rfl (et rfl))) (et rfl)) ?_
      refine W_end ?_
      refine gen_Q (fun A58 hA58 => ?_)
      have hsz58 : SzN A58 134 := by rw [hA58]; infer_instance
      have hdf58 : A58.defers = [] := by rw [hA58]; simp only [df_put]; exact hdf55
      have l1_58 := lookE hA58 1 (es rfl (es rfl (es rfl (es rfl l1_55))))
      have l13_58 := lookE hA58 13 (es rfl (es rfl (es rfl (es rfl l13_55))))
      have l14_58 := lookE hA58 14 (es rfl (es rfl (es rfl (es rfl l14_55))))
      have l15_58 := lookE hA58 15 (es rfl (es rfl (es rfl (es rfl l15_55))))
      have l87_58 := lookE hA58 87 (et rfl)
      clear hA58 hsz55 hdf55 l15_55 l1_55 l13_55 l14_55
      refine then_n (hK57 _ _ ?_)
      clear hK57
      refine cond_dec l87_58 (fun c59 => ?_) (fun c59 => ?_)
      · skip
        refine wp_skip ?_
        refine then_n (hK56 _ _ ?_)
        clear hK56
        refine wp_seq_k (fun K60 hK60 => ?_)
        refine wp_block ?_
        refine wp_seq_k (fun K61 hK61 => ?_)
        -- region 18
        have k62 : j < (mvT lo yo yo []).length := by first | omega | (simp only [List.length_cons, List.length_nil]; omega)
        obtain ⟨y62, hy62⟩ := get_some (xs := (mvT lo yo yo [])) (k := j) k62
        refine region_monoS 11 11 [none, none, none, none, none, some (SPc (fun u l' => u = .tuple #[.int .i64 (plN lo yo y62), .int .i64 (plE lo yo y62)] ∧ l' = []) 5)] (by kernel_rfl) (by kernel_rfl) ?_
        refine D_r rfl rfl (by kernel_rfl) (fun sx hx hF => (VR_ldA rfl l1_58 ((hS55.grow hx).obj 1 rfl hc2_55) Tryd.underlying24 rfl (by kernel_rfl))) rfl rfl ?_
        refine D_v rfl rfl (V_mov rfl (es rfl l13_58)) rfl rfl ?_
        refine D_v rfl rfl (V_mov rfl (es rfl (es rfl l15_58))) rfl rfl ?_
        obtain ⟨B62, O62, C62, hv62⟩ := (SlN.blk (ow_at (hS55.chq 0 rfl hc_55)) (by first | omega | (simp only [List.length_cons, List.length_nil]; omega)))
        refine D_v rfl rfl (V_ixS (off := O62 + j) 1 (j) rfl (es rfl (et rfl)) (et rfl) hv62 (by omega) k62 Tryd.underlying22 (by kernel_rfl) (congrArg _ (Nat.mul_one _))) rfl rfl ?_
        refine D_r rfl rfl (by kernel_rfl) (fun sx hx hF => (VR_ldC rfl (et rfl) ((ow_at ((hS55.grow hx).chq 0 rfl hc_55)).cell hv62 (map_get hy62)) Tryd.underlying3 rfl)) rfl rfl ?_
        refine D_call (C := fun u l' => u = .tuple #[.int .i64 (plN lo yo y62), .int .i64 (plE lo yo y62)] ∧ l' = []) rfl rfl rfl Tryd.func18 (by kernel_rfl) rfl (args2 (es rfl (es rfl (es rfl (es rfl (et rfl))))) (et rfl)) rfl rfl (fun sx hx hF => ?_) (fun u63 l63 hu63 => ?_)
        · refine (kWt_c (c := y62) ((hS55.grow hx).roC h_lv) ((hS55.grow hx).roC h_yv) ((hS55.grow hx).roC hG0) ).mono ?_
          rintro _ _ ⟨rfl, hz⟩
          exact ⟨_, rfl, _, ⟨rfl, rfl⟩, hz⟩
        obtain ⟨rfl, hl63⟩ := hu63
        refine D_v rfl rfl (V_mov rfl (et rfl)) rfl rfl ?_
        refine D_v rfl rfl (V_ext (v := .int .i64 ((plN lo yo y62))) rfl (et rfl) rfl) rfl rfl ?_
        refine D_v rfl rfl (V_ext (v := .int .i64 ((plE lo yo y62))) rfl (es rfl (et rfl)) rfl) rfl rfl ?_
        refine D_v rfl rfl (V_asg rfl (es rfl (et rfl))) rfl rfl ?_
        refine D_v rfl rfl (V_asg rfl (es rfl (et rfl))) rfl rfl ?_
        refine ZS_none hS55 (Nat.le_refl _) (Nat.le_refl _) (fun s64 hJ64 hL64 hF64 => ?_)
        obtain ⟨ll63, ws63, we63, ⟨hq63, hl63r⟩, hm63, k63, e63⟩ := L.all_get hF64; cases hq63; subst hl63r
        replace hJ64 := hJ64.add hL64 (i := 5) rfl hm63 k63 e63
        have hS64 := hJ64.st; clear hF64 hJ64 hL64
        generalize s64.1 = w64 at *
        replace hS64 : St w NoX [c_55, c2_55] w64 := hS64
        refine gen_Q (fun A65 hA65 => ?_)
        have hsz65 : SzN A65 134 := by rw [hA65]; infer_instance
        have hdf65 : A65.defers = [] := by rw [hA65]; simp only [df_put]; exact hdf58
        have l1_65 := lookE hA65 1 (es rfl (es rfl (es rfl (es rfl (es rfl (es rfl (es rfl (es rfl (es rfl (es rfl (es rfl l1_58)))))))))))
        have l13_65 := lookE hA65 13 (es rfl (es rfl (es rfl (es rfl (es rfl (es rfl (es rfl (es rfl (es rfl (es rfl (es rfl l13_58)))))))))))
        have l14_65 := lookE hA65 14 (es rfl (es rfl (es rfl (es rfl (es rfl (es rfl (es rfl (es rfl (es rfl (es rfl (es rfl l14_58)))))))))))
        have l15_65 := lookE hA65 15 (es rfl (es rfl (es rfl (es rfl (es rfl (es rfl (es rfl (es rfl (es rfl (es rfl (es rfl l15_58)))))))))))
        have l17_65 := lookE hA65 17 (et rfl)
        clear hA65 hsz58 hdf58 l1_58 l13_58 l14_58 l15_58 l87_58
        refine then_n (hK61 _ _ ?_)
        clear hK61
        refine wp_seq_k (fun K66 hK66 => ?_)
        -- region 19
        refine region_monoS 18 18 [] (by kernel_rfl) (by kernel_rfl) ?_
        refine D_v rfl rfl (V_mov rfl l17_65) rfl rfl ?_
        refine D_v rfl rfl (V_neq rfl (et rfl) rfl) rfl rfl ?_
        refine D_sure (c' := false) rfl rfl (V_mov rfl (et rfl)) (by rw [decide_eq_false_iff_not]; rw [tn_mem hg (hmt.2 ▸ hy62)]; simp) rfl rfl ?_
        refine D_v rfl (wanted_t rfl rfl (et rfl) (ez rfl)) (V_mov rfl (es rfl (es rfl (es rfl l15_65)))) rfl rfl ?_
        refine D_v rfl (wanted_t rfl rfl (es rfl (et rfl)) (ez rfl)) (V_gtr rfl (et rfl) rfl) rfl rfl ?_
        refine D_split rfl (wanted_t rfl rfl (es rfl (es rfl (et rfl))) (ez rfl)) (V_mov rfl (et rfl)) rfl rfl (fun c67 => ?_) (fun c67 => ?_)
        · skip
          refine D_v rfl (wanted_t rfl rfl (et rfl) (ez rfl)) (V_mov rfl (es rfl (es rfl (es rfl (es rfl (es rfl (es rfl l13_65))))))) rfl rfl ?_
          refine D_v rfl (wanted_t rfl rfl (es rfl (et rfl)) (ez rfl)) (V_mov rfl (es rfl (es rfl (es rfl (es rfl (es rfl (es rfl (es rfl l15_65)))))))) rfl rfl ?_
          refine D_v rfl (wanted_t rfl rfl (es rfl (es rfl (et rfl))) (ez rfl)) (V_ixS (off := O62 + j) 1 (j) rfl (es rfl (et rfl)) (et rfl) hv62 (by omega) k62 Tryd.underlying22 (by kernel_rfl) (congrArg _ (Nat.mul_one _))) rfl rfl ?_
          refine D_r rfl (wanted_t rfl rfl (es rfl (es rfl (es rfl (et rfl)))) (ez rfl)) (by kernel_rfl) (fun sx hx hF => (VR_ldC rfl (et rfl) ((ow_at ((hS64.grow hx).chq 0 rfl hc_55)).cell hv62 (map_get hy62)) Tryd.underlying3 rfl)) rfl rfl ?_
          refine D_v rfl (wanted_t rfl rfl (es rfl (es rfl (es rfl (es rfl (et rfl))))) (ez rfl)) (V_mov rfl (es rfl (es rfl (es rfl (es rfl (es rfl (es rfl (es rfl (es rfl (es rfl (es rfl l13_65))))))))))) rfl rfl ?_
          refine D_v rfl (wanted_t rfl rfl (es rfl (es rfl (es rfl (es rfl (es rfl (et rfl)))))) (ez rfl)) (V_mov rfl (es rfl (es rfl (es rfl (es rfl (es rfl (es rfl (es rfl (es rfl (es rfl (es rfl (es rfl l15_65)))))))))))) rfl rfl ?_
          refine D_v rfl (wanted_t rfl rfl (es rfl (es rfl (es rfl (es rfl (es rfl (es rfl (et rfl))))))) (ez rfl)) (V_sb rfl (et rfl) rfl (by omega) (by omega)) rfl rfl ?_
          have k69 : (j - 1) < (mvT lo yo yo []).length := by first | omega | (simp only [List.length_cons, List.length_nil]; omega)
          obtain ⟨y69, hy69⟩ := get_some (xs := (mvT lo yo yo [])) (k := (j - 1)) k69
          refine D_v rfl (wanted_t rfl rfl (es rfl (es rfl (es rfl (es rfl (es rfl (es rfl (es rfl (et rfl)))))))) (ez rfl)) (V_ixS (off := O62 + (j - 1)) 1 ((j - 1)) rfl (es rfl (es rfl (et rfl))) (et rfl) hv62 (by omega) k69 Tryd.underlying22 (by kernel_rfl) (congrArg _ (Nat.mul_one _))) rfl rfl ?_
          refine D_r rfl (wanted_t rfl rfl (es rfl (es rfl (es rfl (es rfl (es rfl (es rfl (es rfl (es rfl (et rfl))))))))) (ez rfl)) (by kernel_rfl) (fun sx hx hF => (VR_ldC rfl (et rfl) ((ow_at ((hS64.grow hx).chq 0 rfl hc_55)).cell hv62 (map_get hy69)) Tryd.underlying3 rfl)) rfl rfl ?_
          refine D_v rfl (wanted_t rfl rfl (es rfl (es rfl (es rfl (es rfl (es rfl (es rfl (es rfl (es rfl (es rfl (et rfl)))))))))) (ez rfl)) (V_leq rfl (es rfl (es rfl (es rfl (es rfl (es rfl (et rfl)))))) (et rfl)) rfl rfl ?_
          refine D_v rfl (wanted_t rfl rfl (es rfl (es rfl (es rfl (es rfl (es rfl (es rfl (es rfl (es rfl (es rfl (es rfl (es rfl (es rfl (es rfl (et rfl)))))))))))))) (ez rfl)) (V_pickT rfl (es rfl (es rfl (es rfl (es rfl (es rfl (es rfl (es rfl (es rfl (es rfl (es rfl (et rfl))))))))))) (et rfl)) rfl rfl ?_
          refine D_v rfl rfl (V_pickF rfl (es rfl (es rfl (es rfl (es rfl (es rfl (es rfl (es rfl (es rfl (es rfl (es rfl (es rfl (es rfl (es rfl (es rfl (et rfl))))))))))))))) (et rfl)) rfl rfl ?_
          refine ZS_none hS64 (Nat.le_refl _) (Nat.le_refl _) (fun s70 hJ70 hL70 hF70 => ?_)
          have hS70 := hJ70.st; clear hF70 hJ70 hL70
          generalize s70.1 = w70 at *
          replace hS70 : St w NoX [c_55, c2_55] w70 := hS70
          refine gen_Q (fun A71 hA71 => ?_)
          have hsz71 : SzN A71 134 := by rw [hA71]; infer_instance
          have hdf71 : A71.defers = [] := by rw [hA71]; simp only [df_put]; exact hdf65
          have l1_71 := lookE hA71 1 (es rfl (es rfl (es rfl (es rfl (es rfl (es rfl (es rfl (es rfl (es rfl (es rfl (es rfl (es rfl (es rfl (es rfl (es rfl (es rfl (es rfl (es rfl l1_65))))))))))))))))))
          have l13_71 := lookE hA71 13 (es rfl (es rfl (es rfl (es rfl (es rfl (es rfl (es rfl (es rfl (es rfl (es rfl (es rfl (es rfl (es rfl (es rfl (es rfl (es rfl (es rfl (es rfl l13_65))))))))))))))))))
          have l14_71 := lookE hA71 14 (es rfl (es rfl (es rfl (es rfl (es rfl (es rfl (es rfl (es rfl (es rfl (es rfl (es rfl (es rfl (es rfl (es rfl (es rfl (es rfl (es rfl (es rfl l14_65))))))))))))))))))
          have l15_71 := lookE hA71 15 (es rfl (es rfl (es rfl (es rfl (es rfl (es rfl (es rfl (es rfl (es rfl (es rfl (es rfl (es rfl (es rfl (es rfl (es rfl (es rfl (es rfl (es rfl l15_65))))))))))))))))))
          have l102_71 := lookE hA71 102 (es rfl (es rfl (es rfl (es rfl (es rfl (es rfl (es rfl (es rfl (es rfl (es rfl (es rfl (es rfl (es rfl (es rfl (et rfl)))))))))))))))
          have l103_71 := lookE hA71 103 (es rfl (es rfl (es rfl (es rfl (es rfl (es rfl (es rfl (es rfl (es rfl (es rfl (es rfl (es rfl (es rfl (et rfl))))))))))))))
          have l104_71 := lookE hA71 104 (es rfl (es rfl (es rfl (es rfl (es rfl (es rfl (es rfl (es rfl (es rfl (es rfl (es rfl (es rfl (et rfl)))))))))))))
          have l105_71 := lookE hA71 105 (es rfl (es rfl (es rfl (es rfl (es rfl (es rfl (es rfl (es rfl (es rfl (es rfl (es rfl (et rfl))))))))))))
          have l106_71 := lookE hA71 106 (es rfl (es rfl (es rfl (es rfl (es rfl (es rfl (es rfl (es rfl (es rfl (es rfl (et rfl)))))))))))
          have l107_71 := lookE hA71 107 (es rfl (es rfl (es rfl (es rfl (es rfl (es rfl (es rfl (es rfl (es rfl (et rfl))))))))))
          have l108_71 := lookE hA71 108 (es rfl (es rfl (es rfl (es rfl (es rfl (es rfl (es rfl (es rfl (et rfl)))))))))
          have l109_71 := lookE hA71 109 (es rfl (es rfl (es rfl (es rfl (es rfl (es rfl (es rfl (et rfl))))))))
          have l110_71 := lookE hA71 110 (es rfl (es rfl (es rfl (es rfl (es rfl (es rfl (et rfl)))))))
          have l111_71 := lookE hA71 111 (es rfl (es rfl (es rfl (es rfl (es rfl (et rfl))))))
          have l112_71 := lookE hA71 112 (es rfl (es rfl (es rfl (es rfl (et rfl)))))
          have l113_71 := lookE hA71 113 (es rfl (es rfl (es rfl (et rfl))))
          have l114_71 := lookE hA71 114 (es rfl (es rfl (et rfl)))
          have l115_71 := lookE hA71 115 (es rfl (et rfl))
          have l116_71 := lookE hA71 116 (et rfl)
          clear hA71 hsz65 hdf65 l1_65 l13_65 l14_65 l15_65 l17_65
          refine then_n (hK66 _ _ ?_)
          clear hK66
          refine cond_not l116_71 (by rw [decide_eq_false_iff_not]; have := mvK_asc (hmt.2 ▸ hy62) (hmt.2 ▸ hy69) (by omega); omega) ?_
          refine wp_skip ?_
          refine inb_n ?_
          refine then_n (hK60 _ _ ?_)
          clear hK60
          -- region 17
          refine region_in ?_
          refine W_v rfl rfl (V_mov rfl l15_71) ?_
          refine W_v rfl rfl (V_add rfl (et rfl) rfl (by omega) (by omega)) ?_
          refine W_v rfl rfl (V_asg rfl (et rfl)) ?_
          refine W_end ?_
          refine gen_Q (fun A72 hA72 => ?_)
          have hsz72 : SzN A72 134 := by rw [hA72]; infer_instance
          have hdf72 : A72.defers = [] := by rw [hA72]; simp only [df_put]; exact hdf71
          have l1_72 := lookE hA72 1 (es rfl (es rfl (es rfl l1_71)))
          have l13_72 := lookE hA72 13 (es rfl (es rfl (es rfl l13_71)))
          have l14_72 := lookE hA72 14 (es rfl (es rfl (es rfl l14_71)))
          have l15_72 := lookE hA72 15 (et rfl)
          have l102_72 := lookE hA72 102 (es rfl (es rfl (es rfl l102_71)))
          have l103_72 := lookE hA72 103 (es rfl (es rfl (es rfl l103_71)))
          have l104_72 := lookE hA72 104 (es rfl (es rfl (es rfl l104_71)))
          have l105_72 := lookE hA72 105 (es rfl (es rfl (es rfl l105_71)))
          have l106_72 := lookE hA72 106 (es rfl (es rfl (es rfl l106_71)))
          have l107_72 := lookE hA72 107 (es rfl (es rfl (es rfl l107_71)))
          have l108_72 := lookE hA72 108 (es rfl (es rfl (es rfl l108_71)))
          have l109_72 := lookE hA72 109 (es rfl (es rfl (es rfl l109_71)))
          have l110_72 := lookE hA72 110 (es rfl (es rfl (es rfl l110_71)))
          have l111_72 := lookE hA72 111 (es rfl (es rfl (es rfl l111_71)))
          have l112_72 := lookE hA72 112 (es rfl (es rfl (es rfl l112_71)))
          have l113_72 := lookE hA72 113 (es rfl (es rfl (es rfl l113_71)))
          have l114_72 := lookE hA72 114 (es rfl (es rfl (es rfl l114_71)))
          have l115_72 := lookE hA72 115 (es rfl (es rfl (es rfl l115_71)))
          clear hA72 hsz71 hdf71 l1_71 l13_71 l14_71 l15_71 l102_71 l103_71 l104_71 l105_71 l106_71 l107_71 l108_71 l109_71 l110_71 l111_71 l112_71 l113_71 l114_71 l115_71 l116_71
          refine then_n ⟨(mvT lo yo yo []).length - (j + 1), by simp only [hm55]; omega, hsz72, hdf72, (j + 1), rfl, (by omega), ((l15_72).trans (by first | rfl | (simp; done) | (congr 1; omega))), ((l1_72).trans l1_54.symm), ((l13_72).trans l13_54.symm), ((l14_72).trans l14_54.symm), (by subst hc_55 hc2_55; exact hS70)⟩
        · skip
          refine D_off rfl (wanted_f rfl rfl (et rfl) (ez rfl) rfl) rfl ?_
          refine D_off rfl (wanted_f rfl rfl (es rfl (et rfl)) (ez rfl) rfl) rfl ?_
          refine D_off rfl (wanted_f rfl rfl (es rfl (es rfl (et rfl))) (ez rfl) rfl) rfl ?_
          refine D_off rfl (wanted_f rfl rfl (es rfl (es rfl (es rfl (et rfl)))) (ez rfl) rfl) rfl ?_
          refine D_off rfl (wanted_f rfl rfl (es rfl (es rfl (es rfl (es rfl (et rfl))))) (ez rfl) rfl) rfl ?_
          refine D_off rfl (wanted_f rfl rfl (es rfl (es rfl (es rfl (es rfl (es rfl (et rfl)))))) (ez rfl) rfl) rfl ?_
          refine D_off rfl (wanted_f rfl rfl (es rfl (es rfl (es rfl (es rfl (es rfl (es rfl (et rfl))))))) (ez rfl) rfl) rfl ?_
          refine D_off rfl (wanted_f rfl rfl (es rfl (es rfl (es rfl (es rfl (es rfl (es rfl (es rfl (et rfl)))))))) (ez rfl) rfl) rfl ?_
          refine D_off rfl (wanted_f rfl rfl (es rfl (es rfl (es rfl (es rfl (es rfl (es rfl (es rfl (es rfl (et rfl))))))))) (ez rfl) rfl) rfl ?_
          refine D_off rfl (wanted_f rfl rfl (es rfl (es rfl (es rfl (es rfl (es rfl (es rfl (es rfl (es rfl (es rfl (et rfl)))))))))) (ez rfl) rfl) rfl ?_
          refine D_v rfl (wanted_t rfl rfl (es rfl (es rfl (es rfl (es rfl (es rfl (es rfl (es rfl (es rfl (es rfl (es rfl (es rfl (es rfl (es rfl (et rfl)))))))))))))) (ez rfl)) (V_pickF rfl (es rfl (es rfl (es rfl (es rfl (es rfl (es rfl (es rfl (es rfl (es rfl (es rfl (et rfl))))))))))) rfl) rfl rfl ?_
          refine D_v rfl rfl (V_pickF rfl (es rfl (es rfl (es rfl (es rfl (es rfl (es rfl (es rfl (es rfl (es rfl (es rfl (es rfl (es rfl (es rfl (es rfl (et rfl))))))))))))))) (et rfl)) rfl rfl ?_
          refine ZS_none hS64 (Nat.le_refl _) (Nat.le_refl _) (fun s73 hJ73 hL73 hF73 => ?_)
          have hS73 := hJ73.st; clear hF73 hJ73 hL73
          generalize s73.1 = w73 at *
          replace hS73 : St w NoX [c_55, c2_55] w73 := hS73
          refine gen_Q (fun A74 hA74 => ?_)
          have hsz74 : SzN A74 134 := by rw [hA74]; infer_instance
          have hdf74 : A74.defers = [] := by rw [hA74]; simp only [df_put]; exact hdf65
          have l1_74 := lookE hA74 1 (es rfl (es rfl (es rfl (es rfl (es rfl (es rfl (es rfl (es rfl (es rfl (es rfl (es rfl (es rfl (es rfl (es rfl (es rfl (es rfl (es rfl (es rfl l1_65))))))))))))))))))
          have l13_74 := lookE hA74 13 (es rfl (es rfl (es rfl (es rfl (es rfl (es rfl (es rfl (es rfl (es rfl (es rfl (es rfl (es rfl (es rfl (es rfl (es rfl (es rfl (es rfl (es rfl l13_65))))))))))))))))))
          have l14_74 := lookE hA74 14 (es rfl (es rfl (es rfl (es rfl (es rfl (es rfl (es rfl (es rfl (es rfl (es rfl (es rfl (es rfl (es rfl (es rfl (es rfl (es rfl (es rfl (es rfl l14_65))))))))))))))))))
          have l15_74 := lookE hA74 15 (es rfl (es rfl (es rfl (es rfl (es rfl (es rfl (es rfl (es rfl (es rfl (es rfl (es rfl (es rfl (es rfl (es rfl (es rfl (es rfl (es rfl (es rfl l15_65))))))))))))))))))
          have l102_74 := lookE hA74 102 (es rfl (es rfl (es rfl (es rfl (es rfl (es rfl (es rfl (es rfl (es rfl (es rfl (es rfl (es rfl (es rfl (es rfl (et rfl)))))))))))))))
          have l103_74 := lookE hA74 103 (es rfl (es rfl (es rfl (es rfl (es rfl (es rfl (es rfl (es rfl (es rfl (es rfl (es rfl (es rfl (es rfl (et rfl))))))))))))))
          have l104_74 := lookE hA74 104 (es rfl (es rfl (es rfl (es rfl (es rfl (es rfl (es rfl (es rfl (es rfl (es rfl (es rfl (es rfl (et rfl)))))))))))))
          have l105_74 := lookE hA74 105 (es rfl (es rfl (es rfl (es rfl (es rfl (es rfl (es rfl (es rfl (es rfl (es rfl (es rfl (et rfl))))))))))))
          have l106_74 := lookE hA74 106 (es rfl (es rfl (es rfl (es rfl (es rfl (es rfl (es rfl (es rfl (es rfl (es rfl (et rfl)))))))))))
          have l107_74 := lookE hA74 107 (es rfl (es rfl (es rfl (es rfl (es rfl (es rfl (es rfl (es rfl (es rfl (et rfl))))))))))
          have l108_74 := lookE hA74 108 (es rfl (es rfl (es rfl (es rfl (es rfl (es rfl (es rfl (es rfl (et rfl)))))))))
          have l109_74 := lookE hA74 109 (es rfl (es rfl (es rfl (es rfl (es rfl (es rfl (es rfl (et rfl))))))))
          have l110_74 := lookE hA74 110 (es rfl (es rfl (es rfl (es rfl (es rfl (es rfl (et rfl)))))))
          have l111_74 := lookE hA74 111 (es rfl (es rfl (es rfl (es rfl (es rfl (et rfl))))))
          have l112_74 := lookE hA74 112 (es rfl (es rfl (es rfl (es rfl (et rfl)))))
          have l113_74 := lookE hA74 113 (es rfl (es rfl (es rfl (et rfl))))
          have l114_74 := lookE hA74 114 (es rfl (es rfl (et rfl)))
          have l115_74 := lookE hA74 115 (es rfl (et rfl))
          have l116_74 := lookE hA74 116 (et rfl)
          clear hA74 hsz65 hdf65 l1_65 l13_65 l14_65 l15_65 l17_65
          refine then_n (hK66 _ _ ?_)
          clear hK66
          refine cond_f l116_74 ?_
          refine wp_skip ?_
          refine inb_n ?_
          refine then_n (hK60 _ _ ?_)
          clear hK60
          -- region 17
          refine region_in ?_
          refine W_v rfl rfl (V_mov rfl l15_74) ?_
          refine W_v rfl rfl (V_add rfl (et rfl) rfl (by omega) (by omega)) ?_
          refine W_v rfl rfl (V_asg rfl (et rfl)) ?_
          refine W_end ?_
          refine gen_Q (fun A75 hA75 => ?_)
          have hsz75 : SzN A75 134 := by rw [hA75]; infer_instance
          have hdf75 : A75.defers = [] := by rw [hA75]; simp only [df_put]; exact hdf74
          have l1_75 := lookE hA75 1 (es rfl (es rfl (es rfl l1_74)))
          have l13_75 := lookE hA75 13 (es rfl (es rfl (es rfl l13_74)))
          have l14_75 := lookE hA75 14 (es rfl (es rfl (es rfl l14_74)))
          have l15_75 := lookE hA75 15 (et rfl)
          have l102_75 := lookE hA75 102 (es rfl (es rfl (es rfl l102_74)))
          have l103_75 := lookE hA75 103 (es rfl (es rfl (es rfl l103_74)))
          have l104_75 := lookE hA75 104 (es rfl (es rfl (es rfl l104_74)))
          have l105_75 := lookE hA75 105 (es rfl (es rfl (es rfl l105_74)))
          have l106_75 := lookE hA75 106 (es rfl (es rfl (es rfl l106_74)))
          have l107_75 := lookE hA75 107 (es rfl (es rfl (es rfl l107_74)))
          have l108_75 := lookE hA75 108 (es rfl (es rfl (es rfl l108_74)))
          have l109_75 := lookE hA75 109 (es rfl (es rfl (es rfl l109_74)))
          have l110_75 := lookE hA75 110 (es rfl (es rfl (es rfl l110_74)))
          have l111_75 := lookE hA75 111 (es rfl (es rfl (es rfl l111_74)))
          have l112_75 := lookE hA75 112 (es rfl (es rfl (es rfl l112_74)))
          have l113_75 := lookE hA75 113 (es rfl (es rfl (es rfl l113_74)))
          have l114_75 := lookE hA75 114 (es rfl (es rfl (es rfl l114_74)))
          have l115_75 := lookE hA75 115 (es rfl (es rfl (es rfl l115_74)))
          clear hA75 hsz74 hdf74 l1_74 l13_74 l14_74 l15_74 l102_74 l103_74 l104_74 l105_74 l106_74 l107_74 l108_74 l109_74 l110_74 l111_74 l112_74 l113_74 l114_74 l115_74 l116_74
          refine then_n ⟨(mvT lo yo yo []).length - (j + 1), by simp only [hm55]; omega, hsz75, hdf75, (j + 1), rfl, (by omega), ((l15_75).trans (by first | rfl | (simp; done) | (congr 1; omega))), ((l1_75).trans l1_54.symm), ((l13_75).trans l13_54.symm), ((l14_75).trans l14_54.symm), (by subst hc_55 hc2_55; exact hS73)⟩
      · skip
        refine wp_exit ?_
        refine then_exit ?_
        refine then_exit ?_
        refine inb_hit ?_
        refine then_n (hK52 _ _ ?_)
        clear hK52
        refine wp_seq_k (fun K76 hK76 => ?_)
        -- region 21
        refine region_in ?_
        refine W_v rfl rfl (V_mov rfl l14_58) ?_
        refine W_v rfl rfl (V_eql rfl (et rfl) rfl) ?_
        refine W_sure (c' := true) rfl rfl (V_mov rfl (et rfl)) (by rw [decide_eq_true_eq]; exact hmt.1) ?_
        refine W_v rfl (wanted_t rfl rfl (et rfl) (ez rfl)) (V_mov rfl (es rfl (es rfl (es rfl l13_58)))) ?_
        refine W_v rfl (wanted_t rfl rfl (es rfl (et rfl)) (ez rfl)) (V_lenS rfl (et rfl) (ow_at (hS55.chq 0 rfl hc_55)) Tryd.underlying22) ?_
        refine W_v rfl (wanted_t rfl rfl (es rfl (es rfl (et rfl))) (ez rfl)) (V_fa (off' := 0) rfl (es rfl (es rfl (es rfl (es rfl (es rfl l1_58))))) Tryd.underlying24 rfl (by decide) rfl) ?_
        refine W_r rfl (wanted_t rfl rfl (es rfl (es rfl (es rfl (et rfl)))) (ez rfl)) (VR_ldC rfl (et rfl) (cell_box (v := lv) (hS55.obj 1 rfl hc2_55) rfl) Tryd.underlying22 rfl) ?_
        refine W_v rfl (wanted_t rfl rfl (es rfl (es rfl (es rfl (es rfl (et rfl))))) (ez rfl)) (V_lenS rfl (et rfl) (sl_SlN h_lv.at) Tryd.underlying22) ?_
        refine W_v rfl (wanted_t rfl rfl (es rfl (es rfl (es rfl (es rfl (es rfl (et rfl)))))) (ez rfl)) (V_fa (off' := 1) rfl (es rfl (es rfl (es rfl (es rfl (es rfl (es rfl (es rfl (es rfl l1_58)))))))) Tryd.underlying24 rfl (by decide) rfl) ?_
        refine W_r rfl (wanted_t rfl rfl (es rfl (es rfl (es rfl (es rfl (es rfl (es rfl (et rfl))))))) (ez rfl)) (VR_ldC rfl (et rfl) (cell_box (v := yv) (hS55.obj 1 rfl hc2_55) rfl) Tryd.underlying22 rfl) ?_
        refine W_v rfl (wanted_t rfl rfl (es rfl (es rfl (es rfl (es rfl (es rfl (es rfl (es rfl (et rfl)))))))) (ez rfl)) (V_lenS rfl (et rfl) (sl_SlN h_yv.at) Tryd.underlying22) ?_
        refine W_v rfl (wanted_t rfl rfl (es rfl (es rfl (es rfl (es rfl (es rfl (es rfl (es rfl (es rfl (et rfl))))))))) (ez rfl)) (V_add rfl (es rfl (es rfl (es rfl (et rfl)))) (et rfl) (by omega) (by omega)) ?_
        refine W_v rfl (wanted_t rfl rfl (es rfl (es rfl (es rfl (es rfl (es rfl (es rfl (es rfl (es rfl (es rfl (et rfl)))))))))) (ez rfl)) (V_eql rfl (es rfl (es rfl (es rfl (es rfl (es rfl (es rfl (es rfl (et rfl)))))))) (et rfl)) ?_
        refine W_v rfl rfl (V_pickT rfl (es rfl (es rfl (es rfl (es rfl (es rfl (es rfl (es rfl (es rfl (es rfl (es rfl (et rfl))))))))))) (et rfl)) ?_
        refine W_sure (c' := true) rfl rfl (V_mov rfl (et rfl)) (by rw [decide_eq_true_eq]; rw [hmt.2, tn_all hg]) ?_
        refine W_call rfl (wanted_t rfl rfl (et rfl) (ez rfl)) rfl Tryd.func12 (by kernel_rfl) rfl (args0) (awk_c (hS55.roC hG0) ) ?_
        rintro _ w77 ⟨rfl, hP77⟩
        refine ⟨_, rfl, ?_⟩
        have hS77 := hS55.join hP77
        replace hS77 : St w NoX [c_55, c2_55] w77 := hS77
        refine W_v rfl rfl (V_pickT rfl (es rfl (et rfl)) (et rfl)) ?_
        refine W_v rfl rfl (V_asg rfl (et rfl)) ?_
        refine W_end ?_
        refine gen_Q (fun A78 hA78 => ?_)
        have hsz78 : SzN A78 134 := by rw [hA78]; infer_instance
        have hdf78 : A78.defers = [] := by rw [hA78]; simp only [df_put]; exact hdf58
        have l2_78 := lookE hA78 2 (et rfl)
        clear hA78 hsz58 hdf58 l1_58 l13_58 l14_58 l15_58 l87_58
        have hS79 : St w NoX [] w77 := hS77.sel [] (by decide) rfl
        refine then_n (hK76 _ _ ?_)
        clear hK76
        refine wp_ret ?_
        refine ret_in (results_1 Tryd.results6 (rv_tmp l2_78)) hdf78 ?_
        -- leaf FFF
        exact ⟨rfl, hS79.fin0⟩

end Go.Proofs.YtodbfgfbkgpooaaDoor