import Derived.Test.YtodbfgfbkgpooaaDoorProg
import Derived.Test.YtodbfgfbkgpooaaDoorRa1
import Derived.Test.YtodbfgfbkgpooaaDoorUc
namespace Go.Proofs.YtodbfgfbkgpooaaDoor
open Go.RowKit Go.Own


set_option maxHeartbeats 4000000 in
theorem kof_c {lv : Value} {lo : List Int} {yv : Value} {yo : List Int} {cv : Value} {cs : List Int} {gT0 : Nat} {w : World} (h_lv : Ro w NoX (il .i64 lv lo)) (h_yv : Ro w NoX (il .i64 yv yo)) (h_cv : Ro w NoX (il .i64 cv cs)) (hG0 : Ro w NoX (bx 0 gT0 #[.int .i64 (-1), .int .i64 (-1)]))  :
    Calls Tryd.prog 38 #[.agg #[lv, yv], cv] w fun e w' => e = .returned (.tuple #[.agg (((ofT lo yo cs).flatMap rkC).toArray), .int .i64 (ofE lo yo cs)]) ∧ St w NoX [] w' := by
  refine calls_inR 54 Tryd.func38 rfl rfl (by simp) (fun A0 hsz0 hdf0 hargs => ?_)
  have l0_0 := hargs 0 (.agg #[lv, yv]) rfl
  have l1_0 := hargs 1 (cv) rfl
  clear hargs; replace hsz0 : SzN A0 54 := ⟨hsz0⟩
  have hS := St.nil w
  have bh_lv := SlN.le (sl_SlN h_lv.at)
  have bh_yv := SlN.le (sl_SlN h_yv.at)
  have bh_cv := SlN.le (sl_SlN h_cv.at)
  refine R_seq (fun K1 hK1 => ?_)
  -- region 0
  refine R_region (by kernel_rfl) ?_
  refine W_boxS (zs := #[lv, yv]) hS rfl rfl rfl l0_0 (by rfl) (fun g2 w2 c2 hc2 hS2 => ?_)
  replace hS2 : St w NoX [c2] w2 := hS2
  refine W_allocS (z := .agg (((List.replicate 24 (0, 0)).flatMap rkC).toArray)) (zs := ((((List.replicate 24 (0, 0)).flatMap rkC).toArray))) hS2 rfl rfl rfl (by kernel_rfl) (by rfl) (fun g3 w3 c3 hc3 hS3 => ?_)
  replace hS3 : St w NoX [c3, c2] w3 := hS3
  refine W_v rfl rfl (V_asg rfl rfl) ?_
  refine W_end ?_
  refine Qo_normal ?_
  refine gen_Q (fun A4 hA4 => ?_)
  have hsz4 : SzN A4 54 := by rw [hA4]; infer_instance
  have hdf4 : A4.defers = [] := by rw [hA4]; simp only [df_put]; exact hdf0
  have l1_4 := lookE hA4 1 (es rfl (es rfl (es rfl l1_0)))
  have l2_4 := lookE hA4 2 (es rfl (es rfl (et rfl)))
  have l4_4 := lookE hA4 4 (es rfl (et rfl))
  clear hA4 hsz0 hdf0 l0_0 l1_0
  refine then_n (hK1 _ _ ?_)
  clear hK1
  refine R_seq (fun K5 hK5 => ?_)
  -- region 1
  refine R_region (by kernel_rfl) ?_
  refine W_allocS (z := .agg (((List.replicate 24 (0, 0)).flatMap rkC).toArray)) (zs := ((((List.replicate 24 (0, 0)).flatMap rkC).toArray))) hS3 rfl rfl rfl (by kernel_rfl) (by rfl) (fun g6 w6 c6 hc6 hS6 => ?_)
  replace hS6 : St w NoX [c6, c3, c2] w6 := hS6
  refine W_end ?_
  refine Qo_normal ?_
  refine gen_Q (fun A7 hA7 => ?_)
  have hsz7 : SzN A7 54 := by rw [hA7]; infer_instance
  have hdf7 : A7.defers = [] := by rw [hA7]; simp only [df_put]; exact hdf4
  have l1_7 := lookE hA7 1 (es rfl l1_4)
  have l2_7 := lookE hA7 2 (es rfl l2_4)
  have l4_7 := lookE hA7 4 (es rfl l4_4)
  have l6_7 := lookE hA7 6 (et rfl)
  clear hA7 hsz4 hdf4 l1_4 l2_4 l4_4
  refine then_n (hK5 _ _ ?_)
  clear hK5
  refine R_seq (fun K8 hK8 => ?_)
  refine R_seq (fun K9 hK9 => ?_)
  -- region 2
  refine R_region (by kernel_rfl) ?_
  refine W_r rfl rfl (VR_ldA rfl l2_7 (hS6.obj 2 rfl hc2) Tryd.underlying24 rfl (by kernel_rfl)) ?_
  refine W_call rfl rfl rfl Tryd.func47 (by kernel_rfl) rfl (args1 (et rfl)) (lift0 (Check_c (hS6.roC h_lv).ints (hS6.roC h_yv).ints)) ?_
  rintro _ w10 ⟨rfl, hP10⟩
  refine ⟨_, rfl, ?_⟩
  have hS10 := hS6.join hP10
  replace hS10 : St w NoX [c6, c3, c2] w10 := hS10
  refine W_v rfl rfl (V_mov rfl (et rfl)) ?_
  refine W_v rfl rfl (V_ext (v := .int .i64 ((chk lo yo).1)) rfl (et rfl) rfl) ?_
  refine W_v rfl rfl (V_ext (v := .int .i64 ((chk lo yo).2.1)) rfl (es rfl (et rfl)) rfl) ?_
  refine W_v rfl rfl (V_ext (v := .int .i64 ((chk lo yo).2.2)) rfl (es rfl (es rfl (et rfl))) rfl) ?_
  refine W_v rfl rfl (V_asg rfl (es rfl (es rfl (et rfl)))) ?_
  refine W_v rfl rfl (V_asg rfl (es rfl (es rfl (et rfl)))) ?_
  refine W_v rfl rfl (V_asg rfl (es rfl (es rfl (et rfl)))) ?_
  refine W_end ?_
  refine Qo_normal ?_
  refine gen_Q (fun A11 hA11 => ?_)
  have hsz11 : SzN A11 54 := by rw [hA11]; infer_instance
  have hdf11 : A11.defers = [] := by rw [hA11]; simp only [df_put]; exact hdf7
  have l1_11 := lookE hA11 1 (es rfl (es rfl (es rfl (es rfl (es rfl (es rfl (es rfl (es rfl (es rfl l1_7)))))))))
  have l2_11 := lookE hA11 2 (es rfl (es rfl (es rfl (es rfl (es rfl (es rfl (es rfl (es rfl (es rfl l2_7)))))))))
  have l4_11 := lookE hA11 4 (es rfl (es rfl (es rfl (es rfl (es rfl (es rfl (es rfl (es rfl (es rfl l4_7)))))))))
  have l6_11 := lookE hA11 6 (es rfl (es rfl (es rfl (es rfl (es rfl (es rfl (es rfl (es rfl (es rfl l6_7)))))))))
  have l9_11 := lookE hA11 9 (et rfl)
  clear hA11 hsz7 hdf7 l1_7 l2_7 l4_7 l6_7
  refine then_n (hK9 _ _ ?_)
  clear hK9
  refine R_seq (fun K12 hK12 => ?_)
  -- region 3
  refine R_region (by kernel_rfl) ?_
  refine W_v rfl rfl (V_mov rfl l9_11) ?_
  refine W_v rfl rfl (V_neq rfl (et rfl) rfl) ?_
  refine W_end ?_
  refine Qo_normal ?_
  refine gen_Q (fun A13 hA13 => ?_)
  have hsz13 : SzN A13 54 := by rw [hA13]; infer_instance
  have hdf13 : A13.defers = [] := by rw [hA13]; simp only [df_put]; exact hdf11
  have l1_13 := lookE hA13 1 (es rfl (es rfl l1_11))
  have l2_13 := lookE hA13 2 (es rfl (es rfl l2_11))
  have l4_13 := lookE hA13 4 (es rfl (es rfl l4_11))
  have l6_13 := lookE hA13 6 (es rfl (es rfl l6_11))
  have l9_13 := lookE hA13 9 (es rfl (es rfl l9_11))
  have l22_13 := lookE hA13 22 (et rfl)
  clear hA13 hsz11 hdf11 l1_11 l2_11 l4_11 l6_11 l9_11
  refine then_n (hK12 _ _ ?_)
  clear hK12
  refine R_cond_dec l22_13 (fun c14 => ?_) (fun c14 => ?_)
  · skip
    refine R_seq (fun K15 hK15 => ?_)
    -- region 4
    refine R_region (by kernel_rfl) ?_
    refine W_r rfl rfl (VR_ldA rfl l6_13 (hS10.obj 0 rfl hc6) Tryd.underlying60 rfl (arrR_info rkC_len List.length_replicate (by kernel_rfl))) ?_
    refine W_v rfl rfl (V_mov rfl (es rfl l9_13)) ?_
    refine W_stAS 1 hS10 rfl hc3 rfl rfl rfl (es rfl (es rfl l4_13)) (es rfl (et rfl)) (arrR_one rkC_one) (arrR_sz rkC_len List.length_replicate List.length_replicate) (arrR_info rkC_len List.length_replicate (by kernel_rfl)) (fun w16 c16 hc16 hS16 => ?_)
    replace hS16 : St w NoX [c6, c16, c2] w16 := hS16
    refine W_v rfl rfl (V_asg rfl (et rfl)) ?_
    refine W_end ?_
    refine Qo_normal ?_
    refine gen_Q (fun A17 hA17 => ?_)
    have hsz17 : SzN A17 54 := by rw [hA17]; infer_instance
    have hdf17 : A17.defers = [] := by rw [hA17]; simp only [df_put]; exact hdf13
    have l4_17 := lookE hA17 4 (es rfl (es rfl (es rfl l4_13)))
    have l5_17 := lookE hA17 5 (et rfl)
    clear hA17 hsz13 hdf13 l1_13 l2_13 l4_13 l6_13 l9_13 l22_13
    have hS18 : St w NoX [c16] w16 := hS16.sel [1] (by decide) rfl
    refine then_n (hK15 _ _ ?_)
    clear hK15
    refine R_ret ?_
    refine then_ret ?_
    refine ret_inR0 (results_2 Tryd.results38 (rv_cellA l4_17 (hS18.obj 0 rfl hc16) Tryd.underlying60 rfl (arrR_info rkC_len List.length_replicate (by kernel_rfl))) (rv_tmp l5_17)) hdf17 ?_
    -- leaf T
    have hE : ofE lo yo cs = (chk lo yo).2.2 := ofE_err c14
    have hT : ofT lo yo cs = (List.replicate 24 (0, 0)) := ofT_err (by rw [hE]; exact c14)
    rw [hE, hT]
    exact ⟨rfl, hS18.fin0⟩
  · skip
    refine R_skip ?_
    refine then_n (hK8 _ _ ?_)
    clear hK8
    refine R_seq (fun K19 hK19 => ?_)
    refine R_seq (fun K20 hK20 => ?_)
    -- region 5
    refine R_region (by kernel_rfl) ?_
    refine W_v rfl rfl (V_mov rfl l1_13) ?_
    refine W_v rfl rfl (V_lenS rfl (et rfl) (sl_SlN h_cv.at) Tryd.underlying22) ?_
    refine W_v rfl rfl (V_mov rfl rfl) ?_
    refine W_end ?_
    refine Qo_normal ?_
    refine gen_Q (fun A21 hA21 => ?_)
    have hsz21 : SzN A21 54 := by rw [hA21]; infer_instance
    have hdf21 : A21.defers = [] := by rw [hA21]; simp only [df_put]; exact hdf13
    have l2_21 := lookE hA21 2 (es rfl (es rfl (es rfl l2_13)))
    have l4_21 := lookE hA21 4 (es rfl (es rfl (es rfl l4_13)))
    have l6_21 := lookE hA21 6 (es rfl (es rfl (es rfl l6_13)))
    have l25_21 := lookE hA21 25 (es rfl (es rfl (et rfl)))
    have l26_21 := lookE hA21 26 (es rfl (et rfl))
    have l27_21 := lookE hA21 27 (et rfl)
    clear hA21 hsz13 hdf13 l1_13 l2_13 l4_13 l6_13 l9_13 l22_13
    refine then_n (hK20 _ _ ?_)
    clear hK20
    refine R_block ?_
    -- loop 6
    refine R_loop (fun mz A' w' => SzN A' 54 ∧ A'.defers = [] ∧ (∃ (j : Nat), (mz = cs.length - j) ∧ (j ≤ cs.length) ∧ (∀ i, i < j → ∀ x, cs[i]? = some x → 0 ≤ x ∧ x < 24) ∧ (EV A' (.tmp 27) = .int .i64 (j : Int)) ∧ (EV A' (.tmp 2) = EV A21 (.tmp 2)) ∧ (EV A' (.tmp 4) = EV A21 (.tmp 4)) ∧ (EV A' (.tmp 6) = EV A21 (.tmp 6)) ∧ (EV A' (.tmp 25) = EV A21 (.tmp 25)) ∧ (EV A' (.tmp 26) = EV A21 (.tmp 26)) ∧ (St w NoX [bx g6 60 (((List.replicate 24 (0, 0)).flatMap rkC).toArray), bx g3 60 (((List.replicate 24 (0, 0)).flatMap rkC).toArray), bx g2 24 #[lv, yv]] w'))) (cs.length - 0) ⟨hsz21, hdf21, 0, rfl, (Nat.zero_le _), (fun i hi => by omega), ((l27_21).trans (by first | rfl | (simp; done) | (congr 1; omega))), rfl, rfl, rfl, rfl, rfl, (by subst hc6 hc3 hc2; exact hS10)⟩ ?_
    clear hS10 hc6 hc3 hc2
    rintro n22 A22 w22 ⟨hsz22, hdf22, j, hm22, hj, hjn, l27_22, u2_22, u4_22, u6_22, u25_22, u26_22, hS22⟩
    have l2_22 := u2_22.trans l2_21
    have l4_22 := u4_22.trans l4_21
    have l6_22 := u6_22.trans l6_21
    have l25_22 := u25_22.trans l25_21
    have l26_22 := u26_22.trans l26_21
    obtain ⟨c6_22, c3_22, c2_22, hc6_22, hc3_22, hc2_22, hS22⟩ := gen3 hS22
    refine R_seq (fun K23 hK23 => ?_)
    -- region 6
    refine R_region (by kernel_rfl) ?_
    refine W_v rfl rfl (V_lss rfl l27_22 l26_22) ?_
    refine W_end ?_
    refine Qo_normal ?_
    refine gen_Q (fun A24 hA24 => ?_)
    have hsz24 : SzN A24 54 := by rw [hA24]; infer_instance
    have hdf24 : A24.defers = [] := by rw [hA24]; simp only [df_put]; exact hdf22
    have l2_24 := lookE hA24 2 (es rfl l2_22)
    have l4_24 := lookE hA24 4 (es rfl l4_22)
    have l6_24 := lookE hA24 6 (es rfl l6_22)
    have l25_24 := lookE hA24 25 (es rfl l25_22)
    have l26_24 := lookE hA24 26 (es rfl l26_22)
    have l27_24 := lookE hA24 27 (es rfl l27_22)
    have l28_24 := lookE hA24 28 (et rfl)
    clear hA24 hsz22 hdf22 l27_22 l2_22 l4_22 l6_22 l25_22 l26_22
    refine then_n (hK23 _ _ ?_)
    clear hK23
    refine R_seq (fun K25 hK25 => ?_)
    refine R_cond_dec l28_24 (fun c26 => ?_) (fun c26 => ?_)
    · skip
      refine R_skip ?_
      refine then_n (hK25 _ _ ?_)
      clear hK25
      refine R_seq (fun K27 hK27 => ?_)
      refine R_block ?_
      refine R_seq (fun K28 hK28 => ?_)
      -- region 7
      refine R_region (by kernel_rfl) ?_
      have k29 : j < cs.length := by first | omega | (simp only [List.length_cons, List.length_nil]; omega)
      obtain ⟨y29, hy29⟩ := get_some (xs := cs) (k := j) k29
      
      obtain ⟨B29, O29, C29, hv29⟩ := (SlN.blk (sl_SlN h_cv.at) (by first | omega | (simp only [List.length_cons, List.length_nil]; omega)))
      refine W_v rfl rfl (V_ixS (off := O29 + j) 1 (j) rfl l25_24 l27_24 hv29 (by omega) k29 Tryd.underlying22 (by kernel_rfl) (congrArg _ (Nat.mul_one _))) ?_
      refine W_r rfl rfl (VR_ldC rfl (et rfl) ((sl_SlN (hS22.ro h_cv)).cell hv29 (map_get hy29)) Tryd.underlying3 rfl) ?_
      refine W_v rfl rfl (V_asg rfl (et rfl)) ?_
      refine W_end ?_
      refine Qo_normal ?_
      refine gen_Q (fun A30 hA30 => ?_)
      have hsz30 : SzN A30 54 := by rw [hA30]; infer_instance
      have hdf30 : A30.defers = [] := by rw [hA30]; simp only [df_put]; exact hdf24
      have l2_30 := lookE hA30 2 (es rfl (es rfl (es rfl l2_24)))
      have l4_30 := lookE hA30 4 (es rfl (es rfl (es rfl l4_24)))
      have l6_30 := lookE hA30 6 (es rfl (es rfl (es rfl l6_24)))
      have l11_30 := lookE hA30 11 (et rfl)
      have l25_30 := lookE hA30 25 (es rfl (es rfl (es rfl l25_24)))
      have l26_30 := lookE hA30 26 (es rfl (es rfl (es rfl l26_24)))
      have l27_30 := lookE hA30 27 (es rfl (es rfl (es rfl l27_24)))
      clear hA30 hsz24 hdf24 l2_24 l4_24 l6_24 l25_24 l26_24 l27_24 l28_24
      refine then_n (hK28 _ _ ?_)
      clear hK28
      refine R_seq (fun K31 hK31 => ?_)
      -- region 8
      refine R_region (by kernel_rfl) ?_
      refine W_v rfl rfl (V_mov rfl l11_30) ?_
      refine W_v rfl rfl (V_lss rfl (et rfl) rfl) ?_
      refine W_split rfl rfl (V_mov rfl (et rfl)) (fun c32 => ?_) (fun c32 => ?_)
      · skip
        refine W_off rfl (wanted_f rfl rfl (et rfl) (ez rfl) rfl) ?_
        refine W_off rfl (wanted_f rfl rfl (es rfl (et rfl)) (ez rfl) rfl) ?_
        refine W_v rfl rfl (V_pickT rfl (es rfl (es rfl (et rfl))) rfl) ?_
        refine W_end ?_
        refine Qo_normal ?_
        refine gen_Q (fun A33 hA33 => ?_)
        have hsz33 : SzN A33 54 := by rw [hA33]; infer_instance
        have hdf33 : A33.defers = [] := by rw [hA33]; simp only [df_put]; exact hdf30
        have l2_33 := lookE hA33 2 (es rfl (es rfl (es rfl (es rfl (es rfl (es rfl l2_30))))))
        have l4_33 := lookE hA33 4 (es rfl (es rfl (es rfl (es rfl (es rfl (es rfl l4_30))))))
        have l6_33 := lookE hA33 6 (es rfl (es rfl (es rfl (es rfl (es rfl (es rfl l6_30))))))
        have l25_33 := lookE hA33 25 (es rfl (es rfl (es rfl (es rfl (es rfl (es rfl l25_30))))))
        have l26_33 := lookE hA33 26 (es rfl (es rfl (es rfl (es rfl (es rfl (es rfl l26_30))))))
        have l27_33 := lookE hA33 27 (es rfl (es rfl (es rfl (es rfl (es rfl (es rfl l27_30))))))
        have l34_33 := lookE hA33 34 (es rfl (es rfl (et rfl)))
        have l35_33 := lookE hA33 35 (es rfl (et rfl))
        have l36_33 := lookE hA33 36 (et rfl)
        clear hA33 hsz30 hdf30 l2_30 l4_30 l6_30 l11_30 l25_30 l26_30 l27_30
        refine then_n (hK31 _ _ ?_)
        clear hK31
        refine R_cond_t l36_33 ?_
        refine R_seq (fun K34 hK34 => ?_)
        -- region 9
        refine R_region (by kernel_rfl) ?_
        refine W_r rfl rfl (VR_ldA rfl l6_33 (hS22.obj 0 rfl hc6_22) Tryd.underlying60 rfl (arrR_info rkC_len List.length_replicate (by kernel_rfl))) ?_
        refine W_stAS 1 hS22 rfl hc3_22 rfl rfl rfl (es rfl l4_33) (et rfl) (arrR_one rkC_one) (arrR_sz rkC_len List.length_replicate List.length_replicate) (arrR_info rkC_len List.length_replicate (by kernel_rfl)) (fun w35 c35 hc35 hS35 => ?_)
        replace hS35 : St w NoX [c6_22, c35, c2_22] w35 := hS35
        refine W_v rfl rfl (V_asg rfl rfl) ?_
        refine W_end ?_
        refine Qo_normal ?_
        refine gen_Q (fun A36 hA36 => ?_)
        have hsz36 : SzN A36 54 := by rw [hA36]; infer_instance
        have hdf36 : A36.defers = [] := by rw [hA36]; simp only [df_put]; exact hdf33
        have l4_36 := lookE hA36 4 (es rfl (es rfl l4_33))
        have l5_36 := lookE hA36 5 (et rfl)
        clear hA36 hsz33 hdf33 l2_33 l4_33 l6_33 l25_33 l26_33 l27_33 l34_33 l35_33 l36_33
        have hS37 : St w NoX [c35] w35 := hS35.sel [1] (by decide) rfl
        refine then_n (hK34 _ _ ?_)
        clear hK34
        refine R_ret ?_
        refine inb_ret ?_
        refine then_ret ?_
        refine then_ret ?_
        refine inb_ret ?_
        refine then_ret ?_
        refine ret_inR0 (results_2 Tryd.results38 (rv_cellA l4_36 (hS37.obj 0 rfl hc35) Tryd.underlying60 rfl (arrR_info rkC_len List.length_replicate (by kernel_rfl))) (rv_tmp l5_36)) hdf36 ?_
        -- leaf FTT
        have hE : ofE lo yo cs = 7 := ofE_bad (by simpa using c14) hy29 (by omega)
        have hT : ofT lo yo cs = (List.replicate 24 (0, 0)) := ofT_err (by rw [hE]; decide)
        rw [hE, hT]
        exact ⟨rfl, hS37.fin0⟩
      · skip
        refine W_v rfl (wanted_t rfl rfl (et rfl) (ez rfl)) (V_mov rfl (es rfl (es rfl (es rfl l11_30)))) ?_
        refine W_v rfl (wanted_t rfl rfl (es rfl (et rfl)) (ez rfl)) (V_geq rfl (et rfl) rfl) ?_
        refine W_v rfl rfl (V_pickF rfl (es rfl (es rfl (et rfl))) (et rfl)) ?_
        refine W_end ?_
        refine Qo_normal ?_
        refine gen_Q (fun A38 hA38 => ?_)
        have hsz38 : SzN A38 54 := by rw [hA38]; infer_instance
        have hdf38 : A38.defers = [] := by rw [hA38]; simp only [df_put]; exact hdf30
        have l2_38 := lookE hA38 2 (es rfl (es rfl (es rfl (es rfl (es rfl (es rfl l2_30))))))
        have l4_38 := lookE hA38 4 (es rfl (es rfl (es rfl (es rfl (es rfl (es rfl l4_30))))))
        have l6_38 := lookE hA38 6 (es rfl (es rfl (es rfl (es rfl (es rfl (es rfl l6_30))))))
        have l25_38 := lookE hA38 25 (es rfl (es rfl (es rfl (es rfl (es rfl (es rfl l25_30))))))
        have l26_38 := lookE hA38 26 (es rfl (es rfl (es rfl (es rfl (es rfl (es rfl l26_30))))))
        have l27_38 := lookE hA38 27 (es rfl (es rfl (es rfl (es rfl (es rfl (es rfl l27_30))))))
        have l34_38 := lookE hA38 34 (es rfl (es rfl (et rfl)))
        have l35_38 := lookE hA38 35 (es rfl (et rfl))
        have l36_38 := lookE hA38 36 (et rfl)
        clear hA38 hsz30 hdf30 l2_30 l4_30 l6_30 l11_30 l25_30 l26_30 l27_30
        refine then_n (hK31 _ _ ?_)
        clear hK31
        refine R_cond_dec l36_38 (fun c39 => ?_) (fun c39 => ?_)
        · skip
          refine R_seq (fun K40 hK40 => ?_)
          -- region 9
          refine R_region (by kernel_rfl) ?_
          refine W_r rfl rfl (VR_ldA rfl l6_38 (hS22.obj 0 rfl hc6_22) Tryd.underlying60 rfl (arrR_info rkC_len List.length_replicate (by kernel_rfl))) ?_
          refine W_stAS 1 hS22 rfl hc3_22 rfl rfl rfl (es rfl l4_38) (et rfl) (arrR_one rkC_one) (arrR_sz rkC_len List.length_replicate List.length_replicate) (arrR_info rkC_len List.length_replicate (by kernel_rfl)) (fun w41 c41 hc41 hS41 => ?_)
          replace hS41 : St w NoX [c6_22, c41, c2_22] w41 := hS41
          refine W_v rfl rfl (V_asg rfl rfl) ?_
          refine W_end ?_
          refine Qo_normal ?_
          refine gen_Q (fun A42 hA42 => ?_)
          have hsz42 : SzN A42 54 := by rw [hA42]; infer_instance
          have hdf42 : A42.defers = [] := by rw [hA42]; simp only [df_put]; exact hdf38
          have l4_42 := lookE hA42 4 (es rfl (es rfl l4_38))
          have l5_42 := lookE hA42 5 (et rfl)
          clear hA42 hsz38 hdf38 l2_38 l4_38 l6_38 l25_38 l26_38 l27_38 l34_38 l35_38 l36_38
          have hS43 : St w NoX [c41] w41 := hS41.sel [1] (by decide) rfl
          refine then_n (hK40 _ _ ?_)
          clear hK40
          refine R_ret ?_
          refine inb_ret ?_
          refine then_ret ?_
          refine then_ret ?_
          refine inb_ret ?_
          refine then_ret ?_
          refine ret_inR0 (results_2 Tryd.results38 (rv_cellA l4_42 (hS43.obj 0 rfl hc41) Tryd.underlying60 rfl (arrR_info rkC_len List.length_replicate (by kernel_rfl))) (rv_tmp l5_42)) hdf42 ?_
          -- leaf FTFT
          have hE : ofE lo yo cs = 7 := ofE_bad (by simpa using c14) hy29 (by omega)
          have hT : ofT lo yo cs = (List.replicate 24 (0, 0)) := ofT_err (by rw [hE]; decide)
          rw [hE, hT]
          exact ⟨rfl, hS43.fin0⟩
        · skip
          refine R_skip ?_
          refine inb_n ?_
          refine then_n (hK27 _ _ ?_)
          clear hK27
          -- region 10
          refine R_region (by kernel_rfl) ?_
          refine W_v rfl rfl (V_add rfl l27_38 rfl (by omega) (by omega)) ?_
          refine W_v rfl rfl (V_mov rfl (et rfl)) ?_
          refine W_end ?_
          refine Qo_normal ?_
          refine gen_Q (fun A44 hA44 => ?_)
          have hsz44 : SzN A44 54 := by rw [hA44]; infer_instance
          have hdf44 : A44.defers = [] := by rw [hA44]; simp only [df_put]; exact hdf38
          have l2_44 := lookE hA44 2 (es rfl (es rfl l2_38))
          have l4_44 := lookE hA44 4 (es rfl (es rfl l4_38))
          have l6_44 := lookE hA44 6 (es rfl (es rfl l6_38))
          have l25_44 := lookE hA44 25 (es rfl (es rfl l25_38))
          have l26_44 := lookE hA44 26 (es rfl (es rfl l26_38))
          have l27_44 := lookE hA44 27 (et rfl)
          have l34_44 := lookE hA44 34 (es rfl (es rfl l34_38))
          have l35_44 := lookE hA44 35 (es rfl (es rfl l35_38))
          clear hA44 hsz38 hdf38 l2_38 l4_38 l6_38 l25_38 l26_38 l27_38 l34_38 l35_38 l36_38
          refine then_n ⟨cs.length - (j + 1), by simp only [hm22]; omega, hsz44, hdf44, (j + 1), rfl, (by omega), (cs_step hjn hy29 (by omega)), ((l27_44).trans (by first | rfl | (simp; done) | (congr 1; omega))), ((l2_44).trans l2_21.symm), ((l4_44).trans l4_21.symm), ((l6_44).trans l6_21.symm), ((l25_44).trans l25_21.symm), ((l26_44).trans l26_21.symm), (by subst hc6_22 hc3_22 hc2_22; exact hS22)⟩
    · skip
      refine R_exit ?_
      refine then_exit ?_
      refine then_exit ?_
      refine inb_hit ?_
      refine then_n (hK19 _ _ ?_)
      clear hK19
      refine R_seq (fun K45 hK45 => ?_)
      refine R_seq (fun K46 hK46 => ?_)
      -- region 11
      refine R_region (by kernel_rfl) ?_
      refine W_v rfl rfl (V_mov rfl rfl) ?_
      refine W_end ?_
      refine Qo_normal ?_
      refine gen_Q (fun A47 hA47 => ?_)
      have hsz47 : SzN A47 54 := by rw [hA47]; infer_instance
      have hdf47 : A47.defers = [] := by rw [hA47]; simp only [df_put]; exact hdf24
      have l2_47 := lookE hA47 2 (es rfl l2_24)
      have l4_47 := lookE hA47 4 (es rfl l4_24)
      have l6_47 := lookE hA47 6 (es rfl l6_24)
      have l39_47 := lookE hA47 39 (et rfl)
      clear hA47 hsz24 hdf24 l2_24 l4_24 l6_24 l25_24 l26_24 l27_24 l28_24
      refine then_n (hK46 _ _ ?_)
      clear hK46
      refine R_block ?_
      -- loop 12
      refine R_loop (fun mz A' w' => SzN A' 54 ∧ A'.defers = [] ∧ (∃ (k : Nat), (mz = 24 - k) ∧ (k ≤ 24) ∧ (EV A' (.tmp 39) = .int .i64 (k : Int)) ∧ (EV A' (.tmp 2) = EV A47 (.tmp 2)) ∧ (EV A' (.tmp 4) = EV A47 (.tmp 4)) ∧ (EV A' (.tmp 6) = EV A47 (.tmp 6)) ∧ (St w NoX [bx g6 60 (((rkIni k).flatMap rkC).toArray), bx g3 60 (((List.replicate 24 (0, 0)).flatMap rkC).toArray), bx g2 24 #[lv, yv]] w'))) (24 - 0) ⟨hsz47, hdf47, 0, rfl, (by omega), ((l39_47).trans (by first | rfl | (simp; done) | (congr 1; omega))), rfl, rfl, rfl, (by have q0 : c6_22 = bx g6 60 (((rkIni 0).flatMap rkC).toArray) := hc6_22.trans (rfl); have q1 := hc3_22; have q2 := hc2_22; subst q0 q1 q2; exact hS22)⟩ ?_
      clear hS22 hc6_22 hc3_22 hc2_22
      rintro n48 A48 w48 ⟨hsz48, hdf48, k, hm48, hk, l39_48, u2_48, u4_48, u6_48, hS48⟩
      have l2_48 := u2_48.trans l2_47
      have l4_48 := u4_48.trans l4_47
      have l6_48 := u6_48.trans l6_47
      obtain ⟨c6_48, c3_48, c2_48, hc6_48, hc3_48, hc2_48, hS48⟩ := gen3 hS48
      refine R_seq (fun K49 hK49 => ?_)
      -- region 12
      refine R_region (by kernel_rfl) ?_
      refine W_v rfl rfl (V_lss rfl l39_48 rfl) ?_
      refine W_end ?_
      refine Qo_normal ?_
      refine gen_Q (fun A50 hA50 => ?_)
      have hsz50 : SzN A50 54 := by rw [hA50]; infer_instance
      have hdf50 : A50.defers = [] := by rw [hA50]; simp only [df_put]; exact hdf48
      have l2_50 := lookE hA50 2 (es rfl l2_48)
      have l4_50 := lookE hA50 4 (es rfl l4_48)
      have l6_50 := lookE hA50 6 (es rfl l6_48)
      have l39_50 := lookE hA50 39 (es rfl l39_48)
      have l40_50 := lookE hA50 40 (et rfl)
      clear hA50 hsz48 hdf48 l39_48 l2_48 l4_48 l6_48
      refine then_n (hK49 _ _ ?_)
      clear hK49
      refine R_seq (fun K51 hK51 => ?_)
      refine R_cond_dec l40_50 (fun c52 => ?_) (fun c52 => ?_)
      · skip
        refine R_skip ?_
        refine then_n (hK51 _ _ ?_)
        clear hK51
        refine R_seq (fun K53 hK53 => ?_)
        refine R_block ?_
        refine R_seq (fun K54 hK54 => ?_)
        -- region 13
        refine R_region (by kernel_rfl) ?_
        refine W_v rfl rfl (V_mov rfl l39_50) ?_
        refine W_v rfl rfl (V_asg rfl (et rfl)) ?_
        refine W_end ?_
        refine Qo_normal ?_
        refine gen_Q (fun A55 hA55 => ?_)
        have hsz55 : SzN A55 54 := by rw [hA55]; infer_instance
        have hdf55 : A55.defers = [] := by rw [hA55]; simp only [df_put]; exact hdf50
        have l2_55 := lookE hA55 2 (es rfl (es rfl l2_50))
        have l4_55 := lookE hA55 4 (es rfl (es rfl l4_50))
        have l6_55 := lookE hA55 6 (es rfl (es rfl l6_50))
        have l12_55 := lookE hA55 12 (et rfl)
        have l39_55 := lookE hA55 39 (es rfl (es rfl l39_50))
        clear hA55 hsz50 hdf50 l2_50 l4_50 l6_50 l39_50 l40_50
        refine then_n (hK54 _ _ ?_)
        clear hK54
        -- region 14
        refine R_region (by kernel_rfl) ?_
        refine W_v rfl rfl (V_mov rfl l12_55) ?_
        refine W_r rfl rfl (VR_ldA rfl rfl (ob_at (hS48.ro hG0)) Tryd.underlying50 rfl (by kernel_rfl)) ?_
        have k56 : k < 24 := by omega
        refine W_v rfl rfl (V_ixA (sz := 2) (off' := k * 2) (k) rfl (es rfl (es rfl l6_55)) (es rfl (et rfl)) (by omega) Tryd.underlying60 k56 (by kernel_rfl) (by omega)) ?_
        refine W_stAM (ys := rkC ((-1), (-1))) 0 hS48 rfl hc6_48 rfl rfl rfl (et rfl) (es rfl (et rfl)) (rkC_one ((-1), (-1))) (arrR_fit rkC_len (rkIni_len (by omega)) k56 ((-1), (-1))) (by kernel_rfl) (arrR_set rkC_len (by rw [(rkIni_len (by omega))]; exact k56)) (fun w57 c57 hc57 hS57 => ?_)
        have hlen57 : ((rkIni k).set k ((-1), (-1))).length = 24 := by rw [List.length_set]; exact (rkIni_len (by omega))
        replace hS57 : St w NoX [c57, c3_48, c2_48] w57 := hS57
        refine W_end ?_
        refine Qo_normal ?_
        refine gen_Q (fun A58 hA58 => ?_)
        have hsz58 : SzN A58 54 := by rw [hA58]; infer_instance
        have hdf58 : A58.defers = [] := by rw [hA58]; simp only [df_put]; exact hdf55
        have l2_58 := lookE hA58 2 (es rfl (es rfl (es rfl l2_55)))
        have l4_58 := lookE hA58 4 (es rfl (es rfl (es rfl l4_55)))
        have l6_58 := lookE hA58 6 (es rfl (es rfl (es rfl l6_55)))
        have l39_58 := lookE hA58 39 (es rfl (es rfl (es rfl l39_55)))
        clear hA58 hsz55 hdf55 l2_55 l4_55 l6_55 l12_55 l39_55
        refine inb_n ?_
        refine then_n (hK53 _ _ ?_)
        clear hK53
        -- region 15
        refine R_region (by kernel_rfl) ?_
        refine W_v rfl rfl (V_add rfl l39_58 rfl (by omega) (by omega)) ?_
        refine W_v rfl rfl (V_mov rfl (et rfl)) ?_
        refine W_end ?_
        refine Qo_normal ?_
        refine gen_Q (fun A59 hA59 => ?_)
        have hsz59 : SzN A59 54 := by rw [hA59]; infer_instance
        have hdf59 : A59.defers = [] := by rw [hA59]; simp only [df_put]; exact hdf58
        have l2_59 := lookE hA59 2 (es rfl (es rfl l2_58))
        have l4_59 := lookE hA59 4 (es rfl (es rfl l4_58))
        have l6_59 := lookE hA59 6 (es rfl (es rfl l6_58))
        have l39_59 := lookE hA59 39 (et rfl)
        clear hA59 hsz58 hdf58 l2_58 l4_58 l6_58 l39_58
        refine then_n ⟨24 - (k + 1), by simp only [hm48]; omega, hsz59, hdf59, (k + 1), rfl, (by omega), ((l39_59).trans (by first | rfl | (simp; done) | (congr 1; omega))), ((l2_59).trans l2_47.symm), ((l4_59).trans l4_47.symm), ((l6_59).trans l6_47.symm), (by have q0 : c57 = bx g6 60 (((rkIni (k + 1)).flatMap rkC).toArray) := hc57.trans ((congrArg (fun t => bx _ _ (t.flatMap rkC).toArray) (rkIni_set (by omega)))); have q1 := hc3_48; have q2 := hc2_48; subst q0 q1 q2; exact hS57)⟩
      · skip
        refine R_exit ?_
        refine then_exit ?_
        refine then_exit ?_
        refine inb_hit ?_
        refine then_n (hK45 _ _ ?_)
        clear hK45
        refine R_seq (fun K60 hK60 => ?_)
        refine R_seq (fun K61 hK61 => ?_)
        -- region 16
        refine R_region (by kernel_rfl) ?_
        refine W_r rfl rfl (VR_ldA rfl l2_50 (hS48.obj 2 rfl hc2_48) Tryd.underlying24 rfl (by kernel_rfl)) ?_
        refine W_call rfl rfl rfl Tryd.func42 (by kernel_rfl) rfl (args1 (et rfl)) (kall_c (hS48.roC h_lv) (hS48.roC h_yv) ) ?_
        rintro _ w62 ⟨g_62, rfl, hP62⟩
        refine ⟨_, rfl, ?_⟩
        obtain ⟨c_62, hc_62, hP62⟩ := gen1 hP62
        have hS62 := hS48.join hP62
        replace hS62 : St w NoX [c_62, c6_48, c3_48, c2_48] w62 := hS62
        refine W_end ?_
        refine Qo_normal ?_
        refine gen_Q (fun A63 hA63 => ?_)
        have hsz63 : SzN A63 54 := by rw [hA63]; infer_instance
        have hdf63 : A63.defers = [] := by rw [hA63]; simp only [df_put]; exact hdf50
        have l4_63 := lookE hA63 4 (es rfl (es rfl l4_50))
        have l6_63 := lookE hA63 6 (es rfl (es rfl l6_50))
        have l47_63 := lookE hA63 47 (et rfl)
        clear hA63 hsz50 hdf50 l2_50 l4_50 l6_50 l39_50 l40_50
        have hS64 : St w NoX [c_62, c6_48, c3_48] w62 := hS62.sel [0, 1, 2] (by decide) rfl
        refine then_n (hK61 _ _ ?_)
        clear hK61
        refine R_block ?_
        refine R_rangeS (α := Int × Int × Int) l47_63 (fun args w => calls_enter Tryd.func49 rfl rfl args w) (kall_it (g0 := g_62) (lv := lv) (yv := yv) (lo := lo) (yo := yo) (Rd := fun W => (bx g_62 24 #[lv, yv]).at W ∧ (il .i64 lv lo).at W ∧ (il .i64 yv yo).at W) (fun _ h => h)) (fun _ => rfl) (fun pre => pk (fun l => l = [bx g_62 24 #[lv, yv], bx g6 60 (((rkTab pre).flatMap rkC).toArray), bx g3 60 (((List.replicate 24 (0, 0)).flatMap rkC).toArray)])) (fun cQ pre => pk (fun l => False)) (St.pack (l := [bx g_62 24 #[lv, yv], bx g6 60 (((rkTab []).flatMap rkC).toArray), bx g3 60 (((List.replicate 24 (0, 0)).flatMap rkC).toArray)]) (fr := []) (by have q0 : c_62 = bx g_62 24 #[lv, yv] := hc_62; have q1 : c6_48 = bx g6 60 (((rkTab []).flatMap rkC).toArray) := hc6_48.trans ((by obtain rfl : k = 24 := (by omega); rfl)); have q2 : c3_48 = bx g3 60 (((List.replicate 24 (0, 0)).flatMap rkC).toArray) := hc3_48; subst q0 q1 q2; exact hS64) rfl)
          (fun pre W l' hS => by obtain ⟨l, rfl, hl⟩ := pk_at (hS.ch 0 rfl); exact ⟨(hl 0 _ rfl), hS.ro h_lv, hS.ro h_yv⟩)
          (fun x a' cQ => match x with | (x1, x2, x3) => ∃ g69 : Nat, SzN a' 54 ∧ a'.defers = [] ∧ EV a' (.tmp 6) = EV A63 (.tmp 6) ∧ EV a' (.tmp 13) = .int .i64 (x1) ∧ EV a' (.tmp 14) = .pointer (some ⟨g69, 0, none⟩) ∧ cQ = pk (· = [bx g69 50 #[.int .i64 (x2), .int .i64 (x3)]])) ?_ ?_ ?_ ?_
        · rintro la65 pre ⟨x1, x2, x3⟩ wa65 fr K hSa65 hK
          simp only [encR]
          rw [rnd2]
          obtain ⟨A66, hA66⟩ : ∃ A, A = (PT (PT { tmps := A63.tmps, defers := [] } 48 (.int .i64 x1)) 49 (.agg #[.int .i64 x2, .int .i64 x3])) := ⟨_, rfl⟩
          rw [← hA66]
          have hsz66 : SzN A66 54 := by rw [hA66]; infer_instance
          have hdf66 : A66.defers = [] := by rw [hA66]; rfl
          have l6_66 := lookE hA66 6 (es rfl (es rfl (rnd_l l6_63)))
          have l48_66 := lookE hA66 48 (es rfl (et rfl))
          have l49_66 := lookE hA66 49 (et rfl)
          clear hA66
          obtain ⟨cI, hcI, hSa65⟩ := gen1 hSa65
          refine R_seq (fun K67 hK67 => ?_)
          -- region 17
          refine R_region (by kernel_rfl) ?_
          refine W_v rfl rfl (V_asg rfl l48_66) ?_
          refine W_end ?_
          refine Qo_normal ?_
          refine gen_Q (fun A68 hA68 => ?_)
          have hsz68 : SzN A68 54 := by rw [hA68]; infer_instance
          have hdf68 : A68.defers = [] := by rw [hA68]; simp only [df_put]; exact hdf66
          have l6_68 := lookE hA68 6 (es rfl l6_66)
          have l13_68 := lookE hA68 13 (et rfl)
          have l49_68 := lookE hA68 49 (es rfl l49_66)
          clear hA68 hsz66 hdf66 l6_66 l48_66 l49_66
          refine then_n (hK67 _ _ ?_)
          clear hK67
          -- region 18
          refine R_region (by kernel_rfl) ?_
          refine W_allocS (z := .agg #[.int .i64 0, .int .i64 0]) (zs := #[.int .i64 0, .int .i64 0]) hSa65 rfl rfl rfl (by kernel_rfl) (by rfl) (fun g69 w69 c69 hc69 hS69 => ?_)
          replace hS69 : St w NoX (c69 :: cI :: fr) w69 := hS69
          refine W_stAS 0 hS69 rfl hc69 rfl rfl rfl (et rfl) (es rfl l49_68) (by first | (rw [List.all_toArray] <;> rfl) | (simp only [List.all_toArray, List.all_cons, List.all_nil] <;> rfl)) (by rfl) (by kernel_rfl) (fun w70 c70 hc70 hS70 => ?_)
          replace hS70 : St w NoX (c70 :: cI :: fr) w70 := hS70
          refine W_end ?_
          refine Qo_normal ?_
          refine gen_Q (fun A71 hA71 => ?_)
          have hsz71 : SzN A71 54 := by rw [hA71]; infer_instance
          have hdf71 : A71.defers = [] := by rw [hA71]; simp only [df_put]; exact hdf68
          have l6_71 := lookE hA71 6 (es rfl l6_68)
          have l13_71 := lookE hA71 13 (es rfl l13_68)
          have l14_71 := lookE hA71 14 (et rfl)
          clear hA71 hsz68 hdf68 l6_68 l13_68 l49_68
          refine then_n ?_
          refine hK _ _ _ ⟨g69, hsz71, hdf71, (l6_71.trans l6_63.symm), l13_71, l14_71, rfl⟩ ?_
          subst hc70 hcI; exact hS70.asg1
        · rintro lb72 pre ⟨x1, x2, x3⟩ A72 w72 cQ fr hAx hlr hS72 hVd
          obtain ⟨g69, hsz72, hdf72, u6_72, l13_72, l14_72, rfl⟩ := hAx
          have l6_72 := u6_72.trans l6_63
          obtain ⟨_, _, rfl, rfl, hS72⟩ := hS72.body2
          replace hS72 : St w NoX ((bx g_62 24 #[lv, yv]) :: (bx g6 60 (((rkTab pre).flatMap rkC).toArray)) :: (bx g3 60 (((List.replicate 24 (0, 0)).flatMap rkC).toArray)) :: (bx g69 50 #[.int .i64 (x2), .int .i64 (x3)]) :: fr) w72 := hS72
          obtain ⟨c_73, c6_73, c3_73, c70_73, hc_73, hc6_73, hc3_73, hc70_73, hS72⟩ := gen4 hS72
          have hx := rk_in ((chk_iff lo yo).1 (by simpa using c14)) hVd
          refine R_block ?_
          -- region 19
          refine R_region (by kernel_rfl) ?_
          refine W_v rfl rfl (V_mov rfl l13_72) ?_
          refine W_r rfl rfl (VR_ldA rfl (es rfl l14_72) (hS72.obj 3 rfl hc70_73) Tryd.underlying50 rfl (by kernel_rfl)) ?_
          have k74 : x1.toNat < 24 := by omega
          refine W_v rfl rfl (V_ixA (sz := 2) (off' := x1.toNat * 2) (x1.toNat) rfl (es rfl (es rfl l6_72)) (es rfl (et rfl)) (by omega) Tryd.underlying60 k74 (by kernel_rfl) (by omega)) ?_
          refine W_stAM (ys := rkC (x2, x3)) 1 hS72 rfl hc6_73 rfl rfl rfl (et rfl) (es rfl (et rfl)) (rkC_one (x2, x3)) (arrR_fit rkC_len (rkTab_len _) k74 (x2, x3)) (by kernel_rfl) (arrR_set rkC_len (by rw [(rkTab_len _)]; exact k74)) (fun w75 c75 hc75 hS75 => ?_)
          have hlen75 : ((rkTab pre).set x1.toNat (x2, x3)).length = 24 := by rw [List.length_set]; exact (rkTab_len _)
          replace hS75 : St w NoX (c_73 :: c75 :: c3_73 :: c70_73 :: fr) w75 := hS75
          refine W_end ?_
          refine Qo_normal ?_
          refine gen_Q (fun A76 hA76 => ?_)
          have hsz76 : SzN A76 54 := by rw [hA76]; infer_instance
          have hdf76 : A76.defers = [] := by rw [hA76]; simp only [df_put]; exact hdf72
          clear hA76 hsz72 hdf72 l6_72 l13_72 l14_72
          have hS78 := hS75.del 3
          replace hS78 : St w NoX (c_73 :: c75 :: c3_73 :: fr) w75 := hS78
          refine inb_n ?_
          exact (St.pack (l := [bx g_62 24 #[lv, yv], bx g6 60 (((rkTab (pre ++ [(x1, x2, x3)])).flatMap rkC).toArray), bx g3 60 (((List.replicate 24 (0, 0)).flatMap rkC).toArray)]) (fr := fr) (by have q0 : c_73 = bx g_62 24 #[lv, yv] := hc_73; have q1 : c75 = bx g6 60 (((rkTab (pre ++ [(x1, x2, x3)])).flatMap rkC).toArray) := hc75.trans ((congrArg (fun t => bx _ _ (t.flatMap rkC).toArray) rkTab_snoc)); have q2 : c3_73 = bx g3 60 (((List.replicate 24 (0, 0)).flatMap rkC).toArray) := hc3_73; subst q0 q1 q2; exact hS78) (rfl))
        · intro D79 xs w79 hxs hS79
          have hxs' : xs = ranked lo yo := hxs; subst hxs'; clear hxs
          obtain ⟨_, rfl, hS79⟩ := hS79.unpack
          replace hS79 : St w NoX ((bx g_62 24 #[lv, yv]) :: (bx g6 60 (((rkTab (ranked lo yo)).flatMap rkC).toArray)) :: (bx g3 60 (((List.replicate 24 (0, 0)).flatMap rkC).toArray)) :: (ob D79 (.deferred (some []))) :: []) w79 := hS79
          obtain ⟨c_79, c6_79, c3_79, cD79, hc_79, hc6_79, hc3_79, hcD79, hS79⟩ := gen4 hS79
          refine gen_Q (fun A79 hA79 => ?_)
          have hsz79 : SzN A79 54 := by rw [hA79]; infer_instance
          have hdf79 : A79.defers = [{ target := .collected D79, args := #[] }] := by rw [hA79, df_mk, hdf63]
          have l4_79 := lookE hA79 4 (mk_l l4_63)
          have l6_79 := lookE hA79 6 (mk_l l6_63)
          clear hA79
          refine inb_n ?_
          refine then_n (hK60 _ _ ?_)
          clear hK60
          refine R_seq (fun K80 hK80 => ?_)
          -- region 20
          refine R_region (by kernel_rfl) ?_
          refine W_r rfl rfl (VR_ldA rfl l6_79 (hS79.obj 1 rfl hc6_79) Tryd.underlying60 rfl (arrR_info rkC_len (rkTab_len _) (by kernel_rfl))) ?_
          refine W_stAS 2 hS79 rfl hc3_79 rfl rfl rfl (es rfl l4_79) (et rfl) (arrR_one rkC_one) (arrR_sz rkC_len List.length_replicate (rkTab_len _)) (arrR_info rkC_len (rkTab_len _) (by kernel_rfl)) (fun w81 c81 hc81 hS81 => ?_)
          replace hS81 : St w NoX [c_79, c6_79, c81, cD79] w81 := hS81
          refine W_v rfl rfl (V_asg rfl rfl) ?_
          refine W_end ?_
          refine Qo_normal ?_
          refine gen_Q (fun A82 hA82 => ?_)
          have hsz82 : SzN A82 54 := by rw [hA82]; infer_instance
          have hdf82 : A82.defers = [{ target := .collected D79, args := #[] }] := by rw [hA82]; simp only [df_put]; exact hdf79
          have l4_82 := lookE hA82 4 (es rfl (es rfl l4_79))
          have l5_82 := lookE hA82 5 (et rfl)
          clear hA82 hsz79 hdf79 l4_79 l6_79
          have hS83 : St w NoX [c81, cD79] w81 := hS81.sel [2, 3] (by decide) rfl
          refine then_n (hK80 _ _ ?_)
          clear hK80
          refine R_ret ?_
          have hD84 := hS83.obj 1 rfl hcD79
          have hS84 := hS83.put (o' := .deferred none) 1 rfl hcD79
          obtain ⟨w84, hw84⟩ : ∃ w', w' = w81.putObj D79 (.deferred none) := ⟨_, rfl⟩
          rw [← hw84] at hS84
          replace hS84 : St w NoX [c81, (ob D79 (.deferred none))] w84 := hS84
          refine ret_inR1' (D := D79) (w1 := w84) hw84 (results_2 Tryd.results38 (rv_cellA l4_82 (hS84.obj 0 rfl hc81) Tryd.underlying60 rfl (arrR_info rkC_len (rkTab_len _) (by kernel_rfl))) (rv_tmp l5_82)) hdf82 hD84 ?_
          -- leaf FFFd
          have hE : ofE lo yo cs = 0 := ofE_ok (by simpa using c14) hjn (by omega)
          have hT : ofT lo yo cs = (rkTab (ranked lo yo)) := ofT_ok (by simpa using c14) hE
          rw [hE, hT]
          exact ⟨rfl, hS84.fin0⟩
        · intro D85 cQ pre w85 hpre hS85
          obtain ⟨_, h, _⟩ := hS85.unpack; exact h.elim

end Go.Proofs.YtodbfgfbkgpooaaDoor