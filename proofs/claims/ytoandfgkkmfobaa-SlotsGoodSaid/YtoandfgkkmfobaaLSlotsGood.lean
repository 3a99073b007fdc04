import Derived.Test.YtoandfgkkmfobaaProg
import Derived.Test.YtoandfgkkmfobaaSl6
import Derived.Test.YtoandfgkkmfobaaPl7f
namespace Go.Proofs.Ytoandfgkkmfobaa
open Go.RowKit Go.Own Go.Own.R Go.Own.S


set_option maxHeartbeats 4000000 in
theorem SlotsGood_c {cv : Value} {c : List Int} {dv : Value} {d : List Int} {lv : Value} {l : List Int} {w : World} (h_cv : Ro w NoX (il .i64 cv c)) (h_dv : Ro w NoX (il .i64 dv d)) (h_lv : Ro w NoX (il .i64 lv l))  :
    Calls Try.prog 9 #[.agg #[cv], .agg #[dv], lv] w fun e w' => e = .returned (.bool true) ∧ St w NoX [] w' := by
  refine calls_in 160 Try.func9 rfl rfl (by simp) (fun A0 hsz0 hdf0 hargs => ?_)
  have l0_0 := hargs 0 (.agg #[cv]) rfl
  have l1_0 := hargs 1 (.agg #[dv]) rfl
  have l2_0 := hargs 2 (lv) rfl
  clear hargs; replace hsz0 : SzN A0 160 := ⟨hsz0⟩
  have hS := St.nil w
  have bh_cv := SlN.le (sl_SlN h_cv.at)
  have bh_dv := SlN.le (sl_SlN h_dv.at)
  have bh_lv := SlN.le (sl_SlN h_lv.at)
  refine wp_seq_k (fun K1 hK1 => ?_)
  -- region 0
  refine region_in ?_
  refine W_boxS (zs := #[cv]) hS rfl rfl rfl l0_0 (by rfl) (fun g2 w2 c2 hc2 hS2 => ?_)
  replace hS2 : St w NoX [c2] w2 := hS2
  refine W_boxS (zs := #[dv]) hS2 rfl rfl rfl (es rfl l1_0) (by rfl) (fun g3 w3 c3 hc3 hS3 => ?_)
  replace hS3 : St w NoX [c3, c2] w3 := hS3
  refine W_v rfl rfl (V_asg rfl rfl) ?_
  refine W_end ?_
  refine gen_Q (fun A4 hA4 => ?_)
  have hsz4 : SzN A4 160 := by rw [hA4]; infer_instance
  have hdf4 : A4.defers = [] := by rw [hA4]; simp only [df_put]; exact hdf0
  have l2_4 := lookE hA4 2 (es rfl (es rfl (es rfl l2_0)))
  have l3_4 := lookE hA4 3 (es rfl (es rfl (et rfl)))
  have l4_4 := lookE hA4 4 (es rfl (et rfl))
  clear hA4 hsz0 hdf0 l0_0 l1_0 l2_0
  refine then_n (hK1 _ _ ?_)
  clear hK1
  refine wp_seq_k (fun K5 hK5 => ?_)
  refine wp_seq_k (fun K6 hK6 => ?_)
  -- region 1
  refine region_in ?_
  refine W_r rfl rfl (VR_ldA rfl l3_4 (hS3.obj 1 rfl hc2) Try.underlying24 rfl (by kernel_rfl)) ?_
  refine W_call rfl rfl rfl Try.func11 (by kernel_rfl) rfl (args1 (et rfl)) (far_c (hS3.roC h_cv) ) ?_
  rintro _ w7 ⟨rfl, hP7⟩
  refine ⟨_, rfl, ?_⟩
  have hS7 := hS3.join hP7
  replace hS7 : St w NoX [c3, c2] w7 := hS7
  refine W_split rfl rfl (V_mov rfl (et rfl)) (fun c8 => ?_) (fun c8 => ?_)
  · skip
    refine W_off rfl (wanted_f rfl rfl (et rfl) (ez rfl) rfl) ?_
    refine W_off rfl (wanted_f rfl rfl (es rfl (et rfl)) (ez rfl) rfl) ?_
    refine W_v rfl rfl (V_pickT rfl (es rfl (es rfl (et rfl))) rfl) ?_
    refine W_v rfl rfl (V_mov rfl (et rfl)) ?_
    refine W_off rfl (wanted_f rfl rfl (et rfl) (ez rfl) rfl) ?_
    refine W_off rfl (wanted_f rfl rfl (es rfl (et rfl)) (ez rfl) rfl) ?_
    refine W_off rfl (wanted_f rfl rfl (es rfl (es rfl (et rfl))) (ez rfl) rfl) ?_
    refine W_v rfl rfl (V_pickT rfl (es rfl (es rfl (es rfl (et rfl)))) rfl) ?_
    refine W_end ?_
    refine gen_Q (fun A9 hA9 => ?_)
    have hsz9 : SzN A9 160 := by rw [hA9]; infer_instance
    have hdf9 : A9.defers = [] := by rw [hA9]; simp only [df_put]; exact hdf4
    have l2_9 := lookE hA9 2 (es rfl (es rfl (es rfl (es rfl (es rfl (es rfl (es rfl (es rfl (es rfl (es rfl (es rfl l2_4)))))))))))
    have l3_9 := lookE hA9 3 (es rfl (es rfl (es rfl (es rfl (es rfl (es rfl (es rfl (es rfl (es rfl (es rfl (es rfl l3_4)))))))))))
    have l4_9 := lookE hA9 4 (es rfl (es rfl (es rfl (es rfl (es rfl (es rfl (es rfl (es rfl (es rfl (es rfl (es rfl l4_4)))))))))))
    have l34_9 := lookE hA9 34 (et rfl)
    clear hA9 hsz4 hdf4 l2_4 l3_4 l4_4
    refine then_n (hK6 _ _ ?_)
    clear hK6
    refine cond_t l34_9 ?_
    refine wp_seq_k (fun K10 hK10 => ?_)
    -- region 2
    refine region_in ?_
    refine W_call rfl rfl rfl Try.func12 (by kernel_rfl) rfl (args0) (awake_c  ) ?_
    rintro _ w11 ⟨rfl, hP11⟩
    refine ⟨_, rfl, ?_⟩
    have hS11 := hS7.join hP11
    replace hS11 : St w NoX [c3, c2] w11 := hS11
    refine W_v rfl rfl (V_asg rfl (et rfl)) ?_
    refine W_end ?_
    refine gen_Q (fun A12 hA12 => ?_)
    have hsz12 : SzN A12 160 := by rw [hA12]; infer_instance
    have hdf12 : A12.defers = [] := by rw [hA12]; simp only [df_put]; exact hdf9
    have l6_12 := lookE hA12 6 (et rfl)
    clear hA12 hsz9 hdf9 l2_9 l3_9 l4_9 l34_9
    have hS13 : St w NoX [] w11 := hS11.sel [] (by decide) rfl
    refine then_n (hK10 _ _ ?_)
    clear hK10
    refine wp_ret ?_
    refine then_ret ?_
    refine ret_in (results_1 Try.results9 (rv_tmp l6_12)) hdf12 ?_
    -- leaf T
    exact ⟨rfl, hS13.fin0⟩
  · skip
    refine W_r rfl (wanted_t rfl rfl (et rfl) (ez rfl)) (VR_ldA rfl (es rfl (es rfl (es rfl l4_4))) (hS7.obj 0 rfl hc3) Try.underlying24 rfl (by kernel_rfl)) ?_
    refine W_call rfl (wanted_t rfl rfl (es rfl (et rfl)) (ez rfl)) rfl Try.func11 (by kernel_rfl) rfl (args1 (et rfl)) (far_c (hS7.roC h_dv) ) ?_
    rintro _ w14 ⟨rfl, hP14⟩
    refine ⟨_, rfl, ?_⟩
    have hS14 := hS7.join hP14
    replace hS14 : St w NoX [c3, c2] w14 := hS14
    refine W_v rfl rfl (V_pickF rfl (es rfl (es rfl (et rfl))) (et rfl)) ?_
    refine W_split rfl rfl (V_mov rfl (et rfl)) (fun c15 => ?_) (fun c15 => ?_)
    · skip
      refine W_off rfl (wanted_f rfl rfl (et rfl) (ez rfl) rfl) ?_
      refine W_off rfl (wanted_f rfl rfl (es rfl (et rfl)) (ez rfl) rfl) ?_
      refine W_off rfl (wanted_f rfl rfl (es rfl (es rfl (et rfl))) (ez rfl) rfl) ?_
      refine W_v rfl rfl (V_pickT rfl (es rfl (es rfl (es rfl (et rfl)))) rfl) ?_
      refine W_end ?_
      refine gen_Q (fun A16 hA16 => ?_)
      have hsz16 : SzN A16 160 := by rw [hA16]; infer_instance
      have hdf16 : A16.defers = [] := by rw [hA16]; simp only [df_put]; exact hdf4
      have l2_16 := lookE hA16 2 (es rfl (es rfl (es rfl (es rfl (es rfl (es rfl (es rfl (es rfl (es rfl (es rfl (es rfl l2_4)))))))))))
      have l3_16 := lookE hA16 3 (es rfl (es rfl (es rfl (es rfl (es rfl (es rfl (es rfl (es rfl (es rfl (es rfl (es rfl l3_4)))))))))))
      have l4_16 := lookE hA16 4 (es rfl (es rfl (es rfl (es rfl (es rfl (es rfl (es rfl (es rfl (es rfl (es rfl (es rfl l4_4)))))))))))
      have l34_16 := lookE hA16 34 (et rfl)
      clear hA16 hsz4 hdf4 l2_4 l3_4 l4_4
      refine then_n (hK6 _ _ ?_)
      clear hK6
      refine cond_t l34_16 ?_
      refine wp_seq_k (fun K17 hK17 => ?_)
      -- region 2
      refine region_in ?_
      refine W_call rfl rfl rfl Try.func12 (by kernel_rfl) rfl (args0) (awake_c  ) ?_
      rintro _ w18 ⟨rfl, hP18⟩
      refine ⟨_, rfl, ?_⟩
      have hS18 := hS14.join hP18
      replace hS18 : St w NoX [c3, c2] w18 := hS18
      refine W_v rfl rfl (V_asg rfl (et rfl)) ?_
      refine W_end ?_
      refine gen_Q (fun A19 hA19 => ?_)
      have hsz19 : SzN A19 160 := by rw [hA19]; infer_instance
      have hdf19 : A19.defers = [] := by rw [hA19]; simp only [df_put]; exact hdf16
      have l6_19 := lookE hA19 6 (et rfl)
      clear hA19 hsz16 hdf16 l2_16 l3_16 l4_16 l34_16
      have hS20 : St w NoX [] w18 := hS18.sel [] (by decide) rfl
      refine then_n (hK17 _ _ ?_)
      clear hK17
      refine wp_ret ?_
      refine then_ret ?_
      refine ret_in (results_1 Try.results9 (rv_tmp l6_19)) hdf19 ?_
      -- leaf FT
      exact ⟨rfl, hS20.fin0⟩
    · skip
      refine W_v rfl (wanted_t rfl rfl (et rfl) (ez rfl)) (V_mov rfl (es rfl (es rfl (es rfl (es rfl (es rfl (es rfl (es rfl l2_4)))))))) ?_
      refine W_v rfl (wanted_t rfl rfl (es rfl (et rfl)) (ez rfl)) (V_lenS rfl (et rfl) (sl_SlN h_lv.at) Try.underlying22) ?_
      refine W_v rfl (wanted_t rfl rfl (es rfl (es rfl (et rfl))) (ez rfl)) (V_gtr rfl (et rfl) rfl) ?_
      refine W_v rfl rfl (V_pickF rfl (es rfl (es rfl (es rfl (et rfl)))) (et rfl)) ?_
      refine W_end ?_
      refine gen_Q (fun A21 hA21 => ?_)
      have hsz21 : SzN A21 160 := by rw [hA21]; infer_instance
      have hdf21 : A21.defers = [] := by rw [hA21]; simp only [df_put]; exact hdf4
      have l2_21 := lookE hA21 2 (es rfl (es rfl (es rfl (es rfl (es rfl (es rfl (es rfl (es rfl (es rfl (es rfl (es rfl l2_4)))))))))))
      have l3_21 := lookE hA21 3 (es rfl (es rfl (es rfl (es rfl (es rfl (es rfl (es rfl (es rfl (es rfl (es rfl (es rfl l3_4)))))))))))
      have l4_21 := lookE hA21 4 (es rfl (es rfl (es rfl (es rfl (es rfl (es rfl (es rfl (es rfl (es rfl (es rfl (es rfl l4_4)))))))))))
      have l34_21 := lookE hA21 34 (et rfl)
      clear hA21 hsz4 hdf4 l2_4 l3_4 l4_4
      refine then_n (hK6 _ _ ?_)
      clear hK6
      refine cond_dec l34_21 (fun c22 => ?_) (fun c22 => ?_)
      · skip
        refine wp_seq_k (fun K23 hK23 => ?_)
        -- region 2
        refine region_in ?_
        refine W_call rfl rfl rfl Try.func12 (by kernel_rfl) rfl (args0) (awake_c  ) ?_
        rintro _ w24 ⟨rfl, hP24⟩
        refine ⟨_, rfl, ?_⟩
        have hS24 := hS14.join hP24
        replace hS24 : St w NoX [c3, c2] w24 := hS24
        refine W_v rfl rfl (V_asg rfl (et rfl)) ?_
        refine W_end ?_
        refine gen_Q (fun A25 hA25 => ?_)
        have hsz25 : SzN A25 160 := by rw [hA25]; infer_instance
        have hdf25 : A25.defers = [] := by rw [hA25]; simp only [df_put]; exact hdf21
        have l6_25 := lookE hA25 6 (et rfl)
        clear hA25 hsz21 hdf21 l2_21 l3_21 l4_21 l34_21
        have hS26 : St w NoX [] w24 := hS24.sel [] (by decide) rfl
        refine then_n (hK23 _ _ ?_)
        clear hK23
        refine wp_ret ?_
        refine then_ret ?_
        refine ret_in (results_1 Try.results9 (rv_tmp l6_25)) hdf25 ?_
        -- leaf FFT
        exact ⟨rfl, hS26.fin0⟩
      · skip
        refine wp_skip ?_
        refine then_n (hK5 _ _ ?_)
        clear hK5
        refine wp_seq_k (fun K27 hK27 => ?_)
        -- region 3
        refine region_in ?_
        refine W_v rfl rfl (V_mov rfl l2_21) ?_
        refine W_call rfl rfl rfl Try.func20 (by kernel_rfl) rfl (args1 (et rfl)) (kOf_c (hS14.roC h_lv) ) ?_
        rintro _ w28 ⟨v_28, rfl, hP28⟩
        refine ⟨_, rfl, ?_⟩
        obtain ⟨c_28, hc_28, hP28⟩ := gen1 hP28
        have hS28 := hS14.join hP28
        replace hS28 : St w NoX [c_28, c3, c2] w28 := hS28
        refine W_v rfl rfl (V_mov rfl (et rfl)) ?_
        refine W_v rfl rfl (V_ext (v := .agg #[v_28]) rfl (et rfl) rfl) ?_
        refine W_v rfl rfl (V_ext (v := .int .i64 ((ofE l))) rfl (es rfl (et rfl)) rfl) ?_
        refine W_allocS (z := .agg #[.slice none 0 0]) (zs := #[.slice none 0 0]) hS28 rfl rfl rfl (by kernel_rfl) (by rfl) (fun g29 w29 c29 hc29 hS29 => ?_)
        replace hS29 : St w NoX [c29, c_28, c3, c2] w29 := hS29
        refine W_stAS 0 hS29 rfl hc29 rfl rfl rfl (et rfl) (es rfl (es rfl (et rfl))) (by simp only [List.all_toArray, List.all_cons, List.all_nil, SlN_one (ow_at (hS29.chq 1 rfl hc_28))] <;> rfl) (by rfl) (by kernel_rfl) (fun w30 c30 hc30 hS30 => ?_)
        replace hS30 : St w NoX [c30, c_28, c3, c2] w30 := hS30
        refine W_v rfl rfl (V_asg rfl (es rfl (et rfl))) ?_
        refine W_end ?_
        refine gen_Q (fun A31 hA31 => ?_)
        have hsz31 : SzN A31 160 := by rw [hA31]; infer_instance
        have hdf31 : A31.defers = [] := by rw [hA31]; simp only [df_put]; exact hdf21
        have l3_31 := lookE hA31 3 (es rfl (es rfl (es rfl (es rfl (es rfl (es rfl (es rfl l3_21)))))))
        have l4_31 := lookE hA31 4 (es rfl (es rfl (es rfl (es rfl (es rfl (es rfl (es rfl l4_21)))))))
        have l7_31 := lookE hA31 7 (es rfl (et rfl))
        have l8_31 := lookE hA31 8 (et rfl)
        clear hA31 hsz21 hdf21 l2_21 l3_21 l4_21 l34_21
        refine then_n (hK27 _ _ ?_)
        clear hK27
        refine wp_seq_k (fun K32 hK32 => ?_)
        refine wp_seq_k (fun K33 hK33 => ?_)
        -- region 4
        refine region_in ?_
        refine W_v rfl rfl (V_mov rfl l8_31) ?_
        refine W_v rfl rfl (V_eql rfl (et rfl) rfl) ?_
        refine W_end ?_
        refine gen_Q (fun A34 hA34 => ?_)
        have hsz34 : SzN A34 160 := by rw [hA34]; infer_instance
        have hdf34 : A34.defers = [] := by rw [hA34]; simp only [df_put]; exact hdf31
        have l3_34 := lookE hA34 3 (es rfl (es rfl l3_31))
        have l4_34 := lookE hA34 4 (es rfl (es rfl l4_31))
        have l7_34 := lookE hA34 7 (es rfl (es rfl l7_31))
        have l42_34 := lookE hA34 42 (et rfl)
        clear hA34 hsz31 hdf31 l3_31 l4_31 l7_31 l8_31
        refine then_n (hK33 _ _ ?_)
        clear hK33
        refine cond_dec l42_34 (fun c35 => ?_) (fun c35 => ?_)
        · skip
          have hof := of_good c35
          have hob := adr_usd (ofT l)
          have hou := usd_le (ofT l)
          have hoq := hof.2.2.2.1
          have hog := hof.2.1.bd
          refine wp_seq_k (fun K36 hK36 => ?_)
          -- region 5
          refine region_in ?_
          refine W_r rfl rfl (VR_ldA rfl l7_34 (hS30.obj 0 rfl hc30) Try.underlying24 rfl (by kernel_rfl)) ?_
          refine W_call rfl rfl rfl Try.func28 (by kernel_rfl) rfl (args1 (et rfl)) (kLen_c (hS30.chC 1 rfl hc_28).own ) ?_
          rintro _ w37 ⟨rfl, hP37⟩
          refine ⟨_, rfl, ?_⟩
          have hS37 := hS30.join hP37
          replace hS37 : St w NoX [c30, c_28, c3, c2] w37 := hS37
          refine W_v rfl rfl (V_mov rfl (et rfl)) ?_
          refine W_v rfl rfl (V_ext (v := .int .i64 ((lnN (ofT l)))) rfl (et rfl) rfl) ?_
          refine W_v rfl rfl (V_ext (v := .int .i64 ((ckS (ofT l)).2)) rfl (es rfl (et rfl)) rfl) ?_
          refine W_v rfl rfl (V_asg rfl (es rfl (et rfl))) ?_
          refine W_v rfl rfl (V_asg rfl (es rfl (et rfl))) ?_
          refine W_end ?_
          refine gen_Q (fun A38 hA38 => ?_)
          have hsz38 : SzN A38 160 := by rw [hA38]; infer_instance
          have hdf38 : A38.defers = [] := by rw [hA38]; simp only [df_put]; exact hdf34
          have l3_38 := lookE hA38 3 (es rfl (es rfl (es rfl (es rfl (es rfl (es rfl (es rfl l3_34)))))))
          have l4_38 := lookE hA38 4 (es rfl (es rfl (es rfl (es rfl (es rfl (es rfl (es rfl l4_34)))))))
          have l7_38 := lookE hA38 7 (es rfl (es rfl (es rfl (es rfl (es rfl (es rfl (es rfl l7_34)))))))
          have l9_38 := lookE hA38 9 (es rfl (et rfl))
          have l10_38 := lookE hA38 10 (et rfl)
          clear hA38 hsz34 hdf34 l3_34 l4_34 l7_34 l42_34
          refine then_n (hK36 _ _ ?_)
          clear hK36
          refine wp_seq_k (fun K39 hK39 => ?_)
          -- region 6
          refine region_in ?_
          refine W_r rfl rfl (VR_ldA rfl l7_38 (hS37.obj 0 rfl hc30) Try.underlying24 rfl (by kernel_rfl)) ?_
          refine W_call rfl rfl rfl Try.func27 (by kernel_rfl) rfl (args1 (et rfl)) (qCk_c (hS37.chC 1 rfl hc_28).own ) ?_
          rintro _ w40 ⟨rfl, hP40⟩
          refine ⟨_, rfl, ?_⟩
          have hS40 := hS37.join hP40
          replace hS40 : St w NoX [c30, c_28, c3, c2] w40 := hS40
          refine W_v rfl rfl (V_mov rfl (et rfl)) ?_
          refine W_v rfl rfl (V_ext (v := .int .i64 ((ckS (ofT l)).1)) rfl (et rfl) rfl) ?_
          refine W_v rfl rfl (V_ext (v := .int .i64 ((ckS (ofT l)).2)) rfl (es rfl (et rfl)) rfl) ?_
          refine W_v rfl rfl (V_asg rfl (es rfl (et rfl))) ?_
          refine W_v rfl rfl (V_asg rfl (es rfl (et rfl))) ?_
          refine W_end ?_
          refine gen_Q (fun A41 hA41 => ?_)
          have hsz41 : SzN A41 160 := by rw [hA41]; infer_instance
          have hdf41 : A41.defers = [] := by rw [hA41]; simp only [df_put]; exact hdf38
          have l3_41 := lookE hA41 3 (es rfl (es rfl (es rfl (es rfl (es rfl (es rfl (es rfl l3_38)))))))
          have l4_41 := lookE hA41 4 (es rfl (es rfl (es rfl (es rfl (es rfl (es rfl (es rfl l4_38)))))))
          have l7_41 := lookE hA41 7 (es rfl (es rfl (es rfl (es rfl (es rfl (es rfl (es rfl l7_38)))))))
          have l9_41 := lookE hA41 9 (es rfl (es rfl (es rfl (es rfl (es rfl (es rfl (es rfl l9_38)))))))
          have l10_41 := lookE hA41 10 (es rfl (es rfl (es rfl (es rfl (es rfl (es rfl (es rfl l10_38)))))))
          have l12_41 := lookE hA41 12 (et rfl)
          clear hA41 hsz38 hdf38 l3_38 l4_38 l7_38 l9_38 l10_38
          refine then_n (hK39 _ _ ?_)
          clear hK39
          refine wp_seq_k (fun K42 hK42 => ?_)
          -- region 7
          refine region_in ?_
          refine W_v rfl rfl (V_mov rfl l10_41) ?_
          refine W_v rfl rfl (V_neq rfl (et rfl) rfl) ?_
          refine W_sure (c' := false) rfl rfl (V_mov rfl (et rfl)) (by rw [decide_eq_false_iff_not]; rw [hof.2.2.1]; simp) ?_
          refine W_v rfl (wanted_t rfl rfl (et rfl) (ez rfl)) (V_mov rfl (es rfl (es rfl (es rfl l12_41)))) ?_
          refine W_v rfl (wanted_t rfl rfl (es rfl (et rfl)) (ez rfl)) (V_neq rfl (et rfl) rfl) ?_
          refine W_v rfl rfl (V_pickF rfl (es rfl (es rfl (et rfl))) (et rfl)) ?_
          refine W_sure (c' := false) rfl rfl (V_mov rfl (et rfl)) (by rw [decide_eq_false_iff_not]; rw [hof.2.2.1]; simp) ?_
          refine W_v rfl (wanted_t rfl rfl (et rfl) (ez rfl)) (V_fa (off' := 0) rfl (es rfl (es rfl (es rfl (es rfl (es rfl (es rfl (es rfl l7_41))))))) Try.underlying24 rfl (by decide +kernel) rfl) ?_
          refine W_r rfl (wanted_t rfl rfl (es rfl (et rfl)) (ez rfl)) (VR_ldC rfl (et rfl) (cell_box (v := v_28) (hS40.obj 0 rfl hc30) rfl) Try.underlying22 rfl) ?_
          refine W_v rfl (wanted_t rfl rfl (es rfl (es rfl (et rfl))) (ez rfl)) (V_lenS rfl (et rfl) (ow_at (hS40.chq 1 rfl hc_28)) Try.underlying22) ?_
          refine W_v rfl (wanted_t rfl rfl (es rfl (es rfl (es rfl (et rfl)))) (ez rfl)) (V_neq rfl (et rfl) rfl) ?_
          refine W_split rfl (wanted_t rfl rfl (es rfl (es rfl (es rfl (es rfl (et rfl))))) (ez rfl)) (V_mov rfl (et rfl)) (fun c43 => ?_) (fun c43 => ?_)
          · skip
            refine W_v rfl (wanted_t rfl rfl (et rfl) (ez rfl)) (V_fa (off' := 0) rfl (es rfl (es rfl (es rfl (es rfl (es rfl (es rfl (es rfl (es rfl (es rfl (es rfl (es rfl (es rfl l7_41)))))))))))) Try.underlying24 rfl (by decide +kernel) rfl) ?_
            refine W_r rfl (wanted_t rfl rfl (es rfl (et rfl)) (ez rfl)) (VR_ldC rfl (et rfl) (cell_box (v := v_28) (hS40.obj 0 rfl hc30) rfl) Try.underlying22 rfl) ?_
            refine W_v rfl (wanted_t rfl rfl (es rfl (es rfl (et rfl))) (ez rfl)) (V_lenS rfl (et rfl) (ow_at (hS40.chq 1 rfl hc_28)) Try.underlying22) ?_
            refine W_v rfl (wanted_t rfl rfl (es rfl (es rfl (es rfl (et rfl)))) (ez rfl)) (V_mul rfl rfl (et rfl) (by omega) (by omega)) ?_
            refine W_v rfl (wanted_t rfl rfl (es rfl (es rfl (es rfl (es rfl (et rfl))))) (ez rfl)) (V_mov rfl (es rfl (es rfl (es rfl (es rfl (es rfl (es rfl (es rfl (es rfl (es rfl (es rfl (es rfl (es rfl (es rfl (es rfl (es rfl (es rfl l9_41))))))))))))))))) ?_
            refine W_v rfl (wanted_t rfl rfl (es rfl (es rfl (es rfl (es rfl (es rfl (et rfl)))))) (ez rfl)) (V_mul rfl rfl (et rfl) (by omega) (by omega)) ?_
            refine W_v rfl (wanted_t rfl rfl (es rfl (es rfl (es rfl (es rfl (es rfl (es rfl (et rfl))))))) (ez rfl)) (V_geq rfl (es rfl (es rfl (et rfl))) (et rfl)) ?_
            refine W_v rfl (wanted_t rfl rfl (es rfl (es rfl (es rfl (es rfl (es rfl (es rfl (es rfl (es rfl (es rfl (es rfl (es rfl (es rfl (et rfl))))))))))))) (ez rfl)) (V_pickT rfl (es rfl (es rfl (es rfl (es rfl (es rfl (es rfl (es rfl (et rfl)))))))) (et rfl)) ?_
            refine W_v rfl rfl (V_pickF rfl (es rfl (es rfl (es rfl (es rfl (es rfl (es rfl (es rfl (es rfl (es rfl (es rfl (es rfl (es rfl (es rfl (et rfl)))))))))))))) (et rfl)) ?_
            refine W_end ?_
            refine gen_Q (fun A44 hA44 => ?_)
            have hsz44 : SzN A44 160 := by rw [hA44]; infer_instance
            have hdf44 : A44.defers = [] := by rw [hA44]; simp only [df_put]; exact hdf41
            have l3_44 := lookE hA44 3 (es rfl (es rfl (es rfl (es rfl (es rfl (es rfl (es rfl (es rfl (es rfl (es rfl (es rfl (es rfl (es rfl (es rfl (es rfl (es rfl (es rfl (es rfl (es rfl (es rfl (es rfl l3_41)))))))))))))))))))))
            have l4_44 := lookE hA44 4 (es rfl (es rfl (es rfl (es rfl (es rfl (es rfl (es rfl (es rfl (es rfl (es rfl (es rfl (es rfl (es rfl (es rfl (es rfl (es rfl (es rfl (es rfl (es rfl (es rfl (es rfl l4_41)))))))))))))))))))))
            have l73_44 := lookE hA44 73 (et rfl)
            clear hA44 hsz41 hdf41 l3_41 l4_41 l7_41 l9_41 l10_41 l12_41
            have hS45 : St w NoX [c3, c2] w40 := hS40.sel [2, 3] (by decide) rfl
            refine then_n (hK42 _ _ ?_)
            clear hK42
            refine cond_not l73_44 (by rw [decide_eq_false_iff_not]; have q1 := hof.2.2.2.1; have q2 := hof.2.2.2.2.1; omega) ?_
            refine wp_skip ?_
            refine then_n (hK32 _ _ ?_)
            clear hK32
            refine wp_seq_k (fun K46 hK46 => ?_)
            -- region 9
            refine region_in ?_
            refine W_r rfl rfl (VR_ldA rfl l3_44 (hS45.obj 1 rfl hc2) Try.underlying24 rfl (by kernel_rfl)) ?_
            refine W_r rfl rfl (VR_ldA rfl (es rfl l4_44) (hS45.obj 0 rfl hc3) Try.underlying24 rfl (by kernel_rfl)) ?_
            refine W_call rfl rfl rfl Try.func22 (by kernel_rfl) rfl (args2 (es rfl (et rfl)) (et rfl)) (kJoin_c (hS45.roC h_cv) (hS45.roC h_dv) ) ?_
            rintro _ w47 ⟨v_47, rfl, hP47⟩
            refine ⟨_, rfl, ?_⟩
            obtain ⟨c_47, hc_47, hP47⟩ := gen1 hP47
            have hS47 := hS45.join hP47
            replace hS47 : St w NoX [c_47, c3, c2] w47 := hS47
            refine W_v rfl rfl (V_mov rfl (et rfl)) ?_
            refine W_v rfl rfl (V_ext (v := .agg #[v_47]) rfl (et rfl) rfl) ?_
            refine W_v rfl rfl (V_ext (v := .int .i64 ((jnE c d))) rfl (es rfl (et rfl)) rfl) ?_
            refine W_allocS (z := .agg #[.slice none 0 0]) (zs := #[.slice none 0 0]) hS47 rfl rfl rfl (by kernel_rfl) (by rfl) (fun g48 w48 c48 hc48 hS48 => ?_)
            replace hS48 : St w NoX [c48, c_47, c3, c2] w48 := hS48
            refine W_stAS 0 hS48 rfl hc48 rfl rfl rfl (et rfl) (es rfl (es rfl (et rfl))) (by simp only [List.all_toArray, List.all_cons, List.all_nil, SlN_one (ow_at (hS48.chq 1 rfl hc_47))] <;> rfl) (by rfl) (by kernel_rfl) (fun w49 c49 hc49 hS49 => ?_)
            replace hS49 : St w NoX [c49, c_47, c3, c2] w49 := hS49
            refine W_v rfl rfl (V_asg rfl (es rfl (et rfl))) ?_
            refine W_end ?_
            refine gen_Q (fun A50 hA50 => ?_)
            have hsz50 : SzN A50 160 := by rw [hA50]; infer_instance
            have hdf50 : A50.defers = [] := by rw [hA50]; simp only [df_put]; exact hdf44
            have l3_50 := lookE hA50 3 (es rfl (es rfl (es rfl (es rfl (es rfl (es rfl (es rfl (es rfl l3_44))))))))
            have l8_50 := lookE hA50 8 (et rfl)
            have l13_50 := lookE hA50 13 (es rfl (et rfl))
            clear hA50 hsz44 hdf44 l3_44 l4_44 l73_44
            have hS51 : St w NoX [c49, c_47, c2] w49 := hS49.sel [0, 1, 3] (by decide) rfl
            refine then_n (hK46 _ _ ?_)
            clear hK46
            refine wp_seq_k (fun K52 hK52 => ?_)
            refine wp_seq_k (fun K53 hK53 => ?_)
            -- region 10
            refine region_in ?_
            refine W_v rfl rfl (V_mov rfl l8_50) ?_
            refine W_v rfl rfl (V_eql rfl (et rfl) rfl) ?_
            refine W_end ?_
            refine gen_Q (fun A54 hA54 => ?_)
            have hsz54 : SzN A54 160 := by rw [hA54]; infer_instance
            have hdf54 : A54.defers = [] := by rw [hA54]; simp only [df_put]; exact hdf50
            have l3_54 := lookE hA54 3 (es rfl (es rfl l3_50))
            have l13_54 := lookE hA54 13 (es rfl (es rfl l13_50))
            have l81_54 := lookE hA54 81 (et rfl)
            clear hA54 hsz50 hdf50 l3_50 l8_50 l13_50
            refine then_n (hK53 _ _ ?_)
            clear hK53
            refine cond_dec l81_54 (fun c55 => ?_) (fun c55 => ?_)
            · skip
              have hjn := jn_good c55
              refine wp_seq_k (fun K56 hK56 => ?_)
              -- region 11
              refine region_in ?_
              refine W_r rfl rfl (VR_ldA rfl l13_54 (hS51.obj 0 rfl hc49) Try.underlying24 rfl (by kernel_rfl)) ?_
              refine W_call rfl rfl rfl Try.func27 (by kernel_rfl) rfl (args1 (et rfl)) (qCk_c (hS51.chC 1 rfl hc_47).own ) ?_
              rintro _ w57 ⟨rfl, hP57⟩
              refine ⟨_, rfl, ?_⟩
              have hS57 := hS51.join hP57
              replace hS57 : St w NoX [c49, c_47, c2] w57 := hS57
              refine W_v rfl rfl (V_mov rfl (et rfl)) ?_
              refine W_v rfl rfl (V_ext (v := .int .i64 ((ckS (jnT c d)).1)) rfl (et rfl) rfl) ?_
              refine W_v rfl rfl (V_ext (v := .int .i64 ((ckS (jnT c d)).2)) rfl (es rfl (et rfl)) rfl) ?_
              refine W_v rfl rfl (V_asg rfl (es rfl (et rfl))) ?_
              refine W_v rfl rfl (V_asg rfl (es rfl (et rfl))) ?_
              refine W_end ?_
              refine gen_Q (fun A58 hA58 => ?_)
              have hsz58 : SzN A58 160 := by rw [hA58]; infer_instance
              have hdf58 : A58.defers = [] := by rw [hA58]; simp only [df_put]; exact hdf54
              have l3_58 := lookE hA58 3 (es rfl (es rfl (es rfl (es rfl (es rfl (es rfl (es rfl l3_54)))))))
              have l15_58 := lookE hA58 15 (et rfl)
              clear hA58 hsz54 hdf54 l3_54 l13_54 l81_54
              have hS59 : St w NoX [c2] w57 := hS57.sel [2] (by decide) rfl
              refine then_n (hK56 _ _ ?_)
              clear hK56
              refine wp_seq_k (fun K60 hK60 => ?_)
              -- region 12
              refine region_in ?_
              refine W_v rfl rfl (V_mov rfl l15_58) ?_
              refine W_v rfl rfl (V_neq rfl (et rfl) rfl) ?_
              refine W_end ?_
              refine gen_Q (fun A61 hA61 => ?_)
              have hsz61 : SzN A61 160 := by rw [hA61]; infer_instance
              have hdf61 : A61.defers = [] := by rw [hA61]; simp only [df_put]; exact hdf58
              have l3_61 := lookE hA61 3 (es rfl (es rfl l3_58))
              have l88_61 := lookE hA61 88 (et rfl)
              clear hA61 hsz58 hdf58 l3_58 l15_58
              refine then_n (hK60 _ _ ?_)
              clear hK60
              refine cond_not l88_61 (by rw [decide_eq_false_iff_not]; rw [hjn.2.2.2.2.1]; simp) ?_
              refine wp_skip ?_
              refine then_n (hK52 _ _ ?_)
              clear hK52
              refine wp_seq_k (fun K62 hK62 => ?_)
              -- region 14
              refine region_in ?_
              refine W_r rfl rfl (VR_ldA rfl l3_61 (hS59.obj 0 rfl hc2) Try.underlying24 rfl (by kernel_rfl)) ?_
              refine W_call rfl rfl rfl Try.func26 (by kernel_rfl) rfl (args1 (et rfl)) (kCk_c (hS59.roC h_cv) ) ?_
              rintro _ w63 ⟨rfl, hP63⟩
              refine ⟨_, rfl, ?_⟩
              have hS63 := hS59.join hP63
              replace hS63 : St w NoX [c2] w63 := hS63
              refine W_v rfl rfl (V_mov rfl (et rfl)) ?_
              refine W_v rfl rfl (V_ext (v := .int .i64 ((ckS c).1)) rfl (et rfl) rfl) ?_
              refine W_v rfl rfl (V_ext (v := .int .i64 ((ckS c).2)) rfl (es rfl (et rfl)) rfl) ?_
              refine W_v rfl rfl (V_asg rfl (es rfl (et rfl))) ?_
              refine W_v rfl rfl (V_asg rfl (es rfl (et rfl))) ?_
              refine W_end ?_
              refine gen_Q (fun A64 hA64 => ?_)
              have hsz64 : SzN A64 160 := by rw [hA64]; infer_instance
              have hdf64 : A64.defers = [] := by rw [hA64]; simp only [df_put]; exact hdf61
              have l3_64 := lookE hA64 3 (es rfl (es rfl (es rfl (es rfl (es rfl (es rfl (es rfl l3_61)))))))
              have l17_64 := lookE hA64 17 (et rfl)
              clear hA64 hsz61 hdf61 l3_61 l88_61
              refine then_n (hK62 _ _ ?_)
              clear hK62
              refine wp_seq_k (fun K65 hK65 => ?_)
              refine wp_seq_k (fun K66 hK66 => ?_)
              -- region 15
              refine region_in ?_
              refine W_v rfl rfl (V_mov rfl l17_64) ?_
              refine W_v rfl rfl (V_neq rfl (et rfl) rfl) ?_
              refine W_end ?_
              refine gen_Q (fun A67 hA67 => ?_)
              have hsz67 : SzN A67 160 := by rw [hA67]; infer_instance
              have hdf67 : A67.defers = [] := by rw [hA67]; simp only [df_put]; exact hdf64
              have l3_67 := lookE hA67 3 (es rfl (es rfl l3_64))
              have l95_67 := lookE hA67 95 (et rfl)
              clear hA67 hsz64 hdf64 l3_64 l17_64
              refine then_n (hK66 _ _ ?_)
              clear hK66
              refine cond_dec l95_67 (fun c68 => ?_) (fun c68 => ?_)
              · skip
                refine wp_seq_k (fun K69 hK69 => ?_)
                -- region 16
                refine region_in ?_
                refine W_call rfl rfl rfl Try.func12 (by kernel_rfl) rfl (args0) (awake_c  ) ?_
                rintro _ w70 ⟨rfl, hP70⟩
                refine ⟨_, rfl, ?_⟩
                have hS70 := hS63.join hP70
                replace hS70 : St w NoX [c2] w70 := hS70
                refine W_v rfl rfl (V_asg rfl (et rfl)) ?_
                refine W_end ?_
                refine gen_Q (fun A71 hA71 => ?_)
                have hsz71 : SzN A71 160 := by rw [hA71]; infer_instance
                have hdf71 : A71.defers = [] := by rw [hA71]; simp only [df_put]; exact hdf67
                have l6_71 := lookE hA71 6 (et rfl)
                clear hA71 hsz67 hdf67 l3_67 l95_67
                have hS72 : St w NoX [] w70 := hS70.sel [] (by decide) rfl
                refine then_n (hK69 _ _ ?_)
                clear hK69
                refine wp_ret ?_
                refine then_ret ?_
                refine ret_in (results_1 Try.results9 (rv_tmp l6_71)) hdf71 ?_
                -- leaf FFFTTTT
                exact ⟨rfl, hS72.fin0⟩
              · skip
                have hck : (ckS c).2 = 0 := by simpa using c68
                refine wp_skip ?_
                refine then_n (hK65 _ _ ?_)
                clear hK65
                refine wp_seq_k (fun K73 hK73 => ?_)
                -- region 17
                refine region_in ?_
                refine W_r rfl rfl (VR_ldA rfl l3_67 (hS63.obj 0 rfl hc2) Try.underlying24 rfl (by kernel_rfl)) ?_
                refine W_call rfl rfl rfl Try.func24 (by kernel_rfl) rfl (args3 (et rfl) rfl rfl) (kPurge_c (f := 1) (t := 1601) (hS63.roC h_cv) ) ?_
                rintro _ w74 ⟨v_74, rfl, hP74⟩
                refine ⟨_, rfl, ?_⟩
                obtain ⟨c_74, hc_74, hP74⟩ := gen1 hP74
                have hS74 := hS63.join hP74
                replace hS74 : St w NoX [c_74, c2] w74 := hS74
                refine W_v rfl rfl (V_mov rfl (et rfl)) ?_
                refine W_v rfl rfl (V_ext (v := .agg #[v_74]) rfl (et rfl) rfl) ?_
                refine W_v rfl rfl (V_ext (v := .int .i64 ((pgN c 1 1601))) rfl (es rfl (et rfl)) rfl) ?_
                refine W_v rfl rfl (V_ext (v := .int .i64 ((ckS c).2)) rfl (es rfl (es rfl (et rfl))) rfl) ?_
                refine W_allocS (z := .agg #[.slice none 0 0]) (zs := #[.slice none 0 0]) hS74 rfl rfl rfl (by kernel_rfl) (by rfl) (fun g75 w75 c75 hc75 hS75 => ?_)
                replace hS75 : St w NoX [c75, c_74, c2] w75 := hS75
                refine W_stAS 0 hS75 rfl hc75 rfl rfl rfl (et rfl) (es rfl (es rfl (es rfl (et rfl)))) (by simp only [List.all_toArray, List.all_cons, List.all_nil, SlN_one (ow_at (hS75.chq 1 rfl hc_74))] <;> rfl) (by rfl) (by kernel_rfl) (fun w76 c76 hc76 hS76 => ?_)
                replace hS76 : St w NoX [c76, c_74, c2] w76 := hS76
                refine W_v rfl rfl (V_asg rfl (es rfl (es rfl (et rfl)))) ?_
                refine W_v rfl rfl (V_asg rfl (es rfl (es rfl (et rfl)))) ?_
                refine W_end ?_
                refine gen_Q (fun A77 hA77 => ?_)
                have hsz77 : SzN A77 160 := by rw [hA77]; infer_instance
                have hdf77 : A77.defers = [] := by rw [hA77]; simp only [df_put]; exact hdf67
                have l3_77 := lookE hA77 3 (es rfl (es rfl (es rfl (es rfl (es rfl (es rfl (es rfl (es rfl (es rfl l3_67)))))))))
                have l18_77 := lookE hA77 18 (es rfl (es rfl (et rfl)))
                have l20_77 := lookE hA77 20 (et rfl)
                clear hA77 hsz67 hdf67 l3_67 l95_67
                refine then_n (hK73 _ _ ?_)
                clear hK73
                refine wp_seq_k (fun K78 hK78 => ?_)
                refine wp_seq_k (fun K79 hK79 => ?_)
                -- region 18
                refine region_in ?_
                refine W_v rfl rfl (V_asg rfl rfl) ?_
                refine W_end ?_
                refine gen_Q (fun A80 hA80 => ?_)
                have hsz80 : SzN A80 160 := by rw [hA80]; infer_instance
                have hdf80 : A80.defers = [] := by rw [hA80]; simp only [df_put]; exact hdf77
                have l3_80 := lookE hA80 3 (es rfl l3_77)
                have l18_80 := lookE hA80 18 (es rfl l18_77)
                have l20_80 := lookE hA80 20 (es rfl l20_77)
                have l21_80 := lookE hA80 21 (et rfl)
                clear hA80 hsz77 hdf77 l3_77 l18_77 l20_77
                refine then_n (hK79 _ _ ?_)
                clear hK79
                refine wp_block ?_
                -- loop 19
                refine loopX (fun mz A' w' => SzN A' 160 ∧ A'.defers = [] ∧ (∃ (i : Nat) (x : List Int) (tv : Value) (g : Int), (mz = 40 - i) ∧ (i ≤ 40) ∧ (Zr c.length x) ∧ (g = 0) ∧ (EV A' (.tmp 21) = .int .i64 (i : Int)) ∧ (EV A' (.tmp 20) = .int .i64 g) ∧ (EV A' (.tmp 3) = EV A80 (.tmp 3)) ∧ (EV A' (.tmp 18) = EV A80 (.tmp 18)) ∧ (St w NoX [bx g75 24 #[tv], io .i64 tv x, bx g2 24 #[cv]] w'))) (40 - 0) ⟨hsz80, hdf80, 0, (pgT c 1 1601), v_74, (ckS c).2, rfl, (by omega), (zr_purge hck), hck, ((l21_80).trans (by first | rfl | (simp; done) | (congr 1; omega))), ((l20_80).trans (by first | rfl | (simp; done) | (congr 1; omega))), rfl, rfl, (by have q0 := hc76; have q1 : c_74 = io .i64 v_74 (pgT c 1 1601) := hc_74.trans (rfl); have q2 := hc2; subst q0 q1 q2; exact hS76)⟩ ?_
                clear hS76 hc76 hc_74 hc2
                rintro n81 A81 w81 ⟨hsz81, hdf81, i, x, tv, g, hm81, hi, hzr, hg0, l21_81, l20_81, u3_81, u18_81, hS81⟩
                have l3_81 := u3_81.trans l3_80
                have l18_81 := u18_81.trans l18_80
                obtain ⟨c76_81, c_81, c2_81, hc76_81, hc_81, hc2_81, hS81⟩ := gen3 hS81
                refine wp_seq_k (fun K82 hK82 => ?_)
                refine wp_seq_k (fun K83 hK83 => ?_)
                -- region 19
                refine region_in ?_
                refine W_v rfl rfl (V_mov rfl l21_81) ?_
                refine W_v rfl rfl (V_lss rfl (et rfl) rfl) ?_
                refine W_split rfl rfl (V_mov rfl (et rfl)) (fun c84 => ?_) (fun c84 => ?_)
                · skip
                  have hz := zr_cyc hzr (a := (((i : Int) * 17) % 50) + 1) (by omega)
                  refine W_v rfl (wanted_t rfl rfl (et rfl) (ez rfl)) (V_mov rfl (es rfl (es rfl (es rfl l20_81)))) ?_
                  refine W_v rfl (wanted_t rfl rfl (es rfl (et rfl)) (ez rfl)) (V_eql rfl (et rfl) rfl) ?_
                  refine W_v rfl rfl (V_pickT rfl (es rfl (es rfl (et rfl))) (et rfl)) ?_
                  refine W_end ?_
                  refine gen_Q (fun A85 hA85 => ?_)
                  have hsz85 : SzN A85 160 := by rw [hA85]; infer_instance
                  have hdf85 : A85.defers = [] := by rw [hA85]; simp only [df_put]; exact hdf81
                  have l3_85 := lookE hA85 3 (es rfl (es rfl (es rfl (es rfl (es rfl (es rfl l3_81))))))
                  have l18_85 := lookE hA85 18 (es rfl (es rfl (es rfl (es rfl (es rfl (es rfl l18_81))))))
                  have l20_85 := lookE hA85 20 (es rfl (es rfl (es rfl (es rfl (es rfl (es rfl l20_81))))))
                  have l21_85 := lookE hA85 21 (es rfl (es rfl (es rfl (es rfl (es rfl (es rfl l21_81))))))
                  have l106_85 := lookE hA85 106 (es rfl (es rfl (et rfl)))
                  have l107_85 := lookE hA85 107 (es rfl (et rfl))
                  have l108_85 := lookE hA85 108 (et rfl)
                  clear hA85 hsz81 hdf81 l21_81 l20_81 l3_81 l18_81
                  refine then_n (hK83 _ _ ?_)
                  clear hK83
                  refine cond_sure l108_85 (by rw [decide_eq_true_eq]; exact hg0) ?_
                  refine wp_skip ?_
                  refine then_n (hK82 _ _ ?_)
                  clear hK82
                  refine wp_seq_k (fun K86 hK86 => ?_)
                  refine wp_block ?_
                  refine wp_seq_k (fun K87 hK87 => ?_)
                  -- region 21
                  refine region_in ?_
                  refine W_r rfl rfl (VR_ldA rfl l18_85 (hS81.obj 0 rfl hc76_81) Try.underlying24 rfl (by kernel_rfl)) ?_
                  refine W_v rfl rfl (V_mov rfl (es rfl l21_85)) ?_
                  refine W_v rfl rfl (V_mul rfl (et rfl) rfl (by omega) (by omega)) ?_
                  refine W_v rfl rfl (V_rem rfl (et rfl) rfl (by omega) (by omega) (wrap_i64 (by omega) (by omega))) ?_
                  refine W_v rfl rfl (V_add rfl (et rfl) rfl (by omega) (by omega)) ?_
                  refine W_call rfl rfl rfl Try.func15 (by kernel_rfl) rfl (args2 (es rfl (es rfl (es rfl (es rfl (et rfl))))) (et rfl)) (kAdd_c (a := ((((i : Int) * 17) % 50) + 1)) (hS81.chC 1 rfl hc_81).own ) ?_
                  rintro _ w88 ⟨v_88, rfl, hP88⟩
                  refine ⟨_, rfl, ?_⟩
                  obtain ⟨c_88, hc_88, hP88⟩ := gen1 hP88
                  have hS88 := hS81.join hP88
                  replace hS88 : St w NoX [c_88, c76_81, c_81, c2_81] w88 := hS88
                  refine W_v rfl rfl (V_mov rfl (et rfl)) ?_
                  refine W_v rfl rfl (V_ext (v := .agg #[v_88]) rfl (et rfl) rfl) ?_
                  refine W_v rfl rfl (V_ext (v := .bool ((adB x ((((i : Int) * 17) % 50) + 1)))) rfl (es rfl (et rfl)) rfl) ?_
                  refine W_v rfl rfl (V_ext (v := .int .i64 ((chE x ((((i : Int) * 17) % 50) + 1)))) rfl (es rfl (es rfl (et rfl))) rfl) ?_
                  refine W_stAS 1 hS88 rfl hc76_81 rfl rfl rfl (es rfl (es rfl (es rfl (es rfl (es rfl (es rfl (es rfl (es rfl (es rfl (es rfl l18_85)))))))))) (es rfl (es rfl (et rfl))) (by simp only [List.all_toArray, List.all_cons, List.all_nil, SlN_one (ow_at (hS88.chq 0 rfl hc_88))] <;> rfl) (by rfl) (by kernel_rfl) (fun w89 c89 hc89 hS89 => ?_)
                  replace hS89 : St w NoX [c_88, c89, c_81, c2_81] w89 := hS89
                  refine W_v rfl rfl (V_asg rfl (et rfl)) ?_
                  refine W_end ?_
                  refine gen_Q (fun A90 hA90 => ?_)
                  have hsz90 : SzN A90 160 := by rw [hA90]; infer_instance
                  have hdf90 : A90.defers = [] := by rw [hA90]; simp only [df_put]; exact hdf85
                  have l3_90 := lookE hA90 3 (es rfl (es rfl (es rfl (es rfl (es rfl (es rfl (es rfl (es rfl (es rfl (es rfl (es rfl l3_85)))))))))))
                  have l18_90 := lookE hA90 18 (es rfl (es rfl (es rfl (es rfl (es rfl (es rfl (es rfl (es rfl (es rfl (es rfl (es rfl l18_85)))))))))))
                  have l20_90 := lookE hA90 20 (et rfl)
                  have l21_90 := lookE hA90 21 (es rfl (es rfl (es rfl (es rfl (es rfl (es rfl (es rfl (es rfl (es rfl (es rfl (es rfl l21_85)))))))))))
                  have l106_90 := lookE hA90 106 (es rfl (es rfl (es rfl (es rfl (es rfl (es rfl (es rfl (es rfl (es rfl (es rfl (es rfl l106_85)))))))))))
                  have l107_90 := lookE hA90 107 (es rfl (es rfl (es rfl (es rfl (es rfl (es rfl (es rfl (es rfl (es rfl (es rfl (es rfl l107_85)))))))))))
                  clear hA90 hsz85 hdf85 l3_85 l18_85 l20_85 l21_85 l106_85 l107_85 l108_85
                  have hS91 : St w NoX [c_88, c89, c2_81] w89 := hS89.sel [0, 1, 3] (by decide) rfl
                  refine then_n (hK87 _ _ ?_)
                  clear hK87
                  refine wp_seq_k (fun K92 hK92 => ?_)
                  -- region 22
                  refine region_in ?_
                  refine W_v rfl rfl (V_mov rfl l20_90) ?_
                  refine W_v rfl rfl (V_eql rfl (et rfl) rfl) ?_
                  refine W_end ?_
                  refine gen_Q (fun A93 hA93 => ?_)
                  have hsz93 : SzN A93 160 := by rw [hA93]; infer_instance
                  have hdf93 : A93.defers = [] := by rw [hA93]; simp only [df_put]; exact hdf90
                  have l3_93 := lookE hA93 3 (es rfl (es rfl l3_90))
                  have l18_93 := lookE hA93 18 (es rfl (es rfl l18_90))
                  have l20_93 := lookE hA93 20 (es rfl (es rfl l20_90))
                  have l21_93 := lookE hA93 21 (es rfl (es rfl l21_90))
                  have l106_93 := lookE hA93 106 (es rfl (es rfl l106_90))
                  have l107_93 := lookE hA93 107 (es rfl (es rfl l107_90))
                  have l122_93 := lookE hA93 122 (et rfl)
                  clear hA93 hsz90 hdf90 l3_90 l18_90 l20_90 l21_90 l106_90 l107_90
                  refine then_n (hK92 _ _ ?_)
                  clear hK92
                  refine cond_sure l122_93 (by rw [decide_eq_true_eq]; exact hz.1) ?_
                  -- region 23
                  refine region_in ?_
                  refine W_r rfl rfl (VR_ldA rfl l18_93 (hS91.obj 1 rfl hc89) Try.underlying24 rfl (by kernel_rfl)) ?_
                  refine W_v rfl rfl (V_mov rfl (es rfl l21_93)) ?_
                  refine W_v rfl rfl (V_mul rfl (et rfl) rfl (by omega) (by omega)) ?_
                  refine W_v rfl rfl (V_rem rfl (et rfl) rfl (by omega) (by omega) (wrap_i64 (by omega) (by omega))) ?_
                  refine W_v rfl rfl (V_add rfl (et rfl) rfl (by omega) (by omega)) ?_
                  refine W_call rfl rfl rfl Try.func18 (by kernel_rfl) rfl (args2 (es rfl (es rfl (es rfl (es rfl (et rfl))))) (et rfl)) (kDrop_c (a := ((((i : Int) * 17) % 50) + 1)) (hS91.chC 0 rfl hc_88).own ) ?_
                  rintro _ w94 ⟨v_94, rfl, hP94⟩
                  refine ⟨_, rfl, ?_⟩
                  obtain ⟨c_94, hc_94, hP94⟩ := gen1 hP94
                  have hS94 := hS91.join hP94
                  replace hS94 : St w NoX [c_94, c_88, c89, c2_81] w94 := hS94
                  refine W_v rfl rfl (V_mov rfl (et rfl)) ?_
                  refine W_v rfl rfl (V_ext (v := .agg #[v_94]) rfl (et rfl) rfl) ?_
                  refine W_v rfl rfl (V_ext (v := .bool ((hsB (adT x ((((i : Int) * 17) % 50) + 1)) ((((i : Int) * 17) % 50) + 1)))) rfl (es rfl (et rfl)) rfl) ?_
                  refine W_v rfl rfl (V_ext (v := .int .i64 ((chE (adT x ((((i : Int) * 17) % 50) + 1)) ((((i : Int) * 17) % 50) + 1)))) rfl (es rfl (es rfl (et rfl))) rfl) ?_
                  refine W_stAS 2 hS94 rfl hc89 rfl rfl rfl (es rfl (es rfl (es rfl (es rfl (es rfl (es rfl (es rfl (es rfl (es rfl (es rfl l18_93)))))))))) (es rfl (es rfl (et rfl))) (by simp only [List.all_toArray, List.all_cons, List.all_nil, SlN_one (ow_at (hS94.chq 0 rfl hc_94))] <;> rfl) (by rfl) (by kernel_rfl) (fun w95 c95 hc95 hS95 => ?_)
                  replace hS95 : St w NoX [c_94, c_88, c95, c2_81] w95 := hS95
                  refine W_v rfl rfl (V_asg rfl (et rfl)) ?_
                  refine W_end ?_
                  refine gen_Q (fun A96 hA96 => ?_)
                  have hsz96 : SzN A96 160 := by rw [hA96]; infer_instance
                  have hdf96 : A96.defers = [] := by rw [hA96]; simp only [df_put]; exact hdf93
                  have l3_96 := lookE hA96 3 (es rfl (es rfl (es rfl (es rfl (es rfl (es rfl (es rfl (es rfl (es rfl (es rfl (es rfl l3_93)))))))))))
                  have l18_96 := lookE hA96 18 (es rfl (es rfl (es rfl (es rfl (es rfl (es rfl (es rfl (es rfl (es rfl (es rfl (es rfl l18_93)))))))))))
                  have l20_96 := lookE hA96 20 (et rfl)
                  have l21_96 := lookE hA96 21 (es rfl (es rfl (es rfl (es rfl (es rfl (es rfl (es rfl (es rfl (es rfl (es rfl (es rfl l21_93)))))))))))
                  have l106_96 := lookE hA96 106 (es rfl (es rfl (es rfl (es rfl (es rfl (es rfl (es rfl (es rfl (es rfl (es rfl (es rfl l106_93)))))))))))
                  have l107_96 := lookE hA96 107 (es rfl (es rfl (es rfl (es rfl (es rfl (es rfl (es rfl (es rfl (es rfl (es rfl (es rfl l107_93)))))))))))
                  clear hA96 hsz93 hdf93 l3_93 l18_93 l20_93 l21_93 l106_93 l107_93 l122_93
                  have hS97 : St w NoX [c_94, c95, c2_81] w95 := hS95.sel [0, 2, 3] (by decide) rfl
                  refine inb_n ?_
                  refine then_n (hK86 _ _ ?_)
                  clear hK86
                  -- region 20
                  refine region_in ?_
                  refine W_v rfl rfl (V_mov rfl l21_96) ?_
                  refine W_v rfl rfl (V_add rfl (et rfl) rfl (by omega) (by omega)) ?_
                  refine W_v rfl rfl (V_asg rfl (et rfl)) ?_
                  refine W_end ?_
                  refine gen_Q (fun A98 hA98 => ?_)
                  have hsz98 : SzN A98 160 := by rw [hA98]; infer_instance
                  have hdf98 : A98.defers = [] := by rw [hA98]; simp only [df_put]; exact hdf96
                  have l3_98 := lookE hA98 3 (es rfl (es rfl (es rfl l3_96)))
                  have l18_98 := lookE hA98 18 (es rfl (es rfl (es rfl l18_96)))
                  have l20_98 := lookE hA98 20 (es rfl (es rfl (es rfl l20_96)))
                  have l21_98 := lookE hA98 21 (et rfl)
                  have l106_98 := lookE hA98 106 (es rfl (es rfl (es rfl l106_96)))
                  have l107_98 := lookE hA98 107 (es rfl (es rfl (es rfl l107_96)))
                  clear hA98 hsz96 hdf96 l3_96 l18_96 l20_96 l21_96 l106_96 l107_96
                  have hS99 : St w NoX [c95, c_94, c2_81] w95 := hS97.sel [1, 0, 2] (by decide) rfl
                  refine then_n ⟨40 - (i + 1), by simp only [hm81]; omega, hsz98, hdf98, (i + 1), (drT (adT x ((((i : Int) * 17) % 50) + 1)) ((((i : Int) * 17) % 50) + 1)), v_94, (chE (adT x ((((i : Int) * 17) % 50) + 1)) ((((i : Int) * 17) % 50) + 1)), rfl, (by omega), hz.2.2, hz.2.1, ((l21_98).trans (by first | rfl | (simp; done) | (congr 1; omega))), ((l20_98).trans (by first | rfl | (simp; done) | (congr 1; omega))), ((l3_98).trans l3_80.symm), ((l18_98).trans l18_80.symm), (by subst hc95 hc_94 hc2_81; exact hS99)⟩
                · skip
                  have hzl := zr_len hzr
                  refine W_off rfl (wanted_f rfl rfl (et rfl) (ez rfl) rfl) ?_
                  refine W_off rfl (wanted_f rfl rfl (es rfl (et rfl)) (ez rfl) rfl) ?_
                  refine W_v rfl rfl (V_pickF rfl (es rfl (es rfl (et rfl))) rfl) ?_
                  refine W_end ?_
                  refine gen_Q (fun A100 hA100 => ?_)
                  have hsz100 : SzN A100 160 := by rw [hA100]; infer_instance
                  have hdf100 : A100.defers = [] := by rw [hA100]; simp only [df_put]; exact hdf81
                  have l3_100 := lookE hA100 3 (es rfl (es rfl (es rfl (es rfl (es rfl (es rfl l3_81))))))
                  have l18_100 := lookE hA100 18 (es rfl (es rfl (es rfl (es rfl (es rfl (es rfl l18_81))))))
                  have l20_100 := lookE hA100 20 (es rfl (es rfl (es rfl (es rfl (es rfl (es rfl l20_81))))))
                  have l21_100 := lookE hA100 21 (es rfl (es rfl (es rfl (es rfl (es rfl (es rfl l21_81))))))
                  have l106_100 := lookE hA100 106 (es rfl (es rfl (et rfl)))
                  have l107_100 := lookE hA100 107 (es rfl (et rfl))
                  have l108_100 := lookE hA100 108 (et rfl)
                  clear hA100 hsz81 hdf81 l21_81 l20_81 l3_81 l18_81
                  refine then_n (hK83 _ _ ?_)
                  clear hK83
                  refine cond_f l108_100 ?_
                  refine wp_exit ?_
                  refine then_exit ?_
                  refine then_exit ?_
                  refine inb_hit ?_
                  refine then_n (hK78 _ _ ?_)
                  clear hK78
                  refine wp_seq_k (fun K101 hK101 => ?_)
                  -- region 24
                  refine region_in ?_
                  refine W_r rfl rfl (VR_ldA rfl l18_100 (hS81.obj 0 rfl hc76_81) Try.underlying24 rfl (by kernel_rfl)) ?_
                  refine W_call rfl rfl rfl Try.func28 (by kernel_rfl) rfl (args1 (et rfl)) (kLen_c (hS81.chC 1 rfl hc_81).own ) ?_
                  rintro _ w102 ⟨rfl, hP102⟩
                  refine ⟨_, rfl, ?_⟩
                  have hS102 := hS81.join hP102
                  replace hS102 : St w NoX [c76_81, c_81, c2_81] w102 := hS102
                  refine W_v rfl rfl (V_mov rfl (et rfl)) ?_
                  refine W_v rfl rfl (V_ext (v := .int .i64 ((lnN x))) rfl (et rfl) rfl) ?_
                  refine W_v rfl rfl (V_ext (v := .int .i64 ((ckS x).2)) rfl (es rfl (et rfl)) rfl) ?_
                  refine W_v rfl rfl (V_asg rfl (es rfl (et rfl))) ?_
                  refine W_v rfl rfl (V_asg rfl (es rfl (et rfl))) ?_
                  refine W_end ?_
                  refine gen_Q (fun A103 hA103 => ?_)
                  have hsz103 : SzN A103 160 := by rw [hA103]; infer_instance
                  have hdf103 : A103.defers = [] := by rw [hA103]; simp only [df_put]; exact hdf100
                  have l3_103 := lookE hA103 3 (es rfl (es rfl (es rfl (es rfl (es rfl (es rfl (es rfl l3_100)))))))
                  have l18_103 := lookE hA103 18 (es rfl (es rfl (es rfl (es rfl (es rfl (es rfl (es rfl l18_100)))))))
                  have l20_103 := lookE hA103 20 (es rfl (es rfl (es rfl (es rfl (es rfl (es rfl (es rfl l20_100)))))))
                  have l22_103 := lookE hA103 22 (es rfl (et rfl))
                  have l23_103 := lookE hA103 23 (et rfl)
                  clear hA103 hsz100 hdf100 l3_100 l18_100 l20_100 l21_100 l106_100 l107_100 l108_100
                  refine then_n (hK101 _ _ ?_)
                  clear hK101
                  refine wp_seq_k (fun K104 hK104 => ?_)
                  -- region 25
                  refine region_in ?_
                  refine W_v rfl rfl (V_mov rfl l20_103) ?_
                  refine W_v rfl rfl (V_eql rfl (et rfl) rfl) ?_
                  refine W_sure (c' := true) rfl rfl (V_mov rfl (et rfl)) (by rw [decide_eq_true_eq]; exact hg0) ?_
                  refine W_v rfl (wanted_t rfl rfl (et rfl) (ez rfl)) (V_mov rfl (es rfl (es rfl (es rfl l23_103)))) ?_
                  refine W_v rfl (wanted_t rfl rfl (es rfl (et rfl)) (ez rfl)) (V_eql rfl (et rfl) rfl) ?_
                  refine W_v rfl rfl (V_pickT rfl (es rfl (es rfl (et rfl))) (et rfl)) ?_
                  refine W_sure (c' := true) rfl rfl (V_mov rfl (et rfl)) (by rw [decide_eq_true_eq]; exact hzl.1) ?_
                  refine W_v rfl (wanted_t rfl rfl (et rfl) (ez rfl)) (V_mov rfl (es rfl (es rfl (es rfl (es rfl (es rfl (es rfl (es rfl l22_103)))))))) ?_
                  refine W_v rfl (wanted_t rfl rfl (es rfl (et rfl)) (ez rfl)) (V_eql rfl (et rfl) rfl) ?_
                  refine W_v rfl rfl (V_pickT rfl (es rfl (es rfl (et rfl))) (et rfl)) ?_
                  refine W_sure (c' := true) rfl rfl (V_mov rfl (et rfl)) (by rw [decide_eq_true_eq]; exact hzl.2) ?_
                  refine W_v rfl (wanted_t rfl rfl (et rfl) (ez rfl)) (V_fa (off' := 0) rfl (es rfl (es rfl (es rfl (es rfl (es rfl (es rfl (es rfl (es rfl (es rfl (es rfl (es rfl l18_103))))))))))) Try.underlying24 rfl (by decide +kernel) rfl) ?_
                  refine W_r rfl (wanted_t rfl rfl (es rfl (et rfl)) (ez rfl)) (VR_ldC rfl (et rfl) (cell_box (v := tv) (hS102.obj 0 rfl hc76_81) rfl) Try.underlying22 rfl) ?_
                  refine W_v rfl (wanted_t rfl rfl (es rfl (es rfl (et rfl))) (ez rfl)) (V_lenS rfl (et rfl) (ow_at (hS102.chq 1 rfl hc_81)) Try.underlying22) ?_
                  refine W_v rfl (wanted_t rfl rfl (es rfl (es rfl (es rfl (et rfl)))) (ez rfl)) (V_fa (off' := 0) rfl (es rfl (es rfl (es rfl (es rfl (es rfl (es rfl (es rfl (es rfl (es rfl (es rfl (es rfl (es rfl (es rfl (es rfl l3_103)))))))))))))) Try.underlying24 rfl (by decide +kernel) rfl) ?_
                  refine W_r rfl (wanted_t rfl rfl (es rfl (es rfl (es rfl (es rfl (et rfl))))) (ez rfl)) (VR_ldC rfl (et rfl) (cell_box (v := cv) (hS102.obj 2 rfl hc2_81) rfl) Try.underlying22 rfl) ?_
                  refine W_v rfl (wanted_t rfl rfl (es rfl (es rfl (es rfl (es rfl (es rfl (et rfl)))))) (ez rfl)) (V_lenS rfl (et rfl) (sl_SlN h_cv.at) Try.underlying22) ?_
                  refine W_v rfl (wanted_t rfl rfl (es rfl (es rfl (es rfl (es rfl (es rfl (es rfl (et rfl))))))) (ez rfl)) (V_eql rfl (es rfl (es rfl (es rfl (et rfl)))) (et rfl)) ?_
                  refine W_v rfl rfl (V_pickT rfl (es rfl (es rfl (es rfl (es rfl (es rfl (es rfl (es rfl (et rfl)))))))) (et rfl)) ?_
                  refine W_sure (c' := true) rfl rfl (V_mov rfl (et rfl)) (by rw [decide_eq_true_eq]; rw [hzr.len]) ?_
                  refine W_call rfl (wanted_t rfl rfl (et rfl) (ez rfl)) rfl Try.func12 (by kernel_rfl) rfl (args0) (awake_c  ) ?_
                  rintro _ w105 ⟨rfl, hP105⟩
                  refine ⟨_, rfl, ?_⟩
                  have hS105 := hS102.join hP105
                  replace hS105 : St w NoX [c76_81, c_81, c2_81] w105 := hS105
                  refine W_v rfl rfl (V_pickT rfl (es rfl (et rfl)) (et rfl)) ?_
                  refine W_v rfl rfl (V_asg rfl (et rfl)) ?_
                  refine W_end ?_
                  refine gen_Q (fun A106 hA106 => ?_)
                  have hsz106 : SzN A106 160 := by rw [hA106]; infer_instance
                  have hdf106 : A106.defers = [] := by rw [hA106]; simp only [df_put]; exact hdf103
                  have l6_106 := lookE hA106 6 (et rfl)
                  clear hA106 hsz103 hdf103 l3_103 l18_103 l20_103 l22_103 l23_103
                  have hS107 : St w NoX [] w105 := hS105.sel [] (by decide) rfl
                  refine then_n (hK104 _ _ ?_)
                  clear hK104
                  refine wp_ret ?_
                  refine ret_in (results_1 Try.results9 (rv_tmp l6_106)) hdf106 ?_
                  -- leaf FFFTTTFF
                  exact ⟨rfl, hS107.fin0⟩
            · skip
              refine wp_skip ?_
              refine then_n (hK52 _ _ ?_)
              clear hK52
              refine wp_seq_k (fun K108 hK108 => ?_)
              -- region 14
              refine region_in ?_
              refine W_r rfl rfl (VR_ldA rfl l3_54 (hS51.obj 2 rfl hc2) Try.underlying24 rfl (by kernel_rfl)) ?_
              refine W_call rfl rfl rfl Try.func26 (by kernel_rfl) rfl (args1 (et rfl)) (kCk_c (hS51.roC h_cv) ) ?_
              rintro _ w109 ⟨rfl, hP109⟩
              refine ⟨_, rfl, ?_⟩
              have hS109 := hS51.join hP109
              replace hS109 : St w NoX [c49, c_47, c2] w109 := hS109
              refine W_v rfl rfl (V_mov rfl (et rfl)) ?_
              refine W_v rfl rfl (V_ext (v := .int .i64 ((ckS c).1)) rfl (et rfl) rfl) ?_
              refine W_v rfl rfl (V_ext (v := .int .i64 ((ckS c).2)) rfl (es rfl (et rfl)) rfl) ?_
              refine W_v rfl rfl (V_asg rfl (es rfl (et rfl))) ?_
              refine W_v rfl rfl (V_asg rfl (es rfl (et rfl))) ?_
              refine W_end ?_
              refine gen_Q (fun A110 hA110 => ?_)
              have hsz110 : SzN A110 160 := by rw [hA110]; infer_instance
              have hdf110 : A110.defers = [] := by rw [hA110]; simp only [df_put]; exact hdf54
              have l3_110 := lookE hA110 3 (es rfl (es rfl (es rfl (es rfl (es rfl (es rfl (es rfl l3_54)))))))
              have l17_110 := lookE hA110 17 (et rfl)
              clear hA110 hsz54 hdf54 l3_54 l13_54 l81_54
              have hS111 : St w NoX [c2] w109 := hS109.sel [2] (by decide) rfl
              refine then_n (hK108 _ _ ?_)
              clear hK108
              refine wp_seq_k (fun K112 hK112 => ?_)
              refine wp_seq_k (fun K113 hK113 => ?_)
              -- region 15
              refine region_in ?_
              refine W_v rfl rfl (V_mov rfl l17_110) ?_
              refine W_v rfl rfl (V_neq rfl (et rfl) rfl) ?_
              refine W_end ?_
              refine gen_Q (fun A114 hA114 => ?_)
              have hsz114 : SzN A114 160 := by rw [hA114]; infer_instance
              have hdf114 : A114.defers = [] := by rw [hA114]; simp only [df_put]; exact hdf110
              have l3_114 := lookE hA114 3 (es rfl (es rfl l3_110))
              have l95_114 := lookE hA114 95 (et rfl)
              clear hA114 hsz110 hdf110 l3_110 l17_110
              refine then_n (hK113 _ _ ?_)
              clear hK113
              refine cond_dec l95_114 (fun c115 => ?_) (fun c115 => ?_)
              · skip
                refine wp_seq_k (fun K116 hK116 => ?_)
                -- region 16
                refine region_in ?_
                refine W_call rfl rfl rfl Try.func12 (by kernel_rfl) rfl (args0) (awake_c  ) ?_
                rintro _ w117 ⟨rfl, hP117⟩
                refine ⟨_, rfl, ?_⟩
                have hS117 := hS111.join hP117
                replace hS117 : St w NoX [c2] w117 := hS117
                refine W_v rfl rfl (V_asg rfl (et rfl)) ?_
                refine W_end ?_
                refine gen_Q (fun A118 hA118 => ?_)
                have hsz118 : SzN A118 160 := by rw [hA118]; infer_instance
                have hdf118 : A118.defers = [] := by rw [hA118]; simp only [df_put]; exact hdf114
                have l6_118 := lookE hA118 6 (et rfl)
                clear hA118 hsz114 hdf114 l3_114 l95_114
                have hS119 : St w NoX [] w117 := hS117.sel [] (by decide) rfl
                refine then_n (hK116 _ _ ?_)
                clear hK116
                refine wp_ret ?_
                refine then_ret ?_
                refine ret_in (results_1 Try.results9 (rv_tmp l6_118)) hdf118 ?_
                -- leaf FFFTTFT
                exact ⟨rfl, hS119.fin0⟩
              · skip
                have hck : (ckS c).2 = 0 := by simpa using c115
                refine wp_skip ?_
                refine then_n (hK112 _ _ ?_)
                clear hK112
                refine wp_seq_k (fun K120 hK120 => ?_)
                -- region 17
                refine region_in ?_
                refine W_r rfl rfl (VR_ldA rfl l3_114 (hS111.obj 0 rfl hc2) Try.underlying24 rfl (by kernel_rfl)) ?_
                refine W_call rfl rfl rfl Try.func24 (by kernel_rfl) rfl (args3 (et rfl) rfl rfl) (kPurge_c (f := 1) (t := 1601) (hS111.roC h_cv) ) ?_
                rintro _ w121 ⟨v_121, rfl, hP121⟩
                refine ⟨_, rfl, ?_⟩
                obtain ⟨c_121, hc_121, hP121⟩ := gen1 hP121
                have hS121 := hS111.join hP121
                replace hS121 : St w NoX [c_121, c2] w121 := hS121
                refine W_v rfl rfl (V_mov rfl (et rfl)) ?_
                refine W_v rfl rfl (V_ext (v := .agg #[v_121]) rfl (et rfl) rfl) ?_
                refine W_v rfl rfl (V_ext (v := .int .i64 ((pgN c 1 1601))) rfl (es rfl (et rfl)) rfl) ?_
                refine W_v rfl rfl (V_ext (v := .int .i64 ((ckS c).2)) rfl (es rfl (es rfl (et rfl))) rfl) ?_
                refine W_allocS (z := .agg #[.slice none 0 0]) (zs := #[.slice none 0 0]) hS121 rfl rfl rfl (by kernel_rfl) (by rfl) (fun g122 w122 c122 hc122 hS122 => ?_)
                replace hS122 : St w NoX [c122, c_121, c2] w122 := hS122
                refine W_stAS 0 hS122 rfl hc122 rfl rfl rfl (et rfl) (es rfl (es rfl (es rfl (et rfl)))) (by simp only [List.all_toArray, List.all_cons, List.all_nil, SlN_one (ow_at (hS122.chq 1 rfl hc_121))] <;> rfl) (by rfl) (by kernel_rfl) (fun w123 c123 hc123 hS123 => ?_)
                replace hS123 : St w NoX [c123, c_121, c2] w123 := hS123
                refine W_v rfl rfl (V_asg rfl (es rfl (es rfl (et rfl)))) ?_
                refine W_v rfl rfl (V_asg rfl (es rfl (es rfl (et rfl)))) ?_
                refine W_end ?_
                refine gen_Q (fun A124 hA124 => ?_)
                have hsz124 : SzN A124 160 := by rw [hA124]; infer_instance
                have hdf124 : A124.defers = [] := by rw [hA124]; simp only [df_put]; exact hdf114
                have l3_124 := lookE hA124 3 (es rfl (es rfl (es rfl (es rfl (es rfl (es rfl (es rfl (es rfl (es rfl l3_114)))))))))
                have l18_124 := lookE hA124 18 (es rfl (es rfl (et rfl)))
                have l20_124 := lookE hA124 20 (et rfl)
                clear hA124 hsz114 hdf114 l3_114 l95_114
                refine then_n (hK120 _ _ ?_)
                clear hK120
                refine wp_seq_k (fun K125 hK125 => ?_)
                refine wp_seq_k (fun K126 hK126 => ?_)
                -- region 18
                refine region_in ?_
                refine W_v rfl rfl (V_asg rfl rfl) ?_
                refine W_end ?_
                refine gen_Q (fun A127 hA127 => ?_)
                have hsz127 : SzN A127 160 := by rw [hA127]; infer_instance
                have hdf127 : A127.defers = [] := by rw [hA127]; simp only [df_put]; exact hdf124
                have l3_127 := lookE hA127 3 (es rfl l3_124)
                have l18_127 := lookE hA127 18 (es rfl l18_124)
                have l20_127 := lookE hA127 20 (es rfl l20_124)
                have l21_127 := lookE hA127 21 (et rfl)
                clear hA127 hsz124 hdf124 l3_124 l18_124 l20_124
                refine then_n (hK126 _ _ ?_)
                clear hK126
                refine wp_block ?_
                -- loop 19
                refine loopX (fun mz A' w' => SzN A' 160 ∧ A'.defers = [] ∧ (∃ (i : Nat) (x : List Int) (tv : Value) (g : Int), (mz = 40 - i) ∧ (i ≤ 40) ∧ (Zr c.length x) ∧ (g = 0) ∧ (EV A' (.tmp 21) = .int .i64 (i : Int)) ∧ (EV A' (.tmp 20) = .int .i64 g) ∧ (EV A' (.tmp 3) = EV A127 (.tmp 3)) ∧ (EV A' (.tmp 18) = EV A127 (.tmp 18)) ∧ (St w NoX [bx g122 24 #[tv], io .i64 tv x, bx g2 24 #[cv]] w'))) (40 - 0) ⟨hsz127, hdf127, 0, (pgT c 1 1601), v_121, (ckS c).2, rfl, (by omega), (zr_purge hck), hck, ((l21_127).trans (by first | rfl | (simp; done) | (congr 1; omega))), ((l20_127).trans (by first | rfl | (simp; done) | (congr 1; omega))), rfl, rfl, (by have q0 := hc123; have q1 : c_121 = io .i64 v_121 (pgT c 1 1601) := hc_121.trans (rfl); have q2 := hc2; subst q0 q1 q2; exact hS123)⟩ ?_
                clear hS123 hc123 hc_121 hc2
                rintro n128 A128 w128 ⟨hsz128, hdf128, i, x, tv, g, hm128, hi, hzr, hg0, l21_128, l20_128, u3_128, u18_128, hS128⟩
                have l3_128 := u3_128.trans l3_127
                have l18_128 := u18_128.trans l18_127
                obtain ⟨c123_128, c_128, c2_128, hc123_128, hc_128, hc2_128, hS128⟩ := gen3 hS128
                refine wp_seq_k (fun K129 hK129 => ?_)
                refine wp_seq_k (fun K130 hK130 => ?_)
                -- region 19
                refine region_in ?_
                refine W_v rfl rfl (V_mov rfl l21_128) ?_
                refine W_v rfl rfl (V_lss rfl (et rfl) rfl) ?_
                refine W_split rfl rfl (V_mov rfl (et rfl)) (fun c131 => ?_) (fun c131 => ?_)
                · skip
                  have hz := zr_cyc hzr (a := (((i : Int) * 17) % 50) + 1) (by omega)
                  refine W_v rfl (wanted_t rfl rfl (et rfl) (ez rfl)) (V_mov rfl (es rfl (es rfl (es rfl l20_128)))) ?_
                  refine W_v rfl (wanted_t rfl rfl (es rfl (et rfl)) (ez rfl)) (V_eql rfl (et rfl) rfl) ?_
                  refine W_v rfl rfl (V_pickT rfl (es rfl (es rfl (et rfl))) (et rfl)) ?_
                  refine W_end ?_
                  refine gen_Q (fun A132 hA132 => ?_)
                  have hsz132 : SzN A132 160 := by rw [hA132]; infer_instance
                  have hdf132 : A132.defers = [] := by rw [hA132]; simp only [df_put]; exact hdf128
                  have l3_132 := lookE hA132 3 (es rfl (es rfl (es rfl (es rfl (es rfl (es rfl l3_128))))))
                  have l18_132 := lookE hA132 18 (es rfl (es rfl (es rfl (es rfl (es rfl (es rfl l18_128))))))
                  have l20_132 := lookE hA132 20 (es rfl (es rfl (es rfl (es rfl (es rfl (es rfl l20_128))))))
                  have l21_132 := lookE hA132 21 (es rfl (es rfl (es rfl (es rfl (es rfl (es rfl l21_128))))))
                  have l106_132 := lookE hA132 106 (es rfl (es rfl (et rfl)))
                  have l107_132 := lookE hA132 107 (es rfl (et rfl))
                  have l108_132 := lookE hA132 108 (et rfl)
                  clear hA132 hsz128 hdf128 l21_128 l20_128 l3_128 l18_128
                  refine then_n (hK130 _ _ ?_)
                  clear hK130
                  refine cond_sure l108_132 (by rw [decide_eq_true_eq]; exact hg0) ?_
                  refine wp_skip ?_
                  refine then_n (hK129 _ _ ?_)
                  clear hK129
                  refine wp_seq_k (fun K133 hK133 => ?_)
                  refine wp_block ?_
                  refine wp_seq_k (fun K134 hK134 => ?_)
                  -- region 21
                  refine region_in ?_
                  refine W_r rfl rfl (VR_ldA rfl l18_132 (hS128.obj 0 rfl hc123_128) Try.underlying24 rfl (by kernel_rfl)) ?_
                  refine W_v rfl rfl (V_mov rfl (es rfl l21_132)) ?_
                  refine W_v rfl rfl (V_mul rfl (et rfl) rfl (by omega) (by omega)) ?_
                  refine W_v rfl rfl (V_rem rfl (et rfl) rfl (by omega) (by omega) (wrap_i64 (by omega) (by omega))) ?_
                  refine W_v rfl rfl (V_add rfl (et rfl) rfl (by omega) (by omega)) ?_
                  refine W_call rfl rfl rfl Try.func15 (by kernel_rfl) rfl (args2 (es rfl (es rfl (es rfl (es rfl (et rfl))))) (et rfl)) (kAdd_c (a := ((((i : Int) * 17) % 50) + 1)) (hS128.chC 1 rfl hc_128).own ) ?_
                  rintro _ w135 ⟨v_135, rfl, hP135⟩
                  refine ⟨_, rfl, ?_⟩
                  obtain ⟨c_135, hc_135, hP135⟩ := gen1 hP135
                  have hS135 := hS128.join hP135
                  replace hS135 : St w NoX [c_135, c123_128, c_128, c2_128] w135 := hS135
                  refine W_v rfl rfl (V_mov rfl (et rfl)) ?_
                  refine W_v rfl rfl (V_ext (v := .agg #[v_135]) rfl (et rfl) rfl) ?_
                  refine W_v rfl rfl (V_ext (v := .bool ((adB x ((((i : Int) * 17) % 50) + 1)))) rfl (es rfl (et rfl)) rfl) ?_
                  refine W_v rfl rfl (V_ext (v := .int .i64 ((chE x ((((i : Int) * 17) % 50) + 1)))) rfl (es rfl (es rfl (et rfl))) rfl) ?_
                  refine W_stAS 1 hS135 rfl hc123_128 rfl rfl rfl (es rfl (es rfl (es rfl (es rfl (es rfl (es rfl (es rfl (es rfl (es rfl (es rfl l18_132)))))))))) (es rfl (es rfl (et rfl))) (by simp only [List.all_toArray, List.all_cons, List.all_nil, SlN_one (ow_at (hS135.chq 0 rfl hc_135))] <;> rfl) (by rfl) (by kernel_rfl) (fun w136 c136 hc136 hS136 => ?_)
                  replace hS136 : St w NoX [c_135, c136, c_128, c2_128] w136 := hS136
                  refine W_v rfl rfl (V_asg rfl (et rfl)) ?_
                  refine W_end ?_
                  refine gen_Q (fun A137 hA137 => ?_)
                  have hsz137 : SzN A137 160 := by rw [hA137]; infer_instance
                  have hdf137 : A137.defers = [] := by rw [hA137]; simp only [df_put]; exact hdf132
                  have l3_137 := lookE hA137 3 (es rfl (es rfl (es rfl (es rfl (es rfl (es rfl (es rfl (es rfl (es rfl (es rfl (es rfl l3_132)))))))))))
                  have l18_137 := lookE hA137 18 (es rfl (es rfl (es rfl (es rfl (es rfl (es rfl (es rfl (es rfl (es rfl (es rfl (es rfl l18_132)))))))))))
                  have l20_137 := lookE hA137 20 (et rfl)
                  have l21_137 := lookE hA137 21 (es rfl (es rfl (es rfl (es rfl (es rfl (es rfl (es rfl (es rfl (es rfl (es rfl (es rfl l21_132)))))))))))
                  have l106_137 := lookE hA137 106 (es rfl (es rfl (es rfl (es rfl (es rfl (es rfl (es rfl (es rfl (es rfl (es rfl (es rfl l106_132)))))))))))
                  have l107_137 := lookE hA137 107 (es rfl (es rfl (es rfl (es rfl (es rfl (es rfl (es rfl (es rfl (es rfl (es rfl (es rfl l107_132)))))))))))
                  clear hA137 hsz132 hdf132 l3_132 l18_132 l20_132 l21_132 l106_132 l107_132 l108_132
                  have hS138 : St w NoX [c_135, c136, c2_128] w136 := hS136.sel [0, 1, 3] (by decide) rfl
                  refine then_n (hK134 _ _ ?_)
                  clear hK134
                  refine wp_seq_k (fun K139 hK139 => ?_)
                  -- region 22
                  refine region_in ?_
                  refine W_v rfl rfl (V_mov rfl l20_137) ?_
                  refine W_v rfl rfl (V_eql rfl (et rfl) rfl) ?_
                  refine W_end ?_
                  refine gen_Q (fun A140 hA140 => ?_)
                  have hsz140 : SzN A140 160 := by rw [hA140]; infer_instance
                  have hdf140 : A140.defers = [] := by rw [hA140]; simp only [df_put]; exact hdf137
                  have l3_140 := lookE hA140 3 (es rfl (es rfl l3_137))
                  have l18_140 := lookE hA140 18 (es rfl (es rfl l18_137))
                  have l20_140 := lookE hA140 20 (es rfl (es rfl l20_137))
                  have l21_140 := lookE hA140 21 (es rfl (es rfl l21_137))
                  have l106_140 := lookE hA140 106 (es rfl (es rfl l106_137))
                  have l107_140 := lookE hA140 107 (es rfl (es rfl l107_137))
                  have l122_140 := lookE hA140 122 (et rfl)
                  clear hA140 hsz137 hdf137 l3_137 l18_137 l20_137 l21_137 l106_137 l107_137
                  refine then_n (hK139 _ _ ?_)
                  clear hK139
                  refine cond_sure l122_140 (by rw [decide_eq_true_eq]; exact hz.1) ?_
                  -- region 23
                  refine region_in ?_
                  refine W_r rfl rfl (VR_ldA rfl l18_140 (hS138.obj 1 rfl hc136) Try.underlying24 rfl (by kernel_rfl)) ?_
                  refine W_v rfl rfl (V_mov rfl (es rfl l21_140)) ?_
                  refine W_v rfl rfl (V_mul rfl (et rfl) rfl (by omega) (by omega)) ?_
                  refine W_v rfl rfl (V_rem rfl (et rfl) rfl (by omega) (by omega) (wrap_i64 (by omega) (by omega))) ?_
                  refine W_v rfl rfl (V_add rfl (et rfl) rfl (by omega) (by omega)) ?_
                  refine W_call rfl rfl rfl Try.func18 (by kernel_rfl) rfl (args2 (es rfl (es rfl (es rfl (es rfl (et rfl))))) (et rfl)) (kDrop_c (a := ((((i : Int) * 17) % 50) + 1)) (hS138.chC 0 rfl hc_135).own ) ?_
                  rintro _ w141 ⟨v_141, rfl, hP141⟩
                  refine ⟨_, rfl, ?_⟩
                  obtain ⟨c_141, hc_141, hP141⟩ := gen1 hP141
                  have hS141 := hS138.join hP141
                  replace hS141 : St w NoX [c_141, c_135, c136, c2_128] w141 := hS141
                  refine W_v rfl rfl (V_mov rfl (et rfl)) ?_
                  refine W_v rfl rfl (V_ext (v := .agg #[v_141]) rfl (et rfl) rfl) ?_
                  refine W_v rfl rfl (V_ext (v := .bool ((hsB (adT x ((((i : Int) * 17) % 50) + 1)) ((((i : Int) * 17) % 50) + 1)))) rfl (es rfl (et rfl)) rfl) ?_
                  refine W_v rfl rfl (V_ext (v := .int .i64 ((chE (adT x ((((i : Int) * 17) % 50) + 1)) ((((i : Int) * 17) % 50) + 1)))) rfl (es rfl (es rfl (et rfl))) rfl) ?_
                  refine W_stAS 2 hS141 rfl hc136 rfl rfl rfl (es rfl (es rfl (es rfl (es rfl (es rfl (es rfl (es rfl (es rfl (es rfl (es rfl l18_140)))))))))) (es rfl (es rfl (et rfl))) (by simp only [List.all_toArray, List.all_cons, List.all_nil, SlN_one (ow_at (hS141.chq 0 rfl hc_141))] <;> rfl) (by rfl) (by kernel_rfl) (fun w142 c142 hc142 hS142 => ?_)
                  replace hS142 : St w NoX [c_141, c_135, c142, c2_128] w142 := hS142
                  refine W_v rfl rfl (V_asg rfl (et rfl)) ?_
                  refine W_end ?_
                  refine gen_Q (fun A143 hA143 => ?_)
                  have hsz143 : SzN A143 160 := by rw [hA143]; infer_instance
                  have hdf143 : A143.defers = [] := by rw [hA143]; simp only [df_put]; exact hdf140
                  have l3_143 := lookE hA143 3 (es rfl (es rfl (es rfl (es rfl (es rfl (es rfl (es rfl (es rfl (es rfl (es rfl (es rfl l3_140)))))))))))
                  have l18_143 := lookE hA143 18 (es rfl (es rfl (es rfl (es rfl (es rfl (es rfl (es rfl (es rfl (es rfl (es rfl (es rfl l18_140)))))))))))
                  have l20_143 := lookE hA143 20 (et rfl)
                  have l21_143 := lookE hA143 21 (es rfl (es rfl (es rfl (es rfl (es rfl (es rfl (es rfl (es rfl (es rfl (es rfl (es rfl l21_140)))))))))))
                  have l106_143 := lookE hA143 106 (es rfl (es rfl (es rfl (es rfl (es rfl (es rfl (es rfl (es rfl (es rfl (es rfl (es rfl l106_140)))))))))))
                  have l107_143 := lookE hA143 107 (es rfl (es rfl (es rfl (es rfl (es rfl (es rfl (es rfl (es rfl (es rfl (es rfl (es rfl l107_140)))))))))))
                  clear hA143 hsz140 hdf140 l3_140 l18_140 l20_140 l21_140 l106_140 l107_140 l122_140
                  have hS144 : St w NoX [c_141, c142, c2_128] w142 := hS142.sel [0, 2, 3] (by decide) rfl
                  refine inb_n ?_
                  refine then_n (hK133 _ _ ?_)
                  clear hK133
                  -- region 20
                  refine region_in ?_
                  refine W_v rfl rfl (V_mov rfl l21_143) ?_
                  refine W_v rfl rfl (V_add rfl (et rfl) rfl (by omega) (by omega)) ?_
                  refine W_v rfl rfl (V_asg rfl (et rfl)) ?_
                  refine W_end ?_
                  refine gen_Q (fun A145 hA145 => ?_)
                  have hsz145 : SzN A145 160 := by rw [hA145]; infer_instance
                  have hdf145 : A145.defers = [] := by rw [hA145]; simp only [df_put]; exact hdf143
                  have l3_145 := lookE hA145 3 (es rfl (es rfl (es rfl l3_143)))
                  have l18_145 := lookE hA145 18 (es rfl (es rfl (es rfl l18_143)))
                  have l20_145 := lookE hA145 20 (es rfl (es rfl (es rfl l20_143)))
                  have l21_145 := lookE hA145 21 (et rfl)
                  have l106_145 := lookE hA145 106 (es rfl (es rfl (es rfl l106_143)))
                  have l107_145 := lookE hA145 107 (es rfl (es rfl (es rfl l107_143)))
                  clear hA145 hsz143 hdf143 l3_143 l18_143 l20_143 l21_143 l106_143 l107_143
                  have hS146 : St w NoX [c142, c_141, c2_128] w142 := hS144.sel [1, 0, 2] (by decide) rfl
                  refine then_n ⟨40 - (i + 1), by simp only [hm128]; omega, hsz145, hdf145, (i + 1), (drT (adT x ((((i : Int) * 17) % 50) + 1)) ((((i : Int) * 17) % 50) + 1)), v_141, (chE (adT x ((((i : Int) * 17) % 50) + 1)) ((((i : Int) * 17) % 50) + 1)), rfl, (by omega), hz.2.2, hz.2.1, ((l21_145).trans (by first | rfl | (simp; done) | (congr 1; omega))), ((l20_145).trans (by first | rfl | (simp; done) | (congr 1; omega))), ((l3_145).trans l3_127.symm), ((l18_145).trans l18_127.symm), (by subst hc142 hc_141 hc2_128; exact hS146)⟩
                · skip
                  have hzl := zr_len hzr
                  refine W_off rfl (wanted_f rfl rfl (et rfl) (ez rfl) rfl) ?_
                  refine W_off rfl (wanted_f rfl rfl (es rfl (et rfl)) (ez rfl) rfl) ?_
                  refine W_v rfl rfl (V_pickF rfl (es rfl (es rfl (et rfl))) rfl) ?_
                  refine W_end ?_
                  refine gen_Q (fun A147 hA147 => ?_)
                  have hsz147 : SzN A147 160 := by rw [hA147]; infer_instance
                  have hdf147 : A147.defers = [] := by rw [hA147]; simp only [df_put]; exact hdf128
                  have l3_147 := lookE hA147 3 (es rfl (es rfl (es rfl (es rfl (es rfl (es rfl l3_128))))))
                  have l18_147 := lookE hA147 18 (es rfl (es rfl (es rfl (es rfl (es rfl (es rfl l18_128))))))
                  have l20_147 := lookE hA147 20 (es rfl (es rfl (es rfl (es rfl (es rfl (es rfl l20_128))))))
                  have l21_147 := lookE hA147 21 (es rfl (es rfl (es rfl (es rfl (es rfl (es rfl l21_128))))))
                  have l106_147 := lookE hA147 106 (es rfl (es rfl (et rfl)))
                  have l107_147 := lookE hA147 107 (es rfl (et rfl))
                  have l108_147 := lookE hA147 108 (et rfl)
                  clear hA147 hsz128 hdf128 l21_128 l20_128 l3_128 l18_128
                  refine then_n (hK130 _ _ ?_)
                  clear hK130
                  refine cond_f l108_147 ?_
                  refine wp_exit ?_
                  refine then_exit ?_
                  refine then_exit ?_
                  refine inb_hit ?_
                  refine then_n (hK125 _ _ ?_)
                  clear hK125
                  refine wp_seq_k (fun K148 hK148 => ?_)
                  -- region 24
                  refine region_in ?_
                  refine W_r rfl rfl (VR_ldA rfl l18_147 (hS128.obj 0 rfl hc123_128) Try.underlying24 rfl (by kernel_rfl)) ?_
                  refine W_call rfl rfl rfl Try.func28 (by kernel_rfl) rfl (args1 (et rfl)) (kLen_c (hS128.chC 1 rfl hc_128).own ) ?_
                  rintro _ w149 ⟨rfl, hP149⟩
                  refine ⟨_, rfl, ?_⟩
                  have hS149 := hS128.join hP149
                  replace hS149 : St w NoX [c123_128, c_128, c2_128] w149 := hS149
                  refine W_v rfl rfl (V_mov rfl (et rfl)) ?_
                  refine W_v rfl rfl (V_ext (v := .int .i64 ((lnN x))) rfl (et rfl) rfl) ?_
                  refine W_v rfl rfl (V_ext (v := .int .i64 ((ckS x).2)) rfl (es rfl (et rfl)) rfl) ?_
                  refine W_v rfl rfl (V_asg rfl (es rfl (et rfl))) ?_
                  refine W_v rfl rfl (V_asg rfl (es rfl (et rfl))) ?_
                  refine W_end ?_
                  refine gen_Q (fun A150 hA150 => ?_)
                  have hsz150 : SzN A150 160 := by rw [hA150]; infer_instance
                  have hdf150 : A150.defers = [] := by rw [hA150]; simp only [df_put]; exact hdf147
                  have l3_150 := lookE hA150 3 (es rfl (es rfl (es rfl (es rfl (es rfl (es rfl (es rfl l3_147)))))))
                  have l18_150 := lookE hA150 18 (es rfl (es rfl (es rfl (es rfl (es rfl (es rfl (es rfl l18_147)))))))
                  have l20_150 := lookE hA150 20 (es rfl (es rfl (es rfl (es rfl (es rfl (es rfl (es rfl l20_147)))))))
                  have l22_150 := lookE hA150 22 (es rfl (et rfl))
                  have l23_150 := lookE hA150 23 (et rfl)
                  clear hA150 hsz147 hdf147 l3_147 l18_147 l20_147 l21_147 l106_147 l107_147 l108_147
                  refine then_n (hK148 _ _ ?_)
                  clear hK148
                  refine wp_seq_k (fun K151 hK151 => ?_)
                  -- region 25
                  refine region_in ?_
                  refine W_v rfl rfl (V_mov rfl l20_150) ?_
                  refine W_v rfl rfl (V_eql rfl (et rfl) rfl) ?_
                  refine W_sure (c' := true) rfl rfl (V_mov rfl (et rfl)) (by rw [decide_eq_true_eq]; exact hg0) ?_
                  refine W_v rfl (wanted_t rfl rfl (et rfl) (ez rfl)) (V_mov rfl (es rfl (es rfl (es rfl l23_150)))) ?_
                  refine W_v rfl (wanted_t rfl rfl (es rfl (et rfl)) (ez rfl)) (V_eql rfl (et rfl) rfl) ?_
                  refine W_v rfl rfl (V_pickT rfl (es rfl (es rfl (et rfl))) (et rfl)) ?_
                  refine W_sure (c' := true) rfl rfl (V_mov rfl (et rfl)) (by rw [decide_eq_true_eq]; exact hzl.1) ?_
                  refine W_v rfl (wanted_t rfl rfl (et rfl) (ez rfl)) (V_mov rfl (es rfl (es rfl (es rfl (es rfl (es rfl (es rfl (es rfl l22_150)))))))) ?_
                  refine W_v rfl (wanted_t rfl rfl (es rfl (et rfl)) (ez rfl)) (V_eql rfl (et rfl) rfl) ?_
                  refine W_v rfl rfl (V_pickT rfl (es rfl (es rfl (et rfl))) (et rfl)) ?_
                  refine W_sure (c' := true) rfl rfl (V_mov rfl (et rfl)) (by rw [decide_eq_true_eq]; exact hzl.2) ?_
                  refine W_v rfl (wanted_t rfl rfl (et rfl) (ez rfl)) (V_fa (off' := 0) rfl (es rfl (es rfl (es rfl (es rfl (es rfl (es rfl (es rfl (es rfl (es rfl (es rfl (es rfl l18_150))))))))))) Try.underlying24 rfl (by decide +kernel) rfl) ?_
                  refine W_r rfl (wanted_t rfl rfl (es rfl (et rfl)) (ez rfl)) (VR_ldC rfl (et rfl) (cell_box (v := tv) (hS149.obj 0 rfl hc123_128) rfl) Try.underlying22 rfl) ?_
                  refine W_v rfl (wanted_t rfl rfl (es rfl (es rfl (et rfl))) (ez rfl)) (V_lenS rfl (et rfl) (ow_at (hS149.chq 1 rfl hc_128)) Try.underlying22) ?_
                  refine W_v rfl (wanted_t rfl rfl (es rfl (es rfl (es rfl (et rfl)))) (ez rfl)) (V_fa (off' := 0) rfl (es rfl (es rfl (es rfl (es rfl (es rfl (es rfl (es rfl (es rfl (es rfl (es rfl (es rfl (es rfl (es rfl (es rfl l3_150)))))))))))))) Try.underlying24 rfl (by decide +kernel) rfl) ?_
                  refine W_r rfl (wanted_t rfl rfl (es rfl (es rfl (es rfl (es rfl (et rfl))))) (ez rfl)) (VR_ldC rfl (et rfl) (cell_box (v := cv) (hS149.obj 2 rfl hc2_128) rfl) Try.underlying22 rfl) ?_
                  refine W_v rfl (wanted_t rfl rfl (es rfl (es rfl (es rfl (es rfl (es rfl (et rfl)))))) (ez rfl)) (V_lenS rfl (et rfl) (sl_SlN h_cv.at) Try.underlying22) ?_
                  refine W_v rfl (wanted_t rfl rfl (es rfl (es rfl (es rfl (es rfl (es rfl (es rfl (et rfl))))))) (ez rfl)) (V_eql rfl (es rfl (es rfl (es rfl (et rfl)))) (et rfl)) ?_
                  refine W_v rfl rfl (V_pickT rfl (es rfl (es rfl (es rfl (es rfl (es rfl (es rfl (es rfl (et rfl)))))))) (et rfl)) ?_
                  refine W_sure (c' := true) rfl rfl (V_mov rfl (et rfl)) (by rw [decide_eq_true_eq]; rw [hzr.len]) ?_
                  refine W_call rfl (wanted_t rfl rfl (et rfl) (ez rfl)) rfl Try.func12 (by kernel_rfl) rfl (args0) (awake_c  ) ?_
                  rintro _ w152 ⟨rfl, hP152⟩
                  refine ⟨_, rfl, ?_⟩
                  have hS152 := hS149.join hP152
                  replace hS152 : St w NoX [c123_128, c_128, c2_128] w152 := hS152
                  refine W_v rfl rfl (V_pickT rfl (es rfl (et rfl)) (et rfl)) ?_
                  refine W_v rfl rfl (V_asg rfl (et rfl)) ?_
                  refine W_end ?_
                  refine gen_Q (fun A153 hA153 => ?_)
                  have hsz153 : SzN A153 160 := by rw [hA153]; infer_instance
                  have hdf153 : A153.defers = [] := by rw [hA153]; simp only [df_put]; exact hdf150
                  have l6_153 := lookE hA153 6 (et rfl)
                  clear hA153 hsz150 hdf150 l3_150 l18_150 l20_150 l22_150 l23_150
                  have hS154 : St w NoX [] w152 := hS152.sel [] (by decide) rfl
                  refine then_n (hK151 _ _ ?_)
                  clear hK151
                  refine wp_ret ?_
                  refine ret_in (results_1 Try.results9 (rv_tmp l6_153)) hdf153 ?_
                  -- leaf FFFTTFFF
                  exact ⟨rfl, hS154.fin0⟩
          · skip
            refine W_off rfl (wanted_f rfl rfl (et rfl) (ez rfl) rfl) ?_
            refine W_off rfl (wanted_f rfl rfl (es rfl (et rfl)) (ez rfl) rfl) ?_
            refine W_off rfl (wanted_f rfl rfl (es rfl (es rfl (et rfl))) (ez rfl) rfl) ?_
            refine W_off rfl (wanted_f rfl rfl (es rfl (es rfl (es rfl (et rfl)))) (ez rfl) rfl) ?_
            refine W_off rfl (wanted_f rfl rfl (es rfl (es rfl (es rfl (es rfl (et rfl))))) (ez rfl) rfl) ?_
            refine W_off rfl (wanted_f rfl rfl (es rfl (es rfl (es rfl (es rfl (es rfl (et rfl)))))) (ez rfl) rfl) ?_
            refine W_off rfl (wanted_f rfl rfl (es rfl (es rfl (es rfl (es rfl (es rfl (es rfl (et rfl))))))) (ez rfl) rfl) ?_
            refine W_v rfl (wanted_t rfl rfl (es rfl (es rfl (es rfl (es rfl (es rfl (es rfl (es rfl (es rfl (es rfl (es rfl (es rfl (es rfl (et rfl))))))))))))) (ez rfl)) (V_pickF rfl (es rfl (es rfl (es rfl (es rfl (es rfl (es rfl (es rfl (et rfl)))))))) rfl) ?_
            refine W_v rfl rfl (V_pickF rfl (es rfl (es rfl (es rfl (es rfl (es rfl (es rfl (es rfl (es rfl (es rfl (es rfl (es rfl (es rfl (es rfl (et rfl)))))))))))))) (et rfl)) ?_
            refine W_end ?_
            refine gen_Q (fun A155 hA155 => ?_)
            have hsz155 : SzN A155 160 := by rw [hA155]; infer_instance
            have hdf155 : A155.defers = [] := by rw [hA155]; simp only [df_put]; exact hdf41
            have l3_155 := lookE hA155 3 (es rfl (es rfl (es rfl (es rfl (es rfl (es rfl (es rfl (es rfl (es rfl (es rfl (es rfl (es rfl (es rfl (es rfl (es rfl (es rfl (es rfl (es rfl (es rfl (es rfl (es rfl l3_41)))))))))))))))))))))
            have l4_155 := lookE hA155 4 (es rfl (es rfl (es rfl (es rfl (es rfl (es rfl (es rfl (es rfl (es rfl (es rfl (es rfl (es rfl (es rfl (es rfl (es rfl (es rfl (es rfl (es rfl (es rfl (es rfl (es rfl l4_41)))))))))))))))))))))
            have l73_155 := lookE hA155 73 (et rfl)
            clear hA155 hsz41 hdf41 l3_41 l4_41 l7_41 l9_41 l10_41 l12_41
            have hS156 : St w NoX [c3, c2] w40 := hS40.sel [2, 3] (by decide) rfl
            refine then_n (hK42 _ _ ?_)
            clear hK42
            refine cond_f l73_155 ?_
            refine wp_skip ?_
            refine then_n (hK32 _ _ ?_)
            clear hK32
            refine wp_seq_k (fun K157 hK157 => ?_)
            -- region 9
            refine region_in ?_
            refine W_r rfl rfl (VR_ldA rfl l3_155 (hS156.obj 1 rfl hc2) Try.underlying24 rfl (by kernel_rfl)) ?_
            refine W_r rfl rfl (VR_ldA rfl (es rfl l4_155) (hS156.obj 0 rfl hc3) Try.underlying24 rfl (by kernel_rfl)) ?_
            refine W_call rfl rfl rfl Try.func22 (by kernel_rfl) rfl (args2 (es rfl (et rfl)) (et rfl)) (kJoin_c (hS156.roC h_cv) (hS156.roC h_dv) ) ?_
            rintro _ w158 ⟨v_158, rfl, hP158⟩
            refine ⟨_, rfl, ?_⟩
            obtain ⟨c_158, hc_158, hP158⟩ := gen1 hP158
            have hS158 := hS156.join hP158
            replace hS158 : St w NoX [c_158, c3, c2] w158 := hS158
            refine W_v rfl rfl (V_mov rfl (et rfl)) ?_
            refine W_v rfl rfl (V_ext (v := .agg #[v_158]) rfl (et rfl) rfl) ?_
            refine W_v rfl rfl (V_ext (v := .int .i64 ((jnE c d))) rfl (es rfl (et rfl)) rfl) ?_
            refine W_allocS (z := .agg #[.slice none 0 0]) (zs := #[.slice none 0 0]) hS158 rfl rfl rfl (by kernel_rfl) (by rfl) (fun g159 w159 c159 hc159 hS159 => ?_)
            replace hS159 : St w NoX [c159, c_158, c3, c2] w159 := hS159
            refine W_stAS 0 hS159 rfl hc159 rfl rfl rfl (et rfl) (es rfl (es rfl (et rfl))) (by simp only [List.all_toArray, List.all_cons, List.all_nil, SlN_one (ow_at (hS159.chq 1 rfl hc_158))] <;> rfl) (by rfl) (by kernel_rfl) (fun w160 c160 hc160 hS160 => ?_)
            replace hS160 : St w NoX [c160, c_158, c3, c2] w160 := hS160
            refine W_v rfl rfl (V_asg rfl (es rfl (et rfl))) ?_
            refine W_end ?_
            refine gen_Q (fun A161 hA161 => ?_)
            have hsz161 : SzN A161 160 := by rw [hA161]; infer_instance
            have hdf161 : A161.defers = [] := by rw [hA161]; simp only [df_put]; exact hdf155
            have l3_161 := lookE hA161 3 (es rfl (es rfl (es rfl (es rfl (es rfl (es rfl (es rfl (es rfl l3_155))))))))
            have l8_161 := lookE hA161 8 (et rfl)
            have l13_161 := lookE hA161 13 (es rfl (et rfl))
            clear hA161 hsz155 hdf155 l3_155 l4_155 l73_155
            have hS162 : St w NoX [c160, c_158, c2] w160 := hS160.sel [0, 1, 3] (by decide) rfl
            refine then_n (hK157 _ _ ?_)
            clear hK157
            refine wp_seq_k (fun K163 hK163 => ?_)
            refine wp_seq_k (fun K164 hK164 => ?_)
            -- region 10
            refine region_in ?_
            refine W_v rfl rfl (V_mov rfl l8_161) ?_
            refine W_v rfl rfl (V_eql rfl (et rfl) rfl) ?_
            refine W_end ?_
            refine gen_Q (fun A165 hA165 => ?_)
            have hsz165 : SzN A165 160 := by rw [hA165]; infer_instance
            have hdf165 : A165.defers = [] := by rw [hA165]; simp only [df_put]; exact hdf161
            have l3_165 := lookE hA165 3 (es rfl (es rfl l3_161))
            have l13_165 := lookE hA165 13 (es rfl (es rfl l13_161))
            have l81_165 := lookE hA165 81 (et rfl)
            clear hA165 hsz161 hdf161 l3_161 l8_161 l13_161
            refine then_n (hK164 _ _ ?_)
            clear hK164
            refine cond_dec l81_165 (fun c166 => ?_) (fun c166 => ?_)
            · skip
              have hjn := jn_good c166
              refine wp_seq_k (fun K167 hK167 => ?_)
              -- region 11
              refine region_in ?_
              refine W_r rfl rfl (VR_ldA rfl l13_165 (hS162.obj 0 rfl hc160) Try.underlying24 rfl (by kernel_rfl)) ?_
              refine W_call rfl rfl rfl Try.func27 (by kernel_rfl) rfl (args1 (et rfl)) (qCk_c (hS162.chC 1 rfl hc_158).own ) ?_
              rintro _ w168 ⟨rfl, hP168⟩
              refine ⟨_, rfl, ?_⟩
              have hS168 := hS162.join hP168
              replace hS168 : St w NoX [c160, c_158, c2] w168 := hS168
              refine W_v rfl rfl (V_mov rfl (et rfl)) ?_
              refine W_v rfl rfl (V_ext (v := .int .i64 ((ckS (jnT c d)).1)) rfl (et rfl) rfl) ?_
              refine W_v rfl rfl (V_ext (v := .int .i64 ((ckS (jnT c d)).2)) rfl (es rfl (et rfl)) rfl) ?_
              refine W_v rfl rfl (V_asg rfl (es rfl (et rfl))) ?_
              refine W_v rfl rfl (V_asg rfl (es rfl (et rfl))) ?_
              refine W_end ?_
              refine gen_Q (fun A169 hA169 => ?_)
              have hsz169 : SzN A169 160 := by rw [hA169]; infer_instance
              have hdf169 : A169.defers = [] := by rw [hA169]; simp only [df_put]; exact hdf165
              have l3_169 := lookE hA169 3 (es rfl (es rfl (es rfl (es rfl (es rfl (es rfl (es rfl l3_165)))))))
              have l15_169 := lookE hA169 15 (et rfl)
              clear hA169 hsz165 hdf165 l3_165 l13_165 l81_165
              have hS170 : St w NoX [c2] w168 := hS168.sel [2] (by decide) rfl
              refine then_n (hK167 _ _ ?_)
              clear hK167
              refine wp_seq_k (fun K171 hK171 => ?_)
              -- region 12
              refine region_in ?_
              refine W_v rfl rfl (V_mov rfl l15_169) ?_
              refine W_v rfl rfl (V_neq rfl (et rfl) rfl) ?_
              refine W_end ?_
              refine gen_Q (fun A172 hA172 => ?_)
              have hsz172 : SzN A172 160 := by rw [hA172]; infer_instance
              have hdf172 : A172.defers = [] := by rw [hA172]; simp only [df_put]; exact hdf169
              have l3_172 := lookE hA172 3 (es rfl (es rfl l3_169))
              have l88_172 := lookE hA172 88 (et rfl)
              clear hA172 hsz169 hdf169 l3_169 l15_169
              refine then_n (hK171 _ _ ?_)
              clear hK171
              refine cond_not l88_172 (by rw [decide_eq_false_iff_not]; rw [hjn.2.2.2.2.1]; simp) ?_
              refine wp_skip ?_
              refine then_n (hK163 _ _ ?_)
              clear hK163
              refine wp_seq_k (fun K173 hK173 => ?_)
              -- region 14
              refine region_in ?_
              refine W_r rfl rfl (VR_ldA rfl l3_172 (hS170.obj 0 rfl hc2) Try.underlying24 rfl (by kernel_rfl)) ?_
              refine W_call rfl rfl rfl Try.func26 (by kernel_rfl) rfl (args1 (et rfl)) (kCk_c (hS170.roC h_cv) ) ?_
              rintro _ w174 ⟨rfl, hP174⟩
              refine ⟨_, rfl, ?_⟩
              have hS174 := hS170.join hP174
              replace hS174 : St w NoX [c2] w174 := hS174
              refine W_v rfl rfl (V_mov rfl (et rfl)) ?_
              refine W_v rfl rfl (V_ext (v := .int .i64 ((ckS c).1)) rfl (et rfl) rfl) ?_
              refine W_v rfl rfl (V_ext (v := .int .i64 ((ckS c).2)) rfl (es rfl (et rfl)) rfl) ?_
              refine W_v rfl rfl (V_asg rfl (es rfl (et rfl))) ?_
              refine W_v rfl rfl (V_asg rfl (es rfl (et rfl))) ?_
              refine W_end ?_
              refine gen_Q (fun A175 hA175 => ?_)
              have hsz175 : SzN A175 160 := by rw [hA175]; infer_instance
              have hdf175 : A175.defers = [] := by rw [hA175]; simp only [df_put]; exact hdf172
              have l3_175 := lookE hA175 3 (es rfl (es rfl (es rfl (es rfl (es rfl (es rfl (es rfl l3_172)))))))
              have l17_175 := lookE hA175 17 (et rfl)
              clear hA175 hsz172 hdf172 l3_172 l88_172
              refine then_n (hK173 _ _ ?_)
              clear hK173
              refine wp_seq_k (fun K176 hK176 => ?_)
              refine wp_seq_k (fun K177 hK177 => ?_)
              -- region 15
              refine region_in ?_
              refine W_v rfl rfl (V_mov rfl l17_175) ?_
              refine W_v rfl rfl (V_neq rfl (et rfl) rfl) ?_
              refine W_end ?_
              refine gen_Q (fun A178 hA178 => ?_)
              have hsz178 : SzN A178 160 := by rw [hA178]; infer_instance
              have hdf178 : A178.defers = [] := by rw [hA178]; simp only [df_put]; exact hdf175
              have l3_178 := lookE hA178 3 (es rfl (es rfl l3_175))
              have l95_178 := lookE hA178 95 (et rfl)
              clear hA178 hsz175 hdf175 l3_175 l17_175
              refine then_n (hK177 _ _ ?_)
              clear hK177
              refine cond_dec l95_178 (fun c179 => ?_) (fun c179 => ?_)
              · skip
                refine wp_seq_k (fun K180 hK180 => ?_)
                -- region 16
                refine region_in ?_
                refine W_call rfl rfl rfl Try.func12 (by kernel_rfl) rfl (args0) (awake_c  ) ?_
                rintro _ w181 ⟨rfl, hP181⟩
                refine ⟨_, rfl, ?_⟩
                have hS181 := hS174.join hP181
                replace hS181 : St w NoX [c2] w181 := hS181
                refine W_v rfl rfl (V_asg rfl (et rfl)) ?_
                refine W_end ?_
                refine gen_Q (fun A182 hA182 => ?_)
                have hsz182 : SzN A182 160 := by rw [hA182]; infer_instance
                have hdf182 : A182.defers = [] := by rw [hA182]; simp only [df_put]; exact hdf178
                have l6_182 := lookE hA182 6 (et rfl)
                clear hA182 hsz178 hdf178 l3_178 l95_178
                have hS183 : St w NoX [] w181 := hS181.sel [] (by decide) rfl
                refine then_n (hK180 _ _ ?_)
                clear hK180
                refine wp_ret ?_
                refine then_ret ?_
                refine ret_in (results_1 Try.results9 (rv_tmp l6_182)) hdf182 ?_
                -- leaf FFFTFTT
                exact ⟨rfl, hS183.fin0⟩
              · skip
                have hck : (ckS c).2 = 0 := by simpa using c179
                refine wp_skip ?_
                refine then_n (hK176 _ _ ?_)
                clear hK176
                refine wp_seq_k (fun K184 hK184 => ?_)
                -- region 17
                refine region_in ?_
                refine W_r rfl rfl (VR_ldA rfl l3_178 (hS174.obj 0 rfl hc2) Try.underlying24 rfl (by kernel_rfl)) ?_
                refine W_call rfl rfl rfl Try.func24 (by kernel_rfl) rfl (args3 (et rfl) rfl rfl) (kPurge_c (f := 1) (t := 1601) (hS174.roC h_cv) ) ?_
                rintro _ w185 ⟨v_185, rfl, hP185⟩
                refine ⟨_, rfl, ?_⟩
                obtain ⟨c_185, hc_185, hP185⟩ := gen1 hP185
                have hS185 := hS174.join hP185
                replace hS185 : St w NoX [c_185, c2] w185 := hS185
                refine W_v rfl rfl (V_mov rfl (et rfl)) ?_
                refine W_v rfl rfl (V_ext (v := .agg #[v_185]) rfl (et rfl) rfl) ?_
                refine W_v rfl rfl (V_ext (v := .int .i64 ((pgN c 1 1601))) rfl (es rfl (et rfl)) rfl) ?_
                refine W_v rfl rfl (V_ext (v := .int .i64 ((ckS c).2)) rfl (es rfl (es rfl (et rfl))) rfl) ?_
                refine W_allocS (z := .agg #[.slice none 0 0]) (zs := #[.slice none 0 0]) hS185 rfl rfl rfl (by kernel_rfl) (by rfl) (fun g186 w186 c186 hc186 hS186 => ?_)
                replace hS186 : St w NoX [c186, c_185, c2] w186 := hS186
                refine W_stAS 0 hS186 rfl hc186 rfl rfl rfl (et rfl) (es rfl (es rfl (es rfl (et rfl)))) (by simp only [List.all_toArray, List.all_cons, List.all_nil, SlN_one (ow_at (hS186.chq 1 rfl hc_185))] <;> rfl) (by rfl) (by kernel_rfl) (fun w187 c187 hc187 hS187 => ?_)
                replace hS187 : St w NoX [c187, c_185, c2] w187 := hS187
                refine W_v rfl rfl (V_asg rfl (es rfl (es rfl (et rfl)))) ?_
                refine W_v rfl rfl (V_asg rfl (es rfl (es rfl (et rfl)))) ?_
                refine W_end ?_
                refine gen_Q (fun A188 hA188 => ?_)
                have hsz188 : SzN A188 160 := by rw [hA188]; infer_instance
                have hdf188 : A188.defers = [] := by rw [hA188]; simp only [df_put]; exact hdf178
                have l3_188 := lookE hA188 3 (es rfl (es rfl (es rfl (es rfl (es rfl (es rfl (es rfl (es rfl (es rfl l3_178)))))))))
                have l18_188 := lookE hA188 18 (es rfl (es rfl (et rfl)))
                have l20_188 := lookE hA188 20 (et rfl)
                clear hA188 hsz178 hdf178 l3_178 l95_178
                refine then_n (hK184 _ _ ?_)
                clear hK184
                refine wp_seq_k (fun K189 hK189 => ?_)
                refine wp_seq_k (fun K190 hK190 => ?_)
                -- region 18
                refine region_in ?_
                refine W_v rfl rfl (V_asg rfl rfl) ?_
                refine W_end ?_
                refine gen_Q (fun A191 hA191 => ?_)
                have hsz191 : SzN A191 160 := by rw [hA191]; infer_instance
                have hdf191 : A191.defers = [] := by rw [hA191]; simp only [df_put]; exact hdf188
                have l3_191 := lookE hA191 3 (es rfl l3_188)
                have l18_191 := lookE hA191 18 (es rfl l18_188)
                have l20_191 := lookE hA191 20 (es rfl l20_188)
                have l21_191 := lookE hA191 21 (et rfl)
                clear hA191 hsz188 hdf188 l3_188 l18_188 l20_188
                refine then_n (hK190 _ _ ?_)
                clear hK190
                refine wp_block ?_
                -- loop 19
                refine loopX (fun mz A' w' => SzN A' 160 ∧ A'.defers = [] ∧ (∃ (i : Nat) (x : List Int) (tv : Value) (g : Int), (mz = 40 - i) ∧ (i ≤ 40) ∧ (Zr c.length x) ∧ (g = 0) ∧ (EV A' (.tmp 21) = .int .i64 (i : Int)) ∧ (EV A' (.tmp 20) = .int .i64 g) ∧ (EV A' (.tmp 3) = EV A191 (.tmp 3)) ∧ (EV A' (.tmp 18) = EV A191 (.tmp 18)) ∧ (St w NoX [bx g186 24 #[tv], io .i64 tv x, bx g2 24 #[cv]] w'))) (40 - 0) ⟨hsz191, hdf191, 0, (pgT c 1 1601), v_185, (ckS c).2, rfl, (by omega), (zr_purge hck), hck, ((l21_191).trans (by first | rfl | (simp; done) | (congr 1; omega))), ((l20_191).trans (by first | rfl | (simp; done) | (congr 1; omega))), rfl, rfl, (by have q0 := hc187; have q1 : c_185 = io .i64 v_185 (pgT c 1 1601) := hc_185.trans (rfl); have q2 := hc2; subst q0 q1 q2; exact hS187)⟩ ?_
                clear hS187 hc187 hc_185 hc2
                rintro n192 A192 w192 ⟨hsz192, hdf192, i, x, tv, g, hm192, hi, hzr, hg0, l21_192, l20_192, u3_192, u18_192, hS192⟩
                have l3_192 := u3_192.trans l3_191
                have l18_192 := u18_192.trans l18_191
                obtain ⟨c187_192, c_192, c2_192, hc187_192, hc_192, hc2_192, hS192⟩ := gen3 hS192
                refine wp_seq_k (fun K193 hK193 => ?_)
                refine wp_seq_k (fun K194 hK194 => ?_)
                -- region 19
                refine region_in ?_
                refine W_v rfl rfl (V_mov rfl l21_192) ?_
                refine W_v rfl rfl (V_lss rfl (et rfl) rfl) ?_
                refine W_split rfl rfl (V_mov rfl (et rfl)) (fun c195 => ?_) (fun c195 => ?_)
                · skip
                  have hz := zr_cyc hzr (a := (((i : Int) * 17) % 50) + 1) (by omega)
                  refine W_v rfl (wanted_t rfl rfl (et rfl) (ez rfl)) (V_mov rfl (es rfl (es rfl (es rfl l20_192)))) ?_
                  refine W_v rfl (wanted_t rfl rfl (es rfl (et rfl)) (ez rfl)) (V_eql rfl (et rfl) rfl) ?_
                  refine W_v rfl rfl (V_pickT rfl (es rfl (es rfl (et rfl))) (et rfl)) ?_
                  refine W_end ?_
                  refine gen_Q (fun A196 hA196 => ?_)
                  have hsz196 : SzN A196 160 := by rw [hA196]; infer_instance
                  have hdf196 : A196.defers = [] := by rw [hA196]; simp only [df_put]; exact hdf192
                  have l3_196 := lookE hA196 3 (es rfl (es rfl (es rfl (es rfl (es rfl (es rfl l3_192))))))
                  have l18_196 := lookE hA196 18 (es rfl (es rfl (es rfl (es rfl (es rfl (es rfl l18_192))))))
                  have l20_196 := lookE hA196 20 (es rfl (es rfl (es rfl (es rfl (es rfl (es rfl l20_192))))))
                  have l21_196 := lookE hA196 21 (es rfl (es rfl (es rfl (es rfl (es rfl (es rfl l21_192))))))
                  have l106_196 := lookE hA196 106 (es rfl (es rfl (et rfl)))
                  have l107_196 := lookE hA196 107 (es rfl (et rfl))
                  have l108_196 := lookE hA196 108 (et rfl)
                  clear hA196 hsz192 hdf192 l21_192 l20_192 l3_192 l18_192
                  refine then_n (hK194 _ _ ?_)
                  clear hK194
                  refine cond_sure l108_196 (by rw [decide_eq_true_eq]; exact hg0) ?_
                  refine wp_skip ?_
                  refine then_n (hK193 _ _ ?_)
                  clear hK193
                  refine wp_seq_k (fun K197 hK197 => ?_)
                  refine wp_block ?_
                  refine wp_seq_k (fun K198 hK198 => ?_)
                  -- region 21
                  refine region_in ?_
                  refine W_r rfl rfl (VR_ldA rfl l18_196 (hS192.obj 0 rfl hc187_192) Try.underlying24 rfl (by kernel_rfl)) ?_
                  refine W_v rfl rfl (V_mov rfl (es rfl l21_196)) ?_
                  refine W_v rfl rfl (V_mul rfl (et rfl) rfl (by omega) (by omega)) ?_
                  refine W_v rfl rfl (V_rem rfl (et rfl) rfl (by omega) (by omega) (wrap_i64 (by omega) (by omega))) ?_
                  refine W_v rfl rfl (V_add rfl (et rfl) rfl (by omega) (by omega)) ?_
                  refine W_call rfl rfl rfl Try.func15 (by kernel_rfl) rfl (args2 (es rfl (es rfl (es rfl (es rfl (et rfl))))) (et rfl)) (kAdd_c (a := ((((i : Int) * 17) % 50) + 1)) (hS192.chC 1 rfl hc_192).own ) ?_
                  rintro _ w199 ⟨v_199, rfl, hP199⟩
                  refine ⟨_, rfl, ?_⟩
                  obtain ⟨c_199, hc_199, hP199⟩ := gen1 hP199
                  have hS199 := hS192.join hP199
                  replace hS199 : St w NoX [c_199, c187_192, c_192, c2_192] w199 := hS199
                  refine W_v rfl rfl (V_mov rfl (et rfl)) ?_
                  refine W_v rfl rfl (V_ext (v := .agg #[v_199]) rfl (et rfl) rfl) ?_
                  refine W_v rfl rfl (V_ext (v := .bool ((adB x ((((i : Int) * 17) % 50) + 1)))) rfl (es rfl (et rfl)) rfl) ?_
                  refine W_v rfl rfl (V_ext (v := .int .i64 ((chE x ((((i : Int) * 17) % 50) + 1)))) rfl (es rfl (es rfl (et rfl))) rfl) ?_
                  refine W_stAS 1 hS199 rfl hc187_192 rfl rfl rfl (es rfl (es rfl (es rfl (es rfl (es rfl (es rfl (es rfl (es rfl (es rfl (es rfl l18_196)))))))))) (es rfl (es rfl (et rfl))) (by simp only [List.all_toArray, List.all_cons, List.all_nil, SlN_one (ow_at (hS199.chq 0 rfl hc_199))] <;> rfl) (by rfl) (by kernel_rfl) (fun w200 c200 hc200 hS200 => ?_)
                  replace hS200 : St w NoX [c_199, c200, c_192, c2_192] w200 := hS200
                  refine W_v rfl rfl (V_asg rfl (et rfl)) ?_
                  refine W_end ?_
                  refine gen_Q (fun A201 hA201 => ?_)
                  have hsz201 : SzN A201 160 := by rw [hA201]; infer_instance
                  have hdf201 : A201.defers = [] := by rw [hA201]; simp only [df_put]; exact hdf196
                  have l3_201 := lookE hA201 3 (es rfl (es rfl (es rfl (es rfl (es rfl (es rfl (es rfl (es rfl (es rfl (es rfl (es rfl l3_196)))))))))))
                  have l18_201 := lookE hA201 18 (es rfl (es rfl (es rfl (es rfl (es rfl (es rfl (es rfl (es rfl (es rfl (es rfl (es rfl l18_196)))))))))))
                  have l20_201 := lookE hA201 20 (et rfl)
                  have l21_201 := lookE hA201 21 (es rfl (es rfl (es rfl (es rfl (es rfl (es rfl (es rfl (es rfl (es rfl (es rfl (es rfl l21_196)))))))))))
                  have l106_201 := lookE hA201 106 (es rfl (es rfl (es rfl (es rfl (es rfl (es rfl (es rfl (es rfl (es rfl (es rfl (es rfl l106_196)))))))))))
                  have l107_201 := lookE hA201 107 (es rfl (es rfl (es rfl (es rfl (es rfl (es rfl (es rfl (es rfl (es rfl (es rfl (es rfl l107_196)))))))))))
                  clear hA201 hsz196 hdf196 l3_196 l18_196 l20_196 l21_196 l106_196 l107_196 l108_196
                  have hS202 : St w NoX [c_199, c200, c2_192] w200 := hS200.sel [0, 1, 3] (by decide) rfl
                  refine then_n (hK198 _ _ ?_)
                  clear hK198
                  refine wp_seq_k (fun K203 hK203 => ?_)
                  -- region 22
                  refine region_in ?_
                  refine W_v rfl rfl (V_mov rfl l20_201) ?_
                  refine W_v rfl rfl (V_eql rfl (et rfl) rfl) ?_
                  refine W_end ?_
                  refine gen_Q (fun A204 hA204 => ?_)
                  have hsz204 : SzN A204 160 := by rw [hA204]; infer_instance
                  have hdf204 : A204.defers = [] := by rw [hA204]; simp only [df_put]; exact hdf201
                  have l3_204 := lookE hA204 3 (es rfl (es rfl l3_201))
                  have l18_204 := lookE hA204 18 (es rfl (es rfl l18_201))
                  have l20_204 := lookE hA204 20 (es rfl (es rfl l20_201))
                  have l21_204 := lookE hA204 21 (es rfl (es rfl l21_201))
                  have l106_204 := lookE hA204 106 (es rfl (es rfl l106_201))
                  have l107_204 := lookE hA204 107 (es rfl (es rfl l107_201))
                  have l122_204 := lookE hA204 122 (et rfl)
                  clear hA204 hsz201 hdf201 l3_201 l18_201 l20_201 l21_201 l106_201 l107_201
                  refine then_n (hK203 _ _ ?_)
                  clear hK203
                  refine cond_sure l122_204 (by rw [decide_eq_true_eq]; exact hz.1) ?_
                  -- region 23
                  refine region_in ?_
                  refine W_r rfl rfl (VR_ldA rfl l18_204 (hS202.obj 1 rfl hc200) Try.underlying24 rfl (by kernel_rfl)) ?_
                  refine W_v rfl rfl (V_mov rfl (es rfl l21_204)) ?_
                  refine W_v rfl rfl (V_mul rfl (et rfl) rfl (by omega) (by omega)) ?_
                  refine W_v rfl rfl (V_rem rfl (et rfl) rfl (by omega) (by omega) (wrap_i64 (by omega) (by omega))) ?_
                  refine W_v rfl rfl (V_add rfl (et rfl) rfl (by omega) (by omega)) ?_
                  refine W_call rfl rfl rfl Try.func18 (by kernel_rfl) rfl (args2 (es rfl (es rfl (es rfl (es rfl (et rfl))))) (et rfl)) (kDrop_c (a := ((((i : Int) * 17) % 50) + 1)) (hS202.chC 0 rfl hc_199).own ) ?_
                  rintro _ w205 ⟨v_205, rfl, hP205⟩
                  refine ⟨_, rfl, ?_⟩
                  obtain ⟨c_205, hc_205, hP205⟩ := gen1 hP205
                  have hS205 := hS202.join hP205
                  replace hS205 : St w NoX [c_205, c_199, c200, c2_192] w205 := hS205
                  refine W_v rfl rfl (V_mov rfl (et rfl)) ?_
                  refine W_v rfl rfl (V_ext (v := .agg #[v_205]) rfl (et rfl) rfl) ?_
                  refine W_v rfl rfl (V_ext (v := .bool ((hsB (adT x ((((i : Int) * 17) % 50) + 1)) ((((i : Int) * 17) % 50) + 1)))) rfl (es rfl (et rfl)) rfl) ?_
                  refine W_v rfl rfl (V_ext (v := .int .i64 ((chE (adT x ((((i : Int) * 17) % 50) + 1)) ((((i : Int) * 17) % 50) + 1)))) rfl (es rfl (es rfl (et rfl))) rfl) ?_
                  refine W_stAS 2 hS205 rfl hc200 rfl rfl rfl (es rfl (es rfl (es rfl (es rfl (es rfl (es rfl (es rfl (es rfl (es rfl (es rfl l18_204)))))))))) (es rfl (es rfl (et rfl))) (by simp only [List.all_toArray, List.all_cons, List.all_nil, SlN_one (ow_at (hS205.chq 0 rfl hc_205))] <;> rfl) (by rfl) (by kernel_rfl) (fun w206 c206 hc206 hS206 => ?_)
                  replace hS206 : St w NoX [c_205, c_199, c206, c2_192] w206 := hS206
                  refine W_v rfl rfl (V_asg rfl (et rfl)) ?_
                  refine W_end ?_
                  refine gen_Q (fun A207 hA207 => ?_)
                  have hsz207 : SzN A207 160 := by rw [hA207]; infer_instance
                  have hdf207 : A207.defers = [] := by rw [hA207]; simp only [df_put]; exact hdf204
                  have l3_207 := lookE hA207 3 (es rfl (es rfl (es rfl (es rfl (es rfl (es rfl (es rfl (es rfl (es rfl (es rfl (es rfl l3_204)))))))))))
                  have l18_207 := lookE hA207 18 (es rfl (es rfl (es rfl (es rfl (es rfl (es rfl (es rfl (es rfl (es rfl (es rfl (es rfl l18_204)))))))))))
                  have l20_207 := lookE hA207 20 (et rfl)
                  have l21_207 := lookE hA207 21 (es rfl (es rfl (es rfl (es rfl (es rfl (es rfl (es rfl (es rfl (es rfl (es rfl (es rfl l21_204)))))))))))
                  have l106_207 := lookE hA207 106 (es rfl (es rfl (es rfl (es rfl (es rfl (es rfl (es rfl (es rfl (es rfl (es rfl (es rfl l106_204)))))))))))
                  have l107_207 := lookE hA207 107 (es rfl (es rfl (es rfl (es rfl (es rfl (es rfl (es rfl (es rfl (es rfl (es rfl (es rfl l107_204)))))))))))
                  clear hA207 hsz204 hdf204 l3_204 l18_204 l20_204 l21_204 l106_204 l107_204 l122_204
                  have hS208 : St w NoX [c_205, c206, c2_192] w206 := hS206.sel [0, 2, 3] (by decide) rfl
                  refine inb_n ?_
                  refine then_n (hK197 _ _ ?_)
                  clear hK197
                  -- region 20
                  refine region_in ?_
                  refine W_v rfl rfl (V_mov rfl l21_207) ?_
                  refine W_v rfl rfl (V_add rfl (et rfl) rfl (by omega) (by omega)) ?_
                  refine W_v rfl rfl (V_asg rfl (et rfl)) ?_
                  refine W_end ?_
                  refine gen_Q (fun A209 hA209 => ?_)
                  have hsz209 : SzN A209 160 := by rw [hA209]; infer_instance
                  have hdf209 : A209.defers = [] := by rw [hA209]; simp only [df_put]; exact hdf207
                  have l3_209 := lookE hA209 3 (es rfl (es rfl (es rfl l3_207)))
                  have l18_209 := lookE hA209 18 (es rfl (es rfl (es rfl l18_207)))
                  have l20_209 := lookE hA209 20 (es rfl (es rfl (es rfl l20_207)))
                  have l21_209 := lookE hA209 21 (et rfl)
                  have l106_209 := lookE hA209 106 (es rfl (es rfl (es rfl l106_207)))
                  have l107_209 := lookE hA209 107 (es rfl (es rfl (es rfl l107_207)))
                  clear hA209 hsz207 hdf207 l3_207 l18_207 l20_207 l21_207 l106_207 l107_207
                  have hS210 : St w NoX [c206, c_205, c2_192] w206 := hS208.sel [1, 0, 2] (by decide) rfl
                  refine then_n ⟨40 - (i + 1), by simp only [hm192]; omega, hsz209, hdf209, (i + 1), (drT (adT x ((((i : Int) * 17) % 50) + 1)) ((((i : Int) * 17) % 50) + 1)), v_205, (chE (adT x ((((i : Int) * 17) % 50) + 1)) ((((i : Int) * 17) % 50) + 1)), rfl, (by omega), hz.2.2, hz.2.1, ((l21_209).trans (by first | rfl | (simp; done) | (congr 1; omega))), ((l20_209).trans (by first | rfl | (simp; done) | (congr 1; omega))), ((l3_209).trans l3_191.symm), ((l18_209).trans l18_191.symm), (by subst hc206 hc_205 hc2_192; exact hS210)⟩
                · skip
                  have hzl := zr_len hzr
                  refine W_off rfl (wanted_f rfl rfl (et rfl) (ez rfl) rfl) ?_
                  refine W_off rfl (wanted_f rfl rfl (es rfl (et rfl)) (ez rfl) rfl) ?_
                  refine W_v rfl rfl (V_pickF rfl (es rfl (es rfl (et rfl))) rfl) ?_
                  refine W_end ?_
                  refine gen_Q (fun A211 hA211 => ?_)
                  have hsz211 : SzN A211 160 := by rw [hA211]; infer_instance
                  have hdf211 : A211.defers = [] := by rw [hA211]; simp only [df_put]; exact hdf192
                  have l3_211 := lookE hA211 3 (es rfl (es rfl (es rfl (es rfl (es rfl (es rfl l3_192))))))
                  have l18_211 := lookE hA211 18 (es rfl (es rfl (es rfl (es rfl (es rfl (es rfl l18_192))))))
                  have l20_211 := lookE hA211 20 (es rfl (es rfl (es rfl (es rfl (es rfl (es rfl l20_192))))))
                  have l21_211 := lookE hA211 21 (es rfl (es rfl (es rfl (es rfl (es rfl (es rfl l21_192))))))
                  have l106_211 := lookE hA211 106 (es rfl (es rfl (et rfl)))
                  have l107_211 := lookE hA211 107 (es rfl (et rfl))
                  have l108_211 := lookE hA211 108 (et rfl)
                  clear hA211 hsz192 hdf192 l21_192 l20_192 l3_192 l18_192
                  refine then_n (hK194 _ _ ?_)
                  clear hK194
                  refine cond_f l108_211 ?_
                  refine wp_exit ?_
                  refine then_exit ?_
                  refine then_exit ?_
                  refine inb_hit ?_
                  refine then_n (hK189 _ _ ?_)
                  clear hK189
                  refine wp_seq_k (fun K212 hK212 => ?_)
                  -- region 24
                  refine region_in ?_
                  refine W_r rfl rfl (VR_ldA rfl l18_211 (hS192.obj 0 rfl hc187_192) Try.underlying24 rfl (by kernel_rfl)) ?_
                  refine W_call rfl rfl rfl Try.func28 (by kernel_rfl) rfl (args1 (et rfl)) (kLen_c (hS192.chC 1 rfl hc_192).own ) ?_
                  rintro _ w213 ⟨rfl, hP213⟩
                  refine ⟨_, rfl, ?_⟩
                  have hS213 := hS192.join hP213
                  replace hS213 : St w NoX [c187_192, c_192, c2_192] w213 := hS213
                  refine W_v rfl rfl (V_mov rfl (et rfl)) ?_
                  refine W_v rfl rfl (V_ext (v := .int .i64 ((lnN x))) rfl (et rfl) rfl) ?_
                  refine W_v rfl rfl (V_ext (v := .int .i64 ((ckS x).2)) rfl (es rfl (et rfl)) rfl) ?_
                  refine W_v rfl rfl (V_asg rfl (es rfl (et rfl))) ?_
                  refine W_v rfl rfl (V_asg rfl (es rfl (et rfl))) ?_
                  refine W_end ?_
                  refine gen_Q (fun A214 hA214 => ?_)
                  have hsz214 : SzN A214 160 := by rw [hA214]; infer_instance
                  have hdf214 : A214.defers = [] := by rw [hA214]; simp only [df_put]; exact hdf211
                  have l3_214 := lookE hA214 3 (es rfl (es rfl (es rfl (es rfl (es rfl (es rfl (es rfl l3_211)))))))
                  have l18_214 := lookE hA214 18 (es rfl (es rfl (es rfl (es rfl (es rfl (es rfl (es rfl l18_211)))))))
                  have l20_214 := lookE hA214 20 (es rfl (es rfl (es rfl (es rfl (es rfl (es rfl (es rfl l20_211)))))))
                  have l22_214 := lookE hA214 22 (es rfl (et rfl))
                  have l23_214 := lookE hA214 23 (et rfl)
                  clear hA214 hsz211 hdf211 l3_211 l18_211 l20_211 l21_211 l106_211 l107_211 l108_211
                  refine then_n (hK212 _ _ ?_)
                  clear hK212
                  refine wp_seq_k (fun K215 hK215 => ?_)
                  -- region 25
                  refine region_in ?_
                  refine W_v rfl rfl (V_mov rfl l20_214) ?_
                  refine W_v rfl rfl (V_eql rfl (et rfl) rfl) ?_
                  refine W_sure (c' := true) rfl rfl (V_mov rfl (et rfl)) (by rw [decide_eq_true_eq]; exact hg0) ?_
                  refine W_v rfl (wanted_t rfl rfl (et rfl) (ez rfl)) (V_mov rfl (es rfl (es rfl (es rfl l23_214)))) ?_
                  refine W_v rfl (wanted_t rfl rfl (es rfl (et rfl)) (ez rfl)) (V_eql rfl (et rfl) rfl) ?_
                  refine W_v rfl rfl (V_pickT rfl (es rfl (es rfl (et rfl))) (et rfl)) ?_
                  refine W_sure (c' := true) rfl rfl (V_mov rfl (et rfl)) (by rw [decide_eq_true_eq]; exact hzl.1) ?_
                  refine W_v rfl (wanted_t rfl rfl (et rfl) (ez rfl)) (V_mov rfl (es rfl (es rfl (es rfl (es rfl (es rfl (es rfl (es rfl l22_214)))))))) ?_
                  refine W_v rfl (wanted_t rfl rfl (es rfl (et rfl)) (ez rfl)) (V_eql rfl (et rfl) rfl) ?_
                  refine W_v rfl rfl (V_pickT rfl (es rfl (es rfl (et rfl))) (et rfl)) ?_
                  refine W_sure (c' := true) rfl rfl (V_mov rfl (et rfl)) (by rw [decide_eq_true_eq]; exact hzl.2) ?_
                  refine W_v rfl (wanted_t rfl rfl (et rfl) (ez rfl)) (V_fa (off' := 0) rfl (es rfl (es rfl (es rfl (es rfl (es rfl (es rfl (es rfl (es rfl (es rfl (es rfl (es rfl l18_214))))))))))) Try.underlying24 rfl (by decide +kernel) rfl) ?_
                  refine W_r rfl (wanted_t rfl rfl (es rfl (et rfl)) (ez rfl)) (VR_ldC rfl (et rfl) (cell_box (v := tv) (hS213.obj 0 rfl hc187_192) rfl) Try.underlying22 rfl) ?_
                  refine W_v rfl (wanted_t rfl rfl (es rfl (es rfl (et rfl))) (ez rfl)) (V_lenS rfl (et rfl) (ow_at (hS213.chq 1 rfl hc_192)) Try.underlying22) ?_
                  refine W_v rfl (wanted_t rfl rfl (es rfl (es rfl (es rfl (et rfl)))) (ez rfl)) (V_fa (off' := 0) rfl (es rfl (es rfl (es rfl (es rfl (es rfl (es rfl (es rfl (es rfl (es rfl (es rfl (es rfl (es rfl (es rfl (es rfl l3_214)))))))))))))) Try.underlying24 rfl (by decide +kernel) rfl) ?_
                  refine W_r rfl (wanted_t rfl rfl (es rfl (es rfl (es rfl (es rfl (et rfl))))) (ez rfl)) (VR_ldC rfl (et rfl) (cell_box (v := cv) (hS213.obj 2 rfl hc2_192) rfl) Try.underlying22 rfl) ?_
                  refine W_v rfl (wanted_t rfl rfl (es rfl (es rfl (es rfl (es rfl (es rfl (et rfl)))))) (ez rfl)) (V_lenS rfl (et rfl) (sl_SlN h_cv.at) Try.underlying22) ?_
                  refine W_v rfl (wanted_t rfl rfl (es rfl (es rfl (es rfl (es rfl (es rfl (es rfl (et rfl))))))) (ez rfl)) (V_eql rfl (es rfl (es rfl (es rfl (et rfl)))) (et rfl)) ?_
                  refine W_v rfl rfl (V_pickT rfl (es rfl (es rfl (es rfl (es rfl (es rfl (es rfl (es rfl (et rfl)))))))) (et rfl)) ?_
                  refine W_sure (c' := true) rfl rfl (V_mov rfl (et rfl)) (by rw [decide_eq_true_eq]; rw [hzr.len]) ?_
                  refine W_call rfl (wanted_t rfl rfl (et rfl) (ez rfl)) rfl Try.func12 (by kernel_rfl) rfl (args0) (awake_c  ) ?_
                  rintro _ w216 ⟨rfl, hP216⟩
                  refine ⟨_, rfl, ?_⟩
                  have hS216 := hS213.join hP216
                  replace hS216 : St w NoX [c187_192, c_192, c2_192] w216 := hS216
                  refine W_v rfl rfl (V_pickT rfl (es rfl (et rfl)) (et rfl)) ?_
                  refine W_v rfl rfl (V_asg rfl (et rfl)) ?_
                  refine W_end ?_
                  refine gen_Q (fun A217 hA217 => ?_)
                  have hsz217 : SzN A217 160 := by rw [hA217]; infer_instance
                  have hdf217 : A217.defers = [] := by rw [hA217]; simp only [df_put]; exact hdf214
                  have l6_217 := lookE hA217 6 (et rfl)
                  clear hA217 hsz214 hdf214 l3_214 l18_214 l20_214 l22_214 l23_214
                  have hS218 : St w NoX [] w216 := hS216.sel [] (by decide) rfl
                  refine then_n (hK215 _ _ ?_)
                  clear hK215
                  refine wp_ret ?_
                  refine ret_in (results_1 Try.results9 (rv_tmp l6_217)) hdf217 ?_
                  -- leaf FFFTFTFF
                  exact ⟨rfl, hS218.fin0⟩
            · skip
              refine wp_skip ?_
              refine then_n (hK163 _ _ ?_)
              clear hK163
              refine wp_seq_k (fun K219 hK219 => ?_)
              -- region 14
              refine region_in ?_
              refine W_r rfl rfl (VR_ldA rfl l3_165 (hS162.obj 2 rfl hc2) Try.underlying24 rfl (by kernel_rfl)) ?_
              refine W_call rfl rfl rfl Try.func26 (by kernel_rfl) rfl (args1 (et rfl)) (kCk_c (hS162.roC h_cv) ) ?_
              rintro _ w220 ⟨rfl, hP220⟩
              refine ⟨_, rfl, ?_⟩
              have hS220 := hS162.join hP220
              replace hS220 : St w NoX [c160, c_158, c2] w220 := hS220
              refine W_v rfl rfl (V_mov rfl (et rfl)) ?_
              refine W_v rfl rfl (V_ext (v := .int .i64 ((ckS c).1)) rfl (et rfl) rfl) ?_
              refine W_v rfl rfl (V_ext (v := .int .i64 ((ckS c).2)) rfl (es rfl (et rfl)) rfl) ?_
              refine W_v rfl rfl (V_asg rfl (es rfl (et rfl))) ?_
              refine W_v rfl rfl (V_asg rfl (es rfl (et rfl))) ?_
              refine W_end ?_
              refine gen_Q (fun A221 hA221 => ?_)
              have hsz221 : SzN A221 160 := by rw [hA221]; infer_instance
              have hdf221 : A221.defers = [] := by rw [hA221]; simp only [df_put]; exact hdf165
              have l3_221 := lookE hA221 3 (es rfl (es rfl (es rfl (es rfl (es rfl (es rfl (es rfl l3_165)))))))
              have l17_221 := lookE hA221 17 (et rfl)
              clear hA221 hsz165 hdf165 l3_165 l13_165 l81_165
              have hS222 : St w NoX [c2] w220 := hS220.sel [2] (by decide) rfl
              refine then_n (hK219 _ _ ?_)
              clear hK219
              refine wp_seq_k (fun K223 hK223 => ?_)
              refine wp_seq_k (fun K224 hK224 => ?_)
              -- region 15
              refine region_in ?_
              refine W_v rfl rfl (V_mov rfl l17_221) ?_
              refine W_v rfl rfl (V_neq rfl (et rfl) rfl) ?_
              refine W_end ?_
              refine gen_Q (fun A225 hA225 => ?_)
              have hsz225 : SzN A225 160 := by rw [hA225]; infer_instance
              have hdf225 : A225.defers = [] := by rw [hA225]; simp only [df_put]; exact hdf221
              have l3_225 := lookE hA225 3 (es rfl (es rfl l3_221))
              have l95_225 := lookE hA225 95 (et rfl)
              clear hA225 hsz221 hdf221 l3_221 l17_221
              refine then_n (hK224 _ _ ?_)
              clear hK224
              refine cond_dec l95_225 (fun c226 => ?_) (fun c226 => ?_)
              · skip
                refine wp_seq_k (fun K227 hK227 => ?_)
                -- region 16
                refine region_in ?_
                refine W_call rfl rfl rfl Try.func12 (by kernel_rfl) rfl (args0) (awake_c  ) ?_
                rintro _ w228 ⟨rfl, hP228⟩
                refine ⟨_, rfl, ?_⟩
                have hS228 := hS222.join hP228
                replace hS228 : St w NoX [c2] w228 := hS228
                refine W_v rfl rfl (V_asg rfl (et rfl)) ?_
                refine W_end ?_
                refine gen_Q (fun A229 hA229 => ?_)
                have hsz229 : SzN A229 160 := by rw [hA229]; infer_instance
                have hdf229 : A229.defers = [] := by rw [hA229]; simp only [df_put]; exact hdf225
                have l6_229 := lookE hA229 6 (et rfl)
                clear hA229 hsz225 hdf225 l3_225 l95_225
                have hS230 : St w NoX [] w228 := hS228.sel [] (by decide) rfl
                refine then_n (hK227 _ _ ?_)
                clear hK227
                refine wp_ret ?_
                refine then_ret ?_
                refine ret_in (results_1 Try.results9 (rv_tmp l6_229)) hdf229 ?_
                -- leaf FFFTFFT
                exact ⟨rfl, hS230.fin0⟩
              · skip
                have hck : (ckS c).2 = 0 := by simpa using c226
                refine wp_skip ?_
                refine then_n (hK223 _ _ ?_)
                clear hK223
                refine wp_seq_k (fun K231 hK231 => ?_)
                -- region 17
                refine region_in ?_
                refine W_r rfl rfl (VR_ldA rfl l3_225 (hS222.obj 0 rfl hc2) Try.underlying24 rfl (by kernel_rfl)) ?_
                refine W_call rfl rfl rfl Try.func24 (by kernel_rfl) rfl (args3 (et rfl) rfl rfl) (kPurge_c (f := 1) (t := 1601) (hS222.roC h_cv) ) ?_
                rintro _ w232 ⟨v_232, rfl, hP232⟩
                refine ⟨_, rfl, ?_⟩
                obtain ⟨c_232, hc_232, hP232⟩ := gen1 hP232
                have hS232 := hS222.join hP232
                replace hS232 : St w NoX [c_232, c2] w232 := hS232
                refine W_v rfl rfl (V_mov rfl (et rfl)) ?_
                refine W_v rfl rfl (V_ext (v := .agg #[v_232]) rfl (et rfl) rfl) ?_
                refine W_v rfl rfl (V_ext (v := .int .i64 ((pgN c 1 1601))) rfl (es rfl (et rfl)) rfl) ?_
                refine W_v rfl rfl (V_ext (v := .int .i64 ((ckS c).2)) rfl (es rfl (es rfl (et rfl))) rfl) ?_
                refine W_allocS (z := .agg #[.slice none 0 0]) (zs := #[.slice none 0 0]) hS232 rfl rfl rfl (by kernel_rfl) (by rfl) (fun g233 w233 c233 hc233 hS233 => ?_)
                replace hS233 : St w NoX [c233, c_232, c2] w233 := hS233
                refine W_stAS 0 hS233 rfl hc233 rfl rfl rfl (et rfl) (es rfl (es rfl (es rfl (et rfl)))) (by simp only [List.all_toArray, List.all_cons, List.all_nil, SlN_one (ow_at (hS233.chq 1 rfl hc_232))] <;> rfl) (by rfl) (by kernel_rfl) (fun w234 c234 hc234 hS234 => ?_)
                replace hS234 : St w NoX [c234, c_232, c2] w234 := hS234
                refine W_v rfl rfl (V_asg rfl (es rfl (es rfl (et rfl)))) ?_
                refine W_v rfl rfl (V_asg rfl (es rfl (es rfl (et rfl)))) ?_
                refine W_end ?_
                refine gen_Q (fun A235 hA235 => ?_)
                have hsz235 : SzN A235 160 := by rw [hA235]; infer_instance
                have hdf235 : A235.defers = [] := by rw [hA235]; simp only [df_put]; exact hdf225
                have l3_235 := lookE hA235 3 (es rfl (es rfl (es rfl (es rfl (es rfl (es rfl (es rfl (es rfl (es rfl l3_225)))))))))
                have l18_235 := lookE hA235 18 (es rfl (es rfl (et rfl)))
                have l20_235 := lookE hA235 20 (et rfl)
                clear hA235 hsz225 hdf225 l3_225 l95_225
                refine then_n (hK231 _ _ ?_)
                clear hK231
                refine wp_seq_k (fun K236 hK236 => ?_)
                refine wp_seq_k (fun K237 hK237 => ?_)
                -- region 18
                refine region_in ?_
                refine W_v rfl rfl (V_asg rfl rfl) ?_
                refine W_end ?_
                refine gen_Q (fun A238 hA238 => ?_)
                have hsz238 : SzN A238 160 := by rw [hA238]; infer_instance
                have hdf238 : A238.defers = [] := by rw [hA238]; simp only [df_put]; exact hdf235
                have l3_238 := lookE hA238 3 (es rfl l3_235)
                have l18_238 := lookE hA238 18 (es rfl l18_235)
                have l20_238 := lookE hA238 20 (es rfl l20_235)
                have l21_238 := lookE hA238 21 (et rfl)
                clear hA238 hsz235 hdf235 l3_235 l18_235 l20_235
                refine then_n (hK237 _ _ ?_)
                clear hK237
                refine wp_block ?_
                -- loop 19
                refine loopX (fun mz A' w' => SzN A' 160 ∧ A'.defers = [] ∧ (∃ (i : Nat) (x : List Int) (tv : Value) (g : Int), (mz = 40 - i) ∧ (i ≤ 40) ∧ (Zr c.length x) ∧ (g = 0) ∧ (EV A' (.tmp 21) = .int .i64 (i : Int)) ∧ (EV A' (.tmp 20) = .int .i64 g) ∧ (EV A' (.tmp 3) = EV A238 (.tmp 3)) ∧ (EV A' (.tmp 18) = EV A238 (.tmp 18)) ∧ (St w NoX [bx g233 24 #[tv], io .i64 tv x, bx g2 24 #[cv]] w'))) (40 - 0) ⟨hsz238, hdf238, 0, (pgT c 1 1601), v_232, (ckS c).2, rfl, (by omega), (zr_purge hck), hck, ((l21_238).trans (by first | rfl | (simp; done) | (congr 1; omega))), ((l20_238).trans (by first | rfl | (simp; done) | (congr 1; omega))), rfl, rfl, (by have q0 := hc234; have q1 : c_232 = io .i64 v_232 (pgT c 1 1601) := hc_232.trans (rfl); have q2 := hc2; subst q0 q1 q2; exact hS234)⟩ ?_
                clear hS234 hc234 hc_232 hc2
                rintro n239 A239 w239 ⟨hsz239, hdf239, i, x, tv, g, hm239, hi, hzr, hg0, l21_239, l20_239, u3_239, u18_239, hS239⟩
                have l3_239 := u3_239.trans l3_238
                have l18_239 := u18_239.trans l18_238
                obtain ⟨c234_239, c_239, c2_239, hc234_239, hc_239, hc2_239, hS239⟩ := gen3 hS239
                refine wp_seq_k (fun K240 hK240 => ?_)
                refine wp_seq_k (fun K241 hK241 => ?_)
                -- region 19
                refine region_in ?_
                refine W_v rfl rfl (V_mov rfl l21_239) ?_
                refine W_v rfl rfl (V_lss rfl (et rfl) rfl) ?_
                refine W_split rfl rfl (V_mov rfl (et rfl)) (fun c242 => ?_) (fun c242 => ?_)
                · skip
                  have hz := zr_cyc hzr (a := (((i : Int) * 17) % 50) + 1) (by omega)
                  refine W_v rfl (wanted_t rfl rfl (et rfl) (ez rfl)) (V_mov rfl (es rfl (es rfl (es rfl l20_239)))) ?_
                  refine W_v rfl (wanted_t rfl rfl (es rfl (et rfl)) (ez rfl)) (V_eql rfl (et rfl) rfl) ?_
                  refine W_v rfl rfl (V_pickT rfl (es rfl (es rfl (et rfl))) (et rfl)) ?_
                  refine W_end ?_
                  refine gen_Q (fun A243 hA243 => ?_)
                  have hsz243 : SzN A243 160 := by rw [hA243]; infer_instance
                  have hdf243 : A243.defers = [] := by rw [hA243]; simp only [df_put]; exact hdf239
                  have l3_243 := lookE hA243 3 (es rfl (es rfl (es rfl (es rfl (es rfl (es rfl l3_239))))))
                  have l18_243 := lookE hA243 18 (es rfl (es rfl (es rfl (es rfl (es rfl (es rfl l18_239))))))
                  have l20_243 := lookE hA243 20 (es rfl (es rfl (es rfl (es rfl (es rfl (es rfl l20_239))))))
                  have l21_243 := lookE hA243 21 (es rfl (es rfl (es rfl (es rfl (es rfl (es rfl l21_239))))))
                  have l106_243 := lookE hA243 106 (es rfl (es rfl (et rfl)))
                  have l107_243 := lookE hA243 107 (es rfl (et rfl))
                  have l108_243 := lookE hA243 108 (et rfl)
                  clear hA243 hsz239 hdf239 l21_239 l20_239 l3_239 l18_239
                  refine then_n (hK241 _ _ ?_)
                  clear hK241
                  refine cond_sure l108_243 (by rw [decide_eq_true_eq]; exact hg0) ?_
                  refine wp_skip ?_
                  refine then_n (hK240 _ _ ?_)
                  clear hK240
                  refine wp_seq_k (fun K244 hK244 => ?_)
                  refine wp_block ?_
                  refine wp_seq_k (fun K245 hK245 => ?_)
                  -- region 21
                  refine region_in ?_
                  refine W_r rfl rfl (VR_ldA rfl l18_243 (hS239.obj 0 rfl hc234_239) Try.underlying24 rfl (by kernel_rfl)) ?_
                  refine W_v rfl rfl (V_mov rfl (es rfl l21_243)) ?_
                  refine W_v rfl rfl (V_mul rfl (et rfl) rfl (by omega) (by omega)) ?_
                  refine W_v rfl rfl (V_rem rfl (et rfl) rfl (by omega) (by omega) (wrap_i64 (by omega) (by omega))) ?_
                  refine W_v rfl rfl (V_add rfl (et rfl) rfl (by omega) (by omega)) ?_
                  refine W_call rfl rfl rfl Try.func15 (by kernel_rfl) rfl (args2 (es rfl (es rfl (es rfl (es rfl (et rfl))))) (et rfl)) (kAdd_c (a := ((((i : Int) * 17) % 50) + 1)) (hS239.chC 1 rfl hc_239).own ) ?_
                  rintro _ w246 ⟨v_246, rfl, hP246⟩
                  refine ⟨_, rfl, ?_⟩
                  obtain ⟨c_246, hc_246, hP246⟩ := gen1 hP246
                  have hS246 := hS239.join hP246
                  replace hS246 : St w NoX [c_246, c234_239, c_239, c2_239] w246 := hS246
                  refine W_v rfl rfl (V_mov rfl (et rfl)) ?_
                  refine W_v rfl rfl (V_ext (v := .agg #[v_246]) rfl (et rfl) rfl) ?_
                  refine W_v rfl rfl (V_ext (v := .bool ((adB x ((((i : Int) * 17) % 50) + 1)))) rfl (es rfl (et rfl)) rfl) ?_
                  refine W_v rfl rfl (V_ext (v := .int .i64 ((chE x ((((i : Int) * 17) % 50) + 1)))) rfl (es rfl (es rfl (et rfl))) rfl) ?_
                  refine W_stAS 1 hS246 rfl hc234_239 rfl rfl rfl (es rfl (es rfl (es rfl (es rfl (es rfl (es rfl (es rfl (es rfl (es rfl (es rfl l18_243)))))))))) (es rfl (es rfl (et rfl))) (by simp only [List.all_toArray, List.all_cons, List.all_nil, SlN_one (ow_at (hS246.chq 0 rfl hc_246))] <;> rfl) (by rfl) (by kernel_rfl) (fun w247 c247 hc247 hS247 => ?_)
                  replace hS247 : St w NoX [c_246, c247, c_239, c2_239] w247 := hS247
                  refine W_v rfl rfl (V_asg rfl (et rfl)) ?_
                  refine W_end ?_
                  refine gen_Q (fun A248 hA248 => ?_)
                  have hsz248 : SzN A248 160 := by rw [hA248]; infer_instance
                  have hdf248 : A248.defers = [] := by rw [hA248]; simp only [df_put]; exact hdf243
                  have l3_248 := lookE hA248 3 (es rfl (es rfl (es rfl (es rfl (es rfl (es rfl (es rfl (es rfl (es rfl (es rfl (es rfl l3_243)))))))))))
                  have l18_248 := lookE hA248 18 (es rfl (es rfl (es rfl (es rfl (es rfl (es rfl (es rfl (es rfl (es rfl (es rfl (es rfl l18_243)))))))))))
                  have l20_248 := lookE hA248 20 (et rfl)
                  have l21_248 := lookE hA248 21 (es rfl (es rfl (es rfl (es rfl (es rfl (es rfl (es rfl (es rfl (es rfl (es rfl (es rfl l21_243)))))))))))
                  have l106_248 := lookE hA248 106 (es rfl (es rfl (es rfl (es rfl (es rfl (es rfl (es rfl (es rfl (es rfl (es rfl (es rfl l106_243)))))))))))
                  have l107_248 := lookE hA248 107 (es rfl (es rfl (es rfl (es rfl (es rfl (es rfl (es rfl (es rfl (es rfl (es rfl (es rfl l107_243)))))))))))
                  clear hA248 hsz243 hdf243 l3_243 l18_243 l20_243 l21_243 l106_243 l107_243 l108_243
                  have hS249 : St w NoX [c_246, c247, c2_239] w247 := hS247.sel [0, 1, 3] (by decide) rfl
                  refine then_n (hK245 _ _ ?_)
                  clear hK245
                  refine wp_seq_k (fun K250 hK250 => ?_)
                  -- region 22
                  refine region_in ?_
                  refine W_v rfl rfl (V_mov rfl l20_248) ?_
                  refine W_v rfl rfl (V_eql rfl (et rfl) rfl) ?_
                  refine W_end ?_
                  refine gen_Q (fun A251 hA251 => ?_)
                  have hsz251 : SzN A251 160 := by rw [hA251]; infer_instance
                  have hdf251 : A251.defers = [] := by rw [hA251]; simp only [df_put]; exact hdf248
                  have l3_251 := lookE hA251 3 (es rfl (es rfl l3_248))
                  have l18_251 := lookE hA251 18 (es rfl (es rfl l18_248))
                  have l20_251 := lookE hA251 20 (es rfl (es rfl l20_248))
                  have l21_251 := lookE hA251 21 (es rfl (es rfl l21_248))
                  have l106_251 := lookE hA251 106 (es rfl (es rfl l106_248))
                  have l107_251 := lookE hA251 107 (es rfl (es rfl l107_248))
                  have l122_251 := lookE hA251 122 (et rfl)
                  clear hA251 hsz248 hdf248 l3_248 l18_248 l20_248 l21_248 l106_248 l107_248
                  refine then_n (hK250 _ _ ?_)
                  clear hK250
                  refine cond_sure l122_251 (by rw [decide_eq_true_eq]; exact hz.1) ?_
                  -- region 23
                  refine region_in ?_
                  refine W_r rfl rfl (VR_ldA rfl l18_251 (hS249.obj 1 rfl hc247) Try.underlying24 rfl (by kernel_rfl)) ?_
                  refine W_v rfl rfl (V_mov rfl (es rfl l21_251)) ?_
                  refine W_v rfl rfl (V_mul rfl (et rfl) rfl (by omega) (by omega)) ?_
                  refine W_v rfl rfl (V_rem rfl (et rfl) rfl (by omega) (by omega) (wrap_i64 (by omega) (by omega))) ?_
                  refine W_v rfl rfl (V_add rfl (et rfl) rfl (by omega) (by omega)) ?_
                  refine W_call rfl rfl rfl Try.func18 (by kernel_rfl) rfl (args2 (es rfl (es rfl (es rfl (es rfl (et rfl))))) (et rfl)) (kDrop_c (a := ((((i : Int) * 17) % 50) + 1)) (hS249.chC 0 rfl hc_246).own ) ?_
                  rintro _ w252 ⟨v_252, rfl, hP252⟩
                  refine ⟨_, rfl, ?_⟩
                  obtain ⟨c_252, hc_252, hP252⟩ := gen1 hP252
                  have hS252 := hS249.join hP252
                  replace hS252 : St w NoX [c_252, c_246, c247, c2_239] w252 := hS252
                  refine W_v rfl rfl (V_mov rfl (et rfl)) ?_
                  refine W_v rfl rfl (V_ext (v := .agg #[v_252]) rfl (et rfl) rfl) ?_
                  refine W_v rfl rfl (V_ext (v := .bool ((hsB (adT x ((((i : Int) * 17) % 50) + 1)) ((((i : Int) * 17) % 50) + 1)))) rfl (es rfl (et rfl)) rfl) ?_
                  refine W_v rfl rfl (V_ext (v := .int .i64 ((chE (adT x ((((i : Int) * 17) % 50) + 1)) ((((i : Int) * 17) % 50) + 1)))) rfl (es rfl (es rfl (et rfl))) rfl) ?_
                  refine W_stAS 2 hS252 rfl hc247 rfl rfl rfl (es rfl (es rfl (es rfl (es rfl (es rfl (es rfl (es rfl (es rfl (es rfl (es rfl l18_251)))))))))) (es rfl (es rfl (et rfl))) (by simp only [List.all_toArray, List.all_cons, List.all_nil, SlN_one (ow_at (hS252.chq 0 rfl hc_252))] <;> rfl) (by rfl) (by kernel_rfl) (fun w253 c253 hc253 hS253 => ?_)
                  replace hS253 : St w NoX [c_252, c_246, c253, c2_239] w253 := hS253
                  refine W_v rfl rfl (V_asg rfl (et rfl)) ?_
                  refine W_end ?_
                  refine gen_Q (fun A254 hA254 => ?_)
                  have hsz254 : SzN A254 160 := by rw [hA254]; infer_instance
                  have hdf254 : A254.defers = [] := by rw [hA254]; simp only [df_put]; exact hdf251
                  have l3_254 := lookE hA254 3 (es rfl (es rfl (es rfl (es rfl (es rfl (es rfl (es rfl (es rfl (es rfl (es rfl (es rfl l3_251)))))))))))
                  have l18_254 := lookE hA254 18 (es rfl (es rfl (es rfl (es rfl (es rfl (es rfl (es rfl (es rfl (es rfl (es rfl (es rfl l18_251)))))))))))
                  have l20_254 := lookE hA254 20 (et rfl)
                  have l21_254 := lookE hA254 21 (es rfl (es rfl (es rfl (es rfl (es rfl (es rfl (es rfl (es rfl (es rfl (es rfl (es rfl l21_251)))))))))))
                  have l106_254 := lookE hA254 106 (es rfl (es rfl (es rfl (es rfl (es rfl (es rfl (es rfl (es rfl (es rfl (es rfl (es rfl l106_251)))))))))))
                  have l107_254 := lookE hA254 107 (es rfl (es rfl (es rfl (es rfl (es rfl (es rfl (es rfl (es rfl (es rfl (es rfl (es rfl l107_251)))))))))))
                  clear hA254 hsz251 hdf251 l3_251 l18_251 l20_251 l21_251 l106_251 l107_251 l122_251
                  have hS255 : St w NoX [c_252, c253, c2_239] w253 := hS253.sel [0, 2, 3] (by decide) rfl
                  refine inb_n ?_
                  refine then_n (hK244 _ _ ?_)
                  clear hK244
                  -- region 20
                  refine region_in ?_
                  refine W_v rfl rfl (V_mov rfl l21_254) ?_
                  refine W_v rfl rfl (V_add rfl (et rfl) rfl (by omega) (by omega)) ?_
                  refine W_v rfl rfl (V_asg rfl (et rfl)) ?_
                  refine W_end ?_
                  refine gen_Q (fun A256 hA256 => ?_)
                  have hsz256 : SzN A256 160 := by rw [hA256]; infer_instance
                  have hdf256 : A256.defers = [] := by rw [hA256]; simp only [df_put]; exact hdf254
                  have l3_256 := lookE hA256 3 (es rfl (es rfl (es rfl l3_254)))
                  have l18_256 := lookE hA256 18 (es rfl (es rfl (es rfl l18_254)))
                  have l20_256 := lookE hA256 20 (es rfl (es rfl (es rfl l20_254)))
                  have l21_256 := lookE hA256 21 (et rfl)
                  have l106_256 := lookE hA256 106 (es rfl (es rfl (es rfl l106_254)))
                  have l107_256 := lookE hA256 107 (es rfl (es rfl (es rfl l107_254)))
                  clear hA256 hsz254 hdf254 l3_254 l18_254 l20_254 l21_254 l106_254 l107_254
                  have hS257 : St w NoX [c253, c_252, c2_239] w253 := hS255.sel [1, 0, 2] (by decide) rfl
                  refine then_n ⟨40 - (i + 1), by simp only [hm239]; omega, hsz256, hdf256, (i + 1), (drT (adT x ((((i : Int) * 17) % 50) + 1)) ((((i : Int) * 17) % 50) + 1)), v_252, (chE (adT x ((((i : Int) * 17) % 50) + 1)) ((((i : Int) * 17) % 50) + 1)), rfl, (by omega), hz.2.2, hz.2.1, ((l21_256).trans (by first | rfl | (simp; done) | (congr 1; omega))), ((l20_256).trans (by first | rfl | (simp; done) | (congr 1; omega))), ((l3_256).trans l3_238.symm), ((l18_256).trans l18_238.symm), (by subst hc253 hc_252 hc2_239; exact hS257)⟩
                · skip
                  have hzl := zr_len hzr
                  refine W_off rfl (wanted_f rfl rfl (et rfl) (ez rfl) rfl) ?_
                  refine W_off rfl (wanted_f rfl rfl (es rfl (et rfl)) (ez rfl) rfl) ?_
                  refine W_v rfl rfl (V_pickF rfl (es rfl (es rfl (et rfl))) rfl) ?_
                  refine W_end ?_
                  refine gen_Q (fun A258 hA258 => ?_)
                  have hsz258 : SzN A258 160 := by rw [hA258]; infer_instance
                  have hdf258 : A258.defers = [] := by rw [hA258]; simp only [df_put]; exact hdf239
                  have l3_258 := lookE hA258 3 (es rfl (es rfl (es rfl (es rfl (es rfl (es rfl l3_239))))))
                  have l18_258 := lookE hA258 18 (es rfl (es rfl (es rfl (es rfl (es rfl (es rfl l18_239))))))
                  have l20_258 := lookE hA258 20 (es rfl (es rfl (es rfl (es rfl (es rfl (es rfl l20_239))))))
                  have l21_258 := lookE hA258 21 (es rfl (es rfl (es rfl (es rfl (es rfl (es rfl l21_239))))))
                  have l106_258 := lookE hA258 106 (es rfl (es rfl (et rfl)))
                  have l107_258 := lookE hA258 107 (es rfl (et rfl))
                  have l108_258 := lookE hA258 108 (et rfl)
                  clear hA258 hsz239 hdf239 l21_239 l20_239 l3_239 l18_239
                  refine then_n (hK241 _ _ ?_)
                  clear hK241
                  refine cond_f l108_258 ?_
                  refine wp_exit ?_
                  refine then_exit ?_
                  refine then_exit ?_
                  refine inb_hit ?_
                  refine then_n (hK236 _ _ ?_)
                  clear hK236
                  refine wp_seq_k (fun K259 hK259 => ?_)
                  -- region 24
                  refine region_in ?_
                  refine W_r rfl rfl (VR_ldA rfl l18_258 (hS239.obj 0 rfl hc234_239) Try.underlying24 rfl (by kernel_rfl)) ?_
                  refine W_call rfl rfl rfl Try.func28 (by kernel_rfl) rfl (args1 (et rfl)) (kLen_c (hS239.chC 1 rfl hc_239).own ) ?_
                  rintro _ w260 ⟨rfl, hP260⟩
                  refine ⟨_, rfl, ?_⟩
                  have hS260 := hS239.join hP260
                  replace hS260 : St w NoX [c234_239, c_239, c2_239] w260 := hS260
                  refine W_v rfl rfl (V_mov rfl (et rfl)) ?_
                  refine W_v rfl rfl (V_ext (v := .int .i64 ((lnN x))) rfl (et rfl) rfl) ?_
                  refine W_v rfl rfl (V_ext (v := .int .i64 ((ckS x).2)) rfl (es rfl (et rfl)) rfl) ?_
                  refine W_v rfl rfl (V_asg rfl (es rfl (et rfl))) ?_
                  refine W_v rfl rfl (V_asg rfl (es rfl (et rfl))) ?_
                  refine W_end ?_
                  refine gen_Q (fun A261 hA261 => ?_)
                  have hsz261 : SzN A261 160 := by rw [hA261]; infer_instance
                  have hdf261 : A261.defers = [] := by rw [hA261]; simp only [df_put]; exact hdf258
                  have l3_261 := lookE hA261 3 (es rfl (es rfl (es rfl (es rfl (es rfl (es rfl (es rfl l3_258)))))))
                  have l18_261 := lookE hA261 18 (es rfl (es rfl (es rfl (es rfl (es rfl (es rfl (es rfl l18_258)))))))
                  have l20_261 := lookE hA261 20 (es rfl (es rfl (es rfl (es rfl (es rfl (es rfl (es rfl l20_258)))))))
                  have l22_261 := lookE hA261 22 (es rfl (et rfl))
                  have l23_261 := lookE hA261 23 (et rfl)
                  clear hA261 hsz258 hdf258 l3_258 l18_258 l20_258 l21_258 l106_258 l107_258 l108_258
                  refine then_n (hK259 _ _ ?_)
                  clear hK259
                  refine wp_seq_k (fun K262 hK262 => ?_)
                  -- region 25
                  refine region_in ?_
                  refine W_v rfl rfl (V_mov rfl l20_261) ?_
                  refine W_v rfl rfl (V_eql rfl (et rfl) rfl) ?_
                  refine W_sure (c' := true) rfl rfl (V_mov rfl (et rfl)) (by rw [decide_eq_true_eq]; exact hg0) ?_
                  refine W_v rfl (wanted_t rfl rfl (et rfl) (ez rfl)) (V_mov rfl (es rfl (es rfl (es rfl l23_261)))) ?_
                  refine W_v rfl (wanted_t rfl rfl (es rfl (et rfl)) (ez rfl)) (V_eql rfl (et rfl) rfl) ?_
                  refine W_v rfl rfl (V_pickT rfl (es rfl (es rfl (et rfl))) (et rfl)) ?_
                  refine W_sure (c' := true) rfl rfl (V_mov rfl (et rfl)) (by rw [decide_eq_true_eq]; exact hzl.1) ?_
                  refine W_v rfl (wanted_t rfl rfl (et rfl) (ez rfl)) (V_mov rfl (es rfl (es rfl (es rfl (es rfl (es rfl (es rfl (es rfl l22_261)))))))) ?_
                  refine W_v rfl (wanted_t rfl rfl (es rfl (et rfl)) (ez rfl)) (V_eql rfl (et rfl) rfl) ?_
                  refine W_v rfl rfl (V_pickT rfl (es rfl (es rfl (et rfl))) (et rfl)) ?_
                  refine W_sure (c' := true) rfl rfl (V_mov rfl (et rfl)) (by rw [decide_eq_true_eq]; exact hzl.2) ?_
                  refine W_v rfl (wanted_t rfl rfl (et rfl) (ez rfl)) (V_fa (off' := 0) rfl (es rfl (es rfl (es rfl (es rfl (es rfl (es rfl (es rfl (es rfl (es rfl (es rfl (es rfl l18_261))))))))))) Try.underlying24 rfl (by decide +kernel) rfl) ?_
                  refine W_r rfl (wanted_t rfl rfl (es rfl (et rfl)) (ez rfl)) (VR_ldC rfl (et rfl) (cell_box (v := tv) (hS260.obj 0 rfl hc234_239) rfl) Try.underlying22 rfl) ?_
                  refine W_v rfl (wanted_t rfl rfl (es rfl (es rfl (et rfl))) (ez rfl)) (V_lenS rfl (et rfl) (ow_at (hS260.chq 1 rfl hc_239)) Try.underlying22) ?_
                  refine W_v rfl (wanted_t rfl rfl (es rfl (es rfl (es rfl (et rfl)))) (ez rfl)) (V_fa (off' := 0) rfl (es rfl (es rfl (es rfl (es rfl (es rfl (es rfl (es rfl (es rfl (es rfl (es rfl (es rfl (es rfl (es rfl (es rfl l3_261)))))))))))))) Try.underlying24 rfl (by decide +kernel) rfl) ?_
                  refine W_r rfl (wanted_t rfl rfl (es rfl (es rfl (es rfl (es rfl (et rfl))))) (ez rfl)) (VR_ldC rfl (et rfl) (cell_box (v := cv) (hS260.obj 2 rfl hc2_239) rfl) Try.underlying22 rfl) ?_
                  refine W_v rfl (wanted_t rfl rfl (es rfl (es rfl (es rfl (es rfl (es rfl (et rfl)))))) (ez rfl)) (V_lenS rfl (et rfl) (sl_SlN h_cv.at) Try.underlying22) ?_
                  refine W_v rfl (wanted_t rfl rfl (es rfl (es rfl (es rfl (es rfl (es rfl (es rfl (et rfl))))))) (ez rfl)) (V_eql rfl (es rfl (es rfl (es rfl (et rfl)))) (et rfl)) ?_
                  refine W_v rfl rfl (V_pickT rfl (es rfl (es rfl (es rfl (es rfl (es rfl (es rfl (es rfl (et rfl)))))))) (et rfl)) ?_
                  refine W_sure (c' := true) rfl rfl (V_mov rfl (et rfl)) (by rw [decide_eq_true_eq]; rw [hzr.len]) ?_
                  refine W_call rfl (wanted_t rfl rfl (et rfl) (ez rfl)) rfl Try.func12 (by kernel_rfl) rfl (args0) (awake_c  ) ?_
                  rintro _ w263 ⟨rfl, hP263⟩
                  refine ⟨_, rfl, ?_⟩
                  have hS263 := hS260.join hP263
                  replace hS263 : St w NoX [c234_239, c_239, c2_239] w263 := hS263
                  refine W_v rfl rfl (V_pickT rfl (es rfl (et rfl)) (et rfl)) ?_
                  refine W_v rfl rfl (V_asg rfl (et rfl)) ?_
                  refine W_end ?_
                  refine gen_Q (fun A264 hA264 => ?_)
                  have hsz264 : SzN A264 160 := by rw [hA264]; infer_instance
                  have hdf264 : A264.defers = [] := by rw [hA264]; simp only [df_put]; exact hdf261
                  have l6_264 := lookE hA264 6 (et rfl)
                  clear hA264 hsz261 hdf261 l3_261 l18_261 l20_261 l22_261 l23_261
                  have hS265 : St w NoX [] w263 := hS263.sel [] (by decide) rfl
                  refine then_n (hK262 _ _ ?_)
                  clear hK262
                  refine wp_ret ?_
                  refine ret_in (results_1 Try.results9 (rv_tmp l6_264)) hdf264 ?_
                  -- leaf FFFTFFFF
                  exact ⟨rfl, hS265.fin0⟩
        · skip
          refine wp_skip ?_
          refine then_n (hK32 _ _ ?_)
          clear hK32
          refine wp_seq_k (fun K266 hK266 => ?_)
          -- region 9
          refine region_in ?_
          refine W_r rfl rfl (VR_ldA rfl l3_34 (hS30.obj 3 rfl hc2) Try.underlying24 rfl (by kernel_rfl)) ?_
          refine W_r rfl rfl (VR_ldA rfl (es rfl l4_34) (hS30.obj 2 rfl hc3) Try.underlying24 rfl (by kernel_rfl)) ?_
          refine W_call rfl rfl rfl Try.func22 (by kernel_rfl) rfl (args2 (es rfl (et rfl)) (et rfl)) (kJoin_c (hS30.roC h_cv) (hS30.roC h_dv) ) ?_
          rintro _ w267 ⟨v_267, rfl, hP267⟩
          refine ⟨_, rfl, ?_⟩
          obtain ⟨c_267, hc_267, hP267⟩ := gen1 hP267
          have hS267 := hS30.join hP267
          replace hS267 : St w NoX [c_267, c30, c_28, c3, c2] w267 := hS267
          refine W_v rfl rfl (V_mov rfl (et rfl)) ?_
          refine W_v rfl rfl (V_ext (v := .agg #[v_267]) rfl (et rfl) rfl) ?_
          refine W_v rfl rfl (V_ext (v := .int .i64 ((jnE c d))) rfl (es rfl (et rfl)) rfl) ?_
          refine W_allocS (z := .agg #[.slice none 0 0]) (zs := #[.slice none 0 0]) hS267 rfl rfl rfl (by kernel_rfl) (by rfl) (fun g268 w268 c268 hc268 hS268 => ?_)
          replace hS268 : St w NoX [c268, c_267, c30, c_28, c3, c2] w268 := hS268
          refine W_stAS 0 hS268 rfl hc268 rfl rfl rfl (et rfl) (es rfl (es rfl (et rfl))) (by simp only [List.all_toArray, List.all_cons, List.all_nil, SlN_one (ow_at (hS268.chq 1 rfl hc_267))] <;> rfl) (by rfl) (by kernel_rfl) (fun w269 c269 hc269 hS269 => ?_)
          replace hS269 : St w NoX [c269, c_267, c30, c_28, c3, c2] w269 := hS269
          refine W_v rfl rfl (V_asg rfl (es rfl (et rfl))) ?_
          refine W_end ?_
          refine gen_Q (fun A270 hA270 => ?_)
          have hsz270 : SzN A270 160 := by rw [hA270]; infer_instance
          have hdf270 : A270.defers = [] := by rw [hA270]; simp only [df_put]; exact hdf34
          have l3_270 := lookE hA270 3 (es rfl (es rfl (es rfl (es rfl (es rfl (es rfl (es rfl (es rfl l3_34))))))))
          have l8_270 := lookE hA270 8 (et rfl)
          have l13_270 := lookE hA270 13 (es rfl (et rfl))
          clear hA270 hsz34 hdf34 l3_34 l4_34 l7_34 l42_34
          have hS271 : St w NoX [c269, c_267, c2] w269 := hS269.sel [0, 1, 5] (by decide) rfl
          refine then_n (hK266 _ _ ?_)
          clear hK266
          refine wp_seq_k (fun K272 hK272 => ?_)
          refine wp_seq_k (fun K273 hK273 => ?_)
          -- region 10
          refine region_in ?_
          refine W_v rfl rfl (V_mov rfl l8_270) ?_
          refine W_v rfl rfl (V_eql rfl (et rfl) rfl) ?_
          refine W_end ?_
          refine gen_Q (fun A274 hA274 => ?_)
          have hsz274 : SzN A274 160 := by rw [hA274]; infer_instance
          have hdf274 : A274.defers = [] := by rw [hA274]; simp only [df_put]; exact hdf270
          have l3_274 := lookE hA274 3 (es rfl (es rfl l3_270))
          have l13_274 := lookE hA274 13 (es rfl (es rfl l13_270))
          have l81_274 := lookE hA274 81 (et rfl)
          clear hA274 hsz270 hdf270 l3_270 l8_270 l13_270
          refine then_n (hK273 _ _ ?_)
          clear hK273
          refine cond_dec l81_274 (fun c275 => ?_) (fun c275 => ?_)
          · skip
            have hjn := jn_good c275
            refine wp_seq_k (fun K276 hK276 => ?_)
            -- region 11
            refine region_in ?_
            refine W_r rfl rfl (VR_ldA rfl l13_274 (hS271.obj 0 rfl hc269) Try.underlying24 rfl (by kernel_rfl)) ?_
            refine W_call rfl rfl rfl Try.func27 (by kernel_rfl) rfl (args1 (et rfl)) (qCk_c (hS271.chC 1 rfl hc_267).own ) ?_
            rintro _ w277 ⟨rfl, hP277⟩
            refine ⟨_, rfl, ?_⟩
            have hS277 := hS271.join hP277
            replace hS277 : St w NoX [c269, c_267, c2] w277 := hS277
            refine W_v rfl rfl (V_mov rfl (et rfl)) ?_
            refine W_v rfl rfl (V_ext (v := .int .i64 ((ckS (jnT c d)).1)) rfl (et rfl) rfl) ?_
            refine W_v rfl rfl (V_ext (v := .int .i64 ((ckS (jnT c d)).2)) rfl (es rfl (et rfl)) rfl) ?_
            refine W_v rfl rfl (V_asg rfl (es rfl (et rfl))) ?_
            refine W_v rfl rfl (V_asg rfl (es rfl (et rfl))) ?_
            refine W_end ?_
            refine gen_Q (fun A278 hA278 => ?_)
            have hsz278 : SzN A278 160 := by rw [hA278]; infer_instance
            have hdf278 : A278.defers = [] := by rw [hA278]; simp only [df_put]; exact hdf274
            have l3_278 := lookE hA278 3 (es rfl (es rfl (es rfl (es rfl (es rfl (es rfl (es rfl l3_274)))))))
            have l15_278 := lookE hA278 15 (et rfl)
            clear hA278 hsz274 hdf274 l3_274 l13_274 l81_274
            have hS279 : St w NoX [c2] w277 := hS277.sel [2] (by decide) rfl
            refine then_n (hK276 _ _ ?_)
            clear hK276
            refine wp_seq_k (fun K280 hK280 => ?_)
            -- region 12
            refine region_in ?_
            refine W_v rfl rfl (V_mov rfl l15_278) ?_
            refine W_v rfl rfl (V_neq rfl (et rfl) rfl) ?_
            refine W_end ?_
            refine gen_Q (fun A281 hA281 => ?_)
            have hsz281 : SzN A281 160 := by rw [hA281]; infer_instance
            have hdf281 : A281.defers = [] := by rw [hA281]; simp only [df_put]; exact hdf278
            have l3_281 := lookE hA281 3 (es rfl (es rfl l3_278))
            have l88_281 := lookE hA281 88 (et rfl)
            clear hA281 hsz278 hdf278 l3_278 l15_278
            refine then_n (hK280 _ _ ?_)
            clear hK280
            refine cond_not l88_281 (by rw [decide_eq_false_iff_not]; rw [hjn.2.2.2.2.1]; simp) ?_
            refine wp_skip ?_
            refine then_n (hK272 _ _ ?_)
            clear hK272
            refine wp_seq_k (fun K282 hK282 => ?_)
            -- region 14
            refine region_in ?_
            refine W_r rfl rfl (VR_ldA rfl l3_281 (hS279.obj 0 rfl hc2) Try.underlying24 rfl (by kernel_rfl)) ?_
            refine W_call rfl rfl rfl Try.func26 (by kernel_rfl) rfl (args1 (et rfl)) (kCk_c (hS279.roC h_cv) ) ?_
            rintro _ w283 ⟨rfl, hP283⟩
            refine ⟨_, rfl, ?_⟩
            have hS283 := hS279.join hP283
            replace hS283 : St w NoX [c2] w283 := hS283
            refine W_v rfl rfl (V_mov rfl (et rfl)) ?_
            refine W_v rfl rfl (V_ext (v := .int .i64 ((ckS c).1)) rfl (et rfl) rfl) ?_
            refine W_v rfl rfl (V_ext (v := .int .i64 ((ckS c).2)) rfl (es rfl (et rfl)) rfl) ?_
            refine W_v rfl rfl (V_asg rfl (es rfl (et rfl))) ?_
            refine W_v rfl rfl (V_asg rfl (es rfl (et rfl))) ?_
            refine W_end ?_
            refine gen_Q (fun A284 hA284 => ?_)
            have hsz284 : SzN A284 160 := by rw [hA284]; infer_instance
            have hdf284 : A284.defers = [] := by rw [hA284]; simp only [df_put]; exact hdf281
            have l3_284 := lookE hA284 3 (es rfl (es rfl (es rfl (es rfl (es rfl (es rfl (es rfl l3_281)))))))
            have l17_284 := lookE hA284 17 (et rfl)
            clear hA284 hsz281 hdf281 l3_281 l88_281
            refine then_n (hK282 _ _ ?_)
            clear hK282
            refine wp_seq_k (fun K285 hK285 => ?_)
            refine wp_seq_k (fun K286 hK286 => ?_)
            -- region 15
            refine region_in ?_
            refine W_v rfl rfl (V_mov rfl l17_284) ?_
            refine W_v rfl rfl (V_neq rfl (et rfl) rfl) ?_
            refine W_end ?_
            refine gen_Q (fun A287 hA287 => ?_)
            have hsz287 : SzN A287 160 := by rw [hA287]; infer_instance
            have hdf287 : A287.defers = [] := by rw [hA287]; simp only [df_put]; exact hdf284
            have l3_287 := lookE hA287 3 (es rfl (es rfl l3_284))
            have l95_287 := lookE hA287 95 (et rfl)
            clear hA287 hsz284 hdf284 l3_284 l17_284
            refine then_n (hK286 _ _ ?_)
            clear hK286
            refine cond_dec l95_287 (fun c288 => ?_) (fun c288 => ?_)
            · skip
              refine wp_seq_k (fun K289 hK289 => ?_)
              -- region 16
              refine region_in ?_
              refine W_call rfl rfl rfl Try.func12 (by kernel_rfl) rfl (args0) (awake_c  ) ?_
              rintro _ w290 ⟨rfl, hP290⟩
              refine ⟨_, rfl, ?_⟩
              have hS290 := hS283.join hP290
              replace hS290 : St w NoX [c2] w290 := hS290
              refine W_v rfl rfl (V_asg rfl (et rfl)) ?_
              refine W_end ?_
              refine gen_Q (fun A291 hA291 => ?_)
              have hsz291 : SzN A291 160 := by rw [hA291]; infer_instance
              have hdf291 : A291.defers = [] := by rw [hA291]; simp only [df_put]; exact hdf287
              have l6_291 := lookE hA291 6 (et rfl)
              clear hA291 hsz287 hdf287 l3_287 l95_287
              have hS292 : St w NoX [] w290 := hS290.sel [] (by decide) rfl
              refine then_n (hK289 _ _ ?_)
              clear hK289
              refine wp_ret ?_
              refine then_ret ?_
              refine ret_in (results_1 Try.results9 (rv_tmp l6_291)) hdf291 ?_
              -- leaf FFFFTT
              exact ⟨rfl, hS292.fin0⟩
            · skip
              have hck : (ckS c).2 = 0 := by simpa using c288
              refine wp_skip ?_
              refine then_n (hK285 _ _ ?_)
              clear hK285
              refine wp_seq_k (fun K293 hK293 => ?_)
              -- region 17
              refine region_in ?_
              refine W_r rfl rfl (VR_ldA rfl l3_287 (hS283.obj 0 rfl hc2) Try.underlying24 rfl (by kernel_rfl)) ?_
              refine W_call rfl rfl rfl Try.func24 (by kernel_rfl) rfl (args3 (et rfl) rfl rfl) (kPurge_c (f := 1) (t := 1601) (hS283.roC h_cv) ) ?_
              rintro _ w294 ⟨v_294, rfl, hP294⟩
              refine ⟨_, rfl, ?_⟩
              obtain ⟨c_294, hc_294, hP294⟩ := gen1 hP294
              have hS294 := hS283.join hP294
              replace hS294 : St w NoX [c_294, c2] w294 := hS294
              refine W_v rfl rfl (V_mov rfl (et rfl)) ?_
              refine W_v rfl rfl (V_ext (v := .agg #[v_294]) rfl (et rfl) rfl) ?_
              refine W_v rfl rfl (V_ext (v := .int .i64 ((pgN c 1 1601))) rfl (es rfl (et rfl)) rfl) ?_
              refine W_v rfl rfl (V_ext (v := .int .i64 ((ckS c).2)) rfl (es rfl (es rfl (et rfl))) rfl) ?_
              refine W_allocS (z := .agg #[.slice none 0 0]) (zs := #[.slice none 0 0]) hS294 rfl rfl rfl (by kernel_rfl) (by rfl) (fun g295 w295 c295 hc295 hS295 => ?_)
              replace hS295 : St w NoX [c295, c_294, c2] w295 := hS295
              refine W_stAS 0 hS295 rfl hc295 rfl rfl rfl (et rfl) (es rfl (es rfl (es rfl (et rfl)))) (by simp only [List.all_toArray, List.all_cons, List.all_nil, SlN_one (ow_at (hS295.chq 1 rfl hc_294))] <;> rfl) (by rfl) (by kernel_rfl) (fun w296 c296 hc296 hS296 => ?_)
              replace hS296 : St w NoX [c296, c_294, c2] w296 := hS296
              refine W_v rfl rfl (V_asg rfl (es rfl (es rfl (et rfl)))) ?_
              refine W_v rfl rfl (V_asg rfl (es rfl (es rfl (et rfl)))) ?_
              refine W_end ?_
              refine gen_Q (fun A297 hA297 => ?_)
              have hsz297 : SzN A297 160 := by rw [hA297]; infer_instance
              have hdf297 : A297.defers = [] := by rw [hA297]; simp only [df_put]; exact hdf287
              have l3_297 := lookE hA297 3 (es rfl (es rfl (es rfl (es rfl (es rfl (es rfl (es rfl (es rfl (es rfl l3_287)))))))))
              have l18_297 := lookE hA297 18 (es rfl (es rfl (et rfl)))
              have l20_297 := lookE hA297 20 (et rfl)
              clear hA297 hsz287 hdf287 l3_287 l95_287
              refine then_n (hK293 _ _ ?_)
              clear hK293
              refine wp_seq_k (fun K298 hK298 => ?_)
              refine wp_seq_k (fun K299 hK299 => ?_)
              -- region 18
              refine region_in ?_
              refine W_v rfl rfl (V_asg rfl rfl) ?_
              refine W_end ?_
              refine gen_Q (fun A300 hA300 => ?_)
              have hsz300 : SzN A300 160 := by rw [hA300]; infer_instance
              have hdf300 : A300.defers = [] := by rw [hA300]; simp only [df_put]; exact hdf297
              have l3_300 := lookE hA300 3 (es rfl l3_297)
              have l18_300 := lookE hA300 18 (es rfl l18_297)
              have l20_300 := lookE hA300 20 (es rfl l20_297)
              have l21_300 := lookE hA300 21 (et rfl)
              clear hA300 hsz297 hdf297 l3_297 l18_297 l20_297
              refine then_n (hK299 _ _ ?_)
              clear hK299
              refine wp_block ?_
              -- loop 19
              refine loopX (fun mz A' w' => SzN A' 160 ∧ A'.defers = [] ∧ (∃ (i : Nat) (x : List Int) (tv : Value) (g : Int), (mz = 40 - i) ∧ (i ≤ 40) ∧ (Zr c.length x) ∧ (g = 0) ∧ (EV A' (.tmp 21) = .int .i64 (i : Int)) ∧ (EV A' (.tmp 20) = .int .i64 g) ∧ (EV A' (.tmp 3) = EV A300 (.tmp 3)) ∧ (EV A' (.tmp 18) = EV A300 (.tmp 18)) ∧ (St w NoX [bx g295 24 #[tv], io .i64 tv x, bx g2 24 #[cv]] w'))) (40 - 0) ⟨hsz300, hdf300, 0, (pgT c 1 1601), v_294, (ckS c).2, rfl, (by omega), (zr_purge hck), hck, ((l21_300).trans (by first | rfl | (simp; done) | (congr 1; omega))), ((l20_300).trans (by first | rfl | (simp; done) | (congr 1; omega))), rfl, rfl, (by have q0 := hc296; have q1 : c_294 = io .i64 v_294 (pgT c 1 1601) := hc_294.trans (rfl); have q2 := hc2; subst q0 q1 q2; exact hS296)⟩ ?_
              clear hS296 hc296 hc_294 hc2
              rintro n301 A301 w301 ⟨hsz301, hdf301, i, x, tv, g, hm301, hi, hzr, hg0, l21_301, l20_301, u3_301, u18_301, hS301⟩
              have l3_301 := u3_301.trans l3_300
              have l18_301 := u18_301.trans l18_300
              obtain ⟨c296_301, c_301, c2_301, hc296_301, hc_301, hc2_301, hS301⟩ := gen3 hS301
              refine wp_seq_k (fun K302 hK302 => ?_)
              refine wp_seq_k (fun K303 hK303 => ?_)
              -- region 19
              refine region_in ?_
              refine W_v rfl rfl (V_mov rfl l21_301) ?_
              refine W_v rfl rfl (V_lss rfl (et rfl) rfl) ?_
              refine W_split rfl rfl (V_mov rfl (et rfl)) (fun c304 => ?_) (fun c304 => ?_)
              · skip
                have hz := zr_cyc hzr (a := (((i : Int) * 17) % 50) + 1) (by omega)
                refine W_v rfl (wanted_t rfl rfl (et rfl) (ez rfl)) (V_mov rfl (es rfl (es rfl (es rfl l20_301)))) ?_
                refine W_v rfl (wanted_t rfl rfl (es rfl (et rfl)) (ez rfl)) (V_eql rfl (et rfl) rfl) ?_
                refine W_v rfl rfl (V_pickT rfl (es rfl (es rfl (et rfl))) (et rfl)) ?_
                refine W_end ?_
                refine gen_Q (fun A305 hA305 => ?_)
                have hsz305 : SzN A305 160 := by rw [hA305]; infer_instance
                have hdf305 : A305.defers = [] := by rw [hA305]; simp only [df_put]; exact hdf301
                have l3_305 := lookE hA305 3 (es rfl (es rfl (es rfl (es rfl (es rfl (es rfl l3_301))))))
                have l18_305 := lookE hA305 18 (es rfl (es rfl (es rfl (es rfl (es rfl (es rfl l18_301))))))
                have l20_305 := lookE hA305 20 (es rfl (es rfl (es rfl (es rfl (es rfl (es rfl l20_301))))))
                have l21_305 := lookE hA305 21 (es rfl (es rfl (es rfl (es rfl (es rfl (es rfl l21_301))))))
                have l106_305 := lookE hA305 106 (es rfl (es rfl (et rfl)))
                have l107_305 := lookE hA305 107 (es rfl (et rfl))
                have l108_305 := lookE hA305 108 (et rfl)
                clear hA305 hsz301 hdf301 l21_301 l20_301 l3_301 l18_301
                refine then_n (hK303 _ _ ?_)
                clear hK303
                refine cond_sure l108_305 (by rw [decide_eq_true_eq]; exact hg0) ?_
                refine wp_skip ?_
                refine then_n (hK302 _ _ ?_)
                clear hK302
                refine wp_seq_k (fun K306 hK306 => ?_)
                refine wp_block ?_
                refine wp_seq_k (fun K307 hK307 => ?_)
                -- region 21
                refine region_in ?_
                refine W_r rfl rfl (VR_ldA rfl l18_305 (hS301.obj 0 rfl hc296_301) Try.underlying24 rfl (by kernel_rfl)) ?_
                refine W_v rfl rfl (V_mov rfl (es rfl l21_305)) ?_
                refine W_v rfl rfl (V_mul rfl (et rfl) rfl (by omega) (by omega)) ?_
                refine W_v rfl rfl (V_rem rfl (et rfl) rfl (by omega) (by omega) (wrap_i64 (by omega) (by omega))) ?_
                refine W_v rfl rfl (V_add rfl (et rfl) rfl (by omega) (by omega)) ?_
                refine W_call rfl rfl rfl Try.func15 (by kernel_rfl) rfl (args2 (es rfl (es rfl (es rfl (es rfl (et rfl))))) (et rfl)) (kAdd_c (a := ((((i : Int) * 17) % 50) + 1)) (hS301.chC 1 rfl hc_301).own ) ?_
                rintro _ w308 ⟨v_308, rfl, hP308⟩
                refine ⟨_, rfl, ?_⟩
                obtain ⟨c_308, hc_308, hP308⟩ := gen1 hP308
                have hS308 := hS301.join hP308
                replace hS308 : St w NoX [c_308, c296_301, c_301, c2_301] w308 := hS308
                refine W_v rfl rfl (V_mov rfl (et rfl)) ?_
                refine W_v rfl rfl (V_ext (v := .agg #[v_308]) rfl (et rfl) rfl) ?_
                refine W_v rfl rfl (V_ext (v := .bool ((adB x ((((i : Int) * 17) % 50) + 1)))) rfl (es rfl (et rfl)) rfl) ?_
                refine W_v rfl rfl (V_ext (v := .int .i64 ((chE x ((((i : Int) * 17) % 50) + 1)))) rfl (es rfl (es rfl (et rfl))) rfl) ?_
                refine W_stAS 1 hS308 rfl hc296_301 rfl rfl rfl (es rfl (es rfl (es rfl (es rfl (es rfl (es rfl (es rfl (es rfl (es rfl (es rfl l18_305)))))))))) (es rfl (es rfl (et rfl))) (by simp only [List.all_toArray, List.all_cons, List.all_nil, SlN_one (ow_at (hS308.chq 0 rfl hc_308))] <;> rfl) (by rfl) (by kernel_rfl) (fun w309 c309 hc309 hS309 => ?_)
                replace hS309 : St w NoX [c_308, c309, c_301, c2_301] w309 := hS309
                refine W_v rfl rfl (V_asg rfl (et rfl)) ?_
                refine W_end ?_
                refine gen_Q (fun A310 hA310 => ?_)
                have hsz310 : SzN A310 160 := by rw [hA310]; infer_instance
                have hdf310 : A310.defers = [] := by rw [hA310]; simp only [df_put]; exact hdf305
                have l3_310 := lookE hA310 3 (es rfl (es rfl (es rfl (es rfl (es rfl (es rfl (es rfl (es rfl (es rfl (es rfl (es rfl l3_305)))))))))))
                have l18_310 := lookE hA310 18 (es rfl (es rfl (es rfl (es rfl (es rfl (es rfl (es rfl (es rfl (es rfl (es rfl (es rfl l18_305)))))))))))
                have l20_310 := lookE hA310 20 (et rfl)
                have l21_310 := lookE hA310 21 (es rfl (es rfl (es rfl (es rfl (es rfl (es rfl (es rfl (es rfl (es rfl (es rfl (es rfl l21_305)))))))))))
                have l106_310 := lookE hA310 106 (es rfl (es rfl (es rfl (es rfl (es rfl (es rfl (es rfl (es rfl (es rfl (es rfl (es rfl l106_305)))))))))))
                have l107_310 := lookE hA310 107 (es rfl (es rfl (es rfl (es rfl (es rfl (es rfl (es rfl (es rfl (es rfl (es rfl (es rfl l107_305)))))))))))
                clear hA310 hsz305 hdf305 l3_305 l18_305 l20_305 l21_305 l106_305 l107_305 l108_305
                have hS311 : St w NoX [c_308, c309, c2_301] w309 := hS309.sel [0, 1, 3] (by decide) rfl
                refine then_n (hK307 _ _ ?_)
                clear hK307
                refine wp_seq_k (fun K312 hK312 => ?_)
                -- region 22
                refine region_in ?_
                refine W_v rfl rfl (V_mov rfl l20_310) ?_
                refine W_v rfl rfl (V_eql rfl (et rfl) rfl) ?_
                refine W_end ?_
                refine gen_Q (fun A313 hA313 => ?_)
                have hsz313 : SzN A313 160 := by rw [hA313]; infer_instance
                have hdf313 : A313.defers = [] := by rw [hA313]; simp only [df_put]; exact hdf310
                have l3_313 := lookE hA313 3 (es rfl (es rfl l3_310))
                have l18_313 := lookE hA313 18 (es rfl (es rfl l18_310))
                have l20_313 := lookE hA313 20 (es rfl (es rfl l20_310))
                have l21_313 := lookE hA313 21 (es rfl (es rfl l21_310))
                have l106_313 := lookE hA313 106 (es rfl (es rfl l106_310))
                have l107_313 := lookE hA313 107 (es rfl (es rfl l107_310))
                have l122_313 := lookE hA313 122 (et rfl)
                clear hA313 hsz310 hdf310 l3_310 l18_310 l20_310 l21_310 l106_310 l107_310
                refine then_n (hK312 _ _ ?_)
                clear hK312
                refine cond_sure l122_313 (by rw [decide_eq_true_eq]; exact hz.1) ?_
                -- region 23
                refine region_in ?_
                refine W_r rfl rfl (VR_ldA rfl l18_313 (hS311.obj 1 rfl hc309) Try.underlying24 rfl (by kernel_rfl)) ?_
                refine W_v rfl rfl (V_mov rfl (es rfl l21_313)) ?_
                refine W_v rfl rfl (V_mul rfl (et rfl) rfl (by omega) (by omega)) ?_
                refine W_v rfl rfl (V_rem rfl (et rfl) rfl (by omega) (by omega) (wrap_i64 (by omega) (by omega))) ?_
                refine W_v rfl rfl (V_add rfl (et rfl) rfl (by omega) (by omega)) ?_
                refine W_call rfl rfl rfl Try.func18 (by kernel_rfl) rfl (args2 (es rfl (es rfl (es rfl (es rfl (et rfl))))) (et rfl)) (kDrop_c (a := ((((i : Int) * 17) % 50) + 1)) (hS311.chC 0 rfl hc_308).own ) ?_
                rintro _ w314 ⟨v_314, rfl, hP314⟩
                refine ⟨_, rfl, ?_⟩
                obtain ⟨c_314, hc_314, hP314⟩ := gen1 hP314
                have hS314 := hS311.join hP314
                replace hS314 : St w NoX [c_314, c_308, c309, c2_301] w314 := hS314
                refine W_v rfl rfl (V_mov rfl (et rfl)) ?_
                refine W_v rfl rfl (V_ext (v := .agg #[v_314]) rfl (et rfl) rfl) ?_
                refine W_v rfl rfl (V_ext (v := .bool ((hsB (adT x ((((i : Int) * 17) % 50) + 1)) ((((i : Int) * 17) % 50) + 1)))) rfl (es rfl (et rfl)) rfl) ?_
                refine W_v rfl rfl (V_ext (v := .int .i64 ((chE (adT x ((((i : Int) * 17) % 50) + 1)) ((((i : Int) * 17) % 50) + 1)))) rfl (es rfl (es rfl (et rfl))) rfl) ?_
                refine W_stAS 2 hS314 rfl hc309 rfl rfl rfl (es rfl (es rfl (es rfl (es rfl (es rfl (es rfl (es rfl (es rfl (es rfl (es rfl l18_313)))))))))) (es rfl (es rfl (et rfl))) (by simp only [List.all_toArray, List.all_cons, List.all_nil, SlN_one (ow_at (hS314.chq 0 rfl hc_314))] <;> rfl) (by rfl) (by kernel_rfl) (fun w315 c315 hc315 hS315 => ?_)
                replace hS315 : St w NoX [c_314, c_308, c315, c2_301] w315 := hS315
                refine W_v rfl rfl (V_asg rfl (et rfl)) ?_
                refine W_end ?_
                refine gen_Q (fun A316 hA316 => ?_)
                have hsz316 : SzN A316 160 := by rw [hA316]; infer_instance
                have hdf316 : A316.defers = [] := by rw [hA316]; simp only [df_put]; exact hdf313
                have l3_316 := lookE hA316 3 (es rfl (es rfl (es rfl (es rfl (es rfl (es rfl (es rfl (es rfl (es rfl (es rfl (es rfl l3_313)))))))))))
                have l18_316 := lookE hA316 18 (es rfl (es rfl (es rfl (es rfl (es rfl (es rfl (es rfl (es rfl (es rfl (es rfl (es rfl l18_313)))))))))))
                have l20_316 := lookE hA316 20 (et rfl)
                have l21_316 := lookE hA316 21 (es rfl (es rfl (es rfl (es rfl (es rfl (es rfl (es rfl (es rfl (es rfl (es rfl (es rfl l21_313)))))))))))
                have l106_316 := lookE hA316 106 (es rfl (es rfl (es rfl (es rfl (es rfl (es rfl (es rfl (es rfl (es rfl (es rfl (es rfl l106_313)))))))))))
                have l107_316 := lookE hA316 107 (es rfl (es rfl (es rfl (es rfl (es rfl (es rfl (es rfl (es rfl (es rfl (es rfl (es rfl l107_313)))))))))))
                clear hA316 hsz313 hdf313 l3_313 l18_313 l20_313 l21_313 l106_313 l107_313 l122_313
                have hS317 : St w NoX [c_314, c315, c2_301] w315 := hS315.sel [0, 2, 3] (by decide) rfl
                refine inb_n ?_
                refine then_n (hK306 _ _ ?_)
                clear hK306
                -- region 20
                refine region_in ?_
                refine W_v rfl rfl (V_mov rfl l21_316) ?_
                refine W_v rfl rfl (V_add rfl (et rfl) rfl (by omega) (by omega)) ?_
                refine W_v rfl rfl (V_asg rfl (et rfl)) ?_
                refine W_end ?_
                refine gen_Q (fun A318 hA318 => ?_)
                have hsz318 : SzN A318 160 := by rw [hA318]; infer_instance
                have hdf318 : A318.defers = [] := by rw [hA318]; simp only [df_put]; exact hdf316
                have l3_318 := lookE hA318 3 (es rfl (es rfl (es rfl l3_316)))
                have l18_318 := lookE hA318 18 (es rfl (es rfl (es rfl l18_316)))
                have l20_318 := lookE hA318 20 (es rfl (es rfl (es rfl l20_316)))
                have l21_318 := lookE hA318 21 (et rfl)
                have l106_318 := lookE hA318 106 (es rfl (es rfl (es rfl l106_316)))
                have l107_318 := lookE hA318 107 (es rfl (es rfl (es rfl l107_316)))
                clear hA318 hsz316 hdf316 l3_316 l18_316 l20_316 l21_316 l106_316 l107_316
                have hS319 : St w NoX [c315, c_314, c2_301] w315 := hS317.sel [1, 0, 2] (by decide) rfl
                refine then_n ⟨40 - (i + 1), by simp only [hm301]; omega, hsz318, hdf318, (i + 1), (drT (adT x ((((i : Int) * 17) % 50) + 1)) ((((i : Int) * 17) % 50) + 1)), v_314, (chE (adT x ((((i : Int) * 17) % 50) + 1)) ((((i : Int) * 17) % 50) + 1)), rfl, (by omega), hz.2.2, hz.2.1, ((l21_318).trans (by first | rfl | (simp; done) | (congr 1; omega))), ((l20_318).trans (by first | rfl | (simp; done) | (congr 1; omega))), ((l3_318).trans l3_300.symm), ((l18_318).trans l18_300.symm), (by subst hc315 hc_314 hc2_301; exact hS319)⟩
              · skip
                have hzl := zr_len hzr
                refine W_off rfl (wanted_f rfl rfl (et rfl) (ez rfl) rfl) ?_
                refine W_off rfl (wanted_f rfl rfl (es rfl (et rfl)) (ez rfl) rfl) ?_
                refine W_v rfl rfl (V_pickF rfl (es rfl (es rfl (et rfl))) rfl) ?_
                refine W_end ?_
                refine gen_Q (fun A320 hA320 => ?_)
                have hsz320 : SzN A320 160 := by rw [hA320]; infer_instance
                have hdf320 : A320.defers = [] := by rw [hA320]; simp only [df_put]; exact hdf301
                have l3_320 := lookE hA320 3 (es rfl (es rfl (es rfl (es rfl (es rfl (es rfl l3_301))))))
                have l18_320 := lookE hA320 18 (es rfl (es rfl (es rfl (es rfl (es rfl (es rfl l18_301))))))
                have l20_320 := lookE hA320 20 (es rfl (es rfl (es rfl (es rfl (es rfl (es rfl l20_301))))))
                have l21_320 := lookE hA320 21 (es rfl (es rfl (es rfl (es rfl (es rfl (es rfl l21_301))))))
                have l106_320 := lookE hA320 106 (es rfl (es rfl (et rfl)))
                have l107_320 := lookE hA320 107 (es rfl (et rfl))
                have l108_320 := lookE hA320 108 (et rfl)
                clear hA320 hsz301 hdf301 l21_301 l20_301 l3_301 l18_301
                refine then_n (hK303 _ _ ?_)
                clear hK303
                refine cond_f l108_320 ?_
                refine wp_exit ?_
                refine then_exit ?_
                refine then_exit ?_
                refine inb_hit ?_
                refine then_n (hK298 _ _ ?_)
                clear hK298
                refine wp_seq_k (fun K321 hK321 => ?_)
                -- region 24
                refine region_in ?_
                refine W_r rfl rfl (VR_ldA rfl l18_320 (hS301.obj 0 rfl hc296_301) Try.underlying24 rfl (by kernel_rfl)) ?_
                refine W_call rfl rfl rfl Try.func28 (by kernel_rfl) rfl (args1 (et rfl)) (kLen_c (hS301.chC 1 rfl hc_301).own ) ?_
                rintro _ w322 ⟨rfl, hP322⟩
                refine ⟨_, rfl, ?_⟩
                have hS322 := hS301.join hP322
                replace hS322 : St w NoX [c296_301, c_301, c2_301] w322 := hS322
                refine W_v rfl rfl (V_mov rfl (et rfl)) ?_
                refine W_v rfl rfl (V_ext (v := .int .i64 ((lnN x))) rfl (et rfl) rfl) ?_
                refine W_v rfl rfl (V_ext (v := .int .i64 ((ckS x).2)) rfl (es rfl (et rfl)) rfl) ?_
                refine W_v rfl rfl (V_asg rfl (es rfl (et rfl))) ?_
                refine W_v rfl rfl (V_asg rfl (es rfl (et rfl))) ?_
                refine W_end ?_
                refine gen_Q (fun A323 hA323 => ?_)
                have hsz323 : SzN A323 160 := by rw [hA323]; infer_instance
                have hdf323 : A323.defers = [] := by rw [hA323]; simp only [df_put]; exact hdf320
                have l3_323 := lookE hA323 3 (es rfl (es rfl (es rfl (es rfl (es rfl (es rfl (es rfl l3_320)))))))
                have l18_323 := lookE hA323 18 (es rfl (es rfl (es rfl (es rfl (es rfl (es rfl (es rfl l18_320)))))))
                have l20_323 := lookE hA323 20 (es rfl (es rfl (es rfl (es rfl (es rfl (es rfl (es rfl l20_320)))))))
                have l22_323 := lookE hA323 22 (es rfl (et rfl))
                have l23_323 := lookE hA323 23 (et rfl)
                clear hA323 hsz320 hdf320 l3_320 l18_320 l20_320 l21_320 l106_320 l107_320 l108_320
                refine then_n (hK321 _ _ ?_)
                clear hK321
                refine wp_seq_k (fun K324 hK324 => ?_)
                -- region 25
                refine region_in ?_
                refine W_v rfl rfl (V_mov rfl l20_323) ?_
                refine W_v rfl rfl (V_eql rfl (et rfl) rfl) ?_
                refine W_sure (c' := true) rfl rfl (V_mov rfl (et rfl)) (by rw [decide_eq_true_eq]; exact hg0) ?_
                refine W_v rfl (wanted_t rfl rfl (et rfl) (ez rfl)) (V_mov rfl (es rfl (es rfl (es rfl l23_323)))) ?_
                refine W_v rfl (wanted_t rfl rfl (es rfl (et rfl)) (ez rfl)) (V_eql rfl (et rfl) rfl) ?_
                refine W_v rfl rfl (V_pickT rfl (es rfl (es rfl (et rfl))) (et rfl)) ?_
                refine W_sure (c' := true) rfl rfl (V_mov rfl (et rfl)) (by rw [decide_eq_true_eq]; exact hzl.1) ?_
                refine W_v rfl (wanted_t rfl rfl (et rfl) (ez rfl)) (V_mov rfl (es rfl (es rfl (es rfl (es rfl (es rfl (es rfl (es rfl l22_323)))))))) ?_
                refine W_v rfl (wanted_t rfl rfl (es rfl (et rfl)) (ez rfl)) (V_eql rfl (et rfl) rfl) ?_
                refine W_v rfl rfl (V_pickT rfl (es rfl (es rfl (et rfl))) (et rfl)) ?_
                refine W_sure (c' := true) rfl rfl (V_mov rfl (et rfl)) (by rw [decide_eq_true_eq]; exact hzl.2) ?_
                refine W_v rfl (wanted_t rfl rfl (et rfl) (ez rfl)) (V_fa (off' := 0) rfl (es rfl (es rfl (es rfl (es rfl (es rfl (es rfl (es rfl (es rfl (es rfl (es rfl (es rfl l18_323))))))))))) Try.underlying24 rfl (by decide +kernel) rfl) ?_
                refine W_r rfl (wanted_t rfl rfl (es rfl (et rfl)) (ez rfl)) (VR_ldC rfl (et rfl) (cell_box (v := tv) (hS322.obj 0 rfl hc296_301) rfl) Try.underlying22 rfl) ?_
                refine W_v rfl (wanted_t rfl rfl (es rfl (es rfl (et rfl))) (ez rfl)) (V_lenS rfl (et rfl) (ow_at (hS322.chq 1 rfl hc_301)) Try.underlying22) ?_
                refine W_v rfl (wanted_t rfl rfl (es rfl (es rfl (es rfl (et rfl)))) (ez rfl)) (V_fa (off' := 0) rfl (es rfl (es rfl (es rfl (es rfl (es rfl (es rfl (es rfl (es rfl (es rfl (es rfl (es rfl (es rfl (es rfl (es rfl l3_323)))))))))))))) Try.underlying24 rfl (by decide +kernel) rfl) ?_
                refine W_r rfl (wanted_t rfl rfl (es rfl (es rfl (es rfl (es rfl (et rfl))))) (ez rfl)) (VR_ldC rfl (et rfl) (cell_box (v := cv) (hS322.obj 2 rfl hc2_301) rfl) Try.underlying22 rfl) ?_
                refine W_v rfl (wanted_t rfl rfl (es rfl (es rfl (es rfl (es rfl (es rfl (et rfl)))))) (ez rfl)) (V_lenS rfl (et rfl) (sl_SlN h_cv.at) Try.underlying22) ?_
                refine W_v rfl (wanted_t rfl rfl (es rfl (es rfl (es rfl (es rfl (es rfl (es rfl (et rfl))))))) (ez rfl)) (V_eql rfl (es rfl (es rfl (es rfl (et rfl)))) (et rfl)) ?_
                refine W_v rfl rfl (V_pickT rfl (es rfl (es rfl (es rfl (es rfl (es rfl (es rfl (es rfl (et rfl)))))))) (et rfl)) ?_
                refine W_sure (c' := true) rfl rfl (V_mov rfl (et rfl)) (by rw [decide_eq_true_eq]; rw [hzr.len]) ?_
                refine W_call rfl (wanted_t rfl rfl (et rfl) (ez rfl)) rfl Try.func12 (by kernel_rfl) rfl (args0) (awake_c  ) ?_
                rintro _ w325 ⟨rfl, hP325⟩
                refine ⟨_, rfl, ?_⟩
                have hS325 := hS322.join hP325
                replace hS325 : St w NoX [c296_301, c_301, c2_301] w325 := hS325
                refine W_v rfl rfl (V_pickT rfl (es rfl (et rfl)) (et rfl)) ?_
                refine W_v rfl rfl (V_asg rfl (et rfl)) ?_
                refine W_end ?_
                refine gen_Q (fun A326 hA326 => ?_)
                have hsz326 : SzN A326 160 := by rw [hA326]; infer_instance
                have hdf326 : A326.defers = [] := by rw [hA326]; simp only [df_put]; exact hdf323
                have l6_326 := lookE hA326 6 (et rfl)
                clear hA326 hsz323 hdf323 l3_323 l18_323 l20_323 l22_323 l23_323
                have hS327 : St w NoX [] w325 := hS325.sel [] (by decide) rfl
                refine then_n (hK324 _ _ ?_)
                clear hK324
                refine wp_ret ?_
                refine ret_in (results_1 Try.results9 (rv_tmp l6_326)) hdf326 ?_
                -- leaf FFFFTFF
                exact ⟨rfl, hS327.fin0⟩
          · skip
            refine wp_skip ?_
            refine then_n (hK272 _ _ ?_)
            clear hK272
            refine wp_seq_k (fun K328 hK328 => ?_)
            -- region 14
            refine region_in ?_
            refine W_r rfl rfl (VR_ldA rfl l3_274 (hS271.obj 2 rfl hc2) Try.underlying24 rfl (by kernel_rfl)) ?_
            refine W_call rfl rfl rfl Try.func26 (by kernel_rfl) rfl (args1 (et rfl)) (kCk_c (hS271.roC h_cv) ) ?_
            rintro _ w329 ⟨rfl, hP329⟩
            refine ⟨_, rfl, ?_⟩
            have hS329 := hS271.join hP329
            replace hS329 : St w NoX [c269, c_267, c2] w329 := hS329
            refine W_v rfl rfl (V_mov rfl (et rfl)) ?_
            refine W_v rfl rfl (V_ext (v := .int .i64 ((ckS c).1)) rfl (et rfl) rfl) ?_
            refine W_v rfl rfl (V_ext (v := .int .i64 ((ckS c).2)) rfl (es rfl (et rfl)) rfl) ?_
            refine W_v rfl rfl (V_asg rfl (es rfl (et rfl))) ?_
            refine W_v rfl rfl (V_asg rfl (es rfl (et rfl))) ?_
            refine W_end ?_
            refine gen_Q (fun A330 hA330 => ?_)
            have hsz330 : SzN A330 160 := by rw [hA330]; infer_instance
            have hdf330 : A330.defers = [] := by rw [hA330]; simp only [df_put]; exact hdf274
            have l3_330 := lookE hA330 3 (es rfl (es rfl (es rfl (es rfl (es rfl (es rfl (es rfl l3_274)))))))
            have l17_330 := lookE hA330 17 (et rfl)
            clear hA330 hsz274 hdf274 l3_274 l13_274 l81_274
            have hS331 : St w NoX [c2] w329 := hS329.sel [2] (by decide) rfl
            refine then_n (hK328 _ _ ?_)
            clear hK328
            refine wp_seq_k (fun K332 hK332 => ?_)
            refine wp_seq_k (fun K333 hK333 => ?_)
            -- region 15
            refine region_in ?_
            refine W_v rfl rfl (V_mov rfl l17_330) ?_
            refine W_v rfl rfl (V_neq rfl (et rfl) rfl) ?_
            refine W_end ?_
            refine gen_Q (fun A334 hA334 => ?_)
            have hsz334 : SzN A334 160 := by rw [hA334]; infer_instance
            have hdf334 : A334.defers = [] := by rw [hA334]; simp only [df_put]; exact hdf330
            have l3_334 := lookE hA334 3 (es rfl (es rfl l3_330))
            have l95_334 := lookE hA334 95 (et rfl)
            clear hA334 hsz330 hdf330 l3_330 l17_330
            refine then_n (hK333 _ _ ?_)
            clear hK333
            refine cond_dec l95_334 (fun c335 => ?_) (fun c335 => ?_)
            · skip
              refine wp_seq_k (fun K336 hK336 => ?_)
              -- region 16
              refine region_in ?_
              refine W_call rfl rfl rfl Try.func12 (by kernel_rfl) rfl (args0) (awake_c  ) ?_
              rintro _ w337 ⟨rfl, hP337⟩
              refine ⟨_, rfl, ?_⟩
              have hS337 := hS331.join hP337
              replace hS337 : St w NoX [c2] w337 := hS337
              refine W_v rfl rfl (V_asg rfl (et rfl)) ?_
              refine W_end ?_
              refine gen_Q (fun A338 hA338 => ?_)
              have hsz338 : SzN A338 160 := by rw [hA338]; infer_instance
              have hdf338 : A338.defers = [] := by rw [hA338]; simp only [df_put]; exact hdf334
              have l6_338 := lookE hA338 6 (et rfl)
              clear hA338 hsz334 hdf334 l3_334 l95_334
              have hS339 : St w NoX [] w337 := hS337.sel [] (by decide) rfl
              refine then_n (hK336 _ _ ?_)
              clear hK336
              refine wp_ret ?_
              refine then_ret ?_
              refine ret_in (results_1 Try.results9 (rv_tmp l6_338)) hdf338 ?_
              -- leaf FFFFFT
              exact ⟨rfl, hS339.fin0⟩
            · skip
              have hck : (ckS c).2 = 0 := by simpa using c335
              refine wp_skip ?_
              refine then_n (hK332 _ _ ?_)
              clear hK332
              refine wp_seq_k (fun K340 hK340 => ?_)
              -- region 17
              refine region_in ?_
              refine W_r rfl rfl (VR_ldA rfl l3_334 (hS331.obj 0 rfl hc2) Try.underlying24 rfl (by kernel_rfl)) ?_
              refine W_call rfl rfl rfl Try.func24 (by kernel_rfl) rfl (args3 (et rfl) rfl rfl) (kPurge_c (f := 1) (t := 1601) (hS331.roC h_cv) ) ?_
              rintro _ w341 ⟨v_341, rfl, hP341⟩
              refine ⟨_, rfl, ?_⟩
              obtain ⟨c_341, hc_341, hP341⟩ := gen1 hP341
              have hS341 := hS331.join hP341
              replace hS341 : St w NoX [c_341, c2] w341 := hS341
              refine W_v rfl rfl (V_mov rfl (et rfl)) ?_
              refine W_v rfl rfl (V_ext (v := .agg #[v_341]) rfl (et rfl) rfl) ?_
              refine W_v rfl rfl (V_ext (v := .int .i64 ((pgN c 1 1601))) rfl (es rfl (et rfl)) rfl) ?_
              refine W_v rfl rfl (V_ext (v := .int .i64 ((ckS c).2)) rfl (es rfl (es rfl (et rfl))) rfl) ?_
              refine W_allocS (z := .agg #[.slice none 0 0]) (zs := #[.slice none 0 0]) hS341 rfl rfl rfl (by kernel_rfl) (by rfl) (fun g342 w342 c342 hc342 hS342 => ?_)
              replace hS342 : St w NoX [c342, c_341, c2] w342 := hS342
              refine W_stAS 0 hS342 rfl hc342 rfl rfl rfl (et rfl) (es rfl (es rfl (es rfl (et rfl)))) (by simp only [List.all_toArray, List.all_cons, List.all_nil, SlN_one (ow_at (hS342.chq 1 rfl hc_341))] <;> rfl) (by rfl) (by kernel_rfl) (fun w343 c343 hc343 hS343 => ?_)
              replace hS343 : St w NoX [c343, c_341, c2] w343 := hS343
              refine W_v rfl rfl (V_asg rfl (es rfl (es rfl (et rfl)))) ?_
              refine W_v rfl rfl (V_asg rfl (es rfl (es rfl (et rfl)))) ?_
              refine W_end ?_
              refine gen_Q (fun A344 hA344 => ?_)
              have hsz344 : SzN A344 160 := by rw [hA344]; infer_instance
              have hdf344 : A344.defers = [] := by rw [hA344]; simp only [df_put]; exact hdf334
              have l3_344 := lookE hA344 3 (es rfl (es rfl (es rfl (es rfl (es rfl (es rfl (es rfl (es rfl (es rfl l3_334)))))))))
              have l18_344 := lookE hA344 18 (es rfl (es rfl (et rfl)))
              have l20_344 := lookE hA344 20 (et rfl)
              clear hA344 hsz334 hdf334 l3_334 l95_334
              refine then_n (hK340 _ _ ?_)
              clear hK340
              refine wp_seq_k (fun K345 hK345 => ?_)
              refine wp_seq_k (fun K346 hK346 => ?_)
              -- region 18
              refine region_in ?_
              refine W_v rfl rfl (V_asg rfl rfl) ?_
              refine W_end ?_
              refine gen_Q (fun A347 hA347 => ?_)
              have hsz347 : SzN A347 160 := by rw [hA347]; infer_instance
              have hdf347 : A347.defers = [] := by rw [hA347]; simp only [df_put]; exact hdf344
              have l3_347 := lookE hA347 3 (es rfl l3_344)
              have l18_347 := lookE hA347 18 (es rfl l18_344)
              have l20_347 := lookE hA347 20 (es rfl l20_344)
              have l21_347 := lookE hA347 21 (et rfl)
              clear hA347 hsz344 hdf344 l3_344 l18_344 l20_344
              refine then_n (hK346 _ _ ?_)
              clear hK346
              refine wp_block ?_
              -- loop 19
              refine loopX (fun mz A' w' => SzN A' 160 ∧ A'.defers = [] ∧ (∃ (i : Nat) (x : List Int) (tv : Value) (g : Int), (mz = 40 - i) ∧ (i ≤ 40) ∧ (Zr c.length x) ∧ (g = 0) ∧ (EV A' (.tmp 21) = .int .i64 (i : Int)) ∧ (EV A' (.tmp 20) = .int .i64 g) ∧ (EV A' (.tmp 3) = EV A347 (.tmp 3)) ∧ (EV A' (.tmp 18) = EV A347 (.tmp 18)) ∧ (St w NoX [bx g342 24 #[tv], io .i64 tv x, bx g2 24 #[cv]] w'))) (40 - 0) ⟨hsz347, hdf347, 0, (pgT c 1 1601), v_341, (ckS c).2, rfl, (by omega), (zr_purge hck), hck, ((l21_347).trans (by first | rfl | (simp; done) | (congr 1; omega))), ((l20_347).trans (by first | rfl | (simp; done) | (congr 1; omega))), rfl, rfl, (by have q0 := hc343; have q1 : c_341 = io .i64 v_341 (pgT c 1 1601) := hc_341.trans (rfl); have q2 := hc2; subst q0 q1 q2; exact hS343)⟩ ?_
              clear hS343 hc343 hc_341 hc2
              rintro n348 A348 w348 ⟨hsz348, hdf348, i, x, tv, g, hm348, hi, hzr, hg0, l21_348, l20_348, u3_348, u18_348, hS348⟩
              have l3_348 := u3_348.trans l3_347
              have l18_348 := u18_348.trans l18_347
              obtain ⟨c343_348, c_348, c2_348, hc343_348, hc_348, hc2_348, hS348⟩ := gen3 hS348
              refine wp_seq_k (fun K349 hK349 => ?_)
              refine wp_seq_k (fun K350 hK350 => ?_)
              -- region 19
              refine region_in ?_
              refine W_v rfl rfl (V_mov rfl l21_348) ?_
              refine W_v rfl rfl (V_lss rfl (et rfl) rfl) ?_
              refine W_split rfl rfl (V_mov rfl (et rfl)) (fun c351 => ?_) (fun c351 => ?_)
              · skip
                have hz := zr_cyc hzr (a := (((i : Int) * 17) % 50) + 1) (by omega)
                refine W_v rfl (wanted_t rfl rfl (et rfl) (ez rfl)) (V_mov rfl (es rfl (es rfl (es rfl l20_348)))) ?_
                refine W_v rfl (wanted_t rfl rfl (es rfl (et rfl)) (ez rfl)) (V_eql rfl (et rfl) rfl) ?_
                refine W_v rfl rfl (V_pickT rfl (es rfl (es rfl (et rfl))) (et rfl)) ?_
                refine W_end ?_
                refine gen_Q (fun A352 hA352 => ?_)
                have hsz352 : SzN A352 160 := by rw [hA352]; infer_instance
                have hdf352 : A352.defers = [] := by rw [hA352]; simp only [df_put]; exact hdf348
                have l3_352 := lookE hA352 3 (es rfl (es rfl (es rfl (es rfl (es rfl (es rfl l3_348))))))
                have l18_352 := lookE hA352 18 (es rfl (es rfl (es rfl (es rfl (es rfl (es rfl l18_348))))))
                have l20_352 := lookE hA352 20 (es rfl (es rfl (es rfl (es rfl (es rfl (es rfl l20_348))))))
                have l21_352 := lookE hA352 21 (es rfl (es rfl (es rfl (es rfl (es rfl (es rfl l21_348))))))
                have l106_352 := lookE hA352 106 (es rfl (es rfl (et rfl)))
                have l107_352 := lookE hA352 107 (es rfl (et rfl))
                have l108_352 := lookE hA352 108 (et rfl)
                clear hA352 hsz348 hdf348 l21_348 l20_348 l3_348 l18_348
                refine then_n (hK350 _ _ ?_)
                clear hK350
                refine cond_sure l108_352 (by rw [decide_eq_true_eq]; exact hg0) ?_
                refine wp_skip ?_
                refine then_n (hK349 _ _ ?_)
                clear hK349
                refine wp_seq_k (fun K353 hK353 => ?_)
                refine wp_block ?_
                refine wp_seq_k (fun K354 hK354 => ?_)
                -- region 21
                refine region_in ?_
                refine W_r rfl rfl (VR_ldA rfl l18_352 (hS348.obj 0 rfl hc343_348) Try.underlying24 rfl (by kernel_rfl)) ?_
                refine W_v rfl rfl (V_mov rfl (es rfl l21_352)) ?_
                refine W_v rfl rfl (V_mul rfl (et rfl) rfl (by omega) (by omega)) ?_
                refine W_v rfl rfl (V_rem rfl (et rfl) rfl (by omega) (by omega) (wrap_i64 (by omega) (by omega))) ?_
                refine W_v rfl rfl (V_add rfl (et rfl) rfl (by omega) (by omega)) ?_
                refine W_call rfl rfl rfl Try.func15 (by kernel_rfl) rfl (args2 (es rfl (es rfl (es rfl (es rfl (et rfl))))) (et rfl)) (kAdd_c (a := ((((i : Int) * 17) % 50) + 1)) (hS348.chC 1 rfl hc_348).own ) ?_
                rintro _ w355 ⟨v_355, rfl, hP355⟩
                refine ⟨_, rfl, ?_⟩
                obtain ⟨c_355, hc_355, hP355⟩ := gen1 hP355
                have hS355 := hS348.join hP355
                replace hS355 : St w NoX [c_355, c343_348, c_348, c2_348] w355 := hS355
                refine W_v rfl rfl (V_mov rfl (et rfl)) ?_
                refine W_v rfl rfl (V_ext (v := .agg #[v_355]) rfl (et rfl) rfl) ?_
                refine W_v rfl rfl (V_ext (v := .bool ((adB x ((((i : Int) * 17) % 50) + 1)))) rfl (es rfl (et rfl)) rfl) ?_
                refine W_v rfl rfl (V_ext (v := .int .i64 ((chE x ((((i : Int) * 17) % 50) + 1)))) rfl (es rfl (es rfl (et rfl))) rfl) ?_
                refine W_stAS 1 hS355 rfl hc343_348 rfl rfl rfl (es rfl (es rfl (es rfl (es rfl (es rfl (es rfl (es rfl (es rfl (es rfl (es rfl l18_352)))))))))) (es rfl (es rfl (et rfl))) (by simp only [List.all_toArray, List.all_cons, List.all_nil, SlN_one (ow_at (hS355.chq 0 rfl hc_355))] <;> rfl) (by rfl) (by kernel_rfl) (fun w356 c356 hc356 hS356 => ?_)
                replace hS356 : St w NoX [c_355, c356, c_348, c2_348] w356 := hS356
                refine W_v rfl rfl (V_asg rfl (et rfl)) ?_
                refine W_end ?_
                refine gen_Q (fun A357 hA357 => ?_)
                have hsz357 : SzN A357 160 := by rw [hA357]; infer_instance
                have hdf357 : A357.defers = [] := by rw [hA357]; simp only [df_put]; exact hdf352
                have l3_357 := lookE hA357 3 (es rfl (es rfl (es rfl (es rfl (es rfl (es rfl (es rfl (es rfl (es rfl (es rfl (es rfl l3_352)))))))))))
                have l18_357 := lookE hA357 18 (es rfl (es rfl (es rfl (es rfl (es rfl (es rfl (es rfl (es rfl (es rfl (es rfl (es rfl l18_352)))))))))))
                have l20_357 := lookE hA357 20 (et rfl)
                have l21_357 := lookE hA357 21 (es rfl (es rfl (es rfl (es rfl (es rfl (es rfl (es rfl (es rfl (es rfl (es rfl (es rfl l21_352)))))))))))
                have l106_357 := lookE hA357 106 (es rfl (es rfl (es rfl (es rfl (es rfl (es rfl (es rfl (es rfl (es rfl (es rfl (es rfl l106_352)))))))))))
                have l107_357 := lookE hA357 107 (es rfl (es rfl (es rfl (es rfl (es rfl (es rfl (es rfl (es rfl (es rfl (es rfl (es rfl l107_352)))))))))))
                clear hA357 hsz352 hdf352 l3_352 l18_352 l20_352 l21_352 l106_352 l107_352 l108_352
                have hS358 : St w NoX [c_355, c356, c2_348] w356 := hS356.sel [0, 1, 3] (by decide) rfl
                refine then_n (hK354 _ _ ?_)
                clear hK354
                refine wp_seq_k (fun K359 hK359 => ?_)
                -- region 22
                refine region_in ?_
                refine W_v rfl rfl (V_mov rfl l20_357) ?_
                refine W_v rfl rfl (V_eql rfl (et rfl) rfl) ?_
                refine W_end ?_
                refine gen_Q (fun A360 hA360 => ?_)
                have hsz360 : SzN A360 160 := by rw [hA360]; infer_instance
                have hdf360 : A360.defers = [] := by rw [hA360]; simp only [df_put]; exact hdf357
                have l3_360 := lookE hA360 3 (es rfl (es rfl l3_357))
                have l18_360 := lookE hA360 18 (es rfl (es rfl l18_357))
                have l20_360 := lookE hA360 20 (es rfl (es rfl l20_357))
                have l21_360 := lookE hA360 21 (es rfl (es rfl l21_357))
                have l106_360 := lookE hA360 106 (es rfl (es rfl l106_357))
                have l107_360 := lookE hA360 107 (es rfl (es rfl l107_357))
                have l122_360 := lookE hA360 122 (et rfl)
                clear hA360 hsz357 hdf357 l3_357 l18_357 l20_357 l21_357 l106_357 l107_357
                refine then_n (hK359 _ _ ?_)
                clear hK359
                refine cond_sure l122_360 (by rw [decide_eq_true_eq]; exact hz.1) ?_
                -- region 23
                refine region_in ?_
                refine W_r rfl rfl (VR_ldA rfl l18_360 (hS358.obj 1 rfl hc356) Try.underlying24 rfl (by kernel_rfl)) ?_
                refine W_v rfl rfl (V_mov rfl (es rfl l21_360)) ?_
                refine W_v rfl rfl (V_mul rfl (et rfl) rfl (by omega) (by omega)) ?_
                refine W_v rfl rfl (V_rem rfl (et rfl) rfl (by omega) (by omega) (wrap_i64 (by omega) (by omega))) ?_
                refine W_v rfl rfl (V_add rfl (et rfl) rfl (by omega) (by omega)) ?_
                refine W_call rfl rfl rfl Try.func18 (by kernel_rfl) rfl (args2 (es rfl (es rfl (es rfl (es rfl (et rfl))))) (et rfl)) (kDrop_c (a := ((((i : Int) * 17) % 50) + 1)) (hS358.chC 0 rfl hc_355).own ) ?_
                rintro _ w361 ⟨v_361, rfl, hP361⟩
                refine ⟨_, rfl, ?_⟩
                obtain ⟨c_361, hc_361, hP361⟩ := gen1 hP361
                have hS361 := hS358.join hP361
                replace hS361 : St w NoX [c_361, c_355, c356, c2_348] w361 := hS361
                refine W_v rfl rfl (V_mov rfl (et rfl)) ?_
                refine W_v rfl rfl (V_ext (v := .agg #[v_361]) rfl (et rfl) rfl) ?_
                refine W_v rfl rfl (V_ext (v := .bool ((hsB (adT x ((((i : Int) * 17) % 50) + 1)) ((((i : Int) * 17) % 50) + 1)))) rfl (es rfl (et rfl)) rfl) ?_
                refine W_v rfl rfl (V_ext (v := .int .i64 ((chE (adT x ((((i : Int) * 17) % 50) + 1)) ((((i : Int) * 17) % 50) + 1)))) rfl (es rfl (es rfl (et rfl))) rfl) ?_
                refine W_stAS 2 hS361 rfl hc356 rfl rfl rfl (es rfl (es rfl (es rfl (es rfl (es rfl (es rfl (es rfl (es rfl (es rfl (es rfl l18_360)))))))))) (es rfl (es rfl (et rfl))) (by simp only [List.all_toArray, List.all_cons, List.all_nil, SlN_one (ow_at (hS361.chq 0 rfl hc_361))] <;> rfl) (by rfl) (by kernel_rfl) (fun w362 c362 hc362 hS362 => ?_)
                replace hS362 : St w NoX [c_361, c_355, c362, c2_348] w362 := hS362
                refine W_v rfl rfl (V_asg rfl (et rfl)) ?_
                refine W_end ?_
                refine gen_Q (fun A363 hA363 => ?_)
                have hsz363 : SzN A363 160 := by rw [hA363]; infer_instance
                have hdf363 : A363.defers = [] := by rw [hA363]; simp only [df_put]; exact hdf360
                have l3_363 := lookE hA363 3 (es rfl (es rfl (es rfl (es rfl (es rfl (es rfl (es rfl (es rfl (es rfl (es rfl (es rfl l3_360)))))))))))
                have l18_363 := lookE hA363 18 (es rfl (es rfl (es rfl (es rfl (es rfl (es rfl (es rfl (es rfl (es rfl (es rfl (es rfl l18_360)))))))))))
                have l20_363 := lookE hA363 20 (et rfl)
                have l21_363 := lookE hA363 21 (es rfl (es rfl (es rfl (es rfl (es rfl (es rfl (es rfl (es rfl (es rfl (es rfl (es rfl l21_360)))))))))))
                have l106_363 := lookE hA363 106 (es rfl (es rfl (es rfl (es rfl (es rfl (es rfl (es rfl (es rfl (es rfl (es rfl (es rfl l106_360)))))))))))
                have l107_363 := lookE hA363 107 (es rfl (es rfl (es rfl (es rfl (es rfl (es rfl (es rfl (es rfl (es rfl (es rfl (es rfl l107_360)))))))))))
                clear hA363 hsz360 hdf360 l3_360 l18_360 l20_360 l21_360 l106_360 l107_360 l122_360
                have hS364 : St w NoX [c_361, c362, c2_348] w362 := hS362.sel [0, 2, 3] (by decide) rfl
                refine inb_n ?_
                refine then_n (hK353 _ _ ?_)
                clear hK353
                -- region 20
                refine region_in ?_
                refine W_v rfl rfl (V_mov rfl l21_363) ?_
                refine W_v rfl rfl (V_add rfl (et rfl) rfl (by omega) (by omega)) ?_
                refine W_v rfl rfl (V_asg rfl (et rfl)) ?_
                refine W_end ?_
                refine gen_Q (fun A365 hA365 => ?_)
                have hsz365 : SzN A365 160 := by rw [hA365]; infer_instance
                have hdf365 : A365.defers = [] := by rw [hA365]; simp only [df_put]; exact hdf363
                have l3_365 := lookE hA365 3 (es rfl (es rfl (es rfl l3_363)))
                have l18_365 := lookE hA365 18 (es rfl (es rfl (es rfl l18_363)))
                have l20_365 := lookE hA365 20 (es rfl (es rfl (es rfl l20_363)))
                have l21_365 := lookE hA365 21 (et rfl)
                have l106_365 := lookE hA365 106 (es rfl (es rfl (es rfl l106_363)))
                have l107_365 := lookE hA365 107 (es rfl (es rfl (es rfl l107_363)))
                clear hA365 hsz363 hdf363 l3_363 l18_363 l20_363 l21_363 l106_363 l107_363
                have hS366 : St w NoX [c362, c_361, c2_348] w362 := hS364.sel [1, 0, 2] (by decide) rfl
                refine then_n ⟨40 - (i + 1), by simp only [hm348]; omega, hsz365, hdf365, (i + 1), (drT (adT x ((((i : Int) * 17) % 50) + 1)) ((((i : Int) * 17) % 50) + 1)), v_361, (chE (adT x ((((i : Int) * 17) % 50) + 1)) ((((i : Int) * 17) % 50) + 1)), rfl, (by omega), hz.2.2, hz.2.1, ((l21_365).trans (by first | rfl | (simp; done) | (congr 1; omega))), ((l20_365).trans (by first | rfl | (simp; done) | (congr 1; omega))), ((l3_365).trans l3_347.symm), ((l18_365).trans l18_347.symm), (by subst hc362 hc_361 hc2_348; exact hS366)⟩
              · skip
                have hzl := zr_len hzr
                refine W_off rfl (wanted_f rfl rfl (et rfl) (ez rfl) rfl) ?_
                refine W_off rfl (wanted_f rfl rfl (es rfl (et rfl)) (ez rfl) rfl) ?_
                refine W_v rfl rfl (V_pickF rfl (es rfl (es rfl (et rfl))) rfl) ?_
                refine W_end ?_
                refine gen_Q (fun A367 hA367 => ?_)
                have hsz367 : SzN A367 160 := by rw [hA367]; infer_instance
                have hdf367 : A367.defers = [] := by rw [hA367]; simp only [df_put]; exact hdf348
                have l3_367 := lookE hA367 3 (es rfl (es rfl (es rfl (es rfl (es rfl (es rfl l3_348))))))
                have l18_367 := lookE hA367 18 (es rfl (es rfl (es rfl (es rfl (es rfl (es rfl l18_348))))))
                have l20_367 := lookE hA367 20 (es rfl (es rfl (es rfl (es rfl (es rfl (es rfl l20_348))))))
                have l21_367 := lookE hA367 21 (es rfl (es rfl (es rfl (es rfl (es rfl (es rfl l21_348))))))
                have l106_367 := lookE hA367 106 (es rfl (es rfl (et rfl)))
                have l107_367 := lookE hA367 107 (es rfl (et rfl))
                have l108_367 := lookE hA367 108 (et rfl)
                clear hA367 hsz348 hdf348 l21_348 l20_348 l3_348 l18_348
                refine then_n (hK350 _ _ ?_)
                clear hK350
                refine cond_f l108_367 ?_
                refine wp_exit ?_
                refine then_exit ?_
                refine then_exit ?_
                refine inb_hit ?_
                refine then_n (hK345 _ _ ?_)
                clear hK345
                refine wp_seq_k (fun K368 hK368 => ?_)
                -- region 24
                refine region_in ?_
                refine W_r rfl rfl (VR_ldA rfl l18_367 (hS348.obj 0 rfl hc343_348) Try.underlying24 rfl (by kernel_rfl)) ?_
                refine W_call rfl rfl rfl Try.func28 (by kernel_rfl) rfl (args1 (et rfl)) (kLen_c (hS348.chC 1 rfl hc_348).own ) ?_
                rintro _ w369 ⟨rfl, hP369⟩
                refine ⟨_, rfl, ?_⟩
                have hS369 := hS348.join hP369
                replace hS369 : St w NoX [c343_348, c_348, c2_348] w369 := hS369
                refine W_v rfl rfl (V_mov rfl (et rfl)) ?_
                refine W_v rfl rfl (V_ext (v := .int .i64 ((lnN x))) rfl (et rfl) rfl) ?_
                refine W_v rfl rfl (V_ext (v := .int .i64 ((ckS x).2)) rfl (es rfl (et rfl)) rfl) ?_
                refine W_v rfl rfl (V_asg rfl (es rfl (et rfl))) ?_
                refine W_v rfl rfl (V_asg rfl (es rfl (et rfl))) ?_
                refine W_end ?_
                refine gen_Q (fun A370 hA370 => ?_)
                have hsz370 : SzN A370 160 := by rw [hA370]; infer_instance
                have hdf370 : A370.defers = [] := by rw [hA370]; simp only [df_put]; exact hdf367
                have l3_370 := lookE hA370 3 (es rfl (es rfl (es rfl (es rfl (es rfl (es rfl (es rfl l3_367)))))))
                have l18_370 := lookE hA370 18 (es rfl (es rfl (es rfl (es rfl (es rfl (es rfl (es rfl l18_367)))))))
                have l20_370 := lookE hA370 20 (es rfl (es rfl (es rfl (es rfl (es rfl (es rfl (es rfl l20_367)))))))
                have l22_370 := lookE hA370 22 (es rfl (et rfl))
                have l23_370 := lookE hA370 23 (et rfl)
                clear hA370 hsz367 hdf367 l3_367 l18_367 l20_367 l21_367 l106_367 l107_367 l108_367
                refine then_n (hK368 _ _ ?_)
                clear hK368
                refine wp_seq_k (fun K371 hK371 => ?_)
                -- region 25
                refine region_in ?_
                refine W_v rfl rfl (V_mov rfl l20_370) ?_
                refine W_v rfl rfl (V_eql rfl (et rfl) rfl) ?_
                refine W_sure (c' := true) rfl rfl (V_mov rfl (et rfl)) (by rw [decide_eq_true_eq]; exact hg0) ?_
                refine W_v rfl (wanted_t rfl rfl (et rfl) (ez rfl)) (V_mov rfl (es rfl (es rfl (es rfl l23_370)))) ?_
                refine W_v rfl (wanted_t rfl rfl (es rfl (et rfl)) (ez rfl)) (V_eql rfl (et rfl) rfl) ?_
                refine W_v rfl rfl (V_pickT rfl (es rfl (es rfl (et rfl))) (et rfl)) ?_
                refine W_sure (c' := true) rfl rfl (V_mov rfl (et rfl)) (by rw [decide_eq_true_eq]; exact hzl.1) ?_
                refine W_v rfl (wanted_t rfl rfl (et rfl) (ez rfl)) (V_mov rfl (es rfl (es rfl (es rfl (es rfl (es rfl (es rfl (es rfl l22_370)))))))) ?_
                refine W_v rfl (wanted_t rfl rfl (es rfl (et rfl)) (ez rfl)) (V_eql rfl (et rfl) rfl) ?_
                refine W_v rfl rfl (V_pickT rfl (es rfl (es rfl (et rfl))) (et rfl)) ?_
                refine W_sure (c' := true) rfl rfl (V_mov rfl (et rfl)) (by rw [decide_eq_true_eq]; exact hzl.2) ?_
                refine W_v rfl (wanted_t rfl rfl (et rfl) (ez rfl)) (V_fa (off' := 0) rfl (es rfl (es rfl (es rfl (es rfl (es rfl (es rfl (es rfl (es rfl (es rfl (es rfl (es rfl l18_370))))))))))) Try.underlying24 rfl (by decide +kernel) rfl) ?_
                refine W_r rfl (wanted_t rfl rfl (es rfl (et rfl)) (ez rfl)) (VR_ldC rfl (et rfl) (cell_box (v := tv) (hS369.obj 0 rfl hc343_348) rfl) Try.underlying22 rfl) ?_
                refine W_v rfl (wanted_t rfl rfl (es rfl (es rfl (et rfl))) (ez rfl)) (V_lenS rfl (et rfl) (ow_at (hS369.chq 1 rfl hc_348)) Try.underlying22) ?_
                refine W_v rfl (wanted_t rfl rfl (es rfl (es rfl (es rfl (et rfl)))) (ez rfl)) (V_fa (off' := 0) rfl (es rfl (es rfl (es rfl (es rfl (es rfl (es rfl (es rfl (es rfl (es rfl (es rfl (es rfl (es rfl (es rfl (es rfl l3_370)))))))))))))) Try.underlying24 rfl (by decide +kernel) rfl) ?_
                refine W_r rfl (wanted_t rfl rfl (es rfl (es rfl (es rfl (es rfl (et rfl))))) (ez rfl)) (VR_ldC rfl (et rfl) (cell_box (v := cv) (hS369.obj 2 rfl hc2_348) rfl) Try.underlying22 rfl) ?_
                refine W_v rfl (wanted_t rfl rfl (es rfl (es rfl (es rfl (es rfl (es rfl (et rfl)))))) (ez rfl)) (V_lenS rfl (et rfl) (sl_SlN h_cv.at) Try.underlying22) ?_
                refine W_v rfl (wanted_t rfl rfl (es rfl (es rfl (es rfl (es rfl (es rfl (es rfl (et rfl))))))) (ez rfl)) (V_eql rfl (es rfl (es rfl (es rfl (et rfl)))) (et rfl)) ?_
                refine W_v rfl rfl (V_pickT rfl (es rfl (es rfl (es rfl (es rfl (es rfl (es rfl (es rfl (et rfl)))))))) (et rfl)) ?_
                refine W_sure (c' := true) rfl rfl (V_mov rfl (et rfl)) (by rw [decide_eq_true_eq]; rw [hzr.len]) ?_
                refine W_call rfl (wanted_t rfl rfl (et rfl) (ez rfl)) rfl Try.func12 (by kernel_rfl) rfl (args0) (awake_c  ) ?_
                rintro _ w372 ⟨rfl, hP372⟩
                refine ⟨_, rfl, ?_⟩
                have hS372 := hS369.join hP372
                replace hS372 : St w NoX [c343_348, c_348, c2_348] w372 := hS372
                refine W_v rfl rfl (V_pickT rfl (es rfl (et rfl)) (et rfl)) ?_
                refine W_v rfl rfl (V_asg rfl (et rfl)) ?_
                refine W_end ?_
                refine gen_Q (fun A373 hA373 => ?_)
                have hsz373 : SzN A373 160 := by rw [hA373]; infer_instance
                have hdf373 : A373.defers = [] := by rw [hA373]; simp only [df_put]; exact hdf370
                have l6_373 := lookE hA373 6 (et rfl)
                clear hA373 hsz370 hdf370 l3_370 l18_370 l20_370 l22_370 l23_370
                have hS374 : St w NoX [] w372 := hS372.sel [] (by decide) rfl
                refine then_n (hK371 _ _ ?_)
                clear hK371
                refine wp_ret ?_
                refine ret_in (results_1 Try.results9 (rv_tmp l6_373)) hdf373 ?_
                -- leaf FFFFFFF
                exact ⟨rfl, hS374.fin0⟩

end Go.Proofs.Ytoandfgkkmfobaa