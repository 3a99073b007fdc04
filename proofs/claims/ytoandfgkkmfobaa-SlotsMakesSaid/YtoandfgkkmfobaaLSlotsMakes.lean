import Derived.Test.YtoandfgkkmfobaaProg
import Derived.Test.YtoandfgkkmfobaaSl6
namespace Go.Proofs.Ytoandfgkkmfobaa
open Go.RowKit Go.Own Go.Own.R Go.Own.S


set_option maxHeartbeats 4000000 in
theorem SlotsMakes_c {cv : Value} {c : List Int} {dv : Value} {d : List Int} {lv : Value} {l : List Int} {w : World} (h_cv : Ro w NoX (il .i64 cv c)) (h_dv : Ro w NoX (il .i64 dv d)) (h_lv : Ro w NoX (il .i64 lv l))  :
    Calls Try.prog 4 #[.agg #[cv], .agg #[dv], lv] w fun e w' => e = .returned (.bool true) ∧ St w NoX [] w' := by
  refine calls_in 80 Try.func4 rfl rfl (by simp) (fun A0 hsz0 hdf0 hargs => ?_)
  have l0_0 := hargs 0 (.agg #[cv]) rfl
  have l1_0 := hargs 1 (.agg #[dv]) rfl
  have l2_0 := hargs 2 (lv) rfl
  clear hargs; replace hsz0 : SzN A0 80 := ⟨hsz0⟩
  have hS := St.nil w
  have bh_cv := SlN.le (sl_SlN h_cv.at)
  have bh_dv := SlN.le (sl_SlN h_dv.at)
  have bh_lv := SlN.le (sl_SlN h_lv.at)
  refine wp_seq_k (fun K1 hK1 => ?_)
  -- region 0
  refine region_in ?_
  refine W_boxS (zs := #[cv]) hS rfl rfl rfl l0_0 (by rfl) (fun g2 w2 c2 hc2 hS2 => ?_)
  replace hS2 : St w NoX [c2] w2 := hS2
  refine W_boxS (zs := #[dv]) hS2 rfl rfl rfl (es rfl l1_0) (by rfl) (fun g3 w3 c3 hc3 hS3 => ?_)
  replace hS3 : St w NoX [c3, c2] w3 := hS3
  refine W_v rfl rfl (V_asg rfl rfl) ?_
  refine W_end ?_
  refine gen_Q (fun A4 hA4 => ?_)
  have hsz4 : SzN A4 80 := by rw [hA4]; infer_instance
  have hdf4 : A4.defers = [] := by rw [hA4]; simp only [df_put]; exact hdf0
  have l2_4 := lookE hA4 2 (es rfl (es rfl (es rfl l2_0)))
  have l3_4 := lookE hA4 3 (es rfl (es rfl (et rfl)))
  have l4_4 := lookE hA4 4 (es rfl (et rfl))
  clear hA4 hsz0 hdf0 l0_0 l1_0 l2_0
  refine then_n (hK1 _ _ ?_)
  clear hK1
  refine wp_seq_k (fun K5 hK5 => ?_)
  refine wp_seq_k (fun K6 hK6 => ?_)
  -- region 1
  refine region_in ?_
  refine W_r rfl rfl (VR_ldA rfl l3_4 (hS3.obj 1 rfl hc2) Try.underlying24 rfl (by kernel_rfl)) ?_
  refine W_call rfl rfl rfl Try.func11 (by kernel_rfl) rfl (args1 (et rfl)) (far_c (hS3.roC h_cv) ) ?_
  rintro _ w7 ⟨rfl, hP7⟩
  refine ⟨_, rfl, ?_⟩
  have hS7 := hS3.join hP7
  replace hS7 : St w NoX [c3, c2] w7 := hS7
  refine W_split rfl rfl (V_mov rfl (et rfl)) (fun c8 => ?_) (fun c8 => ?_)
  · skip
    refine W_off rfl (wanted_f rfl rfl (et rfl) (ez rfl) rfl) ?_
    refine W_off rfl (wanted_f rfl rfl (es rfl (et rfl)) (ez rfl) rfl) ?_
    refine W_v rfl rfl (V_pickT rfl (es rfl (es rfl (et rfl))) rfl) ?_
    refine W_v rfl rfl (V_mov rfl (et rfl)) ?_
    refine W_off rfl (wanted_f rfl rfl (et rfl) (ez rfl) rfl) ?_
    refine W_off rfl (wanted_f rfl rfl (es rfl (et rfl)) (ez rfl) rfl) ?_
    refine W_off rfl (wanted_f rfl rfl (es rfl (es rfl (et rfl))) (ez rfl) rfl) ?_
    refine W_off rfl (wanted_f rfl rfl (es rfl (es rfl (es rfl (et rfl)))) (ez rfl) rfl) ?_
    refine W_off rfl (wanted_u rfl rfl (et rfl) (ez rfl)) ?_
    refine W_off rfl (wanted_u rfl rfl (es rfl (et rfl)) (ez rfl)) ?_
    refine W_off rfl (wanted_u rfl rfl (es rfl (es rfl (et rfl))) (ez rfl)) ?_
    refine W_off rfl (wanted_f rfl rfl (es rfl (es rfl (es rfl (es rfl (es rfl (es rfl (es rfl (et rfl)))))))) (ez rfl) rfl) ?_
    refine W_v rfl rfl (V_pickT rfl (es rfl (es rfl (es rfl (es rfl (es rfl (es rfl (es rfl (es rfl (et rfl))))))))) rfl) ?_
    refine W_v rfl rfl (V_mov rfl (et rfl)) ?_
    refine W_off rfl (wanted_f rfl rfl (et rfl) (ez rfl) rfl) ?_
    refine W_off rfl (wanted_f rfl rfl (es rfl (et rfl)) (ez rfl) rfl) ?_
    refine W_off rfl (wanted_f rfl rfl (es rfl (es rfl (et rfl))) (ez rfl) rfl) ?_
    refine W_v rfl rfl (V_pickT rfl (es rfl (es rfl (es rfl (et rfl)))) rfl) ?_
    refine W_end ?_
    refine gen_Q (fun A9 hA9 => ?_)
    have hsz9 : SzN A9 80 := by rw [hA9]; infer_instance
    have hdf9 : A9.defers = [] := by rw [hA9]; simp only [df_put]; exact hdf4
    have l2_9 := lookE hA9 2 (es rfl (es rfl (es rfl (es rfl (es rfl (es rfl (es rfl (es rfl (es rfl (es rfl (es rfl (es rfl (es rfl (es rfl (es rfl (es rfl (es rfl (es rfl (es rfl (es rfl (es rfl l2_4)))))))))))))))))))))
    have l3_9 := lookE hA9 3 (es rfl (es rfl (es rfl (es rfl (es rfl (es rfl (es rfl (es rfl (es rfl (es rfl (es rfl (es rfl (es rfl (es rfl (es rfl (es rfl (es rfl (es rfl (es rfl (es rfl (es rfl l3_4)))))))))))))))))))))
    have l4_9 := lookE hA9 4 (es rfl (es rfl (es rfl (es rfl (es rfl (es rfl (es rfl (es rfl (es rfl (es rfl (es rfl (es rfl (es rfl (es rfl (es rfl (es rfl (es rfl (es rfl (es rfl (es rfl (es rfl l4_4)))))))))))))))))))))
    have l35_9 := lookE hA9 35 (et rfl)
    clear hA9 hsz4 hdf4 l2_4 l3_4 l4_4
    refine then_n (hK6 _ _ ?_)
    clear hK6
    refine cond_t l35_9 ?_
    refine wp_seq_k (fun K10 hK10 => ?_)
    -- region 2
    refine region_in ?_
    refine W_call rfl rfl rfl Try.func12 (by kernel_rfl) rfl (args0) (awake_c  ) ?_
    rintro _ w11 ⟨rfl, hP11⟩
    refine ⟨_, rfl, ?_⟩
    have hS11 := hS7.join hP11
    replace hS11 : St w NoX [c3, c2] w11 := hS11
    refine W_v rfl rfl (V_asg rfl (et rfl)) ?_
    refine W_end ?_
    refine gen_Q (fun A12 hA12 => ?_)
    have hsz12 : SzN A12 80 := by rw [hA12]; infer_instance
    have hdf12 : A12.defers = [] := by rw [hA12]; simp only [df_put]; exact hdf9
    have l6_12 := lookE hA12 6 (et rfl)
    clear hA12 hsz9 hdf9 l2_9 l3_9 l4_9 l35_9
    have hS13 : St w NoX [] w11 := hS11.sel [] (by decide) rfl
    refine then_n (hK10 _ _ ?_)
    clear hK10
    refine wp_ret ?_
    refine then_ret ?_
    refine ret_in (results_1 Try.results4 (rv_tmp l6_12)) hdf12 ?_
    -- leaf T
    exact ⟨rfl, hS13.fin0⟩
  · skip
    refine W_r rfl (wanted_t rfl rfl (et rfl) (ez rfl)) (VR_ldA rfl (es rfl (es rfl (es rfl l4_4))) (hS7.obj 0 rfl hc3) Try.underlying24 rfl (by kernel_rfl)) ?_
    refine W_call rfl (wanted_t rfl rfl (es rfl (et rfl)) (ez rfl)) rfl Try.func11 (by kernel_rfl) rfl (args1 (et rfl)) (far_c (hS7.roC h_dv) ) ?_
    rintro _ w14 ⟨rfl, hP14⟩
    refine ⟨_, rfl, ?_⟩
    have hS14 := hS7.join hP14
    replace hS14 : St w NoX [c3, c2] w14 := hS14
    refine W_v rfl rfl (V_pickF rfl (es rfl (es rfl (et rfl))) (et rfl)) ?_
    refine W_split rfl rfl (V_mov rfl (et rfl)) (fun c15 => ?_) (fun c15 => ?_)
    · skip
      refine W_off rfl (wanted_f rfl rfl (et rfl) (ez rfl) rfl) ?_
      refine W_off rfl (wanted_f rfl rfl (es rfl (et rfl)) (ez rfl) rfl) ?_
      refine W_off rfl (wanted_f rfl rfl (es rfl (es rfl (et rfl))) (ez rfl) rfl) ?_
      refine W_off rfl (wanted_f rfl rfl (es rfl (es rfl (es rfl (et rfl)))) (ez rfl) rfl) ?_
      refine W_off rfl (wanted_u rfl rfl (et rfl) (ez rfl)) ?_
      refine W_off rfl (wanted_u rfl rfl (es rfl (et rfl)) (ez rfl)) ?_
      refine W_off rfl (wanted_u rfl rfl (es rfl (es rfl (et rfl))) (ez rfl)) ?_
      refine W_off rfl (wanted_f rfl rfl (es rfl (es rfl (es rfl (es rfl (es rfl (es rfl (es rfl (et rfl)))))))) (ez rfl) rfl) ?_
      refine W_v rfl rfl (V_pickT rfl (es rfl (es rfl (es rfl (es rfl (es rfl (es rfl (es rfl (es rfl (et rfl))))))))) rfl) ?_
      refine W_v rfl rfl (V_mov rfl (et rfl)) ?_
      refine W_off rfl (wanted_f rfl rfl (et rfl) (ez rfl) rfl) ?_
      refine W_off rfl (wanted_f rfl rfl (es rfl (et rfl)) (ez rfl) rfl) ?_
      refine W_off rfl (wanted_f rfl rfl (es rfl (es rfl (et rfl))) (ez rfl) rfl) ?_
      refine W_v rfl rfl (V_pickT rfl (es rfl (es rfl (es rfl (et rfl)))) rfl) ?_
      refine W_end ?_
      refine gen_Q (fun A16 hA16 => ?_)
      have hsz16 : SzN A16 80 := by rw [hA16]; infer_instance
      have hdf16 : A16.defers = [] := by rw [hA16]; simp only [df_put]; exact hdf4
      have l2_16 := lookE hA16 2 (es rfl (es rfl (es rfl (es rfl (es rfl (es rfl (es rfl (es rfl (es rfl (es rfl (es rfl (es rfl (es rfl (es rfl (es rfl (es rfl (es rfl (es rfl (es rfl (es rfl (es rfl l2_4)))))))))))))))))))))
      have l3_16 := lookE hA16 3 (es rfl (es rfl (es rfl (es rfl (es rfl (es rfl (es rfl (es rfl (es rfl (es rfl (es rfl (es rfl (es rfl (es rfl (es rfl (es rfl (es rfl (es rfl (es rfl (es rfl (es rfl l3_4)))))))))))))))))))))
      have l4_16 := lookE hA16 4 (es rfl (es rfl (es rfl (es rfl (es rfl (es rfl (es rfl (es rfl (es rfl (es rfl (es rfl (es rfl (es rfl (es rfl (es rfl (es rfl (es rfl (es rfl (es rfl (es rfl (es rfl l4_4)))))))))))))))))))))
      have l35_16 := lookE hA16 35 (et rfl)
      clear hA16 hsz4 hdf4 l2_4 l3_4 l4_4
      refine then_n (hK6 _ _ ?_)
      clear hK6
      refine cond_t l35_16 ?_
      refine wp_seq_k (fun K17 hK17 => ?_)
      -- region 2
      refine region_in ?_
      refine W_call rfl rfl rfl Try.func12 (by kernel_rfl) rfl (args0) (awake_c  ) ?_
      rintro _ w18 ⟨rfl, hP18⟩
      refine ⟨_, rfl, ?_⟩
      have hS18 := hS14.join hP18
      replace hS18 : St w NoX [c3, c2] w18 := hS18
      refine W_v rfl rfl (V_asg rfl (et rfl)) ?_
      refine W_end ?_
      refine gen_Q (fun A19 hA19 => ?_)
      have hsz19 : SzN A19 80 := by rw [hA19]; infer_instance
      have hdf19 : A19.defers = [] := by rw [hA19]; simp only [df_put]; exact hdf16
      have l6_19 := lookE hA19 6 (et rfl)
      clear hA19 hsz16 hdf16 l2_16 l3_16 l4_16 l35_16
      have hS20 : St w NoX [] w18 := hS18.sel [] (by decide) rfl
      refine then_n (hK17 _ _ ?_)
      clear hK17
      refine wp_ret ?_
      refine then_ret ?_
      refine ret_in (results_1 Try.results4 (rv_tmp l6_19)) hdf19 ?_
      -- leaf FT
      exact ⟨rfl, hS20.fin0⟩
    · skip
      refine W_v rfl (wanted_t rfl rfl (et rfl) (ez rfl)) (V_mov rfl (es rfl (es rfl (es rfl (es rfl (es rfl (es rfl (es rfl l2_4)))))))) ?_
      refine W_v rfl (wanted_t rfl rfl (es rfl (et rfl)) (ez rfl)) (V_lenS rfl (et rfl) (sl_SlN h_lv.at) Try.underlying22) ?_
      refine W_v rfl (wanted_t rfl rfl (es rfl (es rfl (et rfl))) (ez rfl)) (V_gtr rfl (et rfl) rfl) ?_
      refine W_split rfl (wanted_t rfl rfl (es rfl (es rfl (es rfl (et rfl)))) (ez rfl)) (V_mov rfl (et rfl)) (fun c21 => ?_) (fun c21 => ?_)
      · skip
        refine W_v rfl (wanted_t rfl rfl (et rfl) (ez rfl)) (V_mov rfl (es rfl (es rfl (es rfl (es rfl (es rfl (es rfl (es rfl (es rfl (es rfl (es rfl (es rfl l2_4)))))))))))) ?_
        refine W_v rfl (wanted_t rfl rfl (es rfl (et rfl)) (ez rfl)) (V_lenS rfl (et rfl) (sl_SlN h_lv.at) Try.underlying22) ?_
        refine W_v rfl (wanted_t rfl rfl (es rfl (es rfl (et rfl))) (ez rfl)) (V_leq rfl (et rfl) rfl) ?_
        refine W_v rfl (wanted_t rfl rfl (es rfl (es rfl (es rfl (es rfl (es rfl (es rfl (es rfl (et rfl)))))))) (ez rfl)) (V_pickT rfl (es rfl (es rfl (es rfl (et rfl)))) (et rfl)) ?_
        refine W_v rfl rfl (V_pickF rfl (es rfl (es rfl (es rfl (es rfl (es rfl (es rfl (es rfl (es rfl (et rfl))))))))) (et rfl)) ?_
        refine W_split rfl rfl (V_mov rfl (et rfl)) (fun c22 => ?_) (fun c22 => ?_)
        · skip
          refine W_off rfl (wanted_f rfl rfl (et rfl) (ez rfl) rfl) ?_
          refine W_off rfl (wanted_f rfl rfl (es rfl (et rfl)) (ez rfl) rfl) ?_
          refine W_off rfl (wanted_f rfl rfl (es rfl (es rfl (et rfl))) (ez rfl) rfl) ?_
          refine W_v rfl rfl (V_pickT rfl (es rfl (es rfl (es rfl (et rfl)))) rfl) ?_
          refine W_end ?_
          refine gen_Q (fun A23 hA23 => ?_)
          have hsz23 : SzN A23 80 := by rw [hA23]; infer_instance
          have hdf23 : A23.defers = [] := by rw [hA23]; simp only [df_put]; exact hdf4
          have l2_23 := lookE hA23 2 (es rfl (es rfl (es rfl (es rfl (es rfl (es rfl (es rfl (es rfl (es rfl (es rfl (es rfl (es rfl (es rfl (es rfl (es rfl (es rfl (es rfl (es rfl (es rfl (es rfl (es rfl l2_4)))))))))))))))))))))
          have l3_23 := lookE hA23 3 (es rfl (es rfl (es rfl (es rfl (es rfl (es rfl (es rfl (es rfl (es rfl (es rfl (es rfl (es rfl (es rfl (es rfl (es rfl (es rfl (es rfl (es rfl (es rfl (es rfl (es rfl l3_4)))))))))))))))))))))
          have l4_23 := lookE hA23 4 (es rfl (es rfl (es rfl (es rfl (es rfl (es rfl (es rfl (es rfl (es rfl (es rfl (es rfl (es rfl (es rfl (es rfl (es rfl (es rfl (es rfl (es rfl (es rfl (es rfl (es rfl l4_4)))))))))))))))))))))
          have l35_23 := lookE hA23 35 (et rfl)
          clear hA23 hsz4 hdf4 l2_4 l3_4 l4_4
          refine then_n (hK6 _ _ ?_)
          clear hK6
          refine cond_t l35_23 ?_
          refine wp_seq_k (fun K24 hK24 => ?_)
          -- region 2
          refine region_in ?_
          refine W_call rfl rfl rfl Try.func12 (by kernel_rfl) rfl (args0) (awake_c  ) ?_
          rintro _ w25 ⟨rfl, hP25⟩
          refine ⟨_, rfl, ?_⟩
          have hS25 := hS14.join hP25
          replace hS25 : St w NoX [c3, c2] w25 := hS25
          refine W_v rfl rfl (V_asg rfl (et rfl)) ?_
          refine W_end ?_
          refine gen_Q (fun A26 hA26 => ?_)
          have hsz26 : SzN A26 80 := by rw [hA26]; infer_instance
          have hdf26 : A26.defers = [] := by rw [hA26]; simp only [df_put]; exact hdf23
          have l6_26 := lookE hA26 6 (et rfl)
          clear hA26 hsz23 hdf23 l2_23 l3_23 l4_23 l35_23
          have hS27 : St w NoX [] w25 := hS25.sel [] (by decide) rfl
          refine then_n (hK24 _ _ ?_)
          clear hK24
          refine wp_ret ?_
          refine then_ret ?_
          refine ret_in (results_1 Try.results4 (rv_tmp l6_26)) hdf26 ?_
          -- leaf FFTT
          exact ⟨rfl, hS27.fin0⟩
        · skip
          refine W_v rfl (wanted_t rfl rfl (et rfl) (ez rfl)) (V_mov rfl (es rfl (es rfl (es rfl (es rfl (es rfl (es rfl (es rfl (es rfl (es rfl (es rfl (es rfl (es rfl (es rfl (es rfl (es rfl (es rfl (es rfl l2_4)))))))))))))))))) ?_
          refine W_v rfl (wanted_t rfl rfl (es rfl (et rfl)) (ez rfl)) (V_lenS rfl (et rfl) (sl_SlN h_lv.at) Try.underlying22) ?_
          refine W_v rfl (wanted_t rfl rfl (es rfl (es rfl (et rfl))) (ez rfl)) (V_gtr rfl (et rfl) rfl) ?_
          refine W_v rfl rfl (V_pickF rfl (es rfl (es rfl (es rfl (et rfl)))) (et rfl)) ?_
          refine W_end ?_
          refine gen_Q (fun A28 hA28 => ?_)
          have hsz28 : SzN A28 80 := by rw [hA28]; infer_instance
          have hdf28 : A28.defers = [] := by rw [hA28]; simp only [df_put]; exact hdf4
          have l2_28 := lookE hA28 2 (es rfl (es rfl (es rfl (es rfl (es rfl (es rfl (es rfl (es rfl (es rfl (es rfl (es rfl (es rfl (es rfl (es rfl (es rfl (es rfl (es rfl (es rfl (es rfl (es rfl (es rfl l2_4)))))))))))))))))))))
          have l3_28 := lookE hA28 3 (es rfl (es rfl (es rfl (es rfl (es rfl (es rfl (es rfl (es rfl (es rfl (es rfl (es rfl (es rfl (es rfl (es rfl (es rfl (es rfl (es rfl (es rfl (es rfl (es rfl (es rfl l3_4)))))))))))))))))))))
          have l4_28 := lookE hA28 4 (es rfl (es rfl (es rfl (es rfl (es rfl (es rfl (es rfl (es rfl (es rfl (es rfl (es rfl (es rfl (es rfl (es rfl (es rfl (es rfl (es rfl (es rfl (es rfl (es rfl (es rfl l4_4)))))))))))))))))))))
          have l35_28 := lookE hA28 35 (et rfl)
          clear hA28 hsz4 hdf4 l2_4 l3_4 l4_4
          refine then_n (hK6 _ _ ?_)
          clear hK6
          refine cond_dec l35_28 (fun c29 => ?_) (fun c29 => ?_)
          · skip
            refine wp_seq_k (fun K30 hK30 => ?_)
            -- region 2
            refine region_in ?_
            refine W_call rfl rfl rfl Try.func12 (by kernel_rfl) rfl (args0) (awake_c  ) ?_
            rintro _ w31 ⟨rfl, hP31⟩
            refine ⟨_, rfl, ?_⟩
            have hS31 := hS14.join hP31
            replace hS31 : St w NoX [c3, c2] w31 := hS31
            refine W_v rfl rfl (V_asg rfl (et rfl)) ?_
            refine W_end ?_
            refine gen_Q (fun A32 hA32 => ?_)
            have hsz32 : SzN A32 80 := by rw [hA32]; infer_instance
            have hdf32 : A32.defers = [] := by rw [hA32]; simp only [df_put]; exact hdf28
            have l6_32 := lookE hA32 6 (et rfl)
            clear hA32 hsz28 hdf28 l2_28 l3_28 l4_28 l35_28
            have hS33 : St w NoX [] w31 := hS31.sel [] (by decide) rfl
            refine then_n (hK30 _ _ ?_)
            clear hK30
            refine wp_ret ?_
            refine then_ret ?_
            refine ret_in (results_1 Try.results4 (rv_tmp l6_32)) hdf32 ?_
            -- leaf FFTFT
            exact ⟨rfl, hS33.fin0⟩
          · skip
            refine wp_skip ?_
            refine then_n (hK5 _ _ ?_)
            clear hK5
            refine wp_seq_k (fun K34 hK34 => ?_)
            -- region 3
            refine region_in ?_
            refine W_v rfl rfl (V_mov rfl l2_28) ?_
            refine W_call rfl rfl rfl Try.func20 (by kernel_rfl) rfl (args1 (et rfl)) (kOf_c (hS14.roC h_lv) ) ?_
            rintro _ w35 ⟨v_35, rfl, hP35⟩
            refine ⟨_, rfl, ?_⟩
            obtain ⟨c_35, hc_35, hP35⟩ := gen1 hP35
            have hS35 := hS14.join hP35
            replace hS35 : St w NoX [c_35, c3, c2] w35 := hS35
            refine W_v rfl rfl (V_mov rfl (et rfl)) ?_
            refine W_v rfl rfl (V_ext (v := .agg #[v_35]) rfl (et rfl) rfl) ?_
            refine W_v rfl rfl (V_ext (v := .int .i64 ((ofE l))) rfl (es rfl (et rfl)) rfl) ?_
            refine W_allocS (z := .agg #[.slice none 0 0]) (zs := #[.slice none 0 0]) hS35 rfl rfl rfl (by kernel_rfl) (by rfl) (fun g36 w36 c36 hc36 hS36 => ?_)
            replace hS36 : St w NoX [c36, c_35, c3, c2] w36 := hS36
            refine W_stAS 0 hS36 rfl hc36 rfl rfl rfl (et rfl) (es rfl (es rfl (et rfl))) (by simp only [List.all_toArray, List.all_cons, List.all_nil, SlN_one (ow_at (hS36.chq 1 rfl hc_35))] <;> rfl) (by rfl) (by kernel_rfl) (fun w37 c37 hc37 hS37 => ?_)
            replace hS37 : St w NoX [c37, c_35, c3, c2] w37 := hS37
            refine W_v rfl rfl (V_asg rfl (es rfl (et rfl))) ?_
            refine W_end ?_
            refine gen_Q (fun A38 hA38 => ?_)
            have hsz38 : SzN A38 80 := by rw [hA38]; infer_instance
            have hdf38 : A38.defers = [] := by rw [hA38]; simp only [df_put]; exact hdf28
            have l2_38 := lookE hA38 2 (es rfl (es rfl (es rfl (es rfl (es rfl (es rfl (es rfl l2_28)))))))
            have l3_38 := lookE hA38 3 (es rfl (es rfl (es rfl (es rfl (es rfl (es rfl (es rfl l3_28)))))))
            have l4_38 := lookE hA38 4 (es rfl (es rfl (es rfl (es rfl (es rfl (es rfl (es rfl l4_28)))))))
            have l7_38 := lookE hA38 7 (es rfl (et rfl))
            have l8_38 := lookE hA38 8 (et rfl)
            clear hA38 hsz28 hdf28 l2_28 l3_28 l4_28 l35_28
            refine then_n (hK34 _ _ ?_)
            clear hK34
            refine wp_seq_k (fun K39 hK39 => ?_)
            -- region 4
            refine region_in ?_
            refine W_v rfl rfl (V_mov rfl l2_38) ?_
            refine W_call rfl rfl rfl Try.func21 (by kernel_rfl) rfl (args1 (et rfl)) (qOf_c (hS37.roC h_lv) ) ?_
            rintro _ w40 ⟨v_40, rfl, hP40⟩
            refine ⟨_, rfl, ?_⟩
            obtain ⟨c_40, hc_40, hP40⟩ := gen1 hP40
            have hS40 := hS37.join hP40
            replace hS40 : St w NoX [c_40, c37, c_35, c3, c2] w40 := hS40
            refine W_v rfl rfl (V_mov rfl (et rfl)) ?_
            refine W_v rfl rfl (V_ext (v := .agg #[v_40]) rfl (et rfl) rfl) ?_
            refine W_v rfl rfl (V_ext (v := .int .i64 ((ofE l))) rfl (es rfl (et rfl)) rfl) ?_
            refine W_allocS (z := .agg #[.slice none 0 0]) (zs := #[.slice none 0 0]) hS40 rfl rfl rfl (by kernel_rfl) (by rfl) (fun g41 w41 c41 hc41 hS41 => ?_)
            replace hS41 : St w NoX [c41, c_40, c37, c_35, c3, c2] w41 := hS41
            refine W_stAS 0 hS41 rfl hc41 rfl rfl rfl (et rfl) (es rfl (es rfl (et rfl))) (by simp only [List.all_toArray, List.all_cons, List.all_nil, SlN_one (ow_at (hS41.chq 1 rfl hc_40))] <;> rfl) (by rfl) (by kernel_rfl) (fun w42 c42 hc42 hS42 => ?_)
            replace hS42 : St w NoX [c42, c_40, c37, c_35, c3, c2] w42 := hS42
            refine W_v rfl rfl (V_asg rfl (es rfl (et rfl))) ?_
            refine W_end ?_
            refine gen_Q (fun A43 hA43 => ?_)
            have hsz43 : SzN A43 80 := by rw [hA43]; infer_instance
            have hdf43 : A43.defers = [] := by rw [hA43]; simp only [df_put]; exact hdf38
            have l3_43 := lookE hA43 3 (es rfl (es rfl (es rfl (es rfl (es rfl (es rfl (es rfl l3_38)))))))
            have l4_43 := lookE hA43 4 (es rfl (es rfl (es rfl (es rfl (es rfl (es rfl (es rfl l4_38)))))))
            have l7_43 := lookE hA43 7 (es rfl (es rfl (es rfl (es rfl (es rfl (es rfl (es rfl l7_38)))))))
            have l8_43 := lookE hA43 8 (es rfl (es rfl (es rfl (es rfl (es rfl (es rfl (es rfl l8_38)))))))
            have l9_43 := lookE hA43 9 (es rfl (et rfl))
            have l10_43 := lookE hA43 10 (et rfl)
            clear hA43 hsz38 hdf38 l2_38 l3_38 l4_38 l7_38 l8_38
            refine then_n (hK39 _ _ ?_)
            clear hK39
            refine wp_seq_k (fun K44 hK44 => ?_)
            -- region 5
            refine region_in ?_
            refine W_r rfl rfl (VR_ldA rfl l3_43 (hS42.obj 5 rfl hc2) Try.underlying24 rfl (by kernel_rfl)) ?_
            refine W_r rfl rfl (VR_ldA rfl (es rfl l4_43) (hS42.obj 4 rfl hc3) Try.underlying24 rfl (by kernel_rfl)) ?_
            refine W_call rfl rfl rfl Try.func22 (by kernel_rfl) rfl (args2 (es rfl (et rfl)) (et rfl)) (kJoin_c (hS42.roC h_cv) (hS42.roC h_dv) ) ?_
            rintro _ w45 ⟨v_45, rfl, hP45⟩
            refine ⟨_, rfl, ?_⟩
            obtain ⟨c_45, hc_45, hP45⟩ := gen1 hP45
            have hS45 := hS42.join hP45
            replace hS45 : St w NoX [c_45, c42, c_40, c37, c_35, c3, c2] w45 := hS45
            refine W_v rfl rfl (V_mov rfl (et rfl)) ?_
            refine W_v rfl rfl (V_ext (v := .agg #[v_45]) rfl (et rfl) rfl) ?_
            refine W_v rfl rfl (V_ext (v := .int .i64 ((jnE c d))) rfl (es rfl (et rfl)) rfl) ?_
            refine W_allocS (z := .agg #[.slice none 0 0]) (zs := #[.slice none 0 0]) hS45 rfl rfl rfl (by kernel_rfl) (by rfl) (fun g46 w46 c46 hc46 hS46 => ?_)
            replace hS46 : St w NoX [c46, c_45, c42, c_40, c37, c_35, c3, c2] w46 := hS46
            refine W_stAS 0 hS46 rfl hc46 rfl rfl rfl (et rfl) (es rfl (es rfl (et rfl))) (by simp only [List.all_toArray, List.all_cons, List.all_nil, SlN_one (ow_at (hS46.chq 1 rfl hc_45))] <;> rfl) (by rfl) (by kernel_rfl) (fun w47 c47 hc47 hS47 => ?_)
            replace hS47 : St w NoX [c47, c_45, c42, c_40, c37, c_35, c3, c2] w47 := hS47
            refine W_v rfl rfl (V_asg rfl (es rfl (et rfl))) ?_
            refine W_end ?_
            refine gen_Q (fun A48 hA48 => ?_)
            have hsz48 : SzN A48 80 := by rw [hA48]; infer_instance
            have hdf48 : A48.defers = [] := by rw [hA48]; simp only [df_put]; exact hdf43
            have l3_48 := lookE hA48 3 (es rfl (es rfl (es rfl (es rfl (es rfl (es rfl (es rfl (es rfl l3_43))))))))
            have l4_48 := lookE hA48 4 (es rfl (es rfl (es rfl (es rfl (es rfl (es rfl (es rfl (es rfl l4_43))))))))
            have l7_48 := lookE hA48 7 (es rfl (es rfl (es rfl (es rfl (es rfl (es rfl (es rfl (es rfl l7_43))))))))
            have l8_48 := lookE hA48 8 (es rfl (es rfl (es rfl (es rfl (es rfl (es rfl (es rfl (es rfl l8_43))))))))
            have l9_48 := lookE hA48 9 (es rfl (es rfl (es rfl (es rfl (es rfl (es rfl (es rfl (es rfl l9_43))))))))
            have l10_48 := lookE hA48 10 (es rfl (es rfl (es rfl (es rfl (es rfl (es rfl (es rfl (es rfl l10_43))))))))
            have l11_48 := lookE hA48 11 (es rfl (et rfl))
            have l12_48 := lookE hA48 12 (et rfl)
            clear hA48 hsz43 hdf43 l3_43 l4_43 l7_43 l8_43 l9_43 l10_43
            refine then_n (hK44 _ _ ?_)
            clear hK44
            refine wp_seq_k (fun K49 hK49 => ?_)
            -- region 6
            refine region_in ?_
            refine W_r rfl rfl (VR_ldA rfl l3_48 (hS47.obj 7 rfl hc2) Try.underlying24 rfl (by kernel_rfl)) ?_
            refine W_r rfl rfl (VR_ldA rfl (es rfl l4_48) (hS47.obj 6 rfl hc3) Try.underlying24 rfl (by kernel_rfl)) ?_
            refine W_call rfl rfl rfl Try.func23 (by kernel_rfl) rfl (args2 (es rfl (et rfl)) (et rfl)) (qJoin_c (hS47.roC h_cv) (hS47.roC h_dv) ) ?_
            rintro _ w50 ⟨v_50, rfl, hP50⟩
            refine ⟨_, rfl, ?_⟩
            obtain ⟨c_50, hc_50, hP50⟩ := gen1 hP50
            have hS50 := hS47.join hP50
            replace hS50 : St w NoX [c_50, c47, c_45, c42, c_40, c37, c_35, c3, c2] w50 := hS50
            refine W_v rfl rfl (V_mov rfl (et rfl)) ?_
            refine W_v rfl rfl (V_ext (v := .agg #[v_50]) rfl (et rfl) rfl) ?_
            refine W_v rfl rfl (V_ext (v := .int .i64 ((jnE c d))) rfl (es rfl (et rfl)) rfl) ?_
            refine W_allocS (z := .agg #[.slice none 0 0]) (zs := #[.slice none 0 0]) hS50 rfl rfl rfl (by kernel_rfl) (by rfl) (fun g51 w51 c51 hc51 hS51 => ?_)
            replace hS51 : St w NoX [c51, c_50, c47, c_45, c42, c_40, c37, c_35, c3, c2] w51 := hS51
            refine W_stAS 0 hS51 rfl hc51 rfl rfl rfl (et rfl) (es rfl (es rfl (et rfl))) (by simp only [List.all_toArray, List.all_cons, List.all_nil, SlN_one (ow_at (hS51.chq 1 rfl hc_50))] <;> rfl) (by rfl) (by kernel_rfl) (fun w52 c52 hc52 hS52 => ?_)
            replace hS52 : St w NoX [c52, c_50, c47, c_45, c42, c_40, c37, c_35, c3, c2] w52 := hS52
            refine W_v rfl rfl (V_asg rfl (es rfl (et rfl))) ?_
            refine W_end ?_
            refine gen_Q (fun A53 hA53 => ?_)
            have hsz53 : SzN A53 80 := by rw [hA53]; infer_instance
            have hdf53 : A53.defers = [] := by rw [hA53]; simp only [df_put]; exact hdf48
            have l7_53 := lookE hA53 7 (es rfl (es rfl (es rfl (es rfl (es rfl (es rfl (es rfl (es rfl l7_48))))))))
            have l8_53 := lookE hA53 8 (es rfl (es rfl (es rfl (es rfl (es rfl (es rfl (es rfl (es rfl l8_48))))))))
            have l9_53 := lookE hA53 9 (es rfl (es rfl (es rfl (es rfl (es rfl (es rfl (es rfl (es rfl l9_48))))))))
            have l10_53 := lookE hA53 10 (es rfl (es rfl (es rfl (es rfl (es rfl (es rfl (es rfl (es rfl l10_48))))))))
            have l11_53 := lookE hA53 11 (es rfl (es rfl (es rfl (es rfl (es rfl (es rfl (es rfl (es rfl l11_48))))))))
            have l12_53 := lookE hA53 12 (es rfl (es rfl (es rfl (es rfl (es rfl (es rfl (es rfl (es rfl l12_48))))))))
            have l13_53 := lookE hA53 13 (es rfl (et rfl))
            have l14_53 := lookE hA53 14 (et rfl)
            clear hA53 hsz48 hdf48 l3_48 l4_48 l7_48 l8_48 l9_48 l10_48 l11_48 l12_48
            have hS54 : St w NoX [c52, c_50, c47, c_45, c42, c_40, c37, c_35] w52 := hS52.sel [0, 1, 2, 3, 4, 5, 6, 7] (by decide) rfl
            refine then_n (hK49 _ _ ?_)
            clear hK49
            refine wp_seq_k (fun K55 hK55 => ?_)
            -- region 7
            refine region_in ?_
            refine W_r rfl rfl (VR_ldA rfl l7_53 (hS54.obj 6 rfl hc37) Try.underlying24 rfl (by kernel_rfl)) ?_
            refine W_r rfl rfl (VR_ldA rfl (es rfl l9_53) (hS54.obj 4 rfl hc42) Try.underlying24 rfl (by kernel_rfl)) ?_
            refine W_call rfl rfl rfl Try.func17 (by kernel_rfl) rfl (args2 (es rfl (et rfl)) (et rfl)) (same_c (hS54.chC 7 rfl hc_35).own (hS54.chC 5 rfl hc_40).own ) ?_
            rintro _ w56 ⟨rfl, hP56⟩
            refine ⟨_, rfl, ?_⟩
            have hS56 := hS54.join hP56
            replace hS56 : St w NoX [c52, c_50, c47, c_45, c42, c_40, c37, c_35] w56 := hS56
            refine W_sure (c' := true) rfl rfl (V_mov rfl (et rfl)) (by simp) ?_
            refine W_v rfl (wanted_t rfl rfl (et rfl) (ez rfl)) (V_mov rfl (es rfl (es rfl (es rfl (es rfl l8_53))))) ?_
            refine W_v rfl (wanted_t rfl rfl (es rfl (et rfl)) (ez rfl)) (V_mov rfl (es rfl (es rfl (es rfl (es rfl (es rfl l10_53)))))) ?_
            refine W_v rfl (wanted_t rfl rfl (es rfl (es rfl (et rfl))) (ez rfl)) (V_eql rfl (es rfl (et rfl)) (et rfl)) ?_
            refine W_v rfl rfl (V_pickT rfl (es rfl (es rfl (es rfl (et rfl)))) (et rfl)) ?_
            refine W_sure (c' := true) rfl rfl (V_mov rfl (et rfl)) (by simp) ?_
            refine W_r rfl (wanted_t rfl rfl (et rfl) (ez rfl)) (VR_ldA rfl (es rfl (es rfl (es rfl (es rfl (es rfl (es rfl (es rfl (es rfl (es rfl l11_53))))))))) (hS56.obj 2 rfl hc47) Try.underlying24 rfl (by kernel_rfl)) ?_
            refine W_r rfl (wanted_t rfl rfl (es rfl (et rfl)) (ez rfl)) (VR_ldA rfl (es rfl (es rfl (es rfl (es rfl (es rfl (es rfl (es rfl (es rfl (es rfl (es rfl l13_53)))))))))) (hS56.obj 0 rfl hc52) Try.underlying24 rfl (by kernel_rfl)) ?_
            refine W_call rfl (wanted_t rfl rfl (es rfl (es rfl (et rfl))) (ez rfl)) rfl Try.func17 (by kernel_rfl) rfl (args2 (es rfl (et rfl)) (et rfl)) (same_c (hS56.chC 3 rfl hc_45).own (hS56.chC 1 rfl hc_50).own ) ?_
            rintro _ w57 ⟨rfl, hP57⟩
            refine ⟨_, rfl, ?_⟩
            have hS57 := hS56.join hP57
            replace hS57 : St w NoX [c52, c_50, c47, c_45, c42, c_40, c37, c_35] w57 := hS57
            refine W_v rfl rfl (V_pickT rfl (es rfl (es rfl (es rfl (et rfl)))) (et rfl)) ?_
            refine W_sure (c' := true) rfl rfl (V_mov rfl (et rfl)) (by simp) ?_
            refine W_v rfl (wanted_t rfl rfl (et rfl) (ez rfl)) (V_mov rfl (es rfl (es rfl (es rfl (es rfl (es rfl (es rfl (es rfl (es rfl (es rfl (es rfl (es rfl (es rfl (es rfl (es rfl l12_53))))))))))))))) ?_
            refine W_v rfl (wanted_t rfl rfl (es rfl (et rfl)) (ez rfl)) (V_mov rfl (es rfl (es rfl (es rfl (es rfl (es rfl (es rfl (es rfl (es rfl (es rfl (es rfl (es rfl (es rfl (es rfl (es rfl (es rfl l14_53)))))))))))))))) ?_
            refine W_v rfl (wanted_t rfl rfl (es rfl (es rfl (et rfl))) (ez rfl)) (V_eql rfl (es rfl (et rfl)) (et rfl)) ?_
            refine W_v rfl rfl (V_pickT rfl (es rfl (es rfl (es rfl (et rfl)))) (et rfl)) ?_
            refine W_sure (c' := true) rfl rfl (V_mov rfl (et rfl)) (by simp) ?_
            refine W_call rfl (wanted_t rfl rfl (et rfl) (ez rfl)) rfl Try.func12 (by kernel_rfl) rfl (args0) (awake_c  ) ?_
            rintro _ w58 ⟨rfl, hP58⟩
            refine ⟨_, rfl, ?_⟩
            have hS58 := hS57.join hP58
            replace hS58 : St w NoX [c52, c_50, c47, c_45, c42, c_40, c37, c_35] w58 := hS58
            refine W_v rfl rfl (V_pickT rfl (es rfl (et rfl)) (et rfl)) ?_
            refine W_v rfl rfl (V_asg rfl (et rfl)) ?_
            refine W_end ?_
            refine gen_Q (fun A59 hA59 => ?_)
            have hsz59 : SzN A59 80 := by rw [hA59]; infer_instance
            have hdf59 : A59.defers = [] := by rw [hA59]; simp only [df_put]; exact hdf53
            have l6_59 := lookE hA59 6 (et rfl)
            clear hA59 hsz53 hdf53 l7_53 l8_53 l9_53 l10_53 l11_53 l12_53 l13_53 l14_53
            have hS60 : St w NoX [] w58 := hS58.sel [] (by decide) rfl
            refine then_n (hK55 _ _ ?_)
            clear hK55
            refine wp_ret ?_
            refine ret_in (results_1 Try.results4 (rv_tmp l6_59)) hdf59 ?_
            -- leaf FFTFF
            exact ⟨rfl, hS60.fin0⟩
      · skip
        refine W_off rfl (wanted_f rfl rfl (et rfl) (ez rfl) rfl) ?_
        refine W_off rfl (wanted_f rfl rfl (es rfl (et rfl)) (ez rfl) rfl) ?_
        refine W_off rfl (wanted_f rfl rfl (es rfl (es rfl (et rfl))) (ez rfl) rfl) ?_
        refine W_v rfl (wanted_t rfl rfl (es rfl (es rfl (es rfl (es rfl (es rfl (es rfl (es rfl (et rfl)))))))) (ez rfl)) (V_pickF rfl (es rfl (es rfl (es rfl (et rfl)))) rfl) ?_
        refine W_v rfl rfl (V_pickF rfl (es rfl (es rfl (es rfl (es rfl (es rfl (es rfl (es rfl (es rfl (et rfl))))))))) (et rfl)) ?_
        refine W_v rfl rfl (V_mov rfl (et rfl)) ?_
        refine W_v rfl (wanted_t rfl rfl (et rfl) (ez rfl)) (V_mov rfl (es rfl (es rfl (es rfl (es rfl (es rfl (es rfl (es rfl (es rfl (es rfl (es rfl (es rfl (es rfl (es rfl (es rfl (es rfl (es rfl (es rfl l2_4)))))))))))))))))) ?_
        refine W_v rfl (wanted_t rfl rfl (es rfl (et rfl)) (ez rfl)) (V_lenS rfl (et rfl) (sl_SlN h_lv.at) Try.underlying22) ?_
        refine W_v rfl (wanted_t rfl rfl (es rfl (es rfl (et rfl))) (ez rfl)) (V_gtr rfl (et rfl) rfl) ?_
        refine W_v rfl rfl (V_pickF rfl (es rfl (es rfl (es rfl (et rfl)))) (et rfl)) ?_
        refine W_end ?_
        refine gen_Q (fun A61 hA61 => ?_)
        have hsz61 : SzN A61 80 := by rw [hA61]; infer_instance
        have hdf61 : A61.defers = [] := by rw [hA61]; simp only [df_put]; exact hdf4
        have l2_61 := lookE hA61 2 (es rfl (es rfl (es rfl (es rfl (es rfl (es rfl (es rfl (es rfl (es rfl (es rfl (es rfl (es rfl (es rfl (es rfl (es rfl (es rfl (es rfl (es rfl (es rfl (es rfl (es rfl l2_4)))))))))))))))))))))
        have l3_61 := lookE hA61 3 (es rfl (es rfl (es rfl (es rfl (es rfl (es rfl (es rfl (es rfl (es rfl (es rfl (es rfl (es rfl (es rfl (es rfl (es rfl (es rfl (es rfl (es rfl (es rfl (es rfl (es rfl l3_4)))))))))))))))))))))
        have l4_61 := lookE hA61 4 (es rfl (es rfl (es rfl (es rfl (es rfl (es rfl (es rfl (es rfl (es rfl (es rfl (es rfl (es rfl (es rfl (es rfl (es rfl (es rfl (es rfl (es rfl (es rfl (es rfl (es rfl l4_4)))))))))))))))))))))
        have l35_61 := lookE hA61 35 (et rfl)
        clear hA61 hsz4 hdf4 l2_4 l3_4 l4_4
        refine then_n (hK6 _ _ ?_)
        clear hK6
        refine cond_dec l35_61 (fun c62 => ?_) (fun c62 => ?_)
        · skip
          refine wp_seq_k (fun K63 hK63 => ?_)
          -- region 2
          refine region_in ?_
          refine W_call rfl rfl rfl Try.func12 (by kernel_rfl) rfl (args0) (awake_c  ) ?_
          rintro _ w64 ⟨rfl, hP64⟩
          refine ⟨_, rfl, ?_⟩
          have hS64 := hS14.join hP64
          replace hS64 : St w NoX [c3, c2] w64 := hS64
          refine W_v rfl rfl (V_asg rfl (et rfl)) ?_
          refine W_end ?_
          refine gen_Q (fun A65 hA65 => ?_)
          have hsz65 : SzN A65 80 := by rw [hA65]; infer_instance
          have hdf65 : A65.defers = [] := by rw [hA65]; simp only [df_put]; exact hdf61
          have l6_65 := lookE hA65 6 (et rfl)
          clear hA65 hsz61 hdf61 l2_61 l3_61 l4_61 l35_61
          have hS66 : St w NoX [] w64 := hS64.sel [] (by decide) rfl
          refine then_n (hK63 _ _ ?_)
          clear hK63
          refine wp_ret ?_
          refine then_ret ?_
          refine ret_in (results_1 Try.results4 (rv_tmp l6_65)) hdf65 ?_
          -- leaf FFFT
          exact ⟨rfl, hS66.fin0⟩
        · skip
          refine wp_skip ?_
          refine then_n (hK5 _ _ ?_)
          clear hK5
          refine wp_seq_k (fun K67 hK67 => ?_)
          -- region 3
          refine region_in ?_
          refine W_v rfl rfl (V_mov rfl l2_61) ?_
          refine W_call rfl rfl rfl Try.func20 (by kernel_rfl) rfl (args1 (et rfl)) (kOf_c (hS14.roC h_lv) ) ?_
          rintro _ w68 ⟨v_68, rfl, hP68⟩
          refine ⟨_, rfl, ?_⟩
          obtain ⟨c_68, hc_68, hP68⟩ := gen1 hP68
          have hS68 := hS14.join hP68
          replace hS68 : St w NoX [c_68, c3, c2] w68 := hS68
          refine W_v rfl rfl (V_mov rfl (et rfl)) ?_
          refine W_v rfl rfl (V_ext (v := .agg #[v_68]) rfl (et rfl) rfl) ?_
          refine W_v rfl rfl (V_ext (v := .int .i64 ((ofE l))) rfl (es rfl (et rfl)) rfl) ?_
          refine W_allocS (z := .agg #[.slice none 0 0]) (zs := #[.slice none 0 0]) hS68 rfl rfl rfl (by kernel_rfl) (by rfl) (fun g69 w69 c69 hc69 hS69 => ?_)
          replace hS69 : St w NoX [c69, c_68, c3, c2] w69 := hS69
          refine W_stAS 0 hS69 rfl hc69 rfl rfl rfl (et rfl) (es rfl (es rfl (et rfl))) (by simp only [List.all_toArray, List.all_cons, List.all_nil, SlN_one (ow_at (hS69.chq 1 rfl hc_68))] <;> rfl) (by rfl) (by kernel_rfl) (fun w70 c70 hc70 hS70 => ?_)
          replace hS70 : St w NoX [c70, c_68, c3, c2] w70 := hS70
          refine W_v rfl rfl (V_asg rfl (es rfl (et rfl))) ?_
          refine W_end ?_
          refine gen_Q (fun A71 hA71 => ?_)
          have hsz71 : SzN A71 80 := by rw [hA71]; infer_instance
          have hdf71 : A71.defers = [] := by rw [hA71]; simp only [df_put]; exact hdf61
          have l2_71 := lookE hA71 2 (es rfl (es rfl (es rfl (es rfl (es rfl (es rfl (es rfl l2_61)))))))
          have l3_71 := lookE hA71 3 (es rfl (es rfl (es rfl (es rfl (es rfl (es rfl (es rfl l3_61)))))))
          have l4_71 := lookE hA71 4 (es rfl (es rfl (es rfl (es rfl (es rfl (es rfl (es rfl l4_61)))))))
          have l7_71 := lookE hA71 7 (es rfl (et rfl))
          have l8_71 := lookE hA71 8 (et rfl)
          clear hA71 hsz61 hdf61 l2_61 l3_61 l4_61 l35_61
          refine then_n (hK67 _ _ ?_)
          clear hK67
          refine wp_seq_k (fun K72 hK72 => ?_)
          -- region 4
          refine region_in ?_
          refine W_v rfl rfl (V_mov rfl l2_71) ?_
          refine W_call rfl rfl rfl Try.func21 (by kernel_rfl) rfl (args1 (et rfl)) (qOf_c (hS70.roC h_lv) ) ?_
          rintro _ w73 ⟨v_73, rfl, hP73⟩
          refine ⟨_, rfl, ?_⟩
          obtain ⟨c_73, hc_73, hP73⟩ := gen1 hP73
          have hS73 := hS70.join hP73
          replace hS73 : St w NoX [c_73, c70, c_68, c3, c2] w73 := hS73
          refine W_v rfl rfl (V_mov rfl (et rfl)) ?_
          refine W_v rfl rfl (V_ext (v := .agg #[v_73]) rfl (et rfl) rfl) ?_
          refine W_v rfl rfl (V_ext (v := .int .i64 ((ofE l))) rfl (es rfl (et rfl)) rfl) ?_
          refine W_allocS (z := .agg #[.slice none 0 0]) (zs := #[.slice none 0 0]) hS73 rfl rfl rfl (by kernel_rfl) (by rfl) (fun g74 w74 c74 hc74 hS74 => ?_)
          replace hS74 : St w NoX [c74, c_73, c70, c_68, c3, c2] w74 := hS74
          refine W_stAS 0 hS74 rfl hc74 rfl rfl rfl (et rfl) (es rfl (es rfl (et rfl))) (by simp only [List.all_toArray, List.all_cons, List.all_nil, SlN_one (ow_at (hS74.chq 1 rfl hc_73))] <;> rfl) (by rfl) (by kernel_rfl) (fun w75 c75 hc75 hS75 => ?_)
          replace hS75 : St w NoX [c75, c_73, c70, c_68, c3, c2] w75 := hS75
          refine W_v rfl rfl (V_asg rfl (es rfl (et rfl))) ?_
          refine W_end ?_
          refine gen_Q (fun A76 hA76 => ?_)
          have hsz76 : SzN A76 80 := by rw [hA76]; infer_instance
          have hdf76 : A76.defers = [] := by rw [hA76]; simp only [df_put]; exact hdf71
          have l3_76 := lookE hA76 3 (es rfl (es rfl (es rfl (es rfl (es rfl (es rfl (es rfl l3_71)))))))
          have l4_76 := lookE hA76 4 (es rfl (es rfl (es rfl (es rfl (es rfl (es rfl (es rfl l4_71)))))))
          have l7_76 := lookE hA76 7 (es rfl (es rfl (es rfl (es rfl (es rfl (es rfl (es rfl l7_71)))))))
          have l8_76 := lookE hA76 8 (es rfl (es rfl (es rfl (es rfl (es rfl (es rfl (es rfl l8_71)))))))
          have l9_76 := lookE hA76 9 (es rfl (et rfl))
          have l10_76 := lookE hA76 10 (et rfl)
          clear hA76 hsz71 hdf71 l2_71 l3_71 l4_71 l7_71 l8_71
          refine then_n (hK72 _ _ ?_)
          clear hK72
          refine wp_seq_k (fun K77 hK77 => ?_)
          -- region 5
          refine region_in ?_
          refine W_r rfl rfl (VR_ldA rfl l3_76 (hS75.obj 5 rfl hc2) Try.underlying24 rfl (by kernel_rfl)) ?_
          refine W_r rfl rfl (VR_ldA rfl (es rfl l4_76) (hS75.obj 4 rfl hc3) Try.underlying24 rfl (by kernel_rfl)) ?_
          refine W_call rfl rfl rfl Try.func22 (by kernel_rfl) rfl (args2 (es rfl (et rfl)) (et rfl)) (kJoin_c (hS75.roC h_cv) (hS75.roC h_dv) ) ?_
          rintro _ w78 ⟨v_78, rfl, hP78⟩
          refine ⟨_, rfl, ?_⟩
          obtain ⟨c_78, hc_78, hP78⟩ := gen1 hP78
          have hS78 := hS75.join hP78
          replace hS78 : St w NoX [c_78, c75, c_73, c70, c_68, c3, c2] w78 := hS78
          refine W_v rfl rfl (V_mov rfl (et rfl)) ?_
          refine W_v rfl rfl (V_ext (v := .agg #[v_78]) rfl (et rfl) rfl) ?_
          refine W_v rfl rfl (V_ext (v := .int .i64 ((jnE c d))) rfl (es rfl (et rfl)) rfl) ?_
          refine W_allocS (z := .agg #[.slice none 0 0]) (zs := #[.slice none 0 0]) hS78 rfl rfl rfl (by kernel_rfl) (by rfl) (fun g79 w79 c79 hc79 hS79 => ?_)
          replace hS79 : St w NoX [c79, c_78, c75, c_73, c70, c_68, c3, c2] w79 := hS79
          refine W_stAS 0 hS79 rfl hc79 rfl rfl rfl (et rfl) (es rfl (es rfl (et rfl))) (by simp only [List.all_toArray, List.all_cons, List.all_nil, SlN_one (ow_at (hS79.chq 1 rfl hc_78))] <;> rfl) (by rfl) (by kernel_rfl) (fun w80 c80 hc80 hS80 => ?_)
          replace hS80 : St w NoX [c80, c_78, c75, c_73, c70, c_68, c3, c2] w80 := hS80
          refine W_v rfl rfl (V_asg rfl (es rfl (et rfl))) ?_
          refine W_end ?_
          refine gen_Q (fun A81 hA81 => ?_)
          have hsz81 : SzN A81 80 := by rw [hA81]; infer_instance
          have hdf81 : A81.defers = [] := by rw [hA81]; simp only [df_put]; exact hdf76
          have l3_81 := lookE hA81 3 (es rfl (es rfl (es rfl (es rfl (es rfl (es rfl (es rfl (es rfl l3_76))))))))
          have l4_81 := lookE hA81 4 (es rfl (es rfl (es rfl (es rfl (es rfl (es rfl (es rfl (es rfl l4_76))))))))
          have l7_81 := lookE hA81 7 (es rfl (es rfl (es rfl (es rfl (es rfl (es rfl (es rfl (es rfl l7_76))))))))
          have l8_81 := lookE hA81 8 (es rfl (es rfl (es rfl (es rfl (es rfl (es rfl (es rfl (es rfl l8_76))))))))
          have l9_81 := lookE hA81 9 (es rfl (es rfl (es rfl (es rfl (es rfl (es rfl (es rfl (es rfl l9_76))))))))
          have l10_81 := lookE hA81 10 (es rfl (es rfl (es rfl (es rfl (es rfl (es rfl (es rfl (es rfl l10_76))))))))
          have l11_81 := lookE hA81 11 (es rfl (et rfl))
          have l12_81 := lookE hA81 12 (et rfl)
          clear hA81 hsz76 hdf76 l3_76 l4_76 l7_76 l8_76 l9_76 l10_76
          refine then_n (hK77 _ _ ?_)
          clear hK77
          refine wp_seq_k (fun K82 hK82 => ?_)
          -- region 6
          refine region_in ?_
          refine W_r rfl rfl (VR_ldA rfl l3_81 (hS80.obj 7 rfl hc2) Try.underlying24 rfl (by kernel_rfl)) ?_
          refine W_r rfl rfl (VR_ldA rfl (es rfl l4_81) (hS80.obj 6 rfl hc3) Try.underlying24 rfl (by kernel_rfl)) ?_
          refine W_call rfl rfl rfl Try.func23 (by kernel_rfl) rfl (args2 (es rfl (et rfl)) (et rfl)) (qJoin_c (hS80.roC h_cv) (hS80.roC h_dv) ) ?_
          rintro _ w83 ⟨v_83, rfl, hP83⟩
          refine ⟨_, rfl, ?_⟩
          obtain ⟨c_83, hc_83, hP83⟩ := gen1 hP83
          have hS83 := hS80.join hP83
          replace hS83 : St w NoX [c_83, c80, c_78, c75, c_73, c70, c_68, c3, c2] w83 := hS83
          refine W_v rfl rfl (V_mov rfl (et rfl)) ?_
          refine W_v rfl rfl (V_ext (v := .agg #[v_83]) rfl (et rfl) rfl) ?_
          refine W_v rfl rfl (V_ext (v := .int .i64 ((jnE c d))) rfl (es rfl (et rfl)) rfl) ?_
          refine W_allocS (z := .agg #[.slice none 0 0]) (zs := #[.slice none 0 0]) hS83 rfl rfl rfl (by kernel_rfl) (by rfl) (fun g84 w84 c84 hc84 hS84 => ?_)
          replace hS84 : St w NoX [c84, c_83, c80, c_78, c75, c_73, c70, c_68, c3, c2] w84 := hS84
          refine W_stAS 0 hS84 rfl hc84 rfl rfl rfl (et rfl) (es rfl (es rfl (et rfl))) (by simp only [List.all_toArray, List.all_cons, List.all_nil, SlN_one (ow_at (hS84.chq 1 rfl hc_83))] <;> rfl) (by rfl) (by kernel_rfl) (fun w85 c85 hc85 hS85 => ?_)
          replace hS85 : St w NoX [c85, c_83, c80, c_78, c75, c_73, c70, c_68, c3, c2] w85 := hS85
          refine W_v rfl rfl (V_asg rfl (es rfl (et rfl))) ?_
          refine W_end ?_
          refine gen_Q (fun A86 hA86 => ?_)
          have hsz86 : SzN A86 80 := by rw [hA86]; infer_instance
          have hdf86 : A86.defers = [] := by rw [hA86]; simp only [df_put]; exact hdf81
          have l7_86 := lookE hA86 7 (es rfl (es rfl (es rfl (es rfl (es rfl (es rfl (es rfl (es rfl l7_81))))))))
          have l8_86 := lookE hA86 8 (es rfl (es rfl (es rfl (es rfl (es rfl (es rfl (es rfl (es rfl l8_81))))))))
          have l9_86 := lookE hA86 9 (es rfl (es rfl (es rfl (es rfl (es rfl (es rfl (es rfl (es rfl l9_81))))))))
          have l10_86 := lookE hA86 10 (es rfl (es rfl (es rfl (es rfl (es rfl (es rfl (es rfl (es rfl l10_81))))))))
          have l11_86 := lookE hA86 11 (es rfl (es rfl (es rfl (es rfl (es rfl (es rfl (es rfl (es rfl l11_81))))))))
          have l12_86 := lookE hA86 12 (es rfl (es rfl (es rfl (es rfl (es rfl (es rfl (es rfl (es rfl l12_81))))))))
          have l13_86 := lookE hA86 13 (es rfl (et rfl))
          have l14_86 := lookE hA86 14 (et rfl)
          clear hA86 hsz81 hdf81 l3_81 l4_81 l7_81 l8_81 l9_81 l10_81 l11_81 l12_81
          have hS87 : St w NoX [c85, c_83, c80, c_78, c75, c_73, c70, c_68] w85 := hS85.sel [0, 1, 2, 3, 4, 5, 6, 7] (by decide) rfl
          refine then_n (hK82 _ _ ?_)
          clear hK82
          refine wp_seq_k (fun K88 hK88 => ?_)
          -- region 7
          refine region_in ?_
          refine W_r rfl rfl (VR_ldA rfl l7_86 (hS87.obj 6 rfl hc70) Try.underlying24 rfl (by kernel_rfl)) ?_
          refine W_r rfl rfl (VR_ldA rfl (es rfl l9_86) (hS87.obj 4 rfl hc75) Try.underlying24 rfl (by kernel_rfl)) ?_
          refine W_call rfl rfl rfl Try.func17 (by kernel_rfl) rfl (args2 (es rfl (et rfl)) (et rfl)) (same_c (hS87.chC 7 rfl hc_68).own (hS87.chC 5 rfl hc_73).own ) ?_
          rintro _ w89 ⟨rfl, hP89⟩
          refine ⟨_, rfl, ?_⟩
          have hS89 := hS87.join hP89
          replace hS89 : St w NoX [c85, c_83, c80, c_78, c75, c_73, c70, c_68] w89 := hS89
          refine W_sure (c' := true) rfl rfl (V_mov rfl (et rfl)) (by simp) ?_
          refine W_v rfl (wanted_t rfl rfl (et rfl) (ez rfl)) (V_mov rfl (es rfl (es rfl (es rfl (es rfl l8_86))))) ?_
          refine W_v rfl (wanted_t rfl rfl (es rfl (et rfl)) (ez rfl)) (V_mov rfl (es rfl (es rfl (es rfl (es rfl (es rfl l10_86)))))) ?_
          refine W_v rfl (wanted_t rfl rfl (es rfl (es rfl (et rfl))) (ez rfl)) (V_eql rfl (es rfl (et rfl)) (et rfl)) ?_
          refine W_v rfl rfl (V_pickT rfl (es rfl (es rfl (es rfl (et rfl)))) (et rfl)) ?_
          refine W_sure (c' := true) rfl rfl (V_mov rfl (et rfl)) (by simp) ?_
          refine W_r rfl (wanted_t rfl rfl (et rfl) (ez rfl)) (VR_ldA rfl (es rfl (es rfl (es rfl (es rfl (es rfl (es rfl (es rfl (es rfl (es rfl l11_86))))))))) (hS89.obj 2 rfl hc80) Try.underlying24 rfl (by kernel_rfl)) ?_
          refine W_r rfl (wanted_t rfl rfl (es rfl (et rfl)) (ez rfl)) (VR_ldA rfl (es rfl (es rfl (es rfl (es rfl (es rfl (es rfl (es rfl (es rfl (es rfl (es rfl l13_86)))))))))) (hS89.obj 0 rfl hc85) Try.underlying24 rfl (by kernel_rfl)) ?_
          refine W_call rfl (wanted_t rfl rfl (es rfl (es rfl (et rfl))) (ez rfl)) rfl Try.func17 (by kernel_rfl) rfl (args2 (es rfl (et rfl)) (et rfl)) (same_c (hS89.chC 3 rfl hc_78).own (hS89.chC 1 rfl hc_83).own ) ?_
          rintro _ w90 ⟨rfl, hP90⟩
          refine ⟨_, rfl, ?_⟩
          have hS90 := hS89.join hP90
          replace hS90 : St w NoX [c85, c_83, c80, c_78, c75, c_73, c70, c_68] w90 := hS90
          refine W_v rfl rfl (V_pickT rfl (es rfl (es rfl (es rfl (et rfl)))) (et rfl)) ?_
          refine W_sure (c' := true) rfl rfl (V_mov rfl (et rfl)) (by simp) ?_
          refine W_v rfl (wanted_t rfl rfl (et rfl) (ez rfl)) (V_mov rfl (es rfl (es rfl (es rfl (es rfl (es rfl (es rfl (es rfl (es rfl (es rfl (es rfl (es rfl (es rfl (es rfl (es rfl l12_86))))))))))))))) ?_
          refine W_v rfl (wanted_t rfl rfl (es rfl (et rfl)) (ez rfl)) (V_mov rfl (es rfl (es rfl (es rfl (es rfl (es rfl (es rfl (es rfl (es rfl (es rfl (es rfl (es rfl (es rfl (es rfl (es rfl (es rfl l14_86)))))))))))))))) ?_
          refine W_v rfl (wanted_t rfl rfl (es rfl (es rfl (et rfl))) (ez rfl)) (V_eql rfl (es rfl (et rfl)) (et rfl)) ?_
          refine W_v rfl rfl (V_pickT rfl (es rfl (es rfl (es rfl (et rfl)))) (et rfl)) ?_
          refine W_sure (c' := true) rfl rfl (V_mov rfl (et rfl)) (by simp) ?_
          refine W_call rfl (wanted_t rfl rfl (et rfl) (ez rfl)) rfl Try.func12 (by kernel_rfl) rfl (args0) (awake_c  ) ?_
          rintro _ w91 ⟨rfl, hP91⟩
          refine ⟨_, rfl, ?_⟩
          have hS91 := hS90.join hP91
          replace hS91 : St w NoX [c85, c_83, c80, c_78, c75, c_73, c70, c_68] w91 := hS91
          refine W_v rfl rfl (V_pickT rfl (es rfl (et rfl)) (et rfl)) ?_
          refine W_v rfl rfl (V_asg rfl (et rfl)) ?_
          refine W_end ?_
          refine gen_Q (fun A92 hA92 => ?_)
          have hsz92 : SzN A92 80 := by rw [hA92]; infer_instance
          have hdf92 : A92.defers = [] := by rw [hA92]; simp only [df_put]; exact hdf86
          have l6_92 := lookE hA92 6 (et rfl)
          clear hA92 hsz86 hdf86 l7_86 l8_86 l9_86 l10_86 l11_86 l12_86 l13_86 l14_86
          have hS93 : St w NoX [] w91 := hS91.sel [] (by decide) rfl
          refine then_n (hK88 _ _ ?_)
          clear hK88
          refine wp_ret ?_
          refine ret_in (results_1 Try.results4 (rv_tmp l6_92)) hdf92 ?_
          -- leaf FFFF
          exact ⟨rfl, hS93.fin0⟩

end Go.Proofs.Ytoandfgkkmfobaa