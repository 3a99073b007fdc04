import Derived.Test.YtoandfgkkmfobaaProg
import Derived.Test.YtoandfgkkmfobaaSl6
import Derived.Test.YtoandfgkkmfobaaPl7f
namespace Go.Proofs.Ytoandfgkkmfobaa
open Go.RowKit Go.Own Go.Own.R Go.Own.S


set_option maxHeartbeats 4000000 in
theorem SlotsOrders_c {cv : Value} {c : List Int} {dv : Value} {d : List Int} {lv : Value} {l : List Int} {w : World} (h_cv : Ro w NoX (il .i64 cv c)) (h_dv : Ro w NoX (il .i64 dv d)) (h_lv : Ro w NoX (il .i64 lv l))  :
    Calls Try.prog 10 #[.agg #[cv], .agg #[dv], lv] w fun e w' => e = .returned (.bool true) ∧ St w NoX [] w' := by
  refine calls_in 241 Try.func10 rfl rfl (by simp) (fun A0 hsz0 hdf0 hargs => ?_)
  have l0_0 := hargs 0 (.agg #[cv]) rfl
  have l1_0 := hargs 1 (.agg #[dv]) rfl
  have l2_0 := hargs 2 (lv) rfl
  clear hargs; replace hsz0 : SzN A0 241 := ⟨hsz0⟩
  have hS := St.nil w
  have bh_cv := SlN.le (sl_SlN h_cv.at)
  have bh_dv := SlN.le (sl_SlN h_dv.at)
  have bh_lv := SlN.le (sl_SlN h_lv.at)
  refine wp_seq_k (fun K1 hK1 => ?_)
  -- region 0
  refine region_in ?_
  refine W_boxS (zs := #[cv]) hS rfl rfl rfl l0_0 (by rfl) (fun g2 w2 c2 hc2 hS2 => ?_)
  replace hS2 : St w NoX [c2] w2 := hS2
  refine W_boxS (zs := #[dv]) hS2 rfl rfl rfl (es rfl l1_0) (by rfl) (fun g3 w3 c3 hc3 hS3 => ?_)
  replace hS3 : St w NoX [c3, c2] w3 := hS3
  refine W_v rfl rfl (V_asg rfl rfl) ?_
  refine W_end ?_
  refine gen_Q (fun A4 hA4 => ?_)
  have hsz4 : SzN A4 241 := by rw [hA4]; infer_instance
  have hdf4 : A4.defers = [] := by rw [hA4]; simp only [df_put]; exact hdf0
  have l2_4 := lookE hA4 2 (es rfl (es rfl (es rfl l2_0)))
  have l3_4 := lookE hA4 3 (es rfl (es rfl (et rfl)))
  have l4_4 := lookE hA4 4 (es rfl (et rfl))
  clear hA4 hsz0 hdf0 l0_0 l1_0 l2_0
  refine then_n (hK1 _ _ ?_)
  clear hK1
  refine wp_seq_k (fun K5 hK5 => ?_)
  refine wp_seq_k (fun K6 hK6 => ?_)
  -- region 1
  refine region_in ?_
  refine W_r rfl rfl (VR_ldA rfl l3_4 (hS3.obj 1 rfl hc2) Try.underlying24 rfl (by kernel_rfl)) ?_
  refine W_call rfl rfl rfl Try.func11 (by kernel_rfl) rfl (args1 (et rfl)) (far_c (hS3.roC h_cv) ) ?_
  rintro _ w7 ⟨rfl, hP7⟩
  refine ⟨_, rfl, ?_⟩
  have hS7 := hS3.join hP7
  replace hS7 : St w NoX [c3, c2] w7 := hS7
  refine W_split rfl rfl (V_mov rfl (et rfl)) (fun c8 => ?_) (fun c8 => ?_)
  · skip
    refine W_off rfl (wanted_f rfl rfl (et rfl) (ez rfl) rfl) ?_
    refine W_off rfl (wanted_f rfl rfl (es rfl (et rfl)) (ez rfl) rfl) ?_
    refine W_v rfl rfl (V_pickT rfl (es rfl (es rfl (et rfl))) rfl) ?_
    refine W_v rfl rfl (V_mov rfl (et rfl)) ?_
    refine W_off rfl (wanted_f rfl rfl (et rfl) (ez rfl) rfl) ?_
    refine W_off rfl (wanted_f rfl rfl (es rfl (et rfl)) (ez rfl) rfl) ?_
    refine W_off rfl (wanted_f rfl rfl (es rfl (es rfl (et rfl))) (ez rfl) rfl) ?_
    refine W_v rfl rfl (V_pickT rfl (es rfl (es rfl (es rfl (et rfl)))) rfl) ?_
    refine W_end ?_
    refine gen_Q (fun A9 hA9 => ?_)
    have hsz9 : SzN A9 241 := by rw [hA9]; infer_instance
    have hdf9 : A9.defers = [] := by rw [hA9]; simp only [df_put]; exact hdf4
    have l2_9 := lookE hA9 2 (es rfl (es rfl (es rfl (es rfl (es rfl (es rfl (es rfl (es rfl (es rfl (es rfl (es rfl l2_4)))))))))))
    have l3_9 := lookE hA9 3 (es rfl (es rfl (es rfl (es rfl (es rfl (es rfl (es rfl (es rfl (es rfl (es rfl (es rfl l3_4)))))))))))
    have l4_9 := lookE hA9 4 (es rfl (es rfl (es rfl (es rfl (es rfl (es rfl (es rfl (es rfl (es rfl (es rfl (es rfl l4_4)))))))))))
    have l45_9 := lookE hA9 45 (et rfl)
    clear hA9 hsz4 hdf4 l2_4 l3_4 l4_4
    refine then_n (hK6 _ _ ?_)
    clear hK6
    refine cond_t l45_9 ?_
    refine wp_seq_k (fun K10 hK10 => ?_)
    -- region 2
    refine region_in ?_
    refine W_call rfl rfl rfl Try.func12 (by kernel_rfl) rfl (args0) (awake_c  ) ?_
    rintro _ w11 ⟨rfl, hP11⟩
    refine ⟨_, rfl, ?_⟩
    have hS11 := hS7.join hP11
    replace hS11 : St w NoX [c3, c2] w11 := hS11
    refine W_v rfl rfl (V_asg rfl (et rfl)) ?_
    refine W_end ?_
    refine gen_Q (fun A12 hA12 => ?_)
    have hsz12 : SzN A12 241 := by rw [hA12]; infer_instance
    have hdf12 : A12.defers = [] := by rw [hA12]; simp only [df_put]; exact hdf9
    have l6_12 := lookE hA12 6 (et rfl)
    clear hA12 hsz9 hdf9 l2_9 l3_9 l4_9 l45_9
    have hS13 : St w NoX [] w11 := hS11.sel [] (by decide) rfl
    refine then_n (hK10 _ _ ?_)
    clear hK10
    refine wp_ret ?_
    refine then_ret ?_
    refine ret_in (results_1 Try.results10 (rv_tmp l6_12)) hdf12 ?_
    -- leaf T
    exact ⟨rfl, hS13.fin0⟩
  · skip
    refine W_r rfl (wanted_t rfl rfl (et rfl) (ez rfl)) (VR_ldA rfl (es rfl (es rfl (es rfl l4_4))) (hS7.obj 0 rfl hc3) Try.underlying24 rfl (by kernel_rfl)) ?_
    refine W_call rfl (wanted_t rfl rfl (es rfl (et rfl)) (ez rfl)) rfl Try.func11 (by kernel_rfl) rfl (args1 (et rfl)) (far_c (hS7.roC h_dv) ) ?_
    rintro _ w14 ⟨rfl, hP14⟩
    refine ⟨_, rfl, ?_⟩
    have hS14 := hS7.join hP14
    replace hS14 : St w NoX [c3, c2] w14 := hS14
    refine W_v rfl rfl (V_pickF rfl (es rfl (es rfl (et rfl))) (et rfl)) ?_
    refine W_split rfl rfl (V_mov rfl (et rfl)) (fun c15 => ?_) (fun c15 => ?_)
    · skip
      refine W_off rfl (wanted_f rfl rfl (et rfl) (ez rfl) rfl) ?_
      refine W_off rfl (wanted_f rfl rfl (es rfl (et rfl)) (ez rfl) rfl) ?_
      refine W_off rfl (wanted_f rfl rfl (es rfl (es rfl (et rfl))) (ez rfl) rfl) ?_
      refine W_v rfl rfl (V_pickT rfl (es rfl (es rfl (es rfl (et rfl)))) rfl) ?_
      refine W_end ?_
      refine gen_Q (fun A16 hA16 => ?_)
      have hsz16 : SzN A16 241 := by rw [hA16]; infer_instance
      have hdf16 : A16.defers = [] := by rw [hA16]; simp only [df_put]; exact hdf4
      have l2_16 := lookE hA16 2 (es rfl (es rfl (es rfl (es rfl (es rfl (es rfl (es rfl (es rfl (es rfl (es rfl (es rfl l2_4)))))))))))
      have l3_16 := lookE hA16 3 (es rfl (es rfl (es rfl (es rfl (es rfl (es rfl (es rfl (es rfl (es rfl (es rfl (es rfl l3_4)))))))))))
      have l4_16 := lookE hA16 4 (es rfl (es rfl (es rfl (es rfl (es rfl (es rfl (es rfl (es rfl (es rfl (es rfl (es rfl l4_4)))))))))))
      have l45_16 := lookE hA16 45 (et rfl)
      clear hA16 hsz4 hdf4 l2_4 l3_4 l4_4
      refine then_n (hK6 _ _ ?_)
      clear hK6
      refine cond_t l45_16 ?_
      refine wp_seq_k (fun K17 hK17 => ?_)
      -- region 2
      refine region_in ?_
      refine W_call rfl rfl rfl Try.func12 (by kernel_rfl) rfl (args0) (awake_c  ) ?_
      rintro _ w18 ⟨rfl, hP18⟩
      refine ⟨_, rfl, ?_⟩
      have hS18 := hS14.join hP18
      replace hS18 : St w NoX [c3, c2] w18 := hS18
      refine W_v rfl rfl (V_asg rfl (et rfl)) ?_
      refine W_end ?_
      refine gen_Q (fun A19 hA19 => ?_)
      have hsz19 : SzN A19 241 := by rw [hA19]; infer_instance
      have hdf19 : A19.defers = [] := by rw [hA19]; simp only [df_put]; exact hdf16
      have l6_19 := lookE hA19 6 (et rfl)
      clear hA19 hsz16 hdf16 l2_16 l3_16 l4_16 l45_16
      have hS20 : St w NoX [] w18 := hS18.sel [] (by decide) rfl
      refine then_n (hK17 _ _ ?_)
      clear hK17
      refine wp_ret ?_
      refine then_ret ?_
      refine ret_in (results_1 Try.results10 (rv_tmp l6_19)) hdf19 ?_
      -- leaf FT
      exact ⟨rfl, hS20.fin0⟩
    · skip
      refine W_v rfl (wanted_t rfl rfl (et rfl) (ez rfl)) (V_mov rfl (es rfl (es rfl (es rfl (es rfl (es rfl (es rfl (es rfl l2_4)))))))) ?_
      refine W_v rfl (wanted_t rfl rfl (es rfl (et rfl)) (ez rfl)) (V_lenS rfl (et rfl) (sl_SlN h_lv.at) Try.underlying22) ?_
      refine W_v rfl (wanted_t rfl rfl (es rfl (es rfl (et rfl))) (ez rfl)) (V_gtr rfl (et rfl) rfl) ?_
      refine W_v rfl rfl (V_pickF rfl (es rfl (es rfl (es rfl (et rfl)))) (et rfl)) ?_
      refine W_end ?_
      refine gen_Q (fun A21 hA21 => ?_)
      have hsz21 : SzN A21 241 := by rw [hA21]; infer_instance
      have hdf21 : A21.defers = [] := by rw [hA21]; simp only [df_put]; exact hdf4
      have l2_21 := lookE hA21 2 (es rfl (es rfl (es rfl (es rfl (es rfl (es rfl (es rfl (es rfl (es rfl (es rfl (es rfl l2_4)))))))))))
      have l3_21 := lookE hA21 3 (es rfl (es rfl (es rfl (es rfl (es rfl (es rfl (es rfl (es rfl (es rfl (es rfl (es rfl l3_4)))))))))))
      have l4_21 := lookE hA21 4 (es rfl (es rfl (es rfl (es rfl (es rfl (es rfl (es rfl (es rfl (es rfl (es rfl (es rfl l4_4)))))))))))
      have l45_21 := lookE hA21 45 (et rfl)
      clear hA21 hsz4 hdf4 l2_4 l3_4 l4_4
      refine then_n (hK6 _ _ ?_)
      clear hK6
      refine cond_dec l45_21 (fun c22 => ?_) (fun c22 => ?_)
      · skip
        refine wp_seq_k (fun K23 hK23 => ?_)
        -- region 2
        refine region_in ?_
        refine W_call rfl rfl rfl Try.func12 (by kernel_rfl) rfl (args0) (awake_c  ) ?_
        rintro _ w24 ⟨rfl, hP24⟩
        refine ⟨_, rfl, ?_⟩
        have hS24 := hS14.join hP24
        replace hS24 : St w NoX [c3, c2] w24 := hS24
        refine W_v rfl rfl (V_asg rfl (et rfl)) ?_
        refine W_end ?_
        refine gen_Q (fun A25 hA25 => ?_)
        have hsz25 : SzN A25 241 := by rw [hA25]; infer_instance
        have hdf25 : A25.defers = [] := by rw [hA25]; simp only [df_put]; exact hdf21
        have l6_25 := lookE hA25 6 (et rfl)
        clear hA25 hsz21 hdf21 l2_21 l3_21 l4_21 l45_21
        have hS26 : St w NoX [] w24 := hS24.sel [] (by decide) rfl
        refine then_n (hK23 _ _ ?_)
        clear hK23
        refine wp_ret ?_
        refine then_ret ?_
        refine ret_in (results_1 Try.results10 (rv_tmp l6_25)) hdf25 ?_
        -- leaf FFT
        exact ⟨rfl, hS26.fin0⟩
      · skip
        refine wp_skip ?_
        refine then_n (hK5 _ _ ?_)
        clear hK5
        refine wp_seq_k (fun K27 hK27 => ?_)
        -- region 3
        refine region_in ?_
        refine W_v rfl rfl (V_mov rfl l2_21) ?_
        refine W_v rfl rfl (V_lenS rfl (et rfl) (sl_SlN h_lv.at) Try.underlying22) ?_
        refine W_mkS (z := .int .i64 0) (bytes := 8) l.length hS14 rfl rfl rfl (et rfl) (et rfl) (by omega) Try.underlying22 (by kernel_rfl) (by omega) rfl (fun v28 w28 c28 hc28 hS28 => ?_)
        replace hc28 : c28 = io .i64 v28 (List.replicate l.length (0 : Int)) := hc28.trans (by simp only [io, bo, List.map_replicate, List.length_replicate])
        replace hS28 : St w NoX [c28, c3, c2] w28 := hS28
        refine W_v rfl rfl (V_asg rfl (et rfl)) ?_
        refine W_end ?_
        refine gen_Q (fun A29 hA29 => ?_)
        have hsz29 : SzN A29 241 := by rw [hA29]; infer_instance
        have hdf29 : A29.defers = [] := by rw [hA29]; simp only [df_put]; exact hdf21
        have l2_29 := lookE hA29 2 (es rfl (es rfl (es rfl (es rfl l2_21))))
        have l3_29 := lookE hA29 3 (es rfl (es rfl (es rfl (es rfl l3_21))))
        have l4_29 := lookE hA29 4 (es rfl (es rfl (es rfl (es rfl l4_21))))
        have l7_29 := lookE hA29 7 (et rfl)
        clear hA29 hsz21 hdf21 l2_21 l3_21 l4_21 l45_21
        refine then_n (hK27 _ _ ?_)
        clear hK27
        refine wp_seq_k (fun K30 hK30 => ?_)
        refine wp_seq_k (fun K31 hK31 => ?_)
        -- region 4
        refine region_in ?_
        refine W_v rfl rfl (V_asg rfl rfl) ?_
        refine W_end ?_
        refine gen_Q (fun A32 hA32 => ?_)
        have hsz32 : SzN A32 241 := by rw [hA32]; infer_instance
        have hdf32 : A32.defers = [] := by rw [hA32]; simp only [df_put]; exact hdf29
        have l2_32 := lookE hA32 2 (es rfl l2_29)
        have l3_32 := lookE hA32 3 (es rfl l3_29)
        have l4_32 := lookE hA32 4 (es rfl l4_29)
        have l7_32 := lookE hA32 7 (es rfl l7_29)
        have l8_32 := lookE hA32 8 (et rfl)
        clear hA32 hsz29 hdf29 l2_29 l3_29 l4_29 l7_29
        refine then_n (hK31 _ _ ?_)
        clear hK31
        refine wp_block ?_
        -- loop 5
        refine loopX (fun mz A' w' => SzN A' 241 ∧ A'.defers = [] ∧ (∃ (i : Nat), (mz = l.length - i) ∧ (i ≤ l.length) ∧ ((rvK l i).length = l.length) ∧ (EV A' (.tmp 8) = .int .i64 (i : Int)) ∧ (EV A' (.tmp 2) = EV A32 (.tmp 2)) ∧ (EV A' (.tmp 3) = EV A32 (.tmp 3)) ∧ (EV A' (.tmp 4) = EV A32 (.tmp 4)) ∧ (EV A' (.tmp 7) = EV A32 (.tmp 7)) ∧ (St w NoX [io .i64 v28 (rvK l i), bx g3 24 #[dv], bx g2 24 #[cv]] w'))) (l.length - 0) ⟨hsz32, hdf32, 0, rfl, (by omega), (rvK_len (by omega)), ((l8_32).trans (by first | rfl | (simp; done) | (congr 1; omega))), rfl, rfl, rfl, rfl, (by have q0 : c28 = io .i64 v28 (rvK l 0) := hc28.trans ((congrArg (io .i64 _) (rvK_zero _))); have q1 := hc3; have q2 := hc2; subst q0 q1 q2; exact hS28)⟩ ?_
        clear hS28 hc28 hc3 hc2
        rintro n33 A33 w33 ⟨hsz33, hdf33, i, hm33, hi, hrl, l8_33, u2_33, u3_33, u4_33, u7_33, hS33⟩
        have l2_33 := u2_33.trans l2_32
        have l3_33 := u3_33.trans l3_32
        have l4_33 := u4_33.trans l4_32
        have l7_33 := u7_33.trans l7_32
        obtain ⟨c28_33, c3_33, c2_33, hc28_33, hc3_33, hc2_33, hS33⟩ := gen3 hS33
        refine wp_seq_k (fun K34 hK34 => ?_)
        refine wp_seq_k (fun K35 hK35 => ?_)
        -- region 5
        refine region_in ?_
        refine W_v rfl rfl (V_mov rfl l8_33) ?_
        refine W_v rfl rfl (V_mov rfl (es rfl l2_33)) ?_
        refine W_v rfl rfl (V_lenS rfl (et rfl) (sl_SlN h_lv.at) Try.underlying22) ?_
        refine W_v rfl rfl (V_lss rfl (es rfl (es rfl (et rfl))) (et rfl)) ?_
        refine W_end ?_
        refine gen_Q (fun A36 hA36 => ?_)
        have hsz36 : SzN A36 241 := by rw [hA36]; infer_instance
        have hdf36 : A36.defers = [] := by rw [hA36]; simp only [df_put]; exact hdf33
        have l2_36 := lookE hA36 2 (es rfl (es rfl (es rfl (es rfl l2_33))))
        have l3_36 := lookE hA36 3 (es rfl (es rfl (es rfl (es rfl l3_33))))
        have l4_36 := lookE hA36 4 (es rfl (es rfl (es rfl (es rfl l4_33))))
        have l7_36 := lookE hA36 7 (es rfl (es rfl (es rfl (es rfl l7_33))))
        have l8_36 := lookE hA36 8 (es rfl (es rfl (es rfl (es rfl l8_33))))
        have l53_36 := lookE hA36 53 (et rfl)
        clear hA36 hsz33 hdf33 l8_33 l2_33 l3_33 l4_33 l7_33
        refine then_n (hK35 _ _ ?_)
        clear hK35
        refine cond_dec l53_36 (fun c37 => ?_) (fun c37 => ?_)
        · skip
          refine wp_skip ?_
          refine then_n (hK34 _ _ ?_)
          clear hK34
          refine wp_seq_k (fun K38 hK38 => ?_)
          refine wp_block ?_
          -- region 7
          refine region_in ?_
          refine W_v rfl rfl (V_mov rfl l7_36) ?_
          refine W_v rfl rfl (V_mov rfl (es rfl l2_36)) ?_
          refine W_v rfl rfl (V_lenS rfl (et rfl) (sl_SlN h_lv.at) Try.underlying22) ?_
          refine W_v rfl rfl (V_sb rfl (et rfl) rfl (by omega) (by omega)) ?_
          refine W_v rfl rfl (V_mov rfl (es rfl (es rfl (es rfl (es rfl l8_36))))) ?_
          refine W_v rfl rfl (V_sb rfl (es rfl (et rfl)) (et rfl) (by omega) (by omega)) ?_
          refine W_v rfl rfl (V_mov rfl (es rfl (es rfl (es rfl (es rfl (es rfl (es rfl l2_36))))))) ?_
          refine W_v rfl rfl (V_mov rfl (es rfl (es rfl (es rfl (es rfl (es rfl (es rfl (es rfl l8_36)))))))) ?_
          have k39 : i < l.length := by first | omega | (simp only [List.length_cons, List.length_nil]; omega)
          obtain ⟨y39, hy39⟩ := get_some (xs := l) (k := i) k39
          obtain ⟨B39, O39, C39, hv39⟩ := (SlN.blk (sl_SlN h_lv.at) (by first | omega | (simp only [List.length_cons, List.length_nil]; omega)))
          refine W_v rfl rfl (V_ixS (off := O39 + i) 1 (i) rfl (es rfl (et rfl)) (et rfl) hv39 (by omega) k39 Try.underlying22 (by kernel_rfl) (congrArg _ (Nat.mul_one _))) ?_
          refine W_r rfl rfl (VR_ldC rfl (et rfl) ((sl_SlN (hS33.ro h_lv)).cell hv39 (map_get hy39)) Try.underlying3 rfl) ?_
          have k40 : (l.length - 1 - i) < (rvK l i).length := by first | omega | (simp only [List.length_cons, List.length_nil]; omega)
          obtain ⟨y40, hy40⟩ := get_some (xs := (rvK l i)) (k := (l.length - 1 - i)) k40
          obtain ⟨B40, O40, C40, hv40⟩ := (SlN.blk (ow_at (hS33.chq 0 rfl hc28_33)) (by first | omega | (simp only [List.length_cons, List.length_nil]; omega)))
          refine W_v rfl rfl (V_ixS (off := O40 + (l.length - 1 - i)) 1 ((l.length - 1 - i)) rfl (es rfl (es rfl (es rfl (es rfl (es rfl (es rfl (es rfl (es rfl (es rfl (et rfl)))))))))) (es rfl (es rfl (es rfl (es rfl (et rfl))))) hv40 (by omega) k40 Try.underlying22 (by kernel_rfl) (congrArg _ (Nat.mul_one _))) ?_
          refine W_stE 0 hS33 rfl hc28_33 hv40 rfl rfl rfl (et rfl) (es rfl (et rfl)) (by rfl) rfl (by first | (simp only [List.length_map]; omega) | omega) (by kernel_rfl) (fun w41 c41 hc41 hS41 => ?_)
          replace hc41 : c41 = io .i64 v28 ((rvK l i).set (l.length - 1 - i) y39) := hc41.trans (by simp [io, bo, List.map_set] <;> rfl)
          replace hS41 : St w NoX [c41, c3_33, c2_33] w41 := hS41
          refine W_end ?_
          refine gen_Q (fun A42 hA42 => ?_)
          have hsz42 : SzN A42 241 := by rw [hA42]; infer_instance
          have hdf42 : A42.defers = [] := by rw [hA42]; simp only [df_put]; exact hdf36
          have l2_42 := lookE hA42 2 (es rfl (es rfl (es rfl (es rfl (es rfl (es rfl (es rfl (es rfl (es rfl (es rfl (es rfl l2_36)))))))))))
          have l3_42 := lookE hA42 3 (es rfl (es rfl (es rfl (es rfl (es rfl (es rfl (es rfl (es rfl (es rfl (es rfl (es rfl l3_36)))))))))))
          have l4_42 := lookE hA42 4 (es rfl (es rfl (es rfl (es rfl (es rfl (es rfl (es rfl (es rfl (es rfl (es rfl (es rfl l4_36)))))))))))
          have l7_42 := lookE hA42 7 (es rfl (es rfl (es rfl (es rfl (es rfl (es rfl (es rfl (es rfl (es rfl (es rfl (es rfl l7_36)))))))))))
          have l8_42 := lookE hA42 8 (es rfl (es rfl (es rfl (es rfl (es rfl (es rfl (es rfl (es rfl (es rfl (es rfl (es rfl l8_36)))))))))))
          clear hA42 hsz36 hdf36 l2_36 l3_36 l4_36 l7_36 l8_36 l53_36
          refine inb_n ?_
          refine then_n (hK38 _ _ ?_)
          clear hK38
          -- region 6
          refine region_in ?_
          refine W_v rfl rfl (V_mov rfl l8_42) ?_
          refine W_v rfl rfl (V_add rfl (et rfl) rfl (by omega) (by omega)) ?_
          refine W_v rfl rfl (V_asg rfl (et rfl)) ?_
          refine W_end ?_
          refine gen_Q (fun A43 hA43 => ?_)
          have hsz43 : SzN A43 241 := by rw [hA43]; infer_instance
          have hdf43 : A43.defers = [] := by rw [hA43]; simp only [df_put]; exact hdf42
          have l2_43 := lookE hA43 2 (es rfl (es rfl (es rfl l2_42)))
          have l3_43 := lookE hA43 3 (es rfl (es rfl (es rfl l3_42)))
          have l4_43 := lookE hA43 4 (es rfl (es rfl (es rfl l4_42)))
          have l7_43 := lookE hA43 7 (es rfl (es rfl (es rfl l7_42)))
          have l8_43 := lookE hA43 8 (et rfl)
          clear hA43 hsz42 hdf42 l2_42 l3_42 l4_42 l7_42 l8_42
          refine then_n ⟨l.length - (i + 1), by simp only [hm33]; omega, hsz43, hdf43, (i + 1), rfl, (by omega), (rvK_len (by omega)), ((l8_43).trans (by first | rfl | (simp; done) | (congr 1; omega))), ((l2_43).trans l2_32.symm), ((l3_43).trans l3_32.symm), ((l4_43).trans l4_32.symm), ((l7_43).trans l7_32.symm), (by have q0 : c41 = io .i64 v28 (rvK l (i + 1)) := hc41.trans ((congrArg (io .i64 _) (rvK_set hy39 (by omega)))); have q1 := hc3_33; have q2 := hc2_33; subst q0 q1 q2; exact hS41)⟩
        · skip
          have hrv : rvK l i = l.reverse := rvK_all (by omega)
          refine wp_exit ?_
          refine then_exit ?_
          refine then_exit ?_
          refine inb_hit ?_
          refine then_n (hK30 _ _ ?_)
          clear hK30
          refine wp_seq_k (fun K44 hK44 => ?_)
          -- region 8
          refine region_in ?_
          refine W_v rfl rfl (V_mov rfl l2_36) ?_
          refine W_call rfl rfl rfl Try.func20 (by kernel_rfl) rfl (args1 (et rfl)) (kOf_c (hS33.roC h_lv) ) ?_
          rintro _ w45 ⟨v_45, rfl, hP45⟩
          refine ⟨_, rfl, ?_⟩
          obtain ⟨c_45, hc_45, hP45⟩ := gen1 hP45
          have hS45 := hS33.join hP45
          replace hS45 : St w NoX [c_45, c28_33, c3_33, c2_33] w45 := hS45
          refine W_v rfl rfl (V_mov rfl (et rfl)) ?_
          refine W_v rfl rfl (V_ext (v := .agg #[v_45]) rfl (et rfl) rfl) ?_
          refine W_v rfl rfl (V_ext (v := .int .i64 ((ofE l))) rfl (es rfl (et rfl)) rfl) ?_
          refine W_allocS (z := .agg #[.slice none 0 0]) (zs := #[.slice none 0 0]) hS45 rfl rfl rfl (by kernel_rfl) (by rfl) (fun g46 w46 c46 hc46 hS46 => ?_)
          replace hS46 : St w NoX [c46, c_45, c28_33, c3_33, c2_33] w46 := hS46
          refine W_stAS 0 hS46 rfl hc46 rfl rfl rfl (et rfl) (es rfl (es rfl (et rfl))) (by simp only [List.all_toArray, List.all_cons, List.all_nil, SlN_one (ow_at (hS46.chq 1 rfl hc_45))] <;> rfl) (by rfl) (by kernel_rfl) (fun w47 c47 hc47 hS47 => ?_)
          replace hS47 : St w NoX [c47, c_45, c28_33, c3_33, c2_33] w47 := hS47
          refine W_v rfl rfl (V_asg rfl (es rfl (et rfl))) ?_
          refine W_end ?_
          refine gen_Q (fun A48 hA48 => ?_)
          have hsz48 : SzN A48 241 := by rw [hA48]; infer_instance
          have hdf48 : A48.defers = [] := by rw [hA48]; simp only [df_put]; exact hdf36
          have l3_48 := lookE hA48 3 (es rfl (es rfl (es rfl (es rfl (es rfl (es rfl (es rfl l3_36)))))))
          have l4_48 := lookE hA48 4 (es rfl (es rfl (es rfl (es rfl (es rfl (es rfl (es rfl l4_36)))))))
          have l7_48 := lookE hA48 7 (es rfl (es rfl (es rfl (es rfl (es rfl (es rfl (es rfl l7_36)))))))
          have l9_48 := lookE hA48 9 (es rfl (et rfl))
          have l10_48 := lookE hA48 10 (et rfl)
          clear hA48 hsz36 hdf36 l2_36 l3_36 l4_36 l7_36 l8_36 l53_36
          refine then_n (hK44 _ _ ?_)
          clear hK44
          refine wp_seq_k (fun K49 hK49 => ?_)
          -- region 9
          refine region_in ?_
          refine W_v rfl rfl (V_mov rfl l7_48) ?_
          refine W_call rfl rfl rfl Try.func20 (by kernel_rfl) rfl (args1 (et rfl)) (kOf_c (hS47.chC 2 rfl hc28_33).own ) ?_
          rintro _ w50 ⟨v_50, rfl, hP50⟩
          refine ⟨_, rfl, ?_⟩
          obtain ⟨c_50, hc_50, hP50⟩ := gen1 hP50
          have hS50 := hS47.join hP50
          replace hS50 : St w NoX [c_50, c47, c_45, c28_33, c3_33, c2_33] w50 := hS50
          refine W_v rfl rfl (V_mov rfl (et rfl)) ?_
          refine W_v rfl rfl (V_ext (v := .agg #[v_50]) rfl (et rfl) rfl) ?_
          refine W_v rfl rfl (V_ext (v := .int .i64 ((ofE (rvK l i)))) rfl (es rfl (et rfl)) rfl) ?_
          refine W_allocS (z := .agg #[.slice none 0 0]) (zs := #[.slice none 0 0]) hS50 rfl rfl rfl (by kernel_rfl) (by rfl) (fun g51 w51 c51 hc51 hS51 => ?_)
          replace hS51 : St w NoX [c51, c_50, c47, c_45, c28_33, c3_33, c2_33] w51 := hS51
          refine W_stAS 0 hS51 rfl hc51 rfl rfl rfl (et rfl) (es rfl (es rfl (et rfl))) (by simp only [List.all_toArray, List.all_cons, List.all_nil, SlN_one (ow_at (hS51.chq 1 rfl hc_50))] <;> rfl) (by rfl) (by kernel_rfl) (fun w52 c52 hc52 hS52 => ?_)
          replace hS52 : St w NoX [c52, c_50, c47, c_45, c28_33, c3_33, c2_33] w52 := hS52
          refine W_v rfl rfl (V_asg rfl (es rfl (et rfl))) ?_
          refine W_end ?_
          refine gen_Q (fun A53 hA53 => ?_)
          have hsz53 : SzN A53 241 := by rw [hA53]; infer_instance
          have hdf53 : A53.defers = [] := by rw [hA53]; simp only [df_put]; exact hdf48
          have l3_53 := lookE hA53 3 (es rfl (es rfl (es rfl (es rfl (es rfl (es rfl (es rfl l3_48)))))))
          have l4_53 := lookE hA53 4 (es rfl (es rfl (es rfl (es rfl (es rfl (es rfl (es rfl l4_48)))))))
          have l9_53 := lookE hA53 9 (es rfl (es rfl (es rfl (es rfl (es rfl (es rfl (es rfl l9_48)))))))
          have l10_53 := lookE hA53 10 (es rfl (es rfl (es rfl (es rfl (es rfl (es rfl (es rfl l10_48)))))))
          have l11_53 := lookE hA53 11 (es rfl (et rfl))
          have l12_53 := lookE hA53 12 (et rfl)
          clear hA53 hsz48 hdf48 l3_48 l4_48 l7_48 l9_48 l10_48
          have hS54 : St w NoX [c52, c_50, c47, c_45, c3_33, c2_33] w52 := hS52.sel [0, 1, 2, 3, 5, 6] (by decide) rfl
          refine then_n (hK49 _ _ ?_)
          clear hK49
          refine wp_seq_k (fun K55 hK55 => ?_)
          refine wp_seq_k (fun K56 hK56 => ?_)
          -- region 10
          refine region_in ?_
          refine W_v rfl rfl (V_mov rfl l10_53) ?_
          refine W_v rfl rfl (V_mov rfl (es rfl l12_53)) ?_
          refine W_v rfl rfl (V_neq rfl (es rfl (et rfl)) (et rfl)) ?_
          refine W_end ?_
          refine gen_Q (fun A57 hA57 => ?_)
          have hsz57 : SzN A57 241 := by rw [hA57]; infer_instance
          have hdf57 : A57.defers = [] := by rw [hA57]; simp only [df_put]; exact hdf53
          have l3_57 := lookE hA57 3 (es rfl (es rfl (es rfl l3_53)))
          have l4_57 := lookE hA57 4 (es rfl (es rfl (es rfl l4_53)))
          have l9_57 := lookE hA57 9 (es rfl (es rfl (es rfl l9_53)))
          have l10_57 := lookE hA57 10 (es rfl (es rfl (es rfl l10_53)))
          have l11_57 := lookE hA57 11 (es rfl (es rfl (es rfl l11_53)))
          have l79_57 := lookE hA57 79 (et rfl)
          clear hA57 hsz53 hdf53 l3_53 l4_53 l9_53 l10_53 l11_53 l12_53
          refine then_n (hK56 _ _ ?_)
          clear hK56
          refine cond_not l79_57 (by rw [decide_eq_false_iff_not]; rw [hrv, of_rev]; simp) ?_
          refine wp_skip ?_
          refine then_n (hK55 _ _ ?_)
          clear hK55
          refine wp_seq_k (fun K58 hK58 => ?_)
          refine wp_seq_k (fun K59 hK59 => ?_)
          -- region 12
          refine region_in ?_
          refine W_v rfl rfl (V_mov rfl l10_57) ?_
          refine W_v rfl rfl (V_eql rfl (et rfl) rfl) ?_
          refine W_end ?_
          refine gen_Q (fun A60 hA60 => ?_)
          have hsz60 : SzN A60 241 := by rw [hA60]; infer_instance
          have hdf60 : A60.defers = [] := by rw [hA60]; simp only [df_put]; exact hdf57
          have l3_60 := lookE hA60 3 (es rfl (es rfl l3_57))
          have l4_60 := lookE hA60 4 (es rfl (es rfl l4_57))
          have l9_60 := lookE hA60 9 (es rfl (es rfl l9_57))
          have l11_60 := lookE hA60 11 (es rfl (es rfl l11_57))
          have l81_60 := lookE hA60 81 (et rfl)
          clear hA60 hsz57 hdf57 l3_57 l4_57 l9_57 l10_57 l11_57 l79_57
          refine then_n (hK59 _ _ ?_)
          clear hK59
          refine cond_dec l81_60 (fun c61 => ?_) (fun c61 => ?_)
          · skip
            have hof := of_good c61
            have hol := of_lists c61
            refine wp_seq_k (fun K62 hK62 => ?_)
            -- region 13
            refine region_in ?_
            refine W_r rfl rfl (VR_ldA rfl l9_60 (hS54.obj 2 rfl hc47) Try.underlying24 rfl (by kernel_rfl)) ?_
            refine W_call rfl rfl rfl Try.func32 (by kernel_rfl) rfl (args1 (et rfl)) (kList_c (hS54.chC 3 rfl hc_45).own ) ?_
            rintro _ w63 ⟨v_63, rfl, hP63⟩
            refine ⟨_, rfl, ?_⟩
            obtain ⟨c_63, hc_63, hP63⟩ := gen1 hP63
            have hS63 := hS54.join hP63
            replace hS63 : St w NoX [c_63, c52, c_50, c47, c_45, c3_33, c2_33] w63 := hS63
            refine W_v rfl rfl (V_mov rfl (et rfl)) ?_
            refine W_v rfl rfl (V_ext (v := v_63) rfl (et rfl) rfl) ?_
            refine W_v rfl rfl (V_ext (v := .int .i64 ((ckS (ofT l)).2)) rfl (es rfl (et rfl)) rfl) ?_
            refine W_v rfl rfl (V_asg rfl (es rfl (et rfl))) ?_
            refine W_v rfl rfl (V_asg rfl (es rfl (et rfl))) ?_
            refine W_end ?_
            refine gen_Q (fun A64 hA64 => ?_)
            have hsz64 : SzN A64 241 := by rw [hA64]; infer_instance
            have hdf64 : A64.defers = [] := by rw [hA64]; simp only [df_put]; exact hdf60
            have l3_64 := lookE hA64 3 (es rfl (es rfl (es rfl (es rfl (es rfl (es rfl (es rfl l3_60)))))))
            have l4_64 := lookE hA64 4 (es rfl (es rfl (es rfl (es rfl (es rfl (es rfl (es rfl l4_60)))))))
            have l11_64 := lookE hA64 11 (es rfl (es rfl (es rfl (es rfl (es rfl (es rfl (es rfl l11_60)))))))
            have l13_64 := lookE hA64 13 (es rfl (et rfl))
            have l14_64 := lookE hA64 14 (et rfl)
            clear hA64 hsz60 hdf60 l3_60 l4_60 l9_60 l11_60 l81_60
            have hS65 : St w NoX [c_63, c52, c_50, c3_33, c2_33] w63 := hS63.sel [0, 1, 2, 5, 6] (by decide) rfl
            refine then_n (hK62 _ _ ?_)
            clear hK62
            refine wp_seq_k (fun K66 hK66 => ?_)
            -- region 14
            refine region_in ?_
            refine W_r rfl rfl (VR_ldA rfl l11_64 (hS65.obj 1 rfl hc52) Try.underlying24 rfl (by kernel_rfl)) ?_
            refine W_call rfl rfl rfl Try.func32 (by kernel_rfl) rfl (args1 (et rfl)) (kList_c (hS65.chC 2 rfl hc_50).own ) ?_
            rintro _ w67 ⟨v_67, rfl, hP67⟩
            refine ⟨_, rfl, ?_⟩
            obtain ⟨c_67, hc_67, hP67⟩ := gen1 hP67
            have hS67 := hS65.join hP67
            replace hS67 : St w NoX [c_67, c_63, c52, c_50, c3_33, c2_33] w67 := hS67
            refine W_v rfl rfl (V_mov rfl (et rfl)) ?_
            refine W_v rfl rfl (V_ext (v := v_67) rfl (et rfl) rfl) ?_
            refine W_v rfl rfl (V_ext (v := .int .i64 ((ckS (ofT (rvK l i))).2)) rfl (es rfl (et rfl)) rfl) ?_
            refine W_v rfl rfl (V_asg rfl (es rfl (et rfl))) ?_
            refine W_v rfl rfl (V_asg rfl (es rfl (et rfl))) ?_
            refine W_end ?_
            refine gen_Q (fun A68 hA68 => ?_)
            have hsz68 : SzN A68 241 := by rw [hA68]; infer_instance
            have hdf68 : A68.defers = [] := by rw [hA68]; simp only [df_put]; exact hdf64
            have l3_68 := lookE hA68 3 (es rfl (es rfl (es rfl (es rfl (es rfl (es rfl (es rfl l3_64)))))))
            have l4_68 := lookE hA68 4 (es rfl (es rfl (es rfl (es rfl (es rfl (es rfl (es rfl l4_64)))))))
            have l13_68 := lookE hA68 13 (es rfl (es rfl (es rfl (es rfl (es rfl (es rfl (es rfl l13_64)))))))
            have l14_68 := lookE hA68 14 (es rfl (es rfl (es rfl (es rfl (es rfl (es rfl (es rfl l14_64)))))))
            have l15_68 := lookE hA68 15 (es rfl (et rfl))
            have l16_68 := lookE hA68 16 (et rfl)
            clear hA68 hsz64 hdf64 l3_64 l4_64 l11_64 l13_64 l14_64
            have hS69 : St w NoX [c_67, c_63, c3_33, c2_33] w67 := hS67.sel [0, 1, 4, 5] (by decide) rfl
            refine then_n (hK66 _ _ ?_)
            clear hK66
            refine wp_seq_k (fun K70 hK70 => ?_)
            -- region 15
            refine region_in ?_
            refine W_v rfl rfl (V_mov rfl l14_68) ?_
            refine W_v rfl rfl (V_neq rfl (et rfl) rfl) ?_
            refine W_sure (c' := false) rfl rfl (V_mov rfl (et rfl)) (by rw [decide_eq_false_iff_not]; rw [hof.2.2.1]; simp) ?_
            refine W_v rfl (wanted_t rfl rfl (et rfl) (ez rfl)) (V_mov rfl (es rfl (es rfl (es rfl l16_68)))) ?_
            refine W_v rfl (wanted_t rfl rfl (es rfl (et rfl)) (ez rfl)) (V_neq rfl (et rfl) rfl) ?_
            refine W_v rfl rfl (V_pickF rfl (es rfl (es rfl (et rfl))) (et rfl)) ?_
            refine W_sure (c' := false) rfl rfl (V_mov rfl (et rfl)) (by rw [decide_eq_false_iff_not]; rw [hrv, hol.1]; simp) ?_
            refine W_v rfl (wanted_t rfl rfl (et rfl) (ez rfl)) (V_mov rfl (es rfl (es rfl (es rfl (es rfl (es rfl (es rfl (es rfl l13_68)))))))) ?_
            refine W_v rfl (wanted_t rfl rfl (es rfl (et rfl)) (ez rfl)) (V_mov rfl (es rfl (es rfl (es rfl (es rfl (es rfl (es rfl (es rfl (es rfl l15_68))))))))) ?_
            refine W_call rfl (wanted_t rfl rfl (es rfl (es rfl (et rfl))) (ez rfl)) rfl Try.func36 (by kernel_rfl) rfl (args2 (es rfl (et rfl)) (et rfl)) (qInts_c (hS69.chC 1 rfl hc_63).own (hS69.chC 0 rfl hc_67).own ) ?_
            rintro _ w71 ⟨rfl, hP71⟩
            refine ⟨_, rfl, ?_⟩
            have hS71 := hS69.join hP71
            replace hS71 : St w NoX [c_67, c_63, c3_33, c2_33] w71 := hS71
            refine W_v rfl (wanted_t rfl rfl (es rfl (es rfl (es rfl (et rfl)))) (ez rfl)) (V_notd rfl (et rfl)) ?_
            refine W_v rfl rfl (V_pickF rfl (es rfl (es rfl (es rfl (es rfl (et rfl))))) (et rfl)) ?_
            refine W_end ?_
            refine gen_Q (fun A72 hA72 => ?_)
            have hsz72 : SzN A72 241 := by rw [hA72]; infer_instance
            have hdf72 : A72.defers = [] := by rw [hA72]; simp only [df_put]; exact hdf68
            have l3_72 := lookE hA72 3 (es rfl (es rfl (es rfl (es rfl (es rfl (es rfl (es rfl (es rfl (es rfl (es rfl (es rfl (es rfl l3_68))))))))))))
            have l4_72 := lookE hA72 4 (es rfl (es rfl (es rfl (es rfl (es rfl (es rfl (es rfl (es rfl (es rfl (es rfl (es rfl (es rfl l4_68))))))))))))
            have l103_72 := lookE hA72 103 (et rfl)
            clear hA72 hsz68 hdf68 l3_68 l4_68 l13_68 l14_68 l15_68 l16_68
            have hS73 : St w NoX [c3_33, c2_33] w71 := hS71.sel [2, 3] (by decide) rfl
            refine then_n (hK70 _ _ ?_)
            clear hK70
            refine cond_not l103_72 (by rw [decide_eq_false_iff_not]; rw [hrv]; exact fun h => h hol.2) ?_
            refine wp_skip ?_
            refine then_n (hK58 _ _ ?_)
            clear hK58
            refine wp_seq_k (fun K74 hK74 => ?_)
            -- region 17
            refine region_in ?_
            refine W_r rfl rfl (VR_ldA rfl l3_72 (hS73.obj 1 rfl hc2_33) Try.underlying24 rfl (by kernel_rfl)) ?_
            refine W_r rfl rfl (VR_ldA rfl (es rfl l4_72) (hS73.obj 0 rfl hc3_33) Try.underlying24 rfl (by kernel_rfl)) ?_
            refine W_call rfl rfl rfl Try.func22 (by kernel_rfl) rfl (args2 (es rfl (et rfl)) (et rfl)) (kJoin_c (hS73.roC h_cv) (hS73.roC h_dv) ) ?_
            rintro _ w75 ⟨v_75, rfl, hP75⟩
            refine ⟨_, rfl, ?_⟩
            obtain ⟨c_75, hc_75, hP75⟩ := gen1 hP75
            have hS75 := hS73.join hP75
            replace hS75 : St w NoX [c_75, c3_33, c2_33] w75 := hS75
            refine W_v rfl rfl (V_mov rfl (et rfl)) ?_
            refine W_v rfl rfl (V_ext (v := .agg #[v_75]) rfl (et rfl) rfl) ?_
            refine W_v rfl rfl (V_ext (v := .int .i64 ((jnE c d))) rfl (es rfl (et rfl)) rfl) ?_
            refine W_allocS (z := .agg #[.slice none 0 0]) (zs := #[.slice none 0 0]) hS75 rfl rfl rfl (by kernel_rfl) (by rfl) (fun g76 w76 c76 hc76 hS76 => ?_)
            replace hS76 : St w NoX [c76, c_75, c3_33, c2_33] w76 := hS76
            refine W_stAS 0 hS76 rfl hc76 rfl rfl rfl (et rfl) (es rfl (es rfl (et rfl))) (by simp only [List.all_toArray, List.all_cons, List.all_nil, SlN_one (ow_at (hS76.chq 1 rfl hc_75))] <;> rfl) (by rfl) (by kernel_rfl) (fun w77 c77 hc77 hS77 => ?_)
            replace hS77 : St w NoX [c77, c_75, c3_33, c2_33] w77 := hS77
            refine W_v rfl rfl (V_asg rfl (es rfl (et rfl))) ?_
            refine W_end ?_
            refine gen_Q (fun A78 hA78 => ?_)
            have hsz78 : SzN A78 241 := by rw [hA78]; infer_instance
            have hdf78 : A78.defers = [] := by rw [hA78]; simp only [df_put]; exact hdf72
            have l3_78 := lookE hA78 3 (es rfl (es rfl (es rfl (es rfl (es rfl (es rfl (es rfl (es rfl l3_72))))))))
            have l4_78 := lookE hA78 4 (es rfl (es rfl (es rfl (es rfl (es rfl (es rfl (es rfl (es rfl l4_72))))))))
            have l10_78 := lookE hA78 10 (et rfl)
            have l17_78 := lookE hA78 17 (es rfl (et rfl))
            clear hA78 hsz72 hdf72 l3_72 l4_72 l103_72
            refine then_n (hK74 _ _ ?_)
            clear hK74
            refine wp_seq_k (fun K79 hK79 => ?_)
            -- region 18
            refine region_in ?_
            refine W_r rfl rfl (VR_ldA rfl l4_78 (hS77.obj 2 rfl hc3_33) Try.underlying24 rfl (by kernel_rfl)) ?_
            refine W_r rfl rfl (VR_ldA rfl (es rfl l3_78) (hS77.obj 3 rfl hc2_33) Try.underlying24 rfl (by kernel_rfl)) ?_
            refine W_call rfl rfl rfl Try.func22 (by kernel_rfl) rfl (args2 (es rfl (et rfl)) (et rfl)) (kJoin_c (hS77.roC h_dv) (hS77.roC h_cv) ) ?_
            rintro _ w80 ⟨v_80, rfl, hP80⟩
            refine ⟨_, rfl, ?_⟩
            obtain ⟨c_80, hc_80, hP80⟩ := gen1 hP80
            have hS80 := hS77.join hP80
            replace hS80 : St w NoX [c_80, c77, c_75, c3_33, c2_33] w80 := hS80
            refine W_v rfl rfl (V_mov rfl (et rfl)) ?_
            refine W_v rfl rfl (V_ext (v := .agg #[v_80]) rfl (et rfl) rfl) ?_
            refine W_v rfl rfl (V_ext (v := .int .i64 ((jnE d c))) rfl (es rfl (et rfl)) rfl) ?_
            refine W_allocS (z := .agg #[.slice none 0 0]) (zs := #[.slice none 0 0]) hS80 rfl rfl rfl (by kernel_rfl) (by rfl) (fun g81 w81 c81 hc81 hS81 => ?_)
            replace hS81 : St w NoX [c81, c_80, c77, c_75, c3_33, c2_33] w81 := hS81
            refine W_stAS 0 hS81 rfl hc81 rfl rfl rfl (et rfl) (es rfl (es rfl (et rfl))) (by simp only [List.all_toArray, List.all_cons, List.all_nil, SlN_one (ow_at (hS81.chq 1 rfl hc_80))] <;> rfl) (by rfl) (by kernel_rfl) (fun w82 c82 hc82 hS82 => ?_)
            replace hS82 : St w NoX [c82, c_80, c77, c_75, c3_33, c2_33] w82 := hS82
            refine W_v rfl rfl (V_asg rfl (es rfl (et rfl))) ?_
            refine W_end ?_
            refine gen_Q (fun A83 hA83 => ?_)
            have hsz83 : SzN A83 241 := by rw [hA83]; infer_instance
            have hdf83 : A83.defers = [] := by rw [hA83]; simp only [df_put]; exact hdf78
            have l3_83 := lookE hA83 3 (es rfl (es rfl (es rfl (es rfl (es rfl (es rfl (es rfl (es rfl l3_78))))))))
            have l4_83 := lookE hA83 4 (es rfl (es rfl (es rfl (es rfl (es rfl (es rfl (es rfl (es rfl l4_78))))))))
            have l10_83 := lookE hA83 10 (es rfl (es rfl (es rfl (es rfl (es rfl (es rfl (es rfl (es rfl l10_78))))))))
            have l12_83 := lookE hA83 12 (et rfl)
            have l17_83 := lookE hA83 17 (es rfl (es rfl (es rfl (es rfl (es rfl (es rfl (es rfl (es rfl l17_78))))))))
            have l18_83 := lookE hA83 18 (es rfl (et rfl))
            clear hA83 hsz78 hdf78 l3_78 l4_78 l10_78 l17_78
            refine then_n (hK79 _ _ ?_)
            clear hK79
            refine wp_seq_k (fun K84 hK84 => ?_)
            refine wp_seq_k (fun K85 hK85 => ?_)
            -- region 19
            refine region_in ?_
            refine W_v rfl rfl (V_mov rfl l10_83) ?_
            refine W_v rfl rfl (V_neq rfl (et rfl) rfl) ?_
            refine W_split rfl rfl (V_mov rfl (et rfl)) (fun c86 => ?_) (fun c86 => ?_)
            · skip
              refine W_off rfl (wanted_f rfl rfl (et rfl) (ez rfl) rfl) ?_
              refine W_off rfl (wanted_f rfl rfl (es rfl (et rfl)) (ez rfl) rfl) ?_
              refine W_v rfl rfl (V_pickT rfl (es rfl (es rfl (et rfl))) rfl) ?_
              refine W_end ?_
              refine gen_Q (fun A87 hA87 => ?_)
              have hsz87 : SzN A87 241 := by rw [hA87]; infer_instance
              have hdf87 : A87.defers = [] := by rw [hA87]; simp only [df_put]; exact hdf83
              have l3_87 := lookE hA87 3 (es rfl (es rfl (es rfl (es rfl (es rfl (es rfl l3_83))))))
              have l4_87 := lookE hA87 4 (es rfl (es rfl (es rfl (es rfl (es rfl (es rfl l4_83))))))
              have l10_87 := lookE hA87 10 (es rfl (es rfl (es rfl (es rfl (es rfl (es rfl l10_83))))))
              have l12_87 := lookE hA87 12 (es rfl (es rfl (es rfl (es rfl (es rfl (es rfl l12_83))))))
              have l17_87 := lookE hA87 17 (es rfl (es rfl (es rfl (es rfl (es rfl (es rfl l17_83))))))
              have l18_87 := lookE hA87 18 (es rfl (es rfl (es rfl (es rfl (es rfl (es rfl l18_83))))))
              have l121_87 := lookE hA87 121 (et rfl)
              clear hA87 hsz83 hdf83 l3_83 l4_83 l10_83 l12_83 l17_83 l18_83
              refine then_n (hK85 _ _ ?_)
              clear hK85
              refine cond_t l121_87 ?_
              refine wp_seq_k (fun K88 hK88 => ?_)
              -- region 20
              refine region_in ?_
              refine W_v rfl rfl (V_mov rfl l10_87) ?_
              refine W_v rfl rfl (V_eql rfl (et rfl) rfl) ?_
              refine W_v rfl rfl (V_mov rfl (es rfl (es rfl l12_87))) ?_
              refine W_v rfl rfl (V_eql rfl (et rfl) rfl) ?_
              refine W_v rfl rfl (V_eqB rfl (es rfl (es rfl (et rfl))) (et rfl) Try.underlying4) ?_
              refine W_sure (c' := true) rfl rfl (V_mov rfl (et rfl)) (by rw [decide_eq_true_eq]; exact decide_eq_decide.2 (jn_sym c d)) ?_
              refine W_call rfl (wanted_t rfl rfl (et rfl) (ez rfl)) rfl Try.func12 (by kernel_rfl) rfl (args0) (awake_c  ) ?_
              rintro _ w89 ⟨rfl, hP89⟩
              refine ⟨_, rfl, ?_⟩
              have hS89 := hS82.join hP89
              replace hS89 : St w NoX [c82, c_80, c77, c_75, c3_33, c2_33] w89 := hS89
              refine W_v rfl rfl (V_pickT rfl (es rfl (et rfl)) (et rfl)) ?_
              refine W_v rfl rfl (V_asg rfl (et rfl)) ?_
              refine W_end ?_
              refine gen_Q (fun A90 hA90 => ?_)
              have hsz90 : SzN A90 241 := by rw [hA90]; infer_instance
              have hdf90 : A90.defers = [] := by rw [hA90]; simp only [df_put]; exact hdf87
              have l6_90 := lookE hA90 6 (et rfl)
              clear hA90 hsz87 hdf87 l3_87 l4_87 l10_87 l12_87 l17_87 l18_87 l121_87
              have hS91 : St w NoX [] w89 := hS89.sel [] (by decide) rfl
              refine then_n (hK88 _ _ ?_)
              clear hK88
              refine wp_ret ?_
              refine then_ret ?_
              refine ret_in (results_1 Try.results10 (rv_tmp l6_90)) hdf90 ?_
              -- leaf FFFFTT
              exact ⟨rfl, hS91.fin0⟩
            · skip
              have hj : jnE c d = 0 := by simpa using c86
              have hjl := lsT_len (jnT c d)
              have hjn := jn_good hj
              have hjd := jn_good ((jn_sym c d).1 hj)
              have hck : (ckS c).2 = 0 := (jn_0.1 hj).1
              have hpt := part_of hck
              have hq1 := adr_usd c
              have hq2 := usd_le c
              have hq3 := List.countP_le_length (p := pgB 1 800) (l := c)
              have hq4 := hpt.1
              have hq5 := hpt.2.1
              refine W_v rfl (wanted_t rfl rfl (et rfl) (ez rfl)) (V_mov rfl (es rfl (es rfl (es rfl l12_83)))) ?_
              refine W_v rfl (wanted_t rfl rfl (es rfl (et rfl)) (ez rfl)) (V_neq rfl (et rfl) rfl) ?_
              refine W_v rfl rfl (V_pickF rfl (es rfl (es rfl (et rfl))) (et rfl)) ?_
              refine W_end ?_
              refine gen_Q (fun A92 hA92 => ?_)
              have hsz92 : SzN A92 241 := by rw [hA92]; infer_instance
              have hdf92 : A92.defers = [] := by rw [hA92]; simp only [df_put]; exact hdf83
              have l3_92 := lookE hA92 3 (es rfl (es rfl (es rfl (es rfl (es rfl (es rfl l3_83))))))
              have l4_92 := lookE hA92 4 (es rfl (es rfl (es rfl (es rfl (es rfl (es rfl l4_83))))))
              have l10_92 := lookE hA92 10 (es rfl (es rfl (es rfl (es rfl (es rfl (es rfl l10_83))))))
              have l12_92 := lookE hA92 12 (es rfl (es rfl (es rfl (es rfl (es rfl (es rfl l12_83))))))
              have l17_92 := lookE hA92 17 (es rfl (es rfl (es rfl (es rfl (es rfl (es rfl l17_83))))))
              have l18_92 := lookE hA92 18 (es rfl (es rfl (es rfl (es rfl (es rfl (es rfl l18_83))))))
              have l121_92 := lookE hA92 121 (et rfl)
              clear hA92 hsz83 hdf83 l3_83 l4_83 l10_83 l12_83 l17_83 l18_83
              refine then_n (hK85 _ _ ?_)
              clear hK85
              refine cond_not l121_92 (by rw [decide_eq_false_iff_not]; rw [(jn_sym c d).1 hj]; simp) ?_
              refine wp_skip ?_
              refine then_n (hK84 _ _ ?_)
              clear hK84
              refine wp_seq_k (fun K93 hK93 => ?_)
              -- region 21
              refine region_in ?_
              refine W_r rfl rfl (VR_ldA rfl l17_92 (hS82.obj 2 rfl hc77) Try.underlying24 rfl (by kernel_rfl)) ?_
              refine W_call rfl rfl rfl Try.func32 (by kernel_rfl) rfl (args1 (et rfl)) (kList_c (hS82.chC 3 rfl hc_75).own ) ?_
              rintro _ w94 ⟨v_94, rfl, hP94⟩
              refine ⟨_, rfl, ?_⟩
              obtain ⟨c_94, hc_94, hP94⟩ := gen1 hP94
              have hS94 := hS82.join hP94
              replace hS94 : St w NoX [c_94, c82, c_80, c77, c_75, c3_33, c2_33] w94 := hS94
              refine W_v rfl rfl (V_mov rfl (et rfl)) ?_
              refine W_v rfl rfl (V_ext (v := v_94) rfl (et rfl) rfl) ?_
              refine W_v rfl rfl (V_ext (v := .int .i64 ((ckS (jnT c d)).2)) rfl (es rfl (et rfl)) rfl) ?_
              refine W_v rfl rfl (V_asg rfl (es rfl (et rfl))) ?_
              refine W_v rfl rfl (V_asg rfl (es rfl (et rfl))) ?_
              refine W_end ?_
              refine gen_Q (fun A95 hA95 => ?_)
              have hsz95 : SzN A95 241 := by rw [hA95]; infer_instance
              have hdf95 : A95.defers = [] := by rw [hA95]; simp only [df_put]; exact hdf92
              have l3_95 := lookE hA95 3 (es rfl (es rfl (es rfl (es rfl (es rfl (es rfl (es rfl l3_92)))))))
              have l4_95 := lookE hA95 4 (es rfl (es rfl (es rfl (es rfl (es rfl (es rfl (es rfl l4_92)))))))
              have l18_95 := lookE hA95 18 (es rfl (es rfl (es rfl (es rfl (es rfl (es rfl (es rfl l18_92)))))))
              have l19_95 := lookE hA95 19 (es rfl (et rfl))
              have l20_95 := lookE hA95 20 (et rfl)
              clear hA95 hsz92 hdf92 l3_92 l4_92 l10_92 l12_92 l17_92 l18_92 l121_92
              have hS96 : St w NoX [c_94, c82, c_80, c3_33, c2_33] w94 := hS94.sel [0, 1, 2, 5, 6] (by decide) rfl
              refine then_n (hK93 _ _ ?_)
              clear hK93
              refine wp_seq_k (fun K97 hK97 => ?_)
              -- region 22
              refine region_in ?_
              refine W_r rfl rfl (VR_ldA rfl l18_95 (hS96.obj 1 rfl hc82) Try.underlying24 rfl (by kernel_rfl)) ?_
              refine W_call rfl rfl rfl Try.func32 (by kernel_rfl) rfl (args1 (et rfl)) (kList_c (hS96.chC 2 rfl hc_80).own ) ?_
              rintro _ w98 ⟨v_98, rfl, hP98⟩
              refine ⟨_, rfl, ?_⟩
              obtain ⟨c_98, hc_98, hP98⟩ := gen1 hP98
              have hS98 := hS96.join hP98
              replace hS98 : St w NoX [c_98, c_94, c82, c_80, c3_33, c2_33] w98 := hS98
              refine W_v rfl rfl (V_mov rfl (et rfl)) ?_
              refine W_v rfl rfl (V_ext (v := v_98) rfl (et rfl) rfl) ?_
              refine W_v rfl rfl (V_ext (v := .int .i64 ((ckS (jnT d c)).2)) rfl (es rfl (et rfl)) rfl) ?_
              refine W_v rfl rfl (V_asg rfl (es rfl (et rfl))) ?_
              refine W_v rfl rfl (V_asg rfl (es rfl (et rfl))) ?_
              refine W_end ?_
              refine gen_Q (fun A99 hA99 => ?_)
              have hsz99 : SzN A99 241 := by rw [hA99]; infer_instance
              have hdf99 : A99.defers = [] := by rw [hA99]; simp only [df_put]; exact hdf95
              have l3_99 := lookE hA99 3 (es rfl (es rfl (es rfl (es rfl (es rfl (es rfl (es rfl l3_95)))))))
              have l4_99 := lookE hA99 4 (es rfl (es rfl (es rfl (es rfl (es rfl (es rfl (es rfl l4_95)))))))
              have l19_99 := lookE hA99 19 (es rfl (es rfl (es rfl (es rfl (es rfl (es rfl (es rfl l19_95)))))))
              have l20_99 := lookE hA99 20 (es rfl (es rfl (es rfl (es rfl (es rfl (es rfl (es rfl l20_95)))))))
              have l21_99 := lookE hA99 21 (es rfl (et rfl))
              have l22_99 := lookE hA99 22 (et rfl)
              clear hA99 hsz95 hdf95 l3_95 l4_95 l18_95 l19_95 l20_95
              have hS100 : St w NoX [c_98, c_94, c3_33, c2_33] w98 := hS98.sel [0, 1, 4, 5] (by decide) rfl
              refine then_n (hK97 _ _ ?_)
              clear hK97
              refine wp_seq_k (fun K101 hK101 => ?_)
              refine wp_seq_k (fun K102 hK102 => ?_)
              -- region 23
              refine region_in ?_
              refine W_v rfl rfl (V_mov rfl l20_99) ?_
              refine W_v rfl rfl (V_neq rfl (et rfl) rfl) ?_
              refine W_sure (c' := false) rfl rfl (V_mov rfl (et rfl)) (by rw [decide_eq_false_iff_not]; rw [hjn.2.2.2.2.1]; simp) ?_
              refine W_v rfl (wanted_t rfl rfl (et rfl) (ez rfl)) (V_mov rfl (es rfl (es rfl (es rfl l22_99)))) ?_
              refine W_v rfl (wanted_t rfl rfl (es rfl (et rfl)) (ez rfl)) (V_neq rfl (et rfl) rfl) ?_
              refine W_v rfl rfl (V_pickF rfl (es rfl (es rfl (et rfl))) (et rfl)) ?_
              refine W_sure (c' := false) rfl rfl (V_mov rfl (et rfl)) (by rw [decide_eq_false_iff_not]; rw [hjd.2.2.2.2.1]; simp) ?_
              refine W_v rfl (wanted_t rfl rfl (et rfl) (ez rfl)) (V_mov rfl (es rfl (es rfl (es rfl (es rfl (es rfl (es rfl (es rfl l19_99)))))))) ?_
              refine W_v rfl (wanted_t rfl rfl (es rfl (et rfl)) (ez rfl)) (V_mov rfl (es rfl (es rfl (es rfl (es rfl (es rfl (es rfl (es rfl (es rfl l21_99))))))))) ?_
              refine W_call rfl (wanted_t rfl rfl (es rfl (es rfl (et rfl))) (ez rfl)) rfl Try.func36 (by kernel_rfl) rfl (args2 (es rfl (et rfl)) (et rfl)) (qInts_c (hS100.chC 1 rfl hc_94).own (hS100.chC 0 rfl hc_98).own ) ?_
              rintro _ w103 ⟨rfl, hP103⟩
              refine ⟨_, rfl, ?_⟩
              have hS103 := hS100.join hP103
              replace hS103 : St w NoX [c_98, c_94, c3_33, c2_33] w103 := hS103
              refine W_v rfl (wanted_t rfl rfl (es rfl (es rfl (es rfl (et rfl)))) (ez rfl)) (V_notd rfl (et rfl)) ?_
              refine W_v rfl rfl (V_pickF rfl (es rfl (es rfl (es rfl (es rfl (et rfl))))) (et rfl)) ?_
              refine W_end ?_
              refine gen_Q (fun A104 hA104 => ?_)
              have hsz104 : SzN A104 241 := by rw [hA104]; infer_instance
              have hdf104 : A104.defers = [] := by rw [hA104]; simp only [df_put]; exact hdf99
              have l3_104 := lookE hA104 3 (es rfl (es rfl (es rfl (es rfl (es rfl (es rfl (es rfl (es rfl (es rfl (es rfl (es rfl (es rfl l3_99))))))))))))
              have l4_104 := lookE hA104 4 (es rfl (es rfl (es rfl (es rfl (es rfl (es rfl (es rfl (es rfl (es rfl (es rfl (es rfl (es rfl l4_99))))))))))))
              have l19_104 := lookE hA104 19 (es rfl (es rfl (es rfl (es rfl (es rfl (es rfl (es rfl (es rfl (es rfl (es rfl (es rfl (es rfl l19_99))))))))))))
              have l151_104 := lookE hA104 151 (et rfl)
              clear hA104 hsz99 hdf99 l3_99 l4_99 l19_99 l20_99 l21_99 l22_99
              have hS105 : St w NoX [c_94, c3_33, c2_33] w103 := hS103.sel [1, 2, 3] (by decide) rfl
              refine then_n (hK102 _ _ ?_)
              clear hK102
              refine cond_not l151_104 (by rw [decide_eq_false_iff_not]; exact fun h => h (jn_lists hj)) ?_
              refine wp_skip ?_
              refine then_n (hK101 _ _ ?_)
              clear hK101
              refine wp_seq_k (fun K106 hK106 => ?_)
              refine wp_seq_k (fun K107 hK107 => ?_)
              -- region 25
              refine region_in ?_
              refine W_v rfl rfl (V_asg rfl rfl) ?_
              refine W_end ?_
              refine gen_Q (fun A108 hA108 => ?_)
              have hsz108 : SzN A108 241 := by rw [hA108]; infer_instance
              have hdf108 : A108.defers = [] := by rw [hA108]; simp only [df_put]; exact hdf104
              have l3_108 := lookE hA108 3 (es rfl l3_104)
              have l4_108 := lookE hA108 4 (es rfl l4_104)
              have l19_108 := lookE hA108 19 (es rfl l19_104)
              have l23_108 := lookE hA108 23 (et rfl)
              clear hA108 hsz104 hdf104 l3_104 l4_104 l19_104 l151_104
              refine then_n (hK107 _ _ ?_)
              clear hK107
              refine wp_block ?_
              -- loop 26
              refine loopX (fun mz A' w' => SzN A' 241 ∧ A'.defers = [] ∧ (∃ (k : Nat), (mz = (lsT (jnT c d)).length - k) ∧ (k ≤ (lsT (jnT c d)).length) ∧ (EV A' (.tmp 23) = .int .i64 (k : Int)) ∧ (EV A' (.tmp 3) = EV A108 (.tmp 3)) ∧ (EV A' (.tmp 4) = EV A108 (.tmp 4)) ∧ (EV A' (.tmp 19) = EV A108 (.tmp 19)) ∧ (St w NoX [io .i64 v_94 (lsT (jnT c d)), bx g3 24 #[dv], bx g2 24 #[cv]] w'))) ((lsT (jnT c d)).length - 0) ⟨hsz108, hdf108, 0, rfl, (by omega), ((l23_108).trans (by first | rfl | (simp; done) | (congr 1; omega))), rfl, rfl, rfl, (by subst hc_94 hc3_33 hc2_33; exact hS105)⟩ ?_
              clear hS105 hc_94 hc3_33 hc2_33
              rintro n109 A109 w109 ⟨hsz109, hdf109, k, hm109, hk, l23_109, u3_109, u4_109, u19_109, hS109⟩
              have l3_109 := u3_109.trans l3_108
              have l4_109 := u4_109.trans l4_108
              have l19_109 := u19_109.trans l19_108
              obtain ⟨c_109, c3_109, c2_109, hc_109, hc3_109, hc2_109, hS109⟩ := gen3 hS109
              refine wp_seq_k (fun K110 hK110 => ?_)
              refine wp_seq_k (fun K111 hK111 => ?_)
              -- region 26
              refine region_in ?_
              refine W_v rfl rfl (V_mov rfl l23_109) ?_
              refine W_v rfl rfl (V_mov rfl (es rfl l19_109)) ?_
              refine W_v rfl rfl (V_lenS rfl (et rfl) (ow_at (hS109.chq 0 rfl hc_109)) Try.underlying22) ?_
              refine W_v rfl rfl (V_lss rfl (es rfl (es rfl (et rfl))) (et rfl)) ?_
              refine W_end ?_
              refine gen_Q (fun A112 hA112 => ?_)
              have hsz112 : SzN A112 241 := by rw [hA112]; infer_instance
              have hdf112 : A112.defers = [] := by rw [hA112]; simp only [df_put]; exact hdf109
              have l3_112 := lookE hA112 3 (es rfl (es rfl (es rfl (es rfl l3_109))))
              have l4_112 := lookE hA112 4 (es rfl (es rfl (es rfl (es rfl l4_109))))
              have l19_112 := lookE hA112 19 (es rfl (es rfl (es rfl (es rfl l19_109))))
              have l23_112 := lookE hA112 23 (es rfl (es rfl (es rfl (es rfl l23_109))))
              have l155_112 := lookE hA112 155 (et rfl)
              clear hA112 hsz109 hdf109 l23_109 l3_109 l4_109 l19_109
              refine then_n (hK111 _ _ ?_)
              clear hK111
              refine cond_dec l155_112 (fun c113 => ?_) (fun c113 => ?_)
              · skip
                refine wp_skip ?_
                refine then_n (hK110 _ _ ?_)
                clear hK110
                refine wp_seq_k (fun K114 hK114 => ?_)
                refine wp_block ?_
                refine wp_seq_k (fun K115 hK115 => ?_)
                -- region 28
                have k116 : k < (lsT (jnT c d)).length := by first | omega | (simp only [List.length_cons, List.length_nil]; omega)
                obtain ⟨y116, hy116⟩ := get_some (xs := (lsT (jnT c d))) (k := k) k116
                refine region_monoS 11 11 [none, none, none, none, none, some (SPc (fun u l' => u = .tuple #[.bool (hsB c y116), .int .i64 (chE c y116)] ∧ l' = []) 5)] (by kernel_rfl) (by kernel_rfl) ?_
                refine D_r rfl rfl (by kernel_rfl) (fun sx hx hF => (VR_ldA rfl l3_112 ((hS109.grow hx).obj 2 rfl hc2_109) Try.underlying24 rfl (by kernel_rfl))) rfl rfl ?_
                refine D_v rfl rfl (V_mov rfl (es rfl l19_112)) rfl rfl ?_
                refine D_v rfl rfl (V_mov rfl (es rfl (es rfl l23_112))) rfl rfl ?_
                obtain ⟨B116, O116, C116, hv116⟩ := (SlN.blk (ow_at (hS109.chq 0 rfl hc_109)) (by first | omega | (simp only [List.length_cons, List.length_nil]; omega)))
                refine D_v rfl rfl (V_ixS (off := O116 + k) 1 (k) rfl (es rfl (et rfl)) (et rfl) hv116 (by omega) k116 Try.underlying22 (by kernel_rfl) (congrArg _ (Nat.mul_one _))) rfl rfl ?_
                refine D_r rfl rfl (by kernel_rfl) (fun sx hx hF => (VR_ldC rfl (et rfl) ((ow_at ((hS109.grow hx).chq 0 rfl hc_109)).cell hv116 (map_get hy116)) Try.underlying3 rfl)) rfl rfl ?_
                refine D_call (C := fun u l' => u = .tuple #[.bool (hsB c y116), .int .i64 (chE c y116)] ∧ l' = []) rfl rfl rfl Try.func13 (by kernel_rfl) rfl (args2 (es rfl (es rfl (es rfl (es rfl (et rfl))))) (et rfl)) rfl rfl (fun sx hx hF => ?_) (fun u117 l117 hu117 => ?_)
                · refine (kHas_c (a := y116) ((hS109.grow hx).roC h_cv) ).mono ?_
                  rintro _ _ ⟨rfl, hz⟩
                  exact ⟨_, rfl, _, ⟨rfl, rfl⟩, hz⟩
                obtain ⟨rfl, hl117⟩ := hu117
                refine D_v rfl rfl (V_mov rfl (et rfl)) rfl rfl ?_
                refine D_v rfl rfl (V_ext (v := .bool ((hsB c y116))) rfl (et rfl) rfl) rfl rfl ?_
                refine D_v rfl rfl (V_ext (v := .int .i64 ((chE c y116))) rfl (es rfl (et rfl)) rfl) rfl rfl ?_
                refine D_v rfl rfl (V_asg rfl (es rfl (et rfl))) rfl rfl ?_
                refine D_v rfl rfl (V_asg rfl (es rfl (et rfl))) rfl rfl ?_
                refine ZS_none hS109 (Nat.le_refl _) (Nat.le_refl _) (fun s118 hJ118 hL118 hF118 => ?_)
                obtain ⟨ll117, ws117, we117, ⟨hq117, hl117r⟩, hm117, k117, e117⟩ := L.all_get hF118; cases hq117; subst hl117r
                replace hJ118 := hJ118.add hL118 (i := 5) rfl hm117 k117 e117
                have hS118 := hJ118.st; clear hF118 hJ118 hL118
                generalize s118.1 = w118 at *
                replace hS118 : St w NoX [c_109, c3_109, c2_109] w118 := hS118
                refine gen_Q (fun A119 hA119 => ?_)
                have hsz119 : SzN A119 241 := by rw [hA119]; infer_instance
                have hdf119 : A119.defers = [] := by rw [hA119]; simp only [df_put]; exact hdf112
                have l3_119 := lookE hA119 3 (es rfl (es rfl (es rfl (es rfl (es rfl (es rfl (es rfl (es rfl (es rfl (es rfl (es rfl l3_112)))))))))))
                have l4_119 := lookE hA119 4 (es rfl (es rfl (es rfl (es rfl (es rfl (es rfl (es rfl (es rfl (es rfl (es rfl (es rfl l4_112)))))))))))
                have l19_119 := lookE hA119 19 (es rfl (es rfl (es rfl (es rfl (es rfl (es rfl (es rfl (es rfl (es rfl (es rfl (es rfl l19_112)))))))))))
                have l23_119 := lookE hA119 23 (es rfl (es rfl (es rfl (es rfl (es rfl (es rfl (es rfl (es rfl (es rfl (es rfl (es rfl l23_112)))))))))))
                have l24_119 := lookE hA119 24 (es rfl (et rfl))
                clear hA119 hsz112 hdf112 l3_112 l4_112 l19_112 l23_112 l155_112
                refine then_n (hK115 _ _ ?_)
                clear hK115
                refine wp_seq_k (fun K120 hK120 => ?_)
                -- region 29
                refine region_monoS 11 11 [none, none, none, none, none, some (SPc (fun u l' => u = .tuple #[.bool (hsB d y116), .int .i64 (chE d y116)] ∧ l' = []) 5)] (by kernel_rfl) (by kernel_rfl) ?_
                refine D_r rfl rfl (by kernel_rfl) (fun sx hx hF => (VR_ldA rfl l4_119 ((hS118.grow hx).obj 1 rfl hc3_109) Try.underlying24 rfl (by kernel_rfl))) rfl rfl ?_
                refine D_v rfl rfl (V_mov rfl (es rfl l19_119)) rfl rfl ?_
                refine D_v rfl rfl (V_mov rfl (es rfl (es rfl l23_119))) rfl rfl ?_
                refine D_v rfl rfl (V_ixS (off := O116 + k) 1 (k) rfl (es rfl (et rfl)) (et rfl) hv116 (by omega) k116 Try.underlying22 (by kernel_rfl) (congrArg _ (Nat.mul_one _))) rfl rfl ?_
                refine D_r rfl rfl (by kernel_rfl) (fun sx hx hF => (VR_ldC rfl (et rfl) ((ow_at ((hS118.grow hx).chq 0 rfl hc_109)).cell hv116 (map_get hy116)) Try.underlying3 rfl)) rfl rfl ?_
                refine D_call (C := fun u l' => u = .tuple #[.bool (hsB d y116), .int .i64 (chE d y116)] ∧ l' = []) rfl rfl rfl Try.func13 (by kernel_rfl) rfl (args2 (es rfl (es rfl (es rfl (es rfl (et rfl))))) (et rfl)) rfl rfl (fun sx hx hF => ?_) (fun u122 l122 hu122 => ?_)
                · refine (kHas_c (a := y116) ((hS118.grow hx).roC h_dv) ).mono ?_
                  rintro _ _ ⟨rfl, hz⟩
                  exact ⟨_, rfl, _, ⟨rfl, rfl⟩, hz⟩
                obtain ⟨rfl, hl122⟩ := hu122
                refine D_v rfl rfl (V_mov rfl (et rfl)) rfl rfl ?_
                refine D_v rfl rfl (V_ext (v := .bool ((hsB d y116))) rfl (et rfl) rfl) rfl rfl ?_
                refine D_v rfl rfl (V_ext (v := .int .i64 ((chE d y116))) rfl (es rfl (et rfl)) rfl) rfl rfl ?_
                refine D_v rfl rfl (V_asg rfl (es rfl (et rfl))) rfl rfl ?_
                refine D_v rfl rfl (V_asg rfl (es rfl (et rfl))) rfl rfl ?_
                refine ZS_none hS118 (Nat.le_refl _) (Nat.le_refl _) (fun s123 hJ123 hL123 hF123 => ?_)
                obtain ⟨ll122, ws122, we122, ⟨hq122, hl122r⟩, hm122, k122, e122⟩ := L.all_get hF123; cases hq122; subst hl122r
                replace hJ123 := hJ123.add hL123 (i := 5) rfl hm122 k122 e122
                have hS123 := hJ123.st; clear hF123 hJ123 hL123
                generalize s123.1 = w123 at *
                replace hS123 : St w NoX [c_109, c3_109, c2_109] w123 := hS123
                refine gen_Q (fun A124 hA124 => ?_)
                have hsz124 : SzN A124 241 := by rw [hA124]; infer_instance
                have hdf124 : A124.defers = [] := by rw [hA124]; simp only [df_put]; exact hdf119
                have l3_124 := lookE hA124 3 (es rfl (es rfl (es rfl (es rfl (es rfl (es rfl (es rfl (es rfl (es rfl (es rfl (es rfl l3_119)))))))))))
                have l4_124 := lookE hA124 4 (es rfl (es rfl (es rfl (es rfl (es rfl (es rfl (es rfl (es rfl (es rfl (es rfl (es rfl l4_119)))))))))))
                have l19_124 := lookE hA124 19 (es rfl (es rfl (es rfl (es rfl (es rfl (es rfl (es rfl (es rfl (es rfl (es rfl (es rfl l19_119)))))))))))
                have l23_124 := lookE hA124 23 (es rfl (es rfl (es rfl (es rfl (es rfl (es rfl (es rfl (es rfl (es rfl (es rfl (es rfl l23_119)))))))))))
                have l24_124 := lookE hA124 24 (es rfl (es rfl (es rfl (es rfl (es rfl (es rfl (es rfl (es rfl (es rfl (es rfl (es rfl l24_119)))))))))))
                have l26_124 := lookE hA124 26 (es rfl (et rfl))
                clear hA124 hsz119 hdf119 l3_119 l4_119 l19_119 l23_119 l24_119
                refine then_n (hK120 _ _ ?_)
                clear hK120
                refine wp_seq_k (fun K125 hK125 => ?_)
                -- region 30
                refine region_in ?_
                refine W_v rfl rfl (V_mov rfl l24_124) ?_
                refine W_v rfl rfl (V_not rfl (et rfl)) ?_
                refine W_splitB rfl rfl (V_mov rfl (et rfl)) (fun c126 => ?_) (fun c126 => ?_)
                · skip
                  refine W_v rfl (wanted_t rfl rfl (et rfl) (ez rfl)) (V_mov rfl (es rfl (es rfl (es rfl l26_124)))) ?_
                  refine W_v rfl (wanted_t rfl rfl (es rfl (et rfl)) (ez rfl)) (V_not rfl (et rfl)) ?_
                  refine W_v rfl rfl (V_pickT rfl (es rfl (es rfl (et rfl))) (et rfl)) ?_
                  refine W_end ?_
                  refine gen_Q (fun A127 hA127 => ?_)
                  have hsz127 : SzN A127 241 := by rw [hA127]; infer_instance
                  have hdf127 : A127.defers = [] := by rw [hA127]; simp only [df_put]; exact hdf124
                  have l3_127 := lookE hA127 3 (es rfl (es rfl (es rfl (es rfl (es rfl (es rfl l3_124))))))
                  have l4_127 := lookE hA127 4 (es rfl (es rfl (es rfl (es rfl (es rfl (es rfl l4_124))))))
                  have l19_127 := lookE hA127 19 (es rfl (es rfl (es rfl (es rfl (es rfl (es rfl l19_124))))))
                  have l23_127 := lookE hA127 23 (es rfl (es rfl (es rfl (es rfl (es rfl (es rfl l23_124))))))
                  have l179_127 := lookE hA127 179 (es rfl (es rfl (et rfl)))
                  have l180_127 := lookE hA127 180 (es rfl (et rfl))
                  have l181_127 := lookE hA127 181 (et rfl)
                  clear hA127 hsz124 hdf124 l3_124 l4_124 l19_124 l23_124 l24_124 l26_124
                  refine then_n (hK125 _ _ ?_)
                  clear hK125
                  refine cond_not l181_127 (by rw [(jn_in hj hy116).2 (by simpa using c126)]; rfl) ?_
                  refine wp_skip ?_
                  refine inb_n ?_
                  refine then_n (hK114 _ _ ?_)
                  clear hK114
                  -- region 27
                  refine region_in ?_
                  refine W_v rfl rfl (V_mov rfl l23_127) ?_
                  refine W_v rfl rfl (V_add rfl (et rfl) rfl (by omega) (by omega)) ?_
                  refine W_v rfl rfl (V_asg rfl (et rfl)) ?_
                  refine W_end ?_
                  refine gen_Q (fun A128 hA128 => ?_)
                  have hsz128 : SzN A128 241 := by rw [hA128]; infer_instance
                  have hdf128 : A128.defers = [] := by rw [hA128]; simp only [df_put]; exact hdf127
                  have l3_128 := lookE hA128 3 (es rfl (es rfl (es rfl l3_127)))
                  have l4_128 := lookE hA128 4 (es rfl (es rfl (es rfl l4_127)))
                  have l19_128 := lookE hA128 19 (es rfl (es rfl (es rfl l19_127)))
                  have l23_128 := lookE hA128 23 (et rfl)
                  have l179_128 := lookE hA128 179 (es rfl (es rfl (es rfl l179_127)))
                  have l180_128 := lookE hA128 180 (es rfl (es rfl (es rfl l180_127)))
                  clear hA128 hsz127 hdf127 l3_127 l4_127 l19_127 l23_127 l179_127 l180_127 l181_127
                  refine then_n ⟨(lsT (jnT c d)).length - (k + 1), by simp only [hm109]; omega, hsz128, hdf128, (k + 1), rfl, (by omega), ((l23_128).trans (by first | rfl | (simp; done) | (congr 1; omega))), ((l3_128).trans l3_108.symm), ((l4_128).trans l4_108.symm), ((l19_128).trans l19_108.symm), (by subst hc_109 hc3_109 hc2_109; exact hS123)⟩
                · skip
                  refine W_off rfl (wanted_f rfl rfl (et rfl) (ez rfl) rfl) ?_
                  refine W_off rfl (wanted_f rfl rfl (es rfl (et rfl)) (ez rfl) rfl) ?_
                  refine W_v rfl rfl (V_pickF rfl (es rfl (es rfl (et rfl))) rfl) ?_
                  refine W_end ?_
                  refine gen_Q (fun A129 hA129 => ?_)
                  have hsz129 : SzN A129 241 := by rw [hA129]; infer_instance
                  have hdf129 : A129.defers = [] := by rw [hA129]; simp only [df_put]; exact hdf124
                  have l3_129 := lookE hA129 3 (es rfl (es rfl (es rfl (es rfl (es rfl (es rfl l3_124))))))
                  have l4_129 := lookE hA129 4 (es rfl (es rfl (es rfl (es rfl (es rfl (es rfl l4_124))))))
                  have l19_129 := lookE hA129 19 (es rfl (es rfl (es rfl (es rfl (es rfl (es rfl l19_124))))))
                  have l23_129 := lookE hA129 23 (es rfl (es rfl (es rfl (es rfl (es rfl (es rfl l23_124))))))
                  have l179_129 := lookE hA129 179 (es rfl (es rfl (et rfl)))
                  have l180_129 := lookE hA129 180 (es rfl (et rfl))
                  have l181_129 := lookE hA129 181 (et rfl)
                  clear hA129 hsz124 hdf124 l3_124 l4_124 l19_124 l23_124 l24_124 l26_124
                  refine then_n (hK125 _ _ ?_)
                  clear hK125
                  refine cond_f l181_129 ?_
                  refine wp_skip ?_
                  refine inb_n ?_
                  refine then_n (hK114 _ _ ?_)
                  clear hK114
                  -- region 27
                  refine region_in ?_
                  refine W_v rfl rfl (V_mov rfl l23_129) ?_
                  refine W_v rfl rfl (V_add rfl (et rfl) rfl (by omega) (by omega)) ?_
                  refine W_v rfl rfl (V_asg rfl (et rfl)) ?_
                  refine W_end ?_
                  refine gen_Q (fun A130 hA130 => ?_)
                  have hsz130 : SzN A130 241 := by rw [hA130]; infer_instance
                  have hdf130 : A130.defers = [] := by rw [hA130]; simp only [df_put]; exact hdf129
                  have l3_130 := lookE hA130 3 (es rfl (es rfl (es rfl l3_129)))
                  have l4_130 := lookE hA130 4 (es rfl (es rfl (es rfl l4_129)))
                  have l19_130 := lookE hA130 19 (es rfl (es rfl (es rfl l19_129)))
                  have l23_130 := lookE hA130 23 (et rfl)
                  have l179_130 := lookE hA130 179 (es rfl (es rfl (es rfl l179_129)))
                  have l180_130 := lookE hA130 180 (es rfl (es rfl (es rfl l180_129)))
                  clear hA130 hsz129 hdf129 l3_129 l4_129 l19_129 l23_129 l179_129 l180_129 l181_129
                  refine then_n ⟨(lsT (jnT c d)).length - (k + 1), by simp only [hm109]; omega, hsz130, hdf130, (k + 1), rfl, (by omega), ((l23_130).trans (by first | rfl | (simp; done) | (congr 1; omega))), ((l3_130).trans l3_108.symm), ((l4_130).trans l4_108.symm), ((l19_130).trans l19_108.symm), (by subst hc_109 hc3_109 hc2_109; exact hS123)⟩
              · skip
                refine wp_exit ?_
                refine then_exit ?_
                refine then_exit ?_
                refine inb_hit ?_
                refine then_n (hK106 _ _ ?_)
                clear hK106
                refine wp_seq_k (fun K131 hK131 => ?_)
                -- region 32
                refine region_in ?_
                refine W_r rfl rfl (VR_ldA rfl l3_112 (hS109.obj 2 rfl hc2_109) Try.underlying24 rfl (by kernel_rfl)) ?_
                refine W_call rfl rfl rfl Try.func28 (by kernel_rfl) rfl (args1 (et rfl)) (kLen_c (hS109.roC h_cv) ) ?_
                rintro _ w132 ⟨rfl, hP132⟩
                refine ⟨_, rfl, ?_⟩
                have hS132 := hS109.join hP132
                replace hS132 : St w NoX [c_109, c3_109, c2_109] w132 := hS132
                refine W_v rfl rfl (V_mov rfl (et rfl)) ?_
                refine W_v rfl rfl (V_ext (v := .int .i64 ((lnN c))) rfl (et rfl) rfl) ?_
                refine W_v rfl rfl (V_ext (v := .int .i64 ((ckS c).2)) rfl (es rfl (et rfl)) rfl) ?_
                refine W_v rfl rfl (V_asg rfl (es rfl (et rfl))) ?_
                refine W_v rfl rfl (V_asg rfl (es rfl (et rfl))) ?_
                refine W_end ?_
                refine gen_Q (fun A133 hA133 => ?_)
                have hsz133 : SzN A133 241 := by rw [hA133]; infer_instance
                have hdf133 : A133.defers = [] := by rw [hA133]; simp only [df_put]; exact hdf112
                have l3_133 := lookE hA133 3 (es rfl (es rfl (es rfl (es rfl (es rfl (es rfl (es rfl l3_112)))))))
                have l28_133 := lookE hA133 28 (es rfl (et rfl))
                clear hA133 hsz112 hdf112 l3_112 l4_112 l19_112 l23_112 l155_112
                have hS134 : St w NoX [c2_109] w132 := hS132.sel [2] (by decide) rfl
                refine then_n (hK131 _ _ ?_)
                clear hK131
                refine wp_seq_k (fun K135 hK135 => ?_)
                -- region 33
                refine region_in ?_
                refine W_r rfl rfl (VR_ldA rfl l3_133 (hS134.obj 0 rfl hc2_109) Try.underlying24 rfl (by kernel_rfl)) ?_
                refine W_call rfl rfl rfl Try.func24 (by kernel_rfl) rfl (args3 (et rfl) rfl rfl) (kPurge_c (f := 1) (t := 800) (hS134.roC h_cv) ) ?_
                rintro _ w136 ⟨v_136, rfl, hP136⟩
                refine ⟨_, rfl, ?_⟩
                obtain ⟨c_136, hc_136, hP136⟩ := gen1 hP136
                have hS136 := hS134.join hP136
                replace hS136 : St w NoX [c_136, c2_109] w136 := hS136
                refine W_v rfl rfl (V_mov rfl (et rfl)) ?_
                refine W_v rfl rfl (V_ext (v := .agg #[v_136]) rfl (et rfl) rfl) ?_
                refine W_v rfl rfl (V_ext (v := .int .i64 ((pgN c 1 800))) rfl (es rfl (et rfl)) rfl) ?_
                refine W_v rfl rfl (V_ext (v := .int .i64 ((ckS c).2)) rfl (es rfl (es rfl (et rfl))) rfl) ?_
                refine W_allocS (z := .agg #[.slice none 0 0]) (zs := #[.slice none 0 0]) hS136 rfl rfl rfl (by kernel_rfl) (by rfl) (fun g137 w137 c137 hc137 hS137 => ?_)
                replace hS137 : St w NoX [c137, c_136, c2_109] w137 := hS137
                refine W_stAS 0 hS137 rfl hc137 rfl rfl rfl (et rfl) (es rfl (es rfl (es rfl (et rfl)))) (by simp only [List.all_toArray, List.all_cons, List.all_nil, SlN_one (ow_at (hS137.chq 1 rfl hc_136))] <;> rfl) (by rfl) (by kernel_rfl) (fun w138 c138 hc138 hS138 => ?_)
                replace hS138 : St w NoX [c138, c_136, c2_109] w138 := hS138
                refine W_v rfl rfl (V_asg rfl (es rfl (es rfl (et rfl)))) ?_
                refine W_v rfl rfl (V_asg rfl (es rfl (es rfl (et rfl)))) ?_
                refine W_end ?_
                refine gen_Q (fun A139 hA139 => ?_)
                have hsz139 : SzN A139 241 := by rw [hA139]; infer_instance
                have hdf139 : A139.defers = [] := by rw [hA139]; simp only [df_put]; exact hdf133
                have l3_139 := lookE hA139 3 (es rfl (es rfl (es rfl (es rfl (es rfl (es rfl (es rfl (es rfl (es rfl l3_133)))))))))
                have l20_139 := lookE hA139 20 (et rfl)
                have l28_139 := lookE hA139 28 (es rfl (es rfl (es rfl (es rfl (es rfl (es rfl (es rfl (es rfl (es rfl l28_133)))))))))
                have l30_139 := lookE hA139 30 (es rfl (es rfl (et rfl)))
                have l31_139 := lookE hA139 31 (es rfl (et rfl))
                clear hA139 hsz133 hdf133 l3_133 l28_133
                refine then_n (hK135 _ _ ?_)
                clear hK135
                refine wp_seq_k (fun K140 hK140 => ?_)
                -- region 34
                refine region_in ?_
                refine W_r rfl rfl (VR_ldA rfl l3_139 (hS138.obj 2 rfl hc2_109) Try.underlying24 rfl (by kernel_rfl)) ?_
                refine W_call rfl rfl rfl Try.func34 (by kernel_rfl) rfl (args3 (et rfl) rfl rfl) (kRange_c (f := 1) (t := 800) (hS138.roC h_cv) ) ?_
                rintro _ w141 ⟨v_141, rfl, hP141⟩
                refine ⟨_, rfl, ?_⟩
                obtain ⟨c_141, hc_141, hP141⟩ := gen1 hP141
                have hS141 := hS138.join hP141
                replace hS141 : St w NoX [c_141, c138, c_136, c2_109] w141 := hS141
                refine W_v rfl rfl (V_mov rfl (et rfl)) ?_
                refine W_v rfl rfl (V_ext (v := v_141) rfl (et rfl) rfl) ?_
                refine W_v rfl rfl (V_ext (v := .int .i64 ((ckS c).2)) rfl (es rfl (et rfl)) rfl) ?_
                refine W_v rfl rfl (V_asg rfl (es rfl (et rfl))) ?_
                refine W_v rfl rfl (V_asg rfl (es rfl (et rfl))) ?_
                refine W_end ?_
                refine gen_Q (fun A142 hA142 => ?_)
                have hsz142 : SzN A142 241 := by rw [hA142]; infer_instance
                have hdf142 : A142.defers = [] := by rw [hA142]; simp only [df_put]; exact hdf139
                have l20_142 := lookE hA142 20 (es rfl (es rfl (es rfl (es rfl (es rfl (es rfl (es rfl l20_139)))))))
                have l22_142 := lookE hA142 22 (et rfl)
                have l28_142 := lookE hA142 28 (es rfl (es rfl (es rfl (es rfl (es rfl (es rfl (es rfl l28_139)))))))
                have l30_142 := lookE hA142 30 (es rfl (es rfl (es rfl (es rfl (es rfl (es rfl (es rfl l30_139)))))))
                have l31_142 := lookE hA142 31 (es rfl (es rfl (es rfl (es rfl (es rfl (es rfl (es rfl l31_139)))))))
                have l32_142 := lookE hA142 32 (es rfl (et rfl))
                clear hA142 hsz139 hdf139 l3_139 l20_139 l28_139 l30_139 l31_139
                have hS143 : St w NoX [c_141, c138, c_136] w141 := hS141.sel [0, 1, 2] (by decide) rfl
                refine then_n (hK140 _ _ ?_)
                clear hK140
                refine wp_seq_k (fun K144 hK144 => ?_)
                -- region 35
                refine region_in ?_
                refine W_r rfl rfl (VR_ldA rfl l30_142 (hS143.obj 1 rfl hc138) Try.underlying24 rfl (by kernel_rfl)) ?_
                refine W_call rfl rfl rfl Try.func32 (by kernel_rfl) rfl (args1 (et rfl)) (kList_c (hS143.chC 2 rfl hc_136).own ) ?_
                rintro _ w145 ⟨v_145, rfl, hP145⟩
                refine ⟨_, rfl, ?_⟩
                obtain ⟨c_145, hc_145, hP145⟩ := gen1 hP145
                have hS145 := hS143.join hP145
                replace hS145 : St w NoX [c_145, c_141, c138, c_136] w145 := hS145
                refine W_v rfl rfl (V_mov rfl (et rfl)) ?_
                refine W_v rfl rfl (V_ext (v := v_145) rfl (et rfl) rfl) ?_
                refine W_v rfl rfl (V_ext (v := .int .i64 ((ckS (pgT c 1 800)).2)) rfl (es rfl (et rfl)) rfl) ?_
                refine W_v rfl rfl (V_asg rfl (es rfl (et rfl))) ?_
                refine W_v rfl rfl (V_asg rfl (es rfl (et rfl))) ?_
                refine W_end ?_
                refine gen_Q (fun A146 hA146 => ?_)
                have hsz146 : SzN A146 241 := by rw [hA146]; infer_instance
                have hdf146 : A146.defers = [] := by rw [hA146]; simp only [df_put]; exact hdf142
                have l20_146 := lookE hA146 20 (es rfl (es rfl (es rfl (es rfl (es rfl (es rfl (es rfl l20_142)))))))
                have l22_146 := lookE hA146 22 (es rfl (es rfl (es rfl (es rfl (es rfl (es rfl (es rfl l22_142)))))))
                have l28_146 := lookE hA146 28 (es rfl (es rfl (es rfl (es rfl (es rfl (es rfl (es rfl l28_142)))))))
                have l31_146 := lookE hA146 31 (es rfl (es rfl (es rfl (es rfl (es rfl (es rfl (es rfl l31_142)))))))
                have l32_146 := lookE hA146 32 (es rfl (es rfl (es rfl (es rfl (es rfl (es rfl (es rfl l32_142)))))))
                have l33_146 := lookE hA146 33 (es rfl (et rfl))
                have l34_146 := lookE hA146 34 (et rfl)
                clear hA146 hsz142 hdf142 l20_142 l22_142 l28_142 l30_142 l31_142 l32_142
                have hS147 : St w NoX [c_145, c_141] w145 := hS145.sel [0, 1] (by decide) rfl
                refine then_n (hK144 _ _ ?_)
                clear hK144
                refine wp_seq_k (fun K148 hK148 => ?_)
                -- region 36
                refine region_in ?_
                refine W_v rfl rfl (V_mov rfl l20_146) ?_
                refine W_v rfl rfl (V_eql rfl (et rfl) rfl) ?_
                refine W_sure (c' := true) rfl rfl (V_mov rfl (et rfl)) (by rw [decide_eq_true_eq]; exact hck) ?_
                refine W_v rfl (wanted_t rfl rfl (et rfl) (ez rfl)) (V_mov rfl (es rfl (es rfl (es rfl l22_146)))) ?_
                refine W_v rfl (wanted_t rfl rfl (es rfl (et rfl)) (ez rfl)) (V_eql rfl (et rfl) rfl) ?_
                refine W_v rfl rfl (V_pickT rfl (es rfl (es rfl (et rfl))) (et rfl)) ?_
                refine W_sure (c' := true) rfl rfl (V_mov rfl (et rfl)) (by rw [decide_eq_true_eq]; exact hck) ?_
                refine W_v rfl (wanted_t rfl rfl (et rfl) (ez rfl)) (V_mov rfl (es rfl (es rfl (es rfl (es rfl (es rfl (es rfl (es rfl l34_146)))))))) ?_
                refine W_v rfl (wanted_t rfl rfl (es rfl (et rfl)) (ez rfl)) (V_eql rfl (et rfl) rfl) ?_
                refine W_v rfl rfl (V_pickT rfl (es rfl (es rfl (et rfl))) (et rfl)) ?_
                refine W_sure (c' := true) rfl rfl (V_mov rfl (et rfl)) (by rw [decide_eq_true_eq]; exact hpt.2.2.2.1) ?_
                refine W_v rfl (wanted_t rfl rfl (et rfl) (ez rfl)) (V_mov rfl (es rfl (es rfl (es rfl (es rfl (es rfl (es rfl (es rfl (es rfl (es rfl (es rfl (es rfl l32_146)))))))))))) ?_
                refine W_v rfl (wanted_t rfl rfl (es rfl (et rfl)) (ez rfl)) (V_lenS rfl (et rfl) (ow_at (hS147.chq 1 rfl hc_141)) Try.underlying22) ?_
                refine W_v rfl (wanted_t rfl rfl (es rfl (es rfl (et rfl))) (ez rfl)) (V_mov rfl (es rfl (es rfl (es rfl (es rfl (es rfl (es rfl (es rfl (es rfl (es rfl (es rfl (es rfl (es rfl (es rfl l31_146)))))))))))))) ?_
                refine W_v rfl (wanted_t rfl rfl (es rfl (es rfl (es rfl (et rfl)))) (ez rfl)) (V_eql rfl (es rfl (et rfl)) (et rfl)) ?_
                refine W_v rfl rfl (V_pickT rfl (es rfl (es rfl (es rfl (es rfl (et rfl))))) (et rfl)) ?_
                refine W_sure (c' := true) rfl rfl (V_mov rfl (et rfl)) (by rw [decide_eq_true_eq]; exact hpt.2.2.1) ?_
                refine W_v rfl (wanted_t rfl rfl (et rfl) (ez rfl)) (V_mov rfl (es rfl (es rfl (es rfl (es rfl (es rfl (es rfl (es rfl (es rfl (es rfl (es rfl (es rfl (es rfl (es rfl (es rfl (es rfl (es rfl (es rfl l33_146)))))))))))))))))) ?_
                refine W_v rfl (wanted_t rfl rfl (es rfl (et rfl)) (ez rfl)) (V_lenS rfl (et rfl) (ow_at (hS147.chq 0 rfl hc_145)) Try.underlying22) ?_
                refine W_v rfl (wanted_t rfl rfl (es rfl (es rfl (et rfl))) (ez rfl)) (V_mov rfl (es rfl (es rfl (es rfl (es rfl (es rfl (es rfl (es rfl (es rfl (es rfl (es rfl (es rfl (es rfl (es rfl (es rfl (es rfl (es rfl (es rfl (es rfl (es rfl l28_146)))))))))))))))))))) ?_
                refine W_v rfl (wanted_t rfl rfl (es rfl (es rfl (es rfl (et rfl)))) (ez rfl)) (V_mov rfl (es rfl (es rfl (es rfl (es rfl (es rfl (es rfl (es rfl (es rfl (es rfl (es rfl (es rfl (es rfl (es rfl (es rfl (es rfl (es rfl (es rfl (es rfl (es rfl (es rfl l31_146))))))))))))))))))))) ?_
                refine W_v rfl (wanted_t rfl rfl (es rfl (es rfl (es rfl (es rfl (et rfl))))) (ez rfl)) (V_sb rfl (es rfl (et rfl)) (et rfl) (by omega) (by omega)) ?_
                refine W_v rfl (wanted_t rfl rfl (es rfl (es rfl (es rfl (es rfl (es rfl (et rfl)))))) (ez rfl)) (V_eql rfl (es rfl (es rfl (es rfl (et rfl)))) (et rfl)) ?_
                refine W_v rfl rfl (V_pickT rfl (es rfl (es rfl (es rfl (es rfl (es rfl (es rfl (et rfl))))))) (et rfl)) ?_
                refine W_sure (c' := true) rfl rfl (V_mov rfl (et rfl)) (by rw [decide_eq_true_eq]; exact hpt.2.2.2.2.1) ?_
                refine W_v rfl (wanted_t rfl rfl (et rfl) (ez rfl)) (V_mov rfl (es rfl (es rfl (es rfl (es rfl (es rfl (es rfl (es rfl (es rfl (es rfl (es rfl (es rfl (es rfl (es rfl (es rfl (es rfl (es rfl (es rfl (es rfl (es rfl (es rfl (es rfl (es rfl (es rfl (es rfl (es rfl l33_146)))))))))))))))))))))))))) ?_
                refine W_v rfl (wanted_t rfl rfl (es rfl (et rfl)) (ez rfl)) (V_lenS rfl (et rfl) (ow_at (hS147.chq 0 rfl hc_145)) Try.underlying22) ?_
                refine W_v rfl (wanted_t rfl rfl (es rfl (es rfl (et rfl))) (ez rfl)) (V_eql rfl (et rfl) rfl) ?_
                refine W_split rfl (wanted_t rfl rfl (es rfl (es rfl (es rfl (et rfl)))) (ez rfl)) (V_mov rfl (et rfl)) (fun c149 => ?_) (fun c149 => ?_)
                · skip
                  refine W_off rfl (wanted_f rfl rfl (et rfl) (ez rfl) rfl) ?_
                  refine W_off rfl (wanted_f rfl rfl (es rfl (et rfl)) (ez rfl) rfl) ?_
                  refine W_off rfl (wanted_f rfl rfl (es rfl (es rfl (et rfl))) (ez rfl) rfl) ?_
                  refine W_off rfl (wanted_f rfl rfl (es rfl (es rfl (es rfl (et rfl)))) (ez rfl) rfl) ?_
                  refine W_v rfl (wanted_t rfl rfl (es rfl (es rfl (es rfl (es rfl (es rfl (es rfl (es rfl (es rfl (et rfl))))))))) (ez rfl)) (V_pickT rfl (es rfl (es rfl (es rfl (es rfl (et rfl))))) rfl) ?_
                  refine W_v rfl rfl (V_pickT rfl (es rfl (es rfl (es rfl (es rfl (es rfl (es rfl (es rfl (es rfl (es rfl (et rfl)))))))))) (et rfl)) ?_
                  refine W_v rfl rfl (V_mov rfl (et rfl)) ?_
                  refine W_call rfl (wanted_t rfl rfl (et rfl) (ez rfl)) rfl Try.func12 (by kernel_rfl) rfl (args0) (awake_c  ) ?_
                  rintro _ w150 ⟨rfl, hP150⟩
                  refine ⟨_, rfl, ?_⟩
                  have hS150 := hS147.join hP150
                  replace hS150 : St w NoX [c_145, c_141] w150 := hS150
                  refine W_v rfl rfl (V_pickT rfl (es rfl (et rfl)) (et rfl)) ?_
                  refine W_v rfl rfl (V_asg rfl (et rfl)) ?_
                  refine W_end ?_
                  refine gen_Q (fun A151 hA151 => ?_)
                  have hsz151 : SzN A151 241 := by rw [hA151]; infer_instance
                  have hdf151 : A151.defers = [] := by rw [hA151]; simp only [df_put]; exact hdf146
                  have l6_151 := lookE hA151 6 (et rfl)
                  clear hA151 hsz146 hdf146 l20_146 l22_146 l28_146 l31_146 l32_146 l33_146 l34_146
                  have hS152 : St w NoX [] w150 := hS150.sel [] (by decide) rfl
                  refine then_n (hK148 _ _ ?_)
                  clear hK148
                  refine wp_ret ?_
                  refine ret_in (results_1 Try.results10 (rv_tmp l6_151)) hdf151 ?_
                  -- leaf FFFFTFFT
                  exact ⟨rfl, hS152.fin0⟩
                · skip
                  refine W_v rfl (wanted_t rfl rfl (et rfl) (ez rfl)) (V_mov rfl (es rfl (es rfl (es rfl (es rfl (es rfl (es rfl (es rfl (es rfl (es rfl (es rfl (es rfl (es rfl (es rfl (es rfl (es rfl (es rfl (es rfl (es rfl (es rfl (es rfl (es rfl (es rfl (es rfl (es rfl (es rfl (es rfl (es rfl (es rfl (es rfl l33_146)))))))))))))))))))))))))))))) ?_
                  have k153 : 0 < (lsT (pgT c 1 800)).length := by first | omega | (simp only [List.length_cons, List.length_nil]; omega)
                  obtain ⟨y153, hy153⟩ := get_some (xs := (lsT (pgT c 1 800))) (k := 0) k153
                  obtain ⟨B153, O153, C153, hv153⟩ := (SlN.blk (ow_at (hS147.chq 0 rfl hc_145)) (by first | omega | (simp only [List.length_cons, List.length_nil]; omega)))
                  refine W_v rfl (wanted_t rfl rfl (es rfl (et rfl)) (ez rfl)) (V_ixS (off := O153 + 0) 1 (0) rfl (et rfl) rfl hv153 (by omega) k153 Try.underlying22 (by kernel_rfl) (congrArg _ (Nat.mul_one _))) ?_
                  refine W_r rfl (wanted_t rfl rfl (es rfl (es rfl (et rfl))) (ez rfl)) (VR_ldC rfl (et rfl) ((ow_at (hS147.chq 0 rfl hc_145)).cell hv153 (map_get hy153)) Try.underlying3 rfl) ?_
                  refine W_v rfl (wanted_t rfl rfl (es rfl (es rfl (es rfl (et rfl)))) (ez rfl)) (V_geq rfl (et rfl) rfl) ?_
                  refine W_v rfl (wanted_t rfl rfl (es rfl (es rfl (es rfl (es rfl (es rfl (es rfl (es rfl (es rfl (et rfl))))))))) (ez rfl)) (V_pickF rfl (es rfl (es rfl (es rfl (es rfl (et rfl))))) (et rfl)) ?_
                  refine W_v rfl rfl (V_pickT rfl (es rfl (es rfl (es rfl (es rfl (es rfl (es rfl (es rfl (es rfl (es rfl (et rfl)))))))))) (et rfl)) ?_
                  refine W_sure (c' := true) rfl rfl (V_mov rfl (et rfl)) (by rw [decide_eq_true_eq]; exact hpt.2.2.2.2.2 _ (List.mem_of_getElem? hy153)) ?_
                  refine W_call rfl (wanted_t rfl rfl (et rfl) (ez rfl)) rfl Try.func12 (by kernel_rfl) rfl (args0) (awake_c  ) ?_
                  rintro _ w154 ⟨rfl, hP154⟩
                  refine ⟨_, rfl, ?_⟩
                  have hS154 := hS147.join hP154
                  replace hS154 : St w NoX [c_145, c_141] w154 := hS154
                  refine W_v rfl rfl (V_pickT rfl (es rfl (et rfl)) (et rfl)) ?_
                  refine W_v rfl rfl (V_asg rfl (et rfl)) ?_
                  refine W_end ?_
                  refine gen_Q (fun A155 hA155 => ?_)
                  have hsz155 : SzN A155 241 := by rw [hA155]; infer_instance
                  have hdf155 : A155.defers = [] := by rw [hA155]; simp only [df_put]; exact hdf146
                  have l6_155 := lookE hA155 6 (et rfl)
                  clear hA155 hsz146 hdf146 l20_146 l22_146 l28_146 l31_146 l32_146 l33_146 l34_146
                  have hS156 : St w NoX [] w154 := hS154.sel [] (by decide) rfl
                  refine then_n (hK148 _ _ ?_)
                  clear hK148
                  refine wp_ret ?_
                  refine ret_in (results_1 Try.results10 (rv_tmp l6_155)) hdf155 ?_
                  -- leaf FFFFTFFF
                  exact ⟨rfl, hS156.fin0⟩
          · skip
            refine wp_skip ?_
            refine then_n (hK58 _ _ ?_)
            clear hK58
            refine wp_seq_k (fun K157 hK157 => ?_)
            -- region 17
            refine region_in ?_
            refine W_r rfl rfl (VR_ldA rfl l3_60 (hS54.obj 5 rfl hc2_33) Try.underlying24 rfl (by kernel_rfl)) ?_
            refine W_r rfl rfl (VR_ldA rfl (es rfl l4_60) (hS54.obj 4 rfl hc3_33) Try.underlying24 rfl (by kernel_rfl)) ?_
            refine W_call rfl rfl rfl Try.func22 (by kernel_rfl) rfl (args2 (es rfl (et rfl)) (et rfl)) (kJoin_c (hS54.roC h_cv) (hS54.roC h_dv) ) ?_
            rintro _ w158 ⟨v_158, rfl, hP158⟩
            refine ⟨_, rfl, ?_⟩
            obtain ⟨c_158, hc_158, hP158⟩ := gen1 hP158
            have hS158 := hS54.join hP158
            replace hS158 : St w NoX [c_158, c52, c_50, c47, c_45, c3_33, c2_33] w158 := hS158
            refine W_v rfl rfl (V_mov rfl (et rfl)) ?_
            refine W_v rfl rfl (V_ext (v := .agg #[v_158]) rfl (et rfl) rfl) ?_
            refine W_v rfl rfl (V_ext (v := .int .i64 ((jnE c d))) rfl (es rfl (et rfl)) rfl) ?_
            refine W_allocS (z := .agg #[.slice none 0 0]) (zs := #[.slice none 0 0]) hS158 rfl rfl rfl (by kernel_rfl) (by rfl) (fun g159 w159 c159 hc159 hS159 => ?_)
            replace hS159 : St w NoX [c159, c_158, c52, c_50, c47, c_45, c3_33, c2_33] w159 := hS159
            refine W_stAS 0 hS159 rfl hc159 rfl rfl rfl (et rfl) (es rfl (es rfl (et rfl))) (by simp only [List.all_toArray, List.all_cons, List.all_nil, SlN_one (ow_at (hS159.chq 1 rfl hc_158))] <;> rfl) (by rfl) (by kernel_rfl) (fun w160 c160 hc160 hS160 => ?_)
            replace hS160 : St w NoX [c160, c_158, c52, c_50, c47, c_45, c3_33, c2_33] w160 := hS160
            refine W_v rfl rfl (V_asg rfl (es rfl (et rfl))) ?_
            refine W_end ?_
            refine gen_Q (fun A161 hA161 => ?_)
            have hsz161 : SzN A161 241 := by rw [hA161]; infer_instance
            have hdf161 : A161.defers = [] := by rw [hA161]; simp only [df_put]; exact hdf60
            have l3_161 := lookE hA161 3 (es rfl (es rfl (es rfl (es rfl (es rfl (es rfl (es rfl (es rfl l3_60))))))))
            have l4_161 := lookE hA161 4 (es rfl (es rfl (es rfl (es rfl (es rfl (es rfl (es rfl (es rfl l4_60))))))))
            have l10_161 := lookE hA161 10 (et rfl)
            have l17_161 := lookE hA161 17 (es rfl (et rfl))
            clear hA161 hsz60 hdf60 l3_60 l4_60 l9_60 l11_60 l81_60
            have hS162 : St w NoX [c160, c_158, c3_33, c2_33] w160 := hS160.sel [0, 1, 6, 7] (by decide) rfl
            refine then_n (hK157 _ _ ?_)
            clear hK157
            refine wp_seq_k (fun K163 hK163 => ?_)
            -- region 18
            refine region_in ?_
            refine W_r rfl rfl (VR_ldA rfl l4_161 (hS162.obj 2 rfl hc3_33) Try.underlying24 rfl (by kernel_rfl)) ?_
            refine W_r rfl rfl (VR_ldA rfl (es rfl l3_161) (hS162.obj 3 rfl hc2_33) Try.underlying24 rfl (by kernel_rfl)) ?_
            refine W_call rfl rfl rfl Try.func22 (by kernel_rfl) rfl (args2 (es rfl (et rfl)) (et rfl)) (kJoin_c (hS162.roC h_dv) (hS162.roC h_cv) ) ?_
            rintro _ w164 ⟨v_164, rfl, hP164⟩
            refine ⟨_, rfl, ?_⟩
            obtain ⟨c_164, hc_164, hP164⟩ := gen1 hP164
            have hS164 := hS162.join hP164
            replace hS164 : St w NoX [c_164, c160, c_158, c3_33, c2_33] w164 := hS164
            refine W_v rfl rfl (V_mov rfl (et rfl)) ?_
            refine W_v rfl rfl (V_ext (v := .agg #[v_164]) rfl (et rfl) rfl) ?_
            refine W_v rfl rfl (V_ext (v := .int .i64 ((jnE d c))) rfl (es rfl (et rfl)) rfl) ?_
            refine W_allocS (z := .agg #[.slice none 0 0]) (zs := #[.slice none 0 0]) hS164 rfl rfl rfl (by kernel_rfl) (by rfl) (fun g165 w165 c165 hc165 hS165 => ?_)
            replace hS165 : St w NoX [c165, c_164, c160, c_158, c3_33, c2_33] w165 := hS165
            refine W_stAS 0 hS165 rfl hc165 rfl rfl rfl (et rfl) (es rfl (es rfl (et rfl))) (by simp only [List.all_toArray, List.all_cons, List.all_nil, SlN_one (ow_at (hS165.chq 1 rfl hc_164))] <;> rfl) (by rfl) (by kernel_rfl) (fun w166 c166 hc166 hS166 => ?_)
            replace hS166 : St w NoX [c166, c_164, c160, c_158, c3_33, c2_33] w166 := hS166
            refine W_v rfl rfl (V_asg rfl (es rfl (et rfl))) ?_
            refine W_end ?_
            refine gen_Q (fun A167 hA167 => ?_)
            have hsz167 : SzN A167 241 := by rw [hA167]; infer_instance
            have hdf167 : A167.defers = [] := by rw [hA167]; simp only [df_put]; exact hdf161
            have l3_167 := lookE hA167 3 (es rfl (es rfl (es rfl (es rfl (es rfl (es rfl (es rfl (es rfl l3_161))))))))
            have l4_167 := lookE hA167 4 (es rfl (es rfl (es rfl (es rfl (es rfl (es rfl (es rfl (es rfl l4_161))))))))
            have l10_167 := lookE hA167 10 (es rfl (es rfl (es rfl (es rfl (es rfl (es rfl (es rfl (es rfl l10_161))))))))
            have l12_167 := lookE hA167 12 (et rfl)
            have l17_167 := lookE hA167 17 (es rfl (es rfl (es rfl (es rfl (es rfl (es rfl (es rfl (es rfl l17_161))))))))
            have l18_167 := lookE hA167 18 (es rfl (et rfl))
            clear hA167 hsz161 hdf161 l3_161 l4_161 l10_161 l17_161
            refine then_n (hK163 _ _ ?_)
            clear hK163
            refine wp_seq_k (fun K168 hK168 => ?_)
            refine wp_seq_k (fun K169 hK169 => ?_)
            -- region 19
            refine region_in ?_
            refine W_v rfl rfl (V_mov rfl l10_167) ?_
            refine W_v rfl rfl (V_neq rfl (et rfl) rfl) ?_
            refine W_split rfl rfl (V_mov rfl (et rfl)) (fun c170 => ?_) (fun c170 => ?_)
            · skip
              refine W_off rfl (wanted_f rfl rfl (et rfl) (ez rfl) rfl) ?_
              refine W_off rfl (wanted_f rfl rfl (es rfl (et rfl)) (ez rfl) rfl) ?_
              refine W_v rfl rfl (V_pickT rfl (es rfl (es rfl (et rfl))) rfl) ?_
              refine W_end ?_
              refine gen_Q (fun A171 hA171 => ?_)
              have hsz171 : SzN A171 241 := by rw [hA171]; infer_instance
              have hdf171 : A171.defers = [] := by rw [hA171]; simp only [df_put]; exact hdf167
              have l3_171 := lookE hA171 3 (es rfl (es rfl (es rfl (es rfl (es rfl (es rfl l3_167))))))
              have l4_171 := lookE hA171 4 (es rfl (es rfl (es rfl (es rfl (es rfl (es rfl l4_167))))))
              have l10_171 := lookE hA171 10 (es rfl (es rfl (es rfl (es rfl (es rfl (es rfl l10_167))))))
              have l12_171 := lookE hA171 12 (es rfl (es rfl (es rfl (es rfl (es rfl (es rfl l12_167))))))
              have l17_171 := lookE hA171 17 (es rfl (es rfl (es rfl (es rfl (es rfl (es rfl l17_167))))))
              have l18_171 := lookE hA171 18 (es rfl (es rfl (es rfl (es rfl (es rfl (es rfl l18_167))))))
              have l121_171 := lookE hA171 121 (et rfl)
              clear hA171 hsz167 hdf167 l3_167 l4_167 l10_167 l12_167 l17_167 l18_167
              refine then_n (hK169 _ _ ?_)
              clear hK169
              refine cond_t l121_171 ?_
              refine wp_seq_k (fun K172 hK172 => ?_)
              -- region 20
              refine region_in ?_
              refine W_v rfl rfl (V_mov rfl l10_171) ?_
              refine W_v rfl rfl (V_eql rfl (et rfl) rfl) ?_
              refine W_v rfl rfl (V_mov rfl (es rfl (es rfl l12_171))) ?_
              refine W_v rfl rfl (V_eql rfl (et rfl) rfl) ?_
              refine W_v rfl rfl (V_eqB rfl (es rfl (es rfl (et rfl))) (et rfl) Try.underlying4) ?_
              refine W_sure (c' := true) rfl rfl (V_mov rfl (et rfl)) (by rw [decide_eq_true_eq]; exact decide_eq_decide.2 (jn_sym c d)) ?_
              refine W_call rfl (wanted_t rfl rfl (et rfl) (ez rfl)) rfl Try.func12 (by kernel_rfl) rfl (args0) (awake_c  ) ?_
              rintro _ w173 ⟨rfl, hP173⟩
              refine ⟨_, rfl, ?_⟩
              have hS173 := hS166.join hP173
              replace hS173 : St w NoX [c166, c_164, c160, c_158, c3_33, c2_33] w173 := hS173
              refine W_v rfl rfl (V_pickT rfl (es rfl (et rfl)) (et rfl)) ?_
              refine W_v rfl rfl (V_asg rfl (et rfl)) ?_
              refine W_end ?_
              refine gen_Q (fun A174 hA174 => ?_)
              have hsz174 : SzN A174 241 := by rw [hA174]; infer_instance
              have hdf174 : A174.defers = [] := by rw [hA174]; simp only [df_put]; exact hdf171
              have l6_174 := lookE hA174 6 (et rfl)
              clear hA174 hsz171 hdf171 l3_171 l4_171 l10_171 l12_171 l17_171 l18_171 l121_171
              have hS175 : St w NoX [] w173 := hS173.sel [] (by decide) rfl
              refine then_n (hK172 _ _ ?_)
              clear hK172
              refine wp_ret ?_
              refine then_ret ?_
              refine ret_in (results_1 Try.results10 (rv_tmp l6_174)) hdf174 ?_
              -- leaf FFFFFT
              exact ⟨rfl, hS175.fin0⟩
            · skip
              have hj : jnE c d = 0 := by simpa using c170
              have hjl := lsT_len (jnT c d)
              have hjn := jn_good hj
              have hjd := jn_good ((jn_sym c d).1 hj)
              have hck : (ckS c).2 = 0 := (jn_0.1 hj).1
              have hpt := part_of hck
              have hq1 := adr_usd c
              have hq2 := usd_le c
              have hq3 := List.countP_le_length (p := pgB 1 800) (l := c)
              have hq4 := hpt.1
              have hq5 := hpt.2.1
              refine W_v rfl (wanted_t rfl rfl (et rfl) (ez rfl)) (V_mov rfl (es rfl (es rfl (es rfl l12_167)))) ?_
              refine W_v rfl (wanted_t rfl rfl (es rfl (et rfl)) (ez rfl)) (V_neq rfl (et rfl) rfl) ?_
              refine W_v rfl rfl (V_pickF rfl (es rfl (es rfl (et rfl))) (et rfl)) ?_
              refine W_end ?_
              refine gen_Q (fun A176 hA176 => ?_)
              have hsz176 : SzN A176 241 := by rw [hA176]; infer_instance
              have hdf176 : A176.defers = [] := by rw [hA176]; simp only [df_put]; exact hdf167
              have l3_176 := lookE hA176 3 (es rfl (es rfl (es rfl (es rfl (es rfl (es rfl l3_167))))))
              have l4_176 := lookE hA176 4 (es rfl (es rfl (es rfl (es rfl (es rfl (es rfl l4_167))))))
              have l10_176 := lookE hA176 10 (es rfl (es rfl (es rfl (es rfl (es rfl (es rfl l10_167))))))
              have l12_176 := lookE hA176 12 (es rfl (es rfl (es rfl (es rfl (es rfl (es rfl l12_167))))))
              have l17_176 := lookE hA176 17 (es rfl (es rfl (es rfl (es rfl (es rfl (es rfl l17_167))))))
              have l18_176 := lookE hA176 18 (es rfl (es rfl (es rfl (es rfl (es rfl (es rfl l18_167))))))
              have l121_176 := lookE hA176 121 (et rfl)
              clear hA176 hsz167 hdf167 l3_167 l4_167 l10_167 l12_167 l17_167 l18_167
              refine then_n (hK169 _ _ ?_)
              clear hK169
              refine cond_not l121_176 (by rw [decide_eq_false_iff_not]; rw [(jn_sym c d).1 hj]; simp) ?_
              refine wp_skip ?_
              refine then_n (hK168 _ _ ?_)
              clear hK168
              refine wp_seq_k (fun K177 hK177 => ?_)
              -- region 21
              refine region_in ?_
              refine W_r rfl rfl (VR_ldA rfl l17_176 (hS166.obj 2 rfl hc160) Try.underlying24 rfl (by kernel_rfl)) ?_
              refine W_call rfl rfl rfl Try.func32 (by kernel_rfl) rfl (args1 (et rfl)) (kList_c (hS166.chC 3 rfl hc_158).own ) ?_
              rintro _ w178 ⟨v_178, rfl, hP178⟩
              refine ⟨_, rfl, ?_⟩
              obtain ⟨c_178, hc_178, hP178⟩ := gen1 hP178
              have hS178 := hS166.join hP178
              replace hS178 : St w NoX [c_178, c166, c_164, c160, c_158, c3_33, c2_33] w178 := hS178
              refine W_v rfl rfl (V_mov rfl (et rfl)) ?_
              refine W_v rfl rfl (V_ext (v := v_178) rfl (et rfl) rfl) ?_
              refine W_v rfl rfl (V_ext (v := .int .i64 ((ckS (jnT c d)).2)) rfl (es rfl (et rfl)) rfl) ?_
              refine W_v rfl rfl (V_asg rfl (es rfl (et rfl))) ?_
              refine W_v rfl rfl (V_asg rfl (es rfl (et rfl))) ?_
              refine W_end ?_
              refine gen_Q (fun A179 hA179 => ?_)
              have hsz179 : SzN A179 241 := by rw [hA179]; infer_instance
              have hdf179 : A179.defers = [] := by rw [hA179]; simp only [df_put]; exact hdf176
              have l3_179 := lookE hA179 3 (es rfl (es rfl (es rfl (es rfl (es rfl (es rfl (es rfl l3_176)))))))
              have l4_179 := lookE hA179 4 (es rfl (es rfl (es rfl (es rfl (es rfl (es rfl (es rfl l4_176)))))))
              have l18_179 := lookE hA179 18 (es rfl (es rfl (es rfl (es rfl (es rfl (es rfl (es rfl l18_176)))))))
              have l19_179 := lookE hA179 19 (es rfl (et rfl))
              have l20_179 := lookE hA179 20 (et rfl)
              clear hA179 hsz176 hdf176 l3_176 l4_176 l10_176 l12_176 l17_176 l18_176 l121_176
              have hS180 : St w NoX [c_178, c166, c_164, c3_33, c2_33] w178 := hS178.sel [0, 1, 2, 5, 6] (by decide) rfl
              refine then_n (hK177 _ _ ?_)
              clear hK177
              refine wp_seq_k (fun K181 hK181 => ?_)
              -- region 22
              refine region_in ?_
              refine W_r rfl rfl (VR_ldA rfl l18_179 (hS180.obj 1 rfl hc166) Try.underlying24 rfl (by kernel_rfl)) ?_
              refine W_call rfl rfl rfl Try.func32 (by kernel_rfl) rfl (args1 (et rfl)) (kList_c (hS180.chC 2 rfl hc_164).own ) ?_
              rintro _ w182 ⟨v_182, rfl, hP182⟩
              refine ⟨_, rfl, ?_⟩
              obtain ⟨c_182, hc_182, hP182⟩ := gen1 hP182
              have hS182 := hS180.join hP182
              replace hS182 : St w NoX [c_182, c_178, c166, c_164, c3_33, c2_33] w182 := hS182
              refine W_v rfl rfl (V_mov rfl (et rfl)) ?_
              refine W_v rfl rfl (V_ext (v := v_182) rfl (et rfl) rfl) ?_
              refine W_v rfl rfl (V_ext (v := .int .i64 ((ckS (jnT d c)).2)) rfl (es rfl (et rfl)) rfl) ?_
              refine W_v rfl rfl (V_asg rfl (es rfl (et rfl))) ?_
              refine W_v rfl rfl (V_asg rfl (es rfl (et rfl))) ?_
              refine W_end ?_
              refine gen_Q (fun A183 hA183 => ?_)
              have hsz183 : SzN A183 241 := by rw [hA183]; infer_instance
              have hdf183 : A183.defers = [] := by rw [hA183]; simp only [df_put]; exact hdf179
              have l3_183 := lookE hA183 3 (es rfl (es rfl (es rfl (es rfl (es rfl (es rfl (es rfl l3_179)))))))
              have l4_183 := lookE hA183 4 (es rfl (es rfl (es rfl (es rfl (es rfl (es rfl (es rfl l4_179)))))))
              have l19_183 := lookE hA183 19 (es rfl (es rfl (es rfl (es rfl (es rfl (es rfl (es rfl l19_179)))))))
              have l20_183 := lookE hA183 20 (es rfl (es rfl (es rfl (es rfl (es rfl (es rfl (es rfl l20_179)))))))
              have l21_183 := lookE hA183 21 (es rfl (et rfl))
              have l22_183 := lookE hA183 22 (et rfl)
              clear hA183 hsz179 hdf179 l3_179 l4_179 l18_179 l19_179 l20_179
              have hS184 : St w NoX [c_182, c_178, c3_33, c2_33] w182 := hS182.sel [0, 1, 4, 5] (by decide) rfl
              refine then_n (hK181 _ _ ?_)
              clear hK181
              refine wp_seq_k (fun K185 hK185 => ?_)
              refine wp_seq_k (fun K186 hK186 => ?_)
              -- region 23
              refine region_in ?_
              refine W_v rfl rfl (V_mov rfl l20_183) ?_
              refine W_v rfl rfl (V_neq rfl (et rfl) rfl) ?_
              refine W_sure (c' := false) rfl rfl (V_mov rfl (et rfl)) (by rw [decide_eq_false_iff_not]; rw [hjn.2.2.2.2.1]; simp) ?_
              refine W_v rfl (wanted_t rfl rfl (et rfl) (ez rfl)) (V_mov rfl (es rfl (es rfl (es rfl l22_183)))) ?_
              refine W_v rfl (wanted_t rfl rfl (es rfl (et rfl)) (ez rfl)) (V_neq rfl (et rfl) rfl) ?_
              refine W_v rfl rfl (V_pickF rfl (es rfl (es rfl (et rfl))) (et rfl)) ?_
              refine W_sure (c' := false) rfl rfl (V_mov rfl (et rfl)) (by rw [decide_eq_false_iff_not]; rw [hjd.2.2.2.2.1]; simp) ?_
              refine W_v rfl (wanted_t rfl rfl (et rfl) (ez rfl)) (V_mov rfl (es rfl (es rfl (es rfl (es rfl (es rfl (es rfl (es rfl l19_183)))))))) ?_
              refine W_v rfl (wanted_t rfl rfl (es rfl (et rfl)) (ez rfl)) (V_mov rfl (es rfl (es rfl (es rfl (es rfl (es rfl (es rfl (es rfl (es rfl l21_183))))))))) ?_
              refine W_call rfl (wanted_t rfl rfl (es rfl (es rfl (et rfl))) (ez rfl)) rfl Try.func36 (by kernel_rfl) rfl (args2 (es rfl (et rfl)) (et rfl)) (qInts_c (hS184.chC 1 rfl hc_178).own (hS184.chC 0 rfl hc_182).own ) ?_
              rintro _ w187 ⟨rfl, hP187⟩
              refine ⟨_, rfl, ?_⟩
              have hS187 := hS184.join hP187
              replace hS187 : St w NoX [c_182, c_178, c3_33, c2_33] w187 := hS187
              refine W_v rfl (wanted_t rfl rfl (es rfl (es rfl (es rfl (et rfl)))) (ez rfl)) (V_notd rfl (et rfl)) ?_
              refine W_v rfl rfl (V_pickF rfl (es rfl (es rfl (es rfl (es rfl (et rfl))))) (et rfl)) ?_
              refine W_end ?_
              refine gen_Q (fun A188 hA188 => ?_)
              have hsz188 : SzN A188 241 := by rw [hA188]; infer_instance
              have hdf188 : A188.defers = [] := by rw [hA188]; simp only [df_put]; exact hdf183
              have l3_188 := lookE hA188 3 (es rfl (es rfl (es rfl (es rfl (es rfl (es rfl (es rfl (es rfl (es rfl (es rfl (es rfl (es rfl l3_183))))))))))))
              have l4_188 := lookE hA188 4 (es rfl (es rfl (es rfl (es rfl (es rfl (es rfl (es rfl (es rfl (es rfl (es rfl (es rfl (es rfl l4_183))))))))))))
              have l19_188 := lookE hA188 19 (es rfl (es rfl (es rfl (es rfl (es rfl (es rfl (es rfl (es rfl (es rfl (es rfl (es rfl (es rfl l19_183))))))))))))
              have l151_188 := lookE hA188 151 (et rfl)
              clear hA188 hsz183 hdf183 l3_183 l4_183 l19_183 l20_183 l21_183 l22_183
              have hS189 : St w NoX [c_178, c3_33, c2_33] w187 := hS187.sel [1, 2, 3] (by decide) rfl
              refine then_n (hK186 _ _ ?_)
              clear hK186
              refine cond_not l151_188 (by rw [decide_eq_false_iff_not]; exact fun h => h (jn_lists hj)) ?_
              refine wp_skip ?_
              refine then_n (hK185 _ _ ?_)
              clear hK185
              refine wp_seq_k (fun K190 hK190 => ?_)
              refine wp_seq_k (fun K191 hK191 => ?_)
              -- region 25
              refine region_in ?_
              refine W_v rfl rfl (V_asg rfl rfl) ?_
              refine W_end ?_
              refine gen_Q (fun A192 hA192 => ?_)
              have hsz192 : SzN A192 241 := by rw [hA192]; infer_instance
              have hdf192 : A192.defers = [] := by rw [hA192]; simp only [df_put]; exact hdf188
              have l3_192 := lookE hA192 3 (es rfl l3_188)
              have l4_192 := lookE hA192 4 (es rfl l4_188)
              have l19_192 := lookE hA192 19 (es rfl l19_188)
              have l23_192 := lookE hA192 23 (et rfl)
              clear hA192 hsz188 hdf188 l3_188 l4_188 l19_188 l151_188
              refine then_n (hK191 _ _ ?_)
              clear hK191
              refine wp_block ?_
              -- loop 26
              refine loopX (fun mz A' w' => SzN A' 241 ∧ A'.defers = [] ∧ (∃ (k : Nat), (mz = (lsT (jnT c d)).length - k) ∧ (k ≤ (lsT (jnT c d)).length) ∧ (EV A' (.tmp 23) = .int .i64 (k : Int)) ∧ (EV A' (.tmp 3) = EV A192 (.tmp 3)) ∧ (EV A' (.tmp 4) = EV A192 (.tmp 4)) ∧ (EV A' (.tmp 19) = EV A192 (.tmp 19)) ∧ (St w NoX [io .i64 v_178 (lsT (jnT c d)), bx g3 24 #[dv], bx g2 24 #[cv]] w'))) ((lsT (jnT c d)).length - 0) ⟨hsz192, hdf192, 0, rfl, (by omega), ((l23_192).trans (by first | rfl | (simp; done) | (congr 1; omega))), rfl, rfl, rfl, (by subst hc_178 hc3_33 hc2_33; exact hS189)⟩ ?_
              clear hS189 hc_178 hc3_33 hc2_33
              rintro n193 A193 w193 ⟨hsz193, hdf193, k, hm193, hk, l23_193, u3_193, u4_193, u19_193, hS193⟩
              have l3_193 := u3_193.trans l3_192
              have l4_193 := u4_193.trans l4_192
              have l19_193 := u19_193.trans l19_192
              obtain ⟨c_193, c3_193, c2_193, hc_193, hc3_193, hc2_193, hS193⟩ := gen3 hS193
              refine wp_seq_k (fun K194 hK194 => ?_)
              refine wp_seq_k (fun K195 hK195 => ?_)
              -- region 26
              refine region_in ?_
              refine W_v rfl rfl (V_mov rfl l23_193) ?_
              refine W_v rfl rfl (V_mov rfl (es rfl l19_193)) ?_
              refine W_v rfl rfl (V_lenS rfl (et rfl) (ow_at (hS193.chq 0 rfl hc_193)) Try.underlying22) ?_
              refine W_v rfl rfl (V_lss rfl (es rfl (es rfl (et rfl))) (et rfl)) ?_
              refine W_end ?_
              refine gen_Q (fun A196 hA196 => ?_)
              have hsz196 : SzN A196 241 := by rw [hA196]; infer_instance
              have hdf196 : A196.defers = [] := by rw [hA196]; simp only [df_put]; exact hdf193
              have l3_196 := lookE hA196 3 (es rfl (es rfl (es rfl (es rfl l3_193))))
              have l4_196 := lookE hA196 4 (es rfl (es rfl (es rfl (es rfl l4_193))))
              have l19_196 := lookE hA196 19 (es rfl (es rfl (es rfl (es rfl l19_193))))
              have l23_196 := lookE hA196 23 (es rfl (es rfl (es rfl (es rfl l23_193))))
              have l155_196 := lookE hA196 155 (et rfl)
              clear hA196 hsz193 hdf193 l23_193 l3_193 l4_193 l19_193
              refine then_n (hK195 _ _ ?_)
              clear hK195
              refine cond_dec l155_196 (fun c197 => ?_) (fun c197 => ?_)
              · skip
                refine wp_skip ?_
                refine then_n (hK194 _ _ ?_)
                clear hK194
                refine wp_seq_k (fun K198 hK198 => ?_)
                refine wp_block ?_
                refine wp_seq_k (fun K199 hK199 => ?_)
                -- region 28
                have k200 : k < (lsT (jnT c d)).length := by first | omega | (simp only [List.length_cons, List.length_nil]; omega)
                obtain ⟨y200, hy200⟩ := get_some (xs := (lsT (jnT c d))) (k := k) k200
                refine region_monoS 11 11 [none, none, none, none, none, some (SPc (fun u l' => u = .tuple #[.bool (hsB c y200), .int .i64 (chE c y200)] ∧ l' = []) 5)] (by kernel_rfl) (by kernel_rfl) ?_
                refine D_r rfl rfl (by kernel_rfl) (fun sx hx hF => (VR_ldA rfl l3_196 ((hS193.grow hx).obj 2 rfl hc2_193) Try.underlying24 rfl (by kernel_rfl))) rfl rfl ?_
                refine D_v rfl rfl (V_mov rfl (es rfl l19_196)) rfl rfl ?_
                refine D_v rfl rfl (V_mov rfl (es rfl (es rfl l23_196))) rfl rfl ?_
                obtain ⟨B200, O200, C200, hv200⟩ := (SlN.blk (ow_at (hS193.chq 0 rfl hc_193)) (by first | omega | (simp only [List.length_cons, List.length_nil]; omega)))
                refine D_v rfl rfl (V_ixS (off := O200 + k) 1 (k) rfl (es rfl (et rfl)) (et rfl) hv200 (by omega) k200 Try.underlying22 (by kernel_rfl) (congrArg _ (Nat.mul_one _))) rfl rfl ?_
                refine D_r rfl rfl (by kernel_rfl) (fun sx hx hF => (VR_ldC rfl (et rfl) ((ow_at ((hS193.grow hx).chq 0 rfl hc_193)).cell hv200 (map_get hy200)) Try.underlying3 rfl)) rfl rfl ?_
                refine D_call (C := fun u l' => u = .tuple #[.bool (hsB c y200), .int .i64 (chE c y200)] ∧ l' = []) rfl rfl rfl Try.func13 (by kernel_rfl) rfl (args2 (es rfl (es rfl (es rfl (es rfl (et rfl))))) (et rfl)) rfl rfl (fun sx hx hF => ?_) (fun u201 l201 hu201 => ?_)
                · refine (kHas_c (a := y200) ((hS193.grow hx).roC h_cv) ).mono ?_
                  rintro _ _ ⟨rfl, hz⟩
                  exact ⟨_, rfl, _, ⟨rfl, rfl⟩, hz⟩
                obtain ⟨rfl, hl201⟩ := hu201
                refine D_v rfl rfl (V_mov rfl (et rfl)) rfl rfl ?_
                refine D_v rfl rfl (V_ext (v := .bool ((hsB c y200))) rfl (et rfl) rfl) rfl rfl ?_
                refine D_v rfl rfl (V_ext (v := .int .i64 ((chE c y200))) rfl (es rfl (et rfl)) rfl) rfl rfl ?_
                refine D_v rfl rfl (V_asg rfl (es rfl (et rfl))) rfl rfl ?_
                refine D_v rfl rfl (V_asg rfl (es rfl (et rfl))) rfl rfl ?_
                refine ZS_none hS193 (Nat.le_refl _) (Nat.le_refl _) (fun s202 hJ202 hL202 hF202 => ?_)
                obtain ⟨ll201, ws201, we201, ⟨hq201, hl201r⟩, hm201, k201, e201⟩ := L.all_get hF202; cases hq201; subst hl201r
                replace hJ202 := hJ202.add hL202 (i := 5) rfl hm201 k201 e201
                have hS202 := hJ202.st; clear hF202 hJ202 hL202
                generalize s202.1 = w202 at *
                replace hS202 : St w NoX [c_193, c3_193, c2_193] w202 := hS202
                refine gen_Q (fun A203 hA203 => ?_)
                have hsz203 : SzN A203 241 := by rw [hA203]; infer_instance
                have hdf203 : A203.defers = [] := by rw [hA203]; simp only [df_put]; exact hdf196
                have l3_203 := lookE hA203 3 (es rfl (es rfl (es rfl (es rfl (es rfl (es rfl (es rfl (es rfl (es rfl (es rfl (es rfl l3_196)))))))))))
                have l4_203 := lookE hA203 4 (es rfl (es rfl (es rfl (es rfl (es rfl (es rfl (es rfl (es rfl (es rfl (es rfl (es rfl l4_196)))))))))))
                have l19_203 := lookE hA203 19 (es rfl (es rfl (es rfl (es rfl (es rfl (es rfl (es rfl (es rfl (es rfl (es rfl (es rfl l19_196)))))))))))
                have l23_203 := lookE hA203 23 (es rfl (es rfl (es rfl (es rfl (es rfl (es rfl (es rfl (es rfl (es rfl (es rfl (es rfl l23_196)))))))))))
                have l24_203 := lookE hA203 24 (es rfl (et rfl))
                clear hA203 hsz196 hdf196 l3_196 l4_196 l19_196 l23_196 l155_196
                refine then_n (hK199 _ _ ?_)
                clear hK199
                refine wp_seq_k (fun K204 hK204 => ?_)
                -- region 29
                refine region_monoS 11 11 [none, none, none, none, none, some (SPc (fun u l' => u = .tuple #[.bool (hsB d y200), .int .i64 (chE d y200)] ∧ l' = []) 5)] (by kernel_rfl) (by kernel_rfl) ?_
                refine D_r rfl rfl (by kernel_rfl) (fun sx hx hF => (VR_ldA rfl l4_203 ((hS202.grow hx).obj 1 rfl hc3_193) Try.underlying24 rfl (by kernel_rfl))) rfl rfl ?_
                refine D_v rfl rfl (V_mov rfl (es rfl l19_203)) rfl rfl ?_
                refine D_v rfl rfl (V_mov rfl (es rfl (es rfl l23_203))) rfl rfl ?_
                refine D_v rfl rfl (V_ixS (off := O200 + k) 1 (k) rfl (es rfl (et rfl)) (et rfl) hv200 (by omega) k200 Try.underlying22 (by kernel_rfl) (congrArg _ (Nat.mul_one _))) rfl rfl ?_
                refine D_r rfl rfl (by kernel_rfl) (fun sx hx hF => (VR_ldC rfl (et rfl) ((ow_at ((hS202.grow hx).chq 0 rfl hc_193)).cell hv200 (map_get hy200)) Try.underlying3 rfl)) rfl rfl ?_
                refine D_call (C := fun u l' => u = .tuple #[.bool (hsB d y200), .int .i64 (chE d y200)] ∧ l' = []) rfl rfl rfl Try.func13 (by kernel_rfl) rfl (args2 (es rfl (es rfl (es rfl (es rfl (et rfl))))) (et rfl)) rfl rfl (fun sx hx hF => ?_) (fun u206 l206 hu206 => ?_)
                · refine (kHas_c (a := y200) ((hS202.grow hx).roC h_dv) ).mono ?_
                  rintro _ _ ⟨rfl, hz⟩
                  exact ⟨_, rfl, _, ⟨rfl, rfl⟩, hz⟩
                obtain ⟨rfl, hl206⟩ := hu206
                refine D_v rfl rfl (V_mov rfl (et rfl)) rfl rfl ?_
                refine D_v rfl rfl (V_ext (v := .bool ((hsB d y200))) rfl (et rfl) rfl) rfl rfl ?_
                refine D_v rfl rfl (V_ext (v := .int .i64 ((chE d y200))) rfl (es rfl (et rfl)) rfl) rfl rfl ?_
                refine D_v rfl rfl (V_asg rfl (es rfl (et rfl))) rfl rfl ?_
                refine D_v rfl rfl (V_asg rfl (es rfl (et rfl))) rfl rfl ?_
                refine ZS_none hS202 (Nat.le_refl _) (Nat.le_refl _) (fun s207 hJ207 hL207 hF207 => ?_)
                obtain ⟨ll206, ws206, we206, ⟨hq206, hl206r⟩, hm206, k206, e206⟩ := L.all_get hF207; cases hq206; subst hl206r
                replace hJ207 := hJ207.add hL207 (i := 5) rfl hm206 k206 e206
                have hS207 := hJ207.st; clear hF207 hJ207 hL207
                generalize s207.1 = w207 at *
                replace hS207 : St w NoX [c_193, c3_193, c2_193] w207 := hS207
                refine gen_Q (fun A208 hA208 => ?_)
                have hsz208 : SzN A208 241 := by rw [hA208]; infer_instance
                have hdf208 : A208.defers = [] := by rw [hA208]; simp only [df_put]; exact hdf203
                have l3_208 := lookE hA208 3 (es rfl (es rfl (es rfl (es rfl (es rfl (es rfl (es rfl (es rfl (es rfl (es rfl (es rfl l3_203)))))))))))
                have l4_208 := lookE hA208 4 (es rfl (es rfl (es rfl (es rfl (es rfl (es rfl (es rfl (es rfl (es rfl (es rfl (es rfl l4_203)))))))))))
                have l19_208 := lookE hA208 19 (es rfl (es rfl (es rfl (es rfl (es rfl (es rfl (es rfl (es rfl (es rfl (es rfl (es rfl l19_203)))))))))))
                have l23_208 := lookE hA208 23 (es rfl (es rfl (es rfl (es rfl (es rfl (es rfl (es rfl (es rfl (es rfl (es rfl (es rfl l23_203)))))))))))
                have l24_208 := lookE hA208 24 (es rfl (es rfl (es rfl (es rfl (es rfl (es rfl (es rfl (es rfl (es rfl (es rfl (es rfl l24_203)))))))))))
                have l26_208 := lookE hA208 26 (es rfl (et rfl))
                clear hA208 hsz203 hdf203 l3_203 l4_203 l19_203 l23_203 l24_203
                refine then_n (hK204 _ _ ?_)
                clear hK204
                refine wp_seq_k (fun K209 hK209 => ?_)
                -- region 30
                refine region_in ?_
                refine W_v rfl rfl (V_mov rfl l24_208) ?_
                refine W_v rfl rfl (V_not rfl (et rfl)) ?_
                refine W_splitB rfl rfl (V_mov rfl (et rfl)) (fun c210 => ?_) (fun c210 => ?_)
                · skip
                  refine W_v rfl (wanted_t rfl rfl (et rfl) (ez rfl)) (V_mov rfl (es rfl (es rfl (es rfl l26_208)))) ?_
                  refine W_v rfl (wanted_t rfl rfl (es rfl (et rfl)) (ez rfl)) (V_not rfl (et rfl)) ?_
                  refine W_v rfl rfl (V_pickT rfl (es rfl (es rfl (et rfl))) (et rfl)) ?_
                  refine W_end ?_
                  refine gen_Q (fun A211 hA211 => ?_)
                  have hsz211 : SzN A211 241 := by rw [hA211]; infer_instance
                  have hdf211 : A211.defers = [] := by rw [hA211]; simp only [df_put]; exact hdf208
                  have l3_211 := lookE hA211 3 (es rfl (es rfl (es rfl (es rfl (es rfl (es rfl l3_208))))))
                  have l4_211 := lookE hA211 4 (es rfl (es rfl (es rfl (es rfl (es rfl (es rfl l4_208))))))
                  have l19_211 := lookE hA211 19 (es rfl (es rfl (es rfl (es rfl (es rfl (es rfl l19_208))))))
                  have l23_211 := lookE hA211 23 (es rfl (es rfl (es rfl (es rfl (es rfl (es rfl l23_208))))))
                  have l179_211 := lookE hA211 179 (es rfl (es rfl (et rfl)))
                  have l180_211 := lookE hA211 180 (es rfl (et rfl))
                  have l181_211 := lookE hA211 181 (et rfl)
                  clear hA211 hsz208 hdf208 l3_208 l4_208 l19_208 l23_208 l24_208 l26_208
                  refine then_n (hK209 _ _ ?_)
                  clear hK209
                  refine cond_not l181_211 (by rw [(jn_in hj hy200).2 (by simpa using c210)]; rfl) ?_
                  refine wp_skip ?_
                  refine inb_n ?_
                  refine then_n (hK198 _ _ ?_)
                  clear hK198
                  -- region 27
                  refine region_in ?_
                  refine W_v rfl rfl (V_mov rfl l23_211) ?_
                  refine W_v rfl rfl (V_add rfl (et rfl) rfl (by omega) (by omega)) ?_
                  refine W_v rfl rfl (V_asg rfl (et rfl)) ?_
                  refine W_end ?_
                  refine gen_Q (fun A212 hA212 => ?_)
                  have hsz212 : SzN A212 241 := by rw [hA212]; infer_instance
                  have hdf212 : A212.defers = [] := by rw [hA212]; simp only [df_put]; exact hdf211
                  have l3_212 := lookE hA212 3 (es rfl (es rfl (es rfl l3_211)))
                  have l4_212 := lookE hA212 4 (es rfl (es rfl (es rfl l4_211)))
                  have l19_212 := lookE hA212 19 (es rfl (es rfl (es rfl l19_211)))
                  have l23_212 := lookE hA212 23 (et rfl)
                  have l179_212 := lookE hA212 179 (es rfl (es rfl (es rfl l179_211)))
                  have l180_212 := lookE hA212 180 (es rfl (es rfl (es rfl l180_211)))
                  clear hA212 hsz211 hdf211 l3_211 l4_211 l19_211 l23_211 l179_211 l180_211 l181_211
                  refine then_n ⟨(lsT (jnT c d)).length - (k + 1), by simp only [hm193]; omega, hsz212, hdf212, (k + 1), rfl, (by omega), ((l23_212).trans (by first | rfl | (simp; done) | (congr 1; omega))), ((l3_212).trans l3_192.symm), ((l4_212).trans l4_192.symm), ((l19_212).trans l19_192.symm), (by subst hc_193 hc3_193 hc2_193; exact hS207)⟩
                · skip
                  refine W_off rfl (wanted_f rfl rfl (et rfl) (ez rfl) rfl) ?_
                  refine W_off rfl (wanted_f rfl rfl (es rfl (et rfl)) (ez rfl) rfl) ?_
                  refine W_v rfl rfl (V_pickF rfl (es rfl (es rfl (et rfl))) rfl) ?_
                  refine W_end ?_
                  refine gen_Q (fun A213 hA213 => ?_)
                  have hsz213 : SzN A213 241 := by rw [hA213]; infer_instance
                  have hdf213 : A213.defers = [] := by rw [hA213]; simp only [df_put]; exact hdf208
                  have l3_213 := lookE hA213 3 (es rfl (es rfl (es rfl (es rfl (es rfl (es rfl l3_208))))))
                  have l4_213 := lookE hA213 4 (es rfl (es rfl (es rfl (es rfl (es rfl (es rfl l4_208))))))
                  have l19_213 := lookE hA213 19 (es rfl (es rfl (es rfl (es rfl (es rfl (es rfl l19_208))))))
                  have l23_213 := lookE hA213 23 (es rfl (es rfl (es rfl (es rfl (es rfl (es rfl l23_208))))))
                  have l179_213 := lookE hA213 179 (es rfl (es rfl (et rfl)))
                  have l180_213 := lookE hA213 180 (es rfl (et rfl))
                  have l181_213 := lookE hA213 181 (et rfl)
                  clear hA213 hsz208 hdf208 l3_208 l4_208 l19_208 l23_208 l24_208 l26_208
                  refine then_n (hK209 _ _ ?_)
                  clear hK209
                  refine cond_f l181_213 ?_
                  refine wp_skip ?_
                  refine inb_n ?_
                  refine then_n (hK198 _ _ ?_)
                  clear hK198
                  -- region 27
                  refine region_in ?_
                  refine W_v rfl rfl (V_mov rfl l23_213) ?_
                  refine W_v rfl rfl (V_add rfl (et rfl) rfl (by omega) (by omega)) ?_
                  refine W_v rfl rfl (V_asg rfl (et rfl)) ?_
                  refine W_end ?_
                  refine gen_Q (fun A214 hA214 => ?_)
                  have hsz214 : SzN A214 241 := by rw [hA214]; infer_instance
                  have hdf214 : A214.defers = [] := by rw [hA214]; simp only [df_put]; exact hdf213
                  have l3_214 := lookE hA214 3 (es rfl (es rfl (es rfl l3_213)))
                  have l4_214 := lookE hA214 4 (es rfl (es rfl (es rfl l4_213)))
                  have l19_214 := lookE hA214 19 (es rfl (es rfl (es rfl l19_213)))
                  have l23_214 := lookE hA214 23 (et rfl)
                  have l179_214 := lookE hA214 179 (es rfl (es rfl (es rfl l179_213)))
                  have l180_214 := lookE hA214 180 (es rfl (es rfl (es rfl l180_213)))
                  clear hA214 hsz213 hdf213 l3_213 l4_213 l19_213 l23_213 l179_213 l180_213 l181_213
                  refine then_n ⟨(lsT (jnT c d)).length - (k + 1), by simp only [hm193]; omega, hsz214, hdf214, (k + 1), rfl, (by omega), ((l23_214).trans (by first | rfl | (simp; done) | (congr 1; omega))), ((l3_214).trans l3_192.symm), ((l4_214).trans l4_192.symm), ((l19_214).trans l19_192.symm), (by subst hc_193 hc3_193 hc2_193; exact hS207)⟩
              · skip
                refine wp_exit ?_
                refine then_exit ?_
                refine then_exit ?_
                refine inb_hit ?_
                refine then_n (hK190 _ _ ?_)
                clear hK190
                refine wp_seq_k (fun K215 hK215 => ?_)
                -- region 32
                refine region_in ?_
                refine W_r rfl rfl (VR_ldA rfl l3_196 (hS193.obj 2 rfl hc2_193) Try.underlying24 rfl (by kernel_rfl)) ?_
                refine W_call rfl rfl rfl Try.func28 (by kernel_rfl) rfl (args1 (et rfl)) (kLen_c (hS193.roC h_cv) ) ?_
                rintro _ w216 ⟨rfl, hP216⟩
                refine ⟨_, rfl, ?_⟩
                have hS216 := hS193.join hP216
                replace hS216 : St w NoX [c_193, c3_193, c2_193] w216 := hS216
                refine W_v rfl rfl (V_mov rfl (et rfl)) ?_
                refine W_v rfl rfl (V_ext (v := .int .i64 ((lnN c))) rfl (et rfl) rfl) ?_
                refine W_v rfl rfl (V_ext (v := .int .i64 ((ckS c).2)) rfl (es rfl (et rfl)) rfl) ?_
                refine W_v rfl rfl (V_asg rfl (es rfl (et rfl))) ?_
                refine W_v rfl rfl (V_asg rfl (es rfl (et rfl))) ?_
                refine W_end ?_
                refine gen_Q (fun A217 hA217 => ?_)
                have hsz217 : SzN A217 241 := by rw [hA217]; infer_instance
                have hdf217 : A217.defers = [] := by rw [hA217]; simp only [df_put]; exact hdf196
                have l3_217 := lookE hA217 3 (es rfl (es rfl (es rfl (es rfl (es rfl (es rfl (es rfl l3_196)))))))
                have l28_217 := lookE hA217 28 (es rfl (et rfl))
                clear hA217 hsz196 hdf196 l3_196 l4_196 l19_196 l23_196 l155_196
                have hS218 : St w NoX [c2_193] w216 := hS216.sel [2] (by decide) rfl
                refine then_n (hK215 _ _ ?_)
                clear hK215
                refine wp_seq_k (fun K219 hK219 => ?_)
                -- region 33
                refine region_in ?_
                refine W_r rfl rfl (VR_ldA rfl l3_217 (hS218.obj 0 rfl hc2_193) Try.underlying24 rfl (by kernel_rfl)) ?_
                refine W_call rfl rfl rfl Try.func24 (by kernel_rfl) rfl (args3 (et rfl) rfl rfl) (kPurge_c (f := 1) (t := 800) (hS218.roC h_cv) ) ?_
                rintro _ w220 ⟨v_220, rfl, hP220⟩
                refine ⟨_, rfl, ?_⟩
                obtain ⟨c_220, hc_220, hP220⟩ := gen1 hP220
                have hS220 := hS218.join hP220
                replace hS220 : St w NoX [c_220, c2_193] w220 := hS220
                refine W_v rfl rfl (V_mov rfl (et rfl)) ?_
                refine W_v rfl rfl (V_ext (v := .agg #[v_220]) rfl (et rfl) rfl) ?_
                refine W_v rfl rfl (V_ext (v := .int .i64 ((pgN c 1 800))) rfl (es rfl (et rfl)) rfl) ?_
                refine W_v rfl rfl (V_ext (v := .int .i64 ((ckS c).2)) rfl (es rfl (es rfl (et rfl))) rfl) ?_
                refine W_allocS (z := .agg #[.slice none 0 0]) (zs := #[.slice none 0 0]) hS220 rfl rfl rfl (by kernel_rfl) (by rfl) (fun g221 w221 c221 hc221 hS221 => ?_)
                replace hS221 : St w NoX [c221, c_220, c2_193] w221 := hS221
                refine W_stAS 0 hS221 rfl hc221 rfl rfl rfl (et rfl) (es rfl (es rfl (es rfl (et rfl)))) (by simp only [List.all_toArray, List.all_cons, List.all_nil, SlN_one (ow_at (hS221.chq 1 rfl hc_220))] <;> rfl) (by rfl) (by kernel_rfl) (fun w222 c222 hc222 hS222 => ?_)
                replace hS222 : St w NoX [c222, c_220, c2_193] w222 := hS222
                refine W_v rfl rfl (V_asg rfl (es rfl (es rfl (et rfl)))) ?_
                refine W_v rfl rfl (V_asg rfl (es rfl (es rfl (et rfl)))) ?_
                refine W_end ?_
                refine gen_Q (fun A223 hA223 => ?_)
                have hsz223 : SzN A223 241 := by rw [hA223]; infer_instance
                have hdf223 : A223.defers = [] := by rw [hA223]; simp only [df_put]; exact hdf217
                have l3_223 := lookE hA223 3 (es rfl (es rfl (es rfl (es rfl (es rfl (es rfl (es rfl (es rfl (es rfl l3_217)))))))))
                have l20_223 := lookE hA223 20 (et rfl)
                have l28_223 := lookE hA223 28 (es rfl (es rfl (es rfl (es rfl (es rfl (es rfl (es rfl (es rfl (es rfl l28_217)))))))))
                have l30_223 := lookE hA223 30 (es rfl (es rfl (et rfl)))
                have l31_223 := lookE hA223 31 (es rfl (et rfl))
                clear hA223 hsz217 hdf217 l3_217 l28_217
                refine then_n (hK219 _ _ ?_)
                clear hK219
                refine wp_seq_k (fun K224 hK224 => ?_)
                -- region 34
                refine region_in ?_
                refine W_r rfl rfl (VR_ldA rfl l3_223 (hS222.obj 2 rfl hc2_193) Try.underlying24 rfl (by kernel_rfl)) ?_
                refine W_call rfl rfl rfl Try.func34 (by kernel_rfl) rfl (args3 (et rfl) rfl rfl) (kRange_c (f := 1) (t := 800) (hS222.roC h_cv) ) ?_
                rintro _ w225 ⟨v_225, rfl, hP225⟩
                refine ⟨_, rfl, ?_⟩
                obtain ⟨c_225, hc_225, hP225⟩ := gen1 hP225
                have hS225 := hS222.join hP225
                replace hS225 : St w NoX [c_225, c222, c_220, c2_193] w225 := hS225
                refine W_v rfl rfl (V_mov rfl (et rfl)) ?_
                refine W_v rfl rfl (V_ext (v := v_225) rfl (et rfl) rfl) ?_
                refine W_v rfl rfl (V_ext (v := .int .i64 ((ckS c).2)) rfl (es rfl (et rfl)) rfl) ?_
                refine W_v rfl rfl (V_asg rfl (es rfl (et rfl))) ?_
                refine W_v rfl rfl (V_asg rfl (es rfl (et rfl))) ?_
                refine W_end ?_
                refine gen_Q (fun A226 hA226 => ?_)
                have hsz226 : SzN A226 241 := by rw [hA226]; infer_instance
                have hdf226 : A226.defers = [] := by rw [hA226]; simp only [df_put]; exact hdf223
                have l20_226 := lookE hA226 20 (es rfl (es rfl (es rfl (es rfl (es rfl (es rfl (es rfl l20_223)))))))
                have l22_226 := lookE hA226 22 (et rfl)
                have l28_226 := lookE hA226 28 (es rfl (es rfl (es rfl (es rfl (es rfl (es rfl (es rfl l28_223)))))))
                have l30_226 := lookE hA226 30 (es rfl (es rfl (es rfl (es rfl (es rfl (es rfl (es rfl l30_223)))))))
                have l31_226 := lookE hA226 31 (es rfl (es rfl (es rfl (es rfl (es rfl (es rfl (es rfl l31_223)))))))
                have l32_226 := lookE hA226 32 (es rfl (et rfl))
                clear hA226 hsz223 hdf223 l3_223 l20_223 l28_223 l30_223 l31_223
                have hS227 : St w NoX [c_225, c222, c_220] w225 := hS225.sel [0, 1, 2] (by decide) rfl
                refine then_n (hK224 _ _ ?_)
                clear hK224
                refine wp_seq_k (fun K228 hK228 => ?_)
                -- region 35
                refine region_in ?_
                refine W_r rfl rfl (VR_ldA rfl l30_226 (hS227.obj 1 rfl hc222) Try.underlying24 rfl (by kernel_rfl)) ?_
                refine W_call rfl rfl rfl Try.func32 (by kernel_rfl) rfl (args1 (et rfl)) (kList_c (hS227.chC 2 rfl hc_220).own ) ?_
                rintro _ w229 ⟨v_229, rfl, hP229⟩
                refine ⟨_, rfl, ?_⟩
                obtain ⟨c_229, hc_229, hP229⟩ := gen1 hP229
                have hS229 := hS227.join hP229
                replace hS229 : St w NoX [c_229, c_225, c222, c_220] w229 := hS229
                refine W_v rfl rfl (V_mov rfl (et rfl)) ?_
                refine W_v rfl rfl (V_ext (v := v_229) rfl (et rfl) rfl) ?_
                refine W_v rfl rfl (V_ext (v := .int .i64 ((ckS (pgT c 1 800)).2)) rfl (es rfl (et rfl)) rfl) ?_
                refine W_v rfl rfl (V_asg rfl (es rfl (et rfl))) ?_
                refine W_v rfl rfl (V_asg rfl (es rfl (et rfl))) ?_
                refine W_end ?_
                refine gen_Q (fun A230 hA230 => ?_)
                have hsz230 : SzN A230 241 := by rw [hA230]; infer_instance
                have hdf230 : A230.defers = [] := by rw [hA230]; simp only [df_put]; exact hdf226
                have l20_230 := lookE hA230 20 (es rfl (es rfl (es rfl (es rfl (es rfl (es rfl (es rfl l20_226)))))))
                have l22_230 := lookE hA230 22 (es rfl (es rfl (es rfl (es rfl (es rfl (es rfl (es rfl l22_226)))))))
                have l28_230 := lookE hA230 28 (es rfl (es rfl (es rfl (es rfl (es rfl (es rfl (es rfl l28_226)))))))
                have l31_230 := lookE hA230 31 (es rfl (es rfl (es rfl (es rfl (es rfl (es rfl (es rfl l31_226)))))))
                have l32_230 := lookE hA230 32 (es rfl (es rfl (es rfl (es rfl (es rfl (es rfl (es rfl l32_226)))))))
                have l33_230 := lookE hA230 33 (es rfl (et rfl))
                have l34_230 := lookE hA230 34 (et rfl)
                clear hA230 hsz226 hdf226 l20_226 l22_226 l28_226 l30_226 l31_226 l32_226
                have hS231 : St w NoX [c_229, c_225] w229 := hS229.sel [0, 1] (by decide) rfl
                refine then_n (hK228 _ _ ?_)
                clear hK228
                refine wp_seq_k (fun K232 hK232 => ?_)
                -- region 36
                refine region_in ?_
                refine W_v rfl rfl (V_mov rfl l20_230) ?_
                refine W_v rfl rfl (V_eql rfl (et rfl) rfl) ?_
                refine W_sure (c' := true) rfl rfl (V_mov rfl (et rfl)) (by rw [decide_eq_true_eq]; exact hck) ?_
                refine W_v rfl (wanted_t rfl rfl (et rfl) (ez rfl)) (V_mov rfl (es rfl (es rfl (es rfl l22_230)))) ?_
                refine W_v rfl (wanted_t rfl rfl (es rfl (et rfl)) (ez rfl)) (V_eql rfl (et rfl) rfl) ?_
                refine W_v rfl rfl (V_pickT rfl (es rfl (es rfl (et rfl))) (et rfl)) ?_
                refine W_sure (c' := true) rfl rfl (V_mov rfl (et rfl)) (by rw [decide_eq_true_eq]; exact hck) ?_
                refine W_v rfl (wanted_t rfl rfl (et rfl) (ez rfl)) (V_mov rfl (es rfl (es rfl (es rfl (es rfl (es rfl (es rfl (es rfl l34_230)))))))) ?_
                refine W_v rfl (wanted_t rfl rfl (es rfl (et rfl)) (ez rfl)) (V_eql rfl (et rfl) rfl) ?_
                refine W_v rfl rfl (V_pickT rfl (es rfl (es rfl (et rfl))) (et rfl)) ?_
                refine W_sure (c' := true) rfl rfl (V_mov rfl (et rfl)) (by rw [decide_eq_true_eq]; exact hpt.2.2.2.1) ?_
                refine W_v rfl (wanted_t rfl rfl (et rfl) (ez rfl)) (V_mov rfl (es rfl (es rfl (es rfl (es rfl (es rfl (es rfl (es rfl (es rfl (es rfl (es rfl (es rfl l32_230)))))))))))) ?_
                refine W_v rfl (wanted_t rfl rfl (es rfl (et rfl)) (ez rfl)) (V_lenS rfl (et rfl) (ow_at (hS231.chq 1 rfl hc_225)) Try.underlying22) ?_
                refine W_v rfl (wanted_t rfl rfl (es rfl (es rfl (et rfl))) (ez rfl)) (V_mov rfl (es rfl (es rfl (es rfl (es rfl (es rfl (es rfl (es rfl (es rfl (es rfl (es rfl (es rfl (es rfl (es rfl l31_230)))))))))))))) ?_
                refine W_v rfl (wanted_t rfl rfl (es rfl (es rfl (es rfl (et rfl)))) (ez rfl)) (V_eql rfl (es rfl (et rfl)) (et rfl)) ?_
                refine W_v rfl rfl (V_pickT rfl (es rfl (es rfl (es rfl (es rfl (et rfl))))) (et rfl)) ?_
                refine W_sure (c' := true) rfl rfl (V_mov rfl (et rfl)) (by rw [decide_eq_true_eq]; exact hpt.2.2.1) ?_
                refine W_v rfl (wanted_t rfl rfl (et rfl) (ez rfl)) (V_mov rfl (es rfl (es rfl (es rfl (es rfl (es rfl (es rfl (es rfl (es rfl (es rfl (es rfl (es rfl (es rfl (es rfl (es rfl (es rfl (es rfl (es rfl l33_230)))))))))))))))))) ?_
                refine W_v rfl (wanted_t rfl rfl (es rfl (et rfl)) (ez rfl)) (V_lenS rfl (et rfl) (ow_at (hS231.chq 0 rfl hc_229)) Try.underlying22) ?_
                refine W_v rfl (wanted_t rfl rfl (es rfl (es rfl (et rfl))) (ez rfl)) (V_mov rfl (es rfl (es rfl (es rfl (es rfl (es rfl (es rfl (es rfl (es rfl (es rfl (es rfl (es rfl (es rfl (es rfl (es rfl (es rfl (es rfl (es rfl (es rfl (es rfl l28_230)))))))))))))))))))) ?_
                refine W_v rfl (wanted_t rfl rfl (es rfl (es rfl (es rfl (et rfl)))) (ez rfl)) (V_mov rfl (es rfl (es rfl (es rfl (es rfl (es rfl (es rfl (es rfl (es rfl (es rfl (es rfl (es rfl (es rfl (es rfl (es rfl (es rfl (es rfl (es rfl (es rfl (es rfl (es rfl l31_230))))))))))))))))))))) ?_
                refine W_v rfl (wanted_t rfl rfl (es rfl (es rfl (es rfl (es rfl (et rfl))))) (ez rfl)) (V_sb rfl (es rfl (et rfl)) (et rfl) (by omega) (by omega)) ?_
                refine W_v rfl (wanted_t rfl rfl (es rfl (es rfl (es rfl (es rfl (es rfl (et rfl)))))) (ez rfl)) (V_eql rfl (es rfl (es rfl (es rfl (et rfl)))) (et rfl)) ?_
                refine W_v rfl rfl (V_pickT rfl (es rfl (es rfl (es rfl (es rfl (es rfl (es rfl (et rfl))))))) (et rfl)) ?_
                refine W_sure (c' := true) rfl rfl (V_mov rfl (et rfl)) (by rw [decide_eq_true_eq]; exact hpt.2.2.2.2.1) ?_
                refine W_v rfl (wanted_t rfl rfl (et rfl) (ez rfl)) (V_mov rfl (es rfl (es rfl (es rfl (es rfl (es rfl (es rfl (es rfl (es rfl (es rfl (es rfl (es rfl (es rfl (es rfl (es rfl (es rfl (es rfl (es rfl (es rfl (es rfl (es rfl (es rfl (es rfl (es rfl (es rfl (es rfl l33_230)))))))))))))))))))))))))) ?_
                refine W_v rfl (wanted_t rfl rfl (es rfl (et rfl)) (ez rfl)) (V_lenS rfl (et rfl) (ow_at (hS231.chq 0 rfl hc_229)) Try.underlying22) ?_
                refine W_v rfl (wanted_t rfl rfl (es rfl (es rfl (et rfl))) (ez rfl)) (V_eql rfl (et rfl) rfl) ?_
                refine W_split rfl (wanted_t rfl rfl (es rfl (es rfl (es rfl (et rfl)))) (ez rfl)) (V_mov rfl (et rfl)) (fun c233 => ?_) (fun c233 => ?_)
                · skip
                  refine W_off rfl (wanted_f rfl rfl (et rfl) (ez rfl) rfl) ?_
                  refine W_off rfl (wanted_f rfl rfl (es rfl (et rfl)) (ez rfl) rfl) ?_
                  refine W_off rfl (wanted_f rfl rfl (es rfl (es rfl (et rfl))) (ez rfl) rfl) ?_
                  refine W_off rfl (wanted_f rfl rfl (es rfl (es rfl (es rfl (et rfl)))) (ez rfl) rfl) ?_
                  refine W_v rfl (wanted_t rfl rfl (es rfl (es rfl (es rfl (es rfl (es rfl (es rfl (es rfl (es rfl (et rfl))))))))) (ez rfl)) (V_pickT rfl (es rfl (es rfl (es rfl (es rfl (et rfl))))) rfl) ?_
                  refine W_v rfl rfl (V_pickT rfl (es rfl (es rfl (es rfl (es rfl (es rfl (es rfl (es rfl (es rfl (es rfl (et rfl)))))))))) (et rfl)) ?_
                  refine W_v rfl rfl (V_mov rfl (et rfl)) ?_
                  refine W_call rfl (wanted_t rfl rfl (et rfl) (ez rfl)) rfl Try.func12 (by kernel_rfl) rfl (args0) (awake_c  ) ?_
                  rintro _ w234 ⟨rfl, hP234⟩
                  refine ⟨_, rfl, ?_⟩
                  have hS234 := hS231.join hP234
                  replace hS234 : St w NoX [c_229, c_225] w234 := hS234
                  refine W_v rfl rfl (V_pickT rfl (es rfl (et rfl)) (et rfl)) ?_
                  refine W_v rfl rfl (V_asg rfl (et rfl)) ?_
                  refine W_end ?_
                  refine gen_Q (fun A235 hA235 => ?_)
                  have hsz235 : SzN A235 241 := by rw [hA235]; infer_instance
                  have hdf235 : A235.defers = [] := by rw [hA235]; simp only [df_put]; exact hdf230
                  have l6_235 := lookE hA235 6 (et rfl)
                  clear hA235 hsz230 hdf230 l20_230 l22_230 l28_230 l31_230 l32_230 l33_230 l34_230
                  have hS236 : St w NoX [] w234 := hS234.sel [] (by decide) rfl
                  refine then_n (hK232 _ _ ?_)
                  clear hK232
                  refine wp_ret ?_
                  refine ret_in (results_1 Try.results10 (rv_tmp l6_235)) hdf235 ?_
                  -- leaf FFFFFFFT
                  exact ⟨rfl, hS236.fin0⟩
                · skip
                  refine W_v rfl (wanted_t rfl rfl (et rfl) (ez rfl)) (V_mov rfl (es rfl (es rfl (es rfl (es rfl (es rfl (es rfl (es rfl (es rfl (es rfl (es rfl (es rfl (es rfl (es rfl (es rfl (es rfl (es rfl (es rfl (es rfl (es rfl (es rfl (es rfl (es rfl (es rfl (es rfl (es rfl (es rfl (es rfl (es rfl (es rfl l33_230)))))))))))))))))))))))))))))) ?_
                  have k237 : 0 < (lsT (pgT c 1 800)).length := by first | omega | (simp only [List.length_cons, List.length_nil]; omega)
                  obtain ⟨y237, hy237⟩ := get_some (xs := (lsT (pgT c 1 800))) (k := 0) k237
                  obtain ⟨B237, O237, C237, hv237⟩ := (SlN.blk (ow_at (hS231.chq 0 rfl hc_229)) (by first | omega | (simp only [List.length_cons, List.length_nil]; omega)))
                  refine W_v rfl (wanted_t rfl rfl (es rfl (et rfl)) (ez rfl)) (V_ixS (off := O237 + 0) 1 (0) rfl (et rfl) rfl hv237 (by omega) k237 Try.underlying22 (by kernel_rfl) (congrArg _ (Nat.mul_one _))) ?_
                  refine W_r rfl (wanted_t rfl rfl (es rfl (es rfl (et rfl))) (ez rfl)) (VR_ldC rfl (et rfl) ((ow_at (hS231.chq 0 rfl hc_229)).cell hv237 (map_get hy237)) Try.underlying3 rfl) ?_
                  refine W_v rfl (wanted_t rfl rfl (es rfl (es rfl (es rfl (et rfl)))) (ez rfl)) (V_geq rfl (et rfl) rfl) ?_
                  refine W_v rfl (wanted_t rfl rfl (es rfl (es rfl (es rfl (es rfl (es rfl (es rfl (es rfl (es rfl (et rfl))))))))) (ez rfl)) (V_pickF rfl (es rfl (es rfl (es rfl (es rfl (et rfl))))) (et rfl)) ?_
                  refine W_v rfl rfl (V_pickT rfl (es rfl (es rfl (es rfl (es rfl (es rfl (es rfl (es rfl (es rfl (es rfl (et rfl)))))))))) (et rfl)) ?_
                  refine W_sure (c' := true) rfl rfl (V_mov rfl (et rfl)) (by rw [decide_eq_true_eq]; exact hpt.2.2.2.2.2 _ (List.mem_of_getElem? hy237)) ?_
                  refine W_call rfl (wanted_t rfl rfl (et rfl) (ez rfl)) rfl Try.func12 (by kernel_rfl) rfl (args0) (awake_c  ) ?_
                  rintro _ w238 ⟨rfl, hP238⟩
                  refine ⟨_, rfl, ?_⟩
                  have hS238 := hS231.join hP238
                  replace hS238 : St w NoX [c_229, c_225] w238 := hS238
                  refine W_v rfl rfl (V_pickT rfl (es rfl (et rfl)) (et rfl)) ?_
                  refine W_v rfl rfl (V_asg rfl (et rfl)) ?_
                  refine W_end ?_
                  refine gen_Q (fun A239 hA239 => ?_)
                  have hsz239 : SzN A239 241 := by rw [hA239]; infer_instance
                  have hdf239 : A239.defers = [] := by rw [hA239]; simp only [df_put]; exact hdf230
                  have l6_239 := lookE hA239 6 (et rfl)
                  clear hA239 hsz230 hdf230 l20_230 l22_230 l28_230 l31_230 l32_230 l33_230 l34_230
                  have hS240 : St w NoX [] w238 := hS238.sel [] (by decide) rfl
                  refine then_n (hK232 _ _ ?_)
                  clear hK232
                  refine wp_ret ?_
                  refine ret_in (results_1 Try.results10 (rv_tmp l6_239)) hdf239 ?_
                  -- leaf FFFFFFFF
                  exact ⟨rfl, hS240.fin0⟩

end Go.Proofs.Ytoandfgkkmfobaa