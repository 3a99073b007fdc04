import Derived.Test.YtoandfgkkmfobaaProg
import Derived.Test.YtoandfgkkmfobaaSl4
namespace Go.Proofs.Ytoandfgkkmfobaa
open Go.RowKit Go.Own Go.Own.R Go.Own.S


set_option maxHeartbeats 4000000 in
theorem kch_c {cv : Value} {c : List Int} {a : Int} {w : World} (h_cv : Ro w NoX (il .i64 cv c))  :
    Calls Try.prog 37 #[.agg #[cv], .int .i64 a] w fun e w' => e = .returned (.int .i64 (chE c a)) ∧ St w NoX [] w' := by
  refine calls_in 18 Try.func37 rfl rfl (by simp) (fun A0 hsz0 hdf0 hargs => ?_)
  have l0_0 := hargs 0 (.agg #[cv]) rfl
  have l1_0 := hargs 1 (.int .i64 a) rfl
  clear hargs; replace hsz0 : SzN A0 18 := ⟨hsz0⟩
  have hS := St.nil w
  have bh_cv := SlN.le (sl_SlN h_cv.at)
  refine wp_seq_k (fun K1 hK1 => ?_)
  -- region 0
  refine region_in ?_
  refine W_boxS (zs := #[cv]) hS rfl rfl rfl l0_0 (by rfl) (fun g2 w2 c2 hc2 hS2 => ?_)
  replace hS2 : St w NoX [c2] w2 := hS2
  refine W_v rfl rfl (V_asg rfl rfl) ?_
  refine W_end ?_
  refine gen_Q (fun A3 hA3 => ?_)
  have hsz3 : SzN A3 18 := by rw [hA3]; infer_instance
  have hdf3 : A3.defers = [] := by rw [hA3]; simp only [df_put]; exact hdf0
  have l1_3 := lookE hA3 1 (es rfl (es rfl l1_0))
  have l2_3 := lookE hA3 2 (es rfl (et rfl))
  clear hA3 hsz0 hdf0 l0_0 l1_0
  refine then_n (hK1 _ _ ?_)
  clear hK1
  refine wp_seq_k (fun K4 hK4 => ?_)
  refine wp_seq_k (fun K5 hK5 => ?_)
  -- region 1
  refine region_in ?_
  refine W_r rfl rfl (VR_ldA rfl l2_3 (hS2.obj 0 rfl hc2) Try.underlying24 rfl (by kernel_rfl)) ?_
  refine W_call rfl rfl rfl Try.func26 (by kernel_rfl) rfl (args1 (et rfl)) (kCk_c (hS2.roC h_cv) ) ?_
  rintro _ w6 ⟨rfl, hP6⟩
  refine ⟨_, rfl, ?_⟩
  have hS6 := hS2.join hP6
  replace hS6 : St w NoX [c2] w6 := hS6
  refine W_v rfl rfl (V_mov rfl (et rfl)) ?_
  refine W_v rfl rfl (V_ext (v := .int .i64 ((ckS c).1)) rfl (et rfl) rfl) ?_
  refine W_v rfl rfl (V_ext (v := .int .i64 ((ckS c).2)) rfl (es rfl (et rfl)) rfl) ?_
  refine W_v rfl rfl (V_asg rfl (es rfl (et rfl))) ?_
  refine W_v rfl rfl (V_asg rfl (es rfl (et rfl))) ?_
  refine W_end ?_
  refine gen_Q (fun A7 hA7 => ?_)
  have hsz7 : SzN A7 18 := by rw [hA7]; infer_instance
  have hdf7 : A7.defers = [] := by rw [hA7]; simp only [df_put]; exact hdf3
  have l1_7 := lookE hA7 1 (es rfl (es rfl (es rfl (es rfl (es rfl (es rfl (es rfl l1_3)))))))
  have l6_7 := lookE hA7 6 (et rfl)
  clear hA7 hsz3 hdf3 l1_3 l2_3
  have hS8 : St w NoX [] w6 := hS6.sel [] (by decide) rfl
  refine then_n (hK5 _ _ ?_)
  clear hK5
  refine wp_seq_k (fun K9 hK9 => ?_)
  -- region 2
  refine region_in ?_
  refine W_v rfl rfl (V_mov rfl l6_7) ?_
  refine W_v rfl rfl (V_neq rfl (et rfl) rfl) ?_
  refine W_end ?_
  refine gen_Q (fun A10 hA10 => ?_)
  have hsz10 : SzN A10 18 := by rw [hA10]; infer_instance
  have hdf10 : A10.defers = [] := by rw [hA10]; simp only [df_put]; exact hdf7
  have l1_10 := lookE hA10 1 (es rfl (es rfl l1_7))
  have l6_10 := lookE hA10 6 (es rfl (es rfl l6_7))
  have l13_10 := lookE hA10 13 (et rfl)
  clear hA10 hsz7 hdf7 l1_7 l6_7
  refine then_n (hK9 _ _ ?_)
  clear hK9
  refine cond_dec l13_10 (fun c11 => ?_) (fun c11 => ?_)
  · skip
    refine wp_seq_k (fun K12 hK12 => ?_)
    -- region 3
    refine region_in ?_
    refine W_v rfl rfl (V_mov rfl l6_10) ?_
    refine W_v rfl rfl (V_asg rfl (et rfl)) ?_
    refine W_end ?_
    refine gen_Q (fun A13 hA13 => ?_)
    have hsz13 : SzN A13 18 := by rw [hA13]; infer_instance
    have hdf13 : A13.defers = [] := by rw [hA13]; simp only [df_put]; exact hdf10
    have l4_13 := lookE hA13 4 (et rfl)
    clear hA13 hsz10 hdf10 l1_10 l6_10 l13_10
    refine then_n (hK12 _ _ ?_)
    clear hK12
    refine wp_ret ?_
    refine then_ret ?_
    refine ret_in (results_1 Try.results37 (rv_tmp l4_13)) hdf13 ?_
    -- leaf T
    have h : chE c a = (ckS c).2 := (chE_ck (by omega))
    rw [h]
    exact ⟨rfl, hS8.fin0⟩
  · skip
    refine wp_skip ?_
    refine then_n (hK4 _ _ ?_)
    clear hK4
    refine wp_seq_k (fun K14 hK14 => ?_)
    refine wp_seq_k (fun K15 hK15 => ?_)
    -- region 4
    refine region_in ?_
    refine W_v rfl rfl (V_mov rfl l1_10) ?_
    refine W_call rfl rfl rfl Try.func46 (by kernel_rfl) rfl (args1 (et rfl)) (kadr_c (a := a)  ) ?_
    rintro _ w16 ⟨rfl, hP16⟩
    refine ⟨_, rfl, ?_⟩
    have hS16 := hS8.join hP16
    replace hS16 : St w NoX [] w16 := hS16
    refine W_v rfl rfl (V_notd rfl (et rfl)) ?_
    refine W_end ?_
    refine gen_Q (fun A17 hA17 => ?_)
    have hsz17 : SzN A17 18 := by rw [hA17]; infer_instance
    have hdf17 : A17.defers = [] := by rw [hA17]; simp only [df_put]; exact hdf10
    have l17_17 := lookE hA17 17 (et rfl)
    clear hA17 hsz10 hdf10 l1_10 l6_10 l13_10
    refine then_n (hK15 _ _ ?_)
    clear hK15
    refine cond_dec l17_17 (fun c18 => ?_) (fun c18 => ?_)
    · skip
      refine wp_seq_k (fun K19 hK19 => ?_)
      -- region 5
      refine region_in ?_
      refine W_v rfl rfl (V_asg rfl rfl) ?_
      refine W_end ?_
      refine gen_Q (fun A20 hA20 => ?_)
      have hsz20 : SzN A20 18 := by rw [hA20]; infer_instance
      have hdf20 : A20.defers = [] := by rw [hA20]; simp only [df_put]; exact hdf17
      have l4_20 := lookE hA20 4 (et rfl)
      clear hA20 hsz17 hdf17 l17_17
      refine then_n (hK19 _ _ ?_)
      clear hK19
      refine wp_ret ?_
      refine then_ret ?_
      refine ret_in (results_1 Try.results37 (rv_tmp l4_20)) hdf20 ?_
      -- leaf FT
      have h : chE c a = 7 := chE_rg (by omega) (by have hc := c18; simpa using hc)
      rw [h]
      exact ⟨rfl, hS16.fin0⟩
    · skip
      refine wp_skip ?_
      refine then_n (hK14 _ _ ?_)
      clear hK14
      refine wp_seq_k (fun K21 hK21 => ?_)
      -- region 6
      refine region_in ?_
      refine W_v rfl rfl (V_asg rfl rfl) ?_
      refine W_end ?_
      refine gen_Q (fun A22 hA22 => ?_)
      have hsz22 : SzN A22 18 := by rw [hA22]; infer_instance
      have hdf22 : A22.defers = [] := by rw [hA22]; simp only [df_put]; exact hdf17
      have l4_22 := lookE hA22 4 (et rfl)
      clear hA22 hsz17 hdf17 l17_17
      refine then_n (hK21 _ _ ?_)
      clear hK21
      refine wp_ret ?_
      refine ret_in (results_1 Try.results37 (rv_tmp l4_22)) hdf22 ?_
      -- leaf FF
      have h : chE c a = 0 := chE_ok (by omega) (by have hc := c18; simpa using hc)
      rw [h]
      exact ⟨rfl, hS16.fin0⟩

set_option maxHeartbeats 4000000 in
theorem kHas_c {cv : Value} {c : List Int} {a : Int} {w : World} (h_cv : Ro w NoX (il .i64 cv c))  :
    Calls Try.prog 13 #[.agg #[cv], .int .i64 a] w fun e w' => e = .returned (.tuple #[.bool (hsB c a), .int .i64 (chE c a)]) ∧ St w NoX [] w' := by
  refine calls_in 18 Try.func13 rfl rfl (by simp) (fun A0 hsz0 hdf0 hargs => ?_)
  have l0_0 := hargs 0 (.agg #[cv]) rfl
  have l1_0 := hargs 1 (.int .i64 a) rfl
  clear hargs; replace hsz0 : SzN A0 18 := ⟨hsz0⟩
  have hS := St.nil w
  have bh_cv := SlN.le (sl_SlN h_cv.at)
  refine wp_seq_k (fun K1 hK1 => ?_)
  -- region 0
  refine region_in ?_
  refine W_boxS (zs := #[cv]) hS rfl rfl rfl l0_0 (by rfl) (fun g2 w2 c2 hc2 hS2 => ?_)
  replace hS2 : St w NoX [c2] w2 := hS2
  refine W_v rfl rfl (V_asg rfl rfl) ?_
  refine W_v rfl rfl (V_asg rfl rfl) ?_
  refine W_end ?_
  refine gen_Q (fun A3 hA3 => ?_)
  have hsz3 : SzN A3 18 := by rw [hA3]; infer_instance
  have hdf3 : A3.defers = [] := by rw [hA3]; simp only [df_put]; exact hdf0
  have l1_3 := lookE hA3 1 (es rfl (es rfl (es rfl l1_0)))
  have l2_3 := lookE hA3 2 (es rfl (es rfl (et rfl)))
  clear hA3 hsz0 hdf0 l0_0 l1_0
  refine then_n (hK1 _ _ ?_)
  clear hK1
  refine wp_seq_k (fun K4 hK4 => ?_)
  refine wp_seq_k (fun K5 hK5 => ?_)
  -- region 1
  refine region_in ?_
  refine W_r rfl rfl (VR_ldA rfl l2_3 (hS2.obj 0 rfl hc2) Try.underlying24 rfl (by kernel_rfl)) ?_
  refine W_v rfl rfl (V_mov rfl (es rfl l1_3)) ?_
  refine W_call rfl rfl rfl Try.func37 (by kernel_rfl) rfl (args2 (es rfl (et rfl)) (et rfl)) (kch_c (a := a) (hS2.roC h_cv) ) ?_
  rintro _ w6 ⟨rfl, hP6⟩
  refine ⟨_, rfl, ?_⟩
  have hS6 := hS2.join hP6
  replace hS6 : St w NoX [c2] w6 := hS6
  refine W_v rfl rfl (V_asg rfl (et rfl)) ?_
  refine W_end ?_
  refine gen_Q (fun A7 hA7 => ?_)
  have hsz7 : SzN A7 18 := by rw [hA7]; infer_instance
  have hdf7 : A7.defers = [] := by rw [hA7]; simp only [df_put]; exact hdf3
  have l1_7 := lookE hA7 1 (es rfl (es rfl (es rfl (es rfl l1_3))))
  have l2_7 := lookE hA7 2 (es rfl (es rfl (es rfl (es rfl l2_3))))
  have l6_7 := lookE hA7 6 (et rfl)
  clear hA7 hsz3 hdf3 l1_3 l2_3
  refine then_n (hK5 _ _ ?_)
  clear hK5
  refine wp_seq_k (fun K8 hK8 => ?_)
  -- region 2
  refine region_in ?_
  refine W_v rfl rfl (V_mov rfl l6_7) ?_
  refine W_v rfl rfl (V_neq rfl (et rfl) rfl) ?_
  refine W_end ?_
  refine gen_Q (fun A9 hA9 => ?_)
  have hsz9 : SzN A9 18 := by rw [hA9]; infer_instance
  have hdf9 : A9.defers = [] := by rw [hA9]; simp only [df_put]; exact hdf7
  have l1_9 := lookE hA9 1 (es rfl (es rfl l1_7))
  have l2_9 := lookE hA9 2 (es rfl (es rfl l2_7))
  have l6_9 := lookE hA9 6 (es rfl (es rfl l6_7))
  have l11_9 := lookE hA9 11 (et rfl)
  clear hA9 hsz7 hdf7 l1_7 l2_7 l6_7
  refine then_n (hK8 _ _ ?_)
  clear hK8
  refine cond_dec l11_9 (fun c10 => ?_) (fun c10 => ?_)
  · skip
    refine wp_seq_k (fun K11 hK11 => ?_)
    -- region 3
    refine region_in ?_
    refine W_v rfl rfl (V_mov rfl l6_9) ?_
    refine W_v rfl rfl (V_asg rfl rfl) ?_
    refine W_v rfl rfl (V_asg rfl (es rfl (et rfl))) ?_
    refine W_end ?_
    refine gen_Q (fun A12 hA12 => ?_)
    have hsz12 : SzN A12 18 := by rw [hA12]; infer_instance
    have hdf12 : A12.defers = [] := by rw [hA12]; simp only [df_put]; exact hdf9
    have l4_12 := lookE hA12 4 (es rfl (et rfl))
    have l5_12 := lookE hA12 5 (et rfl)
    clear hA12 hsz9 hdf9 l1_9 l2_9 l6_9 l11_9
    have hS13 : St w NoX [] w6 := hS6.sel [] (by decide) rfl
    refine then_n (hK11 _ _ ?_)
    clear hK11
    refine wp_ret ?_
    refine then_ret ?_
    refine ret_in (results_2 Try.results13 (rv_tmp l4_12) (rv_tmp l5_12)) hdf12 ?_
    -- leaf T
    have r0 : hsB c a = false := by unfold hsB; exact decide_eq_false (by omega)
    have r1 : chE c a = (chE c a) := by omega
    rw [r0, r1]
    exact ⟨rfl, hS13.fin0⟩
  · skip
    obtain ⟨hG, ha⟩ := ch0 (c := c) (a := a) (by omega)
    have hpb := hG.bd
    have hh : chE c a = 0 := by omega
    refine wp_skip ?_
    refine then_n (hK4 _ _ ?_)
    clear hK4
    refine wp_seq_k (fun K14 hK14 => ?_)
    -- region 4
    refine region_in ?_
    refine W_v rfl rfl (V_fa (off' := 0) rfl l2_9 Try.underlying24 rfl (by decide +kernel) rfl) ?_
    refine W_r rfl rfl (VR_ldC rfl (et rfl) (cell_box (v := cv) (hS6.obj 0 rfl hc2) rfl) Try.underlying22 rfl) ?_
    refine W_v rfl rfl (V_mov rfl (es rfl (es rfl l1_9))) ?_
    refine W_call rfl rfl rfl Try.func38 (by kernel_rfl) rfl (args2 (es rfl (et rfl)) (et rfl)) (kfind_c (a := a) (hS6.roC h_cv) (by first | with_reducible assumption | with_reducible exact hG.p2 | with_reducible exact hG2.p2 | (rw [hbl]; exact n1) | (simp only [List.length_set, List.length_replicate] <;> assumption)) (by first | omega | with_reducible assumption)) ?_
    rintro _ w15 ⟨rfl, hP15⟩
    refine ⟨_, rfl, ?_⟩
    have hS15 := hS6.join hP15
    replace hS15 : St w NoX [c2] w15 := hS15
    refine W_v rfl rfl (V_geq rfl (et rfl) rfl) ?_
    refine W_v rfl rfl (V_asg rfl (et rfl)) ?_
    refine W_v rfl rfl (V_asg rfl rfl) ?_
    refine W_end ?_
    refine gen_Q (fun A16 hA16 => ?_)
    have hsz16 : SzN A16 18 := by rw [hA16]; infer_instance
    have hdf16 : A16.defers = [] := by rw [hA16]; simp only [df_put]; exact hdf9
    have l4_16 := lookE hA16 4 (es rfl (et rfl))
    have l5_16 := lookE hA16 5 (et rfl)
    clear hA16 hsz9 hdf9 l1_9 l2_9 l6_9 l11_9
    have hS17 : St w NoX [] w15 := hS15.sel [] (by decide) rfl
    refine then_n (hK14 _ _ ?_)
    clear hK14
    refine wp_ret ?_
    refine ret_in (results_2 Try.results13 (rv_tmp l4_16) (rv_tmp l5_16)) hdf16 ?_
    -- leaf F
    have r0 : hsB c a = decide (0 ≤ (fnd c a)) := by unfold hsB; exact decide_eq_decide.2 (by omega)
    have r1 : chE c a = 0 := by omega
    rw [r0, r1]
    exact ⟨rfl, hS17.fin0⟩

set_option maxHeartbeats 4000000 in
theorem kAdd_c {cv : Value} {c : List Int} {a : Int} {w : World} (h_cv : Ro w NoX (il .i64 cv c))  :
    Calls Try.prog 15 #[.agg #[cv], .int .i64 a] w fun e w' => ∃ v, e = .returned (.tuple #[.agg #[v], .bool (adB c a), .int .i64 (chE c a)]) ∧ St w NoX [io .i64 (v) (adT c a)] w' := by
  refine calls_in 28 Try.func15 rfl rfl (by simp) (fun A0 hsz0 hdf0 hargs => ?_)
  have l0_0 := hargs 0 (.agg #[cv]) rfl
  have l1_0 := hargs 1 (.int .i64 a) rfl
  clear hargs; replace hsz0 : SzN A0 28 := ⟨hsz0⟩
  have hS := St.nil w
  have bh_cv := SlN.le (sl_SlN h_cv.at)
  refine wp_seq_k (fun K1 hK1 => ?_)
  -- region 0
  refine region_in ?_
  refine W_boxS (zs := #[cv]) hS rfl rfl rfl l0_0 (by rfl) (fun g2 w2 c2 hc2 hS2 => ?_)
  replace hS2 : St w NoX [c2] w2 := hS2
  refine W_allocS (z := .agg #[.slice none 0 0]) (zs := #[.slice none 0 0]) hS2 rfl rfl rfl (by kernel_rfl) (by rfl) (fun g3 w3 c3 hc3 hS3 => ?_)
  replace hS3 : St w NoX [c3, c2] w3 := hS3
  refine W_v rfl rfl (V_asg rfl rfl) ?_
  refine W_v rfl rfl (V_asg rfl rfl) ?_
  refine W_end ?_
  refine gen_Q (fun A4 hA4 => ?_)
  have hsz4 : SzN A4 28 := by rw [hA4]; infer_instance
  have hdf4 : A4.defers = [] := by rw [hA4]; simp only [df_put]; exact hdf0
  have l1_4 := lookE hA4 1 (es rfl (es rfl (es rfl (es rfl l1_0))))
  have l2_4 := lookE hA4 2 (es rfl (es rfl (es rfl (et rfl))))
  have l4_4 := lookE hA4 4 (es rfl (es rfl (et rfl)))
  clear hA4 hsz0 hdf0 l0_0 l1_0
  refine then_n (hK1 _ _ ?_)
  clear hK1
  refine wp_seq_k (fun K5 hK5 => ?_)
  refine wp_seq_k (fun K6 hK6 => ?_)
  -- region 1
  refine region_in ?_
  refine W_r rfl rfl (VR_ldA rfl l2_4 (hS3.obj 1 rfl hc2) Try.underlying24 rfl (by kernel_rfl)) ?_
  refine W_v rfl rfl (V_mov rfl (es rfl l1_4)) ?_
  refine W_call rfl rfl rfl Try.func37 (by kernel_rfl) rfl (args2 (es rfl (et rfl)) (et rfl)) (kch_c (a := a) (hS3.roC h_cv) ) ?_
  rintro _ w7 ⟨rfl, hP7⟩
  refine ⟨_, rfl, ?_⟩
  have hS7 := hS3.join hP7
  replace hS7 : St w NoX [c3, c2] w7 := hS7
  refine W_v rfl rfl (V_asg rfl (et rfl)) ?_
  refine W_end ?_
  refine gen_Q (fun A8 hA8 => ?_)
  have hsz8 : SzN A8 28 := by rw [hA8]; infer_instance
  have hdf8 : A8.defers = [] := by rw [hA8]; simp only [df_put]; exact hdf4
  have l1_8 := lookE hA8 1 (es rfl (es rfl (es rfl (es rfl l1_4))))
  have l2_8 := lookE hA8 2 (es rfl (es rfl (es rfl (es rfl l2_4))))
  have l4_8 := lookE hA8 4 (es rfl (es rfl (es rfl (es rfl l4_4))))
  have l7_8 := lookE hA8 7 (et rfl)
  clear hA8 hsz4 hdf4 l1_4 l2_4 l4_4
  refine then_n (hK6 _ _ ?_)
  clear hK6
  refine wp_seq_k (fun K9 hK9 => ?_)
  -- region 2
  refine region_in ?_
  refine W_v rfl rfl (V_mov rfl l7_8) ?_
  refine W_v rfl rfl (V_neq rfl (et rfl) rfl) ?_
  refine W_end ?_
  refine gen_Q (fun A10 hA10 => ?_)
  have hsz10 : SzN A10 28 := by rw [hA10]; infer_instance
  have hdf10 : A10.defers = [] := by rw [hA10]; simp only [df_put]; exact hdf8
  have l1_10 := lookE hA10 1 (es rfl (es rfl l1_8))
  have l2_10 := lookE hA10 2 (es rfl (es rfl l2_8))
  have l4_10 := lookE hA10 4 (es rfl (es rfl l4_8))
  have l7_10 := lookE hA10 7 (es rfl (es rfl l7_8))
  have l13_10 := lookE hA10 13 (et rfl)
  clear hA10 hsz8 hdf8 l1_8 l2_8 l4_8 l7_8
  refine then_n (hK9 _ _ ?_)
  clear hK9
  refine cond_dec l13_10 (fun c11 => ?_) (fun c11 => ?_)
  · skip
    refine wp_seq_k (fun K12 hK12 => ?_)
    -- region 3
    refine region_in ?_
    refine W_v rfl rfl (V_bldS (n := 1) (z := .agg #[.slice none 0 0]) rfl (parts0) (by kernel_rfl) (by simp only [List.all_cons, List.all_nil, Bool.and_true] <;> rfl) (by kernel_rfl) (by simp only [List.foldl_cons, List.foldl_nil, Value.cells, List.setIfInBounds_toArray, List.set_cons_succ, List.set_cons_zero] <;> rfl)) ?_
    refine W_v rfl rfl (V_mov rfl (es rfl l7_10)) ?_
    refine W_stAS 0 hS7 rfl hc3 rfl rfl rfl (es rfl (es rfl l4_10)) (es rfl (et rfl)) (by first | (rw [List.all_toArray] <;> rfl) | (simp only [List.all_toArray, List.all_cons, List.all_nil] <;> rfl)) (by rfl) (by kernel_rfl) (fun w13 c13 hc13 hS13 => ?_)
    replace hS13 : St w NoX [c13, c2] w13 := hS13
    refine W_v rfl rfl (V_asg rfl rfl) ?_
    refine W_v rfl rfl (V_asg rfl (es rfl (et rfl))) ?_
    refine W_end ?_
    refine gen_Q (fun A14 hA14 => ?_)
    have hsz14 : SzN A14 28 := by rw [hA14]; infer_instance
    have hdf14 : A14.defers = [] := by rw [hA14]; simp only [df_put]; exact hdf10
    have l4_14 := lookE hA14 4 (es rfl (es rfl (es rfl (es rfl l4_10))))
    have l5_14 := lookE hA14 5 (es rfl (et rfl))
    have l6_14 := lookE hA14 6 (et rfl)
    clear hA14 hsz10 hdf10 l1_10 l2_10 l4_10 l7_10 l13_10
    have hS15 : St w NoX [c13] w13 := hS13.sel [0] (by decide) rfl
    refine then_n (hK12 _ _ ?_)
    clear hK12
    refine wp_ret ?_
    refine then_ret ?_
    refine ret_in (results_3 Try.results15 (rv_cellA l4_14 (hS15.obj 0 rfl hc13) Try.underlying24 rfl (by kernel_rfl)) (rv_tmp l5_14) (rv_tmp l6_14)) hdf14 ?_
    -- leaf T
    obtain ⟨c16, hc16, hS16⟩ := hS15.pnil (s := 1)
    have r0 : adB c a = false := by unfold adB; exact decide_eq_false (by omega)
    have r1 : chE c a = (chE c a) := by omega
    rw [r0, r1]
    exact ⟨_, rfl, (hS16.fin1 0 rfl (hc16.trans (by rw [show adT c a = [] by unfold adT; rw [if_pos (by omega)]] <;> rfl)))⟩
  · skip
    obtain ⟨hG, ha⟩ := ch0 (c := c) (a := a) (by omega)
    have hpb := hG.bd
    have hh : chE c a = 0 := by omega
    refine wp_skip ?_
    refine then_n (hK5 _ _ ?_)
    clear hK5
    refine wp_seq_k (fun K17 hK17 => ?_)
    -- region 4
    refine region_in ?_
    refine W_r rfl rfl (VR_ldA rfl l2_10 (hS7.obj 1 rfl hc2) Try.underlying24 rfl (by kernel_rfl)) ?_
    refine W_call rfl rfl rfl Try.func41 (by kernel_rfl) rfl (args1 (et rfl)) (kown_c (hS7.roC h_cv) (by first | omega | with_reducible assumption)) ?_
    rintro _ w18 ⟨v_18, rfl, hP18⟩
    refine ⟨_, rfl, ?_⟩
    obtain ⟨c_18, hc_18, hP18⟩ := gen1 hP18
    have hS18 := hS7.join hP18
    replace hS18 : St w NoX [c_18, c3, c2] w18 := hS18
    refine W_v rfl rfl (V_asg rfl (et rfl)) ?_
    refine W_end ?_
    refine gen_Q (fun A19 hA19 => ?_)
    have hsz19 : SzN A19 28 := by rw [hA19]; infer_instance
    have hdf19 : A19.defers = [] := by rw [hA19]; simp only [df_put]; exact hdf10
    have l1_19 := lookE hA19 1 (es rfl (es rfl (es rfl l1_10)))
    have l4_19 := lookE hA19 4 (es rfl (es rfl (es rfl l4_10)))
    have l8_19 := lookE hA19 8 (et rfl)
    clear hA19 hsz10 hdf10 l1_10 l2_10 l4_10 l7_10 l13_10
    have hS20 : St w NoX [c_18, c3] w18 := hS18.sel [0, 1] (by decide) rfl
    refine then_n (hK17 _ _ ?_)
    clear hK17
    refine wp_seq_k (fun K21 hK21 => ?_)
    refine wp_seq_k (fun K22 hK22 => ?_)
    -- region 5
    refine region_in ?_
    refine W_v rfl rfl (V_mov rfl l8_19) ?_
    refine W_v rfl rfl (V_mov rfl (es rfl l1_19)) ?_
    refine W_call rfl rfl rfl Try.func38 (by kernel_rfl) rfl (args2 (es rfl (et rfl)) (et rfl)) (kfind_c (a := a) (hS20.chC 0 rfl hc_18).own (by first | with_reducible assumption | with_reducible exact hG.p2 | with_reducible exact hG2.p2 | (rw [hbl]; exact n1) | (simp only [List.length_set, List.length_replicate] <;> assumption)) (by first | omega | with_reducible assumption)) ?_
    rintro _ w23 ⟨rfl, hP23⟩
    refine ⟨_, rfl, ?_⟩
    have hS23 := hS20.join hP23
    replace hS23 : St w NoX [c_18, c3] w23 := hS23
    refine W_v rfl rfl (V_geq rfl (et rfl) rfl) ?_
    refine W_end ?_
    refine gen_Q (fun A24 hA24 => ?_)
    have hsz24 : SzN A24 28 := by rw [hA24]; infer_instance
    have hdf24 : A24.defers = [] := by rw [hA24]; simp only [df_put]; exact hdf19
    have l1_24 := lookE hA24 1 (es rfl (es rfl (es rfl (es rfl l1_19))))
    have l4_24 := lookE hA24 4 (es rfl (es rfl (es rfl (es rfl l4_19))))
    have l8_24 := lookE hA24 8 (es rfl (es rfl (es rfl (es rfl l8_19))))
    have l21_24 := lookE hA24 21 (et rfl)
    clear hA24 hsz19 hdf19 l1_19 l4_19 l8_19
    refine then_n (hK22 _ _ ?_)
    clear hK22
    refine cond_dec l21_24 (fun c25 => ?_) (fun c25 => ?_)
    · skip
      refine wp_seq_k (fun K26 hK26 => ?_)
      -- region 6
      refine region_in ?_
      refine W_v rfl rfl (V_mov rfl l8_24) ?_
      refine W_v rfl rfl (V_bldS (n := 1) (z := .agg #[.slice none 0 0]) rfl (parts1 (et rfl)) (by kernel_rfl) (by simp only [List.all_cons, List.all_nil, SlN_one (ow_at (hS23.chq 0 rfl hc_18)), Bool.and_true] <;> rfl) (by kernel_rfl) (by simp only [List.foldl_cons, List.foldl_nil, Value.cells, List.setIfInBounds_toArray, List.set_cons_succ, List.set_cons_zero] <;> rfl)) ?_
      refine W_stAS 1 hS23 rfl hc3 rfl rfl rfl (es rfl (es rfl l4_24)) (et rfl) (by simp only [List.all_toArray, List.all_cons, List.all_nil, SlN_one (ow_at (hS23.chq 0 rfl hc_18))] <;> rfl) (by rfl) (by kernel_rfl) (fun w27 c27 hc27 hS27 => ?_)
      replace hS27 : St w NoX [c_18, c27] w27 := hS27
      refine W_v rfl rfl (V_asg rfl rfl) ?_
      refine W_v rfl rfl (V_asg rfl rfl) ?_
      refine W_end ?_
      refine gen_Q (fun A28 hA28 => ?_)
      have hsz28 : SzN A28 28 := by rw [hA28]; infer_instance
      have hdf28 : A28.defers = [] := by rw [hA28]; simp only [df_put]; exact hdf24
      have l4_28 := lookE hA28 4 (es rfl (es rfl (es rfl (es rfl l4_24))))
      have l5_28 := lookE hA28 5 (es rfl (et rfl))
      have l6_28 := lookE hA28 6 (et rfl)
      clear hA28 hsz24 hdf24 l1_24 l4_24 l8_24 l21_24
      refine then_n (hK26 _ _ ?_)
      clear hK26
      refine wp_ret ?_
      refine then_ret ?_
      refine ret_in (results_3 Try.results15 (rv_cellA l4_28 (hS27.obj 1 rfl hc27) Try.underlying24 rfl (by kernel_rfl)) (rv_tmp l5_28) (rv_tmp l6_28)) hdf28 ?_
      -- leaf FT
      have r0 : adB c a = false := by unfold adB; exact decide_eq_false (by omega)
      have r1 : chE c a = 0 := by omega
      rw [r0, r1]
      exact ⟨_, rfl, (hS27.fin1 0 rfl (hc_18.trans (congrArg (io .i64 _) (by unfold adT; rw [if_neg (by omega), if_pos (by omega)]))))⟩
    · skip
      refine wp_skip ?_
      refine then_n (hK21 _ _ ?_)
      clear hK21
      refine wp_seq_k (fun K29 hK29 => ?_)
      -- region 7
      refine region_in ?_
      refine W_v rfl rfl (V_mov rfl l8_24) ?_
      refine W_v rfl rfl (V_mov rfl (es rfl l1_24)) ?_
      obtain ⟨Y30, hP30, hR30, hF30, hB30⟩ := St.call (pre := [c_18]) (fr := [c3]) hS23
      rw [hc_18] at hP30
      refine W_call rfl rfl rfl Try.func42 (by kernel_rfl) rfl (args2 (es rfl (et rfl)) (et rfl)) (kadd_c (a := a)  hP30 (by first | with_reducible assumption | with_reducible exact gd_new) (by first | omega | with_reducible assumption) (by first | with_reducible assumption | exact fnd_not (by assumption) (by omega) (by omega))) ?_
      rintro _ w31 ⟨v_31, rfl, hP31⟩
      refine ⟨_, rfl, ?_⟩
      obtain ⟨c_31, hc_31, hP31⟩ := gen1 hP31
      have hS31 := hB30 _ _ hP31
      replace hS31 : St w NoX [c_31, c3] w31 := hS31
      refine W_v rfl rfl (V_bldS (n := 1) (z := .agg #[.slice none 0 0]) rfl (parts1 (et rfl)) (by kernel_rfl) (by simp only [List.all_cons, List.all_nil, SlN_one (ow_at (hS31.chq 0 rfl hc_31)), Bool.and_true] <;> rfl) (by kernel_rfl) (by simp only [List.foldl_cons, List.foldl_nil, Value.cells, List.setIfInBounds_toArray, List.set_cons_succ, List.set_cons_zero] <;> rfl)) ?_
      refine W_stAS 1 hS31 rfl hc3 rfl rfl rfl (es rfl (es rfl (es rfl (es rfl l4_24)))) (et rfl) (by simp only [List.all_toArray, List.all_cons, List.all_nil, SlN_one (ow_at (hS31.chq 0 rfl hc_31))] <;> rfl) (by rfl) (by kernel_rfl) (fun w32 c32 hc32 hS32 => ?_)
      replace hS32 : St w NoX [c_31, c32] w32 := hS32
      refine W_v rfl rfl (V_asg rfl rfl) ?_
      refine W_v rfl rfl (V_asg rfl rfl) ?_
      refine W_end ?_
      refine gen_Q (fun A33 hA33 => ?_)
      have hsz33 : SzN A33 28 := by rw [hA33]; infer_instance
      have hdf33 : A33.defers = [] := by rw [hA33]; simp only [df_put]; exact hdf24
      have l4_33 := lookE hA33 4 (es rfl (es rfl (es rfl (es rfl (es rfl (es rfl l4_24))))))
      have l5_33 := lookE hA33 5 (es rfl (et rfl))
      have l6_33 := lookE hA33 6 (et rfl)
      clear hA33 hsz24 hdf24 l1_24 l4_24 l8_24 l21_24
      refine then_n (hK29 _ _ ?_)
      clear hK29
      refine wp_ret ?_
      refine ret_in (results_3 Try.results15 (rv_cellA l4_33 (hS32.obj 1 rfl hc32) Try.underlying24 rfl (by kernel_rfl)) (rv_tmp l5_33) (rv_tmp l6_33)) hdf33 ?_
      -- leaf FF
      have r0 : adB c a = true := by unfold adB; exact decide_eq_true (by omega)
      have r1 : chE c a = 0 := by omega
      rw [r0, r1]
      exact ⟨_, rfl, (hS32.fin1 0 rfl (hc_31.trans (congrArg (io .i64 _) (by unfold adT; rw [if_neg (by omega), if_neg (by omega)]))))⟩

set_option maxHeartbeats 4000000 in
theorem kDrop_c {cv : Value} {c : List Int} {a : Int} {w : World} (h_cv : Ro w NoX (il .i64 cv c))  :
    Calls Try.prog 18 #[.agg #[cv], .int .i64 a] w fun e w' => ∃ v, e = .returned (.tuple #[.agg #[v], .bool (hsB c a), .int .i64 (chE c a)]) ∧ St w NoX [io .i64 (v) (drT c a)] w' := by
  refine calls_in 31 Try.func18 rfl rfl (by simp) (fun A0 hsz0 hdf0 hargs => ?_)
  have l0_0 := hargs 0 (.agg #[cv]) rfl
  have l1_0 := hargs 1 (.int .i64 a) rfl
  clear hargs; replace hsz0 : SzN A0 31 := ⟨hsz0⟩
  have hS := St.nil w
  have bh_cv := SlN.le (sl_SlN h_cv.at)
  refine wp_seq_k (fun K1 hK1 => ?_)
  -- region 0
  refine region_in ?_
  refine W_boxS (zs := #[cv]) hS rfl rfl rfl l0_0 (by rfl) (fun g2 w2 c2 hc2 hS2 => ?_)
  replace hS2 : St w NoX [c2] w2 := hS2
  refine W_allocS (z := .agg #[.slice none 0 0]) (zs := #[.slice none 0 0]) hS2 rfl rfl rfl (by kernel_rfl) (by rfl) (fun g3 w3 c3 hc3 hS3 => ?_)
  replace hS3 : St w NoX [c3, c2] w3 := hS3
  refine W_v rfl rfl (V_asg rfl rfl) ?_
  refine W_v rfl rfl (V_asg rfl rfl) ?_
  refine W_end ?_
  refine gen_Q (fun A4 hA4 => ?_)
  have hsz4 : SzN A4 31 := by rw [hA4]; infer_instance
  have hdf4 : A4.defers = [] := by rw [hA4]; simp only [df_put]; exact hdf0
  have l1_4 := lookE hA4 1 (es rfl (es rfl (es rfl (es rfl l1_0))))
  have l2_4 := lookE hA4 2 (es rfl (es rfl (es rfl (et rfl))))
  have l4_4 := lookE hA4 4 (es rfl (es rfl (et rfl)))
  clear hA4 hsz0 hdf0 l0_0 l1_0
  refine then_n (hK1 _ _ ?_)
  clear hK1
  refine wp_seq_k (fun K5 hK5 => ?_)
  refine wp_seq_k (fun K6 hK6 => ?_)
  -- region 1
  refine region_in ?_
  refine W_r rfl rfl (VR_ldA rfl l2_4 (hS3.obj 1 rfl hc2) Try.underlying24 rfl (by kernel_rfl)) ?_
  refine W_v rfl rfl (V_mov rfl (es rfl l1_4)) ?_
  refine W_call rfl rfl rfl Try.func37 (by kernel_rfl) rfl (args2 (es rfl (et rfl)) (et rfl)) (kch_c (a := a) (hS3.roC h_cv) ) ?_
  rintro _ w7 ⟨rfl, hP7⟩
  refine ⟨_, rfl, ?_⟩
  have hS7 := hS3.join hP7
  replace hS7 : St w NoX [c3, c2] w7 := hS7
  refine W_v rfl rfl (V_asg rfl (et rfl)) ?_
  refine W_end ?_
  refine gen_Q (fun A8 hA8 => ?_)
  have hsz8 : SzN A8 31 := by rw [hA8]; infer_instance
  have hdf8 : A8.defers = [] := by rw [hA8]; simp only [df_put]; exact hdf4
  have l1_8 := lookE hA8 1 (es rfl (es rfl (es rfl (es rfl l1_4))))
  have l2_8 := lookE hA8 2 (es rfl (es rfl (es rfl (es rfl l2_4))))
  have l4_8 := lookE hA8 4 (es rfl (es rfl (es rfl (es rfl l4_4))))
  have l7_8 := lookE hA8 7 (et rfl)
  clear hA8 hsz4 hdf4 l1_4 l2_4 l4_4
  refine then_n (hK6 _ _ ?_)
  clear hK6
  refine wp_seq_k (fun K9 hK9 => ?_)
  -- region 2
  refine region_in ?_
  refine W_v rfl rfl (V_mov rfl l7_8) ?_
  refine W_v rfl rfl (V_neq rfl (et rfl) rfl) ?_
  refine W_end ?_
  refine gen_Q (fun A10 hA10 => ?_)
  have hsz10 : SzN A10 31 := by rw [hA10]; infer_instance
  have hdf10 : A10.defers = [] := by rw [hA10]; simp only [df_put]; exact hdf8
  have l1_10 := lookE hA10 1 (es rfl (es rfl l1_8))
  have l2_10 := lookE hA10 2 (es rfl (es rfl l2_8))
  have l4_10 := lookE hA10 4 (es rfl (es rfl l4_8))
  have l7_10 := lookE hA10 7 (es rfl (es rfl l7_8))
  have l14_10 := lookE hA10 14 (et rfl)
  clear hA10 hsz8 hdf8 l1_8 l2_8 l4_8 l7_8
  refine then_n (hK9 _ _ ?_)
  clear hK9
  refine cond_dec l14_10 (fun c11 => ?_) (fun c11 => ?_)
  · skip
    refine wp_seq_k (fun K12 hK12 => ?_)
    -- region 3
    refine region_in ?_
    refine W_v rfl rfl (V_bldS (n := 1) (z := .agg #[.slice none 0 0]) rfl (parts0) (by kernel_rfl) (by simp only [List.all_cons, List.all_nil, Bool.and_true] <;> rfl) (by kernel_rfl) (by simp only [List.foldl_cons, List.foldl_nil, Value.cells, List.setIfInBounds_toArray, List.set_cons_succ, List.set_cons_zero] <;> rfl)) ?_
    refine W_v rfl rfl (V_mov rfl (es rfl l7_10)) ?_
    refine W_stAS 0 hS7 rfl hc3 rfl rfl rfl (es rfl (es rfl l4_10)) (es rfl (et rfl)) (by first | (rw [List.all_toArray] <;> rfl) | (simp only [List.all_toArray, List.all_cons, List.all_nil] <;> rfl)) (by rfl) (by kernel_rfl) (fun w13 c13 hc13 hS13 => ?_)
    replace hS13 : St w NoX [c13, c2] w13 := hS13
    refine W_v rfl rfl (V_asg rfl rfl) ?_
    refine W_v rfl rfl (V_asg rfl (es rfl (et rfl))) ?_
    refine W_end ?_
    refine gen_Q (fun A14 hA14 => ?_)
    have hsz14 : SzN A14 31 := by rw [hA14]; infer_instance
    have hdf14 : A14.defers = [] := by rw [hA14]; simp only [df_put]; exact hdf10
    have l4_14 := lookE hA14 4 (es rfl (es rfl (es rfl (es rfl l4_10))))
    have l5_14 := lookE hA14 5 (es rfl (et rfl))
    have l6_14 := lookE hA14 6 (et rfl)
    clear hA14 hsz10 hdf10 l1_10 l2_10 l4_10 l7_10 l14_10
    have hS15 : St w NoX [c13] w13 := hS13.sel [0] (by decide) rfl
    refine then_n (hK12 _ _ ?_)
    clear hK12
    refine wp_ret ?_
    refine then_ret ?_
    refine ret_in (results_3 Try.results18 (rv_cellA l4_14 (hS15.obj 0 rfl hc13) Try.underlying24 rfl (by kernel_rfl)) (rv_tmp l5_14) (rv_tmp l6_14)) hdf14 ?_
    -- leaf T
    obtain ⟨c16, hc16, hS16⟩ := hS15.pnil (s := 1)
    have r0 : hsB c a = false := by unfold hsB; exact decide_eq_false (by omega)
    have r1 : chE c a = (chE c a) := by omega
    rw [r0, r1]
    exact ⟨_, rfl, (hS16.fin1 0 rfl (hc16.trans (by rw [show drT c a = [] by unfold drT; rw [if_pos (by omega)]] <;> rfl)))⟩
  · skip
    obtain ⟨hG, ha⟩ := ch0 (c := c) (a := a) (by omega)
    have hpb := hG.bd
    have hh : chE c a = 0 := by omega
    have hfb := fnd_bd (c := c) (by omega) a
    refine wp_skip ?_
    refine then_n (hK5 _ _ ?_)
    clear hK5
    refine wp_seq_k (fun K17 hK17 => ?_)
    -- region 4
    refine region_in ?_
    refine W_r rfl rfl (VR_ldA rfl l2_10 (hS7.obj 1 rfl hc2) Try.underlying24 rfl (by kernel_rfl)) ?_
    refine W_call rfl rfl rfl Try.func41 (by kernel_rfl) rfl (args1 (et rfl)) (kown_c (hS7.roC h_cv) (by first | omega | with_reducible assumption)) ?_
    rintro _ w18 ⟨v_18, rfl, hP18⟩
    refine ⟨_, rfl, ?_⟩
    obtain ⟨c_18, hc_18, hP18⟩ := gen1 hP18
    have hS18 := hS7.join hP18
    replace hS18 : St w NoX [c_18, c3, c2] w18 := hS18
    refine W_v rfl rfl (V_asg rfl (et rfl)) ?_
    refine W_end ?_
    refine gen_Q (fun A19 hA19 => ?_)
    have hsz19 : SzN A19 31 := by rw [hA19]; infer_instance
    have hdf19 : A19.defers = [] := by rw [hA19]; simp only [df_put]; exact hdf10
    have l1_19 := lookE hA19 1 (es rfl (es rfl (es rfl l1_10)))
    have l4_19 := lookE hA19 4 (es rfl (es rfl (es rfl l4_10)))
    have l8_19 := lookE hA19 8 (et rfl)
    clear hA19 hsz10 hdf10 l1_10 l2_10 l4_10 l7_10 l14_10
    have hS20 : St w NoX [c_18, c3] w18 := hS18.sel [0, 1] (by decide) rfl
    refine then_n (hK17 _ _ ?_)
    clear hK17
    refine wp_seq_k (fun K21 hK21 => ?_)
    -- region 5
    refine region_in ?_
    refine W_v rfl rfl (V_mov rfl l8_19) ?_
    refine W_v rfl rfl (V_mov rfl (es rfl l1_19)) ?_
    refine W_call rfl rfl rfl Try.func38 (by kernel_rfl) rfl (args2 (es rfl (et rfl)) (et rfl)) (kfind_c (a := a) (hS20.chC 0 rfl hc_18).own (by first | with_reducible assumption | with_reducible exact hG.p2 | with_reducible exact hG2.p2 | (rw [hbl]; exact n1) | (simp only [List.length_set, List.length_replicate] <;> assumption)) (by first | omega | with_reducible assumption)) ?_
    rintro _ w22 ⟨rfl, hP22⟩
    refine ⟨_, rfl, ?_⟩
    have hS22 := hS20.join hP22
    replace hS22 : St w NoX [c_18, c3] w22 := hS22
    refine W_v rfl rfl (V_asg rfl (et rfl)) ?_
    refine W_end ?_
    refine gen_Q (fun A23 hA23 => ?_)
    have hsz23 : SzN A23 31 := by rw [hA23]; infer_instance
    have hdf23 : A23.defers = [] := by rw [hA23]; simp only [df_put]; exact hdf19
    have l4_23 := lookE hA23 4 (es rfl (es rfl (es rfl (es rfl l4_19))))
    have l8_23 := lookE hA23 8 (es rfl (es rfl (es rfl (es rfl l8_19))))
    have l9_23 := lookE hA23 9 (et rfl)
    clear hA23 hsz19 hdf19 l1_19 l4_19 l8_19
    refine then_n (hK21 _ _ ?_)
    clear hK21
    refine wp_seq_k (fun K24 hK24 => ?_)
    refine wp_seq_k (fun K25 hK25 => ?_)
    -- region 6
    refine region_in ?_
    refine W_v rfl rfl (V_mov rfl l9_23) ?_
    refine W_v rfl rfl (V_geq rfl (et rfl) rfl) ?_
    refine W_end ?_
    refine gen_Q (fun A26 hA26 => ?_)
    have hsz26 : SzN A26 31 := by rw [hA26]; infer_instance
    have hdf26 : A26.defers = [] := by rw [hA26]; simp only [df_put]; exact hdf23
    have l4_26 := lookE hA26 4 (es rfl (es rfl l4_23))
    have l8_26 := lookE hA26 8 (es rfl (es rfl l8_23))
    have l9_26 := lookE hA26 9 (es rfl (es rfl l9_23))
    have l23_26 := lookE hA26 23 (et rfl)
    clear hA26 hsz23 hdf23 l4_23 l8_23 l9_23
    refine then_n (hK25 _ _ ?_)
    clear hK25
    refine cond_dec l23_26 (fun c27 => ?_) (fun c27 => ?_)
    · skip
      -- region 7
      refine region_in ?_
      refine W_v rfl rfl (V_mov rfl l8_26) ?_
      refine W_v rfl rfl (V_mov rfl (es rfl l9_26)) ?_
      have k28 : ((fnd c a)).toNat < c.length := by first | omega | (simp only [List.length_cons, List.length_nil]; omega) | (simp only [List.length_set]; omega)
      obtain ⟨y28, hy28⟩ := get_some (xs := c) (k := ((fnd c a)).toNat) k28
      obtain ⟨B28, O28, C28, hv28⟩ := (SlN.blk (ow_at (hS22.chq 0 rfl hc_18)) (by first | omega | (simp only [List.length_cons, List.length_nil]; omega) | (simp only [List.length_set]; omega)))
      refine W_v rfl rfl (V_ixS (off := O28 + (((fnd c a)).toNat)) 1 (((fnd c a)).toNat) rfl (es rfl (et rfl)) (et rfl) hv28 (by omega) k28 Try.underlying22 (by kernel_rfl) (congrArg _ (Nat.mul_one _))) ?_
      refine W_stE 0 hS22 rfl hc_18 hv28 rfl rfl rfl (et rfl) rfl (by rfl) rfl (by first | (simp only [List.length_map]; omega) | omega) (by kernel_rfl) (fun w29 c29 hc29 hS29 => ?_)
      replace hc29 : c29 = io .i64 v_18 (c.set (((fnd c a)).toNat) (-1)) := hc29.trans (by simp [io, bo, List.map_set] <;> rfl)
      replace hS29 : St w NoX [c29, c3] w29 := hS29
      refine W_end ?_
      refine gen_Q (fun A30 hA30 => ?_)
      have hsz30 : SzN A30 31 := by rw [hA30]; infer_instance
      have hdf30 : A30.defers = [] := by rw [hA30]; simp only [df_put]; exact hdf26
      have l4_30 := lookE hA30 4 (es rfl (es rfl (es rfl l4_26)))
      have l8_30 := lookE hA30 8 (es rfl (es rfl (es rfl l8_26)))
      have l9_30 := lookE hA30 9 (es rfl (es rfl (es rfl l9_26)))
      clear hA30 hsz26 hdf26 l4_26 l8_26 l9_26 l23_26
      refine then_n (hK24 _ _ ?_)
      clear hK24
      refine wp_seq_k (fun K31 hK31 => ?_)
      -- region 8
      refine region_in ?_
      refine W_v rfl rfl (V_mov rfl l8_30) ?_
      refine W_v rfl rfl (V_bldS (n := 1) (z := .agg #[.slice none 0 0]) rfl (parts1 (et rfl)) (by kernel_rfl) (by simp only [List.all_cons, List.all_nil, SlN_one (ow_at (hS29.chq 0 rfl hc29)), Bool.and_true] <;> rfl) (by kernel_rfl) (by simp only [List.foldl_cons, List.foldl_nil, Value.cells, List.setIfInBounds_toArray, List.set_cons_succ, List.set_cons_zero] <;> rfl)) ?_
      refine W_v rfl rfl (V_mov rfl (es rfl (es rfl l9_30))) ?_
      refine W_v rfl rfl (V_geq rfl (et rfl) rfl) ?_
      refine W_stAS 1 hS29 rfl hc3 rfl rfl rfl (es rfl (es rfl (es rfl (es rfl l4_30)))) (es rfl (es rfl (et rfl))) (by simp only [List.all_toArray, List.all_cons, List.all_nil, SlN_one (ow_at (hS29.chq 0 rfl hc29))] <;> rfl) (by rfl) (by kernel_rfl) (fun w32 c32 hc32 hS32 => ?_)
      replace hS32 : St w NoX [c29, c32] w32 := hS32
      refine W_v rfl rfl (V_asg rfl (et rfl)) ?_
      refine W_v rfl rfl (V_asg rfl rfl) ?_
      refine W_end ?_
      refine gen_Q (fun A33 hA33 => ?_)
      have hsz33 : SzN A33 31 := by rw [hA33]; infer_instance
      have hdf33 : A33.defers = [] := by rw [hA33]; simp only [df_put]; exact hdf30
      have l4_33 := lookE hA33 4 (es rfl (es rfl (es rfl (es rfl (es rfl (es rfl l4_30))))))
      have l5_33 := lookE hA33 5 (es rfl (et rfl))
      have l6_33 := lookE hA33 6 (et rfl)
      clear hA33 hsz30 hdf30 l4_30 l8_30 l9_30
      refine then_n (hK31 _ _ ?_)
      clear hK31
      refine wp_ret ?_
      refine ret_in (results_3 Try.results18 (rv_cellA l4_33 (hS32.obj 1 rfl hc32) Try.underlying24 rfl (by kernel_rfl)) (rv_tmp l5_33) (rv_tmp l6_33)) hdf33 ?_
      -- leaf FT
      have r0 : hsB c a = decide (0 ≤ (fnd c a)) := by unfold hsB; exact decide_eq_decide.2 (by omega)
      have r1 : chE c a = 0 := by omega
      rw [r0, r1]
      exact ⟨_, rfl, (hS32.fin1 0 rfl (hc29.trans (congrArg (io .i64 _) (by unfold drT drpT; rw [if_neg (by omega), if_pos (by omega)]))))⟩
    · skip
      refine wp_skip ?_
      refine then_n (hK24 _ _ ?_)
      clear hK24
      refine wp_seq_k (fun K34 hK34 => ?_)
      -- region 8
      refine region_in ?_
      refine W_v rfl rfl (V_mov rfl l8_26) ?_
      refine W_v rfl rfl (V_bldS (n := 1) (z := .agg #[.slice none 0 0]) rfl (parts1 (et rfl)) (by kernel_rfl) (by simp only [List.all_cons, List.all_nil, SlN_one (ow_at (hS22.chq 0 rfl hc_18)), Bool.and_true] <;> rfl) (by kernel_rfl) (by simp only [List.foldl_cons, List.foldl_nil, Value.cells, List.setIfInBounds_toArray, List.set_cons_succ, List.set_cons_zero] <;> rfl)) ?_
      refine W_v rfl rfl (V_mov rfl (es rfl (es rfl l9_26))) ?_
      refine W_v rfl rfl (V_geq rfl (et rfl) rfl) ?_
      refine W_stAS 1 hS22 rfl hc3 rfl rfl rfl (es rfl (es rfl (es rfl (es rfl l4_26)))) (es rfl (es rfl (et rfl))) (by simp only [List.all_toArray, List.all_cons, List.all_nil, SlN_one (ow_at (hS22.chq 0 rfl hc_18))] <;> rfl) (by rfl) (by kernel_rfl) (fun w35 c35 hc35 hS35 => ?_)
      replace hS35 : St w NoX [c_18, c35] w35 := hS35
      refine W_v rfl rfl (V_asg rfl (et rfl)) ?_
      refine W_v rfl rfl (V_asg rfl rfl) ?_
      refine W_end ?_
      refine gen_Q (fun A36 hA36 => ?_)
      have hsz36 : SzN A36 31 := by rw [hA36]; infer_instance
      have hdf36 : A36.defers = [] := by rw [hA36]; simp only [df_put]; exact hdf26
      have l4_36 := lookE hA36 4 (es rfl (es rfl (es rfl (es rfl (es rfl (es rfl l4_26))))))
      have l5_36 := lookE hA36 5 (es rfl (et rfl))
      have l6_36 := lookE hA36 6 (et rfl)
      clear hA36 hsz26 hdf26 l4_26 l8_26 l9_26 l23_26
      refine then_n (hK34 _ _ ?_)
      clear hK34
      refine wp_ret ?_
      refine ret_in (results_3 Try.results18 (rv_cellA l4_36 (hS35.obj 1 rfl hc35) Try.underlying24 rfl (by kernel_rfl)) (rv_tmp l5_36) (rv_tmp l6_36)) hdf36 ?_
      -- leaf FF
      have r0 : hsB c a = decide (0 ≤ (fnd c a)) := by unfold hsB; exact decide_eq_decide.2 (by omega)
      have r1 : chE c a = 0 := by omega
      rw [r0, r1]
      exact ⟨_, rfl, (hS35.fin1 0 rfl (hc_18.trans (congrArg (io .i64 _) (by unfold drT drpT; rw [if_neg (by omega), if_neg (by omega)]))))⟩

set_option maxHeartbeats 4000000 in
theorem kLen_c {cv : Value} {c : List Int} {w : World} (h_cv : Ro w NoX (il .i64 cv c))  :
    Calls Try.prog 28 #[.agg #[cv]] w fun e w' => e = .returned (.tuple #[.int .i64 (lnN c), .int .i64 (ckS c).2]) ∧ St w NoX [] w' := by
  refine calls_in 23 Try.func28 rfl rfl (by simp) (fun A0 hsz0 hdf0 hargs => ?_)
  have l0_0 := hargs 0 (.agg #[cv]) rfl
  clear hargs; replace hsz0 : SzN A0 23 := ⟨hsz0⟩
  have hS := St.nil w
  have bh_cv := SlN.le (sl_SlN h_cv.at)
  refine wp_seq_k (fun K1 hK1 => ?_)
  -- region 0
  refine region_in ?_
  refine W_boxS (zs := #[cv]) hS rfl rfl rfl l0_0 (by rfl) (fun g2 w2 c2 hc2 hS2 => ?_)
  replace hS2 : St w NoX [c2] w2 := hS2
  refine W_v rfl rfl (V_asg rfl rfl) ?_
  refine W_v rfl rfl (V_asg rfl rfl) ?_
  refine W_end ?_
  refine gen_Q (fun A3 hA3 => ?_)
  have hsz3 : SzN A3 23 := by rw [hA3]; infer_instance
  have hdf3 : A3.defers = [] := by rw [hA3]; simp only [df_put]; exact hdf0
  have l1_3 := lookE hA3 1 (es rfl (es rfl (et rfl)))
  clear hA3 hsz0 hdf0 l0_0
  refine then_n (hK1 _ _ ?_)
  clear hK1
  refine wp_seq_k (fun K4 hK4 => ?_)
  refine wp_seq_k (fun K5 hK5 => ?_)
  -- region 1
  refine region_in ?_
  refine W_r rfl rfl (VR_ldA rfl l1_3 (hS2.obj 0 rfl hc2) Try.underlying24 rfl (by kernel_rfl)) ?_
  refine W_call rfl rfl rfl Try.func26 (by kernel_rfl) rfl (args1 (et rfl)) (kCk_c (hS2.roC h_cv) ) ?_
  rintro _ w6 ⟨rfl, hP6⟩
  refine ⟨_, rfl, ?_⟩
  have hS6 := hS2.join hP6
  replace hS6 : St w NoX [c2] w6 := hS6
  refine W_v rfl rfl (V_mov rfl (et rfl)) ?_
  refine W_v rfl rfl (V_ext (v := .int .i64 ((ckS c).1)) rfl (et rfl) rfl) ?_
  refine W_v rfl rfl (V_ext (v := .int .i64 ((ckS c).2)) rfl (es rfl (et rfl)) rfl) ?_
  refine W_v rfl rfl (V_asg rfl (es rfl (et rfl))) ?_
  refine W_v rfl rfl (V_asg rfl (es rfl (et rfl))) ?_
  refine W_end ?_
  refine gen_Q (fun A7 hA7 => ?_)
  have hsz7 : SzN A7 23 := by rw [hA7]; infer_instance
  have hdf7 : A7.defers = [] := by rw [hA7]; simp only [df_put]; exact hdf3
  have l1_7 := lookE hA7 1 (es rfl (es rfl (es rfl (es rfl (es rfl (es rfl (es rfl l1_3)))))))
  have l5_7 := lookE hA7 5 (et rfl)
  clear hA7 hsz3 hdf3 l1_3
  refine then_n (hK5 _ _ ?_)
  clear hK5
  refine wp_seq_k (fun K8 hK8 => ?_)
  -- region 2
  refine region_in ?_
  refine W_v rfl rfl (V_mov rfl l5_7) ?_
  refine W_v rfl rfl (V_neq rfl (et rfl) rfl) ?_
  refine W_end ?_
  refine gen_Q (fun A9 hA9 => ?_)
  have hsz9 : SzN A9 23 := by rw [hA9]; infer_instance
  have hdf9 : A9.defers = [] := by rw [hA9]; simp only [df_put]; exact hdf7
  have l1_9 := lookE hA9 1 (es rfl (es rfl l1_7))
  have l5_9 := lookE hA9 5 (es rfl (es rfl l5_7))
  have l14_9 := lookE hA9 14 (et rfl)
  clear hA9 hsz7 hdf7 l1_7 l5_7
  refine then_n (hK8 _ _ ?_)
  clear hK8
  refine cond_dec l14_9 (fun c10 => ?_) (fun c10 => ?_)
  · skip
    refine wp_seq_k (fun K11 hK11 => ?_)
    -- region 3
    refine region_in ?_
    refine W_v rfl rfl (V_mov rfl l5_9) ?_
    refine W_v rfl rfl (V_asg rfl rfl) ?_
    refine W_v rfl rfl (V_asg rfl (es rfl (et rfl))) ?_
    refine W_end ?_
    refine gen_Q (fun A12 hA12 => ?_)
    have hsz12 : SzN A12 23 := by rw [hA12]; infer_instance
    have hdf12 : A12.defers = [] := by rw [hA12]; simp only [df_put]; exact hdf9
    have l2_12 := lookE hA12 2 (es rfl (et rfl))
    have l3_12 := lookE hA12 3 (et rfl)
    clear hA12 hsz9 hdf9 l1_9 l5_9 l14_9
    have hS13 : St w NoX [] w6 := hS6.sel [] (by decide) rfl
    refine then_n (hK11 _ _ ?_)
    clear hK11
    refine wp_ret ?_
    refine then_ret ?_
    refine ret_in (results_2 Try.results28 (rv_tmp l2_12) (rv_tmp l3_12)) hdf12 ?_
    -- leaf T
    have r0 : lnN c = 0 := by unfold lnN; rw [if_pos (by omega)]
    rw [r0]
    exact ⟨rfl, hS13.fin0⟩
  · skip
    have hG : Gd c := ck_iff.1 (by omega)
    have hpb := hG.bd
    refine wp_skip ?_
    refine then_n (hK4 _ _ ?_)
    clear hK4
    refine wp_seq_k (fun K14 hK14 => ?_)
    -- region 4
    refine region_in ?_
    refine W_v rfl rfl (V_fa (off' := 0) rfl l1_9 Try.underlying24 rfl (by decide +kernel) rfl) ?_
    refine W_r rfl rfl (VR_ldC rfl (et rfl) (cell_box (v := cv) (hS6.obj 0 rfl hc2) rfl) Try.underlying22 rfl) ?_
    refine W_call rfl rfl rfl Try.func54 (by kernel_rfl) rfl (args1 (et rfl)) (kcnt_c (hS6.roC h_cv) ) ?_
    rintro _ w15 ⟨rfl, hP15⟩
    refine ⟨_, rfl, ?_⟩
    have hS15 := hS6.join hP15
    replace hS15 : St w NoX [c2] w15 := hS15
    refine W_v rfl rfl (V_mov rfl (et rfl)) ?_
    refine W_v rfl rfl (V_ext (v := .int .i64 (((usd c : Nat) : Int))) rfl (et rfl) rfl) ?_
    refine W_v rfl rfl (V_ext (v := .int .i64 (((adr c : Nat) : Int))) rfl (es rfl (et rfl)) rfl) ?_
    refine W_v rfl rfl (V_asg rfl (es rfl (et rfl))) ?_
    refine W_v rfl rfl (V_asg rfl (es rfl (et rfl))) ?_
    refine W_end ?_
    refine gen_Q (fun A16 hA16 => ?_)
    have hsz16 : SzN A16 23 := by rw [hA16]; infer_instance
    have hdf16 : A16.defers = [] := by rw [hA16]; simp only [df_put]; exact hdf9
    have l7_16 := lookE hA16 7 (et rfl)
    clear hA16 hsz9 hdf9 l1_9 l5_9 l14_9
    have hS17 : St w NoX [] w15 := hS15.sel [] (by decide) rfl
    refine then_n (hK14 _ _ ?_)
    clear hK14
    refine wp_seq_k (fun K18 hK18 => ?_)
    -- region 5
    refine region_in ?_
    refine W_v rfl rfl (V_mov rfl l7_16) ?_
    refine W_v rfl rfl (V_asg rfl (et rfl)) ?_
    refine W_v rfl rfl (V_asg rfl rfl) ?_
    refine W_end ?_
    refine gen_Q (fun A19 hA19 => ?_)
    have hsz19 : SzN A19 23 := by rw [hA19]; infer_instance
    have hdf19 : A19.defers = [] := by rw [hA19]; simp only [df_put]; exact hdf16
    have l2_19 := lookE hA19 2 (es rfl (et rfl))
    have l3_19 := lookE hA19 3 (et rfl)
    clear hA19 hsz16 hdf16 l7_16
    refine then_n (hK18 _ _ ?_)
    clear hK18
    refine wp_ret ?_
    refine ret_in (results_2 Try.results28 (rv_tmp l2_19) (rv_tmp l3_19)) hdf19 ?_
    -- leaf F
    have r0 : lnN c = ((adr c : Nat) : Int) := by unfold lnN; rw [if_neg (by omega)]
    have r1 : (ckS c).2 = 0 := by omega
    rw [r0, r1]
    exact ⟨rfl, hS17.fin0⟩

set_option maxHeartbeats 4000000 in
theorem kList_c {cv : Value} {c : List Int} {w : World} (h_cv : Ro w NoX (il .i64 cv c))  :
    Calls Try.prog 32 #[.agg #[cv]] w fun e w' => ∃ v, e = .returned (.tuple #[v, .int .i64 (ckS c).2]) ∧ St w NoX [io .i64 (v) (lsT c)] w' := by
  refine calls_in 17 Try.func32 rfl rfl (by simp) (fun A0 hsz0 hdf0 hargs => ?_)
  have l0_0 := hargs 0 (.agg #[cv]) rfl
  clear hargs; replace hsz0 : SzN A0 17 := ⟨hsz0⟩
  have hS := St.nil w
  have bh_cv := SlN.le (sl_SlN h_cv.at)
  refine wp_seq_k (fun K1 hK1 => ?_)
  -- region 0
  refine region_in ?_
  refine W_boxS (zs := #[cv]) hS rfl rfl rfl l0_0 (by rfl) (fun g2 w2 c2 hc2 hS2 => ?_)
  replace hS2 : St w NoX [c2] w2 := hS2
  refine W_v rfl rfl (V_asg rfl rfl) ?_
  refine W_v rfl rfl (V_asg rfl rfl) ?_
  refine W_end ?_
  refine gen_Q (fun A3 hA3 => ?_)
  have hsz3 : SzN A3 17 := by rw [hA3]; infer_instance
  have hdf3 : A3.defers = [] := by rw [hA3]; simp only [df_put]; exact hdf0
  have l1_3 := lookE hA3 1 (es rfl (es rfl (et rfl)))
  clear hA3 hsz0 hdf0 l0_0
  refine then_n (hK1 _ _ ?_)
  clear hK1
  refine wp_seq_k (fun K4 hK4 => ?_)
  refine wp_seq_k (fun K5 hK5 => ?_)
  -- region 1
  refine region_in ?_
  refine W_r rfl rfl (VR_ldA rfl l1_3 (hS2.obj 0 rfl hc2) Try.underlying24 rfl (by kernel_rfl)) ?_
  refine W_call rfl rfl rfl Try.func26 (by kernel_rfl) rfl (args1 (et rfl)) (kCk_c (hS2.roC h_cv) ) ?_
  rintro _ w6 ⟨rfl, hP6⟩
  refine ⟨_, rfl, ?_⟩
  have hS6 := hS2.join hP6
  replace hS6 : St w NoX [c2] w6 := hS6
  refine W_v rfl rfl (V_mov rfl (et rfl)) ?_
  refine W_v rfl rfl (V_ext (v := .int .i64 ((ckS c).1)) rfl (et rfl) rfl) ?_
  refine W_v rfl rfl (V_ext (v := .int .i64 ((ckS c).2)) rfl (es rfl (et rfl)) rfl) ?_
  refine W_v rfl rfl (V_asg rfl (es rfl (et rfl))) ?_
  refine W_v rfl rfl (V_asg rfl (es rfl (et rfl))) ?_
  refine W_end ?_
  refine gen_Q (fun A7 hA7 => ?_)
  have hsz7 : SzN A7 17 := by rw [hA7]; infer_instance
  have hdf7 : A7.defers = [] := by rw [hA7]; simp only [df_put]; exact hdf3
  have l1_7 := lookE hA7 1 (es rfl (es rfl (es rfl (es rfl (es rfl (es rfl (es rfl l1_3)))))))
  have l5_7 := lookE hA7 5 (et rfl)
  clear hA7 hsz3 hdf3 l1_3
  refine then_n (hK5 _ _ ?_)
  clear hK5
  refine wp_seq_k (fun K8 hK8 => ?_)
  -- region 2
  refine region_in ?_
  refine W_v rfl rfl (V_mov rfl l5_7) ?_
  refine W_v rfl rfl (V_neq rfl (et rfl) rfl) ?_
  refine W_end ?_
  refine gen_Q (fun A9 hA9 => ?_)
  have hsz9 : SzN A9 17 := by rw [hA9]; infer_instance
  have hdf9 : A9.defers = [] := by rw [hA9]; simp only [df_put]; exact hdf7
  have l1_9 := lookE hA9 1 (es rfl (es rfl l1_7))
  have l5_9 := lookE hA9 5 (es rfl (es rfl l5_7))
  have l12_9 := lookE hA9 12 (et rfl)
  clear hA9 hsz7 hdf7 l1_7 l5_7
  refine then_n (hK8 _ _ ?_)
  clear hK8
  refine cond_dec l12_9 (fun c10 => ?_) (fun c10 => ?_)
  · skip
    refine wp_seq_k (fun K11 hK11 => ?_)
    -- region 3
    refine region_in ?_
    refine W_v rfl rfl (V_mov rfl l5_9) ?_
    refine W_v rfl rfl (V_asg rfl rfl) ?_
    refine W_v rfl rfl (V_asg rfl (es rfl (et rfl))) ?_
    refine W_end ?_
    refine gen_Q (fun A12 hA12 => ?_)
    have hsz12 : SzN A12 17 := by rw [hA12]; infer_instance
    have hdf12 : A12.defers = [] := by rw [hA12]; simp only [df_put]; exact hdf9
    have l2_12 := lookE hA12 2 (es rfl (et rfl))
    have l3_12 := lookE hA12 3 (et rfl)
    clear hA12 hsz9 hdf9 l1_9 l5_9 l12_9
    have hS13 : St w NoX [] w6 := hS6.sel [] (by decide) rfl
    refine then_n (hK11 _ _ ?_)
    clear hK11
    refine wp_ret ?_
    refine then_ret ?_
    refine ret_in (results_2 Try.results32 (rv_tmp l2_12) (rv_tmp l3_12)) hdf12 ?_
    -- leaf T
    obtain ⟨c14, hc14, hS14⟩ := hS13.pnil (s := 1)
    exact ⟨_, rfl, (hS14.fin1 0 rfl (hc14.trans (by rw [show lsT c = [] by unfold lsT; rw [if_pos (by omega)]] <;> rfl)))⟩
  · skip
    have hG : Gd c := ck_iff.1 (by omega)
    have hpb := hG.bd
    refine wp_skip ?_
    refine then_n (hK4 _ _ ?_)
    clear hK4
    refine wp_seq_k (fun K15 hK15 => ?_)
    -- region 4
    refine region_in ?_
    refine W_v rfl rfl (V_fa (off' := 0) rfl l1_9 Try.underlying24 rfl (by decide +kernel) rfl) ?_
    refine W_r rfl rfl (VR_ldC rfl (et rfl) (cell_box (v := cv) (hS6.obj 0 rfl hc2) rfl) Try.underlying22 rfl) ?_
    refine W_call rfl rfl rfl Try.func49 (by kernel_rfl) rfl (args1 (et rfl)) (ksr_c (hS6.roC h_cv) (by first | omega | with_reducible assumption) (by first | omega | with_reducible assumption) (by first | with_reducible assumption | with_reducible exact hG.rng | with_reducible exact p1.rng | with_reducible exact hr2) (by first | with_reducible assumption | with_reducible exact hG.dst | with_reducible exact p1.dst | with_reducible exact hd2)) ?_
    rintro _ w16 ⟨v_16, rfl, hP16⟩
    refine ⟨_, rfl, ?_⟩
    obtain ⟨c_16, hc_16, hP16⟩ := gen1 hP16
    have hS16 := hS6.join hP16
    replace hS16 : St w NoX [c_16, c2] w16 := hS16
    refine W_v rfl rfl (V_asg rfl (et rfl)) ?_
    refine W_v rfl rfl (V_asg rfl rfl) ?_
    refine W_end ?_
    refine gen_Q (fun A17 hA17 => ?_)
    have hsz17 : SzN A17 17 := by rw [hA17]; infer_instance
    have hdf17 : A17.defers = [] := by rw [hA17]; simp only [df_put]; exact hdf9
    have l2_17 := lookE hA17 2 (es rfl (et rfl))
    have l3_17 := lookE hA17 3 (et rfl)
    clear hA17 hsz9 hdf9 l1_9 l5_9 l12_9
    have hS18 : St w NoX [c_16] w16 := hS16.sel [0] (by decide) rfl
    refine then_n (hK15 _ _ ?_)
    clear hK15
    refine wp_ret ?_
    refine ret_in (results_2 Try.results32 (rv_tmp l2_17) (rv_tmp l3_17)) hdf17 ?_
    -- leaf F
    have r0 : (ckS c).2 = 0 := by omega
    rw [r0]
    exact ⟨_, rfl, (hS18.fin1 0 rfl (hc_16.trans (congrArg (io .i64 _) (by unfold lsT; rw [if_neg (by omega)]))))⟩

set_option maxHeartbeats 4000000 in
theorem kRange_c {cv : Value} {c : List Int} {f : Int} {t : Int} {w : World} (h_cv : Ro w NoX (il .i64 cv c))  :
    Calls Try.prog 34 #[.agg #[cv], .int .i64 f, .int .i64 t] w fun e w' => ∃ v, e = .returned (.tuple #[v, .int .i64 (ckS c).2]) ∧ St w NoX [io .i64 (v) (rgT c f t)] w' := by
  refine calls_in 19 Try.func34 rfl rfl (by simp) (fun A0 hsz0 hdf0 hargs => ?_)
  have l0_0 := hargs 0 (.agg #[cv]) rfl
  have l1_0 := hargs 1 (.int .i64 f) rfl
  have l2_0 := hargs 2 (.int .i64 t) rfl
  clear hargs; replace hsz0 : SzN A0 19 := ⟨hsz0⟩
  have hS := St.nil w
  have bh_cv := SlN.le (sl_SlN h_cv.at)
  refine wp_seq_k (fun K1 hK1 => ?_)
  -- region 0
  refine region_in ?_
  refine W_boxS (zs := #[cv]) hS rfl rfl rfl l0_0 (by rfl) (fun g2 w2 c2 hc2 hS2 => ?_)
  replace hS2 : St w NoX [c2] w2 := hS2
  refine W_boxS (zs := #[.int .i64 (f)]) hS2 rfl rfl rfl (es rfl l1_0) (by rfl) (fun g3 w3 c3 hc3 hS3 => ?_)
  replace hS3 : St w NoX [c3, c2] w3 := hS3
  refine W_boxS (zs := #[.int .i64 (t)]) hS3 rfl rfl rfl (es rfl (es rfl l2_0)) (by rfl) (fun g4 w4 c4 hc4 hS4 => ?_)
  replace hS4 : St w NoX [c4, c3, c2] w4 := hS4
  refine W_v rfl rfl (V_asg rfl rfl) ?_
  refine W_v rfl rfl (V_asg rfl rfl) ?_
  refine W_end ?_
  refine gen_Q (fun A5 hA5 => ?_)
  have hsz5 : SzN A5 19 := by rw [hA5]; infer_instance
  have hdf5 : A5.defers = [] := by rw [hA5]; simp only [df_put]; exact hdf0
  have l3_5 := lookE hA5 3 (es rfl (es rfl (es rfl (es rfl (et rfl)))))
  have l4_5 := lookE hA5 4 (es rfl (es rfl (es rfl (et rfl))))
  have l5_5 := lookE hA5 5 (es rfl (es rfl (et rfl)))
  clear hA5 hsz0 hdf0 l0_0 l1_0 l2_0
  refine then_n (hK1 _ _ ?_)
  clear hK1
  refine wp_seq_k (fun K6 hK6 => ?_)
  -- region 1
  refine region_in ?_
  refine W_r rfl rfl (VR_ldA rfl l3_5 (hS4.obj 2 rfl hc2) Try.underlying24 rfl (by kernel_rfl)) ?_
  refine W_call rfl rfl rfl Try.func32 (by kernel_rfl) rfl (args1 (et rfl)) (kList_c (hS4.roC h_cv) ) ?_
  rintro _ w7 ⟨v_7, rfl, hP7⟩
  refine ⟨_, rfl, ?_⟩
  obtain ⟨c_7, hc_7, hP7⟩ := gen1 hP7
  have hS7 := hS4.join hP7
  replace hS7 : St w NoX [c_7, c4, c3, c2] w7 := hS7
  refine W_v rfl rfl (V_mov rfl (et rfl)) ?_
  refine W_v rfl rfl (V_ext (v := v_7) rfl (et rfl) rfl) ?_
  refine W_v rfl rfl (V_ext (v := .int .i64 ((ckS c).2)) rfl (es rfl (et rfl)) rfl) ?_
  refine W_v rfl rfl (V_asg rfl (es rfl (et rfl))) ?_
  refine W_v rfl rfl (V_asg rfl (es rfl (et rfl))) ?_
  refine W_end ?_
  refine gen_Q (fun A8 hA8 => ?_)
  have hsz8 : SzN A8 19 := by rw [hA8]; infer_instance
  have hdf8 : A8.defers = [] := by rw [hA8]; simp only [df_put]; exact hdf5
  have l4_8 := lookE hA8 4 (es rfl (es rfl (es rfl (es rfl (es rfl (es rfl (es rfl l4_5)))))))
  have l5_8 := lookE hA8 5 (es rfl (es rfl (es rfl (es rfl (es rfl (es rfl (es rfl l5_5)))))))
  have l8_8 := lookE hA8 8 (es rfl (et rfl))
  have l9_8 := lookE hA8 9 (et rfl)
  clear hA8 hsz5 hdf5 l3_5 l4_5 l5_5
  have hS9 : St w NoX [c_7, c4, c3] w7 := hS7.sel [0, 1, 2] (by decide) rfl
  refine then_n (hK6 _ _ ?_)
  clear hK6
  refine wp_seq_k (fun K10 hK10 => ?_)
  -- region 2
  refine region_in ?_
  refine W_v rfl rfl (V_mov rfl l8_8) ?_
  refine W_v rfl rfl (V_mkf rfl (args0) (args2 (es rfl l4_8) (es rfl l5_8))) ?_
  obtain ⟨Y11, hP11, hR11, hF11, hB11⟩ := St.call (pre := [c_7]) (fr := [c4, c3]) hS9
  rw [hc_7] at hP11
  refine W_call rfl rfl rfl Try.func55 (by kernel_rfl) rfl (args2 (es rfl (et rfl)) (et rfl)) (kdlr_c (f := f) (gf := g3) (t := t) (gt := g4) (hc3 ▸ hF11 1 _ rfl) (hc4 ▸ hF11 0 _ rfl) hP11 ) ?_
  rintro _ w12 ⟨u_12, rfl, hcap_12, hP12⟩
  refine ⟨_, rfl, ?_⟩
  obtain ⟨c_12, hc_12, hP12⟩ := gen1 hP12
  have hS12 := hB11 _ _ hP12
  replace hS12 : St w NoX [c_12, c4, c3] w12 := hS12
  refine W_v rfl rfl (V_mov rfl (es rfl (es rfl (es rfl l9_8)))) ?_
  refine W_v rfl rfl (V_asg rfl (es rfl (et rfl))) ?_
  refine W_v rfl rfl (V_asg rfl (es rfl (et rfl))) ?_
  refine W_end ?_
  refine gen_Q (fun A13 hA13 => ?_)
  have hsz13 : SzN A13 19 := by rw [hA13]; infer_instance
  have hdf13 : A13.defers = [] := by rw [hA13]; simp only [df_put]; exact hdf8
  have l6_13 := lookE hA13 6 (es rfl (et rfl))
  have l7_13 := lookE hA13 7 (et rfl)
  clear hA13 hsz8 hdf8 l4_8 l5_8 l8_8 l9_8
  have hS14 : St w NoX [c_12] w12 := hS12.sel [0] (by decide) rfl
  refine then_n (hK10 _ _ ?_)
  clear hK10
  refine wp_ret ?_
  refine ret_in (results_2 Try.results34 (rv_tmp l6_13) (rv_tmp l7_13)) hdf13 ?_
  -- leaf 
  exact ⟨_, rfl, (hS14.fin1 0 rfl (hc_12))⟩

set_option maxHeartbeats 4000000 in
theorem kcf_c {rv : Value} {l : List Int} {w : World} (h_rv : Ro w NoX (il .i64 rv l))  :
    Calls Try.prog 44 #[rv, .func (.func 45) #[] #[]] w fun e w' => e = .returned (.bool (decide (0 ≤ idxF (fun a => !decide (1 ≤ a ∧ a ≤ 1600)) l))) ∧ St w NoX [] w' := by
  refine calls_in 9 Try.func44 rfl rfl (by simp) (fun A0 hsz0 hdf0 hargs => ?_)
  have l0_0 := hargs 0 (rv) rfl
  have l1_0 := hargs 1 (.func (.func 45) #[] #[]) rfl
  clear hargs; replace hsz0 : SzN A0 9 := ⟨hsz0⟩
  have hS := St.nil w
  have bh_rv := SlN.le (sl_SlN h_rv.at)
  refine wp_seq_k (fun K1 hK1 => ?_)
  -- region 0
  refine region_in ?_
  refine W_v rfl rfl (V_asg rfl rfl) ?_
  refine W_end ?_
  refine gen_Q (fun A2 hA2 => ?_)
  have hsz2 : SzN A2 9 := by rw [hA2]; infer_instance
  have hdf2 : A2.defers = [] := by rw [hA2]; simp only [df_put]; exact hdf0
  have l0_2 := lookE hA2 0 (es rfl l0_0)
  have l1_2 := lookE hA2 1 (es rfl l1_0)
  clear hA2 hsz0 hdf0 l0_0 l1_0
  refine then_n (hK1 _ _ ?_)
  clear hK1
  refine wp_seq_k (fun K3 hK3 => ?_)
  -- region 1
  refine region_in ?_
  refine W_v rfl rfl (V_mov rfl l0_2) ?_
  refine W_v rfl rfl (V_mov rfl (es rfl l1_2)) ?_
  refine W_call rfl rfl rfl Try.func59 (by kernel_rfl) rfl (args2 (es rfl (et rfl)) (et rfl)) (kixo_c (hS.roC h_rv) ) ?_
  rintro _ w4 ⟨rfl, hP4⟩
  refine ⟨_, rfl, ?_⟩
  have hS4 := hS.join hP4
  replace hS4 : St w NoX [] w4 := hS4
  refine W_v rfl rfl (V_geq rfl (et rfl) rfl) ?_
  refine W_v rfl rfl (V_asg rfl (et rfl)) ?_
  refine W_end ?_
  refine gen_Q (fun A5 hA5 => ?_)
  have hsz5 : SzN A5 9 := by rw [hA5]; infer_instance
  have hdf5 : A5.defers = [] := by rw [hA5]; simp only [df_put]; exact hdf2
  have l4_5 := lookE hA5 4 (et rfl)
  clear hA5 hsz2 hdf2 l0_2 l1_2
  refine then_n (hK3 _ _ ?_)
  clear hK3
  refine wp_ret ?_
  refine ret_in (results_1 Try.results44 (rv_tmp l4_5)) hdf5 ?_
  -- leaf 
  exact ⟨rfl, hS4.fin0⟩

set_option maxHeartbeats 4000000 in
theorem kOf_c {rv : Value} {l : List Int} {w : World} (h_rv : Ro w NoX (il .i64 rv l))  :
    Calls Try.prog 20 #[rv] w fun e w' => ∃ v, e = .returned (.tuple #[.agg #[v], .int .i64 (ofE l)]) ∧ St w NoX [io .i64 (v) (ofT l)] w' := by
  refine calls_in 16 Try.func20 rfl rfl (by simp) (fun A0 hsz0 hdf0 hargs => ?_)
  have l0_0 := hargs 0 (rv) rfl
  clear hargs; replace hsz0 : SzN A0 16 := ⟨hsz0⟩
  have hS := St.nil w
  have bh_rv := SlN.le (sl_SlN h_rv.at)
  refine wp_seq_k (fun K1 hK1 => ?_)
  -- region 0
  refine region_in ?_
  refine W_allocS (z := .agg #[.slice none 0 0]) (zs := #[.slice none 0 0]) hS rfl rfl rfl (by kernel_rfl) (by rfl) (fun g2 w2 c2 hc2 hS2 => ?_)
  replace hS2 : St w NoX [c2] w2 := hS2
  refine W_v rfl rfl (V_asg rfl rfl) ?_
  refine W_end ?_
  refine gen_Q (fun A3 hA3 => ?_)
  have hsz3 : SzN A3 16 := by rw [hA3]; infer_instance
  have hdf3 : A3.defers = [] := by rw [hA3]; simp only [df_put]; exact hdf0
  have l0_3 := lookE hA3 0 (es rfl (es rfl l0_0))
  have l2_3 := lookE hA3 2 (es rfl (et rfl))
  clear hA3 hsz0 hdf0 l0_0
  refine then_n (hK1 _ _ ?_)
  clear hK1
  refine wp_seq_k (fun K4 hK4 => ?_)
  refine wp_seq_k (fun K5 hK5 => ?_)
  -- region 1
  refine region_in ?_
  refine W_v rfl rfl (V_mov rfl l0_3) ?_
  refine W_v rfl rfl (V_lenS rfl (et rfl) (sl_SlN h_rv.at) Try.underlying22) ?_
  refine W_v rfl rfl (V_gtr rfl (et rfl) rfl) ?_
  refine W_end ?_
  refine gen_Q (fun A6 hA6 => ?_)
  have hsz6 : SzN A6 16 := by rw [hA6]; infer_instance
  have hdf6 : A6.defers = [] := by rw [hA6]; simp only [df_put]; exact hdf3
  have l0_6 := lookE hA6 0 (es rfl (es rfl (es rfl l0_3)))
  have l2_6 := lookE hA6 2 (es rfl (es rfl (es rfl l2_3)))
  have l6_6 := lookE hA6 6 (et rfl)
  clear hA6 hsz3 hdf3 l0_3 l2_3
  refine then_n (hK5 _ _ ?_)
  clear hK5
  refine cond_dec l6_6 (fun c7 => ?_) (fun c7 => ?_)
  · skip
    refine wp_seq_k (fun K8 hK8 => ?_)
    -- region 2
    refine region_in ?_
    refine W_v rfl rfl (V_bldS (n := 1) (z := .agg #[.slice none 0 0]) rfl (parts0) (by kernel_rfl) (by simp only [List.all_cons, List.all_nil, Bool.and_true] <;> rfl) (by kernel_rfl) (by simp only [List.foldl_cons, List.foldl_nil, Value.cells, List.setIfInBounds_toArray, List.set_cons_succ, List.set_cons_zero] <;> rfl)) ?_
    refine W_stAS 0 hS2 rfl hc2 rfl rfl rfl (es rfl l2_6) (et rfl) (by first | (rw [List.all_toArray] <;> rfl) | (simp only [List.all_toArray, List.all_cons, List.all_nil] <;> rfl)) (by rfl) (by kernel_rfl) (fun w9 c9 hc9 hS9 => ?_)
    replace hS9 : St w NoX [c9] w9 := hS9
    refine W_v rfl rfl (V_asg rfl rfl) ?_
    refine W_end ?_
    refine gen_Q (fun A10 hA10 => ?_)
    have hsz10 : SzN A10 16 := by rw [hA10]; infer_instance
    have hdf10 : A10.defers = [] := by rw [hA10]; simp only [df_put]; exact hdf6
    have l2_10 := lookE hA10 2 (es rfl (es rfl l2_6))
    have l3_10 := lookE hA10 3 (et rfl)
    clear hA10 hsz6 hdf6 l0_6 l2_6 l6_6
    refine then_n (hK8 _ _ ?_)
    clear hK8
    refine wp_ret ?_
    refine then_ret ?_
    refine ret_in (results_2 Try.results20 (rv_cellA l2_10 (hS9.obj 0 rfl hc9) Try.underlying24 rfl (by kernel_rfl)) (rv_tmp l3_10)) hdf10 ?_
    -- leaf T
    obtain ⟨c11, hc11, hS11⟩ := hS9.pnil (s := 1)
    have h : ofE l = 3 := of_long (by omega)
    have h2 : ofT l = [] := by unfold ofT; rw [if_pos (by rw [h]; decide)]
    rw [h]
    exact ⟨_, rfl, (hS11.fin1 0 rfl (hc11.trans (by rw [h2] <;> rfl)))⟩
  · skip
    refine wp_skip ?_
    refine then_n (hK4 _ _ ?_)
    clear hK4
    refine wp_seq_k (fun K12 hK12 => ?_)
    refine wp_seq_k (fun K13 hK13 => ?_)
    -- region 3
    refine region_in ?_
    refine W_v rfl rfl (V_mov rfl l0_6) ?_
    refine W_call rfl rfl rfl Try.func44 (by kernel_rfl) rfl (args2 (et rfl) rfl) (kcf_c (hS2.roC h_rv) ) ?_
    rintro _ w14 ⟨rfl, hP14⟩
    refine ⟨_, rfl, ?_⟩
    have hS14 := hS2.join hP14
    replace hS14 : St w NoX [c2] w14 := hS14
    refine W_end ?_
    refine gen_Q (fun A15 hA15 => ?_)
    have hsz15 : SzN A15 16 := by rw [hA15]; infer_instance
    have hdf15 : A15.defers = [] := by rw [hA15]; simp only [df_put]; exact hdf6
    have l0_15 := lookE hA15 0 (es rfl (es rfl l0_6))
    have l2_15 := lookE hA15 2 (es rfl (es rfl l2_6))
    have l9_15 := lookE hA15 9 (et rfl)
    clear hA15 hsz6 hdf6 l0_6 l2_6 l6_6
    refine then_n (hK13 _ _ ?_)
    clear hK13
    refine cond_dec l9_15 (fun c16 => ?_) (fun c16 => ?_)
    · skip
      refine wp_seq_k (fun K17 hK17 => ?_)
      -- region 4
      refine region_in ?_
      refine W_v rfl rfl (V_bldS (n := 1) (z := .agg #[.slice none 0 0]) rfl (parts0) (by kernel_rfl) (by simp only [List.all_cons, List.all_nil, Bool.and_true] <;> rfl) (by kernel_rfl) (by simp only [List.foldl_cons, List.foldl_nil, Value.cells, List.setIfInBounds_toArray, List.set_cons_succ, List.set_cons_zero] <;> rfl)) ?_
      refine W_stAS 0 hS14 rfl hc2 rfl rfl rfl (es rfl l2_15) (et rfl) (by first | (rw [List.all_toArray] <;> rfl) | (simp only [List.all_toArray, List.all_cons, List.all_nil] <;> rfl)) (by rfl) (by kernel_rfl) (fun w18 c18 hc18 hS18 => ?_)
      replace hS18 : St w NoX [c18] w18 := hS18
      refine W_v rfl rfl (V_asg rfl rfl) ?_
      refine W_end ?_
      refine gen_Q (fun A19 hA19 => ?_)
      have hsz19 : SzN A19 16 := by rw [hA19]; infer_instance
      have hdf19 : A19.defers = [] := by rw [hA19]; simp only [df_put]; exact hdf15
      have l2_19 := lookE hA19 2 (es rfl (es rfl l2_15))
      have l3_19 := lookE hA19 3 (et rfl)
      clear hA19 hsz15 hdf15 l0_15 l2_15 l9_15
      refine then_n (hK17 _ _ ?_)
      clear hK17
      refine wp_ret ?_
      refine then_ret ?_
      refine ret_in (results_2 Try.results20 (rv_cellA l2_19 (hS18.obj 0 rfl hc18) Try.underlying24 rfl (by kernel_rfl)) (rv_tmp l3_19)) hdf19 ?_
      -- leaf FT
      obtain ⟨c20, hc20, hS20⟩ := hS18.pnil (s := 1)
      have h : ofE l = 7 := of_rng (by omega) (by have hc := c16; simpa using hc)
      have h2 : ofT l = [] := by unfold ofT; rw [if_pos (by rw [h]; decide)]
      rw [h]
      exact ⟨_, rfl, (hS20.fin1 0 rfl (hc20.trans (by rw [h2] <;> rfl)))⟩
    · skip
      have hlr := idxO (by have hc := c16; simpa using hc)
      refine wp_skip ?_
      refine then_n (hK12 _ _ ?_)
      clear hK12
      refine wp_seq_k (fun K21 hK21 => ?_)
      -- region 5
      refine region_in ?_
      refine W_call rfl rfl rfl Try.func30 (by kernel_rfl) rfl (args0) (knew_c  ) ?_
      rintro _ w22 ⟨v_22, rfl, hP22⟩
      refine ⟨_, rfl, ?_⟩
      obtain ⟨c_22, hc_22, hP22⟩ := gen1 hP22
      have hS22 := hS14.join hP22
      replace hS22 : St w NoX [c_22, c2] w22 := hS22
      refine W_v rfl rfl (V_fld (v := v_22) rfl (et rfl) Try.underlying24 rfl Try.underlying22 rfl rfl) ?_
      refine W_v rfl rfl (V_mov rfl (es rfl (es rfl l0_15))) ?_
      obtain ⟨Y23, hP23, hR23, hF23, hB23⟩ := St.call (pre := [c_22]) (fr := [c2]) hS22
      rw [hc_22] at hP23
      refine W_call rfl rfl rfl Try.func47 (by kernel_rfl) rfl (args2 (es rfl (et rfl)) (et rfl)) (kall_c (hR23 _ h_rv) hP23 (by first | with_reducible assumption | with_reducible exact gd_new) (by first | with_reducible assumption | with_reducible exact tgK_rng | with_reducible exact hlr)) ?_
      rintro _ w24 ⟨v_24, rfl, hP24⟩
      refine ⟨_, rfl, ?_⟩
      obtain ⟨c_24, hc_24, hP24⟩ := gen1 hP24
      have hS24 := hB23 _ _ hP24
      replace hS24 : St w NoX [c_24, c2] w24 := hS24
      refine W_v rfl rfl (V_bldS (n := 1) (z := .agg #[.slice none 0 0]) rfl (parts1 (et rfl)) (by kernel_rfl) (by simp only [List.all_cons, List.all_nil, SlN_one (ow_at (hS24.chq 0 rfl hc_24)), Bool.and_true] <;> rfl) (by kernel_rfl) (by simp only [List.foldl_cons, List.foldl_nil, Value.cells, List.setIfInBounds_toArray, List.set_cons_succ, List.set_cons_zero] <;> rfl)) ?_
      refine W_stAS 1 hS24 rfl hc2 rfl rfl rfl (es rfl (es rfl (es rfl (es rfl (es rfl l2_15))))) (et rfl) (by simp only [List.all_toArray, List.all_cons, List.all_nil, SlN_one (ow_at (hS24.chq 0 rfl hc_24))] <;> rfl) (by rfl) (by kernel_rfl) (fun w25 c25 hc25 hS25 => ?_)
      replace hS25 : St w NoX [c_24, c25] w25 := hS25
      refine W_v rfl rfl (V_asg rfl rfl) ?_
      refine W_end ?_
      refine gen_Q (fun A26 hA26 => ?_)
      have hsz26 : SzN A26 16 := by rw [hA26]; infer_instance
      have hdf26 : A26.defers = [] := by rw [hA26]; simp only [df_put]; exact hdf15
      have l2_26 := lookE hA26 2 (es rfl (es rfl (es rfl (es rfl (es rfl (es rfl l2_15))))))
      have l3_26 := lookE hA26 3 (et rfl)
      clear hA26 hsz15 hdf15 l0_15 l2_15 l9_15
      refine then_n (hK21 _ _ ?_)
      clear hK21
      refine wp_ret ?_
      refine ret_in (results_2 Try.results20 (rv_cellA l2_26 (hS25.obj 1 rfl hc25) Try.underlying24 rfl (by kernel_rfl)) (rv_tmp l3_26)) hdf26 ?_
      -- leaf FF
      have h : ofE l = 0 := of_ok (by omega) (by have hc := c16; simpa using hc)
      rw [h]
      exact ⟨_, rfl, (hS25.fin1 0 rfl (hc_24.trans (congrArg (io .i64 _) (by unfold ofT; rw [if_neg (by rw [h]; decide)] <;> rfl))))⟩

set_option maxHeartbeats 4000000 in
theorem kJoin_c {cv : Value} {c : List Int} {dv : Value} {d : List Int} {w : World} (h_cv : Ro w NoX (il .i64 cv c)) (h_dv : Ro w NoX (il .i64 dv d))  :
    Calls Try.prog 22 #[.agg #[cv], .agg #[dv]] w fun e w' => ∃ v, e = .returned (.tuple #[.agg #[v], .int .i64 (jnE c d)]) ∧ St w NoX [io .i64 (v) (jnT c d)] w' := by
  refine calls_in 35 Try.func22 rfl rfl (by simp) (fun A0 hsz0 hdf0 hargs => ?_)
  have l0_0 := hargs 0 (.agg #[cv]) rfl
  have l1_0 := hargs 1 (.agg #[dv]) rfl
  clear hargs; replace hsz0 : SzN A0 35 := ⟨hsz0⟩
  have hS := St.nil w
  have bh_cv := SlN.le (sl_SlN h_cv.at)
  have bh_dv := SlN.le (sl_SlN h_dv.at)
  refine wp_seq_k (fun K1 hK1 => ?_)
  -- region 0
  refine region_in ?_
  refine W_boxS (zs := #[cv]) hS rfl rfl rfl l0_0 (by rfl) (fun g2 w2 c2 hc2 hS2 => ?_)
  replace hS2 : St w NoX [c2] w2 := hS2
  refine W_boxS (zs := #[dv]) hS2 rfl rfl rfl (es rfl l1_0) (by rfl) (fun g3 w3 c3 hc3 hS3 => ?_)
  replace hS3 : St w NoX [c3, c2] w3 := hS3
  refine W_allocS (z := .agg #[.slice none 0 0]) (zs := #[.slice none 0 0]) hS3 rfl rfl rfl (by kernel_rfl) (by rfl) (fun g4 w4 c4 hc4 hS4 => ?_)
  replace hS4 : St w NoX [c4, c3, c2] w4 := hS4
  refine W_v rfl rfl (V_asg rfl rfl) ?_
  refine W_end ?_
  refine gen_Q (fun A5 hA5 => ?_)
  have hsz5 : SzN A5 35 := by rw [hA5]; infer_instance
  have hdf5 : A5.defers = [] := by rw [hA5]; simp only [df_put]; exact hdf0
  have l2_5 := lookE hA5 2 (es rfl (es rfl (es rfl (et rfl))))
  have l3_5 := lookE hA5 3 (es rfl (es rfl (et rfl)))
  have l4_5 := lookE hA5 4 (es rfl (et rfl))
  clear hA5 hsz0 hdf0 l0_0 l1_0
  refine then_n (hK1 _ _ ?_)
  clear hK1
  refine wp_seq_k (fun K6 hK6 => ?_)
  refine wp_seq_k (fun K7 hK7 => ?_)
  -- region 1
  refine region_in ?_
  refine W_r rfl rfl (VR_ldA rfl l2_5 (hS4.obj 2 rfl hc2) Try.underlying24 rfl (by kernel_rfl)) ?_
  refine W_r rfl rfl (VR_ldA rfl (es rfl l3_5) (hS4.obj 1 rfl hc3) Try.underlying24 rfl (by kernel_rfl)) ?_
  have hll8 : [cv, dv].length = 2 := rfl
  refine W_litS (vs := [.agg #[cv], .agg #[dv]]) (xs := ([cv, dv].flatMap oneC)) 1 hS4 rfl rfl rfl (parts2 (es rfl (et rfl)) (et rfl)) rfl Try.underlying61 (by kernel_rfl) (by decide) (by intro v hv; simp only [List.mem_cons, List.not_mem_nil, or_false] at hv; rcases hv with rfl | rfl <;> rfl) (by rfl) (fun g8 w8 c8 hc8 hS8 => ?_)
  replace hc8 : c8 = ro 1 oneC (.slice (some ⟨g8, 0, none⟩) 2 2) [cv, dv] := hc8
  replace hS8 : St w NoX [c8, c4, c3, c2] w8 := hS8
  refine W_v rfl rfl (V_lenS rfl (et rfl) (ow_at (hS8.chq 0 rfl hc8)) Try.underlying61) ?_
  refine W_v rfl rfl (V_mov rfl rfl) ?_
  refine W_end ?_
  refine gen_Q (fun A9 hA9 => ?_)
  have hsz9 : SzN A9 35 := by rw [hA9]; infer_instance
  have hdf9 : A9.defers = [] := by rw [hA9]; simp only [df_put]; exact hdf5
  have l2_9 := lookE hA9 2 (es rfl (es rfl (es rfl (es rfl (es rfl l2_5)))))
  have l3_9 := lookE hA9 3 (es rfl (es rfl (es rfl (es rfl (es rfl l3_5)))))
  have l4_9 := lookE hA9 4 (es rfl (es rfl (es rfl (es rfl (es rfl l4_5)))))
  have l12_9 := lookE hA9 12 (es rfl (es rfl (et rfl)))
  have l13_9 := lookE hA9 13 (es rfl (et rfl))
  have l14_9 := lookE hA9 14 (et rfl)
  clear hA9 hsz5 hdf5 l2_5 l3_5 l4_5
  refine then_n (hK7 _ _ ?_)
  clear hK7
  refine wp_block ?_
  -- loop 2
  refine loopX (fun mz A' w' => SzN A' 35 ∧ A'.defers = [] ∧ (∃ (k : Nat), (mz = 2 - k) ∧ (k ≤ 2) ∧ (∀ i, i < k → (ckS (twoD c d i)).2 = 0) ∧ (EV A' (.tmp 14) = .int .i64 (k : Int)) ∧ (EV A' (.tmp 2) = EV A9 (.tmp 2)) ∧ (EV A' (.tmp 3) = EV A9 (.tmp 3)) ∧ (EV A' (.tmp 4) = EV A9 (.tmp 4)) ∧ (EV A' (.tmp 12) = EV A9 (.tmp 12)) ∧ (EV A' (.tmp 13) = EV A9 (.tmp 13)) ∧ (St w NoX [ro 1 oneC (.slice (some ⟨g8, 0, none⟩) 2 2) [cv, dv], bx g4 24 #[.slice none 0 0], bx g3 24 #[dv], bx g2 24 #[cv]] w'))) (2 - 0) ⟨hsz9, hdf9, 0, rfl, (by omega), (fun i hi => by omega), ((l14_9).trans (by first | rfl | (simp; done) | (congr 1; omega))), rfl, rfl, rfl, rfl, rfl, (by subst hc8 hc4 hc3 hc2; exact hS8)⟩ ?_
  clear hS8 hc8 hc4 hc3 hc2
  rintro n10 A10 w10 ⟨hsz10, hdf10, k, hm10, hk, htw, l14_10, u2_10, u3_10, u4_10, u12_10, u13_10, hS10⟩
  have l2_10 := u2_10.trans l2_9
  have l3_10 := u3_10.trans l3_9
  have l4_10 := u4_10.trans l4_9
  have l12_10 := u12_10.trans l12_9
  have l13_10 := u13_10.trans l13_9
  obtain ⟨c8_10, c4_10, c3_10, c2_10, hc8_10, hc4_10, hc3_10, hc2_10, hS10⟩ := gen4 hS10
  refine wp_seq_k (fun K11 hK11 => ?_)
  -- region 2
  refine region_in ?_
  refine W_v rfl rfl (V_lss rfl l14_10 l13_10) ?_
  refine W_end ?_
  refine gen_Q (fun A12 hA12 => ?_)
  have hsz12 : SzN A12 35 := by rw [hA12]; infer_instance
  have hdf12 : A12.defers = [] := by rw [hA12]; simp only [df_put]; exact hdf10
  have l2_12 := lookE hA12 2 (es rfl l2_10)
  have l3_12 := lookE hA12 3 (es rfl l3_10)
  have l4_12 := lookE hA12 4 (es rfl l4_10)
  have l12_12 := lookE hA12 12 (es rfl l12_10)
  have l13_12 := lookE hA12 13 (es rfl l13_10)
  have l14_12 := lookE hA12 14 (es rfl l14_10)
  have l15_12 := lookE hA12 15 (et rfl)
  clear hA12 hsz10 hdf10 l14_10 l2_10 l3_10 l4_10 l12_10 l13_10
  refine then_n (hK11 _ _ ?_)
  clear hK11
  refine wp_seq_k (fun K13 hK13 => ?_)
  refine cond_dec l15_12 (fun c14 => ?_) (fun c14 => ?_)
  · skip
    refine wp_skip ?_
    refine then_n (hK13 _ _ ?_)
    clear hK13
    refine wp_seq_k (fun K15 hK15 => ?_)
    refine wp_block ?_
    refine wp_seq_k (fun K16 hK16 => ?_)
    -- region 3
    refine region_in ?_
    have k17 : k < [cv, dv].length := by first | omega | (simp only [List.length_cons, List.length_nil]; omega) | (simp only [List.length_set]; omega)
    obtain ⟨y17, hy17⟩ := get_some (xs := [cv, dv]) (k := k) k17
    obtain ⟨B17, O17, C17, hv17⟩ := (SlN.blk (ow_at (hS10.chq 0 rfl hc8_10)) (by first | omega | (simp only [List.length_cons, List.length_nil]; omega) | (simp only [List.length_set]; omega)))
    refine W_v rfl rfl (V_ixS (off := O17 + k * 1) 1 (k) rfl l12_12 l14_12 hv17 (by omega) k17 Try.underlying61 (by kernel_rfl) rfl) ?_
    have fy18 : Ro w NoX (il .i64 y17 (twoD c d k)) := two_ro hy17 h_cv h_dv
    have bfy18 : ((twoD c d k).length : Int) ≤ 9223372036854775807 := by unfold twoD; split <;> assumption
    refine W_r rfl rfl (VR_ldR (ys := oneC y17) rfl (et rfl) (SlN.row oneC_len (ow_at (hS10.chq 0 rfl hc8_10)) hv17 hy17 rfl) Try.underlying24 rfl (by kernel_rfl)) ?_
    refine W_allocS (z := .agg #[.slice none 0 0]) (zs := #[.slice none 0 0]) hS10 rfl rfl rfl (by kernel_rfl) (by rfl) (fun g19 w19 c19 hc19 hS19 => ?_)
    replace hS19 : St w NoX [c19, c8_10, c4_10, c3_10, c2_10] w19 := hS19
    refine W_stAS 0 hS19 rfl hc19 rfl rfl rfl (et rfl) (es rfl (et rfl)) (by simp only [List.all_toArray, List.all_cons, List.all_nil, oneC, SlN_one (sl_SlN fy18.at)] <;> rfl) (by rfl) (by kernel_rfl) (fun w20 c20 hc20 hS20 => ?_)
    replace hS20 : St w NoX [c20, c8_10, c4_10, c3_10, c2_10] w20 := hS20
    refine W_end ?_
    refine gen_Q (fun A21 hA21 => ?_)
    have hsz21 : SzN A21 35 := by rw [hA21]; infer_instance
    have hdf21 : A21.defers = [] := by rw [hA21]; simp only [df_put]; exact hdf12
    have l2_21 := lookE hA21 2 (es rfl (es rfl (es rfl l2_12)))
    have l3_21 := lookE hA21 3 (es rfl (es rfl (es rfl l3_12)))
    have l4_21 := lookE hA21 4 (es rfl (es rfl (es rfl l4_12)))
    have l7_21 := lookE hA21 7 (et rfl)
    have l12_21 := lookE hA21 12 (es rfl (es rfl (es rfl l12_12)))
    have l13_21 := lookE hA21 13 (es rfl (es rfl (es rfl l13_12)))
    have l14_21 := lookE hA21 14 (es rfl (es rfl (es rfl l14_12)))
    clear hA21 hsz12 hdf12 l2_12 l3_12 l4_12 l12_12 l13_12 l14_12 l15_12
    refine then_n (hK16 _ _ ?_)
    clear hK16
    refine wp_seq_k (fun K22 hK22 => ?_)
    -- region 4
    refine region_in ?_
    refine W_r rfl rfl (VR_ldA rfl l7_21 (hS20.obj 0 rfl hc20) Try.underlying24 rfl (by kernel_rfl)) ?_
    refine W_call rfl rfl rfl Try.func26 (by kernel_rfl) rfl (args1 (et rfl)) (kCk_c (hS20.roC fy18) ) ?_
    rintro _ w23 ⟨rfl, hP23⟩
    refine ⟨_, rfl, ?_⟩
    have hS23 := hS20.join hP23
    replace hS23 : St w NoX [c20, c8_10, c4_10, c3_10, c2_10] w23 := hS23
    refine W_v rfl rfl (V_mov rfl (et rfl)) ?_
    refine W_v rfl rfl (V_ext (v := .int .i64 ((ckS (twoD c d k)).1)) rfl (et rfl) rfl) ?_
    refine W_v rfl rfl (V_ext (v := .int .i64 ((ckS (twoD c d k)).2)) rfl (es rfl (et rfl)) rfl) ?_
    refine W_v rfl rfl (V_asg rfl (es rfl (et rfl))) ?_
    refine W_v rfl rfl (V_asg rfl (es rfl (et rfl))) ?_
    refine W_end ?_
    refine gen_Q (fun A24 hA24 => ?_)
    have hsz24 : SzN A24 35 := by rw [hA24]; infer_instance
    have hdf24 : A24.defers = [] := by rw [hA24]; simp only [df_put]; exact hdf21
    have l2_24 := lookE hA24 2 (es rfl (es rfl (es rfl (es rfl (es rfl (es rfl (es rfl l2_21)))))))
    have l3_24 := lookE hA24 3 (es rfl (es rfl (es rfl (es rfl (es rfl (es rfl (es rfl l3_21)))))))
    have l4_24 := lookE hA24 4 (es rfl (es rfl (es rfl (es rfl (es rfl (es rfl (es rfl l4_21)))))))
    have l9_24 := lookE hA24 9 (et rfl)
    have l12_24 := lookE hA24 12 (es rfl (es rfl (es rfl (es rfl (es rfl (es rfl (es rfl l12_21)))))))
    have l13_24 := lookE hA24 13 (es rfl (es rfl (es rfl (es rfl (es rfl (es rfl (es rfl l13_21)))))))
    have l14_24 := lookE hA24 14 (es rfl (es rfl (es rfl (es rfl (es rfl (es rfl (es rfl l14_21)))))))
    clear hA24 hsz21 hdf21 l2_21 l3_21 l4_21 l7_21 l12_21 l13_21 l14_21
    have hS25 : St w NoX [c8_10, c4_10, c3_10, c2_10] w23 := hS23.sel [1, 2, 3, 4] (by decide) rfl
    refine then_n (hK22 _ _ ?_)
    clear hK22
    refine wp_seq_k (fun K26 hK26 => ?_)
    -- region 5
    refine region_in ?_
    refine W_v rfl rfl (V_mov rfl l9_24) ?_
    refine W_v rfl rfl (V_neq rfl (et rfl) rfl) ?_
    refine W_end ?_
    refine gen_Q (fun A27 hA27 => ?_)
    have hsz27 : SzN A27 35 := by rw [hA27]; infer_instance
    have hdf27 : A27.defers = [] := by rw [hA27]; simp only [df_put]; exact hdf24
    have l2_27 := lookE hA27 2 (es rfl (es rfl l2_24))
    have l3_27 := lookE hA27 3 (es rfl (es rfl l3_24))
    have l4_27 := lookE hA27 4 (es rfl (es rfl l4_24))
    have l9_27 := lookE hA27 9 (es rfl (es rfl l9_24))
    have l12_27 := lookE hA27 12 (es rfl (es rfl l12_24))
    have l13_27 := lookE hA27 13 (es rfl (es rfl l13_24))
    have l14_27 := lookE hA27 14 (es rfl (es rfl l14_24))
    have l24_27 := lookE hA27 24 (et rfl)
    clear hA27 hsz24 hdf24 l2_24 l3_24 l4_24 l9_24 l12_24 l13_24 l14_24
    refine then_n (hK26 _ _ ?_)
    clear hK26
    refine cond_dec l24_27 (fun c28 => ?_) (fun c28 => ?_)
    · skip
      refine wp_seq_k (fun K29 hK29 => ?_)
      -- region 6
      refine region_in ?_
      refine W_v rfl rfl (V_bldS (n := 1) (z := .agg #[.slice none 0 0]) rfl (parts0) (by kernel_rfl) (by simp only [List.all_cons, List.all_nil, Bool.and_true] <;> rfl) (by kernel_rfl) (by simp only [List.foldl_cons, List.foldl_nil, Value.cells, List.setIfInBounds_toArray, List.set_cons_succ, List.set_cons_zero] <;> rfl)) ?_
      refine W_v rfl rfl (V_mov rfl (es rfl l9_27)) ?_
      refine W_stAS 1 hS25 rfl hc4_10 rfl rfl rfl (es rfl (es rfl l4_27)) (es rfl (et rfl)) (by first | (rw [List.all_toArray] <;> rfl) | (simp only [List.all_toArray, List.all_cons, List.all_nil] <;> rfl)) (by rfl) (by kernel_rfl) (fun w30 c30 hc30 hS30 => ?_)
      replace hS30 : St w NoX [c8_10, c30, c3_10, c2_10] w30 := hS30
      refine W_v rfl rfl (V_asg rfl (et rfl)) ?_
      refine W_end ?_
      refine gen_Q (fun A31 hA31 => ?_)
      have hsz31 : SzN A31 35 := by rw [hA31]; infer_instance
      have hdf31 : A31.defers = [] := by rw [hA31]; simp only [df_put]; exact hdf27
      have l4_31 := lookE hA31 4 (es rfl (es rfl (es rfl l4_27)))
      have l5_31 := lookE hA31 5 (et rfl)
      clear hA31 hsz27 hdf27 l2_27 l3_27 l4_27 l9_27 l12_27 l13_27 l14_27 l24_27
      have hS32 : St w NoX [c30] w30 := hS30.sel [1] (by decide) rfl
      refine then_n (hK29 _ _ ?_)
      clear hK29
      refine wp_ret ?_
      refine inb_ret ?_
      refine then_ret ?_
      refine then_ret ?_
      refine inb_ret ?_
      refine then_ret ?_
      refine ret_in (results_2 Try.results22 (rv_cellA l4_31 (hS32.obj 0 rfl hc30) Try.underlying24 rfl (by kernel_rfl)) (rv_tmp l5_31)) hdf31 ?_
      -- leaf TT
      obtain ⟨c33, hc33, hS33⟩ := hS32.pnil (s := 1)
      have h : jnE c d = (ckS (twoD c d k)).2 := jn_bad (by omega) htw (by omega)
      have h2 : jnT c d = [] := by unfold jnT; rw [if_pos (by rw [h]; omega)]
      rw [h]
      exact ⟨_, rfl, (hS33.fin1 0 rfl (hc33.trans (by rw [h2] <;> rfl)))⟩
    · skip
      refine wp_skip ?_
      refine inb_n ?_
      refine then_n (hK15 _ _ ?_)
      clear hK15
      -- region 7
      refine region_in ?_
      refine W_v rfl rfl (V_add rfl l14_27 rfl (by omega) (by omega)) ?_
      refine W_v rfl rfl (V_mov rfl (et rfl)) ?_
      refine W_end ?_
      refine gen_Q (fun A34 hA34 => ?_)
      have hsz34 : SzN A34 35 := by rw [hA34]; infer_instance
      have hdf34 : A34.defers = [] := by rw [hA34]; simp only [df_put]; exact hdf27
      have l2_34 := lookE hA34 2 (es rfl (es rfl l2_27))
      have l3_34 := lookE hA34 3 (es rfl (es rfl l3_27))
      have l4_34 := lookE hA34 4 (es rfl (es rfl l4_27))
      have l12_34 := lookE hA34 12 (es rfl (es rfl l12_27))
      have l13_34 := lookE hA34 13 (es rfl (es rfl l13_27))
      have l14_34 := lookE hA34 14 (et rfl)
      clear hA34 hsz27 hdf27 l2_27 l3_27 l4_27 l9_27 l12_27 l13_27 l14_27 l24_27
      refine then_n ⟨2 - (k + 1), by simp only [hm10]; omega, hsz34, hdf34, (k + 1), rfl, (by omega), (two_step htw (by omega)), ((l14_34).trans (by first | rfl | (simp; done) | (congr 1; omega))), ((l2_34).trans l2_9.symm), ((l3_34).trans l3_9.symm), ((l4_34).trans l4_9.symm), ((l12_34).trans l12_9.symm), ((l13_34).trans l13_9.symm), (by subst hc8_10 hc4_10 hc3_10 hc2_10; exact hS25)⟩
  · skip
    obtain ⟨hjc, hjd⟩ := jn_ok (k := k) (by omega) htw
    have hG : Gd c := ck_iff.1 hjc
    have hGd : Gd d := ck_iff.1 hjd
    have hpb := hG.bd
    have hpd := hGd.bd
    have hr2 := hGd.rng
    have hd2 := hGd.dst
    refine wp_exit ?_
    refine then_exit ?_
    refine then_exit ?_
    refine inb_hit ?_
    refine then_n (hK6 _ _ ?_)
    clear hK6
    refine wp_seq_k (fun K35 hK35 => ?_)
    -- region 8
    refine region_monoS 5 6 [none, some (SPc (fun u l' => ∃ v_s, u = v_s ∧ ∃ c_s, c_s = io .i64 (v_s) c ∧ l' = [c_s]) 1), none, none, some (SPc (fun u l' => ∃ v_s, u = v_s ∧ ∃ c_s, c_s = io .i64 (v_s) (tgK d 1600) ∧ l' = [c_s]) 4)] (by kernel_rfl) (by kernel_rfl) ?_
    refine D_r rfl rfl (by kernel_rfl) (fun sx hx hF => (VR_ldA rfl l2_12 ((hS10.grow hx).obj 3 rfl hc2_10) Try.underlying24 rfl (by kernel_rfl))) rfl rfl ?_
    refine D_call (C := fun u l' => ∃ v_s, u = v_s ∧ ∃ c_s, c_s = io .i64 (v_s) c ∧ l' = [c_s]) rfl rfl rfl Try.func41 (by kernel_rfl) rfl (args1 (et rfl)) rfl rfl (fun sx hx hF => ?_) (fun u36 l36 hu36 => ?_)
    · refine (kown_c ((hS10.grow hx).roC h_cv) (by first | omega | with_reducible assumption)).mono ?_
      rintro _ _ ⟨v_36, rfl, hz⟩
      exact ⟨_, rfl, _, ⟨_, rfl, _, rfl, rfl⟩, hz⟩
    obtain ⟨v_36, rfl, c_36, hc_36, hl36⟩ := hu36
    refine D_v rfl rfl (V_fa (off' := 0) rfl (es rfl (es rfl l3_12)) Try.underlying24 rfl (by decide +kernel) rfl) rfl rfl ?_
    refine D_r rfl rfl (by kernel_rfl) (fun sx hx hF => (VR_ldC rfl (et rfl) (cell_box (v := dv) ((hS10.grow hx).obj 2 rfl hc3_10) rfl) Try.underlying22 rfl)) rfl rfl ?_
    refine D_call (C := fun u l' => ∃ v_s, u = v_s ∧ ∃ c_s, c_s = io .i64 (v_s) (tgK d 1600) ∧ l' = [c_s]) rfl rfl rfl Try.func49 (by kernel_rfl) rfl (args1 (et rfl)) rfl rfl (fun sx hx hF => ?_) (fun u37 l37 hu37 => ?_)
    · refine (ksr_c ((hS10.grow hx).roC h_dv) (by first | omega | with_reducible assumption) (by first | omega | with_reducible assumption) (by first | with_reducible assumption | with_reducible exact hG.rng | with_reducible exact p1.rng | with_reducible exact hr2) (by first | with_reducible assumption | with_reducible exact hG.dst | with_reducible exact p1.dst | with_reducible exact hd2)).mono ?_
      rintro _ _ ⟨v_37, rfl, hz⟩
      exact ⟨_, rfl, _, ⟨_, rfl, _, rfl, rfl⟩, hz⟩
    obtain ⟨v_37, rfl, c_37, hc_37, hl37⟩ := hu37
    refine D_eff rfl ?_
    refine ZS_eff hS10 rfl rfl (fun s38 hJ38 hL38 hF38 => ?_)
    obtain ⟨ll36, ws36, we36, ⟨v_36q, hq36, c_36r, hc_36r, hl36r⟩, hm36, k36, e36⟩ := L.all_get (L.all_rest hF38); cases hq36; subst hl36r
    replace hJ38 := hJ38.add hL38 (i := 1) rfl hm36 k36 e36
    obtain ⟨ll37, ws37, we37, ⟨v_37q, hq37, c_37r, hc_37r, hl37r⟩, hm37, k37, e37⟩ := L.all_get hF38; cases hq37; subst hl37r
    replace hJ38 := hJ38.add hL38 (i := 4) rfl hm37 k37 e37
    have hS38 := hJ38.st; clear hF38 hJ38 hL38
    generalize s38.1 = w38 at *
    replace hS38 : St w NoX [c_37r, c_36r, c8_10, c4_10, c3_10, c2_10] w38 := hS38
    have hS39 := hS38.sel [1, 0, 2, 3, 4, 5] (by decide) (l' := [c_36r, c_37r, c8_10, c4_10, c3_10, c2_10]) rfl
    replace hS39 : St w NoX [c_36r, c_37r, c8_10, c4_10, c3_10, c2_10] w38 := hS39
    obtain ⟨Y40, hP40, hR40, hF40, hB40⟩ := St.call (pre := [c_36r]) (fr := [c_37r, c8_10, c4_10, c3_10, c2_10]) hS39
    rw [hc_36r] at hP40
    refine W_call rfl rfl rfl Try.func47 (by kernel_rfl) rfl (args2 (es rfl (es rfl (es rfl (et rfl)))) (et rfl)) (kall_c (hc_37r ▸ hF40 0 _ rfl).own hP40 (by first | with_reducible assumption | with_reducible exact gd_new) (by first | with_reducible assumption | with_reducible exact tgK_rng | with_reducible exact hlr)) ?_
    rintro _ w41 ⟨v_41, rfl, hP41⟩
    refine ⟨_, rfl, ?_⟩
    obtain ⟨c_41, hc_41, hP41⟩ := gen1 hP41
    have hS41 := hB40 _ _ hP41
    replace hS41 : St w NoX [c_41, c_37r, c8_10, c4_10, c3_10, c2_10] w41 := hS41
    refine W_v rfl rfl (V_bldS (n := 1) (z := .agg #[.slice none 0 0]) rfl (parts1 (et rfl)) (by kernel_rfl) (by simp only [List.all_cons, List.all_nil, SlN_one (ow_at (hS41.chq 0 rfl hc_41)), Bool.and_true] <;> rfl) (by kernel_rfl) (by simp only [List.foldl_cons, List.foldl_nil, Value.cells, List.setIfInBounds_toArray, List.set_cons_succ, List.set_cons_zero] <;> rfl)) ?_
    refine W_stAS 3 hS41 rfl hc4_10 rfl rfl rfl (es rfl (es rfl (es rfl (es rfl (es rfl (es rfl (es rfl l4_12))))))) (et rfl) (by simp only [List.all_toArray, List.all_cons, List.all_nil, oneC, SlN_one (ow_at (hS41.chq 0 rfl hc_41))] <;> rfl) (by rfl) (by kernel_rfl) (fun w42 c42 hc42 hS42 => ?_)
    replace hS42 : St w NoX [c_41, c_37r, c8_10, c42, c3_10, c2_10] w42 := hS42
    refine W_v rfl rfl (V_asg rfl rfl) ?_
    refine W_end ?_
    refine Qo_normal ?_
    refine gen_Q (fun A43 hA43 => ?_)
    have hsz43 : SzN A43 35 := by rw [hA43]; infer_instance
    have hdf43 : A43.defers = [] := by rw [hA43]; simp only [df_put]; exact hdf12
    have l4_43 := lookE hA43 4 (es rfl (es rfl (es rfl (es rfl (es rfl (es rfl (es rfl (es rfl l4_12))))))))
    have l5_43 := lookE hA43 5 (et rfl)
    clear hA43 hsz12 hdf12 l2_12 l3_12 l4_12 l12_12 l13_12 l14_12 l15_12
    have hS44 : St w NoX [c_41, c42] w42 := hS42.sel [0, 3] (by decide) rfl
    refine then_n (hK35 _ _ ?_)
    clear hK35
    refine wp_ret ?_
    refine ret_in (results_2 Try.results22 (rv_cellA l4_43 (hS44.obj 1 rfl hc42) Try.underlying24 rfl (by kernel_rfl)) (rv_tmp l5_43)) hdf43 ?_
    -- leaf F
    have h : jnE c d = 0 := jn_0.2 ⟨hjc, hjd⟩
    rw [h]
    exact ⟨_, rfl, (hS44.fin1 0 rfl (hc_41.trans (congrArg (io .i64 _) (by unfold jnT; rw [if_neg (by rw [h]; decide)]))))⟩

set_option maxHeartbeats 4000000 in
theorem kPurge_c {cv : Value} {c : List Int} {f : Int} {t : Int} {w : World} (h_cv : Ro w NoX (il .i64 cv c))  :
    Calls Try.prog 24 #[.agg #[cv], .int .i64 f, .int .i64 t] w fun e w' => ∃ v, e = .returned (.tuple #[.agg #[v], .int .i64 (pgN c f t), .int .i64 (ckS c).2]) ∧ St w NoX [io .i64 (v) (pgT c f t)] w' := by
  refine calls_in 53 Try.func24 rfl rfl (by simp) (fun A0 hsz0 hdf0 hargs => ?_)
  have l0_0 := hargs 0 (.agg #[cv]) rfl
  have l1_0 := hargs 1 (.int .i64 f) rfl
  have l2_0 := hargs 2 (.int .i64 t) rfl
  clear hargs; replace hsz0 : SzN A0 53 := ⟨hsz0⟩
  have hS := St.nil w
  have bh_cv := SlN.le (sl_SlN h_cv.at)
  refine wp_seq_k (fun K1 hK1 => ?_)
  -- region 0
  refine region_in ?_
  refine W_boxS (zs := #[cv]) hS rfl rfl rfl l0_0 (by rfl) (fun g2 w2 c2 hc2 hS2 => ?_)
  replace hS2 : St w NoX [c2] w2 := hS2
  refine W_allocS (z := .agg #[.slice none 0 0]) (zs := #[.slice none 0 0]) hS2 rfl rfl rfl (by kernel_rfl) (by rfl) (fun g3 w3 c3 hc3 hS3 => ?_)
  replace hS3 : St w NoX [c3, c2] w3 := hS3
  refine W_v rfl rfl (V_asg rfl rfl) ?_
  refine W_v rfl rfl (V_asg rfl rfl) ?_
  refine W_end ?_
  refine gen_Q (fun A4 hA4 => ?_)
  have hsz4 : SzN A4 53 := by rw [hA4]; infer_instance
  have hdf4 : A4.defers = [] := by rw [hA4]; simp only [df_put]; exact hdf0
  have l1_4 := lookE hA4 1 (es rfl (es rfl (es rfl (es rfl l1_0))))
  have l2_4 := lookE hA4 2 (es rfl (es rfl (es rfl (es rfl l2_0))))
  have l3_4 := lookE hA4 3 (es rfl (es rfl (es rfl (et rfl))))
  have l6_4 := lookE hA4 6 (es rfl (es rfl (et rfl)))
  have l7_4 := lookE hA4 7 (es rfl (et rfl))
  clear hA4 hsz0 hdf0 l0_0 l1_0 l2_0
  refine then_n (hK1 _ _ ?_)
  clear hK1
  refine wp_seq_k (fun K5 hK5 => ?_)
  refine wp_seq_k (fun K6 hK6 => ?_)
  -- region 1
  refine region_in ?_
  refine W_r rfl rfl (VR_ldA rfl l3_4 (hS3.obj 1 rfl hc2) Try.underlying24 rfl (by kernel_rfl)) ?_
  refine W_call rfl rfl rfl Try.func26 (by kernel_rfl) rfl (args1 (et rfl)) (kCk_c (hS3.roC h_cv) ) ?_
  rintro _ w7 ⟨rfl, hP7⟩
  refine ⟨_, rfl, ?_⟩
  have hS7 := hS3.join hP7
  replace hS7 : St w NoX [c3, c2] w7 := hS7
  refine W_v rfl rfl (V_mov rfl (et rfl)) ?_
  refine W_v rfl rfl (V_ext (v := .int .i64 ((ckS c).1)) rfl (et rfl) rfl) ?_
  refine W_v rfl rfl (V_ext (v := .int .i64 ((ckS c).2)) rfl (es rfl (et rfl)) rfl) ?_
  refine W_v rfl rfl (V_asg rfl (es rfl (et rfl))) ?_
  refine W_v rfl rfl (V_asg rfl (es rfl (et rfl))) ?_
  refine W_end ?_
  refine gen_Q (fun A8 hA8 => ?_)
  have hsz8 : SzN A8 53 := by rw [hA8]; infer_instance
  have hdf8 : A8.defers = [] := by rw [hA8]; simp only [df_put]; exact hdf4
  have l1_8 := lookE hA8 1 (es rfl (es rfl (es rfl (es rfl (es rfl (es rfl (es rfl l1_4)))))))
  have l2_8 := lookE hA8 2 (es rfl (es rfl (es rfl (es rfl (es rfl (es rfl (es rfl l2_4)))))))
  have l3_8 := lookE hA8 3 (es rfl (es rfl (es rfl (es rfl (es rfl (es rfl (es rfl l3_4)))))))
  have l6_8 := lookE hA8 6 (es rfl (es rfl (es rfl (es rfl (es rfl (es rfl (es rfl l6_4)))))))
  have l7_8 := lookE hA8 7 (es rfl (es rfl (es rfl (es rfl (es rfl (es rfl (es rfl l7_4)))))))
  have l10_8 := lookE hA8 10 (et rfl)
  clear hA8 hsz4 hdf4 l1_4 l2_4 l3_4 l6_4 l7_4
  refine then_n (hK6 _ _ ?_)
  clear hK6
  refine wp_seq_k (fun K9 hK9 => ?_)
  -- region 2
  refine region_in ?_
  refine W_v rfl rfl (V_mov rfl l10_8) ?_
  refine W_v rfl rfl (V_neq rfl (et rfl) rfl) ?_
  refine W_end ?_
  refine gen_Q (fun A10 hA10 => ?_)
  have hsz10 : SzN A10 53 := by rw [hA10]; infer_instance
  have hdf10 : A10.defers = [] := by rw [hA10]; simp only [df_put]; exact hdf8
  have l1_10 := lookE hA10 1 (es rfl (es rfl l1_8))
  have l2_10 := lookE hA10 2 (es rfl (es rfl l2_8))
  have l3_10 := lookE hA10 3 (es rfl (es rfl l3_8))
  have l6_10 := lookE hA10 6 (es rfl (es rfl l6_8))
  have l7_10 := lookE hA10 7 (es rfl (es rfl l7_8))
  have l10_10 := lookE hA10 10 (es rfl (es rfl l10_8))
  have l20_10 := lookE hA10 20 (et rfl)
  clear hA10 hsz8 hdf8 l1_8 l2_8 l3_8 l6_8 l7_8 l10_8
  refine then_n (hK9 _ _ ?_)
  clear hK9
  refine cond_dec l20_10 (fun c11 => ?_) (fun c11 => ?_)
  · skip
    refine wp_seq_k (fun K12 hK12 => ?_)
    -- region 3
    refine region_in ?_
    refine W_v rfl rfl (V_bldS (n := 1) (z := .agg #[.slice none 0 0]) rfl (parts0) (by kernel_rfl) (by simp only [List.all_cons, List.all_nil, Bool.and_true] <;> rfl) (by kernel_rfl) (by simp only [List.foldl_cons, List.foldl_nil, Value.cells, List.setIfInBounds_toArray, List.set_cons_succ, List.set_cons_zero] <;> rfl)) ?_
    refine W_v rfl rfl (V_mov rfl (es rfl l10_10)) ?_
    refine W_stAS 0 hS7 rfl hc3 rfl rfl rfl (es rfl (es rfl l6_10)) (es rfl (et rfl)) (by first | (rw [List.all_toArray] <;> rfl) | (simp only [List.all_toArray, List.all_cons, List.all_nil] <;> rfl)) (by rfl) (by kernel_rfl) (fun w13 c13 hc13 hS13 => ?_)
    replace hS13 : St w NoX [c13, c2] w13 := hS13
    refine W_v rfl rfl (V_asg rfl rfl) ?_
    refine W_v rfl rfl (V_asg rfl (es rfl (et rfl))) ?_
    refine W_end ?_
    refine gen_Q (fun A14 hA14 => ?_)
    have hsz14 : SzN A14 53 := by rw [hA14]; infer_instance
    have hdf14 : A14.defers = [] := by rw [hA14]; simp only [df_put]; exact hdf10
    have l6_14 := lookE hA14 6 (es rfl (es rfl (es rfl (es rfl l6_10))))
    have l7_14 := lookE hA14 7 (es rfl (et rfl))
    have l8_14 := lookE hA14 8 (et rfl)
    clear hA14 hsz10 hdf10 l1_10 l2_10 l3_10 l6_10 l7_10 l10_10 l20_10
    have hS15 : St w NoX [c13] w13 := hS13.sel [0] (by decide) rfl
    refine then_n (hK12 _ _ ?_)
    clear hK12
    refine wp_ret ?_
    refine then_ret ?_
    refine ret_in (results_3 Try.results24 (rv_cellA l6_14 (hS15.obj 0 rfl hc13) Try.underlying24 rfl (by kernel_rfl)) (rv_tmp l7_14) (rv_tmp l8_14)) hdf14 ?_
    -- leaf T
    obtain ⟨c16, hc16, hS16⟩ := hS15.pnil (s := 1)
    have r0 : pgN c f t = 0 := by unfold pgN; rw [if_pos (by omega)]
    rw [r0]
    exact ⟨_, rfl, (hS16.fin1 0 rfl (hc16.trans (by rw [show pgT c f t = [] by unfold pgT; rw [if_pos (by omega)]] <;> rfl)))⟩
  · skip
    have hG : Gd c := ck_iff.1 (by omega)
    have hpb := hG.bd
    refine wp_skip ?_
    refine then_n (hK5 _ _ ?_)
    clear hK5
    refine wp_seq_k (fun K17 hK17 => ?_)
    -- region 4
    refine region_in ?_
    refine W_r rfl rfl (VR_ldA rfl l3_10 (hS7.obj 1 rfl hc2) Try.underlying24 rfl (by kernel_rfl)) ?_
    refine W_call rfl rfl rfl Try.func41 (by kernel_rfl) rfl (args1 (et rfl)) (kown_c (hS7.roC h_cv) (by first | omega | with_reducible assumption)) ?_
    rintro _ w18 ⟨v_18, rfl, hP18⟩
    refine ⟨_, rfl, ?_⟩
    obtain ⟨c_18, hc_18, hP18⟩ := gen1 hP18
    have hS18 := hS7.join hP18
    replace hS18 : St w NoX [c_18, c3, c2] w18 := hS18
    refine W_v rfl rfl (V_asg rfl (et rfl)) ?_
    refine W_end ?_
    refine gen_Q (fun A19 hA19 => ?_)
    have hsz19 : SzN A19 53 := by rw [hA19]; infer_instance
    have hdf19 : A19.defers = [] := by rw [hA19]; simp only [df_put]; exact hdf10
    have l1_19 := lookE hA19 1 (es rfl (es rfl (es rfl l1_10)))
    have l2_19 := lookE hA19 2 (es rfl (es rfl (es rfl l2_10)))
    have l6_19 := lookE hA19 6 (es rfl (es rfl (es rfl l6_10)))
    have l7_19 := lookE hA19 7 (es rfl (es rfl (es rfl l7_10)))
    have l11_19 := lookE hA19 11 (et rfl)
    clear hA19 hsz10 hdf10 l1_10 l2_10 l3_10 l6_10 l7_10 l10_10 l20_10
    have hS20 : St w NoX [c_18, c3] w18 := hS18.sel [0, 1] (by decide) rfl
    refine then_n (hK17 _ _ ?_)
    clear hK17
    refine wp_seq_k (fun K21 hK21 => ?_)
    refine wp_seq_k (fun K22 hK22 => ?_)
    -- region 5
    refine region_in ?_
    refine W_v rfl rfl (V_mov rfl l11_19) ?_
    refine W_v rfl rfl (V_lenS rfl (et rfl) (ow_at (hS20.chq 0 rfl hc_18)) Try.underlying22) ?_
    refine W_v rfl rfl (V_mov rfl rfl) ?_
    refine W_end ?_
    refine gen_Q (fun A23 hA23 => ?_)
    have hsz23 : SzN A23 53 := by rw [hA23]; infer_instance
    have hdf23 : A23.defers = [] := by rw [hA23]; simp only [df_put]; exact hdf19
    have l1_23 := lookE hA23 1 (es rfl (es rfl (es rfl l1_19)))
    have l2_23 := lookE hA23 2 (es rfl (es rfl (es rfl l2_19)))
    have l6_23 := lookE hA23 6 (es rfl (es rfl (es rfl l6_19)))
    have l7_23 := lookE hA23 7 (es rfl (es rfl (es rfl l7_19)))
    have l11_23 := lookE hA23 11 (es rfl (es rfl (es rfl l11_19)))
    have l25_23 := lookE hA23 25 (es rfl (es rfl (et rfl)))
    have l26_23 := lookE hA23 26 (es rfl (et rfl))
    have l27_23 := lookE hA23 27 (et rfl)
    clear hA23 hsz19 hdf19 l1_19 l2_19 l6_19 l7_19 l11_19
    refine then_n (hK22 _ _ ?_)
    clear hK22
    refine wp_block ?_
    -- loop 6
    refine loopX (fun mz A' w' => SzN A' 53 ∧ A'.defers = [] ∧ (∃ (k : Nat), (mz = c.length - k) ∧ (k ≤ c.length) ∧ ((pgK c f t k).length = c.length) ∧ ((c.take k).countP (pgB f t) ≤ k) ∧ (EV A' (.tmp 27) = .int .i64 (k : Int)) ∧ (EV A' (.tmp 7) = .int .i64 ((((c.take k).countP (pgB f t) : Nat)) : Int)) ∧ (EV A' (.tmp 1) = EV A23 (.tmp 1)) ∧ (EV A' (.tmp 2) = EV A23 (.tmp 2)) ∧ (EV A' (.tmp 6) = EV A23 (.tmp 6)) ∧ (EV A' (.tmp 11) = EV A23 (.tmp 11)) ∧ (EV A' (.tmp 25) = EV A23 (.tmp 25)) ∧ (EV A' (.tmp 26) = EV A23 (.tmp 26)) ∧ (St w NoX [io .i64 v_18 (pgK c f t k), bx g3 24 #[.slice none 0 0]] w'))) (c.length - 0) ⟨hsz23, hdf23, 0, rfl, (by omega), (pgK_len _ _ _ _), (cP_bd _ _ _), ((l27_23).trans (by first | rfl | (simp; done) | (congr 1; omega))), ((l7_23).trans (rfl)), rfl, rfl, rfl, rfl, rfl, rfl, (by have q0 : c_18 = io .i64 v_18 (pgK c f t 0) := hc_18.trans ((congrArg (io .i64 _) (pgK_zero _ _ _).symm)); have q1 := hc3; subst q0 q1; exact hS20)⟩ ?_
    clear hS20 hc_18 hc3
    rintro n24 A24 w24 ⟨hsz24, hdf24, k, hm24, hk, hpl, hcb, l27_24, l7_24, u1_24, u2_24, u6_24, u11_24, u25_24, u26_24, hS24⟩
    have l1_24 := u1_24.trans l1_23
    have l2_24 := u2_24.trans l2_23
    have l6_24 := u6_24.trans l6_23
    have l11_24 := u11_24.trans l11_23
    have l25_24 := u25_24.trans l25_23
    have l26_24 := u26_24.trans l26_23
    obtain ⟨c_24, c3_24, hc_24, hc3_24, hS24⟩ := gen2 hS24
    refine wp_seq_k (fun K25 hK25 => ?_)
    -- region 6
    refine region_in ?_
    refine W_v rfl rfl (V_lss rfl l27_24 l26_24) ?_
    refine W_end ?_
    refine gen_Q (fun A26 hA26 => ?_)
    have hsz26 : SzN A26 53 := by rw [hA26]; infer_instance
    have hdf26 : A26.defers = [] := by rw [hA26]; simp only [df_put]; exact hdf24
    have l1_26 := lookE hA26 1 (es rfl l1_24)
    have l2_26 := lookE hA26 2 (es rfl l2_24)
    have l6_26 := lookE hA26 6 (es rfl l6_24)
    have l7_26 := lookE hA26 7 (es rfl l7_24)
    have l11_26 := lookE hA26 11 (es rfl l11_24)
    have l25_26 := lookE hA26 25 (es rfl l25_24)
    have l26_26 := lookE hA26 26 (es rfl l26_24)
    have l27_26 := lookE hA26 27 (es rfl l27_24)
    have l28_26 := lookE hA26 28 (et rfl)
    clear hA26 hsz24 hdf24 l27_24 l7_24 l1_24 l2_24 l6_24 l11_24 l25_24 l26_24
    refine then_n (hK25 _ _ ?_)
    clear hK25
    refine wp_seq_k (fun K27 hK27 => ?_)
    refine cond_dec l28_26 (fun c28 => ?_) (fun c28 => ?_)
    · skip
      refine wp_skip ?_
      refine then_n (hK27 _ _ ?_)
      clear hK27
      refine wp_seq_k (fun K29 hK29 => ?_)
      refine wp_block ?_
      refine wp_seq_k (fun K30 hK30 => ?_)
      -- region 7
      refine region_in ?_
      refine W_v rfl rfl (V_mov rfl l27_26) ?_
      have k31 : k < (pgK c f t k).length := by first | omega | (simp only [List.length_cons, List.length_nil]; omega) | (simp only [List.length_set]; omega)
      obtain ⟨y31, hy31⟩ := get_some (xs := (pgK c f t k)) (k := k) k31
      have hq31 := pgK_get (by omega) hy31
      obtain ⟨B31, O31, C31, hv31⟩ := (SlN.blk (ow_at (hS24.chq 0 rfl hc_24)) (by first | omega | (simp only [List.length_cons, List.length_nil]; omega) | (simp only [List.length_set]; omega)))
      refine W_v rfl rfl (V_ixS (off := O31 + k) 1 (k) rfl (es rfl l25_26) (es rfl l27_26) hv31 (by omega) k31 Try.underlying22 (by kernel_rfl) (congrArg _ (Nat.mul_one _))) ?_
      refine W_r rfl rfl (VR_ldC rfl (et rfl) ((ow_at (hS24.chq 0 rfl hc_24)).cell hv31 (map_get hy31)) Try.underlying3 rfl) ?_
      refine W_v rfl rfl (V_asg rfl (es rfl (es rfl (et rfl)))) ?_
      refine W_v rfl rfl (V_asg rfl (es rfl (et rfl))) ?_
      refine W_end ?_
      refine gen_Q (fun A32 hA32 => ?_)
      have hsz32 : SzN A32 53 := by rw [hA32]; infer_instance
      have hdf32 : A32.defers = [] := by rw [hA32]; simp only [df_put]; exact hdf26
      have l1_32 := lookE hA32 1 (es rfl (es rfl (es rfl (es rfl (es rfl l1_26)))))
      have l2_32 := lookE hA32 2 (es rfl (es rfl (es rfl (es rfl (es rfl l2_26)))))
      have l6_32 := lookE hA32 6 (es rfl (es rfl (es rfl (es rfl (es rfl l6_26)))))
      have l7_32 := lookE hA32 7 (es rfl (es rfl (es rfl (es rfl (es rfl l7_26)))))
      have l11_32 := lookE hA32 11 (es rfl (es rfl (es rfl (es rfl (es rfl l11_26)))))
      have l12_32 := lookE hA32 12 (es rfl (et rfl))
      have l13_32 := lookE hA32 13 (et rfl)
      have l25_32 := lookE hA32 25 (es rfl (es rfl (es rfl (es rfl (es rfl l25_26)))))
      have l26_32 := lookE hA32 26 (es rfl (es rfl (es rfl (es rfl (es rfl l26_26)))))
      have l27_32 := lookE hA32 27 (es rfl (es rfl (es rfl (es rfl (es rfl l27_26)))))
      clear hA32 hsz26 hdf26 l1_26 l2_26 l6_26 l7_26 l11_26 l25_26 l26_26 l27_26 l28_26
      refine then_n (hK30 _ _ ?_)
      clear hK30
      refine wp_seq_k (fun K33 hK33 => ?_)
      -- region 8
      refine region_in ?_
      refine W_v rfl rfl (V_mov rfl l13_32) ?_
      refine W_v rfl rfl (V_gtr rfl (et rfl) rfl) ?_
      refine W_split rfl rfl (V_mov rfl (et rfl)) (fun c34 => ?_) (fun c34 => ?_)
      · skip
        refine W_v rfl (wanted_t rfl rfl (et rfl) (ez rfl)) (V_mov rfl (es rfl (es rfl (es rfl l13_32)))) ?_
        refine W_v rfl (wanted_t rfl rfl (es rfl (et rfl)) (ez rfl)) (V_mov rfl (es rfl (es rfl (es rfl (es rfl l1_32))))) ?_
        refine W_v rfl (wanted_t rfl rfl (es rfl (es rfl (et rfl))) (ez rfl)) (V_geq rfl (es rfl (et rfl)) (et rfl)) ?_
        refine W_v rfl rfl (V_pickT rfl (es rfl (es rfl (es rfl (et rfl)))) (et rfl)) ?_
        refine W_split rfl rfl (V_mov rfl (et rfl)) (fun c35 => ?_) (fun c35 => ?_)
        · skip
          refine W_v rfl (wanted_t rfl rfl (et rfl) (ez rfl)) (V_mov rfl (es rfl (es rfl (es rfl (es rfl (es rfl (es rfl (es rfl (es rfl l13_32))))))))) ?_
          refine W_v rfl (wanted_t rfl rfl (es rfl (et rfl)) (ez rfl)) (V_mov rfl (es rfl (es rfl (es rfl (es rfl (es rfl (es rfl (es rfl (es rfl (es rfl l2_32)))))))))) ?_
          refine W_v rfl (wanted_t rfl rfl (es rfl (es rfl (et rfl))) (ez rfl)) (V_lss rfl (es rfl (et rfl)) (et rfl)) ?_
          refine W_v rfl rfl (V_pickT rfl (es rfl (es rfl (es rfl (et rfl)))) (et rfl)) ?_
          refine W_end ?_
          refine gen_Q (fun A36 hA36 => ?_)
          have hsz36 : SzN A36 53 := by rw [hA36]; infer_instance
          have hdf36 : A36.defers = [] := by rw [hA36]; simp only [df_put]; exact hdf32
          have l1_36 := lookE hA36 1 (es rfl (es rfl (es rfl (es rfl (es rfl (es rfl (es rfl (es rfl (es rfl (es rfl (es rfl (es rfl l1_32))))))))))))
          have l2_36 := lookE hA36 2 (es rfl (es rfl (es rfl (es rfl (es rfl (es rfl (es rfl (es rfl (es rfl (es rfl (es rfl (es rfl l2_32))))))))))))
          have l6_36 := lookE hA36 6 (es rfl (es rfl (es rfl (es rfl (es rfl (es rfl (es rfl (es rfl (es rfl (es rfl (es rfl (es rfl l6_32))))))))))))
          have l7_36 := lookE hA36 7 (es rfl (es rfl (es rfl (es rfl (es rfl (es rfl (es rfl (es rfl (es rfl (es rfl (es rfl (es rfl l7_32))))))))))))
          have l11_36 := lookE hA36 11 (es rfl (es rfl (es rfl (es rfl (es rfl (es rfl (es rfl (es rfl (es rfl (es rfl (es rfl (es rfl l11_32))))))))))))
          have l12_36 := lookE hA36 12 (es rfl (es rfl (es rfl (es rfl (es rfl (es rfl (es rfl (es rfl (es rfl (es rfl (es rfl (es rfl l12_32))))))))))))
          have l25_36 := lookE hA36 25 (es rfl (es rfl (es rfl (es rfl (es rfl (es rfl (es rfl (es rfl (es rfl (es rfl (es rfl (es rfl l25_32))))))))))))
          have l26_36 := lookE hA36 26 (es rfl (es rfl (es rfl (es rfl (es rfl (es rfl (es rfl (es rfl (es rfl (es rfl (es rfl (es rfl l26_32))))))))))))
          have l27_36 := lookE hA36 27 (es rfl (es rfl (es rfl (es rfl (es rfl (es rfl (es rfl (es rfl (es rfl (es rfl (es rfl (es rfl l27_32))))))))))))
          have l35_36 := lookE hA36 35 (es rfl (es rfl (es rfl (es rfl (es rfl (es rfl (es rfl (es rfl (et rfl)))))))))
          have l36_36 := lookE hA36 36 (es rfl (es rfl (es rfl (es rfl (es rfl (es rfl (es rfl (et rfl))))))))
          have l37_36 := lookE hA36 37 (es rfl (es rfl (es rfl (es rfl (es rfl (es rfl (et rfl)))))))
          have l40_36 := lookE hA36 40 (es rfl (es rfl (es rfl (et rfl))))
          have l41_36 := lookE hA36 41 (es rfl (es rfl (et rfl)))
          have l42_36 := lookE hA36 42 (es rfl (et rfl))
          have l43_36 := lookE hA36 43 (et rfl)
          clear hA36 hsz32 hdf32 l1_32 l2_32 l6_32 l7_32 l11_32 l12_32 l13_32 l25_32 l26_32 l27_32
          refine then_n (hK33 _ _ ?_)
          clear hK33
          refine cond_dec l43_36 (fun c37 => ?_) (fun c37 => ?_)
          · skip
            refine wp_seq_k (fun K38 hK38 => ?_)
            -- region 9
            refine region_in ?_
            refine W_v rfl rfl (V_mov rfl l11_36) ?_
            refine W_v rfl rfl (V_mov rfl (es rfl l12_36)) ?_
            refine W_v rfl rfl (V_ixS (off := O31 + k) 1 (k) rfl (es rfl (et rfl)) (et rfl) hv31 (by omega) k31 Try.underlying22 (by kernel_rfl) (congrArg _ (Nat.mul_one _))) ?_
            refine W_stE 0 hS24 rfl hc_24 hv31 rfl rfl rfl (et rfl) rfl (by rfl) rfl (by first | (simp only [List.length_map]; omega) | omega) (by kernel_rfl) (fun w40 c40 hc40 hS40 => ?_)
            replace hc40 : c40 = io .i64 v_18 ((pgK c f t k).set k (-1)) := hc40.trans (by simp [io, bo, List.map_set] <;> rfl)
            replace hS40 : St w NoX [c40, c3_24] w40 := hS40
            refine W_end ?_
            refine gen_Q (fun A41 hA41 => ?_)
            have hsz41 : SzN A41 53 := by rw [hA41]; infer_instance
            have hdf41 : A41.defers = [] := by rw [hA41]; simp only [df_put]; exact hdf36
            have l1_41 := lookE hA41 1 (es rfl (es rfl (es rfl l1_36)))
            have l2_41 := lookE hA41 2 (es rfl (es rfl (es rfl l2_36)))
            have l6_41 := lookE hA41 6 (es rfl (es rfl (es rfl l6_36)))
            have l7_41 := lookE hA41 7 (es rfl (es rfl (es rfl l7_36)))
            have l11_41 := lookE hA41 11 (es rfl (es rfl (es rfl l11_36)))
            have l25_41 := lookE hA41 25 (es rfl (es rfl (es rfl l25_36)))
            have l26_41 := lookE hA41 26 (es rfl (es rfl (es rfl l26_36)))
            have l27_41 := lookE hA41 27 (es rfl (es rfl (es rfl l27_36)))
            have l35_41 := lookE hA41 35 (es rfl (es rfl (es rfl l35_36)))
            have l36_41 := lookE hA41 36 (es rfl (es rfl (es rfl l36_36)))
            have l37_41 := lookE hA41 37 (es rfl (es rfl (es rfl l37_36)))
            have l40_41 := lookE hA41 40 (es rfl (es rfl (es rfl l40_36)))
            have l41_41 := lookE hA41 41 (es rfl (es rfl (es rfl l41_36)))
            have l42_41 := lookE hA41 42 (es rfl (es rfl (es rfl l42_36)))
            clear hA41 hsz36 hdf36 l1_36 l2_36 l6_36 l7_36 l11_36 l12_36 l25_36 l26_36 l27_36 l35_36 l36_36 l37_36 l40_36 l41_36 l42_36 l43_36
            refine then_n (hK38 _ _ ?_)
            clear hK38
            -- region 10
            refine region_in ?_
            refine W_v rfl rfl (V_mov rfl l7_41) ?_
            refine W_v rfl rfl (V_add rfl (et rfl) rfl (by omega) (by omega)) ?_
            refine W_v rfl rfl (V_asg rfl (et rfl)) ?_
            refine W_end ?_
            refine gen_Q (fun A42 hA42 => ?_)
            have hsz42 : SzN A42 53 := by rw [hA42]; infer_instance
            have hdf42 : A42.defers = [] := by rw [hA42]; simp only [df_put]; exact hdf41
            have l1_42 := lookE hA42 1 (es rfl (es rfl (es rfl l1_41)))
            have l2_42 := lookE hA42 2 (es rfl (es rfl (es rfl l2_41)))
            have l6_42 := lookE hA42 6 (es rfl (es rfl (es rfl l6_41)))
            have l7_42 := lookE hA42 7 (et rfl)
            have l11_42 := lookE hA42 11 (es rfl (es rfl (es rfl l11_41)))
            have l25_42 := lookE hA42 25 (es rfl (es rfl (es rfl l25_41)))
            have l26_42 := lookE hA42 26 (es rfl (es rfl (es rfl l26_41)))
            have l27_42 := lookE hA42 27 (es rfl (es rfl (es rfl l27_41)))
            have l35_42 := lookE hA42 35 (es rfl (es rfl (es rfl l35_41)))
            have l36_42 := lookE hA42 36 (es rfl (es rfl (es rfl l36_41)))
            have l37_42 := lookE hA42 37 (es rfl (es rfl (es rfl l37_41)))
            have l40_42 := lookE hA42 40 (es rfl (es rfl (es rfl l40_41)))
            have l41_42 := lookE hA42 41 (es rfl (es rfl (es rfl l41_41)))
            have l42_42 := lookE hA42 42 (es rfl (es rfl (es rfl l42_41)))
            clear hA42 hsz41 hdf41 l1_41 l2_41 l6_41 l7_41 l11_41 l25_41 l26_41 l27_41 l35_41 l36_41 l37_41 l40_41 l41_41 l42_41
            refine inb_n ?_
            refine then_n (hK29 _ _ ?_)
            clear hK29
            -- region 11
            refine region_in ?_
            refine W_v rfl rfl (V_add rfl l27_42 rfl (by omega) (by omega)) ?_
            refine W_v rfl rfl (V_mov rfl (et rfl)) ?_
            refine W_end ?_
            refine gen_Q (fun A43 hA43 => ?_)
            have hsz43 : SzN A43 53 := by rw [hA43]; infer_instance
            have hdf43 : A43.defers = [] := by rw [hA43]; simp only [df_put]; exact hdf42
            have l1_43 := lookE hA43 1 (es rfl (es rfl l1_42))
            have l2_43 := lookE hA43 2 (es rfl (es rfl l2_42))
            have l6_43 := lookE hA43 6 (es rfl (es rfl l6_42))
            have l7_43 := lookE hA43 7 (es rfl (es rfl l7_42))
            have l11_43 := lookE hA43 11 (es rfl (es rfl l11_42))
            have l25_43 := lookE hA43 25 (es rfl (es rfl l25_42))
            have l26_43 := lookE hA43 26 (es rfl (es rfl l26_42))
            have l27_43 := lookE hA43 27 (et rfl)
            have l35_43 := lookE hA43 35 (es rfl (es rfl l35_42))
            have l36_43 := lookE hA43 36 (es rfl (es rfl l36_42))
            have l37_43 := lookE hA43 37 (es rfl (es rfl l37_42))
            have l40_43 := lookE hA43 40 (es rfl (es rfl l40_42))
            have l41_43 := lookE hA43 41 (es rfl (es rfl l41_42))
            have l42_43 := lookE hA43 42 (es rfl (es rfl l42_42))
            clear hA43 hsz42 hdf42 l1_42 l2_42 l6_42 l7_42 l11_42 l25_42 l26_42 l27_42 l35_42 l36_42 l37_42 l40_42 l41_42 l42_42
            refine then_n ⟨c.length - (k + 1), by simp only [hm24]; omega, hsz43, hdf43, (k + 1), rfl, (by omega), (pgK_len _ _ _ _), (cP_bd _ _ _), ((l27_43).trans (by first | rfl | (simp; done) | (congr 1; omega))), ((l7_43).trans ((by rw [(pgK_set (f := f) (t := t) hq31 (by omega)).2] <;> rfl))), ((l1_43).trans l1_23.symm), ((l2_43).trans l2_23.symm), ((l6_43).trans l6_23.symm), ((l11_43).trans l11_23.symm), ((l25_43).trans l25_23.symm), ((l26_43).trans l26_23.symm), (by have q0 : c40 = io .i64 v_18 (pgK c f t (k + 1)) := hc40.trans ((congrArg (io .i64 _) (pgK_set (f := f) (t := t) hq31 (by omega)).1)); have q1 := hc3_24; subst q0 q1; exact hS40)⟩
          · skip
            refine wp_skip ?_
            refine inb_n ?_
            refine then_n (hK29 _ _ ?_)
            clear hK29
            -- region 11
            refine region_in ?_
            refine W_v rfl rfl (V_add rfl l27_36 rfl (by omega) (by omega)) ?_
            refine W_v rfl rfl (V_mov rfl (et rfl)) ?_
            refine W_end ?_
            refine gen_Q (fun A44 hA44 => ?_)
            have hsz44 : SzN A44 53 := by rw [hA44]; infer_instance
            have hdf44 : A44.defers = [] := by rw [hA44]; simp only [df_put]; exact hdf36
            have l1_44 := lookE hA44 1 (es rfl (es rfl l1_36))
            have l2_44 := lookE hA44 2 (es rfl (es rfl l2_36))
            have l6_44 := lookE hA44 6 (es rfl (es rfl l6_36))
            have l7_44 := lookE hA44 7 (es rfl (es rfl l7_36))
            have l11_44 := lookE hA44 11 (es rfl (es rfl l11_36))
            have l25_44 := lookE hA44 25 (es rfl (es rfl l25_36))
            have l26_44 := lookE hA44 26 (es rfl (es rfl l26_36))
            have l27_44 := lookE hA44 27 (et rfl)
            have l35_44 := lookE hA44 35 (es rfl (es rfl l35_36))
            have l36_44 := lookE hA44 36 (es rfl (es rfl l36_36))
            have l37_44 := lookE hA44 37 (es rfl (es rfl l37_36))
            have l40_44 := lookE hA44 40 (es rfl (es rfl l40_36))
            have l41_44 := lookE hA44 41 (es rfl (es rfl l41_36))
            have l42_44 := lookE hA44 42 (es rfl (es rfl l42_36))
            clear hA44 hsz36 hdf36 l1_36 l2_36 l6_36 l7_36 l11_36 l12_36 l25_36 l26_36 l27_36 l35_36 l36_36 l37_36 l40_36 l41_36 l42_36 l43_36
            refine then_n ⟨c.length - (k + 1), by simp only [hm24]; omega, hsz44, hdf44, (k + 1), rfl, (by omega), (pgK_len _ _ _ _), (cP_bd _ _ _), ((l27_44).trans (by first | rfl | (simp; done) | (congr 1; omega))), ((l7_44).trans ((by rw [(pgK_skip (f := f) (t := t) hq31 (by omega)).2] <;> rfl))), ((l1_44).trans l1_23.symm), ((l2_44).trans l2_23.symm), ((l6_44).trans l6_23.symm), ((l11_44).trans l11_23.symm), ((l25_44).trans l25_23.symm), ((l26_44).trans l26_23.symm), (by have q0 : c_24 = io .i64 v_18 (pgK c f t (k + 1)) := hc_24.trans ((congrArg (io .i64 _) (pgK_skip (f := f) (t := t) hq31 (by omega)).1)); have q1 := hc3_24; subst q0 q1; exact hS24)⟩
        · skip
          refine W_off rfl (wanted_f rfl rfl (et rfl) (ez rfl) rfl) ?_
          refine W_off rfl (wanted_f rfl rfl (es rfl (et rfl)) (ez rfl) rfl) ?_
          refine W_off rfl (wanted_f rfl rfl (es rfl (es rfl (et rfl))) (ez rfl) rfl) ?_
          refine W_v rfl rfl (V_pickF rfl (es rfl (es rfl (es rfl (et rfl)))) rfl) ?_
          refine W_end ?_
          refine gen_Q (fun A45 hA45 => ?_)
          have hsz45 : SzN A45 53 := by rw [hA45]; infer_instance
          have hdf45 : A45.defers = [] := by rw [hA45]; simp only [df_put]; exact hdf32
          have l1_45 := lookE hA45 1 (es rfl (es rfl (es rfl (es rfl (es rfl (es rfl (es rfl (es rfl (es rfl (es rfl (es rfl (es rfl l1_32))))))))))))
          have l2_45 := lookE hA45 2 (es rfl (es rfl (es rfl (es rfl (es rfl (es rfl (es rfl (es rfl (es rfl (es rfl (es rfl (es rfl l2_32))))))))))))
          have l6_45 := lookE hA45 6 (es rfl (es rfl (es rfl (es rfl (es rfl (es rfl (es rfl (es rfl (es rfl (es rfl (es rfl (es rfl l6_32))))))))))))
          have l7_45 := lookE hA45 7 (es rfl (es rfl (es rfl (es rfl (es rfl (es rfl (es rfl (es rfl (es rfl (es rfl (es rfl (es rfl l7_32))))))))))))
          have l11_45 := lookE hA45 11 (es rfl (es rfl (es rfl (es rfl (es rfl (es rfl (es rfl (es rfl (es rfl (es rfl (es rfl (es rfl l11_32))))))))))))
          have l12_45 := lookE hA45 12 (es rfl (es rfl (es rfl (es rfl (es rfl (es rfl (es rfl (es rfl (es rfl (es rfl (es rfl (es rfl l12_32))))))))))))
          have l25_45 := lookE hA45 25 (es rfl (es rfl (es rfl (es rfl (es rfl (es rfl (es rfl (es rfl (es rfl (es rfl (es rfl (es rfl l25_32))))))))))))
          have l26_45 := lookE hA45 26 (es rfl (es rfl (es rfl (es rfl (es rfl (es rfl (es rfl (es rfl (es rfl (es rfl (es rfl (es rfl l26_32))))))))))))
          have l27_45 := lookE hA45 27 (es rfl (es rfl (es rfl (es rfl (es rfl (es rfl (es rfl (es rfl (es rfl (es rfl (es rfl (es rfl l27_32))))))))))))
          have l35_45 := lookE hA45 35 (es rfl (es rfl (es rfl (es rfl (es rfl (es rfl (es rfl (es rfl (et rfl)))))))))
          have l36_45 := lookE hA45 36 (es rfl (es rfl (es rfl (es rfl (es rfl (es rfl (es rfl (et rfl))))))))
          have l37_45 := lookE hA45 37 (es rfl (es rfl (es rfl (es rfl (es rfl (es rfl (et rfl)))))))
          have l40_45 := lookE hA45 40 (es rfl (es rfl (es rfl (et rfl))))
          have l41_45 := lookE hA45 41 (es rfl (es rfl (et rfl)))
          have l42_45 := lookE hA45 42 (es rfl (et rfl))
          have l43_45 := lookE hA45 43 (et rfl)
          clear hA45 hsz32 hdf32 l1_32 l2_32 l6_32 l7_32 l11_32 l12_32 l13_32 l25_32 l26_32 l27_32
          refine then_n (hK33 _ _ ?_)
          clear hK33
          refine cond_f l43_45 ?_
          refine wp_skip ?_
          refine inb_n ?_
          refine then_n (hK29 _ _ ?_)
          clear hK29
          -- region 11
          refine region_in ?_
          refine W_v rfl rfl (V_add rfl l27_45 rfl (by omega) (by omega)) ?_
          refine W_v rfl rfl (V_mov rfl (et rfl)) ?_
          refine W_end ?_
          refine gen_Q (fun A46 hA46 => ?_)
          have hsz46 : SzN A46 53 := by rw [hA46]; infer_instance
          have hdf46 : A46.defers = [] := by rw [hA46]; simp only [df_put]; exact hdf45
          have l1_46 := lookE hA46 1 (es rfl (es rfl l1_45))
          have l2_46 := lookE hA46 2 (es rfl (es rfl l2_45))
          have l6_46 := lookE hA46 6 (es rfl (es rfl l6_45))
          have l7_46 := lookE hA46 7 (es rfl (es rfl l7_45))
          have l11_46 := lookE hA46 11 (es rfl (es rfl l11_45))
          have l25_46 := lookE hA46 25 (es rfl (es rfl l25_45))
          have l26_46 := lookE hA46 26 (es rfl (es rfl l26_45))
          have l27_46 := lookE hA46 27 (et rfl)
          have l35_46 := lookE hA46 35 (es rfl (es rfl l35_45))
          have l36_46 := lookE hA46 36 (es rfl (es rfl l36_45))
          have l37_46 := lookE hA46 37 (es rfl (es rfl l37_45))
          have l40_46 := lookE hA46 40 (es rfl (es rfl l40_45))
          have l41_46 := lookE hA46 41 (es rfl (es rfl l41_45))
          have l42_46 := lookE hA46 42 (es rfl (es rfl l42_45))
          clear hA46 hsz45 hdf45 l1_45 l2_45 l6_45 l7_45 l11_45 l12_45 l25_45 l26_45 l27_45 l35_45 l36_45 l37_45 l40_45 l41_45 l42_45 l43_45
          refine then_n ⟨c.length - (k + 1), by simp only [hm24]; omega, hsz46, hdf46, (k + 1), rfl, (by omega), (pgK_len _ _ _ _), (cP_bd _ _ _), ((l27_46).trans (by first | rfl | (simp; done) | (congr 1; omega))), ((l7_46).trans ((by rw [(pgK_skip (f := f) (t := t) hq31 (by omega)).2] <;> rfl))), ((l1_46).trans l1_23.symm), ((l2_46).trans l2_23.symm), ((l6_46).trans l6_23.symm), ((l11_46).trans l11_23.symm), ((l25_46).trans l25_23.symm), ((l26_46).trans l26_23.symm), (by have q0 : c_24 = io .i64 v_18 (pgK c f t (k + 1)) := hc_24.trans ((congrArg (io .i64 _) (pgK_skip (f := f) (t := t) hq31 (by omega)).1)); have q1 := hc3_24; subst q0 q1; exact hS24)⟩
      · skip
        refine W_off rfl (wanted_f rfl rfl (et rfl) (ez rfl) rfl) ?_
        refine W_off rfl (wanted_f rfl rfl (es rfl (et rfl)) (ez rfl) rfl) ?_
        refine W_off rfl (wanted_f rfl rfl (es rfl (es rfl (et rfl))) (ez rfl) rfl) ?_
        refine W_v rfl rfl (V_pickF rfl (es rfl (es rfl (es rfl (et rfl)))) rfl) ?_
        refine W_v rfl rfl (V_mov rfl (et rfl)) ?_
        refine W_off rfl (wanted_f rfl rfl (et rfl) (ez rfl) rfl) ?_
        refine W_off rfl (wanted_f rfl rfl (es rfl (et rfl)) (ez rfl) rfl) ?_
        refine W_off rfl (wanted_f rfl rfl (es rfl (es rfl (et rfl))) (ez rfl) rfl) ?_
        refine W_v rfl rfl (V_pickF rfl (es rfl (es rfl (es rfl (et rfl)))) rfl) ?_
        refine W_end ?_
        refine gen_Q (fun A47 hA47 => ?_)
        have hsz47 : SzN A47 53 := by rw [hA47]; infer_instance
        have hdf47 : A47.defers = [] := by rw [hA47]; simp only [df_put]; exact hdf32
        have l1_47 := lookE hA47 1 (es rfl (es rfl (es rfl (es rfl (es rfl (es rfl (es rfl (es rfl (es rfl (es rfl (es rfl (es rfl l1_32))))))))))))
        have l2_47 := lookE hA47 2 (es rfl (es rfl (es rfl (es rfl (es rfl (es rfl (es rfl (es rfl (es rfl (es rfl (es rfl (es rfl l2_32))))))))))))
        have l6_47 := lookE hA47 6 (es rfl (es rfl (es rfl (es rfl (es rfl (es rfl (es rfl (es rfl (es rfl (es rfl (es rfl (es rfl l6_32))))))))))))
        have l7_47 := lookE hA47 7 (es rfl (es rfl (es rfl (es rfl (es rfl (es rfl (es rfl (es rfl (es rfl (es rfl (es rfl (es rfl l7_32))))))))))))
        have l11_47 := lookE hA47 11 (es rfl (es rfl (es rfl (es rfl (es rfl (es rfl (es rfl (es rfl (es rfl (es rfl (es rfl (es rfl l11_32))))))))))))
        have l12_47 := lookE hA47 12 (es rfl (es rfl (es rfl (es rfl (es rfl (es rfl (es rfl (es rfl (es rfl (es rfl (es rfl (es rfl l12_32))))))))))))
        have l25_47 := lookE hA47 25 (es rfl (es rfl (es rfl (es rfl (es rfl (es rfl (es rfl (es rfl (es rfl (es rfl (es rfl (es rfl l25_32))))))))))))
        have l26_47 := lookE hA47 26 (es rfl (es rfl (es rfl (es rfl (es rfl (es rfl (es rfl (es rfl (es rfl (es rfl (es rfl (es rfl l26_32))))))))))))
        have l27_47 := lookE hA47 27 (es rfl (es rfl (es rfl (es rfl (es rfl (es rfl (es rfl (es rfl (es rfl (es rfl (es rfl (es rfl l27_32))))))))))))
        have l35_47 := lookE hA47 35 (es rfl (es rfl (es rfl (es rfl (es rfl (es rfl (es rfl (es rfl (et rfl)))))))))
        have l36_47 := lookE hA47 36 (es rfl (es rfl (es rfl (es rfl (es rfl (es rfl (es rfl (et rfl))))))))
        have l37_47 := lookE hA47 37 (es rfl (es rfl (es rfl (es rfl (es rfl (es rfl (et rfl)))))))
        have l40_47 := lookE hA47 40 (es rfl (es rfl (es rfl (et rfl))))
        have l41_47 := lookE hA47 41 (es rfl (es rfl (et rfl)))
        have l42_47 := lookE hA47 42 (es rfl (et rfl))
        have l43_47 := lookE hA47 43 (et rfl)
        clear hA47 hsz32 hdf32 l1_32 l2_32 l6_32 l7_32 l11_32 l12_32 l13_32 l25_32 l26_32 l27_32
        refine then_n (hK33 _ _ ?_)
        clear hK33
        refine cond_f l43_47 ?_
        refine wp_skip ?_
        refine inb_n ?_
        refine then_n (hK29 _ _ ?_)
        clear hK29
        -- region 11
        refine region_in ?_
        refine W_v rfl rfl (V_add rfl l27_47 rfl (by omega) (by omega)) ?_
        refine W_v rfl rfl (V_mov rfl (et rfl)) ?_
        refine W_end ?_
        refine gen_Q (fun A48 hA48 => ?_)
        have hsz48 : SzN A48 53 := by rw [hA48]; infer_instance
        have hdf48 : A48.defers = [] := by rw [hA48]; simp only [df_put]; exact hdf47
        have l1_48 := lookE hA48 1 (es rfl (es rfl l1_47))
        have l2_48 := lookE hA48 2 (es rfl (es rfl l2_47))
        have l6_48 := lookE hA48 6 (es rfl (es rfl l6_47))
        have l7_48 := lookE hA48 7 (es rfl (es rfl l7_47))
        have l11_48 := lookE hA48 11 (es rfl (es rfl l11_47))
        have l25_48 := lookE hA48 25 (es rfl (es rfl l25_47))
        have l26_48 := lookE hA48 26 (es rfl (es rfl l26_47))
        have l27_48 := lookE hA48 27 (et rfl)
        have l35_48 := lookE hA48 35 (es rfl (es rfl l35_47))
        have l36_48 := lookE hA48 36 (es rfl (es rfl l36_47))
        have l37_48 := lookE hA48 37 (es rfl (es rfl l37_47))
        have l40_48 := lookE hA48 40 (es rfl (es rfl l40_47))
        have l41_48 := lookE hA48 41 (es rfl (es rfl l41_47))
        have l42_48 := lookE hA48 42 (es rfl (es rfl l42_47))
        clear hA48 hsz47 hdf47 l1_47 l2_47 l6_47 l7_47 l11_47 l12_47 l25_47 l26_47 l27_47 l35_47 l36_47 l37_47 l40_47 l41_47 l42_47 l43_47
        refine then_n ⟨c.length - (k + 1), by simp only [hm24]; omega, hsz48, hdf48, (k + 1), rfl, (by omega), (pgK_len _ _ _ _), (cP_bd _ _ _), ((l27_48).trans (by first | rfl | (simp; done) | (congr 1; omega))), ((l7_48).trans ((by rw [(pgK_skip (f := f) (t := t) hq31 (by omega)).2] <;> rfl))), ((l1_48).trans l1_23.symm), ((l2_48).trans l2_23.symm), ((l6_48).trans l6_23.symm), ((l11_48).trans l11_23.symm), ((l25_48).trans l25_23.symm), ((l26_48).trans l26_23.symm), (by have q0 : c_24 = io .i64 v_18 (pgK c f t (k + 1)) := hc_24.trans ((congrArg (io .i64 _) (pgK_skip (f := f) (t := t) hq31 (by omega)).1)); have q1 := hc3_24; subst q0 q1; exact hS24)⟩
    · skip
      refine wp_exit ?_
      refine then_exit ?_
      refine then_exit ?_
      refine inb_hit ?_
      refine then_n (hK21 _ _ ?_)
      clear hK21
      refine wp_seq_k (fun K49 hK49 => ?_)
      -- region 12
      refine region_in ?_
      refine W_v rfl rfl (V_mov rfl l11_26) ?_
      refine W_v rfl rfl (V_bldS (n := 1) (z := .agg #[.slice none 0 0]) rfl (parts1 (et rfl)) (by kernel_rfl) (by simp only [List.all_cons, List.all_nil, SlN_one (ow_at (hS24.chq 0 rfl hc_24)), Bool.and_true] <;> rfl) (by kernel_rfl) (by simp only [List.foldl_cons, List.foldl_nil, Value.cells, List.setIfInBounds_toArray, List.set_cons_succ, List.set_cons_zero] <;> rfl)) ?_
      refine W_v rfl rfl (V_mov rfl (es rfl (es rfl l7_26))) ?_
      refine W_stAS 1 hS24 rfl hc3_24 rfl rfl rfl (es rfl (es rfl (es rfl l6_26))) (es rfl (et rfl)) (by simp only [List.all_toArray, List.all_cons, List.all_nil, SlN_one (ow_at (hS24.chq 0 rfl hc_24))] <;> rfl) (by rfl) (by kernel_rfl) (fun w50 c50 hc50 hS50 => ?_)
      replace hS50 : St w NoX [c_24, c50] w50 := hS50
      refine W_v rfl rfl (V_asg rfl (et rfl)) ?_
      refine W_v rfl rfl (V_asg rfl rfl) ?_
      refine W_end ?_
      refine gen_Q (fun A51 hA51 => ?_)
      have hsz51 : SzN A51 53 := by rw [hA51]; infer_instance
      have hdf51 : A51.defers = [] := by rw [hA51]; simp only [df_put]; exact hdf26
      have l6_51 := lookE hA51 6 (es rfl (es rfl (es rfl (es rfl (es rfl l6_26)))))
      have l7_51 := lookE hA51 7 (es rfl (et rfl))
      have l8_51 := lookE hA51 8 (et rfl)
      clear hA51 hsz26 hdf26 l1_26 l2_26 l6_26 l7_26 l11_26 l25_26 l26_26 l27_26 l28_26
      refine then_n (hK49 _ _ ?_)
      clear hK49
      refine wp_ret ?_
      refine ret_in (results_3 Try.results24 (rv_cellA l6_51 (hS50.obj 1 rfl hc50) Try.underlying24 rfl (by kernel_rfl)) (rv_tmp l7_51) (rv_tmp l8_51)) hdf51 ?_
      -- leaf FF
      have r0 : pgN c f t = ((((c.take k).countP (pgB f t) : Nat)) : Int) := by unfold pgN; rw [if_neg (by omega), List.take_of_length_le (by omega)]
      have r1 : (ckS c).2 = 0 := by omega
      rw [r0, r1]
      exact ⟨_, rfl, (hS50.fin1 0 rfl (hc_24.trans (congrArg (io .i64 _) (by unfold pgT; rw [if_neg (by omega), pgK_all (by omega)]))))⟩

end Go.Proofs.Ytoandfgkkmfobaa