import Derived.Test.YtoandfgkkmfobaaProg
import Derived.Test.YtoandfgkkmfobaaSl4
namespace Go.Proofs.Ytoandfgkkmfobaa
open Go.RowKit Go.Own Go.Own.R Go.Own.S


set_option maxHeartbeats 4000000 in
theorem kch_c {cv : Value} {c : List Int} {a : Int} {w : World} (h_cv : Ro w NoX (il .i64 cv c))  :
    Calls Try.prog 37 #[.agg #[cv], .int .i64 a] w fun e w' => e = .returned (.int .i64 (chE c a)) ∧ St w NoX [] w' := by
  refine calls_in 18 Try.func37 rfl rfl (by simp) (fun A0 hsz0 hdf0 hargs => ?_)
  have l0_0 := hargs 0 (.agg #[cv]) rfl
  have l1_0 := hargs 1 (.int .i64 a) rfl
  clear hargs; replace hsz0 : SzN A0 18 := ⟨hsz0⟩
  have hS := St.nil w
  have bh_cv := SlN.le (sl_SlN h_cv.at)
  refine wp_seq_k (fun K1 hK1 => ?_)
  -- region 0
  refine region_in ?_
  refine W_boxS (zs := #[cv]) hS rfl rfl rfl l0_0 (by rfl) (fun g2 w2 c2 hc2 hS2 => ?_)
  replace hS2 : St w NoX [c2] w2 := hS2
  refine W_v rfl rfl (V_asg rfl rfl) ?_
  refine W_end ?_
  refine gen_Q (fun A3 hA3 => ?_)
  have hsz3 : SzN A3 18 := by rw [hA3]; infer_instance
  have hdf3 : A3.defers = [] := by rw [hA3]; simp only [df_put]; exact hdf0
  have l1_3 := lookE hA3 1 (es rfl (es rfl l1_0))
  have l2_3 := lookE hA3 2 (es rfl (et rfl))
  clear hA3 hsz0 hdf0 l0_0 l1_0
  refine then_n (hK1 _ _ ?_)
  clear hK1
  refine wp_seq_k (fun K4 hK4 => ?_)
  refine wp_seq_k (fun K5 hK5 => ?_)
  -- region 1
  refine region_in ?_
  refine W_r rfl rfl (VR_ldA rfl l2_3 (hS2.obj 0 rfl hc2) Try.underlying24 rfl (by kernel_rfl)) ?_
  refine W_call rfl rfl rfl Try.func26 (by kernel_rfl) rfl (args1 (et rfl)) (kCk_c (hS2.roC h_cv) ) ?_
  rintro _ w6 ⟨rfl, hP6⟩
  refine ⟨_, rfl, ?_⟩
  have hS6 := hS2.join hP6
  replace hS6 : St w NoX [c2] w6 := hS6
  refine W_v rfl rfl (V_mov rfl (et rfl)) ?_
  refine W_v rfl rfl (V_ext (v := .int .i64 ((ckS c).1)) rfl (et rfl) rfl) ?_
  refine W_v rfl rfl (V_ext (v := .int .i64 ((ckS c).2)) rfl (es rfl (et rfl)) rfl) ?_
  refine W_v rfl rfl (V_asg rfl (es rfl (et rfl))) ?_
  refine W_v rfl rfl (V_asg rfl (es rfl (et rfl))) ?_
  refine W_end ?_
  refine gen_Q (fun A7 hA7 => ?_)
  have hsz7 : SzN A7 18 := by rw [hA7]; infer_instance
  have hdf7 : A7.defers = [] := by rw [hA7]; simp only [df_put]; exact hdf3
  have l1_7 := lookE hA7 1 (es rfl (es rfl (es rfl (es rfl (es rfl (es rfl (es rfl l1_3)))))))
  have l6_7 := lookE hA7 6 (et rfl)
  clear hA7 hsz3 hdf3 l1_3 l2_3
  have hS8 : St w NoX [] w6 := hS6.sel [] (by decide) rfl
  refine then_n (hK5 _ _ ?_)
  clear hK5
  refine wp_seq_k (fun K9 hK9 => ?_)
  -- region 2
  refine region_in ?_
  refine W_v rfl rfl (V_mov rfl l6_7) ?_
  refine W_v rfl rfl (V_neq rfl (et rfl) rfl) ?_
  refine W_end ?_
  refine gen_Q (fun A10 hA10 => ?_)
  have hsz10 : SzN A10 18 := by rw [hA10]; infer_instance
  have hdf10 : A10.defers = [] := by rw [hA10]; simp only [df_put]; exact hdf7
  have l1_10 := lookE hA10 1 (es rfl (es rfl l1_7))
  have l6_10 := lookE hA10 6 (es rfl (es rfl l6_7))
  have l13_10 := lookE hA10 13 (et rfl)
  clear hA10 hsz7 hdf7 l1_7 l6_7
  refine then_n (hK9 _ _ ?_)
  clear hK9
  refine cond_dec l13_10 (fun c11 => ?_) (fun c11 => ?_)
  · skip
    refine wp_seq_k (fun K12 hK12 => ?_)
    -- region 3
    refine region_in ?_
    refine W_v rfl rfl (V_mov rfl l6_10) ?_
    refine W_v rfl rfl (V_asg rfl (et rfl)) ?_
    refine W_end ?_
    refine gen_Q (fun A13 hA13 => ?_)
    have hsz13 : SzN A13 18 := by rw [hA13]; infer_instance
    have hdf13 : A13.defers = [] := by rw [hA13]; simp only [df_put]; exact hdf10
    have l4_13 := lookE hA13 4 (et rfl)
    clear hA13 hsz10 hdf10 l1_10 l6_10 l13_10
    refine then_n (hK12 _ _ ?_)
    clear hK12
    refine wp_ret ?_
    refine then_ret ?_
    refine ret_in (results_1 Try.results37 (rv_tmp l4_13)) hdf13 ?_
    -- leaf T
    have h : chE c a = (ckS c).2 := (chE_ck (by omega))
    rw [h]
    exact ⟨rfl, hS8.fin0⟩
  · skip
    refine wp_skip ?_
    refine then_n (hK4 _ _ ?_)
    clear hK4
    refine wp_seq_k (fun K14 hK14 => ?_)
    refine wp_seq_k (fun K15 hK15 => ?_)
    -- region 4
    refine region_in ?_
    refine W_v rfl rfl (V_mov rfl l1_10) ?_
    refine W_call rfl rfl rfl Try.func46 (by kernel_rfl) rfl (args1 (et rfl)) (kadr_c (a := a)  ) ?_
    rintro _ w16 ⟨rfl, hP16⟩
    refine ⟨_, rfl, ?_⟩
    have hS16 := hS8.join hP16
    replace hS16 : St w NoX [] w16 := hS16
    refine W_v rfl rfl (V_notd rfl (et rfl)) ?_
    refine W_end ?_
    refine gen_Q (fun A17 hA17 => ?_)
    have hsz17 : SzN A17 18 := by rw [hA17]; infer_instance
    have hdf17 : A17.defers = [] := by rw [hA17]; simp only [df_put]; exact hdf10
    have l17_17 := lookE hA17 17 (et rfl)
    clear hA17 hsz10 hdf10 l1_10 l6_10 l13_10
    refine then_n (hK15 _ _ ?_)
    clear hK15
    refine cond_dec l17_17 (fun c18 => ?_) (fun c18 => ?_)
    · skip
      refine wp_seq_k (fun K19 hK19 => ?_)
      -- region 5
      refine region_in ?_
      refine W_v rfl rfl (V_asg rfl rfl) ?_
      refine W_end ?_
      refine gen_Q (fun A20 hA20 => ?_)
      have hsz20 : SzN A20 18 := by rw [hA20]; infer_instance
      have hdf20 : A20.defers = [] := by rw [hA20]; simp only [df_put]; exact hdf17
      have l4_20 := lookE hA20 4 (et rfl)
      clear hA20 hsz17 hdf17 l17_17
      refine then_n (hK19 _ _ ?_)
      clear hK19
      refine wp_ret ?_
      refine then_ret ?_
      refine ret_in (results_1 Try.results37 (rv_tmp l4_20)) hdf20 ?_
      -- leaf FT
      have h : chE c a = 7 := chE_rg (by omega) (by have hc := c18; simpa using hc)
      rw [h]
      exact ⟨rfl, hS16.fin0⟩
    · skip
      refine wp_skip ?_
      refine then_n (hK14 _ _ ?_)
      clear hK14
      refine wp_seq_k (fun K21 hK21 => ?_)
      -- region 6
      refine region_in ?_
      refine W_v rfl rfl (V_asg rfl rfl) ?_
      refine W_end ?_
      refine gen_Q (fun A22 hA22 => ?_)
      have hsz22 : SzN A22 18 := by rw [hA22]; infer_instance
      have hdf22 : A22.defers = [] := by rw [hA22]; simp only [df_put]; exact hdf17
      have l4_22 := lookE hA22 4 (et rfl)
      clear hA22 hsz17 hdf17 l17_17
      refine then_n (hK21 _ _ ?_)
      clear hK21
      refine wp_ret ?_
      refine ret_in (results_1 Try.results37 (rv_tmp l4_22)) hdf22 ?_
      -- leaf FF
      have h : chE c a = 0 := chE_ok (by omega) (by have hc := c18; simpa using hc)
      rw [h]
      exact ⟨rfl, hS16.fin0⟩

set_option maxHeartbeats 4000000 in
theorem kHas_c {cv : Value} {c : List Int} {a : Int} {w : World} (h_cv : Ro w NoX (il .i64 cv c))  :
    Calls Try.prog 13 #[.agg #[cv], .int .i64 a] w fun e w' => e = .returned (.tuple #[.bool (hsB c a), .int .i64 (chE c a)]) ∧ St w NoX [] w' := by
  refine calls_in 18 Try.func13 rfl rfl (by simp) (fun A0 hsz0 hdf0 hargs => ?_)
  have l0_0 := hargs 0 (.agg #[cv]) rfl
  have l1_0 := hargs 1 (.int .i64 a) rfl
  clear hargs; replace hsz0 : SzN A0 18 := ⟨hsz0⟩
  have hS := St.nil w
  have bh_cv := SlN.le (sl_SlN h_cv.at)
  refine wp_seq_k (fun K1 hK1 => ?_)
  -- region 0
  refine region_in ?_
  refine W_boxS (zs := #[cv]) hS rfl rfl rfl l0_0 (by rfl) (fun g2 w2 c2 hc2 hS2 => ?_)
  replace hS2 : St w NoX [c2] w2 := hS2
  refine W_v rfl rfl (V_asg rfl rfl) ?_
  refine W_v rfl rfl (V_asg rfl rfl) ?_
  refine W_end ?_
  refine gen_Q (fun A3 hA3 => ?_)
  have hsz3 : SzN A3 18 := by rw [hA3]; infer_instance
  have hdf3 : A3.defers = [] := by rw [hA3]; simp only [df_put]; exact hdf0
  have l1_3 := lookE hA3 1 (es rfl (es rfl (es rfl l1_0)))
  have l2_3 := lookE hA3 2 (es rfl (es rfl (et rfl)))
  clear hA3 hsz0 hdf0 l0_0 l1_0
  refine then_n (hK1 _ _ ?_)
  clear hK1
  refine wp_seq_k (fun K4 hK4 => ?_)
  refine wp_seq_k (fun K5 hK5 => ?_)
  -- region 1
  refine region_in ?_
  refine W_r rfl rfl (VR_ldA rfl l2_3 (hS2.obj 0 rfl hc2) Try.underlying24 rfl (by kernel_rfl)) ?_
  refine W_v rfl rfl (V_mov rfl (es rfl l1_3)) ?_
  refine W_call rfl rfl rfl Try.func37 (by kernel_rfl) rfl (args2 (es rfl (et rfl)) (et rfl)) (kch_c (a := a) (hS2.roC h_cv) ) ?_
  rintro _ w6 ⟨rfl, hP6⟩
  refine ⟨_, rfl, ?_⟩
  have hS6 := hS2.join hP6
  replace hS6 : St w NoX [c2] w6 := hS6
  refine W_v rfl rfl (V_asg rfl (et rfl)) ?_
  refine W_end ?_
  refine gen_Q (fun A7 hA7 => ?_)
  have hsz7 : SzN A7 18 := by rw [hA7]; infer_instance
  have hdf7 : A7.defers = [] := by rw [hA7]; simp only [df_put]; exact hdf3
  have l1_7 := lookE hA7 1 (es rfl (es rfl (es rfl (es rfl l1_3))))
  have l2_7 := lookE hA7 2 (es rfl (es rfl (es rfl (es rfl l2_3))))
  have l6_7 := lookE hA7 6 (et rfl)
  clear hA7 hsz3 hdf3 l1_3 l2_3
  refine then_n (hK5 _ _ ?_)
  clear hK5
  refine wp_seq_k (fun K8 hK8 => ?_)
  -- region 2
  refine region_in ?_
  refine W_v rfl rfl (V_mov rfl l6_7) ?_
  refine W_v rfl rfl (V_neq rfl (et rfl) rfl) ?_
  refine W_end ?_
  refine gen_Q (fun A9 hA9 => ?_)
  have hsz9 : SzN A9 18 := by rw [hA9]; infer_instance
  have hdf9 : A9.defers = [] := by rw [hA9]; simp only [df_put]; exact hdf7
  have l1_9 := lookE hA9 1 (es rfl (es rfl l1_7))
  have l2_9 := lookE hA9 2 (es rfl (es rfl l2_7))
  have l6_9 := lookE hA9 6 (es rfl (es rfl l6_7))
  have l11_9 := lookE hA9 11 (et rfl)
  clear hA9 hsz7 hdf7 l1_7 l2_7 l6_7
  refine then_n (hK8 _ _ ?_)
  clear hK8
  refine cond_dec l11_9 (fun c10 => ?_) (fun c10 => ?_)
  · skip
    refine wp_seq_k (fun K11 hK11 => ?_)
    -- region 3
    refine region_in ?_
    refine W_v rfl rfl (V_mov rfl l6_9) ?_
    refine W_v rfl rfl (V_asg rfl rfl) ?_
    refine W_v rfl rfl (V_asg rfl (es rfl (et rfl))) ?_
    refine W_end ?_
    refine gen_Q (fun A12 hA12 => ?_)
    have hsz12 : SzN A12 18 := by rw [hA12]; infer_instance
    have hdf12 : A12.defers = [] := by rw [hA12]; simp only [df_put]; exact hdf9
    have l4_12 := lookE hA12 4 (es rfl (et rfl))
    have l5_12 := lookE hA12 5 (et rfl)
    clear hA12 hsz9 hdf9 l1_9 l2_9 l6_9 l11_9
    have hS13 : St w NoX [] w6 := hS6.sel [] (by decide) rfl
    refine then_n (hK11 _ _ ?_)
    clear hK11
    refine wp_ret ?_
    refine then_ret ?_
    refine ret_in (results_2 Try.results13 (rv_tmp l4_12) (rv_tmp l5_12)) hdf12 ?_
    -- leaf T
    have r0 : hsB c a = false := by unfold hsB; exact decide_eq_false (by omega)
    have r1 : chE c a = (chE c a) := by omega
    rw [r0, r1]
    exact ⟨rfl, hS13.fin0⟩
  · skip
    obtain ⟨hG, ha⟩ := ch0 (c := c) (a := a) (by omega)
    have hpb := hG.bd
    have hh : chE c a = 0 := by omega
    refine wp_skip ?_
    refine then_n (hK4 _ _ ?_)
    clear hK4
    refine wp_seq_k (fun K14 hK14 => ?_)
    -- region 4
    refine region_in ?_
    refine W_v rfl rfl (V_fa (off' := 0) rfl l2_9 Try.underlying24 rfl (by decide +kernel) rfl) ?_
    refine W_r rfl rfl (VR_ldC rfl (et rfl) (cell_box (v := cv) (hS6.obj 0 rfl hc2) rfl) Try.underlying22 rfl) ?_
    refine W_v rfl rfl (V_mov rfl (es rfl (es rfl l1_9))) ?_
    refine W_call rfl rfl rfl Try.func38 (by kernel_rfl) rfl (args2 (es rfl (et rfl)) (et rfl)) (kfind_c (a := a) (hS6.roC h_cv) (by first | with_reducible assumption | with_reducible exact hG.p2 | with_reducible exact hG2.p2 | (rw [hbl]; exact n1) | (simp only [List.length_set, List.length_replicate] <;> assumption)) (by first | omega | with_reducible assumption)) ?_
    rintro _ w15 ⟨rfl, hP15⟩
    refine ⟨_, rfl, ?_⟩
    have hS15 := hS6.join hP15
    replace hS15 : St w NoX [c2] w15 := hS15
    refine W_v rfl rfl (V_geq rfl (et rfl) rfl) ?_
    refine W_v rfl rfl (V_asg rfl (et rfl)) ?_
    refine W_v rfl rfl (V_asg rfl rfl) ?_
    refine W_end ?_
    refine gen_Q (fun A16 hA16 => ?_)
    have hsz16 : SzN A16 18 := by rw [hA16]; infer_instance
    have hdf16 : A16.defers = [] := by rw [hA16]; simp only [df_put]; exact hdf9
    have l4_16 := lookE hA16 4 (es rfl (et rfl))
    have l5_16 := lookE hA16 5 (et rfl)
    clear hA16 hsz9 hdf9 l1_9 l2_9 l6_9 l11_9
    have hS17 : St w NoX [] w15 := hS15.sel [] (by decide) rfl
    refine then_n (hK14 _ _ ?_)
    clear hK14
    refine wp_ret ?_
    refine ret_in (results_2 Try.results13 (rv_tmp l4_16) (rv_tmp l5_16)) hdf16 ?_
    -- leaf F
    have r0 : hsB c a = decide (0 ≤ (fnd c a)) := by unfold hsB; exact decide_eq_decide.2 (by omega)
    have r1 : chE c a = 0 := by omega
    rw [r0, r1]
    exact ⟨rfl, hS17.fin0⟩

set_option maxHeartbeats 4000000 in
theorem kAdd_c {cv : Value} {c : List Int} {a : Int} {w : World} (h_cv : Ro w NoX (il .i64 cv c))  :
    Calls Try.prog 15 #[.agg #[cv], .int .i64 a] w fun e w' => ∃ v, e = .returned (.tuple #[.agg #[v], .bool (adB c a), .int .i64 (chE c a)]) ∧ St w NoX [io .i64 (v) (adT c a)] w' := by
  refine calls_in 28 Try.func15 rfl rfl (by simp) (fun A0 hsz0 hdf0 hargs => ?_)
  have l0_0 := hargs 0 (.agg #[cv]) rfl
  have l1_0 := hargs 1 (.int .i64 a) rfl
  clear hargs; replace hsz0 : SzN A0 28 := ⟨hsz0⟩
  have hS := St.nil w
  have bh_cv := SlN.le (sl_SlN h_cv.at)
  refine wp_seq_k (fun K1 hK1 => ?_)
  -- region 0
  refine region_in ?_
  refine W_boxS (zs := #[cv]) hS rfl rfl rfl l0_0 (by rfl) (fun g2 w2 c2 hc2 hS2 => ?_)
  replace hS2 : St w NoX [c2] w2 := hS2
  refine W_allocS (z := .agg #[.slice none 0 0]) (zs := #[.slice none 0 0]) hS2 rfl rfl rfl (by kernel_rfl) (by rfl) (fun g3 w3 c3 hc3 hS3 => ?_)
  replace hS3 : St w NoX [c3, c2] w3 := hS3
  refine W_v rfl rfl (V_asg rfl rfl) ?_
  refine W_v rfl rfl (V_asg rfl rfl) ?_
  refine W_end ?_
  refine gen_Q (fun A4 hA4 => ?_)
  have hsz4 : SzN A4 28 := by rw [hA4]; infer_instance
  have hdf4 : A4.defers = [] := by rw [hA4]; simp only [df_put]; exact hdf0
  have l1_4 := lookE hA4 1 (es rfl (es rfl (es rfl (es rfl l1_0))))
  have l2_4 := lookE hA4 2 (es rfl (es rfl (es rfl (et rfl))))
  have l4_4 := lookE hA4 4 (es rfl (es rfl (et rfl)))
  clear hA4 hsz0 hdf0 l0_0 l1_0
  refine then_n (hK1 _ _ ?_)
  clear hK1
  refine wp_seq_k (fun K5 hK5 => ?_)
  refine wp_seq_k (fun K6 hK6 => ?_)
  -- region 1
  refine region_in ?_
  refine W_r rfl rfl (VR_ldA rfl l2_4 (hS3.obj 1 rfl hc2) Try.underlying24 rfl (by kernel_rfl)) ?_
  refine W_v rfl rfl (V_mov rfl (es rfl l1_4)) ?_
  refine W_call rfl rfl rfl Try.func37 (by kernel_rfl) rfl (args2 (es rfl (et rfl)) (et rfl)) (kch_c (a := a) (hS3.roC h_cv) ) ?_
  rintro _ w7 ⟨rfl, hP7⟩
  refine ⟨_, rfl, ?_⟩
  have hS7 := hS3.join hP7
  replace hS7 : St w NoX [c3, c2] w7 := hS7
  refine W_v rfl rfl (V_asg rfl (et rfl)) ?_
  refine W_end ?_
  refine gen_Q (fun A8 hA8 => ?_)
  have hsz8 : SzN A8 28 := by rw [hA8]; infer_instance
  have hdf8 : A8.defers = [] := by rw [hA8]; simp only [df_put]; exact hdf4
  have l1_8 := lookE hA8 1 (es rfl (es rfl (es rfl (es rfl l1_4))))
  have l2_8 := lookE hA8 2 (es rfl (es rfl (es rfl (es rfl l2_4))))
  have l4_8 := lookE hA8 4 (es rfl (es rfl (es rfl (es rfl l4_4))))
  have l7_8 := lookE hA8 7 (et rfl)
  clear hA8 hsz4 hdf4 l1_4 l2_4 l4_4
  refine then_n (hK6 _ _ ?_)
  clear hK6
  refine wp_seq_k (fun K9 hK9 => ?_)
  -- region 2
  refine region_in ?_
  refine W_v rfl rfl (V_mov rfl l7_8) ?_
  refine W_v rfl rfl (V_neq rfl (et rfl) rfl) ?_
  refine W_end ?_
  refine gen_Q (fun A10 hA10 => ?_)
  have hsz10 : SzN A10 28 := by rw [hA10]; infer_instance
  have hdf10 : A10.defers = [] := by rw [hA10]; simp only [df_put]; exact hdf8
  have l1_10 := lookE hA10 1 (es rfl (es rfl l1_8))
  have l2_10 := lookE hA10 2 (es rfl (es rfl l2_8))
  have l4_10 := lookE hA10 4 (es rfl (es rfl l4_8))
  have l7_10 := lookE hA10 7 (es rfl (es rfl l7_8))
  have l13_10 := lookE hA10 13 (et rfl)
  clear hA10 hsz8 hdf8 l1_8 l2_8 l4_8 l7_8
  refine then_n (hK9 _ _ ?_)
  clear hK9
  refine cond_dec l13_10 (fun c11 => ?_) (fun c11 => ?_)
  · skip
    refine wp_seq_k (fun K12 hK12 => ?_)
    -- region 3
    refine region_in ?_
    refine W_v rfl rfl (V_bldS (n := 1) (z := .agg #[.slice none 0 0]) rfl (parts0) (by kernel_rfl) (by simp only [List.all_cons, List.all_nil, Bool.and_true] <;> rfl) (by kernel_rfl) (by simp only [List.foldl_cons, List.foldl_nil, Value.cells, List.setIfInBounds_toArray, List.set_cons_succ, List.set_cons_zero] <;> rfl)) ?_
    refine W_v rfl rfl (V_mov rfl (es rfl l7_10)) ?_
    refine W_stAS 0 hS7 rfl hc3 rfl rfl rfl (es rfl (es rfl l4_10)) (es rfl (et rfl)) (by first | (rw [List.all_toArray] <;> rfl) | (simp only [List.all_toArray, List.all_cons, List.all_nil] <;> rfl)) (by rfl) (by kernel_rfl) (fun w13 c13 hc13 hS13 => ?_)
    replace hS13 : St w NoX [c13, c2] w13 := hS13
    refine W_v rfl rfl (V_asg rfl rfl) ?_
    refine W_v rfl rfl (V_asg rfl (es rfl (et rfl))) ?_
    refine W_end ?_
    refine gen_Q (fun A14 hA14 => ?_)
    have hsz14 : SzN A14 28 := by rw [hA14]; infer_instance
    have hdf14 : A14.defers = [] := by rw [hA14]; simp only [df_put]; exact hdf10
    have l4_14 := lookE hA14 4 (es rfl (es rfl (es rfl (es rfl l4_10))))
    have l5_14 := lookE hA14 5 (es rfl (et rfl))
    have l6_14 := lookE hA14 6 (et rfl)
    clear hA14 hsz10 hdf10 l1_10 l2_10 l4_10 l7_10 l13_10
    have hS15 : St w NoX [c13] w13 := hS13.sel [0] (by decide) rfl
    refine then_n (hK12 _ _ ?_)
    clear hK12
    refine wp_ret ?_
    refine then_ret ?_
    refine ret_in (results_3 Try.results15 (rv_cellA l4_14 (hS15.obj 0 rfl hc13) Try.underlying24 rfl (by kernel_rfl)) (rv_tmp l5_14) (rv_tmp l6_14)) hdf14 ?_
    -- leaf T
    obtain ⟨c16, hc16, hS16⟩ := hS15.pnil (s := 1)
    have r0 : adB c a = false := by unfold adB; exact decide_eq_false (by omega)
    have r1 : chE c a = (chE c a) := by omega
    rw [r0, r1]
    exact ⟨_, rfl, (hS16.fin1 0 rfl (hc16.trans (by rw [show adT c a = [] by unfold adT; rw [if_pos (by omega)]] <;> rfl)))⟩
  · skip
    obtain ⟨hG, ha⟩ := ch0 (c := c) (a := a) (by omega)
    have hpb := hG.bd
    have hh : chE c a = 0 := by omega
    refine wp_skip ?_
    refine then_n (hK5 _ _ ?_)
    clear hK5
    refine wp_seq_k (fun K17 hK17 => ?_)
    -- region 4
    refine region_in ?_
    refine W_r rfl rfl (VR_ldA rfl l2_10 (hS7.obj 1 rfl hc2) Try.underlying24 rfl (by kernel_rfl)) ?_
    refine W_call rfl rfl rfl Try.func41 (by kernel_rfl) rfl (args1 (et rfl)) (kown_c (hS7.roC h_cv) (by first | omega | with_reducible assumption)) ?_
    rintro _ w18 ⟨v_18, rfl, hP18⟩
    refine ⟨_, rfl, ?_⟩
    obtain ⟨c_18, hc_18, hP18⟩ := gen1 hP18
    have hS18 := hS7.join hP18
    replace hS18 : St w NoX [c_18, c3, c2] w18 := hS18
    refine W_v rfl rfl (V_asg rfl (et rfl)) ?_
    refine W_end ?_
    refine gen_Q (fun A19 hA19 => ?_)
    have hsz19 : SzN A19 28 := by rw [hA19]; infer_instance
    have hdf19 : A19.defers = [] := by rw [hA19]; simp only [df_put]; exact hdf10
    have l1_19 := lookE hA19 1 (es rfl (es rfl (es rfl l1_10)))
    have l4_19 := lookE hA19 4 (es rfl (es rfl (es rfl l4_10)))
    have l8_19 := lookE hA19 8 (et rfl)
    clear hA19 hsz10 hdf10 l1_10 l2_10 l4_10 l7_10 l13_10
    have hS20 : St w NoX [c_18, c3] w18 := hS18.sel [0, 1] (by decide) rfl
    refine then_n (hK17 _ _ ?_)
    clear hK17
    refine wp_seq_k (fun K21 hK21 => ?_)
    refine wp_seq_k (fun K22 hK22 => ?_)
    -- region 5
    refine region_in ?_
    refine W_v rfl rfl (V_mov rfl l8_19) ?_
    refine W_v rfl rfl (V_mov rfl (es rfl l1_19)) ?_
    refine W_call rfl rfl rfl Try.func38 (by kernel_rfl) rfl (args2 (es rfl (et rfl)) (et rfl)) (kfind_c (a := a) (hS20.chC 0 rfl hc_18).own (by first | with_reducible assumption | with_reducible exact hG.p2 | with_reducible exact hG2.p2 | (rw [hbl]; exact n1) | (simp only [List.length_set, List.length_replicate] <;> assumption)) (by first | omega | with_reducible assumption)) ?_
    rintro _ w23 ⟨rfl, hP23⟩
    refine ⟨_, rfl, ?_⟩
    have hS23 := hS20.join hP23
    replace hS23 : St w NoX [c_18, c3] w23 := hS23
    refine W_v rfl rfl (V_geq rfl (et rfl) rfl) ?_
    refine W_end ?_
    refine gen_Q (fun A24 hA24 => ?_)
    have hsz24 : SzN A24 28 := by rw [hA24]; infer_instance
    have hdf24 : A24.defers = [] := by rw [hA24]; simp only [df_put]; exact hdf19
    have l1_24 := lookE hA24 1 (es rfl (es rfl (es rfl (es rfl l1_19))))
    have l4_24 := lookE hA24 4 (es rfl (es rfl (es rfl (es rfl l4_19))))
    have l8_24 := lookE hA24 8 (es rfl (es rfl (es rfl (es rfl l8_19))))
    have l21_24 := lookE hA24 21 (et rfl)
    clear hA24 hsz19 hdf19 l1_19 l4_19 l8_19
    refine then_n (hK22 _ _ ?_)
    clear hK22
    refine cond_dec l21_24 (fun c25 => ?_) (fun c25 => ?_)
    · skip
      refine wp_seq_k (fun K26 hK26 => ?_)
      -- region 6
      refine region_in ?_
      refine W_v rfl rfl (V_mov rfl l8_24) ?_
      refine W_v rfl rfl (V_bldS (n := 1) (z := .agg #[.slice none 0 0]) rfl (parts1 (et rfl)) (by kernel_rfl) (by simp only [List.all_cons, List.all_nil, SlN_one (ow_at (hS23.chq 0 rfl hc_18)), Bool.and_true] <;> rfl) (by kernel_rfl) (by simp only [List.foldl_cons, List.foldl_nil, Value.cells, List.setIfInBounds_toArray, List.set_cons_succ, List.set_cons_zero] <;> rfl)) ?_
      refine W_stAS 1 hS23 rfl hc3 rfl rfl rfl (es rfl (es rfl l4_24)) (et rfl) (by simp only [List.all_toArray, List.all_cons, List.all_nil, SlN_one (ow_at (hS23.chq 0 rfl hc_18))] <;> rfl) (by rfl) (by kernel_rfl) (fun w27 c27 hc27 hS27 => ?_)
      replace hS27 : St w NoX [c_18, c27] w27 := hS27
      refine W_v rfl rfl (V_asg rfl rfl) ?_
      refine W_v rfl rfl (V_asg rfl rfl) ?_
      refine W_end ?_
      refine gen_Q (fun A28 hA28 => ?_)
      have hsz28 : SzN A28 28 := by rw [hA28]; infer_instance
      have hdf28 : A28.defers = [] := by rw [hA28]; simp only [df_put]; exact hdf24
      have l4_28 := lookE hA28 4 (es rfl (es rfl (es rfl (es rfl l4_24))))
      have l5_28 := lookE hA28 5 (es rfl (et rfl))
      have l6_28 := lookE hA28 6 (et rfl)
      clear hA28 hsz24 hdf24 l1_24 l4_24 l8_24 l21_24
      refine then_n (hK26 _ _ ?_)
      clear hK26
      refine wp_ret ?_
      refine then_ret ?_
      refine ret_in (results_3 Try.results15 (rv_cellA l4_28 (hS27.obj 1 rfl hc27) Try.underlying24 rfl (by kernel_rfl)) (rv_tmp l5_28) (rv_tmp l6_28)) hdf28 ?_
      -- leaf FT
      have r0 : adB c a = false := by unfold adB; exact decide_eq_false (by omega)
      have r1 : chE c a = 0 := by omega
      rw [r0, r1]
      exact ⟨_, rfl, (hS27.fin1 0 rfl (hc_18.trans (congrArg (io .i64 _) (by unfold adT; rw [if_neg (by omega), if_pos (by omega)]))))⟩
    · skip
      refine wp_skip ?_
      refine then_n (hK21 _ _ ?_)
      clear hK21
      refine wp_seq_k (fun K29 hK29 => ?_)
      -- region 7
      refine region_in ?_
      refine W_v rfl rfl (V_mov rfl l8_24) ?_
      refine W_v rfl rfl (V_mov rfl (es rfl l1_24)) ?_
      obtain ⟨Y30, hP30, hR30, hF30, hB30⟩ := St.call (pre := [c_18]) (fr := [c3]) hS23
      rw [hc_18] at hP30
      refine W_call rfl rfl rfl Try.func42 (by kernel_rfl) rfl (args2 (es rfl (et rfl)) (et rfl)) (kadd_c (a := a)  hP30 (by first | with_reducible assumption | with_reducible exact gd_new) (by first | omega | with_reducible assumption) (by first | with_reducible assumption | exact fnd_not (by assumption) (by omega) (by omega))) ?_
      rintro _ w31 ⟨v_31, rfl, hP31⟩
      refine ⟨_, rfl, ?_⟩
      obtain ⟨c_31, hc_31, hP31⟩ := gen1 hP31
      have hS31 := hB30 _ _ hP31
      replace hS31 : St w NoX [c_31, c3] w31 := hS31
      refine W_v rfl rfl (V_bldS (n := 1) (z := .agg #[.slice none 0 0]) rfl (parts1 (et rfl)) (by kernel_rfl) (by simp only [List.all_cons, List.all_nil, SlN_one (ow_at (hS31.chq 0 rfl hc_31)), Bool.and_true] <;> rfl) (by kernel_rfl) (by simp only [List.foldl_cons, List.foldl_nil, Value.cells, List.setIfInBounds_toArray, List.set_cons_succ, List.set_cons_zero] <;> rfl)) ?_
      refine W_stAS 1 hS31 rfl hc3 rfl rfl rfl (es rfl (es rfl (es rfl (es rfl l4_24)))) (et rfl) (by simp only [List.all_toArray, List.all_cons, List.all_nil, SlN_one (ow_at (hS31.chq 0 rfl hc_31))] <;> rfl) (by rfl) (by kernel_rfl) (fun w32 c32 hc32 hS32 => ?_)
      replace hS32 : St w NoX [c_31, c32] w32 := hS32
      refine W_v rfl rfl (V_asg rfl rfl) ?_
      refine W_v rfl rfl (V_asg rfl rfl) ?_
      refine W_end ?_
      refine gen_Q (fun A33 hA33 => ?_)
      have hsz33 : SzN A33 28 := by rw [hA33]; infer_instance
      have hdf33 : A33.defers = [] := by rw [hA33]; simp only [df_put]; exact hdf24
      have l4_33 := lookE hA33 4 (es rfl (es rfl (es rfl (es rfl (es rfl (es rfl l4_24))))))
      have l5_33 := lookE hA33 5 (es rfl (et rfl))
      have l6_33 := lookE hA33 6 (et rfl)
      clear hA33 hsz24 hdf24 l1_24 l4_24 l8_24 l21_24
      refine then_n (hK29 _ _ ?_)
      clear hK29
      refine wp_ret ?_
      refine ret_in (results_3 Try.results15 (rv_cellA l4_33 (hS32.obj 1 rfl hc32) Try.underlying24 rfl (by kernel_rfl)) (rv_tmp l5_33) (rv_tmp l6_33)) hdf33 ?_
      -- leaf FF
      have r0 : adB c a = true := by unfold adB; exact decide_eq_true (by omega)
      have r1 : chE c a = 0 := by omega
      rw [r0, r1]
      exact ⟨_, rfl, (hS32.fin1 0 rfl (hc_31.trans (congrArg (io .i64 _) (by unfold adT; rw [if_neg (by omega), if_neg (by omega)]))))⟩

set_option maxHeartbeats 4000000 in
theorem kDrop_c {cv : Value} {c : List Int} {a : Int} {w : World} (h_cv : Ro w NoX (il .i64 cv c))  :
    Calls Try.prog 18 #[.agg #[cv], .int .i64 a] w fun e w' => ∃ v, e = .returned (.tuple #[.agg #[v], .bool (hsB c a), .int .i64 (chE c a)]) ∧ St w NoX [io .i64 (v) (drT c a)] w' := by
  refine calls_in 31 Try.func18 rfl rfl (by simp) (fun A0 hsz0 hdf0 hargs => ?_)
  have l0_0 := hargs 0 (.agg #[cv]) rfl
  have l1_0 := hargs 1 (.int .i64 a) rfl
  clear hargs; replace hsz0 : SzN A0 31 := ⟨hsz0⟩
  have hS := St.nil w
  have bh_cv := SlN.le (sl_SlN h_cv.at)
  refine wp_seq_k (fun K1 hK1 => ?_)
  -- region 0
  refine region_in ?_
  refine W_boxS (zs := #[cv]) hS rfl rfl rfl l0_0 (by rfl) (fun g2 w2 c2 hc2 hS2 => ?_)
  replace hS2 : St w NoX [c2] w2 := hS2
  refine W_allocS (z := .agg #[.slice none 0 0]) (zs := #[.slice none 0 0]) hS2 rfl rfl rfl (by kernel_rfl) (by rfl) (fun g3 w3 c3 hc3 hS3 => ?_)
  replace hS3 : St w NoX [c3, c2] w3 := hS3
  refine W_v rfl rfl (V_asg rfl rfl) ?_
  refine W_v rfl rfl (V_asg rfl rfl) ?_
  refine W_end ?_
  refine gen_Q (fun A4 hA4 => ?_)
  have hsz4 : SzN A4 31 := by rw [hA4]; infer_instance
  have hdf4 : A4.defers = [] := by rw [hA4]; simp only [df_put]; exact hdf0
  have l1_4 := lookE hA4 1 (es rfl (es rfl (es rfl (es rfl l1_0))))
  have l2_4 := lookE hA4 2 (es rfl (es rfl (es rfl (et rfl))))
  have l4_4 := lookE hA4 4 (es rfl (es rfl (et rfl)))
  clear hA4 hsz0 hdf0 l0_0 l1_0
  refine then_n (hK1 _ _ ?_)
  clear hK1
  refine wp_seq_k (fun K5 hK5 => ?_)
  refine wp_seq_k (fun K6 hK6 => ?_)
  -- region 1
  refine region_in ?_
  refine W_r rfl rfl (VR_ldA rfl l2_4 (hS3.obj 1 rfl hc2) Try.underlying24 rfl (by kernel_rfl)) ?_
  refine W_v rfl rfl (V_mov rfl (es rfl l1_4)) ?_
  refine W_call rfl rfl rfl Try.func37 (by kernel_rfl) rfl (args2 (es rfl (et rfl)) (et rfl)) (kch_c (a := a) (hS3.roC h_cv) ) ?_
  rintro _ w7 ⟨rfl, hP7⟩
  refine ⟨_, rfl, ?_⟩
  have hS7 := hS3.join hP7
  replace hS7 : St w NoX [c3, c2] w7 := hS7
  refine W_v rfl rfl (V_asg rfl (et rfl)) ?_
  refine W_end ?_
  refine gen_Q (fun A8 hA8 => ?_)
  have hsz8 : SzN A8 31 := by rw [hA8]; infer_instance
  have hdf8 : A8.defers = [] := by rw [hA8]; simp only [df_put]; exact hdf4
  have l1_8 := lookE hA8 1 (es rfl (es rfl (es rfl (es rfl l1_4))))
  have l2_8 := lookE hA8 2 (es rfl (es rfl (es rfl (es rfl l2_4))))
  have l4_8 := lookE hA8 4 (es rfl (es rfl (es rfl (es rfl l4_4))))
  have l7_8 := lookE hA8 7 (et rfl)
  clear hA8 hsz4 hdf4 l1_4 l2_4 l4_4
  refine then_n (hK6 _ _ ?_)
  clear hK6
  refine wp_seq_k (fun K9 hK9 => ?_)
  -- region 2
  refine region_in ?_
  refine W_v rfl rfl (V_mov rfl l7_8) ?_
  refine W_v rfl rfl (V_neq rfl (et rfl) rfl) ?_
  refine W_end ?_
  refine gen_Q (fun A10 hA10 => ?_)
  have hsz10 : SzN A10 31 := by rw [hA10]; infer_instance
  have hdf10 : A10.defers = [] := by rw [hA10]; simp only [df_put]; exact hdf8
  have l1_10 := lookE hA10 1 (es rfl (es rfl l1_8))
  have l2_10 := lookE hA10 2 (es rfl (es rfl l2_8))
  have l4_10 := lookE hA10 4 (es rfl (es rfl l4_8))
  have l7_10 := lookE hA10 7 (es rfl (es rfl l7_8))
  have l14_10 := lookE hA10 14 (et rfl)
  clear hA10 hsz8 hdf8 l1_8 l2_8 l4_8 l7_8
  refine then_n (hK9 _ _ ?_)
  clear hK9
  refine cond_dec l14_10 (fun c11 => ?_) (fun c11 => ?_)
  · skip
    refine wp_seq_k (fun K12 hK12 => ?_)
    -- region 3
    refine region_in ?_
    refine W_v rfl rfl (V_bldS (n := 1) (z := .agg #[.slice none 0 0]) rfl (parts0) (by kernel_rfl) (by simp only [List.all_cons, List.all_nil, Bool.and_true] <;> rfl) (by kernel_rfl) (by simp only [List.foldl_cons, List.foldl_nil, Value.cells, List.setIfInBounds_toArray, List.set_cons_succ, List.set_cons_zero] <;> rfl)) ?_
    refine W_v rfl rfl (V_mov rfl (es rfl l7_10)) ?_
    refine W_stAS 0 hS7 rfl hc3 rfl rfl rfl (es rfl (es rfl l4_10)) (es rfl (et rfl)) (by first | (rw [List.all_toArray] <;> rfl) | (simp only [List.all_toArray, List.all_cons, List.all_nil] <;> rfl)) (by rfl) (by kernel_rfl) (fun w13 c13 hc13 hS13 => ?_)
    replace hS13 : St w NoX [c13, c2] w13 := hS13
    refine W_v rfl rfl (V_asg rfl rfl) ?_
    refine W_v rfl rfl (V_asg rfl (es rfl (et rfl))) ?_
    refine W_end ?_
    refine gen_Q (fun A14 hA14 => ?_)
    have hsz14 : SzN A14 31 := by rw [hA14]; infer_instance
    have hdf14 : A14.defers = [] := by rw [hA14]; simp only [df_put]; exact hdf10
    have l4_14 := lookE hA14 4 (es rfl (es rfl (es rfl (es rfl l4_10))))
    have l5_14 := lookE hA14 5 (es rfl (et rfl))
    have l6_14 := lookE hA14 6 (et rfl)
    clear hA14 hsz10 hdf10 l1_10 l2_10 l4_10 l7_10 l14_10
    have hS15 : St w NoX [c13] w13 := hS13.sel [0] (by decide) rfl
    refine then_n (hK12 _ _ ?_)
    clear hK12
    refine wp_ret ?_
    refine then_ret ?_
    refine ret_in (results_3 Try.results18 (rv_cellA l4_14 (hS15.obj 0 rfl hc13) Try.underlying24 rfl (by kernel_rfl)) (rv_tmp l5_14) (rv_tmp l6_14)) hdf14 ?_
    -- leaf T
    obtain ⟨c16, hc16, hS16⟩ := hS15.pnil (s := 1)
    have r0 : hsB c a = false := by unfold hsB; exact decide_eq_false (by omega)
    have r1 : chE c a = (chE c a) := by omega
    rw [r0, r1]
    exact ⟨_, rfl, (hS16.fin1 0 rfl (hc16.trans (by rw [show drT c a = [] by unfold drT; rw [if_pos (by omega)]] <;> rfl)))⟩
  · skip
    obtain ⟨hG, ha⟩ := ch0 (c := c) (a := a) (by omega)
    have hpb := hG.bd
    have hh : chE c a = 0 := by omega
    have hfb := fnd_bd (c := c) (by omega) a
    refine wp_skip ?_
    refine then_n (hK5 _ _ ?_)
    clear hK5
    refine wp_seq_k (fun K17 hK17 => ?_)
    -- region 4
    refine region_in ?_
    refine W_r rfl rfl (VR_ldA rfl l2_10 (hS7.obj 1 rfl hc2) Try.underlying24 rfl (by kernel_rfl)) ?_
    refine W_call rfl rfl rfl Try.func41 (by kernel_rfl) rfl (args1 (et rfl)) (kown_c (hS7.roC h_cv) (by first | omega | with_reducible assumption)) ?_
    rintro _ w18 ⟨v_18, rfl, hP18⟩
    refine ⟨_, rfl, ?_⟩
    obtain ⟨c_18, hc_18, hP18⟩ := gen1 hP18
    have hS18 := hS7.join hP18
    replace hS18 : St w NoX [c_18, c3, c2] w18 := hS18
    refine W_v rfl rfl (V_asg rfl (et rfl)) ?_
    refine W_end ?_
    refine gen_Q (fun A19 hA19 => ?_)
    have hsz19 : SzN A19 31 := by rw [hA19]; infer_instance
    have hdf19 : A19.defers = [] := by rw [hA19]; simp only [df_put]; exact hdf10
    have l1_19 := lookE hA19 1 (es rfl (es rfl (es rfl l1_10)))
    have l4_19 := lookE hA19 4 (es rfl (es rfl (es rfl l4_10)))
    have l8_19 := lookE hA19 8 (et rfl)
    clear hA19 hsz10 hdf10 l1_10 l2_10 l4_10 l7_10 l14_10
    have hS20 : St w NoX [c_18, c3] w18 := hS18.sel [0, 1] (by decide) rfl
    refine then_n (hK17 _ _ ?_)
    clear hK17
    refine wp_seq_k (fun K21 hK21 => ?_)
    -- region 5
    refine region_in ?_
    refine W_v rfl rfl (V_mov rfl l8_19) ?_
    refine W_v rfl rfl (V_mov rfl (es rfl l1_19)) ?_
    refine W_call rfl rfl rfl Try.func38 (by kernel_rfl) rfl (args2 (es rfl (et rfl)) (et rfl)) (kfind_c (a := a) (hS20.chC 0 rfl hc_18).own (by first | with_reducible assumption | with_reducible exact hG.p2 | with_reducible exact hG2.p2 | (rw [hbl]; exact n1) | (simp only [List.length_set, List.length_replicate] <;> assumption)) (by first | omega | with_reducible assumption)) ?_
    rintro _ w22 ⟨rfl, hP22⟩
    refine ⟨_, rfl, ?_⟩
    have hS22 := hS20.join hP22
    replace hS22 : St w NoX [c_18, c3] w22 := hS22
    refine W_v rfl rfl (V_asg rfl (et rfl)) ?_
    refine W_end ?_
    refine gen_Q (fun A23 hA23 => ?_)
    have hsz23 : SzN A23 31 := by rw [hA23]; infer_instance
    have hdf23 : A23.defers = [] := by rw [hA23]; simp only [df_put]; exact hdf19
    have l4_23 := lookE hA23 4 (es rfl (es rfl (es rfl (es rfl l4_19))))
    have l8_23 := lookE hA23 8 (es rfl (es rfl (es rfl (es rfl l8_19))))
    have l9_23 := lookE hA23 9 (et rfl)
    clear hA23 hsz19 hdf19 l1_19 l4_19 l8_19
    refine then_n (hK21 _ _ ?_)
    clear hK21
    refine wp_seq_k (fun K24 hK24 => ?_)
    refine wp_seq_k (fun K25 hK25 => ?_)
    -- region 6
    refine region_in ?_
    refine W_v rfl rfl (V_mov rfl l9_23) ?_
    refine W_v rfl rfl (V_geq rfl (et rfl) rfl) ?_
    refine W_end ?_
    refine gen_Q (fun A26 hA26 => ?_)
    have hsz26 : SzN A26 31 := by rw [hA26]; infer_instance
    have hdf26 : A26.defers = [] := by rw [hA26]; simp only [df_put]; exact hdf23
    have l4_26 := lookE hA26 4 (es rfl (es rfl l4_23))
    have l8_26 := lookE hA26 8 (es rfl (es rfl l8_23))
    have l9_26 := lookE hA26 9 (es rfl (es rfl l9_23))
    have l23_26 := lookE hA26 23 (et rfl)
    clear hA26 hsz23 hdf23 l4_23 l8_23 l9_23
    refine then_n (hK25 _ _ ?_)
    clear hK25
    refine cond_dec l23_26 (fun c27 => ?_) (fun c27 => ?_)
    · skip
      -- region 7
      refine region_in ?_
      refine W_v rfl rfl (V_mov rfl l8_26) ?_
      refine W_v rfl rfl (V_mov rfl (es rfl l9_26)) ?_
      have k28 : ((fnd c a)).toNat < c.length := by first | omega | (simp only [List.length_cons, List.length_nil]; omega) | (simp only [List.length_set]; omega)
      obtain ⟨y28, hy28⟩ := get_some (xs := c) (k := ((fnd c a)).toNat) k28
      obtain ⟨B28, O28, C28, hv28⟩ := (SlN.blk (ow_at (hS22.chq 0 rfl hc_18)) (by first | omega | (simp only [List.length_cons, List.length_nil]; omega) | (simp only [List.length_set]; omega)))
      refine W_v rfl rfl (V_ixS (off := O28 + (((fnd c a)).toNat)) 1 (((fnd c a)).toNat) rfl (es rfl (et rfl)) (et rfl) hv28 (by omega) k28 Try.underlying22 (by kernel_rfl) (congrArg _ (Nat.mul_one _))) ?_
      refine W_stE 0 hS22 rfl hc_18 hv28 rfl rfl rfl (et rfl) rfl (by rfl) rfl (by first | (simp only [List.length_map]; omega) | omega) (by kernel_rfl) (fun w29 c29 hc29 hS29 => ?_)
      replace hc29 : c29 = io .i64 v_18 (c.set (((fnd c a)).toNat) (-1)) := hc29.trans (by simp [io, bo, List.map_set] <;> rfl)
      replace hS29 : St w NoX [c29, c3] w29 := hS29
      refine W_end ?_
      refine gen_Q (fun A30 hA30 => ?_)
      have hsz30 : SzN A30 31 := by rw [hA30]; infer_instance
      have hdf30 : A30.defers = [] := by rw [hA30]; simp only [df_put]; exact hdf26
      have l4_30 := lookE hA30 4 (es rfl (es rfl (es rfl l4_26)))
      have l8_30 := lookE hA30 8 (es rfl (es rfl (es rfl l8_26)))
      have l9_30 := lookE hA30 9 (es rfl (es rfl (es rfl l9_26)))
      clear hA30 hsz26 hdf26 l4_26 l8_26 l9_26 l23_26
      refine then_n (hK24 _ _ ?_)
      clear hK24
      refine wp_seq_k (fun K31 hK31 => ?_)
      -- region 8
      refine region_in ?_
      refine W_v rfl rfl (V_mov rfl l8_30) ?_
      refine W_v rfl rfl (V_bldS (n := 1) (z := .agg #[.slice none 0 0]) rfl (parts1 (et rfl)) (by kernel_rfl) (by simp only [List.all_cons, List.all_nil, SlN_one (ow_at (hS29.chq 0 rfl hc29)), Bool.and_true] <;> rfl) (by kernel_rfl) (by simp only [List.foldl_cons, List.foldl_nil, Value.cells, List.setIfInBounds_toArray, List.set_cons_succ, List.set_cons_zero] <;> rfl)) ?_
      refine W_v rfl rfl (V_mov rfl (es rfl (es rfl l9_30))) ?_
      refine W_v rfl rfl (V_geq rfl (et rfl) rfl) ?_
      refine W_stAS 1 hS29 rfl hc3 rfl rfl rfl (es rfl (es rfl (es rfl (es rfl l4_30)))) (es rfl (es rfl (et rfl))) (by simp only [List.all_toArray, List.all_cons, List.all_nil, SlN_one (ow_at (hS29.chq 0 rfl hc29))] <;> rfl) (by rfl) (by kernel_rfl) (fun w32 c32 hc32 hS32 => ?_)
      replace hS32 : St w NoX [c29, c32] w32 := hS32
      refine W_v rfl rfl (V_asg rfl (et rfl)) ?_
      refine W_v rfl rfl (V_asg rfl rfl) ?_
      refine W_end ?_
      refine gen_Q (fun A33 hA33 => ?_)
      have hsz33 : SzN A33 31 := by rw [hA33]; infer_instance
      have hdf33 : A33.defers = [] := by rw [hA33]; simp only [df_put]; exact hdf30
      have l4_33 := lookE hA33 4 (es rfl (es rfl (es rfl (es rfl (es rfl (es rfl l4_30))))))
      have l5_33 := lookE hA33 5 (es rfl (et rfl))
      have l6_33 := lookE hA33 6 (et rfl)
      clear hA33 hsz30 hdf30 l4_30 l8_30 l9_30
      refine then_n (hK31 _ _ ?_)
      clear hK31
      refine wp_ret ?_
      refine ret_in (results_3 Try.results18 (rv_cellA l4_33 (hS32.obj 1 rfl hc32) Try.underlying24 rfl (by kernel_rfl)) (rv_tmp l5_33) (rv_tmp l6_33)) hdf33 ?_
      -- leaf FT
      have r0 : hsB c a = decide (0 ≤ (fnd c a)) := by unfold hsB; exact decide_eq_decide.2 (by omega)
      have r1 : chE c a = 0 := by omega
      rw [r0, r1]
      exact ⟨_, rfl, (hS32.fin1 0 rfl (hc29.trans (congrArg (io .i64 _) (by unfold drT drpT; rw [if_neg (by omega), if_pos (by omega)]))))⟩
    · skip
      refine wp_skip ?_
      refine then_n (hK24 _ _ ?_)
      clear hK24
      refine wp_seq_k (fun K34 hK34 => ?_)
      -- region 8
      refine region_in ?_
      refine W_v rfl rfl (V_mov rfl l8_26) ?_
      refine W_v rfl rfl (V_bldS (n := 1) (z := .agg #[.slice none 0 0]) rfl (parts1 (et rfl)) (by kernel_rfl) (by simp only [List.all_cons, List.all_nil, SlN_one (ow_at (hS22.chq 0 rfl hc_18)), Bool.and_true] <;> rfl) (by kernel_rfl) (by simp only [List.foldl_cons, List.foldl_nil, Value.cells, List.setIfInBounds_toArray, List.set_cons_succ, List.set_cons_zero] <;> rfl)) ?_
      refine W_v rfl rfl (V_mov rfl (es rfl (es rfl l9_26))) ?_
      refine W_v rfl rfl (V_geq rfl (et rfl) rfl) ?_
      refine W_stAS 1 hS22 rfl hc3 rfl rfl rfl (es rfl (es rfl (es rfl (es rfl l4_26)))) (es rfl (es rfl (et rfl))) (by simp only [List.all_toArray, List.all_cons, List.all_nil, SlN_one (ow_at (hS22.chq 0 rfl hc_18))] <;> rfl) (by rfl) (by kernel_rfl) (fun w35 c35 hc35 hS35 => ?_)
      replace hS35 : St w NoX [c_18, c35] w35 := hS35
      refine W_v rfl rfl (V_asg rfl (et rfl)) ?_
      refine W_v rfl rfl (V_asg rfl rfl) ?_
      refine W_end ?_
      refine gen_Q (fun A36 hA36 => ?_)
      have hsz36 : SzN A36 31 := by rw [hA36]; infer_instance
      have hdf36 : A36.defers = [] := by rw [hA36]; simp only [df_put]; exact hdf26
      have l4_36 := lookE hA36 4 (es rfl (es rfl (es rfl (es rfl (es rfl (es rfl l4_26))))))
      have l5_36 := lookE hA36 5 (es rfl (et rfl))
      have l6_36 := lookE hA36 6 (et rfl)
      clear hA36 hsz26 hdf26 l4_26 l8_26 l9_26 l23_26
      refine then_n (hK34 _ _ ?_)
      clear hK34
      refine wp_ret ?_
      refine ret_in (results_3 Try.results18 (rv_cellA l4_36 (hS35.obj 1 rfl hc35) Try.underlying24 rfl (by kernel_rfl)) (rv_tmp l5_36) (rv_tmp l6_36)) hdf36 ?_
      -- leaf FF
      have r0 : hsB c a = decide (0 ≤ (fnd c a)) := by unfold hsB; exact decide_eq_decide.2 (by omega)
      have r1 : chE c a = 0 := by omega
      rw [r0, r1]
      exact ⟨_, rfl, (hS35.fin1 0 rfl (hc_18.trans (congrArg (io .i64 _) (by unfold drT drpT; rw [if_neg (by omega), if_neg (by omega)]))))⟩

set_option maxHeartbeats 4000000 in
theorem kLen_c {cv : Value} {c : List Int} {w : World} (h_cv : Ro w NoX (il .i64 cv c))  :
    Calls Try.prog 28 #[.agg #[cv]] w fun e w' => e = .returned (.tuple #[.int .i64 (lnN c), .int .i64 (ckS c).2]) ∧ St w NoX [] w' := by
  refine calls_in 23 Try.func28 rfl rfl (by simp) (fun A0 hsz0 hdf0 hargs => ?_)
  have l0_0 := hargs 0 (.agg #[cv]) rfl
  clear hargs; replace hsz0 : SzN A0 23 := ⟨hsz0⟩
  have hS := St.nil w
  have bh_cv := SlN.le (sl_SlN h_cv.at)
  refine wp_seq_k (fun K1 hK1 => ?_)
  -- region 0
  refine region_in ?_
  refine W_boxS (zs := #[cv]) hS rfl rfl rfl l0_0 (by rfl) (fun g2 w2 c2 hc2 hS2 => ?_)
  replace hS2 : St w NoX [c2] w2 := hS2
  refine W_v rfl rfl (V_asg rfl rfl) ?_
  refine W_v rfl rfl (V_asg rfl rfl) ?_
  refine W_end ?_
  refine gen_Q (fun A3 hA3 => ?_)
  have hsz3 : SzN A3 23 := by rw [hA3]; infer_instance
  have hdf3 : A3.defers = [] := by rw [hA3]; simp only [df_put]; exact hdf0
  have l1_3 := lookE hA3 1 (es rfl (es rfl (et rfl)))
  clear hA3 hsz0 hdf0 l0_0
  refine then_n (hK1 _ _ ?_)
  clear hK1
  refine wp_seq_k (fun K4 hK4 => ?_)
  refine wp_seq_k (fun K5 hK5 => ?_)
  -- region 1
  refine region_in ?_
  refine W_r rfl rfl (VR_ldA rfl l1_3 (hS2.obj 0 rfl hc2) Try.underlying24 rfl (by kernel_rfl)) ?_
  refine W_call rfl rfl rfl Try.func26 (by kernel_rfl) rfl (args1 (et rfl)) (kCk_c (hS2.roC h_cv) ) ?_
  rintro _ w6 ⟨rfl, hP6⟩
  refine ⟨_, rfl, ?_⟩
  have hS6 := hS2.join hP6
  replace hS6 : St w NoX [c2] w6 := hS6
  refine W_v rfl rfl (V_mov rfl (et rfl)) ?_
  refine W_v rfl rfl (V_ext (v := .int .i64 ((ckS c).1)) rfl (et rfl) rfl) ?_
  refine W_v rfl rfl (V_ext (v := .int .i64 ((ckS c).2)) rfl (es rfl (et rfl)) rfl) ?_
  refine W_v rfl rfl (V_asg rfl (es rfl (et rfl))) ?_
  refine W_v rfl rfl (V_asg rfl (es rfl (et rfl))) ?_
  refine W_end ?_
  refine gen_Q (fun A7 hA7 => ?_)
  have hsz7 : SzN A7 23 := by rw [hA7]; infer_instance
  have hdf7 : A7.defers = [] := by rw [hA7]; simp only [df_put]; exact hdf3
  have l1_7 := lookE hA7 1 (es rfl (es rfl (es rfl (es rfl (es rfl (es rfl (es rfl l1_3)))))))
  have l5_7 := lookE hA7 5 (et rfl)
  clear hA7 hsz3 hdf3 l1_3
  refine then_n (hK5 _ _ ?_)
  clear hK5
  refine wp_seq_k (fun K8 hK8 => ?_)
  -- region 2
  refine region_in ?_
  refine W_v rfl rfl (V_mov rfl l5_7) ?_
  refine W_v rfl rfl (V_neq rfl (et rfl) rfl) ?_
  refine W_end ?_
  refine gen_Q (fun A9 hA9 => ?_)
  have hsz9 : SzN A9 23 := by rw [hA9]; infer_instance
  have hdf9 : A9.defers = [] := by rw [hA9]; simp only [df_put]; exact hdf7
  have l1_9 := lookE hA9 1 (es rfl (es rfl l1_7))
  have l5_9 := lookE hA9 5 (es rfl (es rfl l5_7))
  have l14_9 := lookE hA9 14 (et rfl)
  clear hA9 hsz7 hdf7 l1_7 l5_7
  refine then_n (hK8 _ _ ?_)
  clear hK8
  refine cond_dec l14_9 (fun c10 => ?_) (fun c10 => ?_)
  · skip
    refine wp_seq_k (fun K11 hK11 => ?_)
    -- region 3
    refine region_in ?_
    refine W_v rfl rfl (V_mov rfl l5_9) ?_
    refine W_v rfl rfl (V_asg rfl rfl) ?_
    refine W_v rfl rfl (V_asg rfl (es rfl (et rfl))) ?_
    refine W_end ?_
    refine gen_Q (fun A12 hA12 => ?_)
    have hsz12 : SzN A12 23 := by rw [hA12]; infer_instance
    have hdf12 : A12.defers = [] := by rw [hA12]; simp only [df_put]; exact hdf9
    have l2_12 := lookE hA12 2 (es rfl (et rfl))
    have l3_12 := lookE hA12 3 (et rfl)
    clear hA12 hsz9 hdf9 l1_9 l5_9 l14_9
    have hS13 : St w NoX [] w6 := hS6.sel [] (by decide) rfl
    refine then_n (hK11 _ _ ?_)
    clear hK11
    refine wp_ret ?_
    refine then_ret ?_
    refine ret_in (results_2 Try.results28 (rv_tmp l2_12) (rv_tmp l3_12)) hdf12 ?_
    -- leaf T
    have r0 : lnN c = 0 := by unfold lnN; rw [if_pos (by omega)]
    rw [r0]
    exact ⟨rfl, hS13.fin0⟩
  · skip
    have hG : Gd c := ck_iff.1 (by omega)
    have hpb := hG.bd
    refine wp_skip ?_
    refine then_n (hK4 _ _ ?_)
    clear hK4
    refine wp_seq_k (fun K14 hK14 => ?_)
    -- region 4
    refine region_in ?_
    refine W_v rfl rfl (V_fa (off' := 0) rfl l1_9 Try.underlying24 rfl (by decide +kernel) rfl) ?_
    refine W_r rfl rfl (VR_ldC rfl (et rfl) (cell_box (v := cv) (hS6.obj 0 rfl hc2) rfl) Try.underlying22 rfl) ?_
    refine W_call rfl rfl rfl Try.func54 (by kernel_rfl) rfl (args1 (et rfl)) (kcnt_c (hS6.roC h_cv) ) ?_
    rintro _ w15 ⟨rfl, hP15⟩
    refine ⟨_, rfl, ?_⟩
    have hS15 := hS6.join hP15
    replace hS15 : St w NoX [c2] w15 := hS15
    refine W_v rfl rfl (V_mov rfl (et rfl)) ?_
    refine W_v rfl rfl (V_ext (v := .int .i64 (((usd c : Nat) : Int))) rfl (et rfl) rfl) ?_
    refine W_v rfl rfl (V_ext (v := .int .i64 (((adr c : Nat) : Int))) rfl (es rfl (et rfl)) rfl) ?_
    refine W_v rfl rfl (V_asg rfl (es rfl (et rfl))) ?_
    refine W_v rfl rfl (V_asg rfl (es rfl (et rfl))) ?_
    refine W_end ?_
    refine gen_Q (fun A16 hA16 => ?_)
    have hsz16 : SzN A16 23 := by rw [hA16]; infer_instance
    have hdf16 : A16.defers = [] := by rw [hA16]; simp only [df_put]; exact hdf9
    have l7_16 := lookE hA16 7 (et rfl)
    clear hA16 hsz9 hdf9 l1_9 l5_9 l14_9
    have hS17 : St w NoX [] w15 := hS15.sel [] (by decide) rfl
    refine then_n (hK14 _ _ ?_)
    clear hK14
    refine wp_seq_k (fun K18 hK18 => ?_)
    -- region 5
    refine region_in ?_
    refine W_v rfl rfl (V_mov rfl l7_16) ?_
    refine W_v rfl rfl (V_asg rfl (et rfl)) ?_
    refine W_v rfl rfl (V_asg rfl rfl) ?_
    refine W_end ?_
    refine gen_Q (fun A19 hA19 => ?_)
    have hsz19 : SzN A19 23 := by rw [hA19]; infer_instance
    have hdf19 : A19.defers = [] := by rw [hA19]; simp only [df_put]; exact hdf16
    have l2_19 := lookE hA19 2 (es rfl (et rfl))
    have l3_19 := lookE hA19 3 (et rfl)
    clear hA19 hsz16 hdf16 l7_16
    refine then_n (hK18 _ _ ?_)
    clear hK18
    refine wp_ret ?_
    refine ret_in (results_2 Try.results28 (rv_tmp l2_19) (rv_tmp l3_19)) hdf19 ?_
    -- leaf F
    have r0 : lnN c = ((adr c : Nat) : Int) := by unfold lnN; rw [if_neg (by omega)]
    have r1 : (ckS c).2 = 0 := by omega
    rw [r0, r1]
    exact ⟨rfl, hS17.fin0⟩

set_option maxHeartbeats 4000000 in
theorem kList_c {cv : Value} {c : List Int} {w : World} (h_cv : Ro w NoX (il .i64 cv c))  :
    Calls Try.prog 32 #[.agg #[cv]] w fun e w' => ∃ v, e = .returned (.tuple #[v, .int .i64 (ckS c).2]) ∧ St w NoX [io .i64 (v) (lsT c)] w' := by
  refine calls_in 17 Try.func32 rfl rfl (by simp) (fun A0 hsz0 hdf0 hargs => ?_)
  have l0_0 := hargs 0 (.agg #[cv]) rfl
  clear hargs; replace hsz0 : SzN A0 17 := ⟨hsz0⟩
  have hS := St.nil w
  have bh_cv := SlN.le (sl_SlN h_cv.at)
  refine wp_seq_k (fun K1 hK1 => ?_)
  -- region 0
  refine region_in ?_
  refine W_boxS (zs := #[cv]) hS rfl rfl rfl l0_0 (by rfl) (fun g2 w2 c2 hc2 hS2 => ?_)
  replace hS2 : St w NoX [c2] w2 := hS2
  refine W_v rfl rfl (V_asg rfl rfl) ?_
  refine W_v rfl rfl (V_asg rfl rfl) ?_
  refine W_end ?_
  refine gen_Q (fun A3 hA3 => ?_)
  have hsz3 : SzN A3 17 := by rw [hA3]; infer_instance
  have hdf3 : A3.defers = [] := by rw [hA3]; simp only [df_put]; exact hdf0
  have l1_3 := lookE hA3 1 (es rfl (es rfl (et rfl)))
  clear hA3 hsz0 hdf0 l0_0
  refine then_n (hK1 _ _ ?_)
  clear hK1
  refine wp_seq_k (fun K4 hK4 => ?_)
  refine wp_seq_k (fun K5 hK5 => ?_)
  -- region 1
  refine region_in ?_
  refine W_r rfl rfl (VR_ldA rfl l1_3 (hS2.obj 0 rfl hc2) Try.underlying24 rfl (by kernel_rfl)) ?_
  refine W_call rfl rfl rfl Try.func26 (by kernel_rfl) rfl (args1 (et rfl)) (kCk_c (hS2.roC h_cv) ) ?_
  rintro _ w6 ⟨rfl, hP6⟩
  refine ⟨_, rfl, ?_⟩
  have hS6 := hS2.join hP6
  replace hS6 : St w NoX [c2] w6 := hS6
  refine W_v rfl rfl (V_mov rfl (et rfl)) ?_
  refine W_v rfl rfl (V_ext (v := .int .i64 ((ckS c).1)) rfl (et rfl) rfl) ?_
  refine W_v rfl rfl (V_ext (v := .int .i64 ((ckS c).2)) rfl (es rfl (et rfl)) rfl) ?_
  refine W_v rfl rfl (V_asg rfl (es rfl (et rfl))) ?_
  refine W_v rfl rfl (V_asg rfl (es rfl (et rfl))) ?_
  refine W_end ?_
  refine gen_Q (fun A7 hA7 => ?_)
  have hsz7 : SzN A7 17 := by rw [hA7]; infer_instance
  have hdf7 : A7.defers = [] := by rw [hA7]; simp only [df_put]; exact hdf3
  have l1_7 := lookE hA7 1 (es rfl (es rfl (es rfl (es rfl (es rfl (es rfl (es rfl l1_3)))))))
  have l5_7 := lookE hA7 5 (et rfl)
  clear hA7 hsz3 hdf3 l1_3
  refine then_n (hK5 _ _ ?_)
  clear hK5
  refine wp_seq_k (fun K8 hK8 => ?_)
  -- region 2
  refine region_in ?_
  refine W_v rfl rfl (V_mov rfl l5_7) ?_
  refine W_v rfl rfl (V_neq rfl (et rfl) rfl) ?_
  refine W_end ?_
  refine gen_Q (fun A9 hA9 => ?_)
  have hsz9 : SzN A9 17 := by rw [hA9]; infer_instance
  have hdf9 : A9.defers = [] := by rw [hA9]; simp only [df_put]; exact hdf7
  have l1_9 := lookE hA9 1 (es rfl (es rfl l1_7))
  have l5_9 := lookE hA9 5 (es rfl (es rfl l5_7))
  have l12_9 := lookE hA9 12 (et rfl)
  clear hA9 hsz7 hdf7 l1_7 l5_7
  refine then_n (hK8 _ _ ?_)
  clear hK8
  refine cond_dec l12_9 (fun c10 => ?_) (fun c10 => ?_)
  · skip
    refine wp_seq_k (fun K11 hK11 => ?_)
    -- region 3
    refine region_in ?_
    refine W_v rfl rfl (V_mov rfl l5_9) ?_
    refine W_v rfl rfl (V_asg rfl rfl) ?_
    refine W_v rfl rfl (V_asg rfl (es rfl (et rfl))) ?_
    refine W_end ?_
    refine gen_Q (fun A12 hA12 => ?_)
    have hsz12 : SzN A12 17 := by rw [hA12]; infer_instance
    have hdf12 : A12.defers = [] := by rw [hA12]; simp only [df_put]; exact hdf9
    have l2_12 := lookE hA12 2 (es rfl (et rfl))
    have l3_12 := lookE hA12 3 (et rfl)
    clear hA12 hsz9 hdf9 l1_9 l5_9 l12_9
    have hS13 : St w NoX [] w6 := hS6.sel [] (by decide) rfl
    refine then_n (hK11 _ _ ?_)
    clear hK11
    refine wp_ret ?_
    refine then_ret ?_
    refine ret_in (results_2 Try.results32 (rv_tmp l2_12) (rv_tmp l3_12)) hdf12 ?_
    -- leaf T
    obtain ⟨c14, hc14, hS14⟩ := hS13.pnil (s := 1)
    exact ⟨_, rfl, (hS14.fin1 0 rfl (hc14.trans (by rw [show lsT c = [] by unfold lsT; rw [if_pos (by omega)]] <;> rfl)))⟩
  · skip
    have hG : Gd c := ck_iff.1 (by omega)
    have hpb := hG.bd
    refine wp_skip ?_
    refine then_n (hK4 _ _ ?_)
    clear hK4
    refine wp_seq_k (fun K15 hK15 => ?_)
    -- region 4
    refine region_in ?_
    refine W_v rfl rfl (V_fa (off' := 0) rfl l1_9 Try.underlying24 rfl (by decide +kernel) rfl) ?_
    refine W_r rfl rfl (VR_ldC rfl (et rfl) (cell_box (v := cv) (hS6.obj 0 rfl hc2) rfl) Try.underlying22 rfl) ?_
    refine W_call rfl rfl rfl Try.func49 (by kernel_rfl) rfl (args1 (et rfl)) (ksr_c (hS6.roC h_cv) (by first | omega | with_reducible assumption) (by first | omega | with_reducible assumption) (by first | with_reducible assumption | with_reducible exact hG.rng | with_reducible exact p1.rng | with_reducible exact hr2) (by first | with_reducible assumption | with_reducible exact hG.dst | with_reducible exact p1.dst | with_reducible exact hd2)) ?_
    rintro _ w16 ⟨v_16, rfl, hP16⟩
    refine ⟨_, rfl, ?_⟩
    obtain ⟨c_16, hc_16, hP16⟩ := gen1 hP16
    have hS16 := hS6.join hP16
    replace hS16 : St w NoX [c_16, c2] w16 := hS16
    refine W_v rfl rfl (V_asg rfl (et rfl)) ?_
    refine W_v rfl rfl (V_asg rfl rfl) ?_
    refine W_end ?_
    refine gen_Q (fun A17 hA17 => ?_)
    have hsz17 : SzN A17 17 := by rw [hA17]; infer_instance
    have hdf17 : A17.defers = [] := by rw [hA17]; simp only [df_put]; exact hdf9
    have l2_17 := lookE hA17 2 (es rfl (et rfl))
    have l3_17 := lookE hA17 3 (et rfl)
    clear hA17 hsz9 hdf9 l1_9 l5_9 l12_9
    have hS18 : St w NoX [c_16] w16 := hS16.sel [0] (by decide) rfl
    refine then_n (hK15 _ _ ?_)
    clear hK15
    refine wp_ret ?_
    refine ret_in (results_2 Try.results32 (rv_tmp l2_17) (rv_tmp l3_17)) hdf17 ?_
    -- leaf F
    have r0 : (ckS c).2 = 0 := by omega
    rw [r0]
    exact ⟨_, rfl, (hS18.fin1 0 rfl (hc_16.trans (congrArg (io .i64 _) (by unfold lsT; rw [if_neg (by omega)]))))⟩

set_option maxHeartbeats 4000000 in
theorem kcf_c {rv : Value} {l : List Int} {w : World} (h_rv : Ro w NoX (il .i64 rv l))  :
    Calls Try.prog 44 #[rv, .func (.func 45) #[] #[]] w fun e w' => e = .returned (.bool (decide (0 ≤ idxF (fun a => !decide (1 ≤ a ∧ a ≤ 1600)) l))) ∧ St w NoX [] w' := by
  refine calls_in 9 Try.func44 rfl rfl (by simp) (fun A0 hsz0 hdf0 hargs => ?_)
  have l0_0 := hargs 0 (rv) rfl
  have l1_0 := hargs 1 (.func (.func 45) #[] #[]) rfl
  clear hargs; replace hsz0 : SzN A0 9 := ⟨hsz0⟩
  have hS := St.nil w
  have bh_rv := SlN.le (sl_SlN h_rv.at)
  refine wp_seq_k (fun K1 hK1 => ?_)
  -- region 0
  refine region_in ?_
  refine W_v rfl rfl (V_asg rfl rfl) ?_
  refine W_end ?_
  refine gen_Q (fun A2 hA2 => ?_)
  have hsz2 : SzN A2 9 := by rw [hA2]; infer_instance
  have hdf2 : A2.defers = [] := by rw [hA2]; simp only [df_put]; exact hdf0
  have l0_2 := lookE hA2 0 (es rfl l0_0)
  have l1_2 := lookE hA2 1 (es rfl l1_0)
  clear hA2 hsz0 hdf0 l0_0 l1_0
  refine then_n (hK1 _ _ ?_)
  clear hK1
  refine wp_seq_k (fun K3 hK3 => ?_)
  -- region 1
  refine region_in ?_
  refine W_v rfl rfl (V_mov rfl l0_2) ?_
  refine W_v rfl rfl (V_mov rfl (es rfl l1_2)) ?_
  refine W_call rfl rfl rfl Try.func59 (by kernel_rfl) rfl (args2 (es rfl (et rfl)) (et rfl)) (kixo_c (hS.roC h_rv) ) ?_
  rintro _ w4 ⟨rfl, hP4⟩
  refine ⟨_, rfl, ?_⟩
  have hS4 := hS.join hP4
  replace hS4 : St w NoX [] w4 := hS4
  refine W_v rfl rfl (V_geq rfl (et rfl) rfl) ?_
  refine W_v rfl rfl (V_asg rfl (et rfl)) ?_
  refine W_end ?_
  refine gen_Q (fun A5 hA5 => ?_)
  have hsz5 : SzN A5 9 := by rw [hA5]; infer_instance
  have hdf5 : A5.defers = [] := by rw [hA5]; simp only [df_put]; exact hdf2
  have l4_5 := lookE hA5 4 (et rfl)
  clear hA5 hsz2 hdf2 l0_2 l1_2
  refine then_n (hK3 _ _ ?_)
  clear hK3
  refine wp_ret ?_
  refine ret_in (results_1 Try.results44 (rv_tmp l4_5)) hdf5 ?_
  -- leaf 
  exact ⟨rfl, hS4.fin0⟩

set_option maxHeartbeats 4000000 in
theorem kOf_c {rv : Value} {l : List Int} {w : World} (h_rv : Ro w NoX (il .i64 rv l))  :
    Calls Try.prog 20 #[rv] w fun e w' => ∃ v, e = .returned (.tuple #[.agg #[v], .int .i64 (ofE l)]) ∧ St w NoX [io .i64 (v) (ofT l)] w' := by
  refine calls_in 16 Try.func20 rfl rfl (by simp) (fun A0 hsz0 hdf0 hargs => ?_)
  have l0_0 := hargs 0 (rv) rfl
  clear hargs; replace hsz0 : SzN A0 16 := ⟨hsz0⟩
  have hS := St.nil w
  have bh_rv := SlN.le (sl_SlN h_rv.at)
  refine wp_seq_k (fun K1 hK1 => ?_)
  -- region 0
  refine region_in ?_
  refine W_allocS (z := .agg #[.slice none 0 0]) (zs := #[.slice none 0 0]) hS rfl rfl rfl (by kernel_rfl) (by rfl) (fun g2 w2 c2 hc2 hS2 => ?_)
  replace hS2 : St w NoX [c2] w2 := hS2
  refine W_v rfl rfl (V_asg rfl rfl) ?_
  refine W_end ?_
  refine gen_Q (fun A3 hA3 => ?_)
  have hsz3 : SzN A3 16 := by rw [hA3]; infer_instance
  have hdf3 : A3.defers = [] := by rw [hA3]; simp only [df_put]; exact hdf0
  have l0_3 := lookE hA3 0 (es rfl (es rfl l0_0))
  have l2_3 := lookE hA3 2 (es rfl (et rfl))
  clear hA3 hsz0 hdf0 l0_0
  refine then_n (hK1 _ _ ?_)
  clear hK1
  refine wp_seq_k (fun K4 hK4 => ?_)
  refine wp_seq_k (fun K5 hK5 => ?_)
  -- region 1
  refine region_in ?_
  refine W_v rfl rfl (V_mov rfl l0_3) ?_
  refine W_v rfl rfl (V_lenS rfl (et rfl) (sl_SlN h_rv.at) Try.underlying22) ?_
  refine W_v rfl rfl (V_gtr rfl (et rfl) rfl) ?_
  refine W_end ?_
  refine gen_Q (fun A6 hA6 => ?_)
  have hsz6 : SzN A6 16 := by rw [hA6]; infer_instance
  have hdf6 : A6.defers = [] := by rw [hA6]; simp only [df_put]; exact hdf3
  have l0_6 := lookE hA6 0 (es rfl (es rfl (es rfl l0_3)))
  have l2_6 := lookE hA6 2 (es rfl (es rfl (es rfl l2_3)))
  have l6_6 := lookE hA6 6 (et rfl)
  clear hA6 hsz3 hdf3 l0_3 l2_3
  refine then_n (hK5 _ _ ?_)
  clear hK5
  refine cond_dec l6_6 (fun c7 => ?_) (fun c7 => ?_)
  · skip
    refine wp_seq_k (fun K8 hK8 => ?_)
    -- region 2
    refine region_in ?_
    refine W_v rfl rfl (V_bldS (n := 1) (z := .agg #[.slice none 0 0]) rfl (parts0) (by kernel_rfl) (by simp only [List.all_cons, List.all_nil, Bool.and_true] <;> rfl) (by kernel_rfl) (by simp only [List.foldl_cons, List.foldl_nil, Value.cells, List.setIfInBounds_toArray, List.set_cons_succ, List.set_cons_zero] <;> rfl)) ?_
    refine W_stAS 0 hS2 rfl hc2 rfl rfl rfl (es rfl l2_6) (et rfl) (by first | (rw [List.all_toArray] <;> rfl) | (simp only [List.all_toArray, List.all_cons, List.all_nil] <;> rfl)) (by rfl) (by kernel_rfl) (fun w9 c9 hc9 hS9 => ?_)
    replace hS9 : St w NoX [c9] w9 := hS9
    refine W_v rfl rfl (V_asg rfl rfl) ?_
    refine W_end ?_
    refine gen_Q (fun A10 hA10 => ?_)
    have hsz10 : SzN A10 16 := by rw [hA10]; infer_instance
    have hdf10 : A10.defers = [] := by rw [hA10]; simp only [df_put]; exact hdf6
    have l2_10 := lookE hA10 2 (es rfl (es rfl l2_6))
    have l3_10 := lookE hA10 3 (et rfl)
    clear hA10 hsz6 hdf6 l0_6 l2_6 l6_6
    refine then_n (hK8 _ _ ?_)
    clear hK8
    refine wp_ret ?_
    refine then_ret ?_
    refine ret_in (results_2 Try.results20 (rv_cellA l2_10 (hS9.obj 0 rfl hc9) Try.underlying24 rfl (by kernel_rfl)) (rv_tmp l3_10)) hdf10 ?_
    -- leaf T
    obtain ⟨c11, hc11, hS11⟩ := hS9.pnil (s := 1)
    have h : ofE l = 3 := of_long (by omega)
    have h2 : ofT l = [] := by unfold ofT; rw [if_pos (by rw [h]; decide)]
    rw [h]
    exact ⟨_, rfl, (hS11.fin1 0 rfl (hc11.trans (by rw [h2] <;> rfl)))⟩
  · skip
    refine wp_skip ?_
    refine then_n (hK4 _ _ ?_)
    clear hK4
    refine wp_seq_k (fun K12 hK12 => ?_)
    refine wp_seq_k (fun K13 hK13 => ?_)
    -- region 3
    refine region_in ?_
    refine W_v rfl rfl (V_mov rfl l0_6) ?_
    refine W_call rfl rfl rfl Try.func44 (by kernel_rfl) rfl (args2 (et rfl) rfl) (kcf_c (hS2.roC h_rv) ) ?_
    rintro _ w14 ⟨rfl, hP14⟩
    refine ⟨_, rfl, ?_⟩
    have hS14 := hS2.join hP14
    replace hS14 : St w NoX [c2] w14 := hS14
    refine W_end ?_
    refine gen_Q (fun A15 hA15 => ?_)
    have hsz15 : SzN A15 16 := by rw [hA15]; infer_instance
    have hdf15 : A15.defers = [] := by rw [hA15]; simp only [df_put]; exact hdf6
    have l0_15 := lookE hA15 0 (es rfl (es rfl l0_6))
    have l2_15 := lookE hA15 2 (es rfl (es rfl l2_6))
    have l9_15 := lookE hA15 9 (et rfl)
    clear hA15 hsz6 hdf6 l0_6 l2_6 l6_6
    refine then_n (hK13 _ _ ?_)
    clear hK13
    refine cond_dec l9_15 (fun c16 => ?_) (fun c16 => ?_)
    · skip
      refine wp_seq_k (fun K17 hK17 => ?_)
      -- region 4
      refine region_in ?_
      refine W_v rfl rfl (V_bldS (n := 1) (z := .agg #[.slice none 0 0]) rfl (parts0) (by kernel_rfl) (by simp only [List.all_cons, List.all_nil, Bool.and_true] <;> rfl) (by kernel_rfl) (by simp only [List.foldl_cons, List.foldl_nil, Value.cells, List.setIfInBounds_toArray, List.set_cons_succ, List.set_cons_zero] <;> rfl)) ?_
      refine W_stAS 0 hS14 rfl hc2 rfl rfl rfl (es rfl l2_15) (et rfl) (by first | (rw [List.all_toArray] <;> rfl) | (simp only [List.all_toArray, List.all_cons, List.all_nil] <;> rfl)) (by rfl) (by kernel_rfl) (fun w18 c18 hc18 hS18 => ?_)
      replace hS18 : St w NoX [c18] w18 := hS18
      refine W_v rfl rfl (V_asg rfl rfl) ?_
      refine W_end ?_
      refine gen_Q (fun A19 hA19 => ?_)
      have hsz19 : SzN A19 16 := by rw [hA19]; infer_instance
      have hdf19 : A19.defers = [] := by rw [hA19]; simp only [df_put]; exact hdf15
      have l2_19 := lookE hA19 2 (es rfl (es rfl l2_15))
      have l3_19 := lookE hA19 3 (et rfl)
      clear hA19 hsz15 hdf15 l0_15 l2_15 l9_15
      refine then_n (hK17 _ _ ?_)
      clear hK17
      refine wp_ret ?_
      refine then_ret ?_
      refine ret_in (results_2 Try.results20 (rv_cellA l2_19 (hS18.obj 0 rfl hc18) Try.underlying24 rfl (by kernel_rfl)) (rv_tmp l3_19)) hdf19 ?_
      -- leaf FT
      obtain ⟨c20, hc20, hS20⟩ := hS18.pnil (s := 1)
      have h : ofE l = 7 := of_rng (by omega) (by have hc := c16; simpa using hc)
      have h2 : ofT l = [] := by unfold ofT; rw [if_pos (by rw [h]; decide)]
      rw [h]
      exact ⟨_, rfl, (hS20.fin1 0 rfl (hc20.trans (by rw [h2] <;> rfl)))⟩
    · skip
      have hlr := idxO (by have hc := c16; simpa using hc)
      refine wp_skip ?_
      refine then_n (hK12 _ _ ?_)
      clear hK12
      refine wp_seq_k (fun K21 hK21 => ?_)
      -- region 5
      refine region_in ?_
      refine W_call rfl rfl rfl Try.func30 (by kernel_rfl) rfl (args0) (knew_c  ) ?_
      rintro _ w22 ⟨v_22, rfl, hP22⟩
      refine ⟨_, rfl, ?_⟩
      obtain ⟨c_22, hc_22, hP22⟩ := gen1 hP22
      have hS22 := hS14.join hP22
      replace hS22 : St w NoX [c_22, c2] w22 := hS22
      refine W_v rfl rfl (V_fld (v := v_22) rfl (et rfl) Try.underlying24 rfl Try.underlying22 rfl rfl) ?_
      refine W_v rfl rfl (V_mov rfl (es rfl (es rfl l0_15))) ?_
      obtain ⟨Y23, hP23, hR23, hF23, hB23⟩ := St.call (pre := [c_22]) (fr := [c2]) hS22
      rw [hc_22] at hP23
      refine W_call rfl rfl rfl Try.func47 (by kernel_rfl) rfl (args2 (es rfl (et rfl)) (et rfl)) (kall_c (hR23 _ h_rv) hP23 (by first | with_reducible assumption | with_reducible exact gd_new) (by first | with_reducible assumption | with_reducible exact tgK_rng | with_reducible exact hlr)) ?_
      rintro _ w24 ⟨v_24, rfl, hP24⟩
      refine ⟨_, rfl, ?_⟩
      obtain ⟨c_24, hc_24, hP24⟩ := gen1 hP24
      have hS24 := hB23 _ _ hP24
      replace hS24 : St w NoX [c_24, c2] w24 := hS24
      refine W_v rfl rfl (V_bldS (n := 1) (z := .agg #[.slice none 0 0]) rfl (parts1 (et rfl)) (by kernel_rfl) (by simp only [List.all_cons, List.all_nil, SlN_one (ow_at (hS24.chq 0 rfl hc_24)), Bool.and_true] <;> rfl) (by kernel_rfl) (by simp only [List.foldl_cons, List.foldl_nil, Value.cells, List.setIfInBounds_toArray, List.set_cons_succ, List.set_cons_zero] <;> rfl)) ?_
      refine W_stAS 1 hS24 rfl hc2 rfl rfl rfl (es rfl (es rfl (es rfl (es rfl (es rfl l2_15))))) (et rfl) (by simp only [List.all_toArray, List.all_cons, List.all_nil, SlN_one (ow_at (hS24.chq 0 rfl hc_24))] <;> rfl) (by rfl) (by kernel_rfl) (fun w25 c25 hc25 hS25 => ?_)
      replace hS25 : St w NoX [c_24, c25] w25 := hS25
      refine W_v rfl rfl (V_asg rfl rfl) ?_
      refine W_end ?_
      refine gen_Q (fun A26 hA26 => ?_)
      have hsz26 : SzN A26 16 := by rw [hA26]; infer_instance
      have hdf26 : A26.defers = [] := by rw [hA26]; simp only [df_put]; exact hdf15
      have l2_26 := lookE hA26 2 (es rfl (es rfl (es rfl (es rfl (es rfl (es rfl l2_15))))))
      have l3_26 := lookE hA26 3 (et rfl)
      clear hA26 hsz15 hdf15 l0_15 l2_15 l9_15
      refine then_n (hK21 _ _ ?_)
      clear hK21
      refine wp_ret ?_
      refine ret_in (results_2 Try.results20 (rv_cellA l2_26 (hS25.obj 1 rfl hc25) Try.underlying24 rfl (by kernel_rfl)) (rv_tmp l3_26)) hdf26 ?_
      -- leaf FF
      have h : ofE l = 0 := of_ok (by omega) (by have hc := c16; simpa using hc)
      rw [h]
      exact ⟨_, rfl, (hS25.fin1 0 rfl (hc_24.trans (congrArg (io .i64 _) (by unfold ofT; rw [if_neg (by rw [h]; decide)] <;> rfl))))⟩

end Go.Proofs.Ytoandfgkkmfobaa