import Derived.Test.YtnfgeekaeegolaaProg
import Derived.Test.YtnfgeekaeegolaaSl4
namespace Go.Proofs.Ytnfgeekaeegolaa
open Go.RowKit Go.Own Go.Own.R Go.Own.S


set_option maxHeartbeats 4000000 in
theorem kList_c {cv : Value} {c : List Int} {w : World} (h_cv : Ro w NoX (il .i64 cv c))  :
    Calls Try.prog 58 #[.agg #[cv]] w fun e w' => ∃ v, e = .returned (.tuple #[v, .int .i64 (ckS c).2]) ∧ St w NoX [io .i64 (v) (lsT c)] w' := by
  refine calls_in 17 Try.func58 rfl rfl (by simp) (fun A0 hsz0 hdf0 hargs => ?_)
  have l0_0 := hargs 0 (.agg #[cv]) rfl
  clear hargs; replace hsz0 : SzN A0 17 := ⟨hsz0⟩
  have hS := St.nil w
  have bh_cv := SlN.le (sl_SlN h_cv.at)
  refine wp_seq_k (fun K1 hK1 => ?_)
  refine region_in ?_
  refine W_boxS (zs := #[cv]) hS rfl rfl rfl l0_0 (by rfl) (fun g2 w2 c2 hc2 hS2 => ?_)
  replace hS2 : St w NoX [c2] w2 := hS2
  refine W_v rfl rfl (V_asg rfl rfl) ?_
  refine W_v rfl rfl (V_asg rfl rfl) ?_
  refine W_end ?_
  refine gen_Q (fun A3 hA3 => ?_)
  have hsz3 := szq hA3
  have hdf3 : A3.defers = [] := by rw [hA3]; simp only [df_put]; exact hdf0
  have l1_3 := lookE hA3 1 (e2 rfl (et rfl))
  clear hA3 hsz0 hdf0 l0_0
  refine then_n (hK1 _ _ ?_)
  clear hK1
  refine wp_seq_k (fun K4 hK4 => ?_)
  refine wp_seq_k (fun K5 hK5 => ?_)
  refine region_in ?_
  refine W_r rfl rfl (VR_ldA rfl l1_3 (hS2.obj 0 rfl hc2) Try.underlying25 rfl (by kernel_rfl)) ?_
  refine W_call rfl rfl rfl Try.func67 (by kernel_rfl) rfl (args1 (et rfl)) (kCk_c (hS2.roC h_cv) ) ?_
  rintro _ w6 ⟨rfl, hP6⟩
  refine ⟨_, rfl, ?_⟩
  have hS6 := hS2.join hP6
  replace hS6 : St w NoX [c2] w6 := hS6
  refine W_v rfl rfl (V_mov rfl (et rfl)) ?_
  refine W_v rfl rfl (V_ext (v := .int .i64 ((ckS c).1)) rfl (et rfl) rfl) ?_
  refine W_v rfl rfl (V_ext (v := .int .i64 ((ckS c).2)) rfl (es rfl (et rfl)) rfl) ?_
  refine W_v rfl rfl (V_asg rfl (es rfl (et rfl))) ?_
  refine W_v rfl rfl (V_asg rfl (es rfl (et rfl))) ?_
  refine W_end ?_
  refine gen_Q (fun A7 hA7 => ?_)
  have hsz7 := szq hA7
  have hdf7 : A7.defers = [] := by rw [hA7]; simp only [df_put]; exact hdf3
  have l1_7 := lookE hA7 1 (e6 rfl (es rfl l1_3))
  have l5_7 := lookE hA7 5 (et rfl)
  clear hA7 hsz3 hdf3 l1_3
  refine then_n (hK5 _ _ ?_)
  clear hK5
  refine wp_seq_k (fun K8 hK8 => ?_)
  refine region_in ?_
  refine W_v rfl rfl (V_mov rfl l5_7) ?_
  refine W_v rfl rfl (V_neq rfl (et rfl) rfl) ?_
  refine W_end ?_
  refine gen_Q (fun A9 hA9 => ?_)
  have hsz9 := szq hA9
  have hdf9 : A9.defers = [] := by rw [hA9]; simp only [df_put]; exact hdf7
  have l1_9 := lookE hA9 1 (es rfl (es rfl l1_7))
  have l5_9 := lookE hA9 5 (es rfl (es rfl l5_7))
  have l12_9 := lookE hA9 12 (et rfl)
  clear hA9 hsz7 hdf7 l1_7 l5_7
  refine then_n (hK8 _ _ ?_)
  clear hK8
  refine cond_dec l12_9 (fun c10 => ?_) (fun c10 => ?_)
  · skip
    refine wp_seq_k (fun K11 hK11 => ?_)
    refine region_in ?_
    refine W_v rfl rfl (V_mov rfl l5_9) ?_
    refine W_v rfl rfl (V_asg rfl rfl) ?_
    refine W_v rfl rfl (V_asg rfl (es rfl (et rfl))) ?_
    refine W_end ?_
    refine gen_Q (fun A12 hA12 => ?_)
    have hsz12 := szq hA12
    have hdf12 : A12.defers = [] := by rw [hA12]; simp only [df_put]; exact hdf9
    have l2_12 := lookE hA12 2 (es rfl (et rfl))
    have l3_12 := lookE hA12 3 (et rfl)
    clear hA12 hsz9 hdf9 l1_9 l5_9 l12_9
    have hS13 : St w NoX [] w6 := hS6.sel [] (by decide) rfl
    refine then_n (hK11 _ _ ?_)
    clear hK11
    refine wp_ret ?_
    refine then_ret ?_
    refine ret_in (results_2 Try.results58 (rv_tmp l2_12) (rv_tmp l3_12)) hdf12 ?_
    -- leaf T
    obtain ⟨c14, hc14, hS14⟩ := hS13.pnil (s := 1)
    exact ⟨_, rfl, (hS14.fin1 0 rfl (hc14.trans (by rw [show lsT c = [] by unfold lsT; rw [if_pos (by omega)]] <;> rfl)))⟩
  · skip
    have hG : Gd c := ck_iff.1 (by omega)
    have hpb := hG.bd
    refine wp_skip ?_
    refine then_n (hK4 _ _ ?_)
    clear hK4
    refine wp_seq_k (fun K15 hK15 => ?_)
    refine region_in ?_
    refine W_v rfl rfl (V_fa (off' := 0) rfl l1_9 Try.underlying25 rfl (by decide +kernel) rfl) ?_
    refine W_r rfl rfl (VR_ldC rfl (et rfl) (cell_box (v := cv) (hS6.obj 0 rfl hc2) rfl) Try.underlying23 rfl) ?_
    refine W_call rfl rfl rfl Try.func68 (by kernel_rfl) rfl (args1 (et rfl)) (ksr_c (hS6.roC h_cv) (by first | omega | with_reducible assumption) (by first | omega | with_reducible assumption) (by first | with_reducible assumption | with_reducible exact hG.rng | with_reducible exact p1.rng | with_reducible exact hr2) (by first | with_reducible assumption | with_reducible exact hG.dst | with_reducible exact p1.dst | with_reducible exact hd2)) ?_
    rintro _ w16 ⟨v_16, rfl, hP16⟩
    refine ⟨_, rfl, ?_⟩
    obtain ⟨c_16, hc_16, hP16⟩ := gen1 hP16
    have hS16 := hS6.join hP16
    replace hS16 : St w NoX [c_16, c2] w16 := hS16
    refine W_v rfl rfl (V_asg rfl (et rfl)) ?_
    refine W_v rfl rfl (V_asg rfl rfl) ?_
    refine W_end ?_
    refine gen_Q (fun A17 hA17 => ?_)
    have hsz17 := szq hA17
    have hdf17 : A17.defers = [] := by rw [hA17]; simp only [df_put]; exact hdf9
    have l2_17 := lookE hA17 2 (es rfl (et rfl))
    have l3_17 := lookE hA17 3 (et rfl)
    clear hA17 hsz9 hdf9 l1_9 l5_9 l12_9
    have hS18 : St w NoX [c_16] w16 := hS16.sel [0] (by decide) rfl
    refine then_n (hK15 _ _ ?_)
    clear hK15
    refine wp_ret ?_
    refine ret_in (results_2 Try.results58 (rv_tmp l2_17) (rv_tmp l3_17)) hdf17 ?_
    -- leaf F
    have r0 : (ckS c).2 = 0 := by omega
    rw [r0]
    exact ⟨_, rfl, (hS18.fin1 0 rfl (hc_16.trans (congrArg (io .i64 _) (by unfold lsT; rw [if_neg (by omega)]))))⟩

set_option maxHeartbeats 4000000 in
theorem qRange_c {cv : Value} {c : List Int} {f : Int} {t : Int} {w : World} (h_cv : Ro w NoX (il .i64 cv c))  :
    Calls Try.prog 43 #[.agg #[cv], .int .i64 f, .int .i64 t] w fun e w' => ∃ v, e = .returned (.tuple #[v, .int .i64 (ckS c).2]) ∧ St w NoX [io .i64 (v) (rgT c f t)] w' := by
  refine calls_in 52 Try.func43 rfl rfl (by simp) (fun A0 hsz0 hdf0 hargs => ?_)
  have l0_0 := hargs 0 (.agg #[cv]) rfl
  have l1_0 := hargs 1 (.int .i64 f) rfl
  have l2_0 := hargs 2 (.int .i64 t) rfl
  clear hargs; replace hsz0 : SzN A0 52 := ⟨hsz0⟩
  have hS := St.nil w
  have bh_cv := SlN.le (sl_SlN h_cv.at)
  refine wp_seq_k (fun K1 hK1 => ?_)
  refine region_in ?_
  refine W_boxS (zs := #[cv]) hS rfl rfl rfl l0_0 (by rfl) (fun g2 w2 c2 hc2 hS2 => ?_)
  replace hS2 : St w NoX [c2] w2 := hS2
  refine W_v rfl rfl (V_asg rfl rfl) ?_
  refine W_v rfl rfl (V_asg rfl rfl) ?_
  refine W_end ?_
  refine gen_Q (fun A3 hA3 => ?_)
  have hsz3 := szq hA3
  have hdf3 : A3.defers = [] := by rw [hA3]; simp only [df_put]; exact hdf0
  have l1_3 := lookE hA3 1 (e2 rfl (es rfl l1_0))
  have l2_3 := lookE hA3 2 (e2 rfl (es rfl l2_0))
  have l3_3 := lookE hA3 3 (e2 rfl (et rfl))
  clear hA3 hsz0 hdf0 l0_0 l1_0 l2_0
  refine then_n (hK1 _ _ ?_)
  clear hK1
  refine wp_seq_k (fun K4 hK4 => ?_)
  refine region_in ?_
  refine W_r rfl rfl (VR_ldA rfl l3_3 (hS2.obj 0 rfl hc2) Try.underlying25 rfl (by kernel_rfl)) ?_
  refine W_call rfl rfl rfl Try.func53 (by kernel_rfl) rfl (args1 (et rfl)) (qCk_c (hS2.roC h_cv) ) ?_
  rintro _ w5 ⟨rfl, hP5⟩
  refine ⟨_, rfl, ?_⟩
  have hS5 := hS2.join hP5
  replace hS5 : St w NoX [c2] w5 := hS5
  refine W_v rfl rfl (V_mov rfl (et rfl)) ?_
  refine W_v rfl rfl (V_ext (v := .int .i64 ((ckS c).1)) rfl (et rfl) rfl) ?_
  refine W_v rfl rfl (V_ext (v := .int .i64 ((ckS c).2)) rfl (es rfl (et rfl)) rfl) ?_
  refine W_v rfl rfl (V_asg rfl (es rfl (et rfl))) ?_
  refine W_v rfl rfl (V_asg rfl (es rfl (et rfl))) ?_
  refine W_end ?_
  refine gen_Q (fun A6 hA6 => ?_)
  have hsz6 := szq hA6
  have hdf6 : A6.defers = [] := by rw [hA6]; simp only [df_put]; exact hdf3
  have l1_6 := lookE hA6 1 (e6 rfl (es rfl l1_3))
  have l2_6 := lookE hA6 2 (e6 rfl (es rfl l2_3))
  have l3_6 := lookE hA6 3 (e6 rfl (es rfl l3_3))
  have l9_6 := lookE hA6 9 (et rfl)
  clear hA6 hsz3 hdf3 l1_3 l2_3 l3_3
  refine then_n (hK4 _ _ ?_)
  clear hK4
  refine wp_seq_k (fun K7 hK7 => ?_)
  refine wp_seq_k (fun K8 hK8 => ?_)
  refine region_in ?_
  refine W_v rfl rfl (V_mov rfl l9_6) ?_
  refine W_v rfl rfl (V_neq rfl (et rfl) rfl) ?_
  refine W_end ?_
  refine gen_Q (fun A9 hA9 => ?_)
  have hsz9 := szq hA9
  have hdf9 : A9.defers = [] := by rw [hA9]; simp only [df_put]; exact hdf6
  have l1_9 := lookE hA9 1 (es rfl (es rfl l1_6))
  have l2_9 := lookE hA9 2 (es rfl (es rfl l2_6))
  have l3_9 := lookE hA9 3 (es rfl (es rfl l3_6))
  have l9_9 := lookE hA9 9 (es rfl (es rfl l9_6))
  have l19_9 := lookE hA9 19 (et rfl)
  clear hA9 hsz6 hdf6 l1_6 l2_6 l3_6 l9_6
  refine then_n (hK8 _ _ ?_)
  clear hK8
  refine cond_dec l19_9 (fun c10 => ?_) (fun c10 => ?_)
  · skip
    refine wp_seq_k (fun K11 hK11 => ?_)
    refine region_in ?_
    refine W_v rfl rfl (V_mov rfl l9_9) ?_
    refine W_v rfl rfl (V_asg rfl rfl) ?_
    refine W_v rfl rfl (V_asg rfl (es rfl (et rfl))) ?_
    refine W_end ?_
    refine gen_Q (fun A12 hA12 => ?_)
    have hsz12 := szq hA12
    have hdf12 : A12.defers = [] := by rw [hA12]; simp only [df_put]; exact hdf9
    have l6_12 := lookE hA12 6 (es rfl (et rfl))
    have l7_12 := lookE hA12 7 (et rfl)
    clear hA12 hsz9 hdf9 l1_9 l2_9 l3_9 l9_9 l19_9
    have hS13 : St w NoX [] w5 := hS5.sel [] (by decide) rfl
    refine then_n (hK11 _ _ ?_)
    clear hK11
    refine wp_ret ?_
    refine then_ret ?_
    refine ret_in (results_2 Try.results43 (rv_tmp l6_12) (rv_tmp l7_12)) hdf12 ?_
    -- leaf T
    obtain ⟨c14, hc14, hS14⟩ := hS13.pnil (s := 1)
    exact ⟨_, rfl, (hS14.fin1 0 rfl (hc14.trans (by rw [show rgT c f t = [] by unfold rgT lsT; rw [if_pos (by omega)] <;> rfl] <;> rfl)))⟩
  · skip
    have hG : Gd c := ck_iff.1 (by omega)
    have hpb := hG.bd
    have htl := tgK_len c 1600
    have hfl := fun k => fl_len (fun x => decide (x < f ∨ t ≤ x)) ((tgK c 1600).take k)
    refine wp_skip ?_
    refine then_n (hK7 _ _ ?_)
    clear hK7
    refine wp_seq_k (fun K15 hK15 => ?_)
    refine region_in ?_
    refine W_v rfl rfl (V_asg rfl rfl) ?_
    refine W_end ?_
    refine gen_Q (fun A16 hA16 => ?_)
    have hsz16 := szq hA16
    have hdf16 : A16.defers = [] := by rw [hA16]; simp only [df_put]; exact hdf9
    have l1_16 := lookE hA16 1 (es rfl l1_9)
    have l2_16 := lookE hA16 2 (es rfl l2_9)
    have l3_16 := lookE hA16 3 (es rfl l3_9)
    have l10_16 := lookE hA16 10 (et rfl)
    clear hA16 hsz9 hdf9 l1_9 l2_9 l3_9 l9_9 l19_9
    refine then_n (hK15 _ _ ?_)
    clear hK15
    refine wp_seq_k (fun K17 hK17 => ?_)
    refine region_in ?_
    refine W_v rfl rfl (V_fa (off' := 0) rfl l3_16 Try.underlying25 rfl (by decide +kernel) rfl) ?_
    refine W_r rfl rfl (VR_ldC rfl (et rfl) (cell_box (v := cv) (hS5.obj 0 rfl hc2) rfl) Try.underlying23 rfl) ?_
    refine W_call rfl rfl rfl Try.func60 (by kernel_rfl) rfl (args1 (et rfl)) (qsr_c (hS5.roC h_cv) (by first | with_reducible assumption | with_reducible exact hG.rng | with_reducible exact p1.rng | with_reducible exact hr2)) ?_
    rintro _ w18 ⟨v_18, rfl, hP18⟩
    refine ⟨_, rfl, ?_⟩
    obtain ⟨c_18, hc_18, hP18⟩ := gen1 hP18
    have hS18 := hS5.join hP18
    replace hS18 : St w NoX [c_18, c2] w18 := hS18
    refine W_v rfl rfl (V_asg rfl (et rfl)) ?_
    refine W_end ?_
    refine gen_Q (fun A19 hA19 => ?_)
    have hsz19 := szq hA19
    have hdf19 : A19.defers = [] := by rw [hA19]; simp only [df_put]; exact hdf16
    have l1_19 := lookE hA19 1 (e3 rfl (es rfl l1_16))
    have l2_19 := lookE hA19 2 (e3 rfl (es rfl l2_16))
    have l10_19 := lookE hA19 10 (e3 rfl (es rfl l10_16))
    have l11_19 := lookE hA19 11 (et rfl)
    clear hA19 hsz16 hdf16 l1_16 l2_16 l3_16 l10_16
    have hS20 : St w NoX [c_18] w18 := hS18.sel [0] (by decide) rfl
    refine then_n (hK17 _ _ ?_)
    clear hK17
    refine wp_seq_k (fun K21 hK21 => ?_)
    refine wp_seq_k (fun K22 hK22 => ?_)
    refine region_in ?_
    refine W_v rfl rfl (V_asg rfl rfl) ?_
    refine W_end ?_
    refine gen_Q (fun A23 hA23 => ?_)
    have hsz23 := szq hA23
    have hdf23 : A23.defers = [] := by rw [hA23]; simp only [df_put]; exact hdf19
    have l1_23 := lookE hA23 1 (es rfl l1_19)
    have l2_23 := lookE hA23 2 (es rfl l2_19)
    have l10_23 := lookE hA23 10 (es rfl l10_19)
    have l11_23 := lookE hA23 11 (es rfl l11_19)
    have l12_23 := lookE hA23 12 (et rfl)
    clear hA23 hsz19 hdf19 l1_19 l2_19 l10_19 l11_19
    refine then_n (hK22 _ _ ?_)
    clear hK22
    refine wp_block ?_
    obtain ⟨c24, hc24, hS24⟩ := hS20.pnil (s := 1)
    -- loop 7
    refine loopX (fun mz A' w' => SzN A' 52 ∧ A'.defers = [] ∧ (∃ (k : Nat) (bv : Value), (mz = (tgK c 1600).length - k) ∧ (k ≤ (tgK c 1600).length) ∧ (EV A' (.tmp 12) = .int .i64 (k : Int)) ∧ (EV A' (.tmp 10) = bv) ∧ (EV A' (.tmp 1) = EV A23 (.tmp 1)) ∧ (EV A' (.tmp 2) = EV A23 (.tmp 2)) ∧ (EV A' (.tmp 11) = EV A23 (.tmp 11)) ∧ (St w NoX [io .i64 bv (fl (fun x => decide (x < f ∨ t ≤ x)) ((tgK c 1600).take k)), io .i64 v_18 (tgK c 1600)] w'))) ((tgK c 1600).length - 0) ⟨hsz23, hdf23, 0, (.slice none 0 0), rfl, (by omega), ((l12_23).trans (by first | rfl | (simp; done) | (congr 1; omega))), ((l10_23).trans (by first | rfl | (simp; done) | (congr 1; omega))), rfl, rfl, rfl, (by have q0 : c24 = io .i64 (.slice none 0 0) (fl (fun x => decide (x < f ∨ t ≤ x)) ((tgK c 1600).take 0)) := hc24.trans (rfl); have q1 := hc_18; subst q0 q1; exact hS24)⟩ ?_
    clear hS24 hc24 hc_18
    rintro n25 A25 w25 ⟨hsz25, hdf25, k, bv, hm25, hk, l12_25, l10_25, u1_25, u2_25, u11_25, hS25⟩
    have l1_25 := u1_25.trans l1_23
    have l2_25 := u2_25.trans l2_23
    have l11_25 := u11_25.trans l11_23
    obtain ⟨c24_25, c_25, hc24_25, hc_25, hS25⟩ := gen2 hS25
    refine wp_seq_k (fun K26 hK26 => ?_)
    refine wp_seq_k (fun K27 hK27 => ?_)
    refine region_in ?_
    refine W_v rfl rfl (V_mov rfl l12_25) ?_
    refine W_v rfl rfl (V_mov rfl (es rfl l11_25)) ?_
    refine W_v rfl rfl (V_lenS rfl (et rfl) (ow_at (hS25.chq 1 rfl hc_25)) Try.underlying23) ?_
    refine W_v rfl rfl (V_lss rfl (e2 rfl (et rfl)) (et rfl)) ?_
    refine W_end ?_
    refine gen_Q (fun A28 hA28 => ?_)
    have hsz28 := szq hA28
    have hdf28 : A28.defers = [] := by rw [hA28]; simp only [df_put]; exact hdf25
    have l1_28 := lookE hA28 1 (e3 rfl (es rfl l1_25))
    have l2_28 := lookE hA28 2 (e3 rfl (es rfl l2_25))
    have l10_28 := lookE hA28 10 (e3 rfl (es rfl l10_25))
    have l11_28 := lookE hA28 11 (e3 rfl (es rfl l11_25))
    have l12_28 := lookE hA28 12 (e3 rfl (es rfl l12_25))
    have l27_28 := lookE hA28 27 (et rfl)
    clear hA28 hsz25 hdf25 l12_25 l10_25 l1_25 l2_25 l11_25
    refine then_n (hK27 _ _ ?_)
    clear hK27
    refine cond_dec l27_28 (fun c29 => ?_) (fun c29 => ?_)
    · skip
      refine wp_skip ?_
      refine then_n (hK26 _ _ ?_)
      clear hK26
      refine wp_seq_k (fun K30 hK30 => ?_)
      refine wp_block ?_
      refine wp_seq_k (fun K31 hK31 => ?_)
      refine region_in ?_
      refine W_v rfl rfl (V_mov rfl l11_28) ?_
      refine W_v rfl rfl (V_mov rfl (es rfl l12_28)) ?_
      have k32 : k < (tgK c 1600).length := by first | omega | (simp only [List.length_cons, List.length_nil]; omega) | (simp only [List.length_set]; omega) | decide
      obtain ⟨y32, hy32⟩ := get_some (xs := (tgK c 1600)) (k := k) k32
      obtain ⟨B32, O32, C32, hv32⟩ := (SlN.blk (ow_at (hS25.chq 1 rfl hc_25)) (by first | omega | (simp only [List.length_cons, List.length_nil]; omega) | (simp only [List.length_set]; omega) | decide))
      refine W_v rfl rfl (V_ixS (off := O32 + k) 1 (k) rfl (es rfl (et rfl)) (et rfl) hv32 (by omega) k32 Try.underlying23 (by kernel_rfl) (congrArg _ (Nat.mul_one _))) ?_
      refine W_r rfl rfl (VR_ldC rfl (et rfl) ((ow_at (hS25.chq 1 rfl hc_25)).cell hv32 (map_get hy32)) Try.underlying3 rfl) ?_
      refine W_v rfl rfl (V_mov rfl (e3 rfl (es rfl l1_28))) ?_
      refine W_v rfl rfl (V_geq rfl (es rfl (et rfl)) (et rfl)) ?_
      refine W_split rfl rfl (V_mov rfl (et rfl)) (fun c33 => ?_) (fun c33 => ?_)
      · skip
        refine W_v rfl (wanted_t rfl rfl (et rfl) (ez rfl)) (V_mov rfl (e6 rfl (es rfl l11_28))) ?_
        refine W_v rfl (wanted_t rfl rfl (es rfl (et rfl)) (ez rfl)) (V_mov rfl (e7 rfl (es rfl l12_28))) ?_
        refine W_v rfl (wanted_t rfl rfl (e2 rfl (et rfl)) (ez rfl)) (V_ixS (off := O32 + k) 1 (k) rfl (es rfl (et rfl)) (et rfl) hv32 (by omega) k32 Try.underlying23 (by kernel_rfl) (congrArg _ (Nat.mul_one _))) ?_
        refine W_r rfl (wanted_t rfl rfl (e3 rfl (et rfl)) (ez rfl)) (VR_ldC rfl (et rfl) ((ow_at (hS25.chq 1 rfl hc_25)).cell hv32 (map_get hy32)) Try.underlying3 rfl) ?_
        refine W_v rfl (wanted_t rfl rfl (e4 rfl (et rfl)) (ez rfl)) (V_mov rfl (e10 rfl (es rfl l2_28))) ?_
        refine W_v rfl (wanted_t rfl rfl (e5 rfl (et rfl)) (ez rfl)) (V_lss rfl (es rfl (et rfl)) (et rfl)) ?_
        refine W_v rfl rfl (V_pickT rfl (e6 rfl (et rfl)) (et rfl)) ?_
        refine W_end ?_
        refine gen_Q (fun A35 hA35 => ?_)
        have hsz35 := szq hA35
        have hdf35 : A35.defers = [] := by rw [hA35]; simp only [df_put]; exact hdf28
        have l1_35 := lookE hA35 1 (e13 rfl (es rfl l1_28))
        have l2_35 := lookE hA35 2 (e13 rfl (es rfl l2_28))
        have l10_35 := lookE hA35 10 (e13 rfl (es rfl l10_28))
        have l11_35 := lookE hA35 11 (e13 rfl (es rfl l11_28))
        have l12_35 := lookE hA35 12 (e13 rfl (es rfl l12_28))
        have l37_35 := lookE hA35 37 (e6 rfl (et rfl))
        have l38_35 := lookE hA35 38 (e5 rfl (et rfl))
        have l39_35 := lookE hA35 39 (e4 rfl (et rfl))
        have l40_35 := lookE hA35 40 (e3 rfl (et rfl))
        have l41_35 := lookE hA35 41 (e2 rfl (et rfl))
        have l42_35 := lookE hA35 42 (es rfl (et rfl))
        have l43_35 := lookE hA35 43 (et rfl)
        clear hA35 hsz28 hdf28 l1_28 l2_28 l10_28 l11_28 l12_28 l27_28
        refine then_n (hK31 _ _ ?_)
        clear hK31
        refine cond_dec l43_35 (fun c36 => ?_) (fun c36 => ?_)
        · skip
          refine region_in ?_
          refine W_v rfl rfl (V_mov rfl l10_35) ?_
          refine W_v rfl rfl (V_mov rfl (es rfl l11_35)) ?_
          refine W_v rfl rfl (V_mov rfl (es rfl (es rfl l12_35))) ?_
          refine W_v rfl rfl (V_ixS (off := O32 + k) 1 (k) rfl (es rfl (et rfl)) (et rfl) hv32 (by omega) k32 Try.underlying23 (by kernel_rfl) (congrArg _ (Nat.mul_one _))) ?_
          refine W_r rfl rfl (VR_ldC rfl (et rfl) ((ow_at (hS25.chq 1 rfl hc_25)).cell hv32 (map_get hy32)) Try.underlying3 rfl) ?_
          have hll38 : [y32].length = 1 := rfl
          refine W_litS (vs := [.int .i64 (y32)]) (xs := ([y32].map (Value.int .i64))) 1 hS25 rfl rfl rfl (parts1 (et rfl)) rfl Try.underlying23 (by kernel_rfl) (by decide) (by intro v hv; simp only [List.mem_cons, List.not_mem_nil, or_false] at hv; rcases hv with rfl <;> rfl) (by rfl) (fun g38 w38 c38 hc38 hS38 => ?_)
          replace hc38 : c38 = io .i64 (.slice (some ⟨g38, 0, none⟩) 1 1) [y32] := hc38
          replace hS38 : St w NoX [c38, c24_25, c_25] w38 := hS38
          refine W_appS 1 1 hS38 rfl hc24_25 rfl rfl rfl (e5 rfl (et rfl)) (et rfl) Try.underlying23 Try.underlying23 (z := .int .i64 0) (bytes := 8) (by kernel_rfl) rfl (by decide) (ow_at (hS38.chq 0 rfl hc38)) ones_i (by have h1 := fl_len (fun x => decide (x < f ∨ t ≤ x)) ((tgK c 1600).take k); have h2 := List.length_take_le k (tgK c 1600); simp only [List.length_singleton, List.length_cons, List.length_nil]; omega) (by have h1 := fl_len (fun x => decide (x < f ∨ t ≤ x)) ((tgK c 1600).take k); have h2 := List.length_take_le k (tgK c 1600); simp only [List.length_singleton, List.length_cons, List.length_nil]; omega) (fun v39 w39 c39 hc39 hS39 => ?_)
          replace hc39 : c39 = io .i64 v39 ((fl (fun x => decide (x < f ∨ t ≤ x)) ((tgK c 1600).take k)) ++ [y32]) := hc39.trans (app_eq (by simp))
          replace hS39 : St w NoX [c38, c39, c_25] w39 := hS39
          refine W_v rfl rfl (V_asg rfl (et rfl)) ?_
          refine W_end ?_
          refine gen_Q (fun A40 hA40 => ?_)
          have hsz40 := szq hA40
          have hdf40 : A40.defers = [] := by rw [hA40]; simp only [df_put]; exact hdf35
          have l1_40 := lookE hA40 1 (e7 rfl (es rfl l1_35))
          have l2_40 := lookE hA40 2 (e7 rfl (es rfl l2_35))
          have l10_40 := lookE hA40 10 (et rfl)
          have l11_40 := lookE hA40 11 (e7 rfl (es rfl l11_35))
          have l12_40 := lookE hA40 12 (e7 rfl (es rfl l12_35))
          have l37_40 := lookE hA40 37 (e7 rfl (es rfl l37_35))
          have l38_40 := lookE hA40 38 (e7 rfl (es rfl l38_35))
          have l39_40 := lookE hA40 39 (e7 rfl (es rfl l39_35))
          have l40_40 := lookE hA40 40 (e7 rfl (es rfl l40_35))
          have l41_40 := lookE hA40 41 (e7 rfl (es rfl l41_35))
          have l42_40 := lookE hA40 42 (e7 rfl (es rfl l42_35))
          clear hA40 hsz35 hdf35 l1_35 l2_35 l10_35 l11_35 l12_35 l37_35 l38_35 l39_35 l40_35 l41_35 l42_35 l43_35
          have hS41 : St w NoX [c39, c_25] w39 := hS39.sel [1, 2] (by decide) rfl
          refine inb_n ?_
          refine then_n (hK30 _ _ ?_)
          clear hK30
          refine region_in ?_
          refine W_v rfl rfl (V_mov rfl l12_40) ?_
          refine W_v rfl rfl (V_add rfl (et rfl) rfl (by omega) (by omega)) ?_
          refine W_v rfl rfl (V_asg rfl (et rfl)) ?_
          refine W_end ?_
          refine gen_Q (fun A42 hA42 => ?_)
          have hsz42 := szq hA42
          have hdf42 : A42.defers = [] := by rw [hA42]; simp only [df_put]; exact hdf40
          have l1_42 := lookE hA42 1 (e2 rfl (es rfl l1_40))
          have l2_42 := lookE hA42 2 (e2 rfl (es rfl l2_40))
          have l10_42 := lookE hA42 10 (e2 rfl (es rfl l10_40))
          have l11_42 := lookE hA42 11 (e2 rfl (es rfl l11_40))
          have l12_42 := lookE hA42 12 (et rfl)
          have l37_42 := lookE hA42 37 (e2 rfl (es rfl l37_40))
          have l38_42 := lookE hA42 38 (e2 rfl (es rfl l38_40))
          have l39_42 := lookE hA42 39 (e2 rfl (es rfl l39_40))
          have l40_42 := lookE hA42 40 (e2 rfl (es rfl l40_40))
          have l41_42 := lookE hA42 41 (e2 rfl (es rfl l41_40))
          have l42_42 := lookE hA42 42 (e2 rfl (es rfl l42_40))
          clear hA42 hsz40 hdf40 l1_40 l2_40 l10_40 l11_40 l12_40 l37_40 l38_40 l39_40 l40_40 l41_40 l42_40
          refine then_n ⟨(tgK c 1600).length - (k + 1), by simp only [hm25]; omega, hsz42, hdf42, (k + 1), v39, rfl, (by omega), ((l12_42).trans (by first | rfl | (simp; done) | (congr 1; omega))), ((l10_42).trans (by first | rfl | (simp; done) | (congr 1; omega))), ((l1_42).trans l1_23.symm), ((l2_42).trans l2_23.symm), ((l11_42).trans l11_23.symm), (by have q0 : c39 = io .i64 v39 (fl (fun x => decide (x < f ∨ t ≤ x)) ((tgK c 1600).take (k + 1))) := hc39.trans ((congrArg (io .i64 _) (fl_in hy32 (show (fun x => decide (x < f ∨ t ≤ x)) y32 = false by first | exact decide_eq_false (by omega))))); have q1 := hc_25; subst q0 q1; exact hS41)⟩
        · skip
          refine wp_skip ?_
          refine inb_n ?_
          refine then_n (hK30 _ _ ?_)
          clear hK30
          refine region_in ?_
          refine W_v rfl rfl (V_mov rfl l12_35) ?_
          refine W_v rfl rfl (V_add rfl (et rfl) rfl (by omega) (by omega)) ?_
          refine W_v rfl rfl (V_asg rfl (et rfl)) ?_
          refine W_end ?_
          refine gen_Q (fun A43 hA43 => ?_)
          have hsz43 := szq hA43
          have hdf43 : A43.defers = [] := by rw [hA43]; simp only [df_put]; exact hdf35
          have l1_43 := lookE hA43 1 (e2 rfl (es rfl l1_35))
          have l2_43 := lookE hA43 2 (e2 rfl (es rfl l2_35))
          have l10_43 := lookE hA43 10 (e2 rfl (es rfl l10_35))
          have l11_43 := lookE hA43 11 (e2 rfl (es rfl l11_35))
          have l12_43 := lookE hA43 12 (et rfl)
          have l37_43 := lookE hA43 37 (e2 rfl (es rfl l37_35))
          have l38_43 := lookE hA43 38 (e2 rfl (es rfl l38_35))
          have l39_43 := lookE hA43 39 (e2 rfl (es rfl l39_35))
          have l40_43 := lookE hA43 40 (e2 rfl (es rfl l40_35))
          have l41_43 := lookE hA43 41 (e2 rfl (es rfl l41_35))
          have l42_43 := lookE hA43 42 (e2 rfl (es rfl l42_35))
          clear hA43 hsz35 hdf35 l1_35 l2_35 l10_35 l11_35 l12_35 l37_35 l38_35 l39_35 l40_35 l41_35 l42_35 l43_35
          refine then_n ⟨(tgK c 1600).length - (k + 1), by simp only [hm25]; omega, hsz43, hdf43, (k + 1), bv, rfl, (by omega), ((l12_43).trans (by first | rfl | (simp; done) | (congr 1; omega))), ((l10_43).trans (by first | rfl | (simp; done) | (congr 1; omega))), ((l1_43).trans l1_23.symm), ((l2_43).trans l2_23.symm), ((l11_43).trans l11_23.symm), (by have q0 : c24_25 = io .i64 bv (fl (fun x => decide (x < f ∨ t ≤ x)) ((tgK c 1600).take (k + 1))) := hc24_25.trans ((congrArg (io .i64 _) (fl_out hy32 (show (fun x => decide (x < f ∨ t ≤ x)) y32 = true by first | exact decide_eq_true (by omega))))); have q1 := hc_25; subst q0 q1; exact hS25)⟩
      · skip
        refine W_off rfl (wanted_f rfl rfl (et rfl) (ez rfl) rfl) ?_
        refine W_off rfl (wanted_f rfl rfl (es rfl (et rfl)) (ez rfl) rfl) ?_
        refine W_off rfl (wanted_f rfl rfl (e2 rfl (et rfl)) (ez rfl) rfl) ?_
        refine W_off rfl (wanted_f rfl rfl (e3 rfl (et rfl)) (ez rfl) rfl) ?_
        refine W_off rfl (wanted_f rfl rfl (e4 rfl (et rfl)) (ez rfl) rfl) ?_
        refine W_off rfl (wanted_f rfl rfl (e5 rfl (et rfl)) (ez rfl) rfl) ?_
        refine W_v rfl rfl (V_pickF rfl (e6 rfl (et rfl)) rfl) ?_
        refine W_end ?_
        refine gen_Q (fun A44 hA44 => ?_)
        have hsz44 := szq hA44
        have hdf44 : A44.defers = [] := by rw [hA44]; simp only [df_put]; exact hdf28
        have l1_44 := lookE hA44 1 (e13 rfl (es rfl l1_28))
        have l2_44 := lookE hA44 2 (e13 rfl (es rfl l2_28))
        have l10_44 := lookE hA44 10 (e13 rfl (es rfl l10_28))
        have l11_44 := lookE hA44 11 (e13 rfl (es rfl l11_28))
        have l12_44 := lookE hA44 12 (e13 rfl (es rfl l12_28))
        have l37_44 := lookE hA44 37 (e6 rfl (et rfl))
        have l38_44 := lookE hA44 38 (e5 rfl (et rfl))
        have l39_44 := lookE hA44 39 (e4 rfl (et rfl))
        have l40_44 := lookE hA44 40 (e3 rfl (et rfl))
        have l41_44 := lookE hA44 41 (e2 rfl (et rfl))
        have l42_44 := lookE hA44 42 (es rfl (et rfl))
        have l43_44 := lookE hA44 43 (et rfl)
        clear hA44 hsz28 hdf28 l1_28 l2_28 l10_28 l11_28 l12_28 l27_28
        refine then_n (hK31 _ _ ?_)
        clear hK31
        refine cond_f l43_44 ?_
        refine wp_skip ?_
        refine inb_n ?_
        refine then_n (hK30 _ _ ?_)
        clear hK30
        refine region_in ?_
        refine W_v rfl rfl (V_mov rfl l12_44) ?_
        refine W_v rfl rfl (V_add rfl (et rfl) rfl (by omega) (by omega)) ?_
        refine W_v rfl rfl (V_asg rfl (et rfl)) ?_
        refine W_end ?_
        refine gen_Q (fun A45 hA45 => ?_)
        have hsz45 := szq hA45
        have hdf45 : A45.defers = [] := by rw [hA45]; simp only [df_put]; exact hdf44
        have l1_45 := lookE hA45 1 (e2 rfl (es rfl l1_44))
        have l2_45 := lookE hA45 2 (e2 rfl (es rfl l2_44))
        have l10_45 := lookE hA45 10 (e2 rfl (es rfl l10_44))
        have l11_45 := lookE hA45 11 (e2 rfl (es rfl l11_44))
        have l12_45 := lookE hA45 12 (et rfl)
        have l37_45 := lookE hA45 37 (e2 rfl (es rfl l37_44))
        have l38_45 := lookE hA45 38 (e2 rfl (es rfl l38_44))
        have l39_45 := lookE hA45 39 (e2 rfl (es rfl l39_44))
        have l40_45 := lookE hA45 40 (e2 rfl (es rfl l40_44))
        have l41_45 := lookE hA45 41 (e2 rfl (es rfl l41_44))
        have l42_45 := lookE hA45 42 (e2 rfl (es rfl l42_44))
        clear hA45 hsz44 hdf44 l1_44 l2_44 l10_44 l11_44 l12_44 l37_44 l38_44 l39_44 l40_44 l41_44 l42_44 l43_44
        refine then_n ⟨(tgK c 1600).length - (k + 1), by simp only [hm25]; omega, hsz45, hdf45, (k + 1), bv, rfl, (by omega), ((l12_45).trans (by first | rfl | (simp; done) | (congr 1; omega))), ((l10_45).trans (by first | rfl | (simp; done) | (congr 1; omega))), ((l1_45).trans l1_23.symm), ((l2_45).trans l2_23.symm), ((l11_45).trans l11_23.symm), (by have q0 : c24_25 = io .i64 bv (fl (fun x => decide (x < f ∨ t ≤ x)) ((tgK c 1600).take (k + 1))) := hc24_25.trans ((congrArg (io .i64 _) (fl_out hy32 (show (fun x => decide (x < f ∨ t ≤ x)) y32 = true by first | exact decide_eq_true (by omega))))); have q1 := hc_25; subst q0 q1; exact hS25)⟩
    · skip
      refine wp_exit ?_
      refine then_exit ?_
      refine then_exit ?_
      refine inb_hit ?_
      refine then_n (hK21 _ _ ?_)
      clear hK21
      refine wp_seq_k (fun K46 hK46 => ?_)
      refine region_in ?_
      refine W_v rfl rfl (V_mov rfl l10_28) ?_
      refine W_v rfl rfl (V_asg rfl (et rfl)) ?_
      refine W_v rfl rfl (V_asg rfl rfl) ?_
      refine W_end ?_
      refine gen_Q (fun A47 hA47 => ?_)
      have hsz47 := szq hA47
      have hdf47 : A47.defers = [] := by rw [hA47]; simp only [df_put]; exact hdf28
      have l6_47 := lookE hA47 6 (es rfl (et rfl))
      have l7_47 := lookE hA47 7 (et rfl)
      clear hA47 hsz28 hdf28 l1_28 l2_28 l10_28 l11_28 l12_28 l27_28
      have hS48 : St w NoX [c24_25] w25 := hS25.sel [0] (by decide) rfl
      refine then_n (hK46 _ _ ?_)
      clear hK46
      refine wp_ret ?_
      refine ret_in (results_2 Try.results43 (rv_tmp l6_47) (rv_tmp l7_47)) hdf47 ?_
      -- leaf FF
      have r0 : (ckS c).2 = 0 := by omega
      rw [r0]
      exact ⟨_, rfl, (hS48.fin1 0 rfl (hc24_25.trans (congrArg (io .i64 _) (by unfold rgT lsT; rw [if_neg (by omega), List.take_of_length_le (by omega)]))))⟩

set_option maxHeartbeats 4000000 in
theorem qList_c {cv : Value} {c : List Int} {w : World} (h_cv : Ro w NoX (il .i64 cv c))  :
    Calls Try.prog 21 #[.agg #[cv]] w fun e w' => ∃ v, e = .returned (.tuple #[v, .int .i64 (ckS c).2]) ∧ St w NoX [io .i64 (v) (lsT c)] w' := by
  refine calls_in 8 Try.func21 rfl rfl (by simp) (fun A0 hsz0 hdf0 hargs => ?_)
  have l0_0 := hargs 0 (.agg #[cv]) rfl
  clear hargs; replace hsz0 : SzN A0 8 := ⟨hsz0⟩
  have hS := St.nil w
  have bh_cv := SlN.le (sl_SlN h_cv.at)
  refine wp_seq_k (fun K1 hK1 => ?_)
  refine region_in ?_
  refine W_boxS (zs := #[cv]) hS rfl rfl rfl l0_0 (by rfl) (fun g2 w2 c2 hc2 hS2 => ?_)
  replace hS2 : St w NoX [c2] w2 := hS2
  refine W_v rfl rfl (V_asg rfl rfl) ?_
  refine W_v rfl rfl (V_asg rfl rfl) ?_
  refine W_end ?_
  refine gen_Q (fun A3 hA3 => ?_)
  have hsz3 := szq hA3
  have hdf3 : A3.defers = [] := by rw [hA3]; simp only [df_put]; exact hdf0
  have l1_3 := lookE hA3 1 (e2 rfl (et rfl))
  clear hA3 hsz0 hdf0 l0_0
  refine then_n (hK1 _ _ ?_)
  clear hK1
  refine wp_seq_k (fun K4 hK4 => ?_)
  refine region_in ?_
  refine W_r rfl rfl (VR_ldA rfl l1_3 (hS2.obj 0 rfl hc2) Try.underlying25 rfl (by kernel_rfl)) ?_
  refine W_call rfl rfl rfl Try.func43 (by kernel_rfl) rfl (args3 (et rfl) rfl rfl) (qRange_c (f := 1) (t := 1601) (hS2.roC h_cv) ) ?_
  rintro _ w5 ⟨v_5, rfl, hP5⟩
  refine ⟨_, rfl, ?_⟩
  obtain ⟨c_5, hc_5, hP5⟩ := gen1 hP5
  have hS5 := hS2.join hP5
  replace hS5 : St w NoX [c_5, c2] w5 := hS5
  refine W_v rfl rfl (V_ext (v := v_5) rfl (et rfl) rfl) ?_
  refine W_v rfl rfl (V_ext (v := .int .i64 ((ckS c).2)) rfl (es rfl (et rfl)) rfl) ?_
  refine W_v rfl rfl (V_asg rfl (es rfl (et rfl))) ?_
  refine W_v rfl rfl (V_asg rfl (es rfl (et rfl))) ?_
  refine W_end ?_
  refine gen_Q (fun A6 hA6 => ?_)
  have hsz6 := szq hA6
  have hdf6 : A6.defers = [] := by rw [hA6]; simp only [df_put]; exact hdf3
  have l2_6 := lookE hA6 2 (es rfl (et rfl))
  have l3_6 := lookE hA6 3 (et rfl)
  clear hA6 hsz3 hdf3 l1_3
  have hS7 : St w NoX [c_5] w5 := hS5.sel [0] (by decide) rfl
  refine then_n (hK4 _ _ ?_)
  clear hK4
  refine wp_ret ?_
  refine ret_in (results_2 Try.results21 (rv_tmp l2_6) (rv_tmp l3_6)) hdf6 ?_
  -- leaf 
  exact ⟨_, rfl, (hS7.fin1 0 rfl (hc_5.trans (congrArg (io .i64 _) (rg_all c))))⟩

set_option maxHeartbeats 4000000 in
theorem qOf_c {rv : Value} {l : List Int} {w : World} (h_rv : Ro w NoX (il .i64 rv l))  :
    Calls Try.prog 36 #[rv] w fun e w' => ∃ v, e = .returned (.tuple #[.agg #[v], .int .i64 (ofE l)]) ∧ St w NoX [io .i64 (v) (ofT l)] w' := by
  refine calls_in 47 Try.func36 rfl rfl (by simp) (fun A0 hsz0 hdf0 hargs => ?_)
  have l0_0 := hargs 0 (rv) rfl
  clear hargs; replace hsz0 : SzN A0 47 := ⟨hsz0⟩
  have hS := St.nil w
  have bh_rv := SlN.le (sl_SlN h_rv.at)
  refine wp_seq_k (fun K1 hK1 => ?_)
  refine region_in ?_
  refine W_allocS (z := .agg #[.slice none 0 0]) (zs := #[.slice none 0 0]) hS rfl rfl rfl (by kernel_rfl) (by rfl) (fun g2 w2 c2 hc2 hS2 => ?_)
  replace hS2 : St w NoX [c2] w2 := hS2
  refine W_v rfl rfl (V_asg rfl rfl) ?_
  refine W_end ?_
  refine gen_Q (fun A3 hA3 => ?_)
  have hsz3 := szq hA3
  have hdf3 : A3.defers = [] := by rw [hA3]; simp only [df_put]; exact hdf0
  have l0_3 := lookE hA3 0 (es rfl (es rfl l0_0))
  have l2_3 := lookE hA3 2 (es rfl (et rfl))
  clear hA3 hsz0 hdf0 l0_0
  refine then_n (hK1 _ _ ?_)
  clear hK1
  refine wp_seq_k (fun K4 hK4 => ?_)
  refine wp_seq_k (fun K5 hK5 => ?_)
  refine region_in ?_
  refine W_v rfl rfl (V_mov rfl l0_3) ?_
  refine W_v rfl rfl (V_lenS rfl (et rfl) (sl_SlN h_rv.at) Try.underlying23) ?_
  refine W_v rfl rfl (V_gtr rfl (et rfl) rfl) ?_
  refine W_end ?_
  refine gen_Q (fun A6 hA6 => ?_)
  have hsz6 := szq hA6
  have hdf6 : A6.defers = [] := by rw [hA6]; simp only [df_put]; exact hdf3
  have l0_6 := lookE hA6 0 (e2 rfl (es rfl l0_3))
  have l2_6 := lookE hA6 2 (e2 rfl (es rfl l2_3))
  have l9_6 := lookE hA6 9 (et rfl)
  clear hA6 hsz3 hdf3 l0_3 l2_3
  refine then_n (hK5 _ _ ?_)
  clear hK5
  refine cond_dec l9_6 (fun c7 => ?_) (fun c7 => ?_)
  · skip
    refine wp_seq_k (fun K8 hK8 => ?_)
    refine region_in ?_
    refine W_v rfl rfl (V_bldS (n := 1) (z := .agg #[.slice none 0 0]) rfl (parts0) (by kernel_rfl) (by simp only [List.all_cons, List.all_nil, Bool.and_true] <;> rfl) (by kernel_rfl) (by simp only [List.foldl_cons, List.foldl_nil, Value.cells, List.setIfInBounds_toArray, List.set_cons_succ, List.set_cons_zero] <;> rfl)) ?_
    refine W_stAS 0 hS2 rfl hc2 rfl rfl rfl (es rfl l2_6) (et rfl) (by first | (rw [List.all_toArray] <;> rfl) | (simp only [List.all_toArray, List.all_cons, List.all_nil] <;> rfl)) (by rfl) (by kernel_rfl) (fun w9 c9 hc9 hS9 => ?_)
    replace hS9 : St w NoX [c9] w9 := hS9
    refine W_v rfl rfl (V_asg rfl rfl) ?_
    refine W_end ?_
    refine gen_Q (fun A10 hA10 => ?_)
    have hsz10 := szq hA10
    have hdf10 : A10.defers = [] := by rw [hA10]; simp only [df_put]; exact hdf6
    have l2_10 := lookE hA10 2 (es rfl (es rfl l2_6))
    have l3_10 := lookE hA10 3 (et rfl)
    clear hA10 hsz6 hdf6 l0_6 l2_6 l9_6
    refine then_n (hK8 _ _ ?_)
    clear hK8
    refine wp_ret ?_
    refine then_ret ?_
    refine ret_in (results_2 Try.results36 (rv_cellA l2_10 (hS9.obj 0 rfl hc9) Try.underlying25 rfl (by kernel_rfl)) (rv_tmp l3_10)) hdf10 ?_
    -- leaf T
    obtain ⟨c11, hc11, hS11⟩ := hS9.pnil (s := 1)
    have h : ofE l = 3 := of_long (by omega)
    have h2 : ofT l = [] := by unfold ofT; rw [if_pos (by rw [h]; decide)]
    rw [h]
    exact ⟨_, rfl, (hS11.fin1 0 rfl (hc11.trans (by rw [h2] <;> rfl)))⟩
  · skip
    refine wp_skip ?_
    refine then_n (hK4 _ _ ?_)
    clear hK4
    refine wp_seq_k (fun K12 hK12 => ?_)
    refine wp_seq_k (fun K13 hK13 => ?_)
    refine region_in ?_
    refine W_v rfl rfl (V_asg rfl rfl) ?_
    refine W_end ?_
    refine gen_Q (fun A14 hA14 => ?_)
    have hsz14 := szq hA14
    have hdf14 : A14.defers = [] := by rw [hA14]; simp only [df_put]; exact hdf6
    have l0_14 := lookE hA14 0 (es rfl l0_6)
    have l2_14 := lookE hA14 2 (es rfl l2_6)
    have l4_14 := lookE hA14 4 (et rfl)
    clear hA14 hsz6 hdf6 l0_6 l2_6 l9_6
    refine then_n (hK13 _ _ ?_)
    clear hK13
    refine wp_block ?_
    -- loop 4
    refine loopX (fun mz A' w' => SzN A' 47 ∧ A'.defers = [] ∧ (∃ (k : Nat), (mz = l.length - k) ∧ (k ≤ l.length) ∧ (∀ i, i < k → ∀ x, l[i]? = some x → (fun a => !decide (1 ≤ a ∧ a ≤ 1600)) x = false) ∧ (EV A' (.tmp 4) = .int .i64 (k : Int)) ∧ (EV A' (.tmp 0) = EV A14 (.tmp 0)) ∧ (EV A' (.tmp 2) = EV A14 (.tmp 2)) ∧ (St w NoX [bx g2 25 #[.slice none 0 0]] w'))) (l.length - 0) ⟨hsz14, hdf14, 0, rfl, (by omega), (fun i hi => by omega), ((l4_14).trans (by first | rfl | (simp; done) | (congr 1; omega))), rfl, rfl, (by subst hc2; exact hS2)⟩ ?_
    clear hS2 hc2
    rintro n15 A15 w15 ⟨hsz15, hdf15, k, hm15, hk, hz, l4_15, u0_15, u2_15, hS15⟩
    have l0_15 := u0_15.trans l0_14
    have l2_15 := u2_15.trans l2_14
    obtain ⟨c2_15, hc2_15, hS15⟩ := gen1 hS15
    refine wp_seq_k (fun K16 hK16 => ?_)
    refine wp_seq_k (fun K17 hK17 => ?_)
    refine region_in ?_
    refine W_v rfl rfl (V_mov rfl l4_15) ?_
    refine W_v rfl rfl (V_mov rfl (es rfl l0_15)) ?_
    refine W_v rfl rfl (V_lenS rfl (et rfl) (sl_SlN h_rv.at) Try.underlying23) ?_
    refine W_v rfl rfl (V_lss rfl (e2 rfl (et rfl)) (et rfl)) ?_
    refine W_end ?_
    refine gen_Q (fun A18 hA18 => ?_)
    have hsz18 := szq hA18
    have hdf18 : A18.defers = [] := by rw [hA18]; simp only [df_put]; exact hdf15
    have l0_18 := lookE hA18 0 (e3 rfl (es rfl l0_15))
    have l2_18 := lookE hA18 2 (e3 rfl (es rfl l2_15))
    have l4_18 := lookE hA18 4 (e3 rfl (es rfl l4_15))
    have l14_18 := lookE hA18 14 (et rfl)
    clear hA18 hsz15 hdf15 l4_15 l0_15 l2_15
    refine then_n (hK17 _ _ ?_)
    clear hK17
    refine cond_dec l14_18 (fun c19 => ?_) (fun c19 => ?_)
    · skip
      refine wp_skip ?_
      refine then_n (hK16 _ _ ?_)
      clear hK16
      refine wp_seq_k (fun K20 hK20 => ?_)
      refine wp_block ?_
      refine wp_seq_k (fun K21 hK21 => ?_)
      refine region_in ?_
      refine W_v rfl rfl (V_mov rfl l0_18) ?_
      refine W_v rfl rfl (V_mov rfl (es rfl l4_18)) ?_
      have k22 : k < l.length := by first | omega | (simp only [List.length_cons, List.length_nil]; omega) | (simp only [List.length_set]; omega) | decide
      obtain ⟨y22, hy22⟩ := get_some (xs := l) (k := k) k22
      obtain ⟨B22, O22, C22, hv22⟩ := (SlN.blk (sl_SlN h_rv.at) (by first | omega | (simp only [List.length_cons, List.length_nil]; omega) | (simp only [List.length_set]; omega) | decide))
      refine W_v rfl rfl (V_ixS (off := O22 + k) 1 (k) rfl (es rfl (et rfl)) (et rfl) hv22 (by omega) k22 Try.underlying23 (by kernel_rfl) (congrArg _ (Nat.mul_one _))) ?_
      refine W_r rfl rfl (VR_ldC rfl (et rfl) ((sl_SlN (hS15.ro h_rv)).cell hv22 (map_get hy22)) Try.underlying3 rfl) ?_
      refine W_call rfl rfl rfl Try.func54 (by kernel_rfl) rfl (args1 (et rfl)) (qadr_c (a := y22)  ) ?_
      rintro _ w23 ⟨rfl, hP23⟩
      refine ⟨_, rfl, ?_⟩
      have hS23 := hS15.join hP23
      replace hS23 : St w NoX [c2_15] w23 := hS23
      refine W_v rfl rfl (V_notd rfl (et rfl)) ?_
      refine W_end ?_
      refine gen_Q (fun A24 hA24 => ?_)
      have hsz24 := szq hA24
      have hdf24 : A24.defers = [] := by rw [hA24]; simp only [df_put]; exact hdf18
      have l0_24 := lookE hA24 0 (e5 rfl (es rfl l0_18))
      have l2_24 := lookE hA24 2 (e5 rfl (es rfl l2_18))
      have l4_24 := lookE hA24 4 (e5 rfl (es rfl l4_18))
      have l22_24 := lookE hA24 22 (et rfl)
      clear hA24 hsz18 hdf18 l0_18 l2_18 l4_18 l14_18
      refine then_n (hK21 _ _ ?_)
      clear hK21
      refine cond_dec l22_24 (fun c25 => ?_) (fun c25 => ?_)
      · skip
        refine wp_seq_k (fun K26 hK26 => ?_)
        refine region_in ?_
        refine W_v rfl rfl (V_bldS (n := 1) (z := .agg #[.slice none 0 0]) rfl (parts0) (by kernel_rfl) (by simp only [List.all_cons, List.all_nil, Bool.and_true] <;> rfl) (by kernel_rfl) (by simp only [List.foldl_cons, List.foldl_nil, Value.cells, List.setIfInBounds_toArray, List.set_cons_succ, List.set_cons_zero] <;> rfl)) ?_
        refine W_stAS 0 hS23 rfl hc2_15 rfl rfl rfl (es rfl l2_24) (et rfl) (by first | (rw [List.all_toArray] <;> rfl) | (simp only [List.all_toArray, List.all_cons, List.all_nil] <;> rfl)) (by rfl) (by kernel_rfl) (fun w27 c27 hc27 hS27 => ?_)
        replace hS27 : St w NoX [c27] w27 := hS27
        refine W_v rfl rfl (V_asg rfl rfl) ?_
        refine W_end ?_
        refine gen_Q (fun A28 hA28 => ?_)
        have hsz28 := szq hA28
        have hdf28 : A28.defers = [] := by rw [hA28]; simp only [df_put]; exact hdf24
        have l2_28 := lookE hA28 2 (es rfl (es rfl l2_24))
        have l3_28 := lookE hA28 3 (et rfl)
        clear hA28 hsz24 hdf24 l0_24 l2_24 l4_24 l22_24
        refine then_n (hK26 _ _ ?_)
        clear hK26
        refine wp_ret ?_
        refine inb_ret ?_
        refine then_ret ?_
        refine then_ret ?_
        refine inb_ret ?_
        refine then_ret ?_
        refine ret_in (results_2 Try.results36 (rv_cellA l2_28 (hS27.obj 0 rfl hc27) Try.underlying25 rfl (by kernel_rfl)) (rv_tmp l3_28)) hdf28 ?_
        -- leaf FTT
        obtain ⟨c29, hc29, hS29⟩ := hS27.pnil (s := 1)
        have h : ofE l = 7 := of_rng (by omega) (by rw [idxF_at hz hy22 (show (fun a => !decide (1 ≤ a ∧ a ≤ 1600)) y22 = true by have hc := c25; first | simpa using hc | (simp at hc ⊢; omega))]; omega)
        have h2 : ofT l = [] := by unfold ofT; rw [if_pos (by rw [h]; decide)]
        rw [h]
        exact ⟨_, rfl, (hS29.fin1 0 rfl (hc29.trans (by rw [h2] <;> rfl)))⟩
      · skip
        refine wp_skip ?_
        refine inb_n ?_
        refine then_n (hK20 _ _ ?_)
        clear hK20
        refine region_in ?_
        refine W_v rfl rfl (V_mov rfl l4_24) ?_
        refine W_v rfl rfl (V_add rfl (et rfl) rfl (by omega) (by omega)) ?_
        refine W_v rfl rfl (V_asg rfl (et rfl)) ?_
        refine W_end ?_
        refine gen_Q (fun A30 hA30 => ?_)
        have hsz30 := szq hA30
        have hdf30 : A30.defers = [] := by rw [hA30]; simp only [df_put]; exact hdf24
        have l0_30 := lookE hA30 0 (e2 rfl (es rfl l0_24))
        have l2_30 := lookE hA30 2 (e2 rfl (es rfl l2_24))
        have l4_30 := lookE hA30 4 (et rfl)
        clear hA30 hsz24 hdf24 l0_24 l2_24 l4_24 l22_24
        refine then_n ⟨l.length - (k + 1), by simp only [hm15]; omega, hsz30, hdf30, (k + 1), rfl, (by omega), (no_step hz hy22 (show (fun a => !decide (1 ≤ a ∧ a ≤ 1600)) y22 = false by have hc := c25; simpa using hc)), ((l4_30).trans (by first | rfl | (simp; done) | (congr 1; omega))), ((l0_30).trans l0_14.symm), ((l2_30).trans l2_14.symm), (by subst hc2_15; exact hS23)⟩
    · skip
      have hix : idxF (fun a => !decide (1 ≤ a ∧ a ≤ 1600)) l = -1 := idxF_no (fun i hi x hx => hz i (by omega) x hx)
      have hlr := idxO (l := l) (by rw [hix]; omega)
      refine wp_exit ?_
      refine then_exit ?_
      refine then_exit ?_
      refine inb_hit ?_
      refine then_n (hK12 _ _ ?_)
      clear hK12
      refine wp_seq_k (fun K31 hK31 => ?_)
      refine region_in ?_
      refine W_call rfl rfl rfl Try.func55 (by kernel_rfl) rfl (args0) (qnew_c  ) ?_
      rintro _ w32 ⟨v_32, rfl, hP32⟩
      refine ⟨_, rfl, ?_⟩
      obtain ⟨c_32, hc_32, hP32⟩ := gen1 hP32
      have hS32 := hS15.join hP32
      replace hS32 : St w NoX [c_32, c2_15] w32 := hS32
      refine W_v rfl rfl (V_fld (v := v_32) rfl (et rfl) Try.underlying25 rfl Try.underlying23 rfl rfl) ?_
      refine W_v rfl rfl (V_asg rfl (et rfl)) ?_
      refine W_end ?_
      refine gen_Q (fun A33 hA33 => ?_)
      have hsz33 := szq hA33
      have hdf33 : A33.defers = [] := by rw [hA33]; simp only [df_put]; exact hdf18
      have l0_33 := lookE hA33 0 (e2 rfl (es rfl l0_18))
      have l2_33 := lookE hA33 2 (e2 rfl (es rfl l2_18))
      have l5_33 := lookE hA33 5 (et rfl)
      clear hA33 hsz18 hdf18 l0_18 l2_18 l4_18 l14_18
      refine then_n (hK31 _ _ ?_)
      clear hK31
      refine wp_seq_k (fun K34 hK34 => ?_)
      refine wp_seq_k (fun K35 hK35 => ?_)
      refine region_in ?_
      refine W_v rfl rfl (V_asg rfl rfl) ?_
      refine W_end ?_
      refine gen_Q (fun A36 hA36 => ?_)
      have hsz36 := szq hA36
      have hdf36 : A36.defers = [] := by rw [hA36]; simp only [df_put]; exact hdf33
      have l0_36 := lookE hA36 0 (es rfl l0_33)
      have l2_36 := lookE hA36 2 (es rfl l2_33)
      have l5_36 := lookE hA36 5 (es rfl l5_33)
      have l6_36 := lookE hA36 6 (et rfl)
      clear hA36 hsz33 hdf33 l0_33 l2_33 l5_33
      refine then_n (hK35 _ _ ?_)
      clear hK35
      refine wp_block ?_
      -- loop 10
      have haG := allT_part (c := (List.replicate 8 (0 : Int))) (l := l) gd_new hlr
      refine loopX (fun mz A' w' => SzN A' 47 ∧ A'.defers = [] ∧ (∃ (k2 : Nat) (bv : Value), (mz = l.length - k2) ∧ (k2 ≤ l.length) ∧ (Gd (allT (List.replicate 8 (0 : Int)) (l.take k2))) ∧ (EV A' (.tmp 6) = .int .i64 (k2 : Int)) ∧ (EV A' (.tmp 5) = bv) ∧ (EV A' (.tmp 0) = EV A36 (.tmp 0)) ∧ (EV A' (.tmp 2) = EV A36 (.tmp 2)) ∧ (St w NoX [io .i64 bv (allT (List.replicate 8 (0 : Int)) (l.take k2)), bx g2 25 #[.slice none 0 0]] w'))) (l.length - 0) ⟨hsz36, hdf36, 0, v_32, rfl, (by omega), (haG 0), ((l6_36).trans (by first | rfl | (simp; done) | (congr 1; omega))), ((l5_36).trans (by first | rfl | (simp; done) | (congr 1; omega))), rfl, rfl, (by have q0 : c_32 = io .i64 v_32 (allT (List.replicate 8 (0 : Int)) (l.take 0)) := hc_32.trans (rfl); have q1 := hc2_15; subst q0 q1; exact hS32)⟩ ?_
      clear hS32 hc_32 hc2_15
      rintro n37 A37 w37 ⟨hsz37, hdf37, k2, bv, hm37, hk2, hG2, l6_37, l5_37, u0_37, u2_37, hS37⟩
      have l0_37 := u0_37.trans l0_36
      have l2_37 := u2_37.trans l2_36
      obtain ⟨c_37, c2_37, hc_37, hc2_37, hS37⟩ := gen2 hS37
      refine wp_seq_k (fun K38 hK38 => ?_)
      refine wp_seq_k (fun K39 hK39 => ?_)
      refine region_in ?_
      refine W_v rfl rfl (V_mov rfl l6_37) ?_
      refine W_v rfl rfl (V_mov rfl (es rfl l0_37)) ?_
      refine W_v rfl rfl (V_lenS rfl (et rfl) (sl_SlN h_rv.at) Try.underlying23) ?_
      refine W_v rfl rfl (V_lss rfl (e2 rfl (et rfl)) (et rfl)) ?_
      refine W_end ?_
      refine gen_Q (fun A40 hA40 => ?_)
      have hsz40 := szq hA40
      have hdf40 : A40.defers = [] := by rw [hA40]; simp only [df_put]; exact hdf37
      have l0_40 := lookE hA40 0 (e3 rfl (es rfl l0_37))
      have l2_40 := lookE hA40 2 (e3 rfl (es rfl l2_37))
      have l5_40 := lookE hA40 5 (e3 rfl (es rfl l5_37))
      have l6_40 := lookE hA40 6 (e3 rfl (es rfl l6_37))
      have l29_40 := lookE hA40 29 (et rfl)
      clear hA40 hsz37 hdf37 l6_37 l5_37 l0_37 l2_37
      refine then_n (hK39 _ _ ?_)
      clear hK39
      refine cond_dec l29_40 (fun c41 => ?_) (fun c41 => ?_)
      · skip
        refine wp_skip ?_
        refine then_n (hK38 _ _ ?_)
        clear hK38
        refine wp_seq_k (fun K42 hK42 => ?_)
        refine wp_block ?_
        refine wp_seq_k (fun K43 hK43 => ?_)
        refine region_in ?_
        refine W_v rfl rfl (V_mov rfl l5_40) ?_
        refine W_v rfl rfl (V_mov rfl (es rfl l0_40)) ?_
        refine W_v rfl rfl (V_mov rfl (es rfl (es rfl l6_40))) ?_
        have k44 : k2 < l.length := by first | omega | (simp only [List.length_cons, List.length_nil]; omega) | (simp only [List.length_set]; omega) | decide
        obtain ⟨y44, hy44⟩ := get_some (xs := l) (k := k2) k44
        have hry44 := hlr y44 (List.mem_of_getElem? hy44)
        have hpb2 := hG2.bd
        obtain ⟨B44, O44, C44, hv44⟩ := (SlN.blk (sl_SlN h_rv.at) (by first | omega | (simp only [List.length_cons, List.length_nil]; omega) | (simp only [List.length_set]; omega) | decide))
        refine W_v rfl rfl (V_ixS (off := O44 + k2) 1 (k2) rfl (es rfl (et rfl)) (et rfl) hv44 (by omega) k44 Try.underlying23 (by kernel_rfl) (congrArg _ (Nat.mul_one _))) ?_
        refine W_r rfl rfl (VR_ldC rfl (et rfl) ((sl_SlN (hS37.ro h_rv)).cell hv44 (map_get hy44)) Try.underlying3 rfl) ?_
        refine W_call rfl rfl rfl Try.func56 (by kernel_rfl) rfl (args2 (e4 rfl (et rfl)) (et rfl)) (qfind_c (a := y44) (hS37.chC 0 rfl hc_37).own (by first | with_reducible assumption | with_reducible exact hG.p2 | with_reducible exact hG2.p2 | (rw [hbl]; exact n1) | (simp only [List.length_set, List.length_replicate] <;> assumption)) (by first | omega | with_reducible assumption) (by first | omega | with_reducible assumption)) ?_
        rintro _ w45 ⟨rfl, hP45⟩
        refine ⟨_, rfl, ?_⟩
        have hS45 := hS37.join hP45
        replace hS45 : St w NoX [c_37, c2_37] w45 := hS45
        refine W_v rfl rfl (V_lss rfl (et rfl) rfl) ?_
        refine W_end ?_
        refine gen_Q (fun A46 hA46 => ?_)
        have hsz46 := szq hA46
        have hdf46 : A46.defers = [] := by rw [hA46]; simp only [df_put]; exact hdf40
        have l0_46 := lookE hA46 0 (e6 rfl (es rfl l0_40))
        have l2_46 := lookE hA46 2 (e6 rfl (es rfl l2_40))
        have l5_46 := lookE hA46 5 (e6 rfl (es rfl l5_40))
        have l6_46 := lookE hA46 6 (e6 rfl (es rfl l6_40))
        have l38_46 := lookE hA46 38 (et rfl)
        clear hA46 hsz40 hdf40 l0_40 l2_40 l5_40 l6_40 l29_40
        refine then_n (hK43 _ _ ?_)
        clear hK43
        refine cond_dec l38_46 (fun c47 => ?_) (fun c47 => ?_)
        · skip
          refine region_in ?_
          refine W_v rfl rfl (V_mov rfl l5_46) ?_
          refine W_v rfl rfl (V_mov rfl (es rfl l0_46)) ?_
          refine W_v rfl rfl (V_mov rfl (es rfl (es rfl l6_46))) ?_
          refine W_v rfl rfl (V_ixS (off := O44 + k2) 1 (k2) rfl (es rfl (et rfl)) (et rfl) hv44 (by omega) k44 Try.underlying23 (by kernel_rfl) (congrArg _ (Nat.mul_one _))) ?_
          refine W_r rfl rfl (VR_ldC rfl (et rfl) ((sl_SlN (hS45.ro h_rv)).cell hv44 (map_get hy44)) Try.underlying3 rfl) ?_
          refine W_call rfl rfl rfl Try.func57 (by kernel_rfl) rfl (args2 (e4 rfl (et rfl)) (et rfl)) (qadd_c (a := y44) (hS45.chC 0 rfl hc_37).own (by first | with_reducible assumption | with_reducible exact gd_new) (by first | omega | with_reducible assumption) (by first | with_reducible assumption | exact fnd_not (by assumption) (by omega) (by omega))) ?_
          rintro _ w49 ⟨v_49, rfl, hP49⟩
          refine ⟨_, rfl, ?_⟩
          obtain ⟨c_49, hc_49, hP49⟩ := gen1 hP49
          have hS49 := hS45.join hP49
          replace hS49 : St w NoX [c_49, c_37, c2_37] w49 := hS49
          refine W_v rfl rfl (V_asg rfl (et rfl)) ?_
          refine W_end ?_
          refine gen_Q (fun A50 hA50 => ?_)
          have hsz50 := szq hA50
          have hdf50 : A50.defers = [] := by rw [hA50]; simp only [df_put]; exact hdf46
          have l0_50 := lookE hA50 0 (e6 rfl (es rfl l0_46))
          have l2_50 := lookE hA50 2 (e6 rfl (es rfl l2_46))
          have l5_50 := lookE hA50 5 (et rfl)
          have l6_50 := lookE hA50 6 (e6 rfl (es rfl l6_46))
          clear hA50 hsz46 hdf46 l0_46 l2_46 l5_46 l6_46 l38_46
          have hS51 : St w NoX [c_49, c2_37] w49 := hS49.sel [0, 2] (by decide) rfl
          refine inb_n ?_
          refine then_n (hK42 _ _ ?_)
          clear hK42
          refine region_in ?_
          refine W_v rfl rfl (V_mov rfl l6_50) ?_
          refine W_v rfl rfl (V_add rfl (et rfl) rfl (by omega) (by omega)) ?_
          refine W_v rfl rfl (V_asg rfl (et rfl)) ?_
          refine W_end ?_
          refine gen_Q (fun A52 hA52 => ?_)
          have hsz52 := szq hA52
          have hdf52 : A52.defers = [] := by rw [hA52]; simp only [df_put]; exact hdf50
          have l0_52 := lookE hA52 0 (e2 rfl (es rfl l0_50))
          have l2_52 := lookE hA52 2 (e2 rfl (es rfl l2_50))
          have l5_52 := lookE hA52 5 (e2 rfl (es rfl l5_50))
          have l6_52 := lookE hA52 6 (et rfl)
          clear hA52 hsz50 hdf50 l0_50 l2_50 l5_50 l6_50
          refine then_n ⟨l.length - (k2 + 1), by simp only [hm37]; omega, hsz52, hdf52, (k2 + 1), v_49, rfl, (by omega), (haG _), ((l6_52).trans (by first | rfl | (simp; done) | (congr 1; omega))), ((l5_52).trans (by first | rfl | (simp; done) | (congr 1; omega))), ((l0_52).trans l0_36.symm), ((l2_52).trans l2_36.symm), (by have q0 : c_49 = io .i64 v_49 (allT (List.replicate 8 (0 : Int)) (l.take (k2 + 1))) := hc_49.trans ((congrArg (io .i64 _) (allT_in hy44 c47))); have q1 := hc2_37; subst q0 q1; exact hS51)⟩
        · skip
          refine wp_skip ?_
          refine inb_n ?_
          refine then_n (hK42 _ _ ?_)
          clear hK42
          refine region_in ?_
          refine W_v rfl rfl (V_mov rfl l6_46) ?_
          refine W_v rfl rfl (V_add rfl (et rfl) rfl (by omega) (by omega)) ?_
          refine W_v rfl rfl (V_asg rfl (et rfl)) ?_
          refine W_end ?_
          refine gen_Q (fun A53 hA53 => ?_)
          have hsz53 := szq hA53
          have hdf53 : A53.defers = [] := by rw [hA53]; simp only [df_put]; exact hdf46
          have l0_53 := lookE hA53 0 (e2 rfl (es rfl l0_46))
          have l2_53 := lookE hA53 2 (e2 rfl (es rfl l2_46))
          have l5_53 := lookE hA53 5 (e2 rfl (es rfl l5_46))
          have l6_53 := lookE hA53 6 (et rfl)
          clear hA53 hsz46 hdf46 l0_46 l2_46 l5_46 l6_46 l38_46
          refine then_n ⟨l.length - (k2 + 1), by simp only [hm37]; omega, hsz53, hdf53, (k2 + 1), bv, rfl, (by omega), (haG _), ((l6_53).trans (by first | rfl | (simp; done) | (congr 1; omega))), ((l5_53).trans (by first | rfl | (simp; done) | (congr 1; omega))), ((l0_53).trans l0_36.symm), ((l2_53).trans l2_36.symm), (by have q0 : c_37 = io .i64 bv (allT (List.replicate 8 (0 : Int)) (l.take (k2 + 1))) := hc_37.trans ((congrArg (io .i64 _) (allT_out hy44 c47))); have q1 := hc2_37; subst q0 q1; exact hS45)⟩
      · skip
        refine wp_exit ?_
        refine then_exit ?_
        refine then_exit ?_
        refine inb_hit ?_
        refine then_n (hK34 _ _ ?_)
        clear hK34
        refine wp_seq_k (fun K54 hK54 => ?_)
        refine region_in ?_
        refine W_v rfl rfl (V_mov rfl l5_40) ?_
        refine W_v rfl rfl (V_bldS (n := 1) (z := .agg #[.slice none 0 0]) rfl (parts1 (et rfl)) (by kernel_rfl) (by simp only [List.all_cons, List.all_nil, SlN_one (ow_at (hS37.chq 0 rfl hc_37)), Bool.and_true] <;> rfl) (by kernel_rfl) (by simp only [List.foldl_cons, List.foldl_nil, Value.cells, List.setIfInBounds_toArray, List.set_cons_succ, List.set_cons_zero] <;> rfl)) ?_
        refine W_stAS 1 hS37 rfl hc2_37 rfl rfl rfl (es rfl (es rfl l2_40)) (et rfl) (by simp only [List.all_toArray, List.all_cons, List.all_nil, SlN_one (ow_at (hS37.chq 0 rfl hc_37))] <;> rfl) (by rfl) (by kernel_rfl) (fun w55 c55 hc55 hS55 => ?_)
        replace hS55 : St w NoX [c_37, c55] w55 := hS55
        refine W_v rfl rfl (V_asg rfl rfl) ?_
        refine W_end ?_
        refine gen_Q (fun A56 hA56 => ?_)
        have hsz56 := szq hA56
        have hdf56 : A56.defers = [] := by rw [hA56]; simp only [df_put]; exact hdf40
        have l2_56 := lookE hA56 2 (e2 rfl (es rfl l2_40))
        have l3_56 := lookE hA56 3 (et rfl)
        clear hA56 hsz40 hdf40 l0_40 l2_40 l5_40 l6_40 l29_40
        refine then_n (hK54 _ _ ?_)
        clear hK54
        refine wp_ret ?_
        refine ret_in (results_2 Try.results36 (rv_cellA l2_56 (hS55.obj 1 rfl hc55) Try.underlying25 rfl (by kernel_rfl)) (rv_tmp l3_56)) hdf56 ?_
        -- leaf FFF
        have h : ofE l = 0 := of_ok (by omega) (by rw [hix]; omega)
        rw [h]
        exact ⟨_, rfl, (hS55.fin1 0 rfl (hc_37.trans (congrArg (io .i64 _) (by unfold ofT; rw [if_neg (by rw [h]; decide), List.take_of_length_le (by omega)]))))⟩

end Go.Proofs.Ytnfgeekaeegolaa