import Derived.Test.YtnfgeekaeegolaaProg
import Derived.Test.YtnfgeekaeegolaaRd2
import Derived.Test.YtnfgeekaeegolaaPl9g
namespace Go.Proofs.Ytnfgeekaeegolaa
open Go.RowKit Go.Own Go.Own.R Go.Own.S Go.Own.F


set_option maxHeartbeats 4000000 in
theorem kck_c {vv : Value} {us : List RS} {w : World} (h_vv : Ro w NoX (sl 1 us.length vv (us.map fun y : RS => y.1))) (n_vv : Ro w NoX (nsr us))  :
    Calls Try.prog 44 #[vv] w fun e w' => e = .returned (.int .i64 (ckN (us.map (·.2)))) ∧ St w NoX [] w' := by
  refine calls_in 22 Try.func44 rfl rfl (by simp) (fun A0 hsz0 hdf0 hargs => ?_)
  have l0_0 := hargs 0 (vv) rfl
  clear hargs; replace hsz0 : SzN A0 22 := ⟨hsz0⟩
  have hS := St.nil w
  have bh_vv := SlN.le (sl_SlN h_vv.at)
  refine wp_seq_k (fun K1 hK1 => ?_)
  refine region_in ?_
  refine W_v rfl rfl (V_asg rfl rfl) ?_
  refine W_end ?_
  refine gen_Q (fun A2 hA2 => ?_)
  have hsz2 := szq hA2
  have hdf2 : A2.defers = [] := by rw [hA2]; simp only [df_put]; exact hdf0
  have l0_2 := lookE hA2 0 (es rfl l0_0)
  clear hA2 hsz0 hdf0 l0_0
  refine then_n (hK1 _ _ ?_)
  clear hK1
  refine wp_seq_k (fun K3 hK3 => ?_)
  refine wp_seq_k (fun K4 hK4 => ?_)
  refine region_in ?_
  refine W_v rfl rfl (V_mov rfl l0_2) ?_
  refine W_v rfl rfl (V_lenS rfl (et rfl) (sl_SlN h_vv.at) Try.underlying88) ?_
  refine W_v rfl rfl (V_mov rfl rfl) ?_
  refine W_end ?_
  refine gen_Q (fun A5 hA5 => ?_)
  have hsz5 := szq hA5
  have hdf5 : A5.defers = [] := by rw [hA5]; simp only [df_put]; exact hdf2
  have l7_5 := lookE hA5 7 (e2 rfl (et rfl))
  have l8_5 := lookE hA5 8 (es rfl (et rfl))
  have l9_5 := lookE hA5 9 (et rfl)
  clear hA5 hsz2 hdf2 l0_2
  refine then_n (hK4 _ _ ?_)
  clear hK4
  refine wp_block ?_
  -- loop 2
  refine loopX (fun mz A' w' => SzN A' 22 ∧ A'.defers = [] ∧ (∃ (k : Nat), (mz = us.length - k) ∧ (k ≤ us.length) ∧ (ckN (us.map (·.2)) = ckN ((us.map (·.2)).drop k)) ∧ (EV A' (.tmp 9) = .int .i64 (k : Int)) ∧ (EV A' (.tmp 7) = EV A5 (.tmp 7)) ∧ (EV A' (.tmp 8) = EV A5 (.tmp 8)) ∧ (St w NoX [] w'))) (us.length - 0) ⟨hsz5, hdf5, 0, rfl, (by omega), rfl, ((l9_5).trans (by first | rfl | (simp; done) | (congr 1; omega))), rfl, rfl, hS⟩ ?_
  clear hS
  rintro n6 A6 w6 ⟨hsz6, hdf6, k, hm6, hk, hz, l9_6, u7_6, u8_6, hS6⟩
  have l7_6 := u7_6.trans l7_5
  have l8_6 := u8_6.trans l8_5
  refine wp_seq_k (fun K7 hK7 => ?_)
  refine region_in ?_
  refine W_v rfl rfl (V_lss rfl l9_6 l8_6) ?_
  refine W_end ?_
  refine gen_Q (fun A8 hA8 => ?_)
  have hsz8 := szq hA8
  have hdf8 : A8.defers = [] := by rw [hA8]; simp only [df_put]; exact hdf6
  have l7_8 := lookE hA8 7 (es rfl l7_6)
  have l8_8 := lookE hA8 8 (es rfl l8_6)
  have l9_8 := lookE hA8 9 (es rfl l9_6)
  have l10_8 := lookE hA8 10 (et rfl)
  clear hA8 hsz6 hdf6 l9_6 l7_6 l8_6
  refine then_n (hK7 _ _ ?_)
  clear hK7
  refine wp_seq_k (fun K9 hK9 => ?_)
  refine cond_dec l10_8 (fun c10 => ?_) (fun c10 => ?_)
  · skip
    refine wp_skip ?_
    refine then_n (hK9 _ _ ?_)
    clear hK9
    refine wp_seq_k (fun K11 hK11 => ?_)
    refine wp_block ?_
    refine wp_seq_k (fun K12 hK12 => ?_)
    refine region_in ?_
    have k13 : k < us.length := by first | omega | (simp only [List.length_cons, List.length_nil]; omega) | (simp only [List.length_set]; omega) | decide
    obtain ⟨y13, hy13⟩ := get_some (xs := us) (k := k) k13
    have fr_y13 := nsr_ro n_vv hy13
    obtain ⟨B13, O13, C13, hv13⟩ := (SlN.blk (sl_SlN h_vv.at) (by first | omega | (simp only [List.length_cons, List.length_nil]; omega) | (simp only [List.length_set]; omega) | decide))
    refine W_v rfl rfl (V_ixS (off := O13 + k) 1 (k) rfl l7_8 l9_8 hv13 (by omega) k13 Try.underlying88 (by kernel_rfl) (congrArg _ (Nat.mul_one _))) ?_
    refine W_r rfl rfl (VR_ldC rfl (et rfl) ((sl_SlN (hS6.ro h_vv)).cell hv13 (map_get hy13)) Try.underlying28 rfl) ?_
    refine W_v rfl rfl (V_asg rfl (et rfl)) ?_
    refine W_end ?_
    refine gen_Q (fun A14 hA14 => ?_)
    have hsz14 := szq hA14
    have hdf14 : A14.defers = [] := by rw [hA14]; simp only [df_put]; exact hdf8
    have l4_14 := lookE hA14 4 (et rfl)
    have l7_14 := lookE hA14 7 (e2 rfl (es rfl l7_8))
    have l8_14 := lookE hA14 8 (e2 rfl (es rfl l8_8))
    have l9_14 := lookE hA14 9 (e2 rfl (es rfl l9_8))
    clear hA14 hsz8 hdf8 l7_8 l8_8 l9_8 l10_8
    refine then_n (hK12 _ _ ?_)
    clear hK12
    refine wp_seq_k (fun K15 hK15 => ?_)
    refine region_in ?_
    refine W_v rfl rfl (V_mov rfl l4_14) ?_
    refine W_call rfl rfl rfl Try.func27 (by kernel_rfl) rfl (args1 (et rfl)) (kCk9_c (hS6.roC fr_y13) ) ?_
    rintro _ w16 ⟨rfl, hP16⟩
    refine ⟨_, rfl, ?_⟩
    have hS16 := hS6.join hP16
    replace hS16 : St w NoX [] w16 := hS16
    refine W_v rfl rfl (V_mov rfl (et rfl)) ?_
    refine W_v rfl rfl (V_ext (v := .int .i64 ((ckL y13.2).1)) rfl (et rfl) rfl) ?_
    refine W_v rfl rfl (V_ext (v := .int .i64 ((ckL y13.2).2)) rfl (es rfl (et rfl)) rfl) ?_
    refine W_v rfl rfl (V_asg rfl (es rfl (et rfl))) ?_
    refine W_v rfl rfl (V_asg rfl (es rfl (et rfl))) ?_
    refine W_end ?_
    refine gen_Q (fun A17 hA17 => ?_)
    have hsz17 := szq hA17
    have hdf17 : A17.defers = [] := by rw [hA17]; simp only [df_put]; exact hdf14
    have l6_17 := lookE hA17 6 (et rfl)
    have l7_17 := lookE hA17 7 (e6 rfl (es rfl l7_14))
    have l8_17 := lookE hA17 8 (e6 rfl (es rfl l8_14))
    have l9_17 := lookE hA17 9 (e6 rfl (es rfl l9_14))
    clear hA17 hsz14 hdf14 l4_14 l7_14 l8_14 l9_14
    refine then_n (hK15 _ _ ?_)
    clear hK15
    refine wp_seq_k (fun K18 hK18 => ?_)
    refine region_in ?_
    refine W_v rfl rfl (V_mov rfl l6_17) ?_
    refine W_v rfl rfl (V_neq rfl (et rfl) rfl) ?_
    refine W_end ?_
    refine gen_Q (fun A19 hA19 => ?_)
    have hsz19 := szq hA19
    have hdf19 : A19.defers = [] := by rw [hA19]; simp only [df_put]; exact hdf17
    have l6_19 := lookE hA19 6 (es rfl (es rfl l6_17))
    have l7_19 := lookE hA19 7 (es rfl (es rfl l7_17))
    have l8_19 := lookE hA19 8 (es rfl (es rfl l8_17))
    have l9_19 := lookE hA19 9 (es rfl (es rfl l9_17))
    have l19_19 := lookE hA19 19 (et rfl)
    clear hA19 hsz17 hdf17 l6_17 l7_17 l8_17 l9_17
    refine then_n (hK18 _ _ ?_)
    clear hK18
    refine cond_dec l19_19 (fun c20 => ?_) (fun c20 => ?_)
    · skip
      refine wp_seq_k (fun K21 hK21 => ?_)
      refine region_in ?_
      refine W_v rfl rfl (V_mov rfl l6_19) ?_
      refine W_v rfl rfl (V_asg rfl (et rfl)) ?_
      refine W_end ?_
      refine gen_Q (fun A22 hA22 => ?_)
      have hsz22 := szq hA22
      have hdf22 : A22.defers = [] := by rw [hA22]; simp only [df_put]; exact hdf19
      have l2_22 := lookE hA22 2 (et rfl)
      clear hA22 hsz19 hdf19 l6_19 l7_19 l8_19 l9_19 l19_19
      refine then_n (hK21 _ _ ?_)
      clear hK21
      refine wp_ret ?_
      refine inb_ret ?_
      refine then_ret ?_
      refine then_ret ?_
      refine inb_ret ?_
      refine then_ret ?_
      refine ret_in (results_1 Try.results44 (rv_tmp l2_22)) hdf22 ?_
      -- leaf TT
      have hc := ckN_hit hz hy13 (by omega)
      rw [hc]
      exact ⟨rfl, hS16.fin0⟩
    · skip
      refine wp_skip ?_
      refine inb_n ?_
      refine then_n (hK11 _ _ ?_)
      clear hK11
      refine region_in ?_
      refine W_v rfl rfl (V_add rfl l9_19 rfl (by omega) (by omega)) ?_
      refine W_v rfl rfl (V_mov rfl (et rfl)) ?_
      refine W_end ?_
      refine gen_Q (fun A23 hA23 => ?_)
      have hsz23 := szq hA23
      have hdf23 : A23.defers = [] := by rw [hA23]; simp only [df_put]; exact hdf19
      have l7_23 := lookE hA23 7 (es rfl (es rfl l7_19))
      have l8_23 := lookE hA23 8 (es rfl (es rfl l8_19))
      have l9_23 := lookE hA23 9 (et rfl)
      clear hA23 hsz19 hdf19 l6_19 l7_19 l8_19 l9_19 l19_19
      refine then_n ⟨us.length - (k + 1), by simp only [hm6]; omega, hsz23, hdf23, (k + 1), rfl, (by omega), (ckN_skip hz hy13 (by omega)), ((l9_23).trans (by first | rfl | (simp; done) | (congr 1; omega))), ((l7_23).trans l7_5.symm), ((l8_23).trans l8_5.symm), hS16⟩
  · skip
    refine wp_exit ?_
    refine then_exit ?_
    refine then_exit ?_
    refine inb_hit ?_
    refine then_n (hK3 _ _ ?_)
    clear hK3
    refine wp_seq_k (fun K24 hK24 => ?_)
    refine region_in ?_
    refine W_v rfl rfl (V_asg rfl rfl) ?_
    refine W_end ?_
    refine gen_Q (fun A25 hA25 => ?_)
    have hsz25 := szq hA25
    have hdf25 : A25.defers = [] := by rw [hA25]; simp only [df_put]; exact hdf8
    have l2_25 := lookE hA25 2 (et rfl)
    clear hA25 hsz8 hdf8 l7_8 l8_8 l9_8 l10_8
    refine then_n (hK24 _ _ ?_)
    clear hK24
    refine wp_ret ?_
    refine ret_in (results_1 Try.results44 (rv_tmp l2_25)) hdf25 ?_
    -- leaf F
    have hc := ckN_end hz (by omega)
    rw [hc]
    exact ⟨rfl, hS6.fin0⟩

set_option maxHeartbeats 4000000 in
theorem kpp_c {cv : Value} {l : List (Int × Int)} {q : Int} {w : World} (h_cv : Ro w NoX (rl 2 rcC cv l))  :
    Calls Try.prog 26 #[cv, .int .i64 q] w fun e w' => ∃ v, e = .returned (.tuple #[v, .int .i64 (ppE l q)]) ∧ St w NoX [io .i64 (v) (ppT l q)] w' := by
  have hn1 : ckN (([(cv, l)] : List RS).map (·.2)) = (ckL l).2 := ckN_one l
  refine calls_in 36 Try.func26 rfl rfl (by simp) (fun A0 hsz0 hdf0 hargs => ?_)
  have l0_0 := hargs 0 (cv) rfl
  have l1_0 := hargs 1 (.int .i64 q) rfl
  clear hargs; replace hsz0 : SzN A0 36 := ⟨hsz0⟩
  have hS := St.nil w
  have bh_cv := SlN.le (sl_SlN h_cv.at)
  refine wp_seq_k (fun K1 hK1 => ?_)
  refine region_in ?_
  refine W_v rfl rfl (V_asg rfl rfl) ?_
  refine W_v rfl rfl (V_asg rfl rfl) ?_
  refine W_end ?_
  refine gen_Q (fun A2 hA2 => ?_)
  have hsz2 := szq hA2
  have hdf2 : A2.defers = [] := by rw [hA2]; simp only [df_put]; exact hdf0
  have l0_2 := lookE hA2 0 (es rfl (es rfl l0_0))
  have l1_2 := lookE hA2 1 (es rfl (es rfl l1_0))
  clear hA2 hsz0 hdf0 l0_0 l1_0
  refine then_n (hK1 _ _ ?_)
  clear hK1
  refine wp_seq_k (fun K3 hK3 => ?_)
  refine wp_seq_k (fun K4 hK4 => ?_)
  refine region_in ?_
  refine W_v rfl rfl (V_mov rfl l0_2) ?_
  have hll5 : [cv].length = 1 := rfl
  refine W_litS (vs := [cv]) (xs := [cv]) 1 hS rfl rfl rfl (parts1 (et rfl)) rfl Try.underlying88 (by kernel_rfl) (by decide) (by intro v hv; simp only [List.mem_cons, List.not_mem_nil, or_false] at hv; rcases hv with rfl <;> simp [SlN_cells (sl_SlN h_cv.at)]) (by simp [SlN_cells (sl_SlN h_cv.at)]) (fun g5 w5 c5 hc5 hS5 => ?_)
  replace hc5 : c5 = ow 1 [cv].length (.slice (some ⟨g5, 0, none⟩) 1 1) [cv] := hc5
  replace hS5 : St w NoX [c5] w5 := hS5
  refine W_call rfl rfl rfl Try.func44 (by kernel_rfl) rfl (args1 (et rfl)) (kck_c (us := [(cv, l)]) (hS5.chC 0 rfl hc5).own (nsr_one (hS5.roC h_cv)) ) ?_
  rintro _ w6 ⟨rfl, hP6⟩
  refine ⟨_, rfl, ?_⟩
  have hS6 := hS5.join hP6
  replace hS6 : St w NoX [c5] w6 := hS6
  refine W_v rfl rfl (V_asg rfl (et rfl)) ?_
  refine W_end ?_
  refine gen_Q (fun A7 hA7 => ?_)
  have hsz7 := szq hA7
  have hdf7 : A7.defers = [] := by rw [hA7]; simp only [df_put]; exact hdf2
  have l0_7 := lookE hA7 0 (e3 rfl (es rfl l0_2))
  have l1_7 := lookE hA7 1 (e3 rfl (es rfl l1_2))
  have l6_7 := lookE hA7 6 (et rfl)
  clear hA7 hsz2 hdf2 l0_2 l1_2
  have hS8 : St w NoX [] w6 := hS6.sel [] (by decide) rfl
  refine then_n (hK4 _ _ ?_)
  clear hK4
  refine wp_seq_k (fun K9 hK9 => ?_)
  refine region_in ?_
  refine W_v rfl rfl (V_mov rfl l6_7) ?_
  refine W_v rfl rfl (V_neq rfl (et rfl) rfl) ?_
  refine W_end ?_
  refine gen_Q (fun A10 hA10 => ?_)
  have hsz10 := szq hA10
  have hdf10 : A10.defers = [] := by rw [hA10]; simp only [df_put]; exact hdf7
  have l0_10 := lookE hA10 0 (es rfl (es rfl l0_7))
  have l1_10 := lookE hA10 1 (es rfl (es rfl l1_7))
  have l6_10 := lookE hA10 6 (es rfl (es rfl l6_7))
  have l14_10 := lookE hA10 14 (et rfl)
  clear hA10 hsz7 hdf7 l0_7 l1_7 l6_7
  refine then_n (hK9 _ _ ?_)
  clear hK9
  refine cond_dec l14_10 (fun c11 => ?_) (fun c11 => ?_)
  · skip
    refine wp_seq_k (fun K12 hK12 => ?_)
    refine region_in ?_
    refine W_v rfl rfl (V_mov rfl l6_10) ?_
    refine W_v rfl rfl (V_asg rfl rfl) ?_
    refine W_v rfl rfl (V_asg rfl (es rfl (et rfl))) ?_
    refine W_end ?_
    refine gen_Q (fun A13 hA13 => ?_)
    have hsz13 := szq hA13
    have hdf13 : A13.defers = [] := by rw [hA13]; simp only [df_put]; exact hdf10
    have l4_13 := lookE hA13 4 (es rfl (et rfl))
    have l5_13 := lookE hA13 5 (et rfl)
    clear hA13 hsz10 hdf10 l0_10 l1_10 l6_10 l14_10
    refine then_n (hK12 _ _ ?_)
    clear hK12
    refine wp_ret ?_
    refine then_ret ?_
    refine ret_in (results_2 Try.results26 (rv_tmp l4_13) (rv_tmp l5_13)) hdf13 ?_
    -- leaf T
    obtain ⟨c14, hc14, hS14⟩ := hS8.pnil (s := 1)
    have he : ppE l q = (ckN ([(cv, l)].map (·.2))) := by unfold ppE; rw [if_pos (by omega)] <;> exact hn1.symm
    have ht : ppT l q = [] := by unfold ppT; rw [if_pos (by rw [he]; omega)]
    rw [he]
    exact ⟨_, rfl, (hS14.fin1 0 rfl (hc14.trans (by rw [show ppT l q = [] by rw [ht]] <;> rfl)))⟩
  · skip
    have hck := ckL_iff.1 (show (ckL l).2 = 0 by omega)
    have hckl := hck.1
    refine wp_skip ?_
    refine then_n (hK3 _ _ ?_)
    clear hK3
    refine wp_seq_k (fun K15 hK15 => ?_)
    refine wp_seq_k (fun K16 hK16 => ?_)
    refine region_in ?_
    refine W_v rfl rfl (V_mov rfl l1_10) ?_
    refine W_call rfl rfl rfl Try.func41 (by kernel_rfl) rfl (args1 (et rfl)) (kkn_c (a := q)  ) ?_
    rintro _ w17 ⟨rfl, hP17⟩
    refine ⟨_, rfl, ?_⟩
    have hS17 := hS8.join hP17
    replace hS17 : St w NoX [] w17 := hS17
    refine W_v rfl rfl (V_notd rfl (et rfl)) ?_
    refine W_end ?_
    refine gen_Q (fun A18 hA18 => ?_)
    have hsz18 := szq hA18
    have hdf18 : A18.defers = [] := by rw [hA18]; simp only [df_put]; exact hdf10
    have l0_18 := lookE hA18 0 (e2 rfl (es rfl l0_10))
    have l1_18 := lookE hA18 1 (e2 rfl (es rfl l1_10))
    have l18_18 := lookE hA18 18 (et rfl)
    clear hA18 hsz10 hdf10 l0_10 l1_10 l6_10 l14_10
    refine then_n (hK16 _ _ ?_)
    clear hK16
    refine cond_dec l18_18 (fun c19 => ?_) (fun c19 => ?_)
    · skip
      refine wp_seq_k (fun K20 hK20 => ?_)
      refine region_in ?_
      refine W_v rfl rfl (V_asg rfl rfl) ?_
      refine W_v rfl rfl (V_asg rfl rfl) ?_
      refine W_end ?_
      refine gen_Q (fun A21 hA21 => ?_)
      have hsz21 := szq hA21
      have hdf21 : A21.defers = [] := by rw [hA21]; simp only [df_put]; exact hdf18
      have l4_21 := lookE hA21 4 (es rfl (et rfl))
      have l5_21 := lookE hA21 5 (et rfl)
      clear hA21 hsz18 hdf18 l0_18 l1_18 l18_18
      refine then_n (hK20 _ _ ?_)
      clear hK20
      refine wp_ret ?_
      refine then_ret ?_
      refine ret_in (results_2 Try.results26 (rv_tmp l4_21) (rv_tmp l5_21)) hdf21 ?_
      -- leaf FT
      obtain ⟨c22, hc22, hS22⟩ := hS17.pnil (s := 1)
      have he : ppE l q = 7 := by unfold ppE; rw [if_neg (by omega), if_neg (by omega)]
      have ht : ppT l q = [] := by unfold ppT; rw [if_pos (by rw [he]; omega)]
      rw [he]
      exact ⟨_, rfl, (hS22.fin1 0 rfl (hc22.trans (by rw [show ppT l q = [] by rw [ht]] <;> rfl)))⟩
    · skip
      refine wp_skip ?_
      refine then_n (hK15 _ _ ?_)
      clear hK15
      refine wp_seq_k (fun K23 hK23 => ?_)
      refine region_in ?_
      refine W_v rfl rfl (V_asg rfl rfl) ?_
      refine W_end ?_
      refine gen_Q (fun A24 hA24 => ?_)
      have hsz24 := szq hA24
      have hdf24 : A24.defers = [] := by rw [hA24]; simp only [df_put]; exact hdf18
      have l0_24 := lookE hA24 0 (es rfl l0_18)
      have l1_24 := lookE hA24 1 (es rfl l1_18)
      have l7_24 := lookE hA24 7 (et rfl)
      clear hA24 hsz18 hdf18 l0_18 l1_18 l18_18
      refine then_n (hK23 _ _ ?_)
      clear hK23
      refine wp_seq_k (fun K25 hK25 => ?_)
      refine wp_seq_k (fun K26 hK26 => ?_)
      refine region_in ?_
      refine W_v rfl rfl (V_mov rfl l0_24) ?_
      refine W_v rfl rfl (V_lenS rfl (et rfl) (sl_SlN h_cv.at) Try.underlying28) ?_
      refine W_v rfl rfl (V_mov rfl rfl) ?_
      refine W_end ?_
      refine gen_Q (fun A27 hA27 => ?_)
      have hsz27 := szq hA27
      have hdf27 : A27.defers = [] := by rw [hA27]; simp only [df_put]; exact hdf24
      have l1_27 := lookE hA27 1 (e2 rfl (es rfl l1_24))
      have l7_27 := lookE hA27 7 (e2 rfl (es rfl l7_24))
      have l19_27 := lookE hA27 19 (e2 rfl (et rfl))
      have l20_27 := lookE hA27 20 (es rfl (et rfl))
      have l21_27 := lookE hA27 21 (et rfl)
      clear hA27 hsz24 hdf24 l0_24 l1_24 l7_24
      refine then_n (hK26 _ _ ?_)
      clear hK26
      refine wp_block ?_
      obtain ⟨c28, hc28, hS28⟩ := hS17.pnil (s := 1)
      -- loop 8
      refine loopX (fun mz A' w' => SzN A' 36 ∧ A'.defers = [] ∧ (∃ (k : Nat) (bv : Value), (mz = l.length - k) ∧ (k ≤ l.length) ∧ (EV A' (.tmp 21) = .int .i64 (k : Int)) ∧ (EV A' (.tmp 7) = bv) ∧ (EV A' (.tmp 1) = EV A27 (.tmp 1)) ∧ (EV A' (.tmp 19) = EV A27 (.tmp 19)) ∧ (EV A' (.tmp 20) = EV A27 (.tmp 20)) ∧ (St w NoX [io .i64 bv (ppF (l.take k) q)] w'))) (l.length - 0) ⟨hsz27, hdf27, 0, (.slice none 0 0), rfl, (by omega), ((l21_27).trans (by first | rfl | (simp; done) | (congr 1; omega))), ((l7_27).trans (by first | rfl | (simp; done) | (congr 1; omega))), rfl, rfl, rfl, (by have q0 : c28 = io .i64 (.slice none 0 0) (ppF (l.take 0) q) := hc28.trans (rfl); subst q0; exact hS28)⟩ ?_
      clear hS28 hc28
      rintro n29 A29 w29 ⟨hsz29, hdf29, k, bv, hm29, hk, l21_29, l7_29, u1_29, u19_29, u20_29, hS29⟩
      have l1_29 := u1_29.trans l1_27
      have l19_29 := u19_29.trans l19_27
      have l20_29 := u20_29.trans l20_27
      obtain ⟨c28_29, hc28_29, hS29⟩ := gen1 hS29
      refine wp_seq_k (fun K30 hK30 => ?_)
      refine region_in ?_
      refine W_v rfl rfl (V_lss rfl l21_29 l20_29) ?_
      refine W_end ?_
      refine gen_Q (fun A31 hA31 => ?_)
      have hsz31 := szq hA31
      have hdf31 : A31.defers = [] := by rw [hA31]; simp only [df_put]; exact hdf29
      have l1_31 := lookE hA31 1 (es rfl l1_29)
      have l7_31 := lookE hA31 7 (es rfl l7_29)
      have l19_31 := lookE hA31 19 (es rfl l19_29)
      have l20_31 := lookE hA31 20 (es rfl l20_29)
      have l21_31 := lookE hA31 21 (es rfl l21_29)
      have l22_31 := lookE hA31 22 (et rfl)
      clear hA31 hsz29 hdf29 l21_29 l7_29 l1_29 l19_29 l20_29
      refine then_n (hK30 _ _ ?_)
      clear hK30
      refine wp_seq_k (fun K32 hK32 => ?_)
      refine cond_dec l22_31 (fun c33 => ?_) (fun c33 => ?_)
      · skip
        refine wp_skip ?_
        refine then_n (hK32 _ _ ?_)
        clear hK32
        refine wp_seq_k (fun K34 hK34 => ?_)
        refine wp_block ?_
        refine wp_seq_k (fun K35 hK35 => ?_)
        refine region_in ?_
        have k36 : k < l.length := by first | omega | (simp only [List.length_cons, List.length_nil]; omega) | (simp only [List.length_set]; omega) | decide
        obtain ⟨y36, hy36⟩ := get_some (xs := l) (k := k) k36
        obtain ⟨B36, O36, C36, hv36⟩ := (SlN.blk (sl_SlN h_cv.at) (by first | omega | (simp only [List.length_cons, List.length_nil]; omega) | (simp only [List.length_set]; omega) | decide))
        refine W_v rfl rfl (V_ixS (off := O36 + k * 2) 2 (k) rfl l19_31 l21_31 hv36 (by omega) k36 Try.underlying28 (by kernel_rfl) rfl) ?_
        refine W_r rfl rfl (VR_ldR (ys := rcC y36) rfl (et rfl) (SlN.row rcC_len (sl_SlN (hS29.ro h_cv)) hv36 hy36 rfl) Try.underlying42 rfl (by kernel_rfl)) ?_
        refine W_allocS (z := .agg #[.int .i64 0, .int .i64 0]) (zs := #[.int .i64 0, .int .i64 0]) hS29 rfl rfl rfl (by kernel_rfl) (by rfl) (fun g37 w37 c37 hc37 hS37 => ?_)
        replace hS37 : St w NoX [c37, c28_29] w37 := hS37
        refine W_stAS 0 hS37 rfl hc37 rfl rfl rfl (et rfl) (es rfl (et rfl)) (by first | (rw [List.all_toArray] <;> rfl) | (simp only [List.all_toArray, List.all_cons, List.all_nil] <;> rfl)) (by rfl) (by kernel_rfl) (fun w38 c38 hc38 hS38 => ?_)
        replace hS38 : St w NoX [c38, c28_29] w38 := hS38
        refine W_end ?_
        refine gen_Q (fun A39 hA39 => ?_)
        have hsz39 := szq hA39
        have hdf39 : A39.defers = [] := by rw [hA39]; simp only [df_put]; exact hdf31
        have l1_39 := lookE hA39 1 (e2 rfl (es rfl l1_31))
        have l7_39 := lookE hA39 7 (e2 rfl (es rfl l7_31))
        have l9_39 := lookE hA39 9 (et rfl)
        have l19_39 := lookE hA39 19 (e2 rfl (es rfl l19_31))
        have l20_39 := lookE hA39 20 (e2 rfl (es rfl l20_31))
        have l21_39 := lookE hA39 21 (e2 rfl (es rfl l21_31))
        clear hA39 hsz31 hdf31 l1_31 l7_31 l19_31 l20_31 l21_31 l22_31
        refine then_n (hK35 _ _ ?_)
        clear hK35
        refine wp_seq_k (fun K40 hK40 => ?_)
        refine region_in ?_
        refine W_v rfl rfl (V_fa (off' := 1) rfl l9_39 Try.underlying42 rfl (by decide +kernel) rfl) ?_
        refine W_r rfl rfl (VR_ldC rfl (et rfl) (cell_box (v := .int .i64 (y36.2)) (hS38.obj 0 rfl hc38) rfl) Try.underlying3 rfl) ?_
        refine W_v rfl rfl (V_mov rfl (es rfl (es rfl l1_39))) ?_
        refine W_v rfl rfl (V_geq rfl (es rfl (et rfl)) (et rfl)) ?_
        refine W_end ?_
        refine gen_Q (fun A41 hA41 => ?_)
        have hsz41 := szq hA41
        have hdf41 : A41.defers = [] := by rw [hA41]; simp only [df_put]; exact hdf39
        have l1_41 := lookE hA41 1 (e3 rfl (es rfl l1_39))
        have l7_41 := lookE hA41 7 (e3 rfl (es rfl l7_39))
        have l9_41 := lookE hA41 9 (e3 rfl (es rfl l9_39))
        have l19_41 := lookE hA41 19 (e3 rfl (es rfl l19_39))
        have l20_41 := lookE hA41 20 (e3 rfl (es rfl l20_39))
        have l21_41 := lookE hA41 21 (e3 rfl (es rfl l21_39))
        have l28_41 := lookE hA41 28 (et rfl)
        clear hA41 hsz39 hdf39 l1_39 l7_39 l9_39 l19_39 l20_39 l21_39
        refine then_n (hK40 _ _ ?_)
        clear hK40
        refine cond_dec l28_41 (fun c42 => ?_) (fun c42 => ?_)
        · skip
          refine region_in ?_
          refine W_v rfl rfl (V_mov rfl l7_41) ?_
          refine W_v rfl rfl (V_fa (off' := 0) rfl (es rfl l9_41) Try.underlying42 rfl (by decide +kernel) rfl) ?_
          refine W_r rfl rfl (VR_ldC rfl (et rfl) (cell_box (v := .int .i64 (y36.1)) (hS38.obj 0 rfl hc38) rfl) Try.underlying3 rfl) ?_
          have hll43 : [y36.1].length = 1 := rfl
          refine W_litS (vs := [.int .i64 (y36.1)]) (xs := ([y36.1].map (Value.int .i64))) 1 hS38 rfl rfl rfl (parts1 (et rfl)) rfl Try.underlying23 (by kernel_rfl) (by decide) (by intro v hv; simp only [List.mem_cons, List.not_mem_nil, or_false] at hv; rcases hv with rfl <;> rfl) (by rfl) (fun g43 w43 c43 hc43 hS43 => ?_)
          replace hc43 : c43 = io .i64 (.slice (some ⟨g43, 0, none⟩) 1 1) [y36.1] := hc43
          replace hS43 : St w NoX [c43, c38, c28_29] w43 := hS43
          refine W_appS 1 2 hS43 rfl hc28_29 rfl rfl rfl (e3 rfl (et rfl)) (et rfl) Try.underlying23 Try.underlying23 (z := .int .i64 0) (bytes := 8) (by kernel_rfl) rfl (by decide) (ow_at (hS43.chq 0 rfl hc43)) ones_i (by have h1 := pp_len (l.take k) q; have h2 : (l.take k).length ≤ l.length := (by rw [List.length_take]; omega); simp only [List.length_singleton, List.length_cons, List.length_nil]; omega) (by have h1 := pp_len (l.take k) q; have h2 : (l.take k).length ≤ l.length := (by rw [List.length_take]; omega); simp only [List.length_singleton, List.length_cons, List.length_nil]; omega) (fun v44 w44 c44 hc44 hS44 => ?_)
          replace hc44 : c44 = io .i64 v44 ((ppF (l.take k) q) ++ [y36.1]) := hc44.trans (app_eq (by simp))
          replace hS44 : St w NoX [c43, c38, c44] w44 := hS44
          refine W_v rfl rfl (V_asg rfl (et rfl)) ?_
          refine W_end ?_
          refine gen_Q (fun A45 hA45 => ?_)
          have hsz45 := szq hA45
          have hdf45 : A45.defers = [] := by rw [hA45]; simp only [df_put]; exact hdf41
          have l1_45 := lookE hA45 1 (e5 rfl (es rfl l1_41))
          have l7_45 := lookE hA45 7 (et rfl)
          have l19_45 := lookE hA45 19 (e5 rfl (es rfl l19_41))
          have l20_45 := lookE hA45 20 (e5 rfl (es rfl l20_41))
          have l21_45 := lookE hA45 21 (e5 rfl (es rfl l21_41))
          clear hA45 hsz41 hdf41 l1_41 l7_41 l9_41 l19_41 l20_41 l21_41 l28_41
          have hS46 : St w NoX [c44] w44 := hS44.sel [2] (by decide) rfl
          refine inb_n ?_
          refine then_n (hK34 _ _ ?_)
          clear hK34
          refine region_in ?_
          refine W_v rfl rfl (V_add rfl l21_45 rfl (by omega) (by omega)) ?_
          refine W_v rfl rfl (V_mov rfl (et rfl)) ?_
          refine W_end ?_
          refine gen_Q (fun A47 hA47 => ?_)
          have hsz47 := szq hA47
          have hdf47 : A47.defers = [] := by rw [hA47]; simp only [df_put]; exact hdf45
          have l1_47 := lookE hA47 1 (es rfl (es rfl l1_45))
          have l7_47 := lookE hA47 7 (es rfl (es rfl l7_45))
          have l19_47 := lookE hA47 19 (es rfl (es rfl l19_45))
          have l20_47 := lookE hA47 20 (es rfl (es rfl l20_45))
          have l21_47 := lookE hA47 21 (et rfl)
          clear hA47 hsz45 hdf45 l1_45 l7_45 l19_45 l20_45 l21_45
          refine then_n ⟨l.length - (k + 1), by simp only [hm29]; omega, hsz47, hdf47, (k + 1), v44, rfl, (by omega), ((l21_47).trans (by first | rfl | (simp; done) | (congr 1; omega))), ((l7_47).trans (by first | rfl | (simp; done) | (congr 1; omega))), ((l1_47).trans l1_27.symm), ((l19_47).trans l19_27.symm), ((l20_47).trans l20_27.symm), (by have q0 : c44 = io .i64 v44 (ppF (l.take (k + 1)) q) := hc44.trans ((congrArg (io .i64 _) (pp_in hy36 (by omega)))); subst q0; exact hS46)⟩
        · skip
          refine wp_skip ?_
          refine inb_n ?_
          refine then_n (hK34 _ _ ?_)
          clear hK34
          refine region_in ?_
          refine W_v rfl rfl (V_add rfl l21_41 rfl (by omega) (by omega)) ?_
          refine W_v rfl rfl (V_mov rfl (et rfl)) ?_
          refine W_end ?_
          refine gen_Q (fun A48 hA48 => ?_)
          have hsz48 := szq hA48
          have hdf48 : A48.defers = [] := by rw [hA48]; simp only [df_put]; exact hdf41
          have l1_48 := lookE hA48 1 (es rfl (es rfl l1_41))
          have l7_48 := lookE hA48 7 (es rfl (es rfl l7_41))
          have l19_48 := lookE hA48 19 (es rfl (es rfl l19_41))
          have l20_48 := lookE hA48 20 (es rfl (es rfl l20_41))
          have l21_48 := lookE hA48 21 (et rfl)
          clear hA48 hsz41 hdf41 l1_41 l7_41 l9_41 l19_41 l20_41 l21_41 l28_41
          have hS49 : St w NoX [c28_29] w38 := hS38.sel [1] (by decide) rfl
          refine then_n ⟨l.length - (k + 1), by simp only [hm29]; omega, hsz48, hdf48, (k + 1), bv, rfl, (by omega), ((l21_48).trans (by first | rfl | (simp; done) | (congr 1; omega))), ((l7_48).trans (by first | rfl | (simp; done) | (congr 1; omega))), ((l1_48).trans l1_27.symm), ((l19_48).trans l19_27.symm), ((l20_48).trans l20_27.symm), (by have q0 : c28_29 = io .i64 bv (ppF (l.take (k + 1)) q) := hc28_29.trans ((congrArg (io .i64 _) (pp_out hy36 (by omega)))); subst q0; exact hS49)⟩
      · skip
        refine wp_exit ?_
        refine then_exit ?_
        refine then_exit ?_
        refine inb_hit ?_
        refine then_n (hK25 _ _ ?_)
        clear hK25
        refine wp_seq_k (fun K50 hK50 => ?_)
        refine region_in ?_
        refine W_v rfl rfl (V_mov rfl l7_31) ?_
        refine W_v rfl rfl (V_asg rfl (et rfl)) ?_
        refine W_v rfl rfl (V_asg rfl rfl) ?_
        refine W_end ?_
        refine gen_Q (fun A51 hA51 => ?_)
        have hsz51 := szq hA51
        have hdf51 : A51.defers = [] := by rw [hA51]; simp only [df_put]; exact hdf31
        have l4_51 := lookE hA51 4 (es rfl (et rfl))
        have l5_51 := lookE hA51 5 (et rfl)
        clear hA51 hsz31 hdf31 l1_31 l7_31 l19_31 l20_31 l21_31 l22_31
        refine then_n (hK50 _ _ ?_)
        clear hK50
        refine wp_ret ?_
        refine ret_in (results_2 Try.results26 (rv_tmp l4_51) (rv_tmp l5_51)) hdf51 ?_
        -- leaf FFF
        have he : ppE l q = 0 := by unfold ppE; rw [if_neg (by omega), if_pos (by omega)]
        rw [he]
        exact ⟨_, rfl, (hS29.fin1 0 rfl (hc28_29.trans (congrArg (io .i64 _) (by unfold ppT; rw [if_neg (by omega), List.take_of_length_le (by omega)]))))⟩

set_option maxHeartbeats 4000000 in
theorem kmx_c {cv : Value} {l : List (Int × Int)} {w : World} (h_cv : Ro w NoX (rl 2 rcC cv l))  :
    Calls Try.prog 25 #[cv] w fun e w' => e = .returned (.tuple #[.agg #[.int .i64 (mxT l).1, .int .i64 (mxT l).2], .int .i64 (mxE l)]) ∧ St w NoX [] w' := by
  have hn1 : ckN (([(cv, l)] : List RS).map (·.2)) = (ckL l).2 := ckN_one l
  refine calls_in 18 Try.func25 rfl rfl (by simp) (fun A0 hsz0 hdf0 hargs => ?_)
  have l0_0 := hargs 0 (cv) rfl
  clear hargs; replace hsz0 : SzN A0 18 := ⟨hsz0⟩
  have hS := St.nil w
  have bh_cv := SlN.le (sl_SlN h_cv.at)
  refine wp_seq_k (fun K1 hK1 => ?_)
  refine region_in ?_
  refine W_allocS (z := .agg #[.int .i64 0, .int .i64 0]) (zs := #[.int .i64 0, .int .i64 0]) hS rfl rfl rfl (by kernel_rfl) (by rfl) (fun g2 w2 c2 hc2 hS2 => ?_)
  replace hS2 : St w NoX [c2] w2 := hS2
  refine W_v rfl rfl (V_asg rfl rfl) ?_
  refine W_end ?_
  refine gen_Q (fun A3 hA3 => ?_)
  have hsz3 := szq hA3
  have hdf3 : A3.defers = [] := by rw [hA3]; simp only [df_put]; exact hdf0
  have l0_3 := lookE hA3 0 (es rfl (es rfl l0_0))
  have l2_3 := lookE hA3 2 (es rfl (et rfl))
  clear hA3 hsz0 hdf0 l0_0
  refine then_n (hK1 _ _ ?_)
  clear hK1
  refine wp_seq_k (fun K4 hK4 => ?_)
  refine wp_seq_k (fun K5 hK5 => ?_)
  refine region_in ?_
  refine W_v rfl rfl (V_mov rfl l0_3) ?_
  have hll6 : [cv].length = 1 := rfl
  refine W_litS (vs := [cv]) (xs := [cv]) 1 hS2 rfl rfl rfl (parts1 (et rfl)) rfl Try.underlying88 (by kernel_rfl) (by decide) (by intro v hv; simp only [List.mem_cons, List.not_mem_nil, or_false] at hv; rcases hv with rfl <;> simp [SlN_cells (sl_SlN h_cv.at)]) (by simp [SlN_cells (sl_SlN h_cv.at)]) (fun g6 w6 c6 hc6 hS6 => ?_)
  replace hc6 : c6 = ow 1 [cv].length (.slice (some ⟨g6, 0, none⟩) 1 1) [cv] := hc6
  replace hS6 : St w NoX [c6, c2] w6 := hS6
  refine W_call rfl rfl rfl Try.func44 (by kernel_rfl) rfl (args1 (et rfl)) (kck_c (us := [(cv, l)]) (hS6.chC 0 rfl hc6).own (nsr_one (hS6.roC h_cv)) ) ?_
  rintro _ w7 ⟨rfl, hP7⟩
  refine ⟨_, rfl, ?_⟩
  have hS7 := hS6.join hP7
  replace hS7 : St w NoX [c6, c2] w7 := hS7
  refine W_v rfl rfl (V_asg rfl (et rfl)) ?_
  refine W_end ?_
  refine gen_Q (fun A8 hA8 => ?_)
  have hsz8 := szq hA8
  have hdf8 : A8.defers = [] := by rw [hA8]; simp only [df_put]; exact hdf3
  have l0_8 := lookE hA8 0 (e3 rfl (es rfl l0_3))
  have l2_8 := lookE hA8 2 (e3 rfl (es rfl l2_3))
  have l4_8 := lookE hA8 4 (et rfl)
  clear hA8 hsz3 hdf3 l0_3 l2_3
  have hS9 : St w NoX [c2] w7 := hS7.sel [1] (by decide) rfl
  refine then_n (hK5 _ _ ?_)
  clear hK5
  refine wp_seq_k (fun K10 hK10 => ?_)
  refine region_in ?_
  refine W_v rfl rfl (V_mov rfl l4_8) ?_
  refine W_v rfl rfl (V_neq rfl (et rfl) rfl) ?_
  refine W_end ?_
  refine gen_Q (fun A11 hA11 => ?_)
  have hsz11 := szq hA11
  have hdf11 : A11.defers = [] := by rw [hA11]; simp only [df_put]; exact hdf8
  have l0_11 := lookE hA11 0 (es rfl (es rfl l0_8))
  have l2_11 := lookE hA11 2 (es rfl (es rfl l2_8))
  have l4_11 := lookE hA11 4 (es rfl (es rfl l4_8))
  have l9_11 := lookE hA11 9 (et rfl)
  clear hA11 hsz8 hdf8 l0_8 l2_8 l4_8
  refine then_n (hK10 _ _ ?_)
  clear hK10
  refine cond_dec l9_11 (fun c12 => ?_) (fun c12 => ?_)
  · skip
    refine wp_seq_k (fun K13 hK13 => ?_)
    refine region_in ?_
    refine W_v rfl rfl (V_bldS (n := 2) (z := .agg #[.int .i64 0, .int .i64 0]) rfl (parts0) (by kernel_rfl) (by simp only [List.all_cons, List.all_nil, Bool.and_true] <;> rfl) (by kernel_rfl) (by simp only [List.foldl_cons, List.foldl_nil, Value.cells, List.setIfInBounds_toArray, List.set_cons_succ, List.set_cons_zero] <;> rfl)) ?_
    refine W_v rfl rfl (V_mov rfl (es rfl l4_11)) ?_
    refine W_stAS 0 hS9 rfl hc2 rfl rfl rfl (es rfl (es rfl l2_11)) (es rfl (et rfl)) (by first | (rw [List.all_toArray] <;> rfl) | (simp only [List.all_toArray, List.all_cons, List.all_nil] <;> rfl)) (by rfl) (by kernel_rfl) (fun w14 c14 hc14 hS14 => ?_)
    replace hS14 : St w NoX [c14] w14 := hS14
    refine W_v rfl rfl (V_asg rfl (et rfl)) ?_
    refine W_end ?_
    refine gen_Q (fun A15 hA15 => ?_)
    have hsz15 := szq hA15
    have hdf15 : A15.defers = [] := by rw [hA15]; simp only [df_put]; exact hdf11
    have l2_15 := lookE hA15 2 (e2 rfl (es rfl l2_11))
    have l3_15 := lookE hA15 3 (et rfl)
    clear hA15 hsz11 hdf11 l0_11 l2_11 l4_11 l9_11
    refine then_n (hK13 _ _ ?_)
    clear hK13
    refine wp_ret ?_
    refine then_ret ?_
    refine ret_in (results_2 Try.results25 (rv_cellA l2_15 (hS14.obj 0 rfl hc14) Try.underlying42 rfl (by kernel_rfl)) (rv_tmp l3_15)) hdf15 ?_
    -- leaf T
    have he := mxE_err (l := l) (by omega) |>.trans hn1.symm
    have ht := mxT_err (by rw [he]; omega)
    rw [he, ht]
    exact ⟨rfl, hS14.fin0⟩
  · skip
    have hck := ckL_iff.1 (show (ckL l).2 = 0 by omega)
    have hckl := hck.1
    refine wp_skip ?_
    refine then_n (hK4 _ _ ?_)
    clear hK4
    refine wp_seq_k (fun K16 hK16 => ?_)
    refine wp_seq_k (fun K17 hK17 => ?_)
    refine region_in ?_
    refine W_v rfl rfl (V_mov rfl l0_11) ?_
    refine W_v rfl rfl (V_lenS rfl (et rfl) (sl_SlN h_cv.at) Try.underlying28) ?_
    refine W_v rfl rfl (V_eql rfl (et rfl) rfl) ?_
    refine W_end ?_
    refine gen_Q (fun A18 hA18 => ?_)
    have hsz18 := szq hA18
    have hdf18 : A18.defers = [] := by rw [hA18]; simp only [df_put]; exact hdf11
    have l0_18 := lookE hA18 0 (e2 rfl (es rfl l0_11))
    have l2_18 := lookE hA18 2 (e2 rfl (es rfl l2_11))
    have l14_18 := lookE hA18 14 (et rfl)
    clear hA18 hsz11 hdf11 l0_11 l2_11 l4_11 l9_11
    refine then_n (hK17 _ _ ?_)
    clear hK17
    refine cond_dec l14_18 (fun c19 => ?_) (fun c19 => ?_)
    · skip
      refine wp_seq_k (fun K20 hK20 => ?_)
      refine region_in ?_
      refine W_v rfl rfl (V_bldS (n := 2) (z := .agg #[.int .i64 0, .int .i64 0]) rfl (parts0) (by kernel_rfl) (by simp only [List.all_cons, List.all_nil, Bool.and_true] <;> rfl) (by kernel_rfl) (by simp only [List.foldl_cons, List.foldl_nil, Value.cells, List.setIfInBounds_toArray, List.set_cons_succ, List.set_cons_zero] <;> rfl)) ?_
      refine W_stAS 0 hS9 rfl hc2 rfl rfl rfl (es rfl l2_18) (et rfl) (by first | (rw [List.all_toArray] <;> rfl) | (simp only [List.all_toArray, List.all_cons, List.all_nil] <;> rfl)) (by rfl) (by kernel_rfl) (fun w21 c21 hc21 hS21 => ?_)
      replace hS21 : St w NoX [c21] w21 := hS21
      refine W_v rfl rfl (V_asg rfl rfl) ?_
      refine W_end ?_
      refine gen_Q (fun A22 hA22 => ?_)
      have hsz22 := szq hA22
      have hdf22 : A22.defers = [] := by rw [hA22]; simp only [df_put]; exact hdf18
      have l2_22 := lookE hA22 2 (es rfl (es rfl l2_18))
      have l3_22 := lookE hA22 3 (et rfl)
      clear hA22 hsz18 hdf18 l0_18 l2_18 l14_18
      refine then_n (hK20 _ _ ?_)
      clear hK20
      refine wp_ret ?_
      refine then_ret ?_
      refine ret_in (results_2 Try.results25 (rv_cellA l2_22 (hS21.obj 0 rfl hc21) Try.underlying42 rfl (by kernel_rfl)) (rv_tmp l3_22)) hdf22 ?_
      -- leaf FT
      have he := mxE_nil (l := l) (by omega) (by omega)
      have ht := mxT_err (by rw [he]; omega)
      rw [he, ht]
      exact ⟨rfl, hS21.fin0⟩
    · skip
      refine wp_skip ?_
      refine then_n (hK16 _ _ ?_)
      clear hK16
      refine wp_seq_k (fun K23 hK23 => ?_)
      refine region_in ?_
      refine W_v rfl rfl (V_mov rfl l0_18) ?_
      refine W_call rfl rfl rfl Try.func45 (by kernel_rfl) rfl (args2 (et rfl) rfl) (kmf_c (hS9.roC h_cv) (by first | with_reducible assumption | omega) (by first | with_reducible assumption | with_reducible exact hck.2.2)) ?_
      rintro _ w24 ⟨rfl, hP24⟩
      refine ⟨_, rfl, ?_⟩
      have hS24 := hS9.join hP24
      replace hS24 : St w NoX [c2] w24 := hS24
      refine W_stAS 0 hS24 rfl hc2 rfl rfl rfl (es rfl (es rfl l2_18)) (et rfl) (by first | (rw [List.all_toArray] <;> rfl) | (simp only [List.all_toArray, List.all_cons, List.all_nil] <;> rfl)) (by rfl) (by kernel_rfl) (fun w25 c25 hc25 hS25 => ?_)
      replace hS25 : St w NoX [c25] w25 := hS25
      refine W_v rfl rfl (V_asg rfl rfl) ?_
      refine W_end ?_
      refine gen_Q (fun A26 hA26 => ?_)
      have hsz26 := szq hA26
      have hdf26 : A26.defers = [] := by rw [hA26]; simp only [df_put]; exact hdf18
      have l2_26 := lookE hA26 2 (e2 rfl (es rfl l2_18))
      have l3_26 := lookE hA26 3 (et rfl)
      clear hA26 hsz18 hdf18 l0_18 l2_18 l14_18
      refine then_n (hK23 _ _ ?_)
      clear hK23
      refine wp_ret ?_
      refine ret_in (results_2 Try.results25 (rv_cellA l2_26 (hS25.obj 0 rfl hc25) Try.underlying42 rfl (by kernel_rfl)) (rv_tmp l3_26)) hdf26 ?_
      -- leaf FF
      have he := mxE_ok (l := l) (by omega) (by omega)
      have ht := mxT_ok he
      rw [he, ht]
      exact ⟨rfl, hS25.fin0⟩

end Go.Proofs.Ytnfgeekaeegolaa