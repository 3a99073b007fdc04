import Derived.Test.YtoandfgkkmfobaaProg
import Derived.Test.YtoandfgkkmfobaaSl1
import Derived.Test.YtoandfgkkmfobaaSh07
import Derived.Test.YtoandfgkkmfobaaPl7d
namespace Go.Proofs.Ytoandfgkkmfobaa
open Go.RowKit Go.Own Go.Own.R Go.Own.S


set_option maxHeartbeats 4000000 in
theorem kcln_c {cv : Value} {c : List Int} {w : World} (h_cv : Ro w NoX (il .i64 cv c)) (h0 : 0 < c.length) (hl : c.length ≤ 8192) :
    Calls Try.prog 60 #[cv] w fun e w' => ∃ v, e = .returned (v) ∧ (0 < capS v) ∧ St w NoX [io .i64 (v) c] w' := by
  refine calls_in 8 Try.func60 rfl rfl (by simp) (fun A0 hsz0 hdf0 hargs => ?_)
  have l0_0 := hargs 0 (cv) rfl
  clear hargs; replace hsz0 : SzN A0 8 := ⟨hsz0⟩
  have hS := St.nil w
  have bh_cv := SlN.le (sl_SlN h_cv.at)
  refine wp_seq_k (fun K1 hK1 => ?_)
  -- region 0
  refine region_in ?_
  refine W_v rfl rfl (V_asg rfl rfl) ?_
  refine W_end ?_
  refine gen_Q (fun A2 hA2 => ?_)
  have hsz2 : SzN A2 8 := by rw [hA2]; infer_instance
  have hdf2 : A2.defers = [] := by rw [hA2]; simp only [df_put]; exact hdf0
  have l0_2 := lookE hA2 0 (es rfl l0_0)
  clear hA2 hsz0 hdf0 l0_0
  refine then_n (hK1 _ _ ?_)
  clear hK1
  refine wp_seq_k (fun K3 hK3 => ?_)
  refine wp_seq_k (fun K4 hK4 => ?_)
  -- region 1
  refine region_in ?_
  refine W_v rfl rfl (V_mov rfl l0_2) ?_
  refine W_v rfl rfl (V_eqNilS rfl (et rfl) rfl (sl_SlN h_cv.at) (by omega) Try.underlying22) ?_
  refine W_end ?_
  refine gen_Q (fun A5 hA5 => ?_)
  have hsz5 : SzN A5 8 := by rw [hA5]; infer_instance
  have hdf5 : A5.defers = [] := by rw [hA5]; simp only [df_put]; exact hdf2
  have l0_5 := lookE hA5 0 (es rfl (es rfl l0_2))
  have l4_5 := lookE hA5 4 (et rfl)
  clear hA5 hsz2 hdf2 l0_2
  refine then_n (hK4 _ _ ?_)
  clear hK4
  refine cond_f l4_5 ?_
  refine wp_skip ?_
  refine then_n (hK3 _ _ ?_)
  clear hK3
  refine wp_seq_k (fun K6 hK6 => ?_)
  -- region 3
  refine region_in ?_
  refine W_litS (vs := []) (xs := []) 1 hS rfl rfl rfl (parts0) rfl Try.underlying22 (by kernel_rfl) (by decide) (by intro v hv; cases hv) (by rfl) (fun g7 w7 c7 hc7 hS7 => ?_)
  replace hc7 : c7 = io .i64 (.slice (some ⟨g7, 0, none⟩) 0 0) [] := hc7
  replace hS7 : St w NoX [c7] w7 := hS7
  refine W_v rfl rfl (V_mov rfl (es rfl l0_5)) ?_
  refine W_appS 1 0 hS7 rfl hc7 rfl rfl rfl (es rfl (et rfl)) (et rfl) Try.underlying22 Try.underlying22 (z := .int .i64 0) (bytes := 8) (by kernel_rfl) rfl (by decide) (sl_SlN (hS7.ro h_cv)) ones_i (by first | omega | (simp; done) | (simp; omega)) (by first | omega | (simp; done) | (simp; omega)) (fun v8 w8 c8 hc8 hS8 => ?_)
  replace hc8 : c8 = io .i64 v8 c := hc8.trans (app_eq (by simp))
  replace hS8 : St w NoX [c8] w8 := hS8
  refine W_v rfl rfl (V_asg rfl (et rfl)) ?_
  refine W_end ?_
  refine gen_Q (fun A9 hA9 => ?_)
  have hsz9 : SzN A9 8 := by rw [hA9]; infer_instance
  have hdf9 : A9.defers = [] := by rw [hA9]; simp only [df_put]; exact hdf5
  have l2_9 := lookE hA9 2 (et rfl)
  clear hA9 hsz5 hdf5 l0_5 l4_5
  refine then_n (hK6 _ _ ?_)
  clear hK6
  refine wp_ret ?_
  refine ret_in (results_1 Try.results60 (rv_tmp l2_9)) hdf9 ?_
  -- leaf 
  have hq := SlN.capS (ow_at (hS8.chq 0 rfl hc8))
  exact ⟨_, rfl, by omega, (hS8.fin1 0 rfl (hc8))⟩

set_option maxHeartbeats 4000000 in
theorem ksr_c {cv : Value} {c : List Int} {w : World} (h_cv : Ro w NoX (il .i64 cv c)) (h0 : 0 < c.length) (hl : c.length ≤ 8192) (hr : Rng c) (hd : Dst c) :
    Calls Try.prog 49 #[cv] w fun e w' => ∃ v, e = .returned (v) ∧ St w NoX [io .i64 (v) (tgK c 1600)] w' := by
  have hfl := fl_len (fun x => decide (x ≤ 0)) c
  refine calls_in 10 Try.func49 rfl rfl (by simp) (fun A0 hsz0 hdf0 hargs => ?_)
  have l0_0 := hargs 0 (cv) rfl
  clear hargs; replace hsz0 : SzN A0 10 := ⟨hsz0⟩
  have hS := St.nil w
  have bh_cv := SlN.le (sl_SlN h_cv.at)
  refine wp_seq_k (fun K1 hK1 => ?_)
  -- region 0
  refine region_in ?_
  refine W_v rfl rfl (V_asg rfl rfl) ?_
  refine W_end ?_
  refine gen_Q (fun A2 hA2 => ?_)
  have hsz2 : SzN A2 10 := by rw [hA2]; infer_instance
  have hdf2 : A2.defers = [] := by rw [hA2]; simp only [df_put]; exact hdf0
  have l0_2 := lookE hA2 0 (es rfl l0_0)
  clear hA2 hsz0 hdf0 l0_0
  refine then_n (hK1 _ _ ?_)
  clear hK1
  refine wp_seq_k (fun K3 hK3 => ?_)
  -- region 1
  refine region_in ?_
  refine W_v rfl rfl (V_mov rfl l0_2) ?_
  refine W_call rfl rfl rfl Try.func60 (by kernel_rfl) rfl (args1 (et rfl)) (kcln_c (hS.roC h_cv) (by first | omega | with_reducible assumption) (by first | omega | with_reducible assumption)) ?_
  rintro _ w4 ⟨v_4, rfl, hcp_4, hP4⟩
  refine ⟨_, rfl, ?_⟩
  obtain ⟨c_4, hc_4, hP4⟩ := gen1 hP4
  have hS4 := hS.join hP4
  replace hS4 : St w NoX [c_4] w4 := hS4
  obtain ⟨Y5, hP5, hR5, hF5, hB5⟩ := St.call (pre := [c_4]) (fr := []) hS4
  rw [hc_4] at hP5
  refine W_call rfl rfl rfl Try.func55 (by kernel_rfl) rfl (args2 (et rfl) rfl) (kdls_c  hP5 ) ?_
  rintro _ w6 ⟨u_6, rfl, hcap_6, hP6⟩
  refine ⟨_, rfl, ?_⟩
  obtain ⟨c_6, hc_6, hP6⟩ := gen1 hP6
  have hS6 := hB5 _ _ hP6
  replace hS6 : St w NoX [c_6] w6 := hS6
  refine W_v rfl rfl (V_asg rfl (et rfl)) ?_
  refine W_end ?_
  refine gen_Q (fun A7 hA7 => ?_)
  have hsz7 : SzN A7 10 := by rw [hA7]; infer_instance
  have hdf7 : A7.defers = [] := by rw [hA7]; simp only [df_put]; exact hdf2
  have l3_7 := lookE hA7 3 (et rfl)
  clear hA7 hsz2 hdf2 l0_2
  refine then_n (hK3 _ _ ?_)
  clear hK3
  refine wp_seq_k (fun K8 hK8 => ?_)
  -- region 2
  refine region_in ?_
  refine W_v rfl rfl (V_mov rfl l3_7) ?_
  obtain ⟨Y9, hP9, hR9, hF9, hB9⟩ := St.call (pre := [c_6]) (fr := []) hS6
  rw [hc_6] at hP9
  refine W_call rfl rfl rfl Try.func62 (by kernel_rfl) rfl (args1 (et rfl)) ((sort_St2 (us := sortL (fl (fun x => decide (x ≤ 0)) c)) hP9 (by first | with_reducible assumption | omega) (sortL_len (fl (fun x => decide (x ≤ 0)) c)) (fun g off cap hH hg => Try.slices_Sort_int g off cap (fl (fun x => decide (x ≤ 0)) c) _ hH hg (by omega)))) ?_
  rintro _ w10 ⟨rfl, hP10⟩
  refine ⟨_, rfl, ?_⟩
  obtain ⟨c_10, hc_10, hP10⟩ := gen1 hP10
  have hS10 := hB9 _ _ hP10
  replace hS10 : St w NoX [c_10] w10 := hS10
  refine W_end ?_
  refine gen_Q (fun A11 hA11 => ?_)
  have hsz11 : SzN A11 10 := by rw [hA11]; infer_instance
  have hdf11 : A11.defers = [] := by rw [hA11]; simp only [df_put]; exact hdf7
  have l3_11 := lookE hA11 3 (es rfl (es rfl l3_7))
  clear hA11 hsz7 hdf7 l3_7
  refine then_n (hK8 _ _ ?_)
  clear hK8
  refine wp_seq_k (fun K12 hK12 => ?_)
  -- region 3
  refine region_in ?_
  refine W_v rfl rfl (V_mov rfl l3_11) ?_
  refine W_v rfl rfl (V_asg rfl (et rfl)) ?_
  refine W_end ?_
  refine gen_Q (fun A13 hA13 => ?_)
  have hsz13 : SzN A13 10 := by rw [hA13]; infer_instance
  have hdf13 : A13.defers = [] := by rw [hA13]; simp only [df_put]; exact hdf11
  have l2_13 := lookE hA13 2 (et rfl)
  clear hA13 hsz11 hdf11 l3_11
  refine then_n (hK12 _ _ ?_)
  clear hK12
  refine wp_ret ?_
  refine ret_in (results_1 Try.results49 (rv_tmp l2_13)) hdf13 ?_
  -- leaf 
  exact ⟨_, rfl, (hS10.fin1 0 rfl (hc_10.trans (congrArg (io .i64 _) (srt_fl hr hd))))⟩

set_option maxHeartbeats 4000000 in
theorem kadd_c {cv : Value} {c : List Int} {a : Int} {w : World} {Y : Nat → Prop}  (hS : St w Y [io .i64 cv c] w) (hG : Gd c) (ha : 1 ≤ a ∧ a ≤ 1600) (hn : a ∉ c) :
    Calls Try.prog 42 #[cv, .int .i64 a] w fun e w' => ∃ v, e = .returned (v) ∧ St w Y [io .i64 (v) (addT c a)] w' := by
  have hpb := hG.bd
  have hpl := putT_len c a
  obtain ⟨p1, p2, p3, p4, p5⟩ := put_good hG.toGw ha hn hpb.2.2.2
  have hfl := hG.full
  have hul := usd_le (putT c a)
  have hau := adr_usd (putT c a)
  obtain ⟨n1, n2, n3, n4⟩ := adN_bd p1 (by rw [hpl]; exact hG.p2) (by omega)
  have n1b := n1.bd
  have hbp := fun k h => bld_part (c := putT c a) (n := adN (putT c a)) (k := k) n2 h
  have htl := tgK_len (putT c a) 1600
  refine calls_in 49 Try.func42 rfl rfl (by simp) (fun A0 hsz0 hdf0 hargs => ?_)
  have l0_0 := hargs 0 (cv) rfl
  have l1_0 := hargs 1 (.int .i64 a) rfl
  clear hargs; replace hsz0 : SzN A0 49 := ⟨hsz0⟩
  obtain ⟨m_cv, hm_cv, hS⟩ := gen1 hS
  replace hS : St w Y [m_cv] w := hS
  have bm_cv := SlN.le (ow_at (hS.chq 0 rfl hm_cv))
  refine wp_seq_k (fun K1 hK1 => ?_)
  -- region 0
  refine region_in ?_
  refine W_v rfl rfl (V_asg rfl rfl) ?_
  refine W_end ?_
  refine gen_Q (fun A2 hA2 => ?_)
  have hsz2 : SzN A2 49 := by rw [hA2]; infer_instance
  have hdf2 : A2.defers = [] := by rw [hA2]; simp only [df_put]; exact hdf0
  have l0_2 := lookE hA2 0 (es rfl l0_0)
  have l1_2 := lookE hA2 1 (es rfl l1_0)
  clear hA2 hsz0 hdf0 l0_0 l1_0
  refine then_n (hK1 _ _ ?_)
  clear hK1
  refine wp_seq_k (fun K3 hK3 => ?_)
  -- region 1
  refine region_in ?_
  refine W_v rfl rfl (V_mov rfl l0_2) ?_
  refine W_v rfl rfl (V_mov rfl (es rfl l1_2)) ?_
  obtain ⟨Y4, hP4, hR4, hF4, hB4⟩ := St.call (pre := [m_cv]) (fr := []) hS
  rw [hm_cv] at hP4
  refine W_call rfl rfl rfl Try.func57 (by kernel_rfl) rfl (args2 (es rfl (et rfl)) (et rfl)) (kput_c (a := a)  hP4 (by first | with_reducible assumption | with_reducible exact hG.p2 | with_reducible exact hG2.p2 | (rw [hbl]; exact n1) | (simp only [List.length_set, List.length_replicate] <;> assumption)) (by first | omega | with_reducible assumption)) ?_
  rintro _ w5 ⟨rfl, hP5⟩
  refine ⟨_, rfl, ?_⟩
  obtain ⟨c_5, hc_5, hP5⟩ := gen1 hP5
  have hS5 := hB4 _ _ hP5
  replace hS5 : St w Y [c_5] w5 := hS5
  refine W_end ?_
  refine gen_Q (fun A6 hA6 => ?_)
  have hsz6 : SzN A6 49 := by rw [hA6]; infer_instance
  have hdf6 : A6.defers = [] := by rw [hA6]; simp only [df_put]; exact hdf2
  have l0_6 := lookE hA6 0 (es rfl (es rfl (es rfl l0_2)))
  clear hA6 hsz2 hdf2 l0_2 l1_2
  refine then_n (hK3 _ _ ?_)
  clear hK3
  refine wp_seq_k (fun K7 hK7 => ?_)
  -- region 2
  refine region_in ?_
  refine W_v rfl rfl (V_mov rfl l0_6) ?_
  refine W_call rfl rfl rfl Try.func54 (by kernel_rfl) rfl (args1 (et rfl)) (kcnt_c (hS5.chC 0 rfl hc_5).own ) ?_
  rintro _ w8 ⟨rfl, hP8⟩
  refine ⟨_, rfl, ?_⟩
  have hS8 := hS5.join hP8
  replace hS8 : St w Y [c_5] w8 := hS8
  refine W_v rfl rfl (V_mov rfl (et rfl)) ?_
  refine W_v rfl rfl (V_ext (v := .int .i64 (((usd (putT c a) : Nat) : Int))) rfl (et rfl) rfl) ?_
  refine W_v rfl rfl (V_ext (v := .int .i64 (((adr (putT c a) : Nat) : Int))) rfl (es rfl (et rfl)) rfl) ?_
  refine W_v rfl rfl (V_asg rfl (es rfl (et rfl))) ?_
  refine W_v rfl rfl (V_asg rfl (es rfl (et rfl))) ?_
  refine W_end ?_
  refine gen_Q (fun A9 hA9 => ?_)
  have hsz9 : SzN A9 49 := by rw [hA9]; infer_instance
  have hdf9 : A9.defers = [] := by rw [hA9]; simp only [df_put]; exact hdf6
  have l0_9 := lookE hA9 0 (es rfl (es rfl (es rfl (es rfl (es rfl (es rfl (es rfl l0_6)))))))
  have l5_9 := lookE hA9 5 (es rfl (et rfl))
  have l6_9 := lookE hA9 6 (et rfl)
  clear hA9 hsz6 hdf6 l0_6
  refine then_n (hK7 _ _ ?_)
  clear hK7
  refine wp_seq_k (fun K10 hK10 => ?_)
  refine wp_seq_k (fun K11 hK11 => ?_)
  -- region 3
  refine region_in ?_
  refine W_v rfl rfl (V_mov rfl l5_9) ?_
  refine W_v rfl rfl (V_mul rfl rfl (et rfl) (by omega) (by omega)) ?_
  refine W_v rfl rfl (V_mov rfl (es rfl (es rfl l0_9))) ?_
  refine W_v rfl rfl (V_lenS rfl (et rfl) (ow_at (hS8.chq 0 rfl hc_5)) Try.underlying22) ?_
  refine W_v rfl rfl (V_mul rfl rfl (et rfl) (by omega) (by omega)) ?_
  refine W_v rfl rfl (V_leq rfl (es rfl (es rfl (es rfl (et rfl)))) (et rfl)) ?_
  refine W_end ?_
  refine gen_Q (fun A12 hA12 => ?_)
  have hsz12 : SzN A12 49 := by rw [hA12]; infer_instance
  have hdf12 : A12.defers = [] := by rw [hA12]; simp only [df_put]; exact hdf9
  have l0_12 := lookE hA12 0 (es rfl (es rfl (es rfl (es rfl (es rfl (es rfl l0_9))))))
  have l6_12 := lookE hA12 6 (es rfl (es rfl (es rfl (es rfl (es rfl (es rfl l6_9))))))
  have l24_12 := lookE hA12 24 (et rfl)
  clear hA12 hsz9 hdf9 l0_9 l5_9 l6_9
  refine then_n (hK11 _ _ ?_)
  clear hK11
  refine cond_dec l24_12 (fun c13 => ?_) (fun c13 => ?_)
  · skip
    refine wp_seq_k (fun K14 hK14 => ?_)
    -- region 4
    refine region_in ?_
    refine W_v rfl rfl (V_mov rfl l0_12) ?_
    refine W_v rfl rfl (V_asg rfl (et rfl)) ?_
    refine W_end ?_
    refine gen_Q (fun A15 hA15 => ?_)
    have hsz15 : SzN A15 49 := by rw [hA15]; infer_instance
    have hdf15 : A15.defers = [] := by rw [hA15]; simp only [df_put]; exact hdf12
    have l4_15 := lookE hA15 4 (et rfl)
    clear hA15 hsz12 hdf12 l0_12 l6_12 l24_12
    refine then_n (hK14 _ _ ?_)
    clear hK14
    refine wp_ret ?_
    refine then_ret ?_
    refine ret_in (results_1 Try.results42 (rv_tmp l4_15)) hdf15 ?_
    -- leaf T
    exact ⟨_, rfl, (hS8.fin1 0 rfl (hc_5.trans (congrArg (io .i64 _) (addT_no c13))))⟩
  · skip
    refine wp_skip ?_
    refine then_n (hK10 _ _ ?_)
    clear hK10
    refine wp_seq_k (fun K16 hK16 => ?_)
    -- region 5
    refine region_in ?_
    refine W_v rfl rfl (V_mov rfl l0_12) ?_
    refine W_v rfl rfl (V_lenS rfl (et rfl) (ow_at (hS8.chq 0 rfl hc_5)) Try.underlying22) ?_
    refine W_v rfl rfl (V_asg rfl (et rfl)) ?_
    refine W_end ?_
    refine gen_Q (fun A17 hA17 => ?_)
    have hsz17 : SzN A17 49 := by rw [hA17]; infer_instance
    have hdf17 : A17.defers = [] := by rw [hA17]; simp only [df_put]; exact hdf12
    have l0_17 := lookE hA17 0 (es rfl (es rfl (es rfl l0_12)))
    have l6_17 := lookE hA17 6 (es rfl (es rfl (es rfl l6_12)))
    have l7_17 := lookE hA17 7 (et rfl)
    clear hA17 hsz12 hdf12 l0_12 l6_12 l24_12
    refine then_n (hK16 _ _ ?_)
    clear hK16
    refine wp_seq_k (fun K18 hK18 => ?_)
    refine wp_seq_k (fun K19 hK19 => ?_)
    -- region 6
    refine region_in ?_
    refine W_v rfl rfl (V_mov rfl l6_17) ?_
    refine W_v rfl rfl (V_mul rfl rfl (et rfl) (by omega) (by omega)) ?_
    refine W_v rfl rfl (V_mov rfl (es rfl (es rfl l7_17))) ?_
    refine W_v rfl rfl (V_mul rfl rfl (et rfl) (by omega) (by omega)) ?_
    refine W_v rfl rfl (V_gtr rfl (es rfl (es rfl (et rfl))) (et rfl)) ?_
    refine W_end ?_
    refine gen_Q (fun A20 hA20 => ?_)
    have hsz20 : SzN A20 49 := by rw [hA20]; infer_instance
    have hdf20 : A20.defers = [] := by rw [hA20]; simp only [df_put]; exact hdf17
    have l0_20 := lookE hA20 0 (es rfl (es rfl (es rfl (es rfl (es rfl l0_17)))))
    have l7_20 := lookE hA20 7 (es rfl (es rfl (es rfl (es rfl (es rfl l7_17)))))
    have l32_20 := lookE hA20 32 (et rfl)
    clear hA20 hsz17 hdf17 l0_17 l6_17 l7_17
    refine then_n (hK19 _ _ ?_)
    clear hK19
    refine cond_dec l32_20 (fun c21 => ?_) (fun c21 => ?_)
    · skip
      have hN : adN (putT c a) = 2 * (putT c a).length := if_pos (by omega)
      -- region 7
      refine region_in ?_
      refine W_v rfl rfl (V_mov rfl l7_20) ?_
      refine W_v rfl rfl (V_mul rfl (et rfl) rfl (by omega) (by omega)) ?_
      refine W_v rfl rfl (V_asg rfl (et rfl)) ?_
      refine W_end ?_
      refine gen_Q (fun A22 hA22 => ?_)
      have hsz22 : SzN A22 49 := by rw [hA22]; infer_instance
      have hdf22 : A22.defers = [] := by rw [hA22]; simp only [df_put]; exact hdf20
      have l0_22 := lookE hA22 0 (es rfl (es rfl (es rfl l0_20)))
      have l7_22 := lookE hA22 7 (et rfl)
      clear hA22 hsz20 hdf20 l0_20 l7_20 l32_20
      refine then_n (hK18 _ _ ?_)
      clear hK18
      refine wp_seq_k (fun K23 hK23 => ?_)
      -- region 8
      refine region_in ?_
      refine W_v rfl rfl (V_mov rfl l7_22) ?_
      refine W_mkS (z := .int .i64 0) (bytes := 8) (adN (putT c a)) hS8 rfl rfl rfl (et rfl) (et rfl) (by omega) Try.underlying22 (by kernel_rfl) (by omega) rfl (fun v24 w24 c24 hc24 hS24 => ?_)
      replace hc24 : c24 = io .i64 v24 (List.replicate (adN (putT c a)) (0 : Int)) := hc24.trans (by simp only [io, bo, List.map_replicate, List.length_replicate])
      replace hS24 : St w Y [c24, c_5] w24 := hS24
      refine W_v rfl rfl (V_asg rfl (et rfl)) ?_
      refine W_end ?_
      refine gen_Q (fun A25 hA25 => ?_)
      have hsz25 : SzN A25 49 := by rw [hA25]; infer_instance
      have hdf25 : A25.defers = [] := by rw [hA25]; simp only [df_put]; exact hdf22
      have l0_25 := lookE hA25 0 (es rfl (es rfl (es rfl l0_22)))
      have l8_25 := lookE hA25 8 (et rfl)
      clear hA25 hsz22 hdf22 l0_22 l7_22
      refine then_n (hK23 _ _ ?_)
      clear hK23
      refine wp_seq_k (fun K26 hK26 => ?_)
      refine wp_seq_k (fun K27 hK27 => ?_)
      -- region 9
      refine region_in ?_
      refine W_v rfl rfl (V_mov rfl l0_25) ?_
      refine W_call rfl rfl rfl Try.func49 (by kernel_rfl) rfl (args1 (et rfl)) (ksr_c (hS24.chC 1 rfl hc_5).own (by first | omega | with_reducible assumption) (by first | omega | with_reducible assumption) (by first | with_reducible assumption | with_reducible exact hG.rng | with_reducible exact p1.rng | with_reducible exact hr2) (by first | with_reducible assumption | with_reducible exact hG.dst | with_reducible exact p1.dst | with_reducible exact hd2)) ?_
      rintro _ w28 ⟨v_28, rfl, hP28⟩
      refine ⟨_, rfl, ?_⟩
      obtain ⟨c_28, hc_28, hP28⟩ := gen1 hP28
      have hS28 := hS24.join hP28
      replace hS28 : St w Y [c_28, c24, c_5] w28 := hS28
      refine W_v rfl rfl (V_lenS rfl (et rfl) (ow_at (hS28.chq 0 rfl hc_28)) Try.underlying22) ?_
      refine W_v rfl rfl (V_mov rfl rfl) ?_
      refine W_end ?_
      refine gen_Q (fun A29 hA29 => ?_)
      have hsz29 : SzN A29 49 := by rw [hA29]; infer_instance
      have hdf29 : A29.defers = [] := by rw [hA29]; simp only [df_put]; exact hdf25
      have l8_29 := lookE hA29 8 (es rfl (es rfl (es rfl (es rfl l8_25))))
      have l38_29 := lookE hA29 38 (es rfl (es rfl (et rfl)))
      have l39_29 := lookE hA29 39 (es rfl (et rfl))
      have l40_29 := lookE hA29 40 (et rfl)
      clear hA29 hsz25 hdf25 l0_25 l8_25
      refine then_n (hK27 _ _ ?_)
      clear hK27
      refine wp_block ?_
      -- loop 10
      refine loopX (fun mz A' w' => SzN A' 49 ∧ A'.defers = [] ∧ (∃ (k : Nat), (mz = (tgK (putT c a) 1600).length - k) ∧ (k ≤ (tgK (putT c a) 1600).length) ∧ ((bld (adN (putT c a)) ((tgK (putT c a) 1600).take k)).length = (adN (putT c a))) ∧ (adr (bld (adN (putT c a)) ((tgK (putT c a) 1600).take k)) = k) ∧ (EV A' (.tmp 40) = .int .i64 (k : Int)) ∧ (EV A' (.tmp 8) = EV A29 (.tmp 8)) ∧ (EV A' (.tmp 38) = EV A29 (.tmp 38)) ∧ (EV A' (.tmp 39) = EV A29 (.tmp 39)) ∧ (St w Y [io .i64 v_28 (tgK (putT c a) 1600), io .i64 v24 (bld (adN (putT c a)) ((tgK (putT c a) 1600).take k)), io .i64 cv (putT c a)] w'))) ((tgK (putT c a) 1600).length - 0) ⟨hsz29, hdf29, 0, rfl, (by omega), (hbp 0 (by omega)).1, (hbp 0 (by omega)).2.1, ((l40_29).trans (by first | rfl | (simp; done) | (congr 1; omega))), rfl, rfl, rfl, (by have q0 := hc_28; have q1 : c24 = io .i64 v24 (bld (adN (putT c a)) ((tgK (putT c a) 1600).take 0)) := hc24.trans (rfl); have q2 := hc_5; subst q0 q1 q2; exact hS28)⟩ ?_
      clear hS28 hc_28 hc24 hc_5
      rintro n30 A30 w30 ⟨hsz30, hdf30, k, hm30, hk, hbl, hba, l40_30, u8_30, u38_30, u39_30, hS30⟩
      have l8_30 := u8_30.trans l8_29
      have l38_30 := u38_30.trans l38_29
      have l39_30 := u39_30.trans l39_29
      obtain ⟨c_30, c24_30, c_30b, hc_30, hc24_30, hc_30b, hS30⟩ := gen3 hS30
      refine wp_seq_k (fun K31 hK31 => ?_)
      -- region 10
      refine region_in ?_
      refine W_v rfl rfl (V_lss rfl l40_30 l39_30) ?_
      refine W_end ?_
      refine gen_Q (fun A32 hA32 => ?_)
      have hsz32 : SzN A32 49 := by rw [hA32]; infer_instance
      have hdf32 : A32.defers = [] := by rw [hA32]; simp only [df_put]; exact hdf30
      have l8_32 := lookE hA32 8 (es rfl l8_30)
      have l38_32 := lookE hA32 38 (es rfl l38_30)
      have l39_32 := lookE hA32 39 (es rfl l39_30)
      have l40_32 := lookE hA32 40 (es rfl l40_30)
      have l41_32 := lookE hA32 41 (et rfl)
      clear hA32 hsz30 hdf30 l40_30 l8_30 l38_30 l39_30
      refine then_n (hK31 _ _ ?_)
      clear hK31
      refine wp_seq_k (fun K33 hK33 => ?_)
      refine cond_dec l41_32 (fun c34 => ?_) (fun c34 => ?_)
      · skip
        refine wp_skip ?_
        refine then_n (hK33 _ _ ?_)
        clear hK33
        refine wp_seq_k (fun K35 hK35 => ?_)
        refine wp_block ?_
        refine wp_seq_k (fun K36 hK36 => ?_)
        -- region 11
        refine region_in ?_
        have k37 : k < (tgK (putT c a) 1600).length := by first | omega | (simp only [List.length_cons, List.length_nil]; omega) | (simp only [List.length_set]; omega)
        obtain ⟨y37, hy37⟩ := get_some (xs := (tgK (putT c a) 1600)) (k := k) k37
        have hry37 := tgK_rng y37 (List.mem_of_getElem? hy37)
        obtain ⟨B37, O37, C37, hv37⟩ := (SlN.blk (ow_at (hS30.chq 0 rfl hc_30)) (by first | omega | (simp only [List.length_cons, List.length_nil]; omega) | (simp only [List.length_set]; omega)))
        refine W_v rfl rfl (V_ixS (off := O37 + k) 1 (k) rfl l38_32 l40_32 hv37 (by omega) k37 Try.underlying22 (by kernel_rfl) (congrArg _ (Nat.mul_one _))) ?_
        refine W_r rfl rfl (VR_ldC rfl (et rfl) ((ow_at (hS30.chq 0 rfl hc_30)).cell hv37 (map_get hy37)) Try.underlying3 rfl) ?_
        refine W_v rfl rfl (V_asg rfl (et rfl)) ?_
        refine W_end ?_
        refine gen_Q (fun A38 hA38 => ?_)
        have hsz38 : SzN A38 49 := by rw [hA38]; infer_instance
        have hdf38 : A38.defers = [] := by rw [hA38]; simp only [df_put]; exact hdf32
        have l8_38 := lookE hA38 8 (es rfl (es rfl (es rfl l8_32)))
        have l10_38 := lookE hA38 10 (et rfl)
        have l38_38 := lookE hA38 38 (es rfl (es rfl (es rfl l38_32)))
        have l39_38 := lookE hA38 39 (es rfl (es rfl (es rfl l39_32)))
        have l40_38 := lookE hA38 40 (es rfl (es rfl (es rfl l40_32)))
        clear hA38 hsz32 hdf32 l8_32 l38_32 l39_32 l40_32 l41_32
        refine then_n (hK36 _ _ ?_)
        clear hK36
        -- region 12
        refine region_in ?_
        refine W_v rfl rfl (V_mov rfl l8_38) ?_
        refine W_v rfl rfl (V_mov rfl (es rfl l10_38)) ?_
        have hS39 := hS30.sel [1, 0, 2] (by decide) (l' := [c24_30, c_30, c_30b]) rfl
        replace hS39 : St w Y [c24_30, c_30, c_30b] w30 := hS39
        obtain ⟨Y40, hP40, hR40, hF40, hB40⟩ := St.call (pre := [c24_30]) (fr := [c_30, c_30b]) hS39
        rw [hc24_30] at hP40
        refine W_call rfl rfl rfl Try.func57 (by kernel_rfl) rfl (args2 (es rfl (et rfl)) (et rfl)) (kput_c (a := y37)  hP40 (by first | with_reducible assumption | with_reducible exact hG.p2 | with_reducible exact hG2.p2 | (rw [hbl]; exact n1) | (simp only [List.length_set, List.length_replicate] <;> assumption)) (by first | omega | with_reducible assumption)) ?_
        rintro _ w41 ⟨rfl, hP41⟩
        refine ⟨_, rfl, ?_⟩
        obtain ⟨c_41, hc_41, hP41⟩ := gen1 hP41
        have hS41 := hB40 _ _ hP41
        replace hS41 : St w Y [c_41, c_30, c_30b] w41 := hS41
        refine W_end ?_
        refine gen_Q (fun A42 hA42 => ?_)
        have hsz42 : SzN A42 49 := by rw [hA42]; infer_instance
        have hdf42 : A42.defers = [] := by rw [hA42]; simp only [df_put]; exact hdf38
        have l8_42 := lookE hA42 8 (es rfl (es rfl (es rfl l8_38)))
        have l38_42 := lookE hA42 38 (es rfl (es rfl (es rfl l38_38)))
        have l39_42 := lookE hA42 39 (es rfl (es rfl (es rfl l39_38)))
        have l40_42 := lookE hA42 40 (es rfl (es rfl (es rfl l40_38)))
        clear hA42 hsz38 hdf38 l8_38 l10_38 l38_38 l39_38 l40_38
        refine inb_n ?_
        refine then_n (hK35 _ _ ?_)
        clear hK35
        -- region 13
        refine region_in ?_
        refine W_v rfl rfl (V_add rfl l40_42 rfl (by omega) (by omega)) ?_
        refine W_v rfl rfl (V_mov rfl (et rfl)) ?_
        refine W_end ?_
        refine gen_Q (fun A43 hA43 => ?_)
        have hsz43 : SzN A43 49 := by rw [hA43]; infer_instance
        have hdf43 : A43.defers = [] := by rw [hA43]; simp only [df_put]; exact hdf42
        have l8_43 := lookE hA43 8 (es rfl (es rfl l8_42))
        have l38_43 := lookE hA43 38 (es rfl (es rfl l38_42))
        have l39_43 := lookE hA43 39 (es rfl (es rfl l39_42))
        have l40_43 := lookE hA43 40 (et rfl)
        clear hA43 hsz42 hdf42 l8_42 l38_42 l39_42 l40_42
        have hS44 : St w Y [c_30, c_41, c_30b] w41 := hS41.sel [1, 0, 2] (by decide) rfl
        refine then_n ⟨(tgK (putT c a) 1600).length - (k + 1), by simp only [hm30]; omega, hsz43, hdf43, (k + 1), rfl, (by omega), (hbp (k + 1) (by omega)).1, (hbp (k + 1) (by omega)).2.1, ((l40_43).trans (by first | rfl | (simp; done) | (congr 1; omega))), ((l8_43).trans l8_29.symm), ((l38_43).trans l38_29.symm), ((l39_43).trans l39_29.symm), (by have q0 := hc_30; have q1 : c_41 = io .i64 v24 (bld (adN (putT c a)) ((tgK (putT c a) 1600).take (k + 1))) := hc_41.trans ((congrArg (io .i64 _) (bld_take hy37))); have q2 := hc_30b; subst q0 q1 q2; exact hS44)⟩
      · skip
        refine wp_exit ?_
        refine then_exit ?_
        refine then_exit ?_
        refine inb_hit ?_
        refine then_n (hK26 _ _ ?_)
        clear hK26
        refine wp_seq_k (fun K45 hK45 => ?_)
        -- region 14
        refine region_in ?_
        refine W_v rfl rfl (V_mov rfl l8_32) ?_
        refine W_v rfl rfl (V_asg rfl (et rfl)) ?_
        refine W_end ?_
        refine gen_Q (fun A46 hA46 => ?_)
        have hsz46 : SzN A46 49 := by rw [hA46]; infer_instance
        have hdf46 : A46.defers = [] := by rw [hA46]; simp only [df_put]; exact hdf32
        have l4_46 := lookE hA46 4 (et rfl)
        clear hA46 hsz32 hdf32 l8_32 l38_32 l39_32 l40_32 l41_32
        have hS47 : St w Y [c24_30, c_30b] w30 := hS30.sel [1, 2] (by decide) rfl
        refine then_n (hK45 _ _ ?_)
        clear hK45
        refine wp_ret ?_
        refine ret_in (results_1 Try.results42 (rv_tmp l4_46)) hdf46 ?_
        -- leaf FTF
        exact ⟨_, rfl, (hS47.fin1 0 rfl (hc24_30.trans (congrArg (io .i64 _) (addT_yes c13 (by omega)))))⟩
    · skip
      have hN : adN (putT c a) = (putT c a).length := if_neg (by omega)
      refine wp_skip ?_
      refine then_n (hK18 _ _ ?_)
      clear hK18
      refine wp_seq_k (fun K48 hK48 => ?_)
      -- region 8
      refine region_in ?_
      refine W_v rfl rfl (V_mov rfl l7_20) ?_
      refine W_mkS (z := .int .i64 0) (bytes := 8) (adN (putT c a)) hS8 rfl rfl rfl (et rfl) (et rfl) (by omega) Try.underlying22 (by kernel_rfl) (by omega) rfl (fun v49 w49 c49 hc49 hS49 => ?_)
      replace hc49 : c49 = io .i64 v49 (List.replicate (adN (putT c a)) (0 : Int)) := hc49.trans (by simp only [io, bo, List.map_replicate, List.length_replicate])
      replace hS49 : St w Y [c49, c_5] w49 := hS49
      refine W_v rfl rfl (V_asg rfl (et rfl)) ?_
      refine W_end ?_
      refine gen_Q (fun A50 hA50 => ?_)
      have hsz50 : SzN A50 49 := by rw [hA50]; infer_instance
      have hdf50 : A50.defers = [] := by rw [hA50]; simp only [df_put]; exact hdf20
      have l0_50 := lookE hA50 0 (es rfl (es rfl (es rfl l0_20)))
      have l8_50 := lookE hA50 8 (et rfl)
      clear hA50 hsz20 hdf20 l0_20 l7_20 l32_20
      refine then_n (hK48 _ _ ?_)
      clear hK48
      refine wp_seq_k (fun K51 hK51 => ?_)
      refine wp_seq_k (fun K52 hK52 => ?_)
      -- region 9
      refine region_in ?_
      refine W_v rfl rfl (V_mov rfl l0_50) ?_
      refine W_call rfl rfl rfl Try.func49 (by kernel_rfl) rfl (args1 (et rfl)) (ksr_c (hS49.chC 1 rfl hc_5).own (by first | omega | with_reducible assumption) (by first | omega | with_reducible assumption) (by first | with_reducible assumption | with_reducible exact hG.rng | with_reducible exact p1.rng | with_reducible exact hr2) (by first | with_reducible assumption | with_reducible exact hG.dst | with_reducible exact p1.dst | with_reducible exact hd2)) ?_
      rintro _ w53 ⟨v_53, rfl, hP53⟩
      refine ⟨_, rfl, ?_⟩
      obtain ⟨c_53, hc_53, hP53⟩ := gen1 hP53
      have hS53 := hS49.join hP53
      replace hS53 : St w Y [c_53, c49, c_5] w53 := hS53
      refine W_v rfl rfl (V_lenS rfl (et rfl) (ow_at (hS53.chq 0 rfl hc_53)) Try.underlying22) ?_
      refine W_v rfl rfl (V_mov rfl rfl) ?_
      refine W_end ?_
      refine gen_Q (fun A54 hA54 => ?_)
      have hsz54 : SzN A54 49 := by rw [hA54]; infer_instance
      have hdf54 : A54.defers = [] := by rw [hA54]; simp only [df_put]; exact hdf50
      have l8_54 := lookE hA54 8 (es rfl (es rfl (es rfl (es rfl l8_50))))
      have l38_54 := lookE hA54 38 (es rfl (es rfl (et rfl)))
      have l39_54 := lookE hA54 39 (es rfl (et rfl))
      have l40_54 := lookE hA54 40 (et rfl)
      clear hA54 hsz50 hdf50 l0_50 l8_50
      refine then_n (hK52 _ _ ?_)
      clear hK52
      refine wp_block ?_
      -- loop 10
      refine loopX (fun mz A' w' => SzN A' 49 ∧ A'.defers = [] ∧ (∃ (k : Nat), (mz = (tgK (putT c a) 1600).length - k) ∧ (k ≤ (tgK (putT c a) 1600).length) ∧ ((bld (adN (putT c a)) ((tgK (putT c a) 1600).take k)).length = (adN (putT c a))) ∧ (adr (bld (adN (putT c a)) ((tgK (putT c a) 1600).take k)) = k) ∧ (EV A' (.tmp 40) = .int .i64 (k : Int)) ∧ (EV A' (.tmp 8) = EV A54 (.tmp 8)) ∧ (EV A' (.tmp 38) = EV A54 (.tmp 38)) ∧ (EV A' (.tmp 39) = EV A54 (.tmp 39)) ∧ (St w Y [io .i64 v_53 (tgK (putT c a) 1600), io .i64 v49 (bld (adN (putT c a)) ((tgK (putT c a) 1600).take k)), io .i64 cv (putT c a)] w'))) ((tgK (putT c a) 1600).length - 0) ⟨hsz54, hdf54, 0, rfl, (by omega), (hbp 0 (by omega)).1, (hbp 0 (by omega)).2.1, ((l40_54).trans (by first | rfl | (simp; done) | (congr 1; omega))), rfl, rfl, rfl, (by have q0 := hc_53; have q1 : c49 = io .i64 v49 (bld (adN (putT c a)) ((tgK (putT c a) 1600).take 0)) := hc49.trans (rfl); have q2 := hc_5; subst q0 q1 q2; exact hS53)⟩ ?_
      clear hS53 hc_53 hc49 hc_5
      rintro n55 A55 w55 ⟨hsz55, hdf55, k, hm55, hk, hbl, hba, l40_55, u8_55, u38_55, u39_55, hS55⟩
      have l8_55 := u8_55.trans l8_54
      have l38_55 := u38_55.trans l38_54
      have l39_55 := u39_55.trans l39_54
      obtain ⟨c_55, c49_55, c_55b, hc_55, hc49_55, hc_55b, hS55⟩ := gen3 hS55
      refine wp_seq_k (fun K56 hK56 => ?_)
      -- region 10
      refine region_in ?_
      refine W_v rfl rfl (V_lss rfl l40_55 l39_55) ?_
      refine W_end ?_
      refine gen_Q (fun A57 hA57 => ?_)
      have hsz57 : SzN A57 49 := by rw [hA57]; infer_instance
      have hdf57 : A57.defers = [] := by rw [hA57]; simp only [df_put]; exact hdf55
      have l8_57 := lookE hA57 8 (es rfl l8_55)
      have l38_57 := lookE hA57 38 (es rfl l38_55)
      have l39_57 := lookE hA57 39 (es rfl l39_55)
      have l40_57 := lookE hA57 40 (es rfl l40_55)
      have l41_57 := lookE hA57 41 (et rfl)
      clear hA57 hsz55 hdf55 l40_55 l8_55 l38_55 l39_55
      refine then_n (hK56 _ _ ?_)
      clear hK56
      refine wp_seq_k (fun K58 hK58 => ?_)
      refine cond_dec l41_57 (fun c59 => ?_) (fun c59 => ?_)
      · skip
        refine wp_skip ?_
        refine then_n (hK58 _ _ ?_)
        clear hK58
        refine wp_seq_k (fun K60 hK60 => ?_)
        refine wp_block ?_
        refine wp_seq_k (fun K61 hK61 => ?_)
        -- region 11
        refine region_in ?_
        have k62 : k < (tgK (putT c a) 1600).length := by first | omega | (simp only [List.length_cons, List.length_nil]; omega) | (simp only [List.length_set]; omega)
        obtain ⟨y62, hy62⟩ := get_some (xs := (tgK (putT c a) 1600)) (k := k) k62
        have hry62 := tgK_rng y62 (List.mem_of_getElem? hy62)
        obtain ⟨B62, O62, C62, hv62⟩ := (SlN.blk (ow_at (hS55.chq 0 rfl hc_55)) (by first | omega | (simp only [List.length_cons, List.length_nil]; omega) | (simp only [List.length_set]; omega)))
        refine W_v rfl rfl (V_ixS (off := O62 + k) 1 (k) rfl l38_57 l40_57 hv62 (by omega) k62 Try.underlying22 (by kernel_rfl) (congrArg _ (Nat.mul_one _))) ?_
        refine W_r rfl rfl (VR_ldC rfl (et rfl) ((ow_at (hS55.chq 0 rfl hc_55)).cell hv62 (map_get hy62)) Try.underlying3 rfl) ?_
        refine W_v rfl rfl (V_asg rfl (et rfl)) ?_
        refine W_end ?_
        refine gen_Q (fun A63 hA63 => ?_)
        have hsz63 : SzN A63 49 := by rw [hA63]; infer_instance
        have hdf63 : A63.defers = [] := by rw [hA63]; simp only [df_put]; exact hdf57
        have l8_63 := lookE hA63 8 (es rfl (es rfl (es rfl l8_57)))
        have l10_63 := lookE hA63 10 (et rfl)
        have l38_63 := lookE hA63 38 (es rfl (es rfl (es rfl l38_57)))
        have l39_63 := lookE hA63 39 (es rfl (es rfl (es rfl l39_57)))
        have l40_63 := lookE hA63 40 (es rfl (es rfl (es rfl l40_57)))
        clear hA63 hsz57 hdf57 l8_57 l38_57 l39_57 l40_57 l41_57
        refine then_n (hK61 _ _ ?_)
        clear hK61
        -- region 12
        refine region_in ?_
        refine W_v rfl rfl (V_mov rfl l8_63) ?_
        refine W_v rfl rfl (V_mov rfl (es rfl l10_63)) ?_
        have hS64 := hS55.sel [1, 0, 2] (by decide) (l' := [c49_55, c_55, c_55b]) rfl
        replace hS64 : St w Y [c49_55, c_55, c_55b] w55 := hS64
        obtain ⟨Y65, hP65, hR65, hF65, hB65⟩ := St.call (pre := [c49_55]) (fr := [c_55, c_55b]) hS64
        rw [hc49_55] at hP65
        refine W_call rfl rfl rfl Try.func57 (by kernel_rfl) rfl (args2 (es rfl (et rfl)) (et rfl)) (kput_c (a := y62)  hP65 (by first | with_reducible assumption | with_reducible exact hG.p2 | with_reducible exact hG2.p2 | (rw [hbl]; exact n1) | (simp only [List.length_set, List.length_replicate] <;> assumption)) (by first | omega | with_reducible assumption)) ?_
        rintro _ w66 ⟨rfl, hP66⟩
        refine ⟨_, rfl, ?_⟩
        obtain ⟨c_66, hc_66, hP66⟩ := gen1 hP66
        have hS66 := hB65 _ _ hP66
        replace hS66 : St w Y [c_66, c_55, c_55b] w66 := hS66
        refine W_end ?_
        refine gen_Q (fun A67 hA67 => ?_)
        have hsz67 : SzN A67 49 := by rw [hA67]; infer_instance
        have hdf67 : A67.defers = [] := by rw [hA67]; simp only [df_put]; exact hdf63
        have l8_67 := lookE hA67 8 (es rfl (es rfl (es rfl l8_63)))
        have l38_67 := lookE hA67 38 (es rfl (es rfl (es rfl l38_63)))
        have l39_67 := lookE hA67 39 (es rfl (es rfl (es rfl l39_63)))
        have l40_67 := lookE hA67 40 (es rfl (es rfl (es rfl l40_63)))
        clear hA67 hsz63 hdf63 l8_63 l10_63 l38_63 l39_63 l40_63
        refine inb_n ?_
        refine then_n (hK60 _ _ ?_)
        clear hK60
        -- region 13
        refine region_in ?_
        refine W_v rfl rfl (V_add rfl l40_67 rfl (by omega) (by omega)) ?_
        refine W_v rfl rfl (V_mov rfl (et rfl)) ?_
        refine W_end ?_
        refine gen_Q (fun A68 hA68 => ?_)
        have hsz68 : SzN A68 49 := by rw [hA68]; infer_instance
        have hdf68 : A68.defers = [] := by rw [hA68]; simp only [df_put]; exact hdf67
        have l8_68 := lookE hA68 8 (es rfl (es rfl l8_67))
        have l38_68 := lookE hA68 38 (es rfl (es rfl l38_67))
        have l39_68 := lookE hA68 39 (es rfl (es rfl l39_67))
        have l40_68 := lookE hA68 40 (et rfl)
        clear hA68 hsz67 hdf67 l8_67 l38_67 l39_67 l40_67
        have hS69 : St w Y [c_55, c_66, c_55b] w66 := hS66.sel [1, 0, 2] (by decide) rfl
        refine then_n ⟨(tgK (putT c a) 1600).length - (k + 1), by simp only [hm55]; omega, hsz68, hdf68, (k + 1), rfl, (by omega), (hbp (k + 1) (by omega)).1, (hbp (k + 1) (by omega)).2.1, ((l40_68).trans (by first | rfl | (simp; done) | (congr 1; omega))), ((l8_68).trans l8_54.symm), ((l38_68).trans l38_54.symm), ((l39_68).trans l39_54.symm), (by have q0 := hc_55; have q1 : c_66 = io .i64 v49 (bld (adN (putT c a)) ((tgK (putT c a) 1600).take (k + 1))) := hc_66.trans ((congrArg (io .i64 _) (bld_take hy62))); have q2 := hc_55b; subst q0 q1 q2; exact hS69)⟩
      · skip
        refine wp_exit ?_
        refine then_exit ?_
        refine then_exit ?_
        refine inb_hit ?_
        refine then_n (hK51 _ _ ?_)
        clear hK51
        refine wp_seq_k (fun K70 hK70 => ?_)
        -- region 14
        refine region_in ?_
        refine W_v rfl rfl (V_mov rfl l8_57) ?_
        refine W_v rfl rfl (V_asg rfl (et rfl)) ?_
        refine W_end ?_
        refine gen_Q (fun A71 hA71 => ?_)
        have hsz71 : SzN A71 49 := by rw [hA71]; infer_instance
        have hdf71 : A71.defers = [] := by rw [hA71]; simp only [df_put]; exact hdf57
        have l4_71 := lookE hA71 4 (et rfl)
        clear hA71 hsz57 hdf57 l8_57 l38_57 l39_57 l40_57 l41_57
        have hS72 : St w Y [c49_55, c_55b] w55 := hS55.sel [1, 2] (by decide) rfl
        refine then_n (hK70 _ _ ?_)
        clear hK70
        refine wp_ret ?_
        refine ret_in (results_1 Try.results42 (rv_tmp l4_71)) hdf71 ?_
        -- leaf FFF
        exact ⟨_, rfl, (hS72.fin1 0 rfl (hc49_55.trans (congrArg (io .i64 _) (addT_yes c13 (by omega)))))⟩

set_option maxHeartbeats 4000000 in
theorem kall_c {cv : Value} {c : List Int} {lv : Value} {l : List Int} {w : World} {Y : Nat → Prop} (h_lv : Ro w Y (il .i64 lv l)) (hS : St w Y [io .i64 cv c] w) (hG : Gd c) (hl : ∀ x ∈ l, 1 ≤ x ∧ x ≤ 1600) :
    Calls Try.prog 47 #[cv, lv] w fun e w' => ∃ v, e = .returned (v) ∧ St w Y [io .i64 (v) (allT c l)] w' := by
  refine calls_in 22 Try.func47 rfl rfl (by simp) (fun A0 hsz0 hdf0 hargs => ?_)
  have l0_0 := hargs 0 (cv) rfl
  have l1_0 := hargs 1 (lv) rfl
  clear hargs; replace hsz0 : SzN A0 22 := ⟨hsz0⟩
  obtain ⟨m_cv, hm_cv, hS⟩ := gen1 hS
  replace hS : St w Y [m_cv] w := hS
  have bm_cv := SlN.le (ow_at (hS.chq 0 rfl hm_cv))
  have bh_lv := SlN.le (sl_SlN h_lv.at)
  refine wp_seq_k (fun K1 hK1 => ?_)
  -- region 0
  refine region_in ?_
  refine W_v rfl rfl (V_asg rfl rfl) ?_
  refine W_end ?_
  refine gen_Q (fun A2 hA2 => ?_)
  have hsz2 : SzN A2 22 := by rw [hA2]; infer_instance
  have hdf2 : A2.defers = [] := by rw [hA2]; simp only [df_put]; exact hdf0
  have l0_2 := lookE hA2 0 (es rfl l0_0)
  have l1_2 := lookE hA2 1 (es rfl l1_0)
  clear hA2 hsz0 hdf0 l0_0 l1_0
  refine then_n (hK1 _ _ ?_)
  clear hK1
  refine wp_seq_k (fun K3 hK3 => ?_)
  refine wp_seq_k (fun K4 hK4 => ?_)
  -- region 1
  refine region_in ?_
  refine W_v rfl rfl (V_mov rfl l1_2) ?_
  refine W_v rfl rfl (V_lenS rfl (et rfl) (sl_SlN h_lv.at) Try.underlying22) ?_
  refine W_v rfl rfl (V_mov rfl rfl) ?_
  refine W_end ?_
  refine gen_Q (fun A5 hA5 => ?_)
  have hsz5 : SzN A5 22 := by rw [hA5]; infer_instance
  have hdf5 : A5.defers = [] := by rw [hA5]; simp only [df_put]; exact hdf2
  have l0_5 := lookE hA5 0 (es rfl (es rfl (es rfl l0_2)))
  have l7_5 := lookE hA5 7 (es rfl (es rfl (et rfl)))
  have l8_5 := lookE hA5 8 (es rfl (et rfl))
  have l9_5 := lookE hA5 9 (et rfl)
  clear hA5 hsz2 hdf2 l0_2 l1_2
  refine then_n (hK4 _ _ ?_)
  clear hK4
  refine wp_block ?_
  -- loop 2
  refine loopX (fun mz A' w' => SzN A' 22 ∧ A'.defers = [] ∧ (∃ (k : Nat) (bv : Value), (mz = l.length - k) ∧ (k ≤ l.length) ∧ (Gd (allT c (l.take k))) ∧ (EV A' (.tmp 9) = .int .i64 (k : Int)) ∧ (EV A' (.tmp 0) = bv) ∧ (EV A' (.tmp 7) = EV A5 (.tmp 7)) ∧ (EV A' (.tmp 8) = EV A5 (.tmp 8)) ∧ (St w Y [io .i64 bv (allT c (l.take k))] w'))) (l.length - 0) ⟨hsz5, hdf5, 0, cv, rfl, (by omega), (allT_part hG hl 0), ((l9_5).trans (by first | rfl | (simp; done) | (congr 1; omega))), ((l0_5).trans (by first | rfl | (simp; done) | (congr 1; omega))), rfl, rfl, (by have q0 : m_cv = io .i64 cv (allT c (l.take 0)) := hm_cv.trans (rfl); subst q0; exact hS)⟩ ?_
  clear hS hm_cv
  rintro n6 A6 w6 ⟨hsz6, hdf6, k, bv, hm6, hk, hG2, l9_6, l0_6, u7_6, u8_6, hS6⟩
  have l7_6 := u7_6.trans l7_5
  have l8_6 := u8_6.trans l8_5
  obtain ⟨m_cv_6, hm_cv_6, hS6⟩ := gen1 hS6
  refine wp_seq_k (fun K7 hK7 => ?_)
  -- region 2
  refine region_in ?_
  refine W_v rfl rfl (V_lss rfl l9_6 l8_6) ?_
  refine W_end ?_
  refine gen_Q (fun A8 hA8 => ?_)
  have hsz8 : SzN A8 22 := by rw [hA8]; infer_instance
  have hdf8 : A8.defers = [] := by rw [hA8]; simp only [df_put]; exact hdf6
  have l0_8 := lookE hA8 0 (es rfl l0_6)
  have l7_8 := lookE hA8 7 (es rfl l7_6)
  have l8_8 := lookE hA8 8 (es rfl l8_6)
  have l9_8 := lookE hA8 9 (es rfl l9_6)
  have l10_8 := lookE hA8 10 (et rfl)
  clear hA8 hsz6 hdf6 l9_6 l0_6 l7_6 l8_6
  refine then_n (hK7 _ _ ?_)
  clear hK7
  refine wp_seq_k (fun K9 hK9 => ?_)
  refine cond_dec l10_8 (fun c10 => ?_) (fun c10 => ?_)
  · skip
    refine wp_skip ?_
    refine then_n (hK9 _ _ ?_)
    clear hK9
    refine wp_seq_k (fun K11 hK11 => ?_)
    refine wp_block ?_
    refine wp_seq_k (fun K12 hK12 => ?_)
    -- region 3
    refine region_in ?_
    have k13 : k < l.length := by first | omega | (simp only [List.length_cons, List.length_nil]; omega) | (simp only [List.length_set]; omega)
    obtain ⟨y13, hy13⟩ := get_some (xs := l) (k := k) k13
    have hry13 := hl y13 (List.mem_of_getElem? hy13)
    obtain ⟨B13, O13, C13, hv13⟩ := (SlN.blk (sl_SlN h_lv.at) (by first | omega | (simp only [List.length_cons, List.length_nil]; omega) | (simp only [List.length_set]; omega)))
    refine W_v rfl rfl (V_ixS (off := O13 + k) 1 (k) rfl l7_8 l9_8 hv13 (by omega) k13 Try.underlying22 (by kernel_rfl) (congrArg _ (Nat.mul_one _))) ?_
    refine W_r rfl rfl (VR_ldC rfl (et rfl) ((sl_SlN (hS6.ro h_lv)).cell hv13 (map_get hy13)) Try.underlying3 rfl) ?_
    refine W_v rfl rfl (V_asg rfl (et rfl)) ?_
    refine W_end ?_
    refine gen_Q (fun A14 hA14 => ?_)
    have hsz14 : SzN A14 22 := by rw [hA14]; infer_instance
    have hdf14 : A14.defers = [] := by rw [hA14]; simp only [df_put]; exact hdf8
    have l0_14 := lookE hA14 0 (es rfl (es rfl (es rfl l0_8)))
    have l6_14 := lookE hA14 6 (et rfl)
    have l7_14 := lookE hA14 7 (es rfl (es rfl (es rfl l7_8)))
    have l8_14 := lookE hA14 8 (es rfl (es rfl (es rfl l8_8)))
    have l9_14 := lookE hA14 9 (es rfl (es rfl (es rfl l9_8)))
    clear hA14 hsz8 hdf8 l0_8 l7_8 l8_8 l9_8 l10_8
    refine then_n (hK12 _ _ ?_)
    clear hK12
    refine wp_seq_k (fun K15 hK15 => ?_)
    -- region 4
    refine region_in ?_
    refine W_v rfl rfl (V_mov rfl l0_14) ?_
    refine W_v rfl rfl (V_mov rfl (es rfl l6_14)) ?_
    refine W_call rfl rfl rfl Try.func38 (by kernel_rfl) rfl (args2 (es rfl (et rfl)) (et rfl)) (kfind_c (a := y13) (hS6.chC 0 rfl hm_cv_6).own (by first | with_reducible assumption | with_reducible exact hG.p2 | with_reducible exact hG2.p2 | (rw [hbl]; exact n1) | (simp only [List.length_set, List.length_replicate] <;> assumption)) (by first | omega | with_reducible assumption)) ?_
    rintro _ w16 ⟨rfl, hP16⟩
    refine ⟨_, rfl, ?_⟩
    have hS16 := hS6.join hP16
    replace hS16 : St w Y [m_cv_6] w16 := hS16
    refine W_v rfl rfl (V_lss rfl (et rfl) rfl) ?_
    refine W_end ?_
    refine gen_Q (fun A17 hA17 => ?_)
    have hsz17 : SzN A17 22 := by rw [hA17]; infer_instance
    have hdf17 : A17.defers = [] := by rw [hA17]; simp only [df_put]; exact hdf14
    have l0_17 := lookE hA17 0 (es rfl (es rfl (es rfl (es rfl l0_14))))
    have l6_17 := lookE hA17 6 (es rfl (es rfl (es rfl (es rfl l6_14))))
    have l7_17 := lookE hA17 7 (es rfl (es rfl (es rfl (es rfl l7_14))))
    have l8_17 := lookE hA17 8 (es rfl (es rfl (es rfl (es rfl l8_14))))
    have l9_17 := lookE hA17 9 (es rfl (es rfl (es rfl (es rfl l9_14))))
    have l16_17 := lookE hA17 16 (et rfl)
    clear hA17 hsz14 hdf14 l0_14 l6_14 l7_14 l8_14 l9_14
    refine then_n (hK15 _ _ ?_)
    clear hK15
    refine cond_dec l16_17 (fun c18 => ?_) (fun c18 => ?_)
    · skip
      -- region 5
      refine region_in ?_
      refine W_v rfl rfl (V_mov rfl l0_17) ?_
      refine W_v rfl rfl (V_mov rfl (es rfl l6_17)) ?_
      obtain ⟨Y19, hP19, hR19, hF19, hB19⟩ := St.call (pre := [m_cv_6]) (fr := []) hS16
      rw [hm_cv_6] at hP19
      refine W_call rfl rfl rfl Try.func42 (by kernel_rfl) rfl (args2 (es rfl (et rfl)) (et rfl)) (kadd_c (a := y13)  hP19 (by first | with_reducible assumption | with_reducible exact gd_new) (by first | omega | with_reducible assumption) (by first | with_reducible assumption | exact fnd_not (by assumption) (by omega) (by omega))) ?_
      rintro _ w20 ⟨v_20, rfl, hP20⟩
      refine ⟨_, rfl, ?_⟩
      obtain ⟨c_20, hc_20, hP20⟩ := gen1 hP20
      have hS20 := hB19 _ _ hP20
      replace hS20 : St w Y [c_20] w20 := hS20
      refine W_v rfl rfl (V_asg rfl (et rfl)) ?_
      refine W_end ?_
      refine gen_Q (fun A21 hA21 => ?_)
      have hsz21 : SzN A21 22 := by rw [hA21]; infer_instance
      have hdf21 : A21.defers = [] := by rw [hA21]; simp only [df_put]; exact hdf17
      have l0_21 := lookE hA21 0 (et rfl)
      have l7_21 := lookE hA21 7 (es rfl (es rfl (es rfl (es rfl l7_17))))
      have l8_21 := lookE hA21 8 (es rfl (es rfl (es rfl (es rfl l8_17))))
      have l9_21 := lookE hA21 9 (es rfl (es rfl (es rfl (es rfl l9_17))))
      clear hA21 hsz17 hdf17 l0_17 l6_17 l7_17 l8_17 l9_17 l16_17
      refine inb_n ?_
      refine then_n (hK11 _ _ ?_)
      clear hK11
      -- region 6
      refine region_in ?_
      refine W_v rfl rfl (V_add rfl l9_21 rfl (by omega) (by omega)) ?_
      refine W_v rfl rfl (V_mov rfl (et rfl)) ?_
      refine W_end ?_
      refine gen_Q (fun A22 hA22 => ?_)
      have hsz22 : SzN A22 22 := by rw [hA22]; infer_instance
      have hdf22 : A22.defers = [] := by rw [hA22]; simp only [df_put]; exact hdf21
      have l0_22 := lookE hA22 0 (es rfl (es rfl l0_21))
      have l7_22 := lookE hA22 7 (es rfl (es rfl l7_21))
      have l8_22 := lookE hA22 8 (es rfl (es rfl l8_21))
      have l9_22 := lookE hA22 9 (et rfl)
      clear hA22 hsz21 hdf21 l0_21 l7_21 l8_21 l9_21
      refine then_n ⟨l.length - (k + 1), by simp only [hm6]; omega, hsz22, hdf22, (k + 1), v_20, rfl, (by omega), (allT_part hG hl _), ((l9_22).trans (by first | rfl | (simp; done) | (congr 1; omega))), ((l0_22).trans (by first | rfl | (simp; done) | (congr 1; omega))), ((l7_22).trans l7_5.symm), ((l8_22).trans l8_5.symm), (by have q0 : c_20 = io .i64 v_20 (allT c (l.take (k + 1))) := hc_20.trans ((congrArg (io .i64 _) (allT_in hy13 c18))); subst q0; exact hS20)⟩
    · skip
      refine wp_skip ?_
      refine inb_n ?_
      refine then_n (hK11 _ _ ?_)
      clear hK11
      -- region 6
      refine region_in ?_
      refine W_v rfl rfl (V_add rfl l9_17 rfl (by omega) (by omega)) ?_
      refine W_v rfl rfl (V_mov rfl (et rfl)) ?_
      refine W_end ?_
      refine gen_Q (fun A23 hA23 => ?_)
      have hsz23 : SzN A23 22 := by rw [hA23]; infer_instance
      have hdf23 : A23.defers = [] := by rw [hA23]; simp only [df_put]; exact hdf17
      have l0_23 := lookE hA23 0 (es rfl (es rfl l0_17))
      have l7_23 := lookE hA23 7 (es rfl (es rfl l7_17))
      have l8_23 := lookE hA23 8 (es rfl (es rfl l8_17))
      have l9_23 := lookE hA23 9 (et rfl)
      clear hA23 hsz17 hdf17 l0_17 l6_17 l7_17 l8_17 l9_17 l16_17
      refine then_n ⟨l.length - (k + 1), by simp only [hm6]; omega, hsz23, hdf23, (k + 1), bv, rfl, (by omega), (allT_part hG hl _), ((l9_23).trans (by first | rfl | (simp; done) | (congr 1; omega))), ((l0_23).trans (by first | rfl | (simp; done) | (congr 1; omega))), ((l7_23).trans l7_5.symm), ((l8_23).trans l8_5.symm), (by have q0 : m_cv_6 = io .i64 bv (allT c (l.take (k + 1))) := hm_cv_6.trans ((congrArg (io .i64 _) (allT_out hy13 c18))); subst q0; exact hS16)⟩
  · skip
    refine wp_exit ?_
    refine then_exit ?_
    refine then_exit ?_
    refine inb_hit ?_
    refine then_n (hK3 _ _ ?_)
    clear hK3
    refine wp_seq_k (fun K24 hK24 => ?_)
    -- region 7
    refine region_in ?_
    refine W_v rfl rfl (V_mov rfl l0_8) ?_
    refine W_v rfl rfl (V_asg rfl (et rfl)) ?_
    refine W_end ?_
    refine gen_Q (fun A25 hA25 => ?_)
    have hsz25 : SzN A25 22 := by rw [hA25]; infer_instance
    have hdf25 : A25.defers = [] := by rw [hA25]; simp only [df_put]; exact hdf8
    have l4_25 := lookE hA25 4 (et rfl)
    clear hA25 hsz8 hdf8 l0_8 l7_8 l8_8 l9_8 l10_8
    refine then_n (hK24 _ _ ?_)
    clear hK24
    refine wp_ret ?_
    refine ret_in (results_1 Try.results47 (rv_tmp l4_25)) hdf25 ?_
    -- leaf F
    exact ⟨_, rfl, (hS6.fin1 0 rfl (hm_cv_6.trans (congrArg (io .i64 _) (by rw [List.take_of_length_le (by omega)]))))⟩

end Go.Proofs.Ytoandfgkkmfobaa