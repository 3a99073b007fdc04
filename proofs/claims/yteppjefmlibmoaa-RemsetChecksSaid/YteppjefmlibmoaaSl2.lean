import Derived.Test.YteppjefmlibmoaaProg
import Derived.Test.YteppjefmlibmoaaSl1
import Derived.Test.YteppjefmlibmoaaSh08
import Derived.Test.YteppjefmlibmoaaPl7d
namespace Go.Proofs.Yteppjefmlibmoaa
open Go.RowKit Go.Own Go.Own.R Go.Own.S


set_option maxHeartbeats 4000000 in
theorem kcln_c {cv : Value} {c : List Int} {w : World} (h_cv : Ro w NoX (il .i64 cv c)) (h0 : 0 < c.length) (hl : c.length ≤ 8192) :
  Calls Try.prog 80 #[cv] w fun e w' => ∃ v, e = .returned (v) ∧ (0 < capS v) ∧ St w NoX [io .i64 (v) c] w' := by
 refine calls_in 8 Try.func80 rfl rfl (by simp) (fun A0 hsz0 hdf0 hargs => ?_)
 have l0_0 := hargs 0 (cv) rfl
 clear hargs; replace hsz0 : SzN A0 8 := ⟨hsz0⟩
 have hS := St.nil w
 have bh_cv := SlN.le (sl_SlN h_cv.at)
 refine wp_seq_k fun K1 hK1 => ?_
 refine region_in ?_
 refine W_v rfl rfl (V_asg rfl rfl) ?_
 refine W_end (gen_Q fun A2 hA2 => ?_)
 have hsz2 := szq hA2
 have hdf2 := dfE hA2 hdf0
 have l0_2 := lookE hA2 0 (es rfl l0_0)
 clear hA2 hsz0 hdf0 l0_0
 refine then_n (hK1 _ _ ?_)
 clear hK1
 refine wp_seq_k fun K3 hK3 => ?_
 refine wp_seq_k fun K4 hK4 => ?_
 refine region_in ?_
 refine W_v rfl rfl (V_mov rfl l0_2) ?_
 refine W_v rfl rfl (V_eqNilS rfl (et rfl) rfl (sl_SlN h_cv.at) (by omega) Try.underlying25) ?_
 refine W_end (gen_Q fun A5 hA5 => ?_)
 have hsz5 := szq hA5
 have hdf5 := dfE hA5 hdf2
 have l0_5 := ek2 hA5 0 rfl l0_2
 have l4_5 := lookE hA5 4 (et rfl)
 clear hA5 hsz2 hdf2 l0_2
 refine then_n (hK4 _ _ ?_)
 clear hK4
 refine cond_f l4_5 ?_
 refine wp_skip ?_
 refine then_n (hK3 _ _ ?_)
 clear hK3
 refine wp_seq_k fun K6 hK6 => ?_
 refine region_in ?_
 refine W_litS (vs := []) (xs := []) 1 hS rfl rfl rfl (parts0) rfl Try.underlying25 (by kernel_rfl) (by decide) (by intro v hv; cases hv) (by rfl) (fun g7 w7 c7 hc7 hS7 => ?_)
 replace hc7 : c7 = io .i64 (.slice (some ⟨g7, 0, none⟩) 0 0) [] := hc7
 replace hS7 : St w NoX [c7] w7 := hS7
 refine W_v rfl rfl (V_mov rfl (es rfl l0_5)) ?_
 refine W_appS 1 0 hS7 rfl hc7 rfl rfl rfl (es rfl (et rfl)) (et rfl) Try.underlying25 Try.underlying25 (z := .int .i64 0) (bytes := 8) (by kernel_rfl) rfl (by decide) (sl_SlN (hS7.ro h_cv)) ones_i (by first | omega | (simp; done) | (simp; omega)) (by first | omega | (simp; done) | (simp; omega)) (fun v8 w8 c8 hc8 hS8 => ?_)
 replace hc8 : c8 = io .i64 v8 c := hc8.trans (app_eq (by first | (simp; done) | (rw [List.take_of_length_le (l := List.drop _ _) (by rw [List.length_drop]; exact Nat.le_refl _)])))
 replace hS8 : St w NoX [c8] w8 := hS8
 refine W_v rfl rfl (V_asg rfl (et rfl)) ?_
 refine W_end (gen_Q fun A9 hA9 => ?_)
 have hsz9 := szq hA9
 have hdf9 := dfE hA9 hdf5
 have l2_9 := lookE hA9 2 (et rfl)
 clear hA9 hsz5 hdf5 l0_5 l4_5
 refine then_n (hK6 _ _ ?_)
 clear hK6
 refine wp_ret ?_
 refine ret_in (results_1 Try.results80 (rv_tmp l2_9)) hdf9 ?_
 have hq := SlN.capS (ow_at (hS8.chq 0 rfl hc8))
 exact ⟨_, rfl, by omega, (hS8.fin1 0 rfl (hc8))⟩

set_option maxHeartbeats 4000000 in
theorem ksr_c {cv : Value} {c : List Int} {w : World} (h_cv : Ro w NoX (il .i64 cv c)) (h0 : 0 < c.length) (hl : c.length ≤ 8192) (hr : Rng c) (hd : Dst c) :
  Calls Try.prog 74 #[cv] w fun e w' => ∃ v, e = .returned (v) ∧ St w NoX [io .i64 (v) (tgK c 1600)] w' := by
 have hfl := fl_len (fun x => decide (x ≤ 0)) c
 refine calls_in 10 Try.func74 rfl rfl (by simp) (fun A0 hsz0 hdf0 hargs => ?_)
 have l0_0 := hargs 0 (cv) rfl
 clear hargs; replace hsz0 : SzN A0 10 := ⟨hsz0⟩
 have hS := St.nil w
 have bh_cv := SlN.le (sl_SlN h_cv.at)
 refine wp_seq_k fun K1 hK1 => ?_
 refine region_in ?_
 refine W_v rfl rfl (V_asg rfl rfl) ?_
 refine W_end (gen_Q fun A2 hA2 => ?_)
 have hsz2 := szq hA2
 have hdf2 := dfE hA2 hdf0
 have l0_2 := lookE hA2 0 (es rfl l0_0)
 clear hA2 hsz0 hdf0 l0_0
 refine then_n (hK1 _ _ ?_)
 clear hK1
 refine wp_seq_k fun K3 hK3 => ?_
 refine region_in ?_
 refine W_v rfl rfl (V_mov rfl l0_2) ?_
 refine W_call rfl rfl rfl Try.func80 (by kernel_rfl) rfl (args1 (et rfl)) (kcln_c (hS.roC h_cv) (by first | omega | with_reducible assumption) (by first | omega | with_reducible assumption)) ?_
 rintro _ w4 ⟨v_4, rfl, hcp_4, hP4⟩
 refine ⟨_, rfl, ?_⟩
 obtain ⟨c_4, hc_4, hP4⟩ := gen1 hP4
 have hS4 := hS.join hP4
 replace hS4 : St w NoX [c_4] w4 := hS4
 obtain ⟨Y5, hP5, hR5, hF5, hB5⟩ := St.call (pre := [c_4]) (fr := []) hS4
 rw [hc_4] at hP5
 refine W_call rfl rfl rfl Try.func76 (by kernel_rfl) rfl (args2 (et rfl) rfl) (kdls_c  hP5 ) ?_
 rintro _ w6 ⟨u_6, rfl, hcap_6, hP6⟩
 refine ⟨_, rfl, ?_⟩
 obtain ⟨c_6, hc_6, hP6⟩ := gen1 hP6
 have hS6 := hB5 _ _ hP6
 replace hS6 : St w NoX [c_6] w6 := hS6
 refine W_v rfl rfl (V_asg rfl (et rfl)) ?_
 refine W_end (gen_Q fun A7 hA7 => ?_)
 have hsz7 := szq hA7
 have hdf7 := dfE hA7 hdf2
 have l3_7 := lookE hA7 3 (et rfl)
 clear hA7 hsz2 hdf2 l0_2
 refine then_n (hK3 _ _ ?_)
 clear hK3
 refine wp_seq_k fun K8 hK8 => ?_
 refine region_in ?_
 refine W_v rfl rfl (V_mov rfl l3_7) ?_
 obtain ⟨Y9, hP9, hR9, hF9, hB9⟩ := St.call (pre := [c_6]) (fr := []) hS6
 rw [hc_6] at hP9
 refine W_call rfl rfl rfl Try.func47 (by kernel_rfl) rfl (args1 (et rfl)) ((sort_St2 (us := sortL (fl (fun x => decide (x ≤ 0)) c)) hP9 (by first | with_reducible assumption | omega) (sortL_len (fl (fun x => decide (x ≤ 0)) c)) (fun g off cap hH hg => Try.slices_Sort_int g off cap (fl (fun x => decide (x ≤ 0)) c) _ hH hg (by omega)))) ?_
 rintro _ w10 ⟨rfl, hP10⟩
 refine ⟨_, rfl, ?_⟩
 obtain ⟨c_10, hc_10, hP10⟩ := gen1 hP10
 have hS10 := hB9 _ _ hP10
 replace hS10 : St w NoX [c_10] w10 := hS10
 refine W_end (gen_Q fun A11 hA11 => ?_)
 have hsz11 := szq hA11
 have hdf11 := dfE hA11 hdf7
 have l3_11 := ek2 hA11 3 rfl l3_7
 clear hA11 hsz7 hdf7 l3_7
 refine then_n (hK8 _ _ ?_)
 clear hK8
 refine wp_seq_k fun K12 hK12 => ?_
 refine region_in ?_
 refine W_v rfl rfl (V_mov rfl l3_11) ?_
 refine W_v rfl rfl (V_asg rfl (et rfl)) ?_
 refine W_end (gen_Q fun A13 hA13 => ?_)
 have hsz13 := szq hA13
 have hdf13 := dfE hA13 hdf11
 have l2_13 := lookE hA13 2 (et rfl)
 clear hA13 hsz11 hdf11 l3_11
 refine then_n (hK12 _ _ ?_)
 clear hK12
 refine wp_ret ?_
 refine ret_in (results_1 Try.results74 (rv_tmp l2_13)) hdf13 ?_
 exact ⟨_, rfl, (hS10.fin1 0 rfl (hc_10.trans (congrArg (io .i64 _) (srt_fl hr hd))))⟩

set_option maxHeartbeats 4000000 in
theorem kadd_c {cv : Value} {c : List Int} {a : Int} {w : World} {Y : Nat → Prop}  (hS : St w Y [io .i64 cv c] w) (hG : Gd c) (ha : 1 ≤ a ∧ a ≤ 1600) (hn : a ∉ c) :
  Calls Try.prog 116 #[cv, .int .i64 a] w fun e w' => ∃ v, e = .returned (v) ∧ St w Y [io .i64 (v) (addT c a)] w' := by
 have hpb := hG.bd
 have hpl := putT_len c a
 obtain ⟨p1, p2, p3, p4, p5⟩ := put_good hG.toGw ha hn hpb.2.2.2
 have hfl := hG.full
 have hul := usd_le (putT c a)
 have hau := adr_usd (putT c a)
 obtain ⟨n1, n2, n3, n4⟩ := adN_bd p1 (by rw [hpl]; exact hG.p2) (by omega)
 have n1b := n1.bd
 have hbp := fun k h => bld_part (c := putT c a) (n := adN (putT c a)) (k := k) n2 h
 have htl := tgK_len (putT c a) 1600
 refine calls_in 49 Try.func116 rfl rfl (by simp) (fun A0 hsz0 hdf0 hargs => ?_)
 have l0_0 := hargs 0 (cv) rfl
 have l1_0 := hargs 1 (.int .i64 a) rfl
 clear hargs; replace hsz0 : SzN A0 49 := ⟨hsz0⟩
 obtain ⟨m_cv, hm_cv, hS⟩ := gen1 hS
 replace hS : St w Y [m_cv] w := hS
 have bm_cv := SlN.le (ow_at (hS.chq 0 rfl hm_cv))
 refine wp_seq_k fun K1 hK1 => ?_
 refine region_in ?_
 refine W_v rfl rfl (V_asg rfl rfl) ?_
 refine W_end (gen_Q fun A2 hA2 => ?_)
 have hsz2 := szq hA2
 have hdf2 := dfE hA2 hdf0
 have l0_2 := lookE hA2 0 (es rfl l0_0)
 have l1_2 := lookE hA2 1 (es rfl l1_0)
 clear hA2 hsz0 hdf0 l0_0 l1_0
 refine then_n (hK1 _ _ ?_)
 clear hK1
 refine wp_seq_k fun K3 hK3 => ?_
 refine region_in ?_
 refine W_v rfl rfl (V_mov rfl l0_2) ?_
 refine W_v rfl rfl (V_mov rfl (es rfl l1_2)) ?_
 obtain ⟨Y4, hP4, hR4, hF4, hB4⟩ := St.call (pre := [m_cv]) (fr := []) hS
 rw [hm_cv] at hP4
 refine W_call rfl rfl rfl Try.func126 (by kernel_rfl) rfl (args2 (es rfl (et rfl)) (et rfl)) (kput_c (a := a)  hP4 (by first | with_reducible assumption | with_reducible exact hG.p2 | with_reducible exact hG2.p2 | (rw [hbl]; exact n1) | (simp only [List.length_set, List.length_replicate] <;> assumption)) (by first | omega | with_reducible assumption)) ?_
 rintro _ w5 ⟨rfl, hP5⟩
 refine ⟨_, rfl, ?_⟩
 obtain ⟨c_5, hc_5, hP5⟩ := gen1 hP5
 have hS5 := hB4 _ _ hP5
 replace hS5 : St w Y [c_5] w5 := hS5
 refine W_end (gen_Q fun A6 hA6 => ?_)
 have hsz6 := szq hA6
 have hdf6 := dfE hA6 hdf2
 have l0_6 := ek3 hA6 0 rfl l0_2
 clear hA6 hsz2 hdf2 l0_2 l1_2
 refine then_n (hK3 _ _ ?_)
 clear hK3
 refine wp_seq_k fun K7 hK7 => ?_
 refine region_in ?_
 refine W_v rfl rfl (V_mov rfl l0_6) ?_
 refine W_call rfl rfl rfl Try.func82 (by kernel_rfl) rfl (args1 (et rfl)) (kcnt_c (hS5.chC 0 rfl hc_5).own ) ?_
 rintro _ w8 ⟨rfl, hP8⟩
 refine ⟨_, rfl, ?_⟩
 have hS8 := hS5.join hP8
 replace hS8 : St w Y [c_5] w8 := hS8
 refine W_v rfl rfl (V_mov rfl (et rfl)) ?_
 refine W_v rfl rfl (V_ext (v := .int .i64 (((usd (putT c a) : Nat) : Int))) rfl (et rfl) rfl) ?_
 refine W_v rfl rfl (V_ext (v := .int .i64 (((adr (putT c a) : Nat) : Int))) rfl (es rfl (et rfl)) rfl) ?_
 refine W_v rfl rfl (V_asg rfl (es rfl (et rfl))) ?_
 refine W_v rfl rfl (V_asg rfl (es rfl (et rfl))) ?_
 refine W_end (gen_Q fun A9 hA9 => ?_)
 have hsz9 := szq hA9
 have hdf9 := dfE hA9 hdf6
 have l0_9 := ek7 hA9 0 rfl l0_6
 have l5_9 := lookE hA9 5 (es rfl (et rfl))
 have l6_9 := lookE hA9 6 (et rfl)
 clear hA9 hsz6 hdf6 l0_6
 refine then_n (hK7 _ _ ?_)
 clear hK7
 refine wp_seq_k fun K10 hK10 => ?_
 refine wp_seq_k fun K11 hK11 => ?_
 refine region_in ?_
 refine W_v rfl rfl (V_mov rfl l5_9) ?_
 refine W_v rfl rfl (V_mul rfl rfl (et rfl) (by omega) (by omega)) ?_
 refine W_v rfl rfl (V_mov rfl (e2 rfl l0_9)) ?_
 refine W_v rfl rfl (V_lenS rfl (et rfl) (ow_at (hS8.chq 0 rfl hc_5)) Try.underlying25) ?_
 refine W_v rfl rfl (V_mul rfl rfl (et rfl) (by omega) (by omega)) ?_
 refine W_v rfl rfl (V_leq rfl (e3 rfl (et rfl)) (et rfl)) ?_
 refine W_end (gen_Q fun A12 hA12 => ?_)
 have hsz12 := szq hA12
 have hdf12 := dfE hA12 hdf9
 have l0_12 := ek6 hA12 0 rfl l0_9
 have l6_12 := ek6 hA12 6 rfl l6_9
 have l24_12 := lookE hA12 24 (et rfl)
 clear hA12 hsz9 hdf9 l0_9 l5_9 l6_9
 refine then_n (hK11 _ _ ?_)
 clear hK11
 refine cond_dec l24_12 (fun c13 => ?_) (fun c13 => ?_)
 ·refine wp_seq_k fun K14 hK14 => ?_
  refine region_in ?_
  refine W_v rfl rfl (V_mov rfl l0_12) ?_
  refine W_v rfl rfl (V_asg rfl (et rfl)) ?_
  refine W_end (gen_Q fun A15 hA15 => ?_)
  have hsz15 := szq hA15
  have hdf15 := dfE hA15 hdf12
  have l4_15 := lookE hA15 4 (et rfl)
  clear hA15 hsz12 hdf12 l0_12 l6_12 l24_12
  refine then_n (hK14 _ _ ?_)
  clear hK14
  refine wp_ret ?_
  refine then_ret ?_
  refine ret_in (results_1 Try.results116 (rv_tmp l4_15)) hdf15 ?_
  exact ⟨_, rfl, (hS8.fin1 0 rfl (hc_5.trans (congrArg (io .i64 _) (addT_no c13))))⟩
 ·refine wp_skip ?_
  refine then_n (hK10 _ _ ?_)
  clear hK10
  refine wp_seq_k fun K16 hK16 => ?_
  refine region_in ?_
  refine W_v rfl rfl (V_mov rfl l0_12) ?_
  refine W_v rfl rfl (V_lenS rfl (et rfl) (ow_at (hS8.chq 0 rfl hc_5)) Try.underlying25) ?_
  refine W_v rfl rfl (V_asg rfl (et rfl)) ?_
  refine W_end (gen_Q fun A17 hA17 => ?_)
  have hsz17 := szq hA17
  have hdf17 := dfE hA17 hdf12
  have l0_17 := ek3 hA17 0 rfl l0_12
  have l6_17 := ek3 hA17 6 rfl l6_12
  have l7_17 := lookE hA17 7 (et rfl)
  clear hA17 hsz12 hdf12 l0_12 l6_12 l24_12
  refine then_n (hK16 _ _ ?_)
  clear hK16
  refine wp_seq_k fun K18 hK18 => ?_
  refine wp_seq_k fun K19 hK19 => ?_
  refine region_in ?_
  refine W_v rfl rfl (V_mov rfl l6_17) ?_
  refine W_v rfl rfl (V_mul rfl rfl (et rfl) (by omega) (by omega)) ?_
  refine W_v rfl rfl (V_mov rfl (e2 rfl l7_17)) ?_
  refine W_v rfl rfl (V_mul rfl rfl (et rfl) (by omega) (by omega)) ?_
  refine W_v rfl rfl (V_gtr rfl (e2 rfl (et rfl)) (et rfl)) ?_
  refine W_end (gen_Q fun A20 hA20 => ?_)
  have hsz20 := szq hA20
  have hdf20 := dfE hA20 hdf17
  have l0_20 := ek5 hA20 0 rfl l0_17
  have l7_20 := ek5 hA20 7 rfl l7_17
  have l32_20 := lookE hA20 32 (et rfl)
  clear hA20 hsz17 hdf17 l0_17 l6_17 l7_17
  refine then_n (hK19 _ _ ?_)
  clear hK19
  refine cond_dec l32_20 (fun c21 => ?_) (fun c21 => ?_)
  ·have hN : adN (putT c a) = 2 * (putT c a).length := if_pos (by omega)
   refine region_in ?_
   refine W_v rfl rfl (V_mov rfl l7_20) ?_
   refine W_v rfl rfl (V_mul rfl (et rfl) rfl (by omega) (by omega)) ?_
   refine W_v rfl rfl (V_asg rfl (et rfl)) ?_
   refine W_end (gen_Q fun A22 hA22 => ?_)
   have hsz22 := szq hA22
   have hdf22 := dfE hA22 hdf20
   have l0_22 := ek3 hA22 0 rfl l0_20
   have l7_22 := lookE hA22 7 (et rfl)
   clear hA22 hsz20 hdf20 l0_20 l7_20 l32_20
   refine then_n (hK18 _ _ ?_)
   clear hK18
   refine wp_seq_k fun K23 hK23 => ?_
   refine region_in ?_
   refine W_v rfl rfl (V_mov rfl l7_22) ?_
   refine W_mkS (z := .int .i64 0) (bytes := 8) (adN (putT c a)) hS8 rfl rfl rfl (et rfl) (et rfl) (by omega) Try.underlying25 (by kernel_rfl) (by omega) rfl (fun v24 w24 c24 hc24 hS24 => ?_)
   replace hc24 : c24 = io .i64 v24 (List.replicate (adN (putT c a)) (0 : Int)) := hc24.trans (by simp only [io, bo, List.map_replicate, List.length_replicate])
   replace hS24 : St w Y [c24, c_5] w24 := hS24
   refine W_v rfl rfl (V_asg rfl (et rfl)) ?_
   refine W_end (gen_Q fun A25 hA25 => ?_)
   have hsz25 := szq hA25
   have hdf25 := dfE hA25 hdf22
   have l0_25 := ek3 hA25 0 rfl l0_22
   have l8_25 := lookE hA25 8 (et rfl)
   clear hA25 hsz22 hdf22 l0_22 l7_22
   refine then_n (hK23 _ _ ?_)
   clear hK23
   refine wp_seq_k fun K26 hK26 => ?_
   refine wp_seq_k fun K27 hK27 => ?_
   refine region_in ?_
   refine W_v rfl rfl (V_mov rfl l0_25) ?_
   refine W_call rfl rfl rfl Try.func74 (by kernel_rfl) rfl (args1 (et rfl)) (ksr_c (hS24.chC 1 rfl hc_5).own (by first | omega | with_reducible assumption) (by first | omega | with_reducible assumption) (by first | with_reducible assumption | with_reducible exact hG.rng | with_reducible exact p1.rng | with_reducible exact hr2) (by first | with_reducible assumption | with_reducible exact hG.dst | with_reducible exact p1.dst | with_reducible exact hd2)) ?_
   rintro _ w28 ⟨v_28, rfl, hP28⟩
   refine ⟨_, rfl, ?_⟩
   obtain ⟨c_28, hc_28, hP28⟩ := gen1 hP28
   have hS28 := hS24.join hP28
   replace hS28 : St w Y [c_28, c24, c_5] w28 := hS28
   refine W_v rfl rfl (V_lenS rfl (et rfl) (ow_at (hS28.chq 0 rfl hc_28)) Try.underlying25) ?_
   refine W_v rfl rfl (V_mov rfl rfl) ?_
   refine W_end (gen_Q fun A29 hA29 => ?_)
   have hsz29 := szq hA29
   have hdf29 := dfE hA29 hdf25
   have l8_29 := ek4 hA29 8 rfl l8_25
   have l38_29 := lookE hA29 38 (e2 rfl (et rfl))
   have l39_29 := lookE hA29 39 (es rfl (et rfl))
   have l40_29 := lookE hA29 40 (et rfl)
   clear hA29 hsz25 hdf25 l0_25 l8_25
   refine then_n (hK27 _ _ ?_)
   clear hK27
   refine wp_block ?_
   -- loop 10
   refine loopX (fun mz A' w' => SzN A' 49 ∧ A'.defers = [] ∧ (∃ (k : Nat), (mz = (tgK (putT c a) 1600).length - k) ∧ (k ≤ (tgK (putT c a) 1600).length) ∧ ((bld (adN (putT c a)) ((tgK (putT c a) 1600).take k)).length = (adN (putT c a))) ∧ (adr (bld (adN (putT c a)) ((tgK (putT c a) 1600).take k)) = k) ∧ (EV A' (.tmp 40) = .int .i64 (k : Int)) ∧ (EV A' (.tmp 8) = EV A29 (.tmp 8)) ∧ (EV A' (.tmp 38) = EV A29 (.tmp 38)) ∧ (EV A' (.tmp 39) = EV A29 (.tmp 39)) ∧ (St w Y [io .i64 v_28 (tgK (putT c a) 1600), io .i64 v24 (bld (adN (putT c a)) ((tgK (putT c a) 1600).take k)), io .i64 cv (putT c a)] w'))) ((tgK (putT c a) 1600).length - 0) ⟨hsz29, hdf29, 0, rfl, (by omega), (hbp 0 (by omega)).1, (hbp 0 (by omega)).2.1, ((l40_29).trans (by first | rfl | (simp; done) | (congr 1; omega))), rfl, rfl, rfl, (by have q0 := hc_28; have q1 : c24 = io .i64 v24 (bld (adN (putT c a)) ((tgK (putT c a) 1600).take 0)) := hc24.trans (rfl); have q2 := hc_5; subst q0 q1 q2; exact hS28)⟩ ?_
   clear hS28 hc_28 hc24 hc_5
   rintro n30 A30 w30 ⟨hsz30, hdf30, k, hm30, hk, hbl, hba, l40_30, u8_30, u38_30, u39_30, hS30⟩
   have l8_30 := u8_30.trans l8_29
   have l38_30 := u38_30.trans l38_29
   have l39_30 := u39_30.trans l39_29
   obtain ⟨c_30, c24_30, c_30b, hc_30, hc24_30, hc_30b, hS30⟩ := gen3 hS30
   refine wp_seq_k fun K31 hK31 => ?_
   refine region_in ?_
   refine W_v rfl rfl (V_lss rfl l40_30 l39_30) ?_
   refine W_end (gen_Q fun A32 hA32 => ?_)
   have hsz32 := szq hA32
   have hdf32 := dfE hA32 hdf30
   have l8_32 := lookE hA32 8 (es rfl l8_30)
   have l38_32 := lookE hA32 38 (es rfl l38_30)
   have l39_32 := lookE hA32 39 (es rfl l39_30)
   have l40_32 := lookE hA32 40 (es rfl l40_30)
   have l41_32 := lookE hA32 41 (et rfl)
   clear hA32 hsz30 hdf30 l40_30 l8_30 l38_30 l39_30
   refine then_n (hK31 _ _ ?_)
   clear hK31
   refine wp_seq_k fun K33 hK33 => ?_
   refine cond_dec l41_32 (fun c34 => ?_) (fun c34 => ?_)
   ·refine wp_skip ?_
    refine then_n (hK33 _ _ ?_)
    clear hK33
    refine wp_seq_k fun K35 hK35 => ?_
    refine wp_block ?_
    refine wp_seq_k fun K36 hK36 => ?_
    refine region_in ?_
    have k37 : k < (tgK (putT c a) 1600).length := by first | omega | (simp only [List.length_cons, List.length_nil]; omega) | (simp only [List.length_set]; omega) | decide
    obtain ⟨y37, hy37⟩ := get_some (xs := (tgK (putT c a) 1600)) (k := k) k37
    have hry37 := tgK_rng y37 (List.mem_of_getElem? hy37)
    obtain ⟨B37, O37, C37, hv37⟩ := (SlN.blk (ow_at (hS30.chq 0 rfl hc_30)) (by first | omega | (simp only [List.length_cons, List.length_nil]; omega) | (simp only [List.length_set]; omega) | decide))
    refine W_v rfl rfl (V_ixS (off := O37 + k) 1 (k) rfl l38_32 l40_32 hv37 (by omega) k37 Try.underlying25 (by kernel_rfl) (congrArg _ (Nat.mul_one _))) ?_
    refine W_r rfl rfl (VR_ldC rfl (et rfl) ((ow_at (hS30.chq 0 rfl hc_30)).cell hv37 (map_get hy37)) Try.underlying3 rfl) ?_
    refine W_v rfl rfl (V_asg rfl (et rfl)) ?_
    refine W_end (gen_Q fun A38 hA38 => ?_)
    have hsz38 := szq hA38
    have hdf38 := dfE hA38 hdf32
    have l8_38 := ek3 hA38 8 rfl l8_32
    have l10_38 := lookE hA38 10 (et rfl)
    have l38_38 := ek3 hA38 38 rfl l38_32
    have l39_38 := ek3 hA38 39 rfl l39_32
    have l40_38 := ek3 hA38 40 rfl l40_32
    clear hA38 hsz32 hdf32 l8_32 l38_32 l39_32 l40_32 l41_32
    refine then_n (hK36 _ _ ?_)
    clear hK36
    refine region_in ?_
    refine W_v rfl rfl (V_mov rfl l8_38) ?_
    refine W_v rfl rfl (V_mov rfl (es rfl l10_38)) ?_
    have hS39 := hS30.sel [1, 0, 2] (by decide) (l' := [c24_30, c_30, c_30b]) rfl
    replace hS39 : St w Y [c24_30, c_30, c_30b] w30 := hS39
    obtain ⟨Y40, hP40, hR40, hF40, hB40⟩ := St.call (pre := [c24_30]) (fr := [c_30, c_30b]) hS39
    rw [hc24_30] at hP40
    refine W_call rfl rfl rfl Try.func126 (by kernel_rfl) rfl (args2 (es rfl (et rfl)) (et rfl)) (kput_c (a := y37)  hP40 (by first | with_reducible assumption | with_reducible exact hG.p2 | with_reducible exact hG2.p2 | (rw [hbl]; exact n1) | (simp only [List.length_set, List.length_replicate] <;> assumption)) (by first | omega | with_reducible assumption)) ?_
    rintro _ w41 ⟨rfl, hP41⟩
    refine ⟨_, rfl, ?_⟩
    obtain ⟨c_41, hc_41, hP41⟩ := gen1 hP41
    have hS41 := hB40 _ _ hP41
    replace hS41 : St w Y [c_41, c_30, c_30b] w41 := hS41
    refine W_end (gen_Q fun A42 hA42 => ?_)
    have hsz42 := szq hA42
    have hdf42 := dfE hA42 hdf38
    have l8_42 := ek3 hA42 8 rfl l8_38
    have l38_42 := ek3 hA42 38 rfl l38_38
    have l39_42 := ek3 hA42 39 rfl l39_38
    have l40_42 := ek3 hA42 40 rfl l40_38
    clear hA42 hsz38 hdf38 l8_38 l10_38 l38_38 l39_38 l40_38
    refine inb_n ?_
    refine then_n (hK35 _ _ ?_)
    clear hK35
    refine region_in ?_
    refine W_v rfl rfl (V_add rfl l40_42 rfl (by omega) (by omega)) ?_
    refine W_v rfl rfl (V_mov rfl (et rfl)) ?_
    refine W_end (gen_Q fun A43 hA43 => ?_)
    have hsz43 := szq hA43
    have hdf43 := dfE hA43 hdf42
    have l8_43 := ek2 hA43 8 rfl l8_42
    have l38_43 := ek2 hA43 38 rfl l38_42
    have l39_43 := ek2 hA43 39 rfl l39_42
    have l40_43 := lookE hA43 40 (et rfl)
    clear hA43 hsz42 hdf42 l8_42 l38_42 l39_42 l40_42
    have hS44 : St w Y [c_30, c_41, c_30b] w41 := hS41.sel [1, 0, 2] (by decide) rfl
    refine then_n ⟨(tgK (putT c a) 1600).length - (k + 1), by simp only [hm30]; omega, hsz43, hdf43, (k + 1), rfl, (by omega), (hbp (k + 1) (by omega)).1, (hbp (k + 1) (by omega)).2.1, ((l40_43).trans (by first | rfl | (simp; done) | (congr 1; omega))), ((l8_43).trans l8_29.symm), ((l38_43).trans l38_29.symm), ((l39_43).trans l39_29.symm), (by have q0 := hc_30; have q1 : c_41 = io .i64 v24 (bld (adN (putT c a)) ((tgK (putT c a) 1600).take (k + 1))) := hc_41.trans ((congrArg (io .i64 _) (bld_take hy37))); have q2 := hc_30b; subst q0 q1 q2; exact hS44)⟩
   ·refine wp_exit ?_
    refine then_exit ?_
    refine then_exit ?_
    refine inb_hit ?_
    refine then_n (hK26 _ _ ?_)
    clear hK26
    refine wp_seq_k fun K45 hK45 => ?_
    refine region_in ?_
    refine W_v rfl rfl (V_mov rfl l8_32) ?_
    refine W_v rfl rfl (V_asg rfl (et rfl)) ?_
    refine W_end (gen_Q fun A46 hA46 => ?_)
    have hsz46 := szq hA46
    have hdf46 := dfE hA46 hdf32
    have l4_46 := lookE hA46 4 (et rfl)
    clear hA46 hsz32 hdf32 l8_32 l38_32 l39_32 l40_32 l41_32
    have hS47 : St w Y [c24_30, c_30b] w30 := hS30.sel [1, 2] (by decide) rfl
    refine then_n (hK45 _ _ ?_)
    clear hK45
    refine wp_ret ?_
    refine ret_in (results_1 Try.results116 (rv_tmp l4_46)) hdf46 ?_
    exact ⟨_, rfl, (hS47.fin1 0 rfl (hc24_30.trans (congrArg (io .i64 _) (addT_yes c13 (by omega)))))⟩
  ·have hN : adN (putT c a) = (putT c a).length := if_neg (by omega)
   refine wp_skip ?_
   refine then_n (hK18 _ _ ?_)
   clear hK18
   refine wp_seq_k fun K48 hK48 => ?_
   refine region_in ?_
   refine W_v rfl rfl (V_mov rfl l7_20) ?_
   refine W_mkS (z := .int .i64 0) (bytes := 8) (adN (putT c a)) hS8 rfl rfl rfl (et rfl) (et rfl) (by omega) Try.underlying25 (by kernel_rfl) (by omega) rfl (fun v49 w49 c49 hc49 hS49 => ?_)
   replace hc49 : c49 = io .i64 v49 (List.replicate (adN (putT c a)) (0 : Int)) := hc49.trans (by simp only [io, bo, List.map_replicate, List.length_replicate])
   replace hS49 : St w Y [c49, c_5] w49 := hS49
   refine W_v rfl rfl (V_asg rfl (et rfl)) ?_
   refine W_end (gen_Q fun A50 hA50 => ?_)
   have hsz50 := szq hA50
   have hdf50 := dfE hA50 hdf20
   have l0_50 := ek3 hA50 0 rfl l0_20
   have l8_50 := lookE hA50 8 (et rfl)
   clear hA50 hsz20 hdf20 l0_20 l7_20 l32_20
   refine then_n (hK48 _ _ ?_)
   clear hK48
   refine wp_seq_k fun K51 hK51 => ?_
   refine wp_seq_k fun K52 hK52 => ?_
   refine region_in ?_
   refine W_v rfl rfl (V_mov rfl l0_50) ?_
   refine W_call rfl rfl rfl Try.func74 (by kernel_rfl) rfl (args1 (et rfl)) (ksr_c (hS49.chC 1 rfl hc_5).own (by first | omega | with_reducible assumption) (by first | omega | with_reducible assumption) (by first | with_reducible assumption | with_reducible exact hG.rng | with_reducible exact p1.rng | with_reducible exact hr2) (by first | with_reducible assumption | with_reducible exact hG.dst | with_reducible exact p1.dst | with_reducible exact hd2)) ?_
   rintro _ w53 ⟨v_53, rfl, hP53⟩
   refine ⟨_, rfl, ?_⟩
   obtain ⟨c_53, hc_53, hP53⟩ := gen1 hP53
   have hS53 := hS49.join hP53
   replace hS53 : St w Y [c_53, c49, c_5] w53 := hS53
   refine W_v rfl rfl (V_lenS rfl (et rfl) (ow_at (hS53.chq 0 rfl hc_53)) Try.underlying25) ?_
   refine W_v rfl rfl (V_mov rfl rfl) ?_
   refine W_end (gen_Q fun A54 hA54 => ?_)
   have hsz54 := szq hA54
   have hdf54 := dfE hA54 hdf50
   have l8_54 := ek4 hA54 8 rfl l8_50
   have l38_54 := lookE hA54 38 (e2 rfl (et rfl))
   have l39_54 := lookE hA54 39 (es rfl (et rfl))
   have l40_54 := lookE hA54 40 (et rfl)
   clear hA54 hsz50 hdf50 l0_50 l8_50
   refine then_n (hK52 _ _ ?_)
   clear hK52
   refine wp_block ?_
   -- loop 10
   refine loopX (fun mz A' w' => SzN A' 49 ∧ A'.defers = [] ∧ (∃ (k : Nat), (mz = (tgK (putT c a) 1600).length - k) ∧ (k ≤ (tgK (putT c a) 1600).length) ∧ ((bld (adN (putT c a)) ((tgK (putT c a) 1600).take k)).length = (adN (putT c a))) ∧ (adr (bld (adN (putT c a)) ((tgK (putT c a) 1600).take k)) = k) ∧ (EV A' (.tmp 40) = .int .i64 (k : Int)) ∧ (EV A' (.tmp 8) = EV A54 (.tmp 8)) ∧ (EV A' (.tmp 38) = EV A54 (.tmp 38)) ∧ (EV A' (.tmp 39) = EV A54 (.tmp 39)) ∧ (St w Y [io .i64 v_53 (tgK (putT c a) 1600), io .i64 v49 (bld (adN (putT c a)) ((tgK (putT c a) 1600).take k)), io .i64 cv (putT c a)] w'))) ((tgK (putT c a) 1600).length - 0) ⟨hsz54, hdf54, 0, rfl, (by omega), (hbp 0 (by omega)).1, (hbp 0 (by omega)).2.1, ((l40_54).trans (by first | rfl | (simp; done) | (congr 1; omega))), rfl, rfl, rfl, (by have q0 := hc_53; have q1 : c49 = io .i64 v49 (bld (adN (putT c a)) ((tgK (putT c a) 1600).take 0)) := hc49.trans (rfl); have q2 := hc_5; subst q0 q1 q2; exact hS53)⟩ ?_
   clear hS53 hc_53 hc49 hc_5
   rintro n55 A55 w55 ⟨hsz55, hdf55, k, hm55, hk, hbl, hba, l40_55, u8_55, u38_55, u39_55, hS55⟩
   have l8_55 := u8_55.trans l8_54
   have l38_55 := u38_55.trans l38_54
   have l39_55 := u39_55.trans l39_54
   obtain ⟨c_55, c49_55, c_55b, hc_55, hc49_55, hc_55b, hS55⟩ := gen3 hS55
   refine wp_seq_k fun K56 hK56 => ?_
   refine region_in ?_
   refine W_v rfl rfl (V_lss rfl l40_55 l39_55) ?_
   refine W_end (gen_Q fun A57 hA57 => ?_)
   have hsz57 := szq hA57
   have hdf57 := dfE hA57 hdf55
   have l8_57 := lookE hA57 8 (es rfl l8_55)
   have l38_57 := lookE hA57 38 (es rfl l38_55)
   have l39_57 := lookE hA57 39 (es rfl l39_55)
   have l40_57 := lookE hA57 40 (es rfl l40_55)
   have l41_57 := lookE hA57 41 (et rfl)
   clear hA57 hsz55 hdf55 l40_55 l8_55 l38_55 l39_55
   refine then_n (hK56 _ _ ?_)
   clear hK56
   refine wp_seq_k fun K58 hK58 => ?_
   refine cond_dec l41_57 (fun c59 => ?_) (fun c59 => ?_)
   ·refine wp_skip ?_
    refine then_n (hK58 _ _ ?_)
    clear hK58
    refine wp_seq_k fun K60 hK60 => ?_
    refine wp_block ?_
    refine wp_seq_k fun K61 hK61 => ?_
    refine region_in ?_
    have k62 : k < (tgK (putT c a) 1600).length := by first | omega | (simp only [List.length_cons, List.length_nil]; omega) | (simp only [List.length_set]; omega) | decide
    obtain ⟨y62, hy62⟩ := get_some (xs := (tgK (putT c a) 1600)) (k := k) k62
    have hry62 := tgK_rng y62 (List.mem_of_getElem? hy62)
    obtain ⟨B62, O62, C62, hv62⟩ := (SlN.blk (ow_at (hS55.chq 0 rfl hc_55)) (by first | omega | (simp only [List.length_cons, List.length_nil]; omega) | (simp only [List.length_set]; omega) | decide))
    refine W_v rfl rfl (V_ixS (off := O62 + k) 1 (k) rfl l38_57 l40_57 hv62 (by omega) k62 Try.underlying25 (by kernel_rfl) (congrArg _ (Nat.mul_one _))) ?_
    refine W_r rfl rfl (VR_ldC rfl (et rfl) ((ow_at (hS55.chq 0 rfl hc_55)).cell hv62 (map_get hy62)) Try.underlying3 rfl) ?_
    refine W_v rfl rfl (V_asg rfl (et rfl)) ?_
    refine W_end (gen_Q fun A63 hA63 => ?_)
    have hsz63 := szq hA63
    have hdf63 := dfE hA63 hdf57
    have l8_63 := ek3 hA63 8 rfl l8_57
    have l10_63 := lookE hA63 10 (et rfl)
    have l38_63 := ek3 hA63 38 rfl l38_57
    have l39_63 := ek3 hA63 39 rfl l39_57
    have l40_63 := ek3 hA63 40 rfl l40_57
    clear hA63 hsz57 hdf57 l8_57 l38_57 l39_57 l40_57 l41_57
    refine then_n (hK61 _ _ ?_)
    clear hK61
    refine region_in ?_
    refine W_v rfl rfl (V_mov rfl l8_63) ?_
    refine W_v rfl rfl (V_mov rfl (es rfl l10_63)) ?_
    have hS64 := hS55.sel [1, 0, 2] (by decide) (l' := [c49_55, c_55, c_55b]) rfl
    replace hS64 : St w Y [c49_55, c_55, c_55b] w55 := hS64
    obtain ⟨Y65, hP65, hR65, hF65, hB65⟩ := St.call (pre := [c49_55]) (fr := [c_55, c_55b]) hS64
    rw [hc49_55] at hP65
    refine W_call rfl rfl rfl Try.func126 (by kernel_rfl) rfl (args2 (es rfl (et rfl)) (et rfl)) (kput_c (a := y62)  hP65 (by first | with_reducible assumption | with_reducible exact hG.p2 | with_reducible exact hG2.p2 | (rw [hbl]; exact n1) | (simp only [List.length_set, List.length_replicate] <;> assumption)) (by first | omega | with_reducible assumption)) ?_
    rintro _ w66 ⟨rfl, hP66⟩
    refine ⟨_, rfl, ?_⟩
    obtain ⟨c_66, hc_66, hP66⟩ := gen1 hP66
    have hS66 := hB65 _ _ hP66
    replace hS66 : St w Y [c_66, c_55, c_55b] w66 := hS66
    refine W_end (gen_Q fun A67 hA67 => ?_)
    have hsz67 := szq hA67
    have hdf67 := dfE hA67 hdf63
    have l8_67 := ek3 hA67 8 rfl l8_63
    have l38_67 := ek3 hA67 38 rfl l38_63
    have l39_67 := ek3 hA67 39 rfl l39_63
    have l40_67 := ek3 hA67 40 rfl l40_63
    clear hA67 hsz63 hdf63 l8_63 l10_63 l38_63 l39_63 l40_63
    refine inb_n ?_
    refine then_n (hK60 _ _ ?_)
    clear hK60
    refine region_in ?_
    refine W_v rfl rfl (V_add rfl l40_67 rfl (by omega) (by omega)) ?_
    refine W_v rfl rfl (V_mov rfl (et rfl)) ?_
    refine W_end (gen_Q fun A68 hA68 => ?_)
    have hsz68 := szq hA68
    have hdf68 := dfE hA68 hdf67
    have l8_68 := ek2 hA68 8 rfl l8_67
    have l38_68 := ek2 hA68 38 rfl l38_67
    have l39_68 := ek2 hA68 39 rfl l39_67
    have l40_68 := lookE hA68 40 (et rfl)
    clear hA68 hsz67 hdf67 l8_67 l38_67 l39_67 l40_67
    have hS69 : St w Y [c_55, c_66, c_55b] w66 := hS66.sel [1, 0, 2] (by decide) rfl
    refine then_n ⟨(tgK (putT c a) 1600).length - (k + 1), by simp only [hm55]; omega, hsz68, hdf68, (k + 1), rfl, (by omega), (hbp (k + 1) (by omega)).1, (hbp (k + 1) (by omega)).2.1, ((l40_68).trans (by first | rfl | (simp; done) | (congr 1; omega))), ((l8_68).trans l8_54.symm), ((l38_68).trans l38_54.symm), ((l39_68).trans l39_54.symm), (by have q0 := hc_55; have q1 : c_66 = io .i64 v49 (bld (adN (putT c a)) ((tgK (putT c a) 1600).take (k + 1))) := hc_66.trans ((congrArg (io .i64 _) (bld_take hy62))); have q2 := hc_55b; subst q0 q1 q2; exact hS69)⟩
   ·refine wp_exit ?_
    refine then_exit ?_
    refine then_exit ?_
    refine inb_hit ?_
    refine then_n (hK51 _ _ ?_)
    clear hK51
    refine wp_seq_k fun K70 hK70 => ?_
    refine region_in ?_
    refine W_v rfl rfl (V_mov rfl l8_57) ?_
    refine W_v rfl rfl (V_asg rfl (et rfl)) ?_
    refine W_end (gen_Q fun A71 hA71 => ?_)
    have hsz71 := szq hA71
    have hdf71 := dfE hA71 hdf57
    have l4_71 := lookE hA71 4 (et rfl)
    clear hA71 hsz57 hdf57 l8_57 l38_57 l39_57 l40_57 l41_57
    have hS72 : St w Y [c49_55, c_55b] w55 := hS55.sel [1, 2] (by decide) rfl
    refine then_n (hK70 _ _ ?_)
    clear hK70
    refine wp_ret ?_
    refine ret_in (results_1 Try.results116 (rv_tmp l4_71)) hdf71 ?_
    exact ⟨_, rfl, (hS72.fin1 0 rfl (hc49_55.trans (congrArg (io .i64 _) (addT_yes c13 (by omega)))))⟩

end Go.Proofs.Yteppjefmlibmoaa