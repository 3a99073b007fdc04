import Derived.Test.YteppjefmlibmoaaProg
import Derived.Test.YteppjefmlibmoaaSl1
import Derived.Test.YteppjefmlibmoaaSh08
import Derived.Test.YteppjefmlibmoaaPl7d
namespace Go.Proofs.Yteppjefmlibmoaa
open Go.RowKit Go.Own Go.Own.R Go.Own.S


set_option maxHeartbeats 4000000 in
theorem kcln_c {cv : Value} {c : List Int} {w : World} (h_cv : Ro w NoX (il .i64 cv c)) (h0 : 0 < c.length) (hl : c.length ≤ 8192) :
  Calls Try.prog 80 #[cv] w fun e w' => ∃ v, e = .returned (v) ∧ (0 < capS v) ∧ St w NoX [io .i64 (v) c] w' := by
 refine calls_in 8 Try.func80 rfl rfl (by simp) (fun A0 Y0 hdf0 hargs => ?_)
 have l0_0 := hargs 0 (cv) rfl
 clear hargs; replace Y0 : SzN A0 8 := ⟨Y0⟩
 have hS := St.nil w
 have bh_cv := SlN.le (sl_SlN h_cv.at)
 refine wp_seq_k fun K1 H1 => ?_
 refine region_in ?_
 refine W_v rfl rfl (V_asg rfl rfl) ?_
 refine W_end (gen_Q fun A2 E2 => ?_)
 have Y2 := szq E2
 have F2 := (fsE E2 (cq1 (FS.n hdf0) rfl)).c (lookE E2 0 (es rfl l0_0))
 clear E2 Y0 hdf0 l0_0
 refine tk H1 ?_
 refine wp_seq_k fun K3 H3 => ?_
 refine wp_seq_k fun K4 H4 => ?_
 refine region_in ?_
 refine W_v rfl rfl (V_mov rfl (fg0 F2)) ?_
 refine W_v rfl rfl (V_eqNilS rfl (et rfl) rfl (sl_SlN h_cv.at) (by omega) Try.underlying25) ?_
 refine W_end (gen_Q fun A5 E5 => ?_)
 have Y5 := szq E5
 have F5 := fsE E5 (ck (cq1 F2 rfl) rfl rfl)
 clear E5 Y2 F2
 refine tk H4 ?_
 refine cond_f (fg0 F5) ?_
 refine wp_skip ?_
 refine tk H3 ?_
 refine wp_seq_k fun K6 H6 => ?_
 refine region_in ?_
 refine W_litS (vs := []) (xs := []) 1 hS rfl rfl rfl (parts0) rfl Try.underlying25 (by kernel_rfl) (by decide) (by intro v hv; cases hv) (by rfl) (fun g7 w7 c7 hc7 S7 => ?_)
 replace hc7 : c7 = io .i64 (.slice (some ⟨g7, 0, none⟩) 0 0) [] := hc7
 replace S7 : St w NoX [c7] w7 := S7
 refine W_v rfl rfl (V_mov rfl (es rfl (fg1 F5))) ?_
 refine W_appS 1 0 S7 rfl hc7 rfl rfl rfl (es rfl (et rfl)) (et rfl) Try.underlying25 Try.underlying25 (z := .int .i64 0) (bytes := 8) (by kernel_rfl) rfl (by decide) (sl_SlN (S7.ro h_cv)) ones_i (by first | omega | (simp; done) | (simp; omega)) (by first | omega | (simp; done) | (simp; omega)) (fun v8 w8 c8 hc8 S8 => ?_)
 replace hc8 : c8 = io .i64 v8 c := hc8.trans (app_eq (by first | (simp; done) | (rw [List.take_of_length_le (l := List.drop _ _) (by rw [List.length_drop]; exact Nat.le_refl _)])))
 replace S8 : St w NoX [c8] w8 := S8
 refine W_v rfl rfl (V_asg rfl (et rfl)) ?_
 refine W_end (gen_Q fun A9 E9 => ?_)
 have Y9 := szq E9
 have F9 := fsE E9 (ck (cq3 F5 rfl) rfl rfl)
 clear E9 Y5 F5
 refine tk H6 ?_
 refine wp_ret ?_
 refine ret_in (results_1 Try.results80 (rv_tmp (fg0 F9))) F9.d ?_
 have hq := SlN.capS (ow_at (S8.chq 0 rfl hc8))
 exact ⟨_, rfl, by omega, (S8.fin1 0 rfl (hc8))⟩

set_option maxHeartbeats 4000000 in
theorem ksr_c {cv : Value} {c : List Int} {w : World} (h_cv : Ro w NoX (il .i64 cv c)) (h0 : 0 < c.length) (hl : c.length ≤ 8192) (hr : Rng c) (hd : Dst c) :
  Calls Try.prog 74 #[cv] w fun e w' => ∃ v, e = .returned (v) ∧ St w NoX [io .i64 (v) (tgK c 1600)] w' := by
 have hfl := fl_len (fun x => decide (x ≤ 0)) c
 refine calls_in 10 Try.func74 rfl rfl (by simp) (fun A0 hsz0 hdf0 hargs => ?_)
 have l0_0 := hargs 0 (cv) rfl
 clear hargs; replace hsz0 : SzN A0 10 := ⟨hsz0⟩
 have hS := St.nil w
 have bh_cv := SlN.le (sl_SlN h_cv.at)
 refine wp_seq_k fun K1 H1 => ?_
 refine region_in ?_
 refine W_v rfl rfl (V_asg rfl rfl) ?_
 refine W_end (gen_Q fun A2 E2 => ?_)
 have hsz2 := szq E2
 have F2 := (fsE E2 (cq1 (FS.n hdf0) rfl)).c (lookE E2 0 (es rfl l0_0))
 clear E2 hsz0 hdf0 l0_0
 refine tk H1 ?_
 refine wp_seq_k fun K3 H3 => ?_
 refine region_in ?_
 refine W_v rfl rfl (V_mov rfl (fg0 F2)) ?_
 refine W_call rfl rfl rfl Try.func80 (by kernel_rfl) rfl (args1 (et rfl)) (kcln_c (hS.roC h_cv) (by first | omega | with_reducible assumption) (by first | omega | with_reducible assumption)) ?_
 rintro _ w4 ⟨v_4, rfl, hcp_4, hP4⟩
 refine ⟨_, rfl, ?_⟩
 obtain ⟨c_4, hc_4, hP4⟩ := gen1 hP4
 have S4 := hS.join hP4
 replace S4 : St w NoX [c_4] w4 := S4
 obtain ⟨Y5, hP5, hR5, hF5, hB5⟩ := St.call (pre := [c_4]) (fr := []) S4
 rw [hc_4] at hP5
 refine W_call rfl rfl rfl Try.func76 (by kernel_rfl) rfl (args2 (et rfl) rfl) (kdls_c  hP5 ) ?_
 rintro _ w6 ⟨u_6, rfl, hcap_6, hP6⟩
 refine ⟨_, rfl, ?_⟩
 obtain ⟨c_6, hc_6, hP6⟩ := gen1 hP6
 have S6 := hB5 _ _ hP6
 replace S6 : St w NoX [c_6] w6 := S6
 refine W_v rfl rfl (V_asg rfl (et rfl)) ?_
 refine W_end (gen_Q fun A7 E7 => ?_)
 have hsz7 := szq E7
 have F7 := fsE E7 (ck (cq3 F2 rfl) rfl rfl)
 clear E7 hsz2 F2
 refine tk H3 ?_
 refine wp_seq_k fun K8 H8 => ?_
 refine region_in ?_
 refine W_v rfl rfl (V_mov rfl (fg0 F7)) ?_
 obtain ⟨Y9, hP9, hR9, hF9, hB9⟩ := St.call (pre := [c_6]) (fr := []) S6
 rw [hc_6] at hP9
 refine W_call rfl rfl rfl Try.func47 (by kernel_rfl) rfl (args1 (et rfl)) ((sort_St2 (us := sortL (fl (fun x => decide (x ≤ 0)) c)) hP9 (by first | with_reducible assumption | omega) (sortL_len (fl (fun x => decide (x ≤ 0)) c)) (fun g off cap hH hg => Try.slices_Sort_int g off cap (fl (fun x => decide (x ≤ 0)) c) _ hH hg (by omega)))) ?_
 rintro _ w10 ⟨rfl, hP10⟩
 refine ⟨_, rfl, ?_⟩
 obtain ⟨c_10, hc_10, hP10⟩ := gen1 hP10
 have S10 := hB9 _ _ hP10
 replace S10 : St w NoX [c_10] w10 := S10
 refine W_end (gen_Q fun A11 E11 => ?_)
 have hsz11 := szq E11
 have F11 := fsE E11 (cq2 F7 rfl)
 clear E11 hsz7 F7
 refine tk H8 ?_
 refine wp_seq_k fun K12 H12 => ?_
 refine region_in ?_
 refine W_v rfl rfl (V_mov rfl (fg0 F11)) ?_
 refine W_v rfl rfl (V_asg rfl (et rfl)) ?_
 refine W_end (gen_Q fun A13 E13 => ?_)
 have hsz13 := szq E13
 have F13 := fsE E13 (ck (cq1 F11 rfl) rfl rfl)
 clear E13 hsz11 F11
 refine tk H12 ?_
 refine wp_ret ?_
 refine ret_in (results_1 Try.results74 (rv_tmp (fg0 F13))) F13.d ?_
 exact ⟨_, rfl, (S10.fin1 0 rfl (hc_10.trans (congrArg (io .i64 _) (srt_fl hr hd))))⟩

set_option maxHeartbeats 4000000 in
theorem kadd_c {cv : Value} {c : List Int} {a : Int} {w : World} {Y : Nat → Prop}  (hS : St w Y [io .i64 cv c] w) (hG : Gd c) (ha : 1 ≤ a ∧ a ≤ 1600) (hn : a ∉ c) :
  Calls Try.prog 116 #[cv, .int .i64 a] w fun e w' => ∃ v, e = .returned (v) ∧ St w Y [io .i64 (v) (addT c a)] w' := by
 have hpb := hG.bd
 have hpl := putT_len c a
 obtain ⟨p1, p2, p3, p4, p5⟩ := put_good hG.toGw ha hn hpb.2.2.2
 have hfl := hG.full
 have hul := usd_le (putT c a)
 have hau := adr_usd (putT c a)
 obtain ⟨n1, n2, n3, n4⟩ := adN_bd p1 (by rw [hpl]; exact hG.p2) (by omega)
 have n1b := n1.bd
 have hbp := fun k h => bld_part (c := putT c a) (n := adN (putT c a)) (k := k) n2 h
 have htl := tgK_len (putT c a) 1600
 refine calls_in 49 Try.func116 rfl rfl (by simp) (fun A0 hsz0 hdf0 hargs => ?_)
 have l0_0 := hargs 0 (cv) rfl
 have l1_0 := hargs 1 (.int .i64 a) rfl
 clear hargs; replace hsz0 : SzN A0 49 := ⟨hsz0⟩
 obtain ⟨m_cv, hm_cv, hS⟩ := gen1 hS
 replace hS : St w Y [m_cv] w := hS
 have bm_cv := SlN.le (ow_at (hS.chq 0 rfl hm_cv))
 refine wp_seq_k fun K1 H1 => ?_
 refine region_in ?_
 refine W_v rfl rfl (V_asg rfl rfl) ?_
 refine W_end (gen_Q fun A2 E2 => ?_)
 have hsz2 := szq E2
 have F2 := ((fsE E2 (cq1 (FS.n hdf0) rfl)).c (lookE E2 0 (es rfl l0_0))).c (lookE E2 1 (es rfl l1_0))
 clear E2 hsz0 hdf0 l0_0 l1_0
 refine tk H1 ?_
 refine wp_seq_k fun K3 H3 => ?_
 refine region_in ?_
 refine W_v rfl rfl (V_mov rfl (fg1 F2)) ?_
 refine W_v rfl rfl (V_mov rfl (es rfl (fg0 F2))) ?_
 obtain ⟨Y4, hP4, hR4, hF4, hB4⟩ := St.call (pre := [m_cv]) (fr := []) hS
 rw [hm_cv] at hP4
 refine W_call rfl rfl rfl Try.func126 (by kernel_rfl) rfl (args2 (es rfl (et rfl)) (et rfl)) (kput_c (a := a)  hP4 (by first | with_reducible assumption | with_reducible exact hG.p2 | with_reducible exact hG2.p2 | (rw [hbl]; exact n1) | (simp only [List.length_set, List.length_replicate] <;> assumption)) (by first | omega | with_reducible assumption)) ?_
 rintro _ w5 ⟨rfl, hP5⟩
 refine ⟨_, rfl, ?_⟩
 obtain ⟨c_5, hc_5, hP5⟩ := gen1 hP5
 have S5 := hB4 _ _ hP5
 replace S5 : St w Y [c_5] w5 := S5
 refine W_end (gen_Q fun A6 E6 => ?_)
 have hsz6 := szq E6
 have F6 := fsE E6 (cq3 F2 rfl)
 clear E6 hsz2 F2
 refine tk H3 ?_
 refine wp_seq_k fun K7 H7 => ?_
 refine region_in ?_
 refine W_v rfl rfl (V_mov rfl (fg1 F6)) ?_
 refine W_call rfl rfl rfl Try.func82 (by kernel_rfl) rfl (args1 (et rfl)) (kcnt_c (S5.chC 0 rfl hc_5).own ) ?_
 rintro _ w8 ⟨rfl, hP8⟩
 refine ⟨_, rfl, ?_⟩
 have S8 := S5.join hP8
 replace S8 : St w Y [c_5] w8 := S8
 refine W_v rfl rfl (V_mov rfl (et rfl)) ?_
 refine W_v rfl rfl (V_ext (v := .int .i64 (((usd (putT c a) : Nat) : Int))) rfl (et rfl) rfl) ?_
 refine W_v rfl rfl (V_ext (v := .int .i64 (((adr (putT c a) : Nat) : Int))) rfl (es rfl (et rfl)) rfl) ?_
 refine W_v rfl rfl (V_asg rfl (es rfl (et rfl))) ?_
 refine W_v rfl rfl (V_asg rfl (es rfl (et rfl))) ?_
 refine W_end (gen_Q fun A9 E9 => ?_)
 have hsz9 := szq E9
 have F9 := fsE E9 (ck (ck (cq5 F6 rfl) rfl rfl) rfl rfl)
 clear E9 hsz6 F6
 refine tk H7 ?_
 refine wp_seq_k fun K10 H10 => ?_
 refine wp_seq_k fun K11 H11 => ?_
 refine region_in ?_
 refine W_v rfl rfl (V_mov rfl (fg1 F9)) ?_
 refine W_v rfl rfl (V_mul rfl rfl (et rfl) (by omega) (by omega)) ?_
 refine W_v rfl rfl (V_mov rfl (es2 rfl (fg3 F9))) ?_
 refine W_v rfl rfl (V_lenS rfl (et rfl) (ow_at (S8.chq 0 rfl hc_5)) Try.underlying25) ?_
 refine W_v rfl rfl (V_mul rfl rfl (et rfl) (by omega) (by omega)) ?_
 refine W_v rfl rfl (V_leq rfl (es3 rfl (et rfl)) (et rfl)) ?_
 refine W_end (gen_Q fun A12 E12 => ?_)
 have hsz12 := szq E12
 have F12 := fsE E12 (ck (cq5 F9 rfl) rfl rfl)
 clear E12 hsz9 F9
 refine tk H11 ?_
 refine cond_dec (fg0 F12) (fun c13 => ?_) (fun c13 => ?_)
 ·refine wp_seq_k fun K14 H14 => ?_
  refine region_in ?_
  refine W_v rfl rfl (V_mov rfl (fg4 F12)) ?_
  refine W_v rfl rfl (V_asg rfl (et rfl)) ?_
  refine W_end (gen_Q fun A15 E15 => ?_)
  have hsz15 := szq E15
  have F15 := fsE E15 (ck (cq1 F12 rfl) rfl rfl)
  clear E15 hsz12 F12
  refine tk H14 ?_
  refine wp_ret ?_
  refine then_ret ?_
  refine ret_in (results_1 Try.results116 (rv_tmp (fg0 F15))) F15.d ?_
  exact ⟨_, rfl, (S8.fin1 0 rfl (hc_5.trans (congrArg (io .i64 _) (addT_no c13))))⟩
 refine wp_skip ?_
 refine tk H10 ?_
 refine wp_seq_k fun K16 H16 => ?_
 refine region_in ?_
 refine W_v rfl rfl (V_mov rfl (fg4 F12)) ?_
 refine W_v rfl rfl (V_lenS rfl (et rfl) (ow_at (S8.chq 0 rfl hc_5)) Try.underlying25) ?_
 refine W_v rfl rfl (V_asg rfl (et rfl)) ?_
 refine W_end (gen_Q fun A17 E17 => ?_)
 have hsz17 := szq E17
 have F17 := fsE E17 (ck (cq2 F12 rfl) rfl rfl)
 clear E17 hsz12 F12
 refine tk H16 ?_
 refine wp_seq_k fun K18 H18 => ?_
 refine wp_seq_k fun K19 H19 => ?_
 refine region_in ?_
 refine W_v rfl rfl (V_mov rfl (fg2 F17)) ?_
 refine W_v rfl rfl (V_mul rfl rfl (et rfl) (by omega) (by omega)) ?_
 refine W_v rfl rfl (V_mov rfl (es2 rfl (fg0 F17))) ?_
 refine W_v rfl rfl (V_mul rfl rfl (et rfl) (by omega) (by omega)) ?_
 refine W_v rfl rfl (V_gtr rfl (es2 rfl (et rfl)) (et rfl)) ?_
 refine W_end (gen_Q fun A20 E20 => ?_)
 have hsz20 := szq E20
 have F20 := fsE E20 (ck (cq4 F17 rfl) rfl rfl)
 clear E20 hsz17 F17
 refine tk H19 ?_
 refine cond_dec (fg0 F20) (fun c21 => ?_) (fun c21 => ?_)
 ·have hN : adN (putT c a) = 2 * (putT c a).length := if_pos (by omega)
  refine region_in ?_
  refine W_v rfl rfl (V_mov rfl (fg1 F20)) ?_
  refine W_v rfl rfl (V_mul rfl (et rfl) rfl (by omega) (by omega)) ?_
  refine W_v rfl rfl (V_asg rfl (et rfl)) ?_
  refine W_end (gen_Q fun A22 E22 => ?_)
  have hsz22 := szq E22
  have F22 := fsE E22 (ck (cq2 (fx1 F20) rfl) rfl rfl)
  clear E22 hsz20 F20
  refine tk H18 ?_
  refine wp_seq_k fun K23 H23 => ?_
  refine region_in ?_
  refine W_v rfl rfl (V_mov rfl (fg0 F22)) ?_
  refine W_mkS (z := .int .i64 0) (bytes := 8) (adN (putT c a)) S8 rfl rfl rfl (et rfl) (et rfl) (by omega) Try.underlying25 (by kernel_rfl) (by omega) rfl (fun v24 w24 c24 hc24 S24 => ?_)
  replace hc24 : c24 = io .i64 v24 (List.replicate (adN (putT c a)) (0 : Int)) := hc24.trans (by simp only [io, bo, List.map_replicate, List.length_replicate])
  replace S24 : St w Y [c24, c_5] w24 := S24
  refine W_v rfl rfl (V_asg rfl (et rfl)) ?_
  refine W_end (gen_Q fun A25 E25 => ?_)
  have hsz25 := szq E25
  have F25 := fsE E25 (ck (cq2 F22 rfl) rfl rfl)
  clear E25 hsz22 F22
  refine tk H23 ?_
  refine wp_seq_k fun K26 H26 => ?_
  refine wp_seq_k fun K27 H27 => ?_
  refine region_in ?_
  refine W_v rfl rfl (V_mov rfl (fg7 F25)) ?_
  refine W_call rfl rfl rfl Try.func74 (by kernel_rfl) rfl (args1 (et rfl)) (ksr_c (S24.chC 1 rfl hc_5).own (by first | omega | with_reducible assumption) (by first | omega | with_reducible assumption) (by first | with_reducible assumption | with_reducible exact hG.rng | with_reducible exact p1.rng | with_reducible exact hr2) (by first | with_reducible assumption | with_reducible exact hG.dst | with_reducible exact p1.dst | with_reducible exact hd2)) ?_
  rintro _ w28 ⟨v_28, rfl, hP28⟩
  refine ⟨_, rfl, ?_⟩
  obtain ⟨c_28, hc_28, hP28⟩ := gen1 hP28
  have S28 := S24.join hP28
  replace S28 : St w Y [c_28, c24, c_5] w28 := S28
  refine W_v rfl rfl (V_lenS rfl (et rfl) (ow_at (S28.chq 0 rfl hc_28)) Try.underlying25) ?_
  refine W_v rfl rfl (V_mov rfl rfl) ?_
  refine W_end (gen_Q fun A29 E29 => ?_)
  have hsz29 := szq E29
  have F29 := fsE E29 (ck (ck (ck (cq1 F25 rfl) rfl rfl) rfl rfl) rfl rfl)
  clear E29 hsz25 F25
  refine tk H27 ?_
  refine wp_block ?_
  -- loop 10
  refine loopX (fun mz A' w' => SzN A' 49 ∧ A'.defers = [] ∧ (∃ (k : Nat), (mz = (tgK (putT c a) 1600).length - k) ∧ (k ≤ (tgK (putT c a) 1600).length) ∧ ((bld (adN (putT c a)) ((tgK (putT c a) 1600).take k)).length = (adN (putT c a))) ∧ (adr (bld (adN (putT c a)) ((tgK (putT c a) 1600).take k)) = k) ∧ (EV A' (.tmp 40) = .int .i64 (k : Int)) ∧ (EV A' (.tmp 8) = EV A29 (.tmp 8)) ∧ (EV A' (.tmp 38) = EV A29 (.tmp 38)) ∧ (EV A' (.tmp 39) = EV A29 (.tmp 39)) ∧ (St w Y [io .i64 v_28 (tgK (putT c a) 1600), io .i64 v24 (bld (adN (putT c a)) ((tgK (putT c a) 1600).take k)), io .i64 cv (putT c a)] w'))) ((tgK (putT c a) 1600).length - 0) ⟨hsz29, F29.d, 0, rfl, (by omega), (hbp 0 (by omega)).1, (hbp 0 (by omega)).2.1, (((fg0 F29)).trans (by first | rfl | (simp; done) | (congr 1; omega))), rfl, rfl, rfl, (by have q0 := hc_28; have q1 : c24 = io .i64 v24 (bld (adN (putT c a)) ((tgK (putT c a) 1600).take 0)) := hc24.trans (rfl); have q2 := hc_5; subst q0 q1 q2; exact S28)⟩ ?_
  clear S28 hc_28 hc24 hc_5
  rintro n30 A30 w30 ⟨hsz30, hdf30, k, hm30, hk, hbl, hba, l40_30, u8_30, u38_30, u39_30, S30⟩
  have l8_30 := u8_30.trans (fg3 F29)
  have l38_30 := u38_30.trans (fg2 F29)
  have l39_30 := u39_30.trans (fg1 F29)
  obtain ⟨c_30, c24_30, c_30b, hc_30, hc24_30, hc_30b, S30⟩ := gen3 S30
  refine wp_seq_k fun K31 H31 => ?_
  refine region_in ?_
  refine W_v rfl rfl (V_lss rfl l40_30 l39_30) ?_
  refine W_end (gen_Q fun A32 E32 => ?_)
  have hsz32 := szq E32
  have F32 := ((((fsE E32 (ck (FS.n hdf30) rfl rfl)).c (lookE E32 8 (es rfl l8_30))).c (lookE E32 38 (es rfl l38_30))).c (lookE E32 39 (es rfl l39_30))).c (lookE E32 40 (es rfl l40_30))
  clear E32 hsz30 hdf30 l40_30 l8_30 l38_30 l39_30
  refine tk H31 ?_
  refine wp_seq_k fun K33 H33 => ?_
  refine cond_dec (fg4 F32) (fun c34 => ?_) (fun c34 => ?_)
  ·refine wp_skip ?_
   refine tk H33 ?_
   refine wp_seq_k fun K35 H35 => ?_
   refine wp_block ?_
   refine wp_seq_k fun K36 H36 => ?_
   refine region_in ?_
   have k37 : k < (tgK (putT c a) 1600).length := by first | omega | (simp only [List.length_cons, List.length_nil]; omega) | (simp only [List.length_set]; omega) | decide
   obtain ⟨y37, hy37⟩ := get_some (xs := (tgK (putT c a) 1600)) (k := k) k37
   have hry37 := tgK_rng y37 (List.mem_of_getElem? hy37)
   obtain ⟨B37, O37, C37, hv37⟩ := (SlN.blk (ow_at (S30.chq 0 rfl hc_30)) (by first | omega | (simp only [List.length_cons, List.length_nil]; omega) | (simp only [List.length_set]; omega) | decide))
   refine W_v rfl rfl (V_ixS (off := O37 + k) 1 (k) rfl (fg2 F32) (fg0 F32) hv37 (by omega) k37 Try.underlying25 (by kernel_rfl) (congrArg _ (Nat.mul_one _))) ?_
   refine W_r rfl rfl (VR_ldC rfl (et rfl) ((ow_at (S30.chq 0 rfl hc_30)).cell hv37 (map_get hy37)) Try.underlying3 rfl) ?_
   refine W_v rfl rfl (V_asg rfl (et rfl)) ?_
   refine W_end (gen_Q fun A38 E38 => ?_)
   have hsz38 := szq E38
   have F38 := fsE E38 (ck (cq2 F32 rfl) rfl rfl)
   clear E38 hsz32 F32
   refine tk H36 ?_
   refine region_in ?_
   refine W_v rfl rfl (V_mov rfl (fg4 F38)) ?_
   refine W_v rfl rfl (V_mov rfl (es rfl (fg0 F38))) ?_
   have S39 := S30.sel [1, 0, 2] (by decide) (l' := [c24_30, c_30, c_30b]) rfl
   replace S39 : St w Y [c24_30, c_30, c_30b] w30 := S39
   obtain ⟨Y40, hP40, hR40, hF40, hB40⟩ := St.call (pre := [c24_30]) (fr := [c_30, c_30b]) S39
   rw [hc24_30] at hP40
   refine W_call rfl rfl rfl Try.func126 (by kernel_rfl) rfl (args2 (es rfl (et rfl)) (et rfl)) (kput_c (a := y37)  hP40 (by first | with_reducible assumption | with_reducible exact hG.p2 | with_reducible exact hG2.p2 | (rw [hbl]; exact n1) | (simp only [List.length_set, List.length_replicate] <;> assumption)) (by first | omega | with_reducible assumption)) ?_
   rintro _ w41 ⟨rfl, hP41⟩
   refine ⟨_, rfl, ?_⟩
   obtain ⟨c_41, hc_41, hP41⟩ := gen1 hP41
   have S41 := hB40 _ _ hP41
   replace S41 : St w Y [c_41, c_30, c_30b] w41 := S41
   refine W_end (gen_Q fun A42 E42 => ?_)
   have hsz42 := szq E42
   have F42 := fsE E42 (cq3 F38 rfl)
   clear E42 hsz38 F38
   refine inb_n ?_
   refine tk H35 ?_
   refine region_in ?_
   refine W_v rfl rfl (V_add rfl (fg1 F42) rfl (by omega) (by omega)) ?_
   refine W_v rfl rfl (V_mov rfl (et rfl)) ?_
   refine W_end (gen_Q fun A43 E43 => ?_)
   have hsz43 := szq E43
   have F43 := fsE E43 (ck (cq1 (fx1 F42) rfl) rfl rfl)
   clear E43 hsz42 F42
   have S44 : St w Y [c_30, c_41, c_30b] w41 := S41.sel [1, 0, 2] (by decide) rfl
   refine then_n ⟨(tgK (putT c a) 1600).length - (k + 1), by simp only [hm30]; omega, hsz43, F43.d, (k + 1), rfl, (by omega), (hbp (k + 1) (by omega)).1, (hbp (k + 1) (by omega)).2.1, (((fg0 F43)).trans (by first | rfl | (simp; done) | (congr 1; omega))), (((fg4 F43)).trans (fg3 F29).symm), (((fg3 F43)).trans (fg2 F29).symm), (((fg2 F43)).trans (fg1 F29).symm), (by have q0 := hc_30; have q1 : c_41 = io .i64 v24 (bld (adN (putT c a)) ((tgK (putT c a) 1600).take (k + 1))) := hc_41.trans ((congrArg (io .i64 _) (bld_take hy37))); have q2 := hc_30b; subst q0 q1 q2; exact S44)⟩
  refine wp_exit ?_
  refine then_exit ?_
  refine then_exit ?_
  refine inb_hit ?_
  refine tk H26 ?_
  refine wp_seq_k fun K45 H45 => ?_
  refine region_in ?_
  refine W_v rfl rfl (V_mov rfl (fg3 F32)) ?_
  refine W_v rfl rfl (V_asg rfl (et rfl)) ?_
  refine W_end (gen_Q fun A46 E46 => ?_)
  have hsz46 := szq E46
  have F46 := fsE E46 (ck (cq1 F32 rfl) rfl rfl)
  clear E46 hsz32 F32
  have S47 : St w Y [c24_30, c_30b] w30 := S30.sel [1, 2] (by decide) rfl
  refine tk H45 ?_
  refine wp_ret ?_
  refine ret_in (results_1 Try.results116 (rv_tmp (fg0 F46))) F46.d ?_
  exact ⟨_, rfl, (S47.fin1 0 rfl (hc24_30.trans (congrArg (io .i64 _) (addT_yes c13 (by omega)))))⟩
 have hN : adN (putT c a) = (putT c a).length := if_neg (by omega)
 refine wp_skip ?_
 refine tk H18 ?_
 refine wp_seq_k fun K48 H48 => ?_
 refine region_in ?_
 refine W_v rfl rfl (V_mov rfl (fg1 F20)) ?_
 refine W_mkS (z := .int .i64 0) (bytes := 8) (adN (putT c a)) S8 rfl rfl rfl (et rfl) (et rfl) (by omega) Try.underlying25 (by kernel_rfl) (by omega) rfl (fun v49 w49 c49 hc49 S49 => ?_)
 replace hc49 : c49 = io .i64 v49 (List.replicate (adN (putT c a)) (0 : Int)) := hc49.trans (by simp only [io, bo, List.map_replicate, List.length_replicate])
 replace S49 : St w Y [c49, c_5] w49 := S49
 refine W_v rfl rfl (V_asg rfl (et rfl)) ?_
 refine W_end (gen_Q fun A50 E50 => ?_)
 have hsz50 := szq E50
 have F50 := fsE E50 (ck (cq2 F20 rfl) rfl rfl)
 clear E50 hsz20 F20
 refine tk H48 ?_
 refine wp_seq_k fun K51 H51 => ?_
 refine wp_seq_k fun K52 H52 => ?_
 refine region_in ?_
 refine W_v rfl rfl (V_mov rfl (fg7 F50)) ?_
 refine W_call rfl rfl rfl Try.func74 (by kernel_rfl) rfl (args1 (et rfl)) (ksr_c (S49.chC 1 rfl hc_5).own (by first | omega | with_reducible assumption) (by first | omega | with_reducible assumption) (by first | with_reducible assumption | with_reducible exact hG.rng | with_reducible exact p1.rng | with_reducible exact hr2) (by first | with_reducible assumption | with_reducible exact hG.dst | with_reducible exact p1.dst | with_reducible exact hd2)) ?_
 rintro _ w53 ⟨v_53, rfl, hP53⟩
 refine ⟨_, rfl, ?_⟩
 obtain ⟨c_53, hc_53, hP53⟩ := gen1 hP53
 have S53 := S49.join hP53
 replace S53 : St w Y [c_53, c49, c_5] w53 := S53
 refine W_v rfl rfl (V_lenS rfl (et rfl) (ow_at (S53.chq 0 rfl hc_53)) Try.underlying25) ?_
 refine W_v rfl rfl (V_mov rfl rfl) ?_
 refine W_end (gen_Q fun A54 E54 => ?_)
 have hsz54 := szq E54
 have F54 := fsE E54 (ck (ck (ck (cq1 F50 rfl) rfl rfl) rfl rfl) rfl rfl)
 clear E54 hsz50 F50
 refine tk H52 ?_
 refine wp_block ?_
 -- loop 10
 refine loopX (fun mz A' w' => SzN A' 49 ∧ A'.defers = [] ∧ (∃ (k : Nat), (mz = (tgK (putT c a) 1600).length - k) ∧ (k ≤ (tgK (putT c a) 1600).length) ∧ ((bld (adN (putT c a)) ((tgK (putT c a) 1600).take k)).length = (adN (putT c a))) ∧ (adr (bld (adN (putT c a)) ((tgK (putT c a) 1600).take k)) = k) ∧ (EV A' (.tmp 40) = .int .i64 (k : Int)) ∧ (EV A' (.tmp 8) = EV A54 (.tmp 8)) ∧ (EV A' (.tmp 38) = EV A54 (.tmp 38)) ∧ (EV A' (.tmp 39) = EV A54 (.tmp 39)) ∧ (St w Y [io .i64 v_53 (tgK (putT c a) 1600), io .i64 v49 (bld (adN (putT c a)) ((tgK (putT c a) 1600).take k)), io .i64 cv (putT c a)] w'))) ((tgK (putT c a) 1600).length - 0) ⟨hsz54, F54.d, 0, rfl, (by omega), (hbp 0 (by omega)).1, (hbp 0 (by omega)).2.1, (((fg0 F54)).trans (by first | rfl | (simp; done) | (congr 1; omega))), rfl, rfl, rfl, (by have q0 := hc_53; have q1 : c49 = io .i64 v49 (bld (adN (putT c a)) ((tgK (putT c a) 1600).take 0)) := hc49.trans (rfl); have q2 := hc_5; subst q0 q1 q2; exact S53)⟩ ?_
 clear S53 hc_53 hc49 hc_5
 rintro n55 A55 w55 ⟨hsz55, hdf55, k, hm55, hk, hbl, hba, l40_55, u8_55, u38_55, u39_55, S55⟩
 have l8_55 := u8_55.trans (fg3 F54)
 have l38_55 := u38_55.trans (fg2 F54)
 have l39_55 := u39_55.trans (fg1 F54)
 obtain ⟨c_55, c49_55, c_55b, hc_55, hc49_55, hc_55b, S55⟩ := gen3 S55
 refine wp_seq_k fun K56 H56 => ?_
 refine region_in ?_
 refine W_v rfl rfl (V_lss rfl l40_55 l39_55) ?_
 refine W_end (gen_Q fun A57 E57 => ?_)
 have hsz57 := szq E57
 have F57 := ((((fsE E57 (ck (FS.n hdf55) rfl rfl)).c (lookE E57 8 (es rfl l8_55))).c (lookE E57 38 (es rfl l38_55))).c (lookE E57 39 (es rfl l39_55))).c (lookE E57 40 (es rfl l40_55))
 clear E57 hsz55 hdf55 l40_55 l8_55 l38_55 l39_55
 refine tk H56 ?_
 refine wp_seq_k fun K58 H58 => ?_
 refine cond_dec (fg4 F57) (fun c59 => ?_) (fun c59 => ?_)
 ·refine wp_skip ?_
  refine tk H58 ?_
  refine wp_seq_k fun K60 H60 => ?_
  refine wp_block ?_
  refine wp_seq_k fun K61 H61 => ?_
  refine region_in ?_
  have k62 : k < (tgK (putT c a) 1600).length := by first | omega | (simp only [List.length_cons, List.length_nil]; omega) | (simp only [List.length_set]; omega) | decide
  obtain ⟨y62, hy62⟩ := get_some (xs := (tgK (putT c a) 1600)) (k := k) k62
  have hry62 := tgK_rng y62 (List.mem_of_getElem? hy62)
  obtain ⟨B62, O62, C62, hv62⟩ := (SlN.blk (ow_at (S55.chq 0 rfl hc_55)) (by first | omega | (simp only [List.length_cons, List.length_nil]; omega) | (simp only [List.length_set]; omega) | decide))
  refine W_v rfl rfl (V_ixS (off := O62 + k) 1 (k) rfl (fg2 F57) (fg0 F57) hv62 (by omega) k62 Try.underlying25 (by kernel_rfl) (congrArg _ (Nat.mul_one _))) ?_
  refine W_r rfl rfl (VR_ldC rfl (et rfl) ((ow_at (S55.chq 0 rfl hc_55)).cell hv62 (map_get hy62)) Try.underlying3 rfl) ?_
  refine W_v rfl rfl (V_asg rfl (et rfl)) ?_
  refine W_end (gen_Q fun A63 E63 => ?_)
  have hsz63 := szq E63
  have F63 := fsE E63 (ck (cq2 F57 rfl) rfl rfl)
  clear E63 hsz57 F57
  refine tk H61 ?_
  refine region_in ?_
  refine W_v rfl rfl (V_mov rfl (fg4 F63)) ?_
  refine W_v rfl rfl (V_mov rfl (es rfl (fg0 F63))) ?_
  have S64 := S55.sel [1, 0, 2] (by decide) (l' := [c49_55, c_55, c_55b]) rfl
  replace S64 : St w Y [c49_55, c_55, c_55b] w55 := S64
  obtain ⟨Y65, hP65, hR65, hF65, hB65⟩ := St.call (pre := [c49_55]) (fr := [c_55, c_55b]) S64
  rw [hc49_55] at hP65
  refine W_call rfl rfl rfl Try.func126 (by kernel_rfl) rfl (args2 (es rfl (et rfl)) (et rfl)) (kput_c (a := y62)  hP65 (by first | with_reducible assumption | with_reducible exact hG.p2 | with_reducible exact hG2.p2 | (rw [hbl]; exact n1) | (simp only [List.length_set, List.length_replicate] <;> assumption)) (by first | omega | with_reducible assumption)) ?_
  rintro _ w66 ⟨rfl, hP66⟩
  refine ⟨_, rfl, ?_⟩
  obtain ⟨c_66, hc_66, hP66⟩ := gen1 hP66
  have S66 := hB65 _ _ hP66
  replace S66 : St w Y [c_66, c_55, c_55b] w66 := S66
  refine W_end (gen_Q fun A67 E67 => ?_)
  have hsz67 := szq E67
  have F67 := fsE E67 (cq3 F63 rfl)
  clear E67 hsz63 F63
  refine inb_n ?_
  refine tk H60 ?_
  refine region_in ?_
  refine W_v rfl rfl (V_add rfl (fg1 F67) rfl (by omega) (by omega)) ?_
  refine W_v rfl rfl (V_mov rfl (et rfl)) ?_
  refine W_end (gen_Q fun A68 E68 => ?_)
  have hsz68 := szq E68
  have F68 := fsE E68 (ck (cq1 (fx1 F67) rfl) rfl rfl)
  clear E68 hsz67 F67
  have S69 : St w Y [c_55, c_66, c_55b] w66 := S66.sel [1, 0, 2] (by decide) rfl
  refine then_n ⟨(tgK (putT c a) 1600).length - (k + 1), by simp only [hm55]; omega, hsz68, F68.d, (k + 1), rfl, (by omega), (hbp (k + 1) (by omega)).1, (hbp (k + 1) (by omega)).2.1, (((fg0 F68)).trans (by first | rfl | (simp; done) | (congr 1; omega))), (((fg4 F68)).trans (fg3 F54).symm), (((fg3 F68)).trans (fg2 F54).symm), (((fg2 F68)).trans (fg1 F54).symm), (by have q0 := hc_55; have q1 : c_66 = io .i64 v49 (bld (adN (putT c a)) ((tgK (putT c a) 1600).take (k + 1))) := hc_66.trans ((congrArg (io .i64 _) (bld_take hy62))); have q2 := hc_55b; subst q0 q1 q2; exact S69)⟩
 refine wp_exit ?_
 refine then_exit ?_
 refine then_exit ?_
 refine inb_hit ?_
 refine tk H51 ?_
 refine wp_seq_k fun K70 H70 => ?_
 refine region_in ?_
 refine W_v rfl rfl (V_mov rfl (fg3 F57)) ?_
 refine W_v rfl rfl (V_asg rfl (et rfl)) ?_
 refine W_end (gen_Q fun A71 E71 => ?_)
 have hsz71 := szq E71
 have F71 := fsE E71 (ck (cq1 F57 rfl) rfl rfl)
 clear E71 hsz57 F57
 have S72 : St w Y [c49_55, c_55b] w55 := S55.sel [1, 2] (by decide) rfl
 refine tk H70 ?_
 refine wp_ret ?_
 refine ret_in (results_1 Try.results116 (rv_tmp (fg0 F71))) F71.d ?_
 exact ⟨_, rfl, (S72.fin1 0 rfl (hc49_55.trans (congrArg (io .i64 _) (addT_yes c13 (by omega)))))⟩

end Go.Proofs.Yteppjefmlibmoaa