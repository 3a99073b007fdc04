import Derived.Test.YtnfgeekaeegolaaProg
import Derived.Test.YtnfgeekaeegolaaRe4
import Derived.Test.YtnfgeekaeegolaaPl9i
namespace Go.Proofs.Ytnfgeekaeegolaa
open Go.RowKit Go.Own Go.Own.R Go.Own.S Go.Own.F Go.Own.G


set_option maxHeartbeats 4000000 in
theorem kcc_c {vv : Value} {us : List RS} {w : World} (h_vv : Ro w NoX (sl 1 us.length vv (us.map fun y : RS => y.1))) (n_vv : Ro w NoX (nsr us)) (hT : (ccF us).length ≤ 10000) :
    Calls Try.prog 52 #[vv] w fun e w' => ∃ v, e = .returned (v) ∧ St w NoX [ro 2 rcC (v) (ccF us)] w' := by
  have hle := cc_le us
  refine calls_in 36 Try.func52 rfl rfl (by simp) (fun A0 hsz0 hdf0 hargs => ?_)
  have l0_0 := hargs 0 (vv) rfl
  clear hargs; replace hsz0 : SzN A0 36 := ⟨hsz0⟩
  have hS := St.nil w
  have bh_vv := SlN.le (sl_SlN h_vv.at)
  refine wp_seq_k (fun K1 hK1 => ?_)
  refine region_in ?_
  refine W_v rfl rfl (V_asg rfl rfl) ?_
  refine W_end ?_
  refine gen_Q (fun A2 hA2 => ?_)
  have hsz2 := szq hA2
  have hdf2 : A2.defers = [] := by rw [hA2]; simp only [df_put]; exact hdf0
  have l0_2 := lookE hA2 0 (es rfl l0_0)
  clear hA2 hsz0 hdf0 l0_0
  refine then_n (hK1 _ _ ?_)
  clear hK1
  refine wp_seq_k (fun K3 hK3 => ?_)
  refine region_in ?_
  refine W_v rfl rfl (V_asg rfl rfl) ?_
  refine W_end ?_
  refine gen_Q (fun A4 hA4 => ?_)
  have hsz4 := szq hA4
  have hdf4 : A4.defers = [] := by rw [hA4]; simp only [df_put]; exact hdf2
  have l0_4 := lookE hA4 0 (es rfl l0_2)
  have l3_4 := lookE hA4 3 (et rfl)
  clear hA4 hsz2 hdf2 l0_2
  refine then_n (hK3 _ _ ?_)
  clear hK3
  refine wp_seq_k (fun K5 hK5 => ?_)
  refine wp_seq_k (fun K6 hK6 => ?_)
  refine region_in ?_
  refine W_v rfl rfl (V_mov rfl l0_4) ?_
  refine W_v rfl rfl (V_lenS rfl (et rfl) (sl_SlN h_vv.at) Try.underlying88) ?_
  refine W_v rfl rfl (V_mov rfl rfl) ?_
  refine W_end ?_
  refine gen_Q (fun A7 hA7 => ?_)
  have hsz7 := szq hA7
  have hdf7 : A7.defers = [] := by rw [hA7]; simp only [df_put]; exact hdf4
  have l0_7 := lookE hA7 0 (e2 rfl (es rfl l0_4))
  have l3_7 := lookE hA7 3 (e2 rfl (es rfl l3_4))
  have l9_7 := lookE hA7 9 (e2 rfl (et rfl))
  have l10_7 := lookE hA7 10 (es rfl (et rfl))
  have l11_7 := lookE hA7 11 (et rfl)
  clear hA7 hsz4 hdf4 l0_4 l3_4
  refine then_n (hK6 _ _ ?_)
  clear hK6
  refine wp_block ?_
  -- loop 3
  refine loopX (fun mz A' w' => SzN A' 36 ∧ A'.defers = [] ∧ (∃ (k : Nat), (mz = us.length - k) ∧ (k ≤ us.length) ∧ (EV A' (.tmp 11) = .int .i64 (k : Int)) ∧ (EV A' (.tmp 3) = .int .i64 ((ccF (us.take k)).length : Int)) ∧ (EV A' (.tmp 0) = EV A7 (.tmp 0)) ∧ (EV A' (.tmp 9) = EV A7 (.tmp 9)) ∧ (EV A' (.tmp 10) = EV A7 (.tmp 10)) ∧ (St w NoX [] w'))) (us.length - 0) ⟨hsz7, hdf7, 0, rfl, (by omega), ((l11_7).trans (by first | rfl | (simp; done) | (congr 1; omega))), ((l3_7).trans (rfl)), rfl, rfl, rfl, hS⟩ ?_
  clear hS
  rintro n8 A8 w8 ⟨hsz8, hdf8, k, hm8, hk, l11_8, l3_8, u0_8, u9_8, u10_8, hS8⟩
  have l0_8 := u0_8.trans l0_7
  have l9_8 := u9_8.trans l9_7
  have l10_8 := u10_8.trans l10_7
  refine wp_seq_k (fun K9 hK9 => ?_)
  refine region_in ?_
  refine W_v rfl rfl (V_lss rfl l11_8 l10_8) ?_
  refine W_end ?_
  refine gen_Q (fun A10 hA10 => ?_)
  have hsz10 := szq hA10
  have hdf10 : A10.defers = [] := by rw [hA10]; simp only [df_put]; exact hdf8
  have l0_10 := lookE hA10 0 (es rfl l0_8)
  have l3_10 := lookE hA10 3 (es rfl l3_8)
  have l9_10 := lookE hA10 9 (es rfl l9_8)
  have l10_10 := lookE hA10 10 (es rfl l10_8)
  have l11_10 := lookE hA10 11 (es rfl l11_8)
  have l12_10 := lookE hA10 12 (et rfl)
  clear hA10 hsz8 hdf8 l11_8 l3_8 l0_8 l9_8 l10_8
  refine then_n (hK9 _ _ ?_)
  clear hK9
  refine wp_seq_k (fun K11 hK11 => ?_)
  refine cond_dec l12_10 (fun c12 => ?_) (fun c12 => ?_)
  · skip
    refine wp_skip ?_
    refine then_n (hK11 _ _ ?_)
    clear hK11
    refine wp_seq_k (fun K13 hK13 => ?_)
    refine wp_block ?_
    refine wp_seq_k (fun K14 hK14 => ?_)
    refine region_in ?_
    have k15 : k < us.length := by first | omega | (simp only [List.length_cons, List.length_nil]; omega) | (simp only [List.length_set]; omega) | decide
    obtain ⟨y15, hy15⟩ := get_some (xs := us) (k := k) k15
    have fr_y15 := nsr_ro n_vv hy15
    have hcl15 := cc_len hy15
    have hlc15 := hle (k + 1)
    obtain ⟨B15, O15, C15, hv15⟩ := (SlN.blk (sl_SlN h_vv.at) (by first | omega | (simp only [List.length_cons, List.length_nil]; omega) | (simp only [List.length_set]; omega) | decide))
    refine W_v rfl rfl (V_ixS (off := O15 + k) 1 (k) rfl l9_10 l11_10 hv15 (by omega) k15 Try.underlying88 (by kernel_rfl) (congrArg _ (Nat.mul_one _))) ?_
    refine W_r rfl rfl (VR_ldC rfl (et rfl) ((sl_SlN (hS8.ro h_vv)).cell hv15 (map_get hy15)) Try.underlying28 rfl) ?_
    refine W_v rfl rfl (V_asg rfl (et rfl)) ?_
    refine W_end ?_
    refine gen_Q (fun A16 hA16 => ?_)
    have hsz16 := szq hA16
    have hdf16 : A16.defers = [] := by rw [hA16]; simp only [df_put]; exact hdf10
    have l0_16 := lookE hA16 0 (e2 rfl (es rfl l0_10))
    have l3_16 := lookE hA16 3 (e2 rfl (es rfl l3_10))
    have l5_16 := lookE hA16 5 (et rfl)
    have l9_16 := lookE hA16 9 (e2 rfl (es rfl l9_10))
    have l10_16 := lookE hA16 10 (e2 rfl (es rfl l10_10))
    have l11_16 := lookE hA16 11 (e2 rfl (es rfl l11_10))
    clear hA16 hsz10 hdf10 l0_10 l3_10 l9_10 l10_10 l11_10 l12_10
    refine then_n (hK14 _ _ ?_)
    clear hK14
    refine wp_seq_k (fun K17 hK17 => ?_)
    refine region_in ?_
    refine W_v rfl rfl (V_mov rfl l3_16) ?_
    refine W_v rfl rfl (V_mov rfl (es rfl l5_16)) ?_
    refine W_v rfl rfl (V_lenS rfl (et rfl) (sl_SlN fr_y15.at) Try.underlying28) ?_
    refine W_v rfl rfl (V_add rfl (e2 rfl (et rfl)) (et rfl) (by omega) (by omega)) ?_
    refine W_v rfl rfl (V_asg rfl (et rfl)) ?_
    refine W_end ?_
    refine gen_Q (fun A18 hA18 => ?_)
    have hsz18 := szq hA18
    have hdf18 : A18.defers = [] := by rw [hA18]; simp only [df_put]; exact hdf16
    have l0_18 := lookE hA18 0 (e4 rfl (es rfl l0_16))
    have l3_18 := lookE hA18 3 (et rfl)
    have l9_18 := lookE hA18 9 (e4 rfl (es rfl l9_16))
    have l10_18 := lookE hA18 10 (e4 rfl (es rfl l10_16))
    have l11_18 := lookE hA18 11 (e4 rfl (es rfl l11_16))
    clear hA18 hsz16 hdf16 l0_16 l3_16 l5_16 l9_16 l10_16 l11_16
    refine then_n (hK17 _ _ ?_)
    clear hK17
    refine wp_seq_k (fun K19 hK19 => ?_)
    refine region_in ?_
    refine W_v rfl rfl (V_mov rfl l3_18) ?_
    refine W_v rfl rfl (V_lss rfl (et rfl) rfl) ?_
    refine W_end ?_
    refine gen_Q (fun A20 hA20 => ?_)
    have hsz20 := szq hA20
    have hdf20 : A20.defers = [] := by rw [hA20]; simp only [df_put]; exact hdf18
    have l0_20 := lookE hA20 0 (es rfl (es rfl l0_18))
    have l3_20 := lookE hA20 3 (es rfl (es rfl l3_18))
    have l9_20 := lookE hA20 9 (es rfl (es rfl l9_18))
    have l10_20 := lookE hA20 10 (es rfl (es rfl l10_18))
    have l11_20 := lookE hA20 11 (es rfl (es rfl l11_18))
    have l20_20 := lookE hA20 20 (et rfl)
    clear hA20 hsz18 hdf18 l0_18 l3_18 l9_18 l10_18 l11_18
    refine then_n (hK19 _ _ ?_)
    clear hK19
    refine cond_not l20_20 (by rw [decide_eq_false_iff_not]; omega) ?_
    refine wp_skip ?_
    refine inb_n ?_
    refine then_n (hK13 _ _ ?_)
    clear hK13
    refine region_in ?_
    refine W_v rfl rfl (V_add rfl l11_20 rfl (by omega) (by omega)) ?_
    refine W_v rfl rfl (V_mov rfl (et rfl)) ?_
    refine W_end ?_
    refine gen_Q (fun A21 hA21 => ?_)
    have hsz21 := szq hA21
    have hdf21 : A21.defers = [] := by rw [hA21]; simp only [df_put]; exact hdf20
    have l0_21 := lookE hA21 0 (es rfl (es rfl l0_20))
    have l3_21 := lookE hA21 3 (es rfl (es rfl l3_20))
    have l9_21 := lookE hA21 9 (es rfl (es rfl l9_20))
    have l10_21 := lookE hA21 10 (es rfl (es rfl l10_20))
    have l11_21 := lookE hA21 11 (et rfl)
    clear hA21 hsz20 hdf20 l0_20 l3_20 l9_20 l10_20 l11_20 l20_20
    refine then_n ⟨us.length - (k + 1), by simp only [hm8]; omega, hsz21, hdf21, (k + 1), rfl, (by omega), ((l11_21).trans (by first | rfl | (simp; done) | (congr 1; omega))), ((l3_21).trans ((by rw [cc_len hy15]))), ((l0_21).trans l0_7.symm), ((l9_21).trans l9_7.symm), ((l10_21).trans l10_7.symm), hS8⟩
  · skip
    refine wp_exit ?_
    refine then_exit ?_
    refine then_exit ?_
    refine inb_hit ?_
    refine then_n (hK5 _ _ ?_)
    clear hK5
    refine wp_seq_k (fun K22 hK22 => ?_)
    refine region_in ?_
    refine W_v rfl rfl (V_mov rfl l3_10) ?_
    refine W_call rfl rfl rfl Try.func63 (by kernel_rfl) rfl (args2 rfl (et rfl)) (kgr_c (n := ((ccF (us.take k)).length : Int))  (by first | with_reducible assumption | omega | (have := hle k; omega))) ?_
    rintro _ w23 ⟨v_23, rfl, hP23⟩
    refine ⟨_, rfl, ?_⟩
    obtain ⟨c_23, hc_23, hP23⟩ := gen1 hP23
    have hS23 := hS8.join hP23
    replace hS23 : St w NoX [c_23] w23 := hS23
    refine W_v rfl rfl (V_asg rfl (et rfl)) ?_
    refine W_end ?_
    refine gen_Q (fun A24 hA24 => ?_)
    have hsz24 := szq hA24
    have hdf24 : A24.defers = [] := by rw [hA24]; simp only [df_put]; exact hdf10
    have l0_24 := lookE hA24 0 (e2 rfl (es rfl l0_10))
    have l6_24 := lookE hA24 6 (et rfl)
    clear hA24 hsz10 hdf10 l0_10 l3_10 l9_10 l10_10 l11_10 l12_10
    refine then_n (hK22 _ _ ?_)
    clear hK22
    refine wp_seq_k (fun K25 hK25 => ?_)
    refine wp_seq_k (fun K26 hK26 => ?_)
    refine region_in ?_
    refine W_v rfl rfl (V_mov rfl l0_24) ?_
    refine W_v rfl rfl (V_lenS rfl (et rfl) (sl_SlN h_vv.at) Try.underlying88) ?_
    refine W_v rfl rfl (V_mov rfl rfl) ?_
    refine W_end ?_
    refine gen_Q (fun A27 hA27 => ?_)
    have hsz27 := szq hA27
    have hdf27 : A27.defers = [] := by rw [hA27]; simp only [df_put]; exact hdf24
    have l6_27 := lookE hA27 6 (e2 rfl (es rfl l6_24))
    have l25_27 := lookE hA27 25 (e2 rfl (et rfl))
    have l26_27 := lookE hA27 26 (es rfl (et rfl))
    have l27_27 := lookE hA27 27 (et rfl)
    clear hA27 hsz24 hdf24 l0_24 l6_24
    refine then_n (hK26 _ _ ?_)
    clear hK26
    refine wp_block ?_
    -- loop 11
    refine loopX (fun mz A' w' => SzN A' 36 ∧ A'.defers = [] ∧ (∃ (j : Nat) (bv : Value), (mz = us.length - j) ∧ (j ≤ us.length) ∧ (EV A' (.tmp 27) = .int .i64 (j : Int)) ∧ (EV A' (.tmp 6) = bv) ∧ (EV A' (.tmp 25) = EV A27 (.tmp 25)) ∧ (EV A' (.tmp 26) = EV A27 (.tmp 26)) ∧ (St w NoX [ro 2 rcC bv (ccF (us.take j))] w'))) (us.length - 0) ⟨hsz27, hdf27, 0, v_23, rfl, (by omega), ((l27_27).trans (by first | rfl | (simp; done) | (congr 1; omega))), ((l6_27).trans (by first | rfl | (simp; done) | (congr 1; omega))), rfl, rfl, (by have q0 : c_23 = ro 2 rcC v_23 (ccF (us.take 0)) := hc_23.trans (rfl); subst q0; exact hS23)⟩ ?_
    clear hS23 hc_23
    rintro n28 A28 w28 ⟨hsz28, hdf28, j, bv, hm28, hj, l27_28, l6_28, u25_28, u26_28, hS28⟩
    have l25_28 := u25_28.trans l25_27
    have l26_28 := u26_28.trans l26_27
    obtain ⟨c_28, hc_28, hS28⟩ := gen1 hS28
    refine wp_seq_k (fun K29 hK29 => ?_)
    refine region_in ?_
    refine W_v rfl rfl (V_lss rfl l27_28 l26_28) ?_
    refine W_end ?_
    refine gen_Q (fun A30 hA30 => ?_)
    have hsz30 := szq hA30
    have hdf30 : A30.defers = [] := by rw [hA30]; simp only [df_put]; exact hdf28
    have l6_30 := lookE hA30 6 (es rfl l6_28)
    have l25_30 := lookE hA30 25 (es rfl l25_28)
    have l26_30 := lookE hA30 26 (es rfl l26_28)
    have l27_30 := lookE hA30 27 (es rfl l27_28)
    have l28_30 := lookE hA30 28 (et rfl)
    clear hA30 hsz28 hdf28 l27_28 l6_28 l25_28 l26_28
    refine then_n (hK29 _ _ ?_)
    clear hK29
    refine wp_seq_k (fun K31 hK31 => ?_)
    refine cond_dec l28_30 (fun c32 => ?_) (fun c32 => ?_)
    · skip
      refine wp_skip ?_
      refine then_n (hK31 _ _ ?_)
      clear hK31
      refine wp_seq_k (fun K33 hK33 => ?_)
      refine wp_block ?_
      refine wp_seq_k (fun K34 hK34 => ?_)
      refine region_in ?_
      have k35 : j < us.length := by first | omega | (simp only [List.length_cons, List.length_nil]; omega) | (simp only [List.length_set]; omega) | decide
      obtain ⟨y35, hy35⟩ := get_some (xs := us) (k := j) k35
      have fr_y35 := nsr_ro n_vv hy35
      have hcl35 := cc_len hy35
      have hlc35 := hle (j + 1)
      obtain ⟨B35, O35, C35, hv35⟩ := (SlN.blk (sl_SlN h_vv.at) (by first | omega | (simp only [List.length_cons, List.length_nil]; omega) | (simp only [List.length_set]; omega) | decide))
      refine W_v rfl rfl (V_ixS (off := O35 + j) 1 (j) rfl l25_30 l27_30 hv35 (by omega) k35 Try.underlying88 (by kernel_rfl) (congrArg _ (Nat.mul_one _))) ?_
      refine W_r rfl rfl (VR_ldC rfl (et rfl) ((sl_SlN (hS28.ro h_vv)).cell hv35 (map_get hy35)) Try.underlying28 rfl) ?_
      refine W_v rfl rfl (V_asg rfl (et rfl)) ?_
      refine W_end ?_
      refine gen_Q (fun A36 hA36 => ?_)
      have hsz36 := szq hA36
      have hdf36 : A36.defers = [] := by rw [hA36]; simp only [df_put]; exact hdf30
      have l6_36 := lookE hA36 6 (e2 rfl (es rfl l6_30))
      have l8_36 := lookE hA36 8 (et rfl)
      have l25_36 := lookE hA36 25 (e2 rfl (es rfl l25_30))
      have l26_36 := lookE hA36 26 (e2 rfl (es rfl l26_30))
      have l27_36 := lookE hA36 27 (e2 rfl (es rfl l27_30))
      clear hA36 hsz30 hdf30 l6_30 l25_30 l26_30 l27_30 l28_30
      refine then_n (hK34 _ _ ?_)
      clear hK34
      refine region_in ?_
      refine W_v rfl rfl (V_mov rfl l6_36) ?_
      refine W_v rfl rfl (V_mov rfl (es rfl l8_36)) ?_
      refine W_appS 2 0 hS28 rfl hc_28 rfl rfl rfl (es rfl (et rfl)) (et rfl) Try.underlying28 Try.underlying28 (z := .agg #[.int .i64 0, .int .i64 0]) (bytes := 16) (by kernel_rfl) rfl (by decide) (sl_SlN (hS28.ro fr_y35)) (ones_r rcC_one) (by have h1 := cc_in hy35; have h2 := hle (j + 1); rw [← h1, List.length_append] at h2; omega) (by have h1 := cc_in hy35; have h2 := hle (j + 1); rw [← h1, List.length_append] at h2; omega) (fun v37 w37 c37 hc37 hS37 => ?_)
      replace hc37 : c37 = ro 2 rcC v37 ((ccF (us.take j)) ++ y35.2) := hc37.trans (app_eqR (by simp))
      replace hS37 : St w NoX [c37] w37 := hS37
      refine W_v rfl rfl (V_asg rfl (et rfl)) ?_
      refine W_end ?_
      refine gen_Q (fun A38 hA38 => ?_)
      have hsz38 := szq hA38
      have hdf38 : A38.defers = [] := by rw [hA38]; simp only [df_put]; exact hdf36
      have l6_38 := lookE hA38 6 (et rfl)
      have l25_38 := lookE hA38 25 (e3 rfl (es rfl l25_36))
      have l26_38 := lookE hA38 26 (e3 rfl (es rfl l26_36))
      have l27_38 := lookE hA38 27 (e3 rfl (es rfl l27_36))
      clear hA38 hsz36 hdf36 l6_36 l8_36 l25_36 l26_36 l27_36
      refine inb_n ?_
      refine then_n (hK33 _ _ ?_)
      clear hK33
      refine region_in ?_
      refine W_v rfl rfl (V_add rfl l27_38 rfl (by omega) (by omega)) ?_
      refine W_v rfl rfl (V_mov rfl (et rfl)) ?_
      refine W_end ?_
      refine gen_Q (fun A39 hA39 => ?_)
      have hsz39 := szq hA39
      have hdf39 : A39.defers = [] := by rw [hA39]; simp only [df_put]; exact hdf38
      have l6_39 := lookE hA39 6 (es rfl (es rfl l6_38))
      have l25_39 := lookE hA39 25 (es rfl (es rfl l25_38))
      have l26_39 := lookE hA39 26 (es rfl (es rfl l26_38))
      have l27_39 := lookE hA39 27 (et rfl)
      clear hA39 hsz38 hdf38 l6_38 l25_38 l26_38 l27_38
      refine then_n ⟨us.length - (j + 1), by simp only [hm28]; omega, hsz39, hdf39, (j + 1), v37, rfl, (by omega), ((l27_39).trans (by first | rfl | (simp; done) | (congr 1; omega))), ((l6_39).trans (by first | rfl | (simp; done) | (congr 1; omega))), ((l25_39).trans l25_27.symm), ((l26_39).trans l26_27.symm), (by have q0 : c37 = ro 2 rcC v37 (ccF (us.take (j + 1))) := hc37.trans ((congrArg (ro 2 rcC _) (cc_in hy35))); subst q0; exact hS37)⟩
    · skip
      refine wp_exit ?_
      refine then_exit ?_
      refine then_exit ?_
      refine inb_hit ?_
      refine then_n (hK25 _ _ ?_)
      clear hK25
      refine wp_seq_k (fun K40 hK40 => ?_)
      refine region_in ?_
      refine W_v rfl rfl (V_mov rfl l6_30) ?_
      refine W_v rfl rfl (V_asg rfl (et rfl)) ?_
      refine W_end ?_
      refine gen_Q (fun A41 hA41 => ?_)
      have hsz41 := szq hA41
      have hdf41 : A41.defers = [] := by rw [hA41]; simp only [df_put]; exact hdf30
      have l2_41 := lookE hA41 2 (et rfl)
      clear hA41 hsz30 hdf30 l6_30 l25_30 l26_30 l27_30 l28_30
      refine then_n (hK40 _ _ ?_)
      clear hK40
      refine wp_ret ?_
      refine ret_in (results_1 Try.results52 (rv_tmp l2_41)) hdf41 ?_
      -- leaf FF
      exact ⟨_, rfl, (hS28.fin1 0 rfl (hc_28.trans (congrArg (ro 2 rcC _) (by rw [List.take_of_length_le (by omega)]))))⟩

end Go.Proofs.Ytnfgeekaeegolaa