import Derived.Test.YtnfgeekaeegolaaProg
import Derived.Test.YtnfgeekaeegolaaRc3
import Derived.Test.YtnfgeekaeegolaaPl9d
namespace Go.Proofs.Ytnfgeekaeegolaa
open Go.RowKit Go.Own Go.Own.R Go.Own.S Go.Own.F


set_option maxHeartbeats 4000000 in
theorem khm_c {wv : Value} {ws : List Int} {cv : Value} {c : List Int} {w : World} (h_wv : Ro w NoX (il .u64 wv ws)) (h_cv : Ro w NoX (il .i64 cv c)) (hu : ∀ x ∈ ws, 0 ≤ x ∧ x ≤ 18446744073709551615) :
    Calls Try.prog 37 #[wv, .agg #[cv]] w fun e w' => ∃ v K, e = .returned (.tuple #[v, .int .i64 (slE ws c)]) ∧ (HM ws (slT ws c) K) ∧ St w NoX [mkO v K, mkC K] w' := by
  have hll := lsT_len c
  refine calls_in 58 Try.func37 rfl rfl (by simp) (fun A0 hsz0 hdf0 hargs => ?_)
  have l0_0 := hargs 0 (wv) rfl
  have l1_0 := hargs 1 (.agg #[cv]) rfl
  clear hargs; replace hsz0 : SzN A0 58 := ⟨hsz0⟩
  have hS := St.nil w
  have bh_wv := SlN.le (sl_SlN h_wv.at)
  have bh_cv := SlN.le (sl_SlN h_cv.at)
  refine wp_seq_k (fun K1 hK1 => ?_)
  refine region_in ?_
  refine W_boxS (zs := #[cv]) hS rfl rfl rfl l1_0 (by rfl) (fun g2 w2 c2 hc2 hS2 => ?_)
  replace hS2 : St w NoX [c2] w2 := hS2
  refine W_v rfl rfl (V_asg rfl rfl) ?_
  refine W_v rfl rfl (V_asg rfl rfl) ?_
  refine W_end ?_
  refine gen_Q (fun A3 hA3 => ?_)
  have hsz3 := szq hA3
  have hdf3 : A3.defers = [] := by rw [hA3]; simp only [df_put]; exact hdf0
  have l0_3 := lookE hA3 0 (e2 rfl (es rfl l0_0))
  have l3_3 := lookE hA3 3 (e2 rfl (et rfl))
  clear hA3 hsz0 hdf0 l0_0 l1_0
  refine then_n (hK1 _ _ ?_)
  clear hK1
  refine wp_seq_k (fun K4 hK4 => ?_)
  refine wp_seq_k (fun K5 hK5 => ?_)
  refine region_in ?_
  refine W_v rfl rfl (V_mov rfl l0_3) ?_
  refine W_v rfl rfl (V_lenS rfl (et rfl) (sl_SlN h_wv.at) Try.underlying22) ?_
  refine W_v rfl rfl (V_gtr rfl (et rfl) rfl) ?_
  refine W_end ?_
  refine gen_Q (fun A6 hA6 => ?_)
  have hsz6 := szq hA6
  have hdf6 : A6.defers = [] := by rw [hA6]; simp only [df_put]; exact hdf3
  have l0_6 := lookE hA6 0 (e2 rfl (es rfl l0_3))
  have l3_6 := lookE hA6 3 (e2 rfl (es rfl l3_3))
  have l14_6 := lookE hA6 14 (et rfl)
  clear hA6 hsz3 hdf3 l0_3 l3_3
  refine then_n (hK5 _ _ ?_)
  clear hK5
  refine cond_dec l14_6 (fun c7 => ?_) (fun c7 => ?_)
  · skip
    refine wp_seq_k (fun K8 hK8 => ?_)
    refine region_in ?_
    refine W_v rfl rfl (V_asg rfl rfl) ?_
    refine W_v rfl rfl (V_asg rfl rfl) ?_
    refine W_end ?_
    refine gen_Q (fun A9 hA9 => ?_)
    have hsz9 := szq hA9
    have hdf9 : A9.defers = [] := by rw [hA9]; simp only [df_put]; exact hdf6
    have l4_9 := lookE hA9 4 (es rfl (et rfl))
    have l5_9 := lookE hA9 5 (et rfl)
    clear hA9 hsz6 hdf6 l0_6 l3_6 l14_6
    have hS10 : St w NoX [] w2 := hS2.sel [] (by decide) rfl
    refine then_n (hK8 _ _ ?_)
    clear hK8
    refine wp_ret ?_
    refine then_ret ?_
    refine ret_in (results_2 Try.results37 (rv_tmp l4_9) (rv_tmp l5_9)) hdf9 ?_
    -- leaf T
    obtain ⟨c11, hc11, hS11⟩ := St.mnil (k := .i64) hS10
    replace hc11 : c11 = mi (.map none) [] := hc11
    replace hc11 : c11 = mkO (.map none) ([] : List KE) := hc11
    obtain ⟨cm12, hcm12, hS12⟩ := hS11.mcNil
    have he := slE_long (c := c) (by omega)
    have ht : slT ws c = [] := slT_err (by rw [he]; omega)
    rw [he]
    exact ⟨_, _, rfl, (by rw [ht]; exact HM_nil ws), (hS12.fin2 1 rfl (hc11) 0 rfl (hcm12) (by decide))⟩
  · skip
    refine wp_skip ?_
    refine then_n (hK4 _ _ ?_)
    clear hK4
    refine wp_seq_k (fun K13 hK13 => ?_)
    refine region_in ?_
    refine W_r rfl rfl (VR_ldA rfl l3_6 (hS2.obj 0 rfl hc2) Try.underlying25 rfl (by kernel_rfl)) ?_
    refine W_call rfl rfl rfl Try.func58 (by kernel_rfl) rfl (args1 (et rfl)) (kList_c (hS2.roC h_cv) ) ?_
    rintro _ w14 ⟨v_14, rfl, hP14⟩
    refine ⟨_, rfl, ?_⟩
    obtain ⟨c_14, hc_14, hP14⟩ := gen1 hP14
    have hS14 := hS2.join hP14
    replace hS14 : St w NoX [c_14, c2] w14 := hS14
    refine W_v rfl rfl (V_mov rfl (et rfl)) ?_
    refine W_v rfl rfl (V_ext (v := v_14) rfl (et rfl) rfl) ?_
    refine W_v rfl rfl (V_ext (v := .int .i64 ((ckS c).2)) rfl (es rfl (et rfl)) rfl) ?_
    refine W_v rfl rfl (V_asg rfl (es rfl (et rfl))) ?_
    refine W_v rfl rfl (V_asg rfl (es rfl (et rfl))) ?_
    refine W_end ?_
    refine gen_Q (fun A15 hA15 => ?_)
    have hsz15 := szq hA15
    have hdf15 : A15.defers = [] := by rw [hA15]; simp only [df_put]; exact hdf6
    have l0_15 := lookE hA15 0 (e6 rfl (es rfl l0_6))
    have l6_15 := lookE hA15 6 (es rfl (et rfl))
    have l7_15 := lookE hA15 7 (et rfl)
    clear hA15 hsz6 hdf6 l0_6 l3_6 l14_6
    have hS16 : St w NoX [c_14] w14 := hS14.sel [0] (by decide) rfl
    refine then_n (hK13 _ _ ?_)
    clear hK13
    refine wp_seq_k (fun K17 hK17 => ?_)
    refine wp_seq_k (fun K18 hK18 => ?_)
    refine region_in ?_
    refine W_v rfl rfl (V_mov rfl l7_15) ?_
    refine W_v rfl rfl (V_neq rfl (et rfl) rfl) ?_
    refine W_end ?_
    refine gen_Q (fun A19 hA19 => ?_)
    have hsz19 := szq hA19
    have hdf19 : A19.defers = [] := by rw [hA19]; simp only [df_put]; exact hdf15
    have l0_19 := lookE hA19 0 (es rfl (es rfl l0_15))
    have l6_19 := lookE hA19 6 (es rfl (es rfl l6_15))
    have l7_19 := lookE hA19 7 (es rfl (es rfl l7_15))
    have l21_19 := lookE hA19 21 (et rfl)
    clear hA19 hsz15 hdf15 l0_15 l6_15 l7_15
    refine then_n (hK18 _ _ ?_)
    clear hK18
    refine cond_dec l21_19 (fun c20 => ?_) (fun c20 => ?_)
    · skip
      refine wp_seq_k (fun K21 hK21 => ?_)
      refine region_in ?_
      refine W_v rfl rfl (V_mov rfl l7_19) ?_
      refine W_v rfl rfl (V_asg rfl rfl) ?_
      refine W_v rfl rfl (V_asg rfl (es rfl (et rfl))) ?_
      refine W_end ?_
      refine gen_Q (fun A22 hA22 => ?_)
      have hsz22 := szq hA22
      have hdf22 : A22.defers = [] := by rw [hA22]; simp only [df_put]; exact hdf19
      have l4_22 := lookE hA22 4 (es rfl (et rfl))
      have l5_22 := lookE hA22 5 (et rfl)
      clear hA22 hsz19 hdf19 l0_19 l6_19 l7_19 l21_19
      have hS23 : St w NoX [] w14 := hS16.sel [] (by decide) rfl
      refine then_n (hK21 _ _ ?_)
      clear hK21
      refine wp_ret ?_
      refine then_ret ?_
      refine ret_in (results_2 Try.results37 (rv_tmp l4_22) (rv_tmp l5_22)) hdf22 ?_
      -- leaf FT
      obtain ⟨c24, hc24, hS24⟩ := St.mnil (k := .i64) hS23
      replace hc24 : c24 = mi (.map none) [] := hc24
      replace hc24 : c24 = mkO (.map none) ([] : List KE) := hc24
      obtain ⟨cm25, hcm25, hS25⟩ := hS24.mcNil
      have he := slE_err (c := c) (by omega) (by omega)
      have ht : slT ws c = [] := slT_err (by rw [he]; omega)
      rw [he]
      exact ⟨_, _, rfl, (by rw [ht]; exact HM_nil ws), (hS25.fin2 1 rfl (hc24) 0 rfl (hcm25) (by decide))⟩
    · skip
      refine wp_skip ?_
      refine then_n (hK17 _ _ ?_)
      clear hK17
      refine wp_seq_k (fun K26 hK26 => ?_)
      refine region_in ?_
      refine W_mkMapS .i64 hS16 rfl rfl rfl (fun g27 w27 c27 hc27 hS27 => ?_)
      replace hc27 : c27 = mkO (.map (some g27)) ([] : List KE) := hc27
      obtain ⟨cm27, hcm27, hS27⟩ := hS27.mcNil
      replace hS27 : St w NoX [cm27, c27, c_14] w27 := hS27
      refine W_v rfl rfl (V_asg rfl (et rfl)) ?_
      refine W_end ?_
      refine gen_Q (fun A28 hA28 => ?_)
      have hsz28 := szq hA28
      have hdf28 : A28.defers = [] := by rw [hA28]; simp only [df_put]; exact hdf19
      have l0_28 := lookE hA28 0 (es rfl (es rfl l0_19))
      have l6_28 := lookE hA28 6 (es rfl (es rfl l6_19))
      have l8_28 := lookE hA28 8 (et rfl)
      clear hA28 hsz19 hdf19 l0_19 l6_19 l7_19 l21_19
      refine then_n (hK26 _ _ ?_)
      clear hK26
      refine wp_seq_k (fun K29 hK29 => ?_)
      refine wp_seq_k (fun K30 hK30 => ?_)
      refine region_in ?_
      refine W_v rfl rfl (V_mov rfl l6_28) ?_
      refine W_v rfl rfl (V_lenS rfl (et rfl) (ow_at (hS27.chq 2 rfl hc_14)) Try.underlying23) ?_
      refine W_v rfl rfl (V_mov rfl rfl) ?_
      refine W_end ?_
      refine gen_Q (fun A31 hA31 => ?_)
      have hsz31 := szq hA31
      have hdf31 : A31.defers = [] := by rw [hA31]; simp only [df_put]; exact hdf28
      have l0_31 := lookE hA31 0 (e2 rfl (es rfl l0_28))
      have l8_31 := lookE hA31 8 (e2 rfl (es rfl l8_28))
      have l24_31 := lookE hA31 24 (e2 rfl (et rfl))
      have l25_31 := lookE hA31 25 (es rfl (et rfl))
      have l26_31 := lookE hA31 26 (et rfl)
      clear hA31 hsz28 hdf28 l0_28 l6_28 l8_28
      refine then_n (hK30 _ _ ?_)
      clear hK30
      refine wp_block ?_
      -- loop 8
      refine loopX (fun mz A' w' => SzN A' 58 ∧ A'.defers = [] ∧ (∃ (k : Nat) (K : List KE), (mz = (lsT c).length - k) ∧ (k ≤ (lsT c).length) ∧ (HM ws ((lsT c).take k) K) ∧ (∀ a ∈ (lsT c).take k, ¬ bdW ws a = true) ∧ (EV A' (.tmp 26) = .int .i64 (k : Int)) ∧ (EV A' (.tmp 0) = EV A31 (.tmp 0)) ∧ (EV A' (.tmp 8) = EV A31 (.tmp 8)) ∧ (EV A' (.tmp 24) = EV A31 (.tmp 24)) ∧ (EV A' (.tmp 25) = EV A31 (.tmp 25)) ∧ (St w NoX [mkC K, mkO (.map (some g27)) K, io .i64 v_14 (lsT c)] w'))) ((lsT c).length - 0) ⟨hsz31, hdf31, 0, [], rfl, (by omega), (HM_nil ws), (fun a ha => by simp at ha), ((l26_31).trans (by first | rfl | (simp; done) | (congr 1; omega))), rfl, rfl, rfl, rfl, (by have q0 : cm27 = mkC [] := hcm27.trans (rfl); have q1 : c27 = mkO (.map (some g27)) [] := hc27.trans (rfl); have q2 := hc_14; subst q0 q1 q2; exact hS27)⟩ ?_
      clear hS27 hcm27 hc27 hc_14
      rintro n32 A32 w32 ⟨hsz32, hdf32, k, K, hm32, hk, hm0, hok, l26_32, u0_32, u8_32, u24_32, u25_32, hS32⟩
      have l0_32 := u0_32.trans l0_31
      have l8_32 := u8_32.trans l8_31
      have l24_32 := u24_32.trans l24_31
      have l25_32 := u25_32.trans l25_31
      obtain ⟨cm27_32, c27_32, c_32, hcm27_32, hc27_32, hc_32, hS32⟩ := gen3 hS32
      refine wp_seq_k (fun K33 hK33 => ?_)
      refine region_in ?_
      refine W_v rfl rfl (V_lss rfl l26_32 l25_32) ?_
      refine W_end ?_
      refine gen_Q (fun A34 hA34 => ?_)
      have hsz34 := szq hA34
      have hdf34 : A34.defers = [] := by rw [hA34]; simp only [df_put]; exact hdf32
      have l0_34 := lookE hA34 0 (es rfl l0_32)
      have l8_34 := lookE hA34 8 (es rfl l8_32)
      have l24_34 := lookE hA34 24 (es rfl l24_32)
      have l25_34 := lookE hA34 25 (es rfl l25_32)
      have l26_34 := lookE hA34 26 (es rfl l26_32)
      have l27_34 := lookE hA34 27 (et rfl)
      clear hA34 hsz32 hdf32 l26_32 l0_32 l8_32 l24_32 l25_32
      refine then_n (hK33 _ _ ?_)
      clear hK33
      refine wp_seq_k (fun K35 hK35 => ?_)
      refine cond_dec l27_34 (fun c36 => ?_) (fun c36 => ?_)
      · skip
        refine wp_skip ?_
        refine then_n (hK35 _ _ ?_)
        clear hK35
        refine wp_seq_k (fun K37 hK37 => ?_)
        refine wp_block ?_
        refine wp_seq_k (fun K38 hK38 => ?_)
        refine region_in ?_
        have k39 : k < (lsT c).length := by first | omega | (simp only [List.length_cons, List.length_nil]; omega) | (simp only [List.length_set]; omega) | decide
        obtain ⟨y39, hy39⟩ := get_some (xs := (lsT c)) (k := k) k39
        have hr39 := lsT_rng (List.mem_of_getElem? hy39)
        obtain ⟨B39, O39, C39, hv39⟩ := (SlN.blk (ow_at (hS32.chq 2 rfl hc_32)) (by first | omega | (simp only [List.length_cons, List.length_nil]; omega) | (simp only [List.length_set]; omega) | decide))
        refine W_v rfl rfl (V_ixS (off := O39 + k) 1 (k) rfl l24_34 l26_34 hv39 (by omega) k39 Try.underlying23 (by kernel_rfl) (congrArg _ (Nat.mul_one _))) ?_
        refine W_r rfl rfl (VR_ldC rfl (et rfl) ((ow_at (hS32.chq 2 rfl hc_32)).cell hv39 (map_get hy39)) Try.underlying3 rfl) ?_
        refine W_v rfl rfl (V_asg rfl (et rfl)) ?_
        refine W_end ?_
        refine gen_Q (fun A40 hA40 => ?_)
        have hsz40 := szq hA40
        have hdf40 : A40.defers = [] := by rw [hA40]; simp only [df_put]; exact hdf34
        have l0_40 := lookE hA40 0 (e2 rfl (es rfl l0_34))
        have l8_40 := lookE hA40 8 (e2 rfl (es rfl l8_34))
        have l10_40 := lookE hA40 10 (et rfl)
        have l24_40 := lookE hA40 24 (e2 rfl (es rfl l24_34))
        have l25_40 := lookE hA40 25 (e2 rfl (es rfl l25_34))
        have l26_40 := lookE hA40 26 (e2 rfl (es rfl l26_34))
        clear hA40 hsz34 hdf34 l0_34 l8_34 l24_34 l25_34 l26_34 l27_34
        refine then_n (hK38 _ _ ?_)
        clear hK38
        refine wp_seq_k (fun K41 hK41 => ?_)
        refine wp_seq_k (fun K42 hK42 => ?_)
        refine region_in ?_
        refine W_v rfl rfl (V_mov rfl l10_40) ?_
        refine W_v rfl rfl (V_mov rfl (es rfl l0_40)) ?_
        refine W_v rfl rfl (V_lenS rfl (et rfl) (sl_SlN h_wv.at) Try.underlying22) ?_
        refine W_v rfl rfl (V_geq rfl (e2 rfl (et rfl)) (et rfl)) ?_
        refine W_split rfl rfl (V_mov rfl (et rfl)) (fun c43 => ?_) (fun c43 => ?_)
        · skip
          refine W_off rfl (wanted_f rfl rfl (et rfl) (ez rfl) rfl) ?_
          refine W_off rfl (wanted_f rfl rfl (es rfl (et rfl)) (ez rfl) rfl) ?_
          refine W_off rfl (wanted_f rfl rfl (e2 rfl (et rfl)) (ez rfl) rfl) ?_
          refine W_off rfl (wanted_f rfl rfl (e3 rfl (et rfl)) (ez rfl) rfl) ?_
          refine W_off rfl (wanted_f rfl rfl (e4 rfl (et rfl)) (ez rfl) rfl) ?_
          refine W_v rfl rfl (V_pickT rfl (e5 rfl (et rfl)) rfl) ?_
          refine W_end ?_
          refine gen_Q (fun A44 hA44 => ?_)
          have hsz44 := szq hA44
          have hdf44 : A44.defers = [] := by rw [hA44]; simp only [df_put]; exact hdf40
          have l0_44 := lookE hA44 0 (e10 rfl (es rfl l0_40))
          have l8_44 := lookE hA44 8 (e10 rfl (es rfl l8_40))
          have l10_44 := lookE hA44 10 (e10 rfl (es rfl l10_40))
          have l24_44 := lookE hA44 24 (e10 rfl (es rfl l24_40))
          have l25_44 := lookE hA44 25 (e10 rfl (es rfl l25_40))
          have l26_44 := lookE hA44 26 (e10 rfl (es rfl l26_40))
          have l35_44 := lookE hA44 35 (e5 rfl (et rfl))
          have l36_44 := lookE hA44 36 (e4 rfl (et rfl))
          have l37_44 := lookE hA44 37 (e3 rfl (et rfl))
          have l38_44 := lookE hA44 38 (e2 rfl (et rfl))
          have l39_44 := lookE hA44 39 (es rfl (et rfl))
          have l40_44 := lookE hA44 40 (et rfl)
          clear hA44 hsz40 hdf40 l0_40 l8_40 l10_40 l24_40 l25_40 l26_40
          refine then_n (hK42 _ _ ?_)
          clear hK42
          refine cond_t l40_44 ?_
          refine wp_seq_k (fun K45 hK45 => ?_)
          refine region_in ?_
          refine W_v rfl rfl (V_asg rfl rfl) ?_
          refine W_v rfl rfl (V_asg rfl rfl) ?_
          refine W_end ?_
          refine gen_Q (fun A46 hA46 => ?_)
          have hsz46 := szq hA46
          have hdf46 : A46.defers = [] := by rw [hA46]; simp only [df_put]; exact hdf44
          have l4_46 := lookE hA46 4 (es rfl (et rfl))
          have l5_46 := lookE hA46 5 (et rfl)
          clear hA46 hsz44 hdf44 l0_44 l8_44 l10_44 l24_44 l25_44 l26_44 l35_44 l36_44 l37_44 l38_44 l39_44 l40_44
          have hS47 : St w NoX [] w32 := hS32.sel [] (by decide) rfl
          refine then_n (hK45 _ _ ?_)
          clear hK45
          refine wp_ret ?_
          refine then_ret ?_
          refine inb_ret ?_
          refine then_ret ?_
          refine then_ret ?_
          refine inb_ret ?_
          refine then_ret ?_
          refine ret_in (results_2 Try.results37 (rv_tmp l4_46) (rv_tmp l5_46)) hdf46 ?_
          -- leaf FFTT
          obtain ⟨c48, hc48, hS48⟩ := St.mnil (k := .i64) hS47
          replace hc48 : c48 = mi (.map none) [] := hc48
          replace hc48 : c48 = mkO (.map none) ([] : List KE) := hc48
          obtain ⟨cm49, hcm49, hS49⟩ := hS48.mcNil
          have he := slE_bad (by omega) (by omega) (List.mem_of_getElem? hy39) (by unfold bdW; rw [decide_eq_true_eq]; omega)
          have ht : slT ws c = [] := slT_err (by rw [he]; omega)
          rw [he]
          exact ⟨_, _, rfl, (by rw [ht]; exact HM_nil ws), (hS49.fin2 1 rfl (hc48) 0 rfl (hcm49) (by decide))⟩
        · skip
          refine W_v rfl (wanted_t rfl rfl (et rfl) (ez rfl)) (V_mov rfl (e4 rfl (es rfl l0_40))) ?_
          refine W_v rfl (wanted_t rfl rfl (es rfl (et rfl)) (ez rfl)) (V_mov rfl (e5 rfl (es rfl l10_40))) ?_
          have k50 : y39.toNat < ws.length := by first | omega | (simp only [List.length_cons, List.length_nil]; omega) | (simp only [List.length_set]; omega) | decide
          obtain ⟨y50, hy50⟩ := get_some (xs := ws) (k := y39.toNat) k50
          have hwa50 := wA_at hy50
          have hwu50 := hu _ (List.mem_of_getElem? hy50)
          obtain ⟨B50, O50, C50, hv50⟩ := (SlN.blk (sl_SlN h_wv.at) (by first | omega | (simp only [List.length_cons, List.length_nil]; omega) | (simp only [List.length_set]; omega) | decide))
          refine W_v rfl (wanted_t rfl rfl (e2 rfl (et rfl)) (ez rfl)) (V_ixS (off := O50 + y39.toNat) 1 (y39.toNat) rfl (es rfl (et rfl)) (et rfl) hv50 (by omega) k50 Try.underlying22 (by kernel_rfl) (congrArg _ (Nat.mul_one _))) ?_
          refine W_r rfl (wanted_t rfl rfl (e3 rfl (et rfl)) (ez rfl)) (VR_ldC rfl (et rfl) ((sl_SlN (hS32.ro h_wv)).cell hv50 (map_get hy50)) Try.underlying40 rfl) ?_
          refine W_v rfl (wanted_t rfl rfl (e4 rfl (et rfl)) (ez rfl)) (V_gtr rfl (et rfl) rfl) ?_
          refine W_v rfl rfl (V_pickF rfl (e5 rfl (et rfl)) (et rfl)) ?_
          refine W_end ?_
          refine gen_Q (fun A51 hA51 => ?_)
          have hsz51 := szq hA51
          have hdf51 : A51.defers = [] := by rw [hA51]; simp only [df_put]; exact hdf40
          have l0_51 := lookE hA51 0 (e10 rfl (es rfl l0_40))
          have l8_51 := lookE hA51 8 (e10 rfl (es rfl l8_40))
          have l10_51 := lookE hA51 10 (e10 rfl (es rfl l10_40))
          have l24_51 := lookE hA51 24 (e10 rfl (es rfl l24_40))
          have l25_51 := lookE hA51 25 (e10 rfl (es rfl l25_40))
          have l26_51 := lookE hA51 26 (e10 rfl (es rfl l26_40))
          have l35_51 := lookE hA51 35 (e5 rfl (et rfl))
          have l36_51 := lookE hA51 36 (e4 rfl (et rfl))
          have l37_51 := lookE hA51 37 (e3 rfl (et rfl))
          have l38_51 := lookE hA51 38 (e2 rfl (et rfl))
          have l39_51 := lookE hA51 39 (es rfl (et rfl))
          have l40_51 := lookE hA51 40 (et rfl)
          clear hA51 hsz40 hdf40 l0_40 l8_40 l10_40 l24_40 l25_40 l26_40
          refine then_n (hK42 _ _ ?_)
          clear hK42
          refine cond_dec l40_51 (fun c52 => ?_) (fun c52 => ?_)
          · skip
            refine wp_seq_k (fun K53 hK53 => ?_)
            refine region_in ?_
            refine W_v rfl rfl (V_asg rfl rfl) ?_
            refine W_v rfl rfl (V_asg rfl rfl) ?_
            refine W_end ?_
            refine gen_Q (fun A54 hA54 => ?_)
            have hsz54 := szq hA54
            have hdf54 : A54.defers = [] := by rw [hA54]; simp only [df_put]; exact hdf51
            have l4_54 := lookE hA54 4 (es rfl (et rfl))
            have l5_54 := lookE hA54 5 (et rfl)
            clear hA54 hsz51 hdf51 l0_51 l8_51 l10_51 l24_51 l25_51 l26_51 l35_51 l36_51 l37_51 l38_51 l39_51 l40_51
            have hS55 : St w NoX [] w32 := hS32.sel [] (by decide) rfl
            refine then_n (hK53 _ _ ?_)
            clear hK53
            refine wp_ret ?_
            refine then_ret ?_
            refine inb_ret ?_
            refine then_ret ?_
            refine then_ret ?_
            refine inb_ret ?_
            refine then_ret ?_
            refine ret_in (results_2 Try.results37 (rv_tmp l4_54) (rv_tmp l5_54)) hdf54 ?_
            -- leaf FFTFT
            obtain ⟨c56, hc56, hS56⟩ := St.mnil (k := .i64) hS55
            replace hc56 : c56 = mi (.map none) [] := hc56
            replace hc56 : c56 = mkO (.map none) ([] : List KE) := hc56
            obtain ⟨cm57, hcm57, hS57⟩ := hS56.mcNil
            have he := slE_bad (by omega) (by omega) (List.mem_of_getElem? hy39) (by unfold bdW; rw [decide_eq_true_eq]; omega)
            have ht : slT ws c = [] := slT_err (by rw [he]; omega)
            rw [he]
            exact ⟨_, _, rfl, (by rw [ht]; exact HM_nil ws), (hS57.fin2 1 rfl (hc56) 0 rfl (hcm57) (by decide))⟩
          · skip
            refine wp_skip ?_
            refine then_n (hK41 _ _ ?_)
            clear hK41
            refine wp_seq_k (fun K58 hK58 => ?_)
            refine region_in ?_
            refine W_v rfl rfl (V_mov rfl l0_51) ?_
            refine W_v rfl rfl (V_mov rfl (es rfl l10_51)) ?_
            refine W_v rfl rfl (V_ixS (off := O50 + y39.toNat) 1 (y39.toNat) rfl (es rfl (et rfl)) (et rfl) hv50 (by omega) k50 Try.underlying22 (by kernel_rfl) (congrArg _ (Nat.mul_one _))) ?_
            refine W_r rfl rfl (VR_ldC rfl (et rfl) ((sl_SlN (hS32.ro h_wv)).cell hv50 (map_get hy50)) Try.underlying40 rfl) ?_
            refine W_v rfl rfl (V_cvt rfl (et rfl) Try.underlying40 Try.underlying3 (wrap_i64 (by omega) (by omega))) ?_
            refine W_v rfl rfl (V_asg rfl (et rfl)) ?_
            refine W_end ?_
            refine gen_Q (fun A60 hA60 => ?_)
            have hsz60 := szq hA60
            have hdf60 : A60.defers = [] := by rw [hA60]; simp only [df_put]; exact hdf51
            have l0_60 := lookE hA60 0 (e5 rfl (es rfl l0_51))
            have l8_60 := lookE hA60 8 (e5 rfl (es rfl l8_51))
            have l10_60 := lookE hA60 10 (e5 rfl (es rfl l10_51))
            have l11_60 := lookE hA60 11 (et rfl)
            have l24_60 := lookE hA60 24 (e5 rfl (es rfl l24_51))
            have l25_60 := lookE hA60 25 (e5 rfl (es rfl l25_51))
            have l26_60 := lookE hA60 26 (e5 rfl (es rfl l26_51))
            have l35_60 := lookE hA60 35 (e5 rfl (es rfl l35_51))
            have l36_60 := lookE hA60 36 (e5 rfl (es rfl l36_51))
            have l37_60 := lookE hA60 37 (e5 rfl (es rfl l37_51))
            have l38_60 := lookE hA60 38 (e5 rfl (es rfl l38_51))
            have l39_60 := lookE hA60 39 (e5 rfl (es rfl l39_51))
            clear hA60 hsz51 hdf51 l0_51 l8_51 l10_51 l24_51 l25_51 l26_51 l35_51 l36_51 l37_51 l38_51 l39_51 l40_51
            refine then_n (hK58 _ _ ?_)
            clear hK58
            refine wp_seq_k (fun K61 hK61 => ?_)
            refine region_in ?_
            refine W_v rfl rfl (V_mov rfl l11_60) ?_
            refine W_v rfl rfl (V_neq rfl (et rfl) rfl) ?_
            refine W_end ?_
            refine gen_Q (fun A62 hA62 => ?_)
            have hsz62 := szq hA62
            have hdf62 : A62.defers = [] := by rw [hA62]; simp only [df_put]; exact hdf60
            have l0_62 := lookE hA62 0 (es rfl (es rfl l0_60))
            have l8_62 := lookE hA62 8 (es rfl (es rfl l8_60))
            have l10_62 := lookE hA62 10 (es rfl (es rfl l10_60))
            have l11_62 := lookE hA62 11 (es rfl (es rfl l11_60))
            have l24_62 := lookE hA62 24 (es rfl (es rfl l24_60))
            have l25_62 := lookE hA62 25 (es rfl (es rfl l25_60))
            have l26_62 := lookE hA62 26 (es rfl (es rfl l26_60))
            have l35_62 := lookE hA62 35 (es rfl (es rfl l35_60))
            have l36_62 := lookE hA62 36 (es rfl (es rfl l36_60))
            have l37_62 := lookE hA62 37 (es rfl (es rfl l37_60))
            have l38_62 := lookE hA62 38 (es rfl (es rfl l38_60))
            have l39_62 := lookE hA62 39 (es rfl (es rfl l39_60))
            have l47_62 := lookE hA62 47 (et rfl)
            clear hA62 hsz60 hdf60 l0_60 l8_60 l10_60 l11_60 l24_60 l25_60 l26_60 l35_60 l36_60 l37_60 l38_60 l39_60
            refine then_n (hK61 _ _ ?_)
            clear hK61
            refine cond_dec l47_62 (fun c63 => ?_) (fun c63 => ?_)
            · skip
              refine region_in ?_
              refine W_v rfl rfl (V_mov rfl l8_62) ?_
              refine W_v rfl rfl (V_mov rfl (es rfl l11_62)) ?_
              refine W_v rfl rfl (V_mov rfl (es rfl (es rfl l8_62))) ?_
              refine W_v rfl rfl (V_mov rfl (e2 rfl (es rfl l11_62))) ?_
              refine W_r rfl rfl (VR_lookK rfl (es rfl (et rfl)) (et rfl) (hS32.chq 1 rfl hc27_32) Try.underlying64 Try.underlying3 (by kernel_rfl)) ?_
              obtain ⟨c64, cm64, hc64, hcm64, hS64⟩ := hS32.kout y50 hcm27_32
              replace hS64 : St w NoX [c64, cm64, c27_32, c_32] w32 := hS64
              refine W_v rfl rfl (V_mov rfl (e4 rfl (es rfl l10_62))) ?_
              have hll65 : [y39].length = 1 := rfl
              refine W_litS (vs := [.int .i64 (y39)]) (xs := ([y39].map (Value.int .i64))) 1 hS64 rfl rfl rfl (parts1 (et rfl)) rfl Try.underlying23 (by kernel_rfl) (by decide) (by intro v hv; simp only [List.mem_cons, List.not_mem_nil, or_false] at hv; rcases hv with rfl <;> rfl) (by rfl) (fun g65 w65 c65 hc65 hS65 => ?_)
              replace hc65 : c65 = io .i64 (.slice (some ⟨g65, 0, none⟩) 1 1) [y39] := hc65
              replace hS65 : St w NoX [c65, c64, cm64, c27_32, c_32] w65 := hS65
              refine W_appS 1 1 hS65 rfl hc64 rfl rfl rfl (e2 rfl (et rfl)) (et rfl) Try.underlying23 Try.underlying23 (z := .int .i64 0) (bytes := 8) (by kernel_rfl) rfl (by decide) (ow_at (hS65.chq 0 rfl hc65)) ones_i (by have h1 := congrArg List.length (hm0.sl y50 (by omega)); have h2 := hoF_len ws ((lsT c).take k) y50; have h3 : ((lsT c).take k).length ≤ (lsT c).length := (by rw [List.length_take]; omega); simp only [List.length_singleton, List.length_cons, List.length_nil]; omega) (by have h1 := congrArg List.length (hm0.sl y50 (by omega)); have h2 := hoF_len ws ((lsT c).take k) y50; have h3 : ((lsT c).take k).length ≤ (lsT c).length := (by rw [List.length_take]; omega); simp only [List.length_singleton, List.length_cons, List.length_nil]; omega) (fun v66 w66 c66 hc66 hS66 => ?_)
              replace hc66 : c66 = io .i64 v66 (((lkP K y50).2) ++ [y39]) := hc66.trans (app_eq (by simp))
              replace hS66 : St w NoX [c65, c66, cm64, c27_32, c_32] w66 := hS66
              refine W_mapSetK (((lkP K y50).2) ++ [y39]) 3 hS66 rfl hc27_32 rfl rfl rfl rfl (e7 rfl (et rfl)) (e6 rfl (et rfl)) (et rfl) Try.underlying64 Try.underlying3 (fun w67 c67 hc67 hS67 => ?_)
              replace hc67 : c67 = mkO (.map (some g27)) (kset K y50 (v66, (((lkP K y50).2) ++ [y39]))) := hc67
              replace hS67 : St w NoX [c65, c66, cm64, c67, c_32] w67 := hS67
              have hS68 : St w NoX [c66, cm64, c65, c67, c_32] w67 := hS67.sel [1, 2, 0, 3, 4] (by decide) rfl
              obtain ⟨cm67, hcm67, hS67⟩ := hS68.kin y50 hc66 hcm64
              replace hS67 : St w NoX [cm67, c65, c67, c_32] w67 := hS67
              refine W_end ?_
              refine gen_Q (fun A69 hA69 => ?_)
              have hsz69 := szq hA69
              have hdf69 : A69.defers = [] := by rw [hA69]; simp only [df_put]; exact hdf62
              have l0_69 := lookE hA69 0 (e7 rfl (es rfl l0_62))
              have l8_69 := lookE hA69 8 (e7 rfl (es rfl l8_62))
              have l24_69 := lookE hA69 24 (e7 rfl (es rfl l24_62))
              have l25_69 := lookE hA69 25 (e7 rfl (es rfl l25_62))
              have l26_69 := lookE hA69 26 (e7 rfl (es rfl l26_62))
              have l35_69 := lookE hA69 35 (e7 rfl (es rfl l35_62))
              have l36_69 := lookE hA69 36 (e7 rfl (es rfl l36_62))
              have l37_69 := lookE hA69 37 (e7 rfl (es rfl l37_62))
              have l38_69 := lookE hA69 38 (e7 rfl (es rfl l38_62))
              have l39_69 := lookE hA69 39 (e7 rfl (es rfl l39_62))
              clear hA69 hsz62 hdf62 l0_62 l8_62 l10_62 l11_62 l24_62 l25_62 l26_62 l35_62 l36_62 l37_62 l38_62 l39_62 l47_62
              have hS70 : St w NoX [cm67, c67, c_32] w67 := hS67.sel [0, 2, 3] (by decide) rfl
              refine inb_n ?_
              refine then_n (hK37 _ _ ?_)
              clear hK37
              refine region_in ?_
              refine W_v rfl rfl (V_add rfl l26_69 rfl (by omega) (by omega)) ?_
              refine W_v rfl rfl (V_mov rfl (et rfl)) ?_
              refine W_end ?_
              refine gen_Q (fun A71 hA71 => ?_)
              have hsz71 := szq hA71
              have hdf71 : A71.defers = [] := by rw [hA71]; simp only [df_put]; exact hdf69
              have l0_71 := lookE hA71 0 (es rfl (es rfl l0_69))
              have l8_71 := lookE hA71 8 (es rfl (es rfl l8_69))
              have l24_71 := lookE hA71 24 (es rfl (es rfl l24_69))
              have l25_71 := lookE hA71 25 (es rfl (es rfl l25_69))
              have l26_71 := lookE hA71 26 (et rfl)
              have l35_71 := lookE hA71 35 (es rfl (es rfl l35_69))
              have l36_71 := lookE hA71 36 (es rfl (es rfl l36_69))
              have l37_71 := lookE hA71 37 (es rfl (es rfl l37_69))
              have l38_71 := lookE hA71 38 (es rfl (es rfl l38_69))
              have l39_71 := lookE hA71 39 (es rfl (es rfl l39_69))
              clear hA71 hsz69 hdf69 l0_69 l8_69 l24_69 l25_69 l26_69 l35_69 l36_69 l37_69 l38_69 l39_69
              refine then_n ⟨(lsT c).length - (k + 1), by simp only [hm32]; omega, hsz71, hdf71, (k + 1), (kset K y50 (v66, (((lkP K y50).2) ++ [y39]))), rfl, (by omega), (HM_in hm0 hy39 hwa50 (by omega)), (ok_step hok hy39 (by unfold bdW; rw [decide_eq_true_eq]; omega)), ((l26_71).trans (by first | rfl | (simp; done) | (congr 1; omega))), ((l0_71).trans l0_31.symm), ((l8_71).trans l8_31.symm), ((l24_71).trans l24_31.symm), ((l25_71).trans l25_31.symm), (by have q0 : cm67 = mkC (kset K y50 (v66, (((lkP K y50).2) ++ [y39]))) := hcm67.trans (rfl); have q1 : c67 = mkO (.map (some g27)) (kset K y50 (v66, (((lkP K y50).2) ++ [y39]))) := hc67.trans (rfl); have q2 := hc_32; subst q0 q1 q2; exact hS70)⟩
            · skip
              refine wp_skip ?_
              refine inb_n ?_
              refine then_n (hK37 _ _ ?_)
              clear hK37
              refine region_in ?_
              refine W_v rfl rfl (V_add rfl l26_62 rfl (by omega) (by omega)) ?_
              refine W_v rfl rfl (V_mov rfl (et rfl)) ?_
              refine W_end ?_
              refine gen_Q (fun A72 hA72 => ?_)
              have hsz72 := szq hA72
              have hdf72 : A72.defers = [] := by rw [hA72]; simp only [df_put]; exact hdf62
              have l0_72 := lookE hA72 0 (es rfl (es rfl l0_62))
              have l8_72 := lookE hA72 8 (es rfl (es rfl l8_62))
              have l24_72 := lookE hA72 24 (es rfl (es rfl l24_62))
              have l25_72 := lookE hA72 25 (es rfl (es rfl l25_62))
              have l26_72 := lookE hA72 26 (et rfl)
              have l35_72 := lookE hA72 35 (es rfl (es rfl l35_62))
              have l36_72 := lookE hA72 36 (es rfl (es rfl l36_62))
              have l37_72 := lookE hA72 37 (es rfl (es rfl l37_62))
              have l38_72 := lookE hA72 38 (es rfl (es rfl l38_62))
              have l39_72 := lookE hA72 39 (es rfl (es rfl l39_62))
              clear hA72 hsz62 hdf62 l0_62 l8_62 l10_62 l11_62 l24_62 l25_62 l26_62 l35_62 l36_62 l37_62 l38_62 l39_62 l47_62
              refine then_n ⟨(lsT c).length - (k + 1), by simp only [hm32]; omega, hsz72, hdf72, (k + 1), K, rfl, (by omega), (HM_out hm0 hy39 hwa50 (by omega)), (ok_step hok hy39 (by unfold bdW; rw [decide_eq_true_eq]; omega)), ((l26_72).trans (by first | rfl | (simp; done) | (congr 1; omega))), ((l0_72).trans l0_31.symm), ((l8_72).trans l8_31.symm), ((l24_72).trans l24_31.symm), ((l25_72).trans l25_31.symm), (by have q0 : cm27_32 = mkC K := hcm27_32.trans (rfl); have q1 : c27_32 = mkO (.map (some g27)) K := hc27_32.trans (rfl); have q2 := hc_32; subst q0 q1 q2; exact hS32)⟩
      · skip
        refine wp_exit ?_
        refine then_exit ?_
        refine then_exit ?_
        refine inb_hit ?_
        refine then_n (hK29 _ _ ?_)
        clear hK29
        refine wp_seq_k (fun K73 hK73 => ?_)
        refine region_in ?_
        refine W_v rfl rfl (V_mov rfl l8_34) ?_
        refine W_v rfl rfl (V_asg rfl (et rfl)) ?_
        refine W_v rfl rfl (V_asg rfl rfl) ?_
        refine W_end ?_
        refine gen_Q (fun A74 hA74 => ?_)
        have hsz74 := szq hA74
        have hdf74 : A74.defers = [] := by rw [hA74]; simp only [df_put]; exact hdf34
        have l4_74 := lookE hA74 4 (es rfl (et rfl))
        have l5_74 := lookE hA74 5 (et rfl)
        clear hA74 hsz34 hdf34 l0_34 l8_34 l24_34 l25_34 l26_34 l27_34
        have hS75 : St w NoX [cm27_32, c27_32] w32 := hS32.sel [0, 1] (by decide) rfl
        refine then_n (hK73 _ _ ?_)
        clear hK73
        refine wp_ret ?_
        refine ret_in (results_2 Try.results37 (rv_tmp l4_74) (rv_tmp l5_74)) hdf74 ?_
        -- leaf FFF
        have he : slE ws c = 0 := slE_ok (by omega) (by omega) (by have e := List.take_of_length_le (i := k) (l := lsT c) (by omega); rw [e] at hok; exact hok)
        have ht := (slE_zero he).1
        rw [he]
        exact ⟨_, _, rfl, (by have e := List.take_of_length_le (i := k) (l := lsT c) (by omega); rw [e] at hm0; rw [ht]; exact hm0), (hS75.fin2 1 rfl (hc27_32) 0 rfl (hcm27_32) (by decide))⟩

end Go.Proofs.Ytnfgeekaeegolaa