import Derived.Test.YtnfgeekaeegolaaProg
import Derived.Test.YtnfgeekaeegolaaRc2
namespace Go.Proofs.Ytnfgeekaeegolaa
open Go.RowKit Go.Own Go.Own.R Go.Own.S Go.Own.F


set_option maxHeartbeats 4000000 in
theorem qho_c {wv : Value} {ws : List Int} {cv : Value} {c : List Int} {t : Int} {w : World} (h_wv : Ro w NoX (il .u64 wv ws)) (h_cv : Ro w NoX (il .i64 cv c)) (hu : ∀ x ∈ ws, 0 ≤ x ∧ x ≤ 18446744073709551615) :
    Calls Try.prog 19 #[wv, .agg #[cv], .int .i64 t] w fun e w' => ∃ v, e = .returned (.tuple #[v, .int .i64 (hoE ws c t)]) ∧ St w NoX [io .i64 (v) (hoT ws c t)] w' := by
  refine calls_in 52 Try.func19 rfl rfl (by simp) (fun A0 hsz0 hdf0 hargs => ?_)
  have l0_0 := hargs 0 (wv) rfl
  have l1_0 := hargs 1 (.agg #[cv]) rfl
  have l2_0 := hargs 2 (.int .i64 t) rfl
  clear hargs; replace hsz0 : SzN A0 52 := ⟨hsz0⟩
  have hS := St.nil w
  have bh_wv := SlN.le (sl_SlN h_wv.at)
  have bh_cv := SlN.le (sl_SlN h_cv.at)
  refine wp_seq_k (fun K1 hK1 => ?_)
  refine region_in ?_
  refine W_boxS (zs := #[cv]) hS rfl rfl rfl l1_0 (by rfl) (fun g2 w2 c2 hc2 hS2 => ?_)
  replace hS2 : St w NoX [c2] w2 := hS2
  refine W_v rfl rfl (V_asg rfl rfl) ?_
  refine W_v rfl rfl (V_asg rfl rfl) ?_
  refine W_end ?_
  refine gen_Q (fun A3 hA3 => ?_)
  have hsz3 := szq hA3
  have hdf3 : A3.defers = [] := by rw [hA3]; simp only [df_put]; exact hdf0
  have l0_3 := lookE hA3 0 (e2 rfl (es rfl l0_0))
  have l2_3 := lookE hA3 2 (e2 rfl (es rfl l2_0))
  have l4_3 := lookE hA3 4 (e2 rfl (et rfl))
  clear hA3 hsz0 hdf0 l0_0 l1_0 l2_0
  refine then_n (hK1 _ _ ?_)
  clear hK1
  refine wp_seq_k (fun K4 hK4 => ?_)
  refine region_in ?_
  refine W_v rfl rfl (V_mov rfl l0_3) ?_
  refine W_r rfl rfl (VR_ldA rfl (es rfl l4_3) (hS2.obj 0 rfl hc2) Try.underlying25 rfl (by kernel_rfl)) ?_
  refine W_call rfl rfl rfl Try.func39 (by kernel_rfl) rfl (args2 (es rfl (et rfl)) (et rfl)) (qsl_c (hS2.roC h_wv) (hS2.roC h_cv) ) ?_
  rintro _ w5 ⟨v_5, rfl, hP5⟩
  refine ⟨_, rfl, ?_⟩
  obtain ⟨c_5, hc_5, hP5⟩ := gen1 hP5
  have hS5 := hS2.join hP5
  replace hS5 : St w NoX [c_5, c2] w5 := hS5
  refine W_v rfl rfl (V_mov rfl (et rfl)) ?_
  refine W_v rfl rfl (V_ext (v := v_5) rfl (et rfl) rfl) ?_
  refine W_v rfl rfl (V_ext (v := .int .i64 ((slE ws c))) rfl (es rfl (et rfl)) rfl) ?_
  refine W_v rfl rfl (V_asg rfl (es rfl (et rfl))) ?_
  refine W_v rfl rfl (V_asg rfl (es rfl (et rfl))) ?_
  refine W_end ?_
  refine gen_Q (fun A6 hA6 => ?_)
  have hsz6 := szq hA6
  have hdf6 : A6.defers = [] := by rw [hA6]; simp only [df_put]; exact hdf3
  have l0_6 := lookE hA6 0 (e7 rfl (es rfl l0_3))
  have l2_6 := lookE hA6 2 (e7 rfl (es rfl l2_3))
  have l8_6 := lookE hA6 8 (es rfl (et rfl))
  have l9_6 := lookE hA6 9 (et rfl)
  clear hA6 hsz3 hdf3 l0_3 l2_3 l4_3
  have hS7 : St w NoX [c_5] w5 := hS5.sel [0] (by decide) rfl
  refine then_n (hK4 _ _ ?_)
  clear hK4
  refine wp_seq_k (fun K8 hK8 => ?_)
  refine wp_seq_k (fun K9 hK9 => ?_)
  refine region_in ?_
  refine W_v rfl rfl (V_mov rfl l9_6) ?_
  refine W_v rfl rfl (V_eql rfl (et rfl) rfl) ?_
  refine W_split rfl rfl (V_mov rfl (et rfl)) (fun c10 => ?_) (fun c10 => ?_)
  · skip
    refine W_v rfl (wanted_t rfl rfl (et rfl) (ez rfl)) (V_mov rfl (e2 rfl (es rfl l2_6))) ?_
    refine W_call rfl (wanted_t rfl rfl (es rfl (et rfl)) (ez rfl)) rfl Try.func42 (by kernel_rfl) rfl (args1 (et rfl)) (qkn_c (a := t)  ) ?_
    rintro _ w11 ⟨rfl, hP11⟩
    refine ⟨_, rfl, ?_⟩
    have hS11 := hS7.join hP11
    replace hS11 : St w NoX [c_5] w11 := hS11
    refine W_v rfl (wanted_t rfl rfl (e2 rfl (et rfl)) (ez rfl)) (V_notd rfl (et rfl)) ?_
    refine W_v rfl rfl (V_pickT rfl (e3 rfl (et rfl)) (et rfl)) ?_
    refine W_end ?_
    refine gen_Q (fun A12 hA12 => ?_)
    have hsz12 := szq hA12
    have hdf12 : A12.defers = [] := by rw [hA12]; simp only [df_put]; exact hdf6
    have l0_12 := lookE hA12 0 (e6 rfl (es rfl l0_6))
    have l2_12 := lookE hA12 2 (e6 rfl (es rfl l2_6))
    have l8_12 := lookE hA12 8 (e6 rfl (es rfl l8_6))
    have l9_12 := lookE hA12 9 (e6 rfl (es rfl l9_6))
    have l24_12 := lookE hA12 24 (et rfl)
    clear hA12 hsz6 hdf6 l0_6 l2_6 l8_6 l9_6
    refine then_n (hK9 _ _ ?_)
    clear hK9
    refine cond_dec l24_12 (fun c13 => ?_) (fun c13 => ?_)
    · skip
      refine region_in ?_
      refine W_v rfl rfl (V_asg rfl rfl) ?_
      refine W_end ?_
      refine gen_Q (fun A14 hA14 => ?_)
      have hsz14 := szq hA14
      have hdf14 : A14.defers = [] := by rw [hA14]; simp only [df_put]; exact hdf12
      have l0_14 := lookE hA14 0 (es rfl l0_12)
      have l2_14 := lookE hA14 2 (es rfl l2_12)
      have l8_14 := lookE hA14 8 (es rfl l8_12)
      have l9_14 := lookE hA14 9 (et rfl)
      clear hA14 hsz12 hdf12 l0_12 l2_12 l8_12 l9_12 l24_12
      refine then_n (hK8 _ _ ?_)
      clear hK8
      refine wp_seq_k (fun K15 hK15 => ?_)
      refine wp_seq_k (fun K16 hK16 => ?_)
      refine region_in ?_
      refine W_v rfl rfl (V_mov rfl l9_14) ?_
      refine W_v rfl rfl (V_neq rfl (et rfl) rfl) ?_
      refine W_end ?_
      refine gen_Q (fun A17 hA17 => ?_)
      have hsz17 := szq hA17
      have hdf17 : A17.defers = [] := by rw [hA17]; simp only [df_put]; exact hdf14
      have l0_17 := lookE hA17 0 (es rfl (es rfl l0_14))
      have l2_17 := lookE hA17 2 (es rfl (es rfl l2_14))
      have l8_17 := lookE hA17 8 (es rfl (es rfl l8_14))
      have l9_17 := lookE hA17 9 (es rfl (es rfl l9_14))
      have l26_17 := lookE hA17 26 (et rfl)
      clear hA17 hsz14 hdf14 l0_14 l2_14 l8_14 l9_14
      refine then_n (hK16 _ _ ?_)
      clear hK16
      refine cond_sure l26_17 (by decide) ?_
      refine wp_seq_k (fun K18 hK18 => ?_)
      refine region_in ?_
      refine W_v rfl rfl (V_mov rfl l9_17) ?_
      refine W_v rfl rfl (V_asg rfl rfl) ?_
      refine W_v rfl rfl (V_asg rfl (es rfl (et rfl))) ?_
      refine W_end ?_
      refine gen_Q (fun A19 hA19 => ?_)
      have hsz19 := szq hA19
      have hdf19 : A19.defers = [] := by rw [hA19]; simp only [df_put]; exact hdf17
      have l6_19 := lookE hA19 6 (es rfl (et rfl))
      have l7_19 := lookE hA19 7 (et rfl)
      clear hA19 hsz17 hdf17 l0_17 l2_17 l8_17 l9_17 l26_17
      have hS20 : St w NoX [] w11 := hS11.sel [] (by decide) rfl
      refine then_n (hK18 _ _ ?_)
      clear hK18
      refine wp_ret ?_
      refine then_ret ?_
      refine ret_in (results_2 Try.results19 (rv_tmp l6_19) (rv_tmp l7_19)) hdf19 ?_
      -- leaf TT
      obtain ⟨c21, hc21, hS21⟩ := hS20.pnil (s := 1)
      have hc : hoE ws c t = 7 := by unfold hoE; rw [if_neg (by omega), if_neg (by omega)]
      rw [hc]
      exact ⟨_, rfl, (hS21.fin1 0 rfl (hc21.trans (by rw [show hoT ws c t = [] by unfold hoT; rw [if_pos (by omega)]] <;> rfl)))⟩
    · skip
      have hsl := slE_zero (ws := ws) (c := c) (by omega)
      have hll := slT_len ws c
      refine wp_skip ?_
      refine then_n (hK8 _ _ ?_)
      clear hK8
      refine wp_seq_k (fun K22 hK22 => ?_)
      refine wp_seq_k (fun K23 hK23 => ?_)
      refine region_in ?_
      refine W_v rfl rfl (V_mov rfl l9_12) ?_
      refine W_v rfl rfl (V_neq rfl (et rfl) rfl) ?_
      refine W_end ?_
      refine gen_Q (fun A24 hA24 => ?_)
      have hsz24 := szq hA24
      have hdf24 : A24.defers = [] := by rw [hA24]; simp only [df_put]; exact hdf12
      have l0_24 := lookE hA24 0 (es rfl (es rfl l0_12))
      have l2_24 := lookE hA24 2 (es rfl (es rfl l2_12))
      have l8_24 := lookE hA24 8 (es rfl (es rfl l8_12))
      have l9_24 := lookE hA24 9 (es rfl (es rfl l9_12))
      have l26_24 := lookE hA24 26 (et rfl)
      clear hA24 hsz12 hdf12 l0_12 l2_12 l8_12 l9_12 l24_12
      refine then_n (hK23 _ _ ?_)
      clear hK23
      refine cond_not l26_24 (by first | (simp [c10]; done) | exact decide_eq_true (by omega) | exact decide_eq_false (by omega)) ?_
      refine wp_skip ?_
      refine then_n (hK22 _ _ ?_)
      clear hK22
      refine wp_seq_k (fun K25 hK25 => ?_)
      refine region_in ?_
      refine W_v rfl rfl (V_asg rfl rfl) ?_
      refine W_end ?_
      refine gen_Q (fun A26 hA26 => ?_)
      have hsz26 := szq hA26
      have hdf26 : A26.defers = [] := by rw [hA26]; simp only [df_put]; exact hdf24
      have l0_26 := lookE hA26 0 (es rfl l0_24)
      have l2_26 := lookE hA26 2 (es rfl l2_24)
      have l8_26 := lookE hA26 8 (es rfl l8_24)
      have l10_26 := lookE hA26 10 (et rfl)
      clear hA26 hsz24 hdf24 l0_24 l2_24 l8_24 l9_24 l26_24
      refine then_n (hK25 _ _ ?_)
      clear hK25
      refine wp_seq_k (fun K27 hK27 => ?_)
      refine wp_seq_k (fun K28 hK28 => ?_)
      refine region_in ?_
      refine W_v rfl rfl (V_asg rfl rfl) ?_
      refine W_end ?_
      refine gen_Q (fun A29 hA29 => ?_)
      have hsz29 := szq hA29
      have hdf29 : A29.defers = [] := by rw [hA29]; simp only [df_put]; exact hdf26
      have l0_29 := lookE hA29 0 (es rfl l0_26)
      have l2_29 := lookE hA29 2 (es rfl l2_26)
      have l8_29 := lookE hA29 8 (es rfl l8_26)
      have l10_29 := lookE hA29 10 (es rfl l10_26)
      have l11_29 := lookE hA29 11 (et rfl)
      clear hA29 hsz26 hdf26 l0_26 l2_26 l8_26 l10_26
      refine then_n (hK28 _ _ ?_)
      clear hK28
      refine wp_block ?_
      obtain ⟨c30, hc30, hS30⟩ := hS11.pnil (s := 1)
      -- loop 8
      refine loopX (fun mz A' w' => SzN A' 52 ∧ A'.defers = [] ∧ (∃ (k : Nat) (bv : Value), (mz = (slT ws c).length - k) ∧ (k ≤ (slT ws c).length) ∧ (EV A' (.tmp 11) = .int .i64 (k : Int)) ∧ (EV A' (.tmp 10) = bv) ∧ (EV A' (.tmp 0) = EV A29 (.tmp 0)) ∧ (EV A' (.tmp 2) = EV A29 (.tmp 2)) ∧ (EV A' (.tmp 8) = EV A29 (.tmp 8)) ∧ (St w NoX [io .i64 bv (hoF ws ((slT ws c).take k) t), io .i64 v_5 (slT ws c)] w'))) ((slT ws c).length - 0) ⟨hsz29, hdf29, 0, (.slice none 0 0), rfl, (by omega), ((l11_29).trans (by first | rfl | (simp; done) | (congr 1; omega))), ((l10_29).trans (by first | rfl | (simp; done) | (congr 1; omega))), rfl, rfl, rfl, (by have q0 : c30 = io .i64 (.slice none 0 0) (hoF ws ((slT ws c).take 0) t) := hc30.trans (rfl); have q1 := hc_5; subst q0 q1; exact hS30)⟩ ?_
      clear hS30 hc30 hc_5
      rintro n31 A31 w31 ⟨hsz31, hdf31, k, bv, hm31, hk, l11_31, l10_31, u0_31, u2_31, u8_31, hS31⟩
      have l0_31 := u0_31.trans l0_29
      have l2_31 := u2_31.trans l2_29
      have l8_31 := u8_31.trans l8_29
      obtain ⟨c30_31, c_31, hc30_31, hc_31, hS31⟩ := gen2 hS31
      refine wp_seq_k (fun K32 hK32 => ?_)
      refine wp_seq_k (fun K33 hK33 => ?_)
      refine region_in ?_
      refine W_v rfl rfl (V_mov rfl l11_31) ?_
      refine W_v rfl rfl (V_mov rfl (es rfl l8_31)) ?_
      refine W_v rfl rfl (V_lenS rfl (et rfl) (ow_at (hS31.chq 1 rfl hc_31)) Try.underlying23) ?_
      refine W_v rfl rfl (V_lss rfl (e2 rfl (et rfl)) (et rfl)) ?_
      refine W_end ?_
      refine gen_Q (fun A34 hA34 => ?_)
      have hsz34 := szq hA34
      have hdf34 : A34.defers = [] := by rw [hA34]; simp only [df_put]; exact hdf31
      have l0_34 := lookE hA34 0 (e3 rfl (es rfl l0_31))
      have l2_34 := lookE hA34 2 (e3 rfl (es rfl l2_31))
      have l8_34 := lookE hA34 8 (e3 rfl (es rfl l8_31))
      have l10_34 := lookE hA34 10 (e3 rfl (es rfl l10_31))
      have l11_34 := lookE hA34 11 (e3 rfl (es rfl l11_31))
      have l31_34 := lookE hA34 31 (et rfl)
      clear hA34 hsz31 hdf31 l11_31 l10_31 l0_31 l2_31 l8_31
      refine then_n (hK33 _ _ ?_)
      clear hK33
      refine cond_dec l31_34 (fun c35 => ?_) (fun c35 => ?_)
      · skip
        refine wp_skip ?_
        refine then_n (hK32 _ _ ?_)
        clear hK32
        refine wp_seq_k (fun K36 hK36 => ?_)
        refine wp_block ?_
        refine wp_seq_k (fun K37 hK37 => ?_)
        refine region_in ?_
        refine W_v rfl rfl (V_mov rfl l0_34) ?_
        refine W_v rfl rfl (V_mov rfl (es rfl l8_34)) ?_
        refine W_v rfl rfl (V_mov rfl (es rfl (es rfl l11_34))) ?_
        have k38 : k < (slT ws c).length := by first | omega | (simp only [List.length_cons, List.length_nil]; omega) | (simp only [List.length_set]; omega) | decide
        obtain ⟨y38, hy38⟩ := get_some (xs := (slT ws c)) (k := k) k38
        have hr38 := hsl.2.2.2 _ (List.mem_of_getElem? hy38)
        have hwb38 := wA_at (ws := ws) (a := y38) (List.getElem?_eq_getElem (show y38.toNat < ws.length by omega))
        obtain ⟨B38, O38, C38, hv38⟩ := (SlN.blk (ow_at (hS31.chq 1 rfl hc_31)) (by first | omega | (simp only [List.length_cons, List.length_nil]; omega) | (simp only [List.length_set]; omega) | decide))
        refine W_v rfl rfl (V_ixS (off := O38 + k) 1 (k) rfl (es rfl (et rfl)) (et rfl) hv38 (by omega) k38 Try.underlying23 (by kernel_rfl) (congrArg _ (Nat.mul_one _))) ?_
        refine W_r rfl rfl (VR_ldC rfl (et rfl) ((ow_at (hS31.chq 1 rfl hc_31)).cell hv38 (map_get hy38)) Try.underlying3 rfl) ?_
        have k39 : y38.toNat < ws.length := by first | omega | (simp only [List.length_cons, List.length_nil]; omega) | (simp only [List.length_set]; omega) | decide
        obtain ⟨y39, hy39⟩ := get_some (xs := ws) (k := y38.toNat) k39
        have hwa39 := wA_at hy39
        have hwu39 := hu _ (List.mem_of_getElem? hy39)
        obtain ⟨B39, O39, C39, hv39⟩ := (SlN.blk (sl_SlN h_wv.at) (by first | omega | (simp only [List.length_cons, List.length_nil]; omega) | (simp only [List.length_set]; omega) | decide))
        refine W_v rfl rfl (V_ixS (off := O39 + y38.toNat) 1 (y38.toNat) rfl (e4 rfl (et rfl)) (et rfl) hv39 (by omega) k39 Try.underlying22 (by kernel_rfl) (congrArg _ (Nat.mul_one _))) ?_
        refine W_r rfl rfl (VR_ldC rfl (et rfl) ((sl_SlN (hS31.ro h_wv)).cell hv39 (map_get hy39)) Try.underlying40 rfl) ?_
        refine W_v rfl rfl (V_mov rfl (e6 rfl (es rfl l2_34))) ?_
        refine W_v rfl rfl (V_cvt rfl (et rfl) Try.underlying3 Try.underlying40 (wrap_u64 (by omega) (by omega))) ?_
        refine W_v rfl rfl (V_eql rfl (e2 rfl (et rfl)) (et rfl)) ?_
        refine W_end ?_
        refine gen_Q (fun A40 hA40 => ?_)
        have hsz40 := szq hA40
        have hdf40 : A40.defers = [] := by rw [hA40]; simp only [df_put]; exact hdf34
        have l0_40 := lookE hA40 0 (e9 rfl (es rfl l0_34))
        have l2_40 := lookE hA40 2 (e9 rfl (es rfl l2_34))
        have l8_40 := lookE hA40 8 (e9 rfl (es rfl l8_34))
        have l10_40 := lookE hA40 10 (e9 rfl (es rfl l10_34))
        have l11_40 := lookE hA40 11 (e9 rfl (es rfl l11_34))
        have l43_40 := lookE hA40 43 (et rfl)
        clear hA40 hsz34 hdf34 l0_34 l2_34 l8_34 l10_34 l11_34 l31_34
        refine then_n (hK37 _ _ ?_)
        clear hK37
        refine cond_dec l43_40 (fun c41 => ?_) (fun c41 => ?_)
        · skip
          refine region_in ?_
          refine W_v rfl rfl (V_mov rfl l10_40) ?_
          refine W_v rfl rfl (V_mov rfl (es rfl l8_40)) ?_
          refine W_v rfl rfl (V_mov rfl (es rfl (es rfl l11_40))) ?_
          refine W_v rfl rfl (V_ixS (off := O38 + k) 1 (k) rfl (es rfl (et rfl)) (et rfl) hv38 (by omega) k38 Try.underlying23 (by kernel_rfl) (congrArg _ (Nat.mul_one _))) ?_
          refine W_r rfl rfl (VR_ldC rfl (et rfl) ((ow_at (hS31.chq 1 rfl hc_31)).cell hv38 (map_get hy38)) Try.underlying3 rfl) ?_
          have hll43 : [y38].length = 1 := rfl
          refine W_litS (vs := [.int .i64 (y38)]) (xs := ([y38].map (Value.int .i64))) 1 hS31 rfl rfl rfl (parts1 (et rfl)) rfl Try.underlying23 (by kernel_rfl) (by decide) (by intro v hv; simp only [List.mem_cons, List.not_mem_nil, or_false] at hv; rcases hv with rfl <;> rfl) (by rfl) (fun g43 w43 c43 hc43 hS43 => ?_)
          replace hc43 : c43 = io .i64 (.slice (some ⟨g43, 0, none⟩) 1 1) [y38] := hc43
          replace hS43 : St w NoX [c43, c30_31, c_31] w43 := hS43
          refine W_appS 1 1 hS43 rfl hc30_31 rfl rfl rfl (e5 rfl (et rfl)) (et rfl) Try.underlying23 Try.underlying23 (z := .int .i64 0) (bytes := 8) (by kernel_rfl) rfl (by decide) (ow_at (hS43.chq 0 rfl hc43)) ones_i (by have h1 := hoF_len ws ((slT ws c).take k) t; have h2 := List.length_take_le k (slT ws c); simp only [List.length_singleton, List.length_cons, List.length_nil]; omega) (by have h1 := hoF_len ws ((slT ws c).take k) t; have h2 := List.length_take_le k (slT ws c); simp only [List.length_singleton, List.length_cons, List.length_nil]; omega) (fun v44 w44 c44 hc44 hS44 => ?_)
          replace hc44 : c44 = io .i64 v44 ((hoF ws ((slT ws c).take k) t) ++ [y38]) := hc44.trans (app_eq (by simp))
          replace hS44 : St w NoX [c43, c44, c_31] w44 := hS44
          refine W_v rfl rfl (V_asg rfl (et rfl)) ?_
          refine W_end ?_
          refine gen_Q (fun A45 hA45 => ?_)
          have hsz45 := szq hA45
          have hdf45 : A45.defers = [] := by rw [hA45]; simp only [df_put]; exact hdf40
          have l0_45 := lookE hA45 0 (e7 rfl (es rfl l0_40))
          have l2_45 := lookE hA45 2 (e7 rfl (es rfl l2_40))
          have l8_45 := lookE hA45 8 (e7 rfl (es rfl l8_40))
          have l10_45 := lookE hA45 10 (et rfl)
          have l11_45 := lookE hA45 11 (e7 rfl (es rfl l11_40))
          clear hA45 hsz40 hdf40 l0_40 l2_40 l8_40 l10_40 l11_40 l43_40
          have hS46 : St w NoX [c44, c_31] w44 := hS44.sel [1, 2] (by decide) rfl
          refine inb_n ?_
          refine then_n (hK36 _ _ ?_)
          clear hK36
          refine region_in ?_
          refine W_v rfl rfl (V_mov rfl l11_45) ?_
          refine W_v rfl rfl (V_add rfl (et rfl) rfl (by omega) (by omega)) ?_
          refine W_v rfl rfl (V_asg rfl (et rfl)) ?_
          refine W_end ?_
          refine gen_Q (fun A47 hA47 => ?_)
          have hsz47 := szq hA47
          have hdf47 : A47.defers = [] := by rw [hA47]; simp only [df_put]; exact hdf45
          have l0_47 := lookE hA47 0 (e2 rfl (es rfl l0_45))
          have l2_47 := lookE hA47 2 (e2 rfl (es rfl l2_45))
          have l8_47 := lookE hA47 8 (e2 rfl (es rfl l8_45))
          have l10_47 := lookE hA47 10 (e2 rfl (es rfl l10_45))
          have l11_47 := lookE hA47 11 (et rfl)
          clear hA47 hsz45 hdf45 l0_45 l2_45 l8_45 l10_45 l11_45
          refine then_n ⟨(slT ws c).length - (k + 1), by simp only [hm31]; omega, hsz47, hdf47, (k + 1), v44, rfl, (by omega), ((l11_47).trans (by first | rfl | (simp; done) | (congr 1; omega))), ((l10_47).trans (by first | rfl | (simp; done) | (congr 1; omega))), ((l0_47).trans l0_29.symm), ((l2_47).trans l2_29.symm), ((l8_47).trans l8_29.symm), (by have q0 : c44 = io .i64 v44 (hoF ws ((slT ws c).take (k + 1)) t) := hc44.trans ((congrArg (io .i64 _) (hoF_in hy38 (by omega)))); have q1 := hc_31; subst q0 q1; exact hS46)⟩
        · skip
          refine wp_skip ?_
          refine inb_n ?_
          refine then_n (hK36 _ _ ?_)
          clear hK36
          refine region_in ?_
          refine W_v rfl rfl (V_mov rfl l11_40) ?_
          refine W_v rfl rfl (V_add rfl (et rfl) rfl (by omega) (by omega)) ?_
          refine W_v rfl rfl (V_asg rfl (et rfl)) ?_
          refine W_end ?_
          refine gen_Q (fun A48 hA48 => ?_)
          have hsz48 := szq hA48
          have hdf48 : A48.defers = [] := by rw [hA48]; simp only [df_put]; exact hdf40
          have l0_48 := lookE hA48 0 (e2 rfl (es rfl l0_40))
          have l2_48 := lookE hA48 2 (e2 rfl (es rfl l2_40))
          have l8_48 := lookE hA48 8 (e2 rfl (es rfl l8_40))
          have l10_48 := lookE hA48 10 (e2 rfl (es rfl l10_40))
          have l11_48 := lookE hA48 11 (et rfl)
          clear hA48 hsz40 hdf40 l0_40 l2_40 l8_40 l10_40 l11_40 l43_40
          refine then_n ⟨(slT ws c).length - (k + 1), by simp only [hm31]; omega, hsz48, hdf48, (k + 1), bv, rfl, (by omega), ((l11_48).trans (by first | rfl | (simp; done) | (congr 1; omega))), ((l10_48).trans (by first | rfl | (simp; done) | (congr 1; omega))), ((l0_48).trans l0_29.symm), ((l2_48).trans l2_29.symm), ((l8_48).trans l8_29.symm), (by have q0 : c30_31 = io .i64 bv (hoF ws ((slT ws c).take (k + 1)) t) := hc30_31.trans ((congrArg (io .i64 _) (hoF_out hy38 (by omega)))); have q1 := hc_31; subst q0 q1; exact hS31)⟩
      · skip
        refine wp_exit ?_
        refine then_exit ?_
        refine then_exit ?_
        refine inb_hit ?_
        refine then_n (hK27 _ _ ?_)
        clear hK27
        refine wp_seq_k (fun K49 hK49 => ?_)
        refine region_in ?_
        refine W_v rfl rfl (V_mov rfl l10_34) ?_
        refine W_v rfl rfl (V_asg rfl (et rfl)) ?_
        refine W_v rfl rfl (V_asg rfl rfl) ?_
        refine W_end ?_
        refine gen_Q (fun A50 hA50 => ?_)
        have hsz50 := szq hA50
        have hdf50 : A50.defers = [] := by rw [hA50]; simp only [df_put]; exact hdf34
        have l6_50 := lookE hA50 6 (es rfl (et rfl))
        have l7_50 := lookE hA50 7 (et rfl)
        clear hA50 hsz34 hdf34 l0_34 l2_34 l8_34 l10_34 l11_34 l31_34
        have hS51 : St w NoX [c30_31] w31 := hS31.sel [0] (by decide) rfl
        refine then_n (hK49 _ _ ?_)
        clear hK49
        refine wp_ret ?_
        refine ret_in (results_2 Try.results19 (rv_tmp l6_50) (rv_tmp l7_50)) hdf50 ?_
        -- leaf TFF
        have hc : hoE ws c t = 0 := by unfold hoE; rw [if_neg (by omega), if_pos (by omega)]
        rw [hc]
        exact ⟨_, rfl, (hS51.fin1 0 rfl (hc30_31.trans (congrArg (io .i64 _) (by unfold hoT; rw [if_neg (by omega), ← hsl.1, List.take_of_length_le (by omega)]))))⟩
  · skip
    refine W_off rfl (wanted_f rfl rfl (et rfl) (ez rfl) rfl) ?_
    refine W_off rfl (wanted_f rfl rfl (es rfl (et rfl)) (ez rfl) rfl) ?_
    refine W_off rfl (wanted_f rfl rfl (e2 rfl (et rfl)) (ez rfl) rfl) ?_
    refine W_v rfl rfl (V_pickF rfl (e3 rfl (et rfl)) rfl) ?_
    refine W_end ?_
    refine gen_Q (fun A52 hA52 => ?_)
    have hsz52 := szq hA52
    have hdf52 : A52.defers = [] := by rw [hA52]; simp only [df_put]; exact hdf6
    have l0_52 := lookE hA52 0 (e6 rfl (es rfl l0_6))
    have l2_52 := lookE hA52 2 (e6 rfl (es rfl l2_6))
    have l8_52 := lookE hA52 8 (e6 rfl (es rfl l8_6))
    have l9_52 := lookE hA52 9 (e6 rfl (es rfl l9_6))
    have l24_52 := lookE hA52 24 (et rfl)
    clear hA52 hsz6 hdf6 l0_6 l2_6 l8_6 l9_6
    refine then_n (hK9 _ _ ?_)
    clear hK9
    refine cond_f l24_52 ?_
    refine wp_skip ?_
    refine then_n (hK8 _ _ ?_)
    clear hK8
    refine wp_seq_k (fun K53 hK53 => ?_)
    refine wp_seq_k (fun K54 hK54 => ?_)
    refine region_in ?_
    refine W_v rfl rfl (V_mov rfl l9_52) ?_
    refine W_v rfl rfl (V_neq rfl (et rfl) rfl) ?_
    refine W_end ?_
    refine gen_Q (fun A55 hA55 => ?_)
    have hsz55 := szq hA55
    have hdf55 : A55.defers = [] := by rw [hA55]; simp only [df_put]; exact hdf52
    have l0_55 := lookE hA55 0 (es rfl (es rfl l0_52))
    have l2_55 := lookE hA55 2 (es rfl (es rfl l2_52))
    have l8_55 := lookE hA55 8 (es rfl (es rfl l8_52))
    have l9_55 := lookE hA55 9 (es rfl (es rfl l9_52))
    have l26_55 := lookE hA55 26 (et rfl)
    clear hA55 hsz52 hdf52 l0_52 l2_52 l8_52 l9_52 l24_52
    refine then_n (hK54 _ _ ?_)
    clear hK54
    refine cond_sure l26_55 (by first | (simp [c10]; done) | exact decide_eq_true (by omega) | exact decide_eq_false (by omega)) ?_
    refine wp_seq_k (fun K56 hK56 => ?_)
    refine region_in ?_
    refine W_v rfl rfl (V_mov rfl l9_55) ?_
    refine W_v rfl rfl (V_asg rfl rfl) ?_
    refine W_v rfl rfl (V_asg rfl (es rfl (et rfl))) ?_
    refine W_end ?_
    refine gen_Q (fun A57 hA57 => ?_)
    have hsz57 := szq hA57
    have hdf57 : A57.defers = [] := by rw [hA57]; simp only [df_put]; exact hdf55
    have l6_57 := lookE hA57 6 (es rfl (et rfl))
    have l7_57 := lookE hA57 7 (et rfl)
    clear hA57 hsz55 hdf55 l0_55 l2_55 l8_55 l9_55 l26_55
    have hS58 : St w NoX [] w5 := hS7.sel [] (by decide) rfl
    refine then_n (hK56 _ _ ?_)
    clear hK56
    refine wp_ret ?_
    refine then_ret ?_
    refine ret_in (results_2 Try.results19 (rv_tmp l6_57) (rv_tmp l7_57)) hdf57 ?_
    -- leaf F
    obtain ⟨c59, hc59, hS59⟩ := hS58.pnil (s := 1)
    have hc : hoE ws c t = (slE ws c) := by unfold hoE; rw [if_pos (by omega)]
    rw [hc]
    exact ⟨_, rfl, (hS59.fin1 0 rfl (hc59.trans (by rw [show hoT ws c t = [] by unfold hoT; rw [if_pos (by omega)]] <;> rfl)))⟩

set_option maxHeartbeats 4000000 in
theorem qof_c {wv : Value} {ws : List Int} {cv : Value} {c : List Int} {t : Int} {w : World} (h_wv : Ro w NoX (il .u64 wv ws)) (h_cv : Ro w NoX (il .i64 cv c)) (hu : ∀ x ∈ ws, 0 ≤ x ∧ x ≤ 18446744073709551615) :
    Calls Try.prog 16 #[wv, .agg #[cv], .int .i64 t] w fun e w' => e = .returned (.tuple #[.int .i64 ((hoT ws c t).length : Int), .int .i64 (hoE ws c t)]) ∧ St w NoX [] w' := by
  refine calls_in 20 Try.func16 rfl rfl (by simp) (fun A0 hsz0 hdf0 hargs => ?_)
  have l0_0 := hargs 0 (wv) rfl
  have l1_0 := hargs 1 (.agg #[cv]) rfl
  have l2_0 := hargs 2 (.int .i64 t) rfl
  clear hargs; replace hsz0 : SzN A0 20 := ⟨hsz0⟩
  have hS := St.nil w
  have bh_wv := SlN.le (sl_SlN h_wv.at)
  have bh_cv := SlN.le (sl_SlN h_cv.at)
  refine wp_seq_k (fun K1 hK1 => ?_)
  refine region_in ?_
  refine W_boxS (zs := #[cv]) hS rfl rfl rfl l1_0 (by rfl) (fun g2 w2 c2 hc2 hS2 => ?_)
  replace hS2 : St w NoX [c2] w2 := hS2
  refine W_v rfl rfl (V_asg rfl rfl) ?_
  refine W_v rfl rfl (V_asg rfl rfl) ?_
  refine W_end ?_
  refine gen_Q (fun A3 hA3 => ?_)
  have hsz3 := szq hA3
  have hdf3 : A3.defers = [] := by rw [hA3]; simp only [df_put]; exact hdf0
  have l0_3 := lookE hA3 0 (e2 rfl (es rfl l0_0))
  have l2_3 := lookE hA3 2 (e2 rfl (es rfl l2_0))
  have l4_3 := lookE hA3 4 (e2 rfl (et rfl))
  clear hA3 hsz0 hdf0 l0_0 l1_0 l2_0
  refine then_n (hK1 _ _ ?_)
  clear hK1
  refine wp_seq_k (fun K4 hK4 => ?_)
  refine region_in ?_
  refine W_v rfl rfl (V_mov rfl l0_3) ?_
  refine W_r rfl rfl (VR_ldA rfl (es rfl l4_3) (hS2.obj 0 rfl hc2) Try.underlying25 rfl (by kernel_rfl)) ?_
  refine W_v rfl rfl (V_mov rfl (es rfl (es rfl l2_3))) ?_
  refine W_call rfl rfl rfl Try.func19 (by kernel_rfl) rfl (args3 (e2 rfl (et rfl)) (es rfl (et rfl)) (et rfl)) (qho_c (t := t) (hS2.roC h_wv) (hS2.roC h_cv) (by with_reducible assumption)) ?_
  rintro _ w5 ⟨v_5, rfl, hP5⟩
  refine ⟨_, rfl, ?_⟩
  obtain ⟨c_5, hc_5, hP5⟩ := gen1 hP5
  have hS5 := hS2.join hP5
  replace hS5 : St w NoX [c_5, c2] w5 := hS5
  refine W_v rfl rfl (V_mov rfl (et rfl)) ?_
  refine W_v rfl rfl (V_ext (v := v_5) rfl (et rfl) rfl) ?_
  refine W_v rfl rfl (V_ext (v := .int .i64 ((hoE ws c t))) rfl (es rfl (et rfl)) rfl) ?_
  refine W_v rfl rfl (V_asg rfl (es rfl (et rfl))) ?_
  refine W_v rfl rfl (V_asg rfl (es rfl (et rfl))) ?_
  refine W_end ?_
  refine gen_Q (fun A6 hA6 => ?_)
  have hsz6 := szq hA6
  have hdf6 : A6.defers = [] := by rw [hA6]; simp only [df_put]; exact hdf3
  have l8_6 := lookE hA6 8 (es rfl (et rfl))
  have l9_6 := lookE hA6 9 (et rfl)
  clear hA6 hsz3 hdf3 l0_3 l2_3 l4_3
  have hS7 : St w NoX [c_5] w5 := hS5.sel [0] (by decide) rfl
  refine then_n (hK4 _ _ ?_)
  clear hK4
  refine wp_seq_k (fun K8 hK8 => ?_)
  refine region_in ?_
  refine W_v rfl rfl (V_mov rfl l8_6) ?_
  refine W_v rfl rfl (V_lenS rfl (et rfl) (ow_at (hS7.chq 0 rfl hc_5)) Try.underlying23) ?_
  refine W_v rfl rfl (V_mov rfl (es rfl (es rfl l9_6))) ?_
  refine W_v rfl rfl (V_asg rfl (es rfl (et rfl))) ?_
  refine W_v rfl rfl (V_asg rfl (es rfl (et rfl))) ?_
  refine W_end ?_
  refine gen_Q (fun A9 hA9 => ?_)
  have hsz9 := szq hA9
  have hdf9 : A9.defers = [] := by rw [hA9]; simp only [df_put]; exact hdf6
  have l6_9 := lookE hA9 6 (es rfl (et rfl))
  have l7_9 := lookE hA9 7 (et rfl)
  clear hA9 hsz6 hdf6 l8_6 l9_6
  have hS10 : St w NoX [] w5 := hS7.sel [] (by decide) rfl
  refine then_n (hK8 _ _ ?_)
  clear hK8
  refine wp_ret ?_
  refine ret_in (results_2 Try.results16 (rv_tmp l6_9) (rv_tmp l7_9)) hdf9 ?_
  -- leaf 
  exact ⟨rfl, hS10.fin0⟩

set_option maxHeartbeats 4000000 in
theorem qct_c {wv : Value} {ws : List Int} {cv : Value} {c : List Int} {w : World} (h_wv : Ro w NoX (il .u64 wv ws)) (h_cv : Ro w NoX (il .i64 cv c)) (hu : ∀ x ∈ ws, 0 ≤ x ∧ x ≤ 18446744073709551615) :
    Calls Try.prog 14 #[wv, .agg #[cv]] w fun e w' => ∃ v, e = .returned (.tuple #[v, .int .i64 (slE ws c)]) ∧ St w NoX [ro 2 rcC (v) (coT ws c)] w' := by
  have hcb : ∀ k, (∀ x ∈ cnF ws ((slT ws c).take k), -4000000000000000000 ≤ x.2 ∧ x.2 ≤ 4000000000000000000) ∧ (cnF ws ((slT ws c).take k)).length ≤ 1000000000000 := cn_lim ws c
  refine calls_in 44 Try.func14 rfl rfl (by simp) (fun A0 hsz0 hdf0 hargs => ?_)
  have l0_0 := hargs 0 (wv) rfl
  have l1_0 := hargs 1 (.agg #[cv]) rfl
  clear hargs; replace hsz0 : SzN A0 44 := ⟨hsz0⟩
  have hS := St.nil w
  have bh_wv := SlN.le (sl_SlN h_wv.at)
  have bh_cv := SlN.le (sl_SlN h_cv.at)
  refine wp_seq_k (fun K1 hK1 => ?_)
  refine region_in ?_
  refine W_boxS (zs := #[cv]) hS rfl rfl rfl l1_0 (by rfl) (fun g2 w2 c2 hc2 hS2 => ?_)
  replace hS2 : St w NoX [c2] w2 := hS2
  refine W_v rfl rfl (V_asg rfl rfl) ?_
  refine W_v rfl rfl (V_asg rfl rfl) ?_
  refine W_end ?_
  refine gen_Q (fun A3 hA3 => ?_)
  have hsz3 := szq hA3
  have hdf3 : A3.defers = [] := by rw [hA3]; simp only [df_put]; exact hdf0
  have l0_3 := lookE hA3 0 (e2 rfl (es rfl l0_0))
  have l3_3 := lookE hA3 3 (e2 rfl (et rfl))
  clear hA3 hsz0 hdf0 l0_0 l1_0
  refine then_n (hK1 _ _ ?_)
  clear hK1
  refine wp_seq_k (fun K4 hK4 => ?_)
  refine region_in ?_
  refine W_v rfl rfl (V_mov rfl l0_3) ?_
  refine W_r rfl rfl (VR_ldA rfl (es rfl l3_3) (hS2.obj 0 rfl hc2) Try.underlying25 rfl (by kernel_rfl)) ?_
  refine W_call rfl rfl rfl Try.func39 (by kernel_rfl) rfl (args2 (es rfl (et rfl)) (et rfl)) (qsl_c (hS2.roC h_wv) (hS2.roC h_cv) ) ?_
  rintro _ w5 ⟨v_5, rfl, hP5⟩
  refine ⟨_, rfl, ?_⟩
  obtain ⟨c_5, hc_5, hP5⟩ := gen1 hP5
  have hS5 := hS2.join hP5
  replace hS5 : St w NoX [c_5, c2] w5 := hS5
  refine W_v rfl rfl (V_mov rfl (et rfl)) ?_
  refine W_v rfl rfl (V_ext (v := v_5) rfl (et rfl) rfl) ?_
  refine W_v rfl rfl (V_ext (v := .int .i64 ((slE ws c))) rfl (es rfl (et rfl)) rfl) ?_
  refine W_v rfl rfl (V_asg rfl (es rfl (et rfl))) ?_
  refine W_v rfl rfl (V_asg rfl (es rfl (et rfl))) ?_
  refine W_end ?_
  refine gen_Q (fun A6 hA6 => ?_)
  have hsz6 := szq hA6
  have hdf6 : A6.defers = [] := by rw [hA6]; simp only [df_put]; exact hdf3
  have l0_6 := lookE hA6 0 (e7 rfl (es rfl l0_3))
  have l6_6 := lookE hA6 6 (es rfl (et rfl))
  have l7_6 := lookE hA6 7 (et rfl)
  clear hA6 hsz3 hdf3 l0_3 l3_3
  have hS7 : St w NoX [c_5] w5 := hS5.sel [0] (by decide) rfl
  refine then_n (hK4 _ _ ?_)
  clear hK4
  refine wp_seq_k (fun K8 hK8 => ?_)
  refine wp_seq_k (fun K9 hK9 => ?_)
  refine region_in ?_
  refine W_v rfl rfl (V_mov rfl l7_6) ?_
  refine W_v rfl rfl (V_neq rfl (et rfl) rfl) ?_
  refine W_end ?_
  refine gen_Q (fun A10 hA10 => ?_)
  have hsz10 := szq hA10
  have hdf10 : A10.defers = [] := by rw [hA10]; simp only [df_put]; exact hdf6
  have l0_10 := lookE hA10 0 (es rfl (es rfl l0_6))
  have l6_10 := lookE hA10 6 (es rfl (es rfl l6_6))
  have l7_10 := lookE hA10 7 (es rfl (es rfl l7_6))
  have l17_10 := lookE hA10 17 (et rfl)
  clear hA10 hsz6 hdf6 l0_6 l6_6 l7_6
  refine then_n (hK9 _ _ ?_)
  clear hK9
  refine cond_dec l17_10 (fun c11 => ?_) (fun c11 => ?_)
  · skip
    refine wp_seq_k (fun K12 hK12 => ?_)
    refine region_in ?_
    refine W_v rfl rfl (V_mov rfl l7_10) ?_
    refine W_v rfl rfl (V_asg rfl rfl) ?_
    refine W_v rfl rfl (V_asg rfl (es rfl (et rfl))) ?_
    refine W_end ?_
    refine gen_Q (fun A13 hA13 => ?_)
    have hsz13 := szq hA13
    have hdf13 : A13.defers = [] := by rw [hA13]; simp only [df_put]; exact hdf10
    have l4_13 := lookE hA13 4 (es rfl (et rfl))
    have l5_13 := lookE hA13 5 (et rfl)
    clear hA13 hsz10 hdf10 l0_10 l6_10 l7_10 l17_10
    have hS14 : St w NoX [] w5 := hS7.sel [] (by decide) rfl
    refine then_n (hK12 _ _ ?_)
    clear hK12
    refine wp_ret ?_
    refine then_ret ?_
    refine ret_in (results_2 Try.results14 (rv_tmp l4_13) (rv_tmp l5_13)) hdf13 ?_
    -- leaf T
    obtain ⟨c15, hc15, hS15⟩ := hS14.pnil (s := 2)
    exact ⟨_, rfl, (hS15.fin1 0 rfl (hc15.trans (by rw [show coT ws c = [] by unfold coT; rw [if_pos (by omega)]] <;> rfl)))⟩
  · skip
    have hsl := slE_zero (ws := ws) (c := c) (by omega)
    have hll := slT_len ws c
    refine wp_skip ?_
    refine then_n (hK8 _ _ ?_)
    clear hK8
    refine wp_seq_k (fun K16 hK16 => ?_)
    refine region_in ?_
    refine W_v rfl rfl (V_asg rfl rfl) ?_
    refine W_end ?_
    refine gen_Q (fun A17 hA17 => ?_)
    have hsz17 := szq hA17
    have hdf17 : A17.defers = [] := by rw [hA17]; simp only [df_put]; exact hdf10
    have l0_17 := lookE hA17 0 (es rfl l0_10)
    have l6_17 := lookE hA17 6 (es rfl l6_10)
    have l8_17 := lookE hA17 8 (et rfl)
    clear hA17 hsz10 hdf10 l0_10 l6_10 l7_10 l17_10
    refine then_n (hK16 _ _ ?_)
    clear hK16
    refine wp_seq_k (fun K18 hK18 => ?_)
    refine wp_seq_k (fun K19 hK19 => ?_)
    refine region_in ?_
    refine W_v rfl rfl (V_asg rfl rfl) ?_
    refine W_end ?_
    refine gen_Q (fun A20 hA20 => ?_)
    have hsz20 := szq hA20
    have hdf20 : A20.defers = [] := by rw [hA20]; simp only [df_put]; exact hdf17
    have l0_20 := lookE hA20 0 (es rfl l0_17)
    have l6_20 := lookE hA20 6 (es rfl l6_17)
    have l8_20 := lookE hA20 8 (es rfl l8_17)
    have l9_20 := lookE hA20 9 (et rfl)
    clear hA20 hsz17 hdf17 l0_17 l6_17 l8_17
    refine then_n (hK19 _ _ ?_)
    clear hK19
    refine wp_block ?_
    obtain ⟨c21, hc21, hS21⟩ := hS7.pnil (s := 2)
    -- loop 6
    refine loopX (fun mz A' w' => SzN A' 44 ∧ A'.defers = [] ∧ (∃ (k : Nat) (bv : Value), (mz = (slT ws c).length - k) ∧ (k ≤ (slT ws c).length) ∧ (EV A' (.tmp 9) = .int .i64 (k : Int)) ∧ (EV A' (.tmp 8) = bv) ∧ (EV A' (.tmp 0) = EV A20 (.tmp 0)) ∧ (EV A' (.tmp 6) = EV A20 (.tmp 6)) ∧ (St w NoX [ro 2 rcC bv (cnF ws ((slT ws c).take k)), io .i64 v_5 (slT ws c)] w'))) ((slT ws c).length - 0) ⟨hsz20, hdf20, 0, (.slice none 0 0), rfl, (by omega), ((l9_20).trans (by first | rfl | (simp; done) | (congr 1; omega))), ((l8_20).trans (by first | rfl | (simp; done) | (congr 1; omega))), rfl, rfl, (by have q0 : c21 = ro 2 rcC (.slice none 0 0) (cnF ws ((slT ws c).take 0)) := hc21.trans (rfl); have q1 := hc_5; subst q0 q1; exact hS21)⟩ ?_
    clear hS21 hc21 hc_5
    rintro n22 A22 w22 ⟨hsz22, hdf22, k, bv, hm22, hk, l9_22, l8_22, u0_22, u6_22, hS22⟩
    have l0_22 := u0_22.trans l0_20
    have l6_22 := u6_22.trans l6_20
    obtain ⟨c21_22, c_22, hc21_22, hc_22, hS22⟩ := gen2 hS22
    refine wp_seq_k (fun K23 hK23 => ?_)
    refine wp_seq_k (fun K24 hK24 => ?_)
    refine region_in ?_
    refine W_v rfl rfl (V_mov rfl l9_22) ?_
    refine W_v rfl rfl (V_mov rfl (es rfl l6_22)) ?_
    refine W_v rfl rfl (V_lenS rfl (et rfl) (ow_at (hS22.chq 1 rfl hc_22)) Try.underlying23) ?_
    refine W_v rfl rfl (V_lss rfl (e2 rfl (et rfl)) (et rfl)) ?_
    refine W_end ?_
    refine gen_Q (fun A25 hA25 => ?_)
    have hsz25 := szq hA25
    have hdf25 : A25.defers = [] := by rw [hA25]; simp only [df_put]; exact hdf22
    have l0_25 := lookE hA25 0 (e3 rfl (es rfl l0_22))
    have l6_25 := lookE hA25 6 (e3 rfl (es rfl l6_22))
    have l8_25 := lookE hA25 8 (e3 rfl (es rfl l8_22))
    have l9_25 := lookE hA25 9 (e3 rfl (es rfl l9_22))
    have l22_25 := lookE hA25 22 (et rfl)
    clear hA25 hsz22 hdf22 l9_22 l8_22 l0_22 l6_22
    refine then_n (hK24 _ _ ?_)
    clear hK24
    refine cond_dec l22_25 (fun c26 => ?_) (fun c26 => ?_)
    · skip
      refine wp_skip ?_
      refine then_n (hK23 _ _ ?_)
      clear hK23
      refine wp_seq_k (fun K27 hK27 => ?_)
      refine wp_block ?_
      refine wp_seq_k (fun K28 hK28 => ?_)
      refine region_in ?_
      refine W_v rfl rfl (V_mov rfl l0_25) ?_
      refine W_v rfl rfl (V_mov rfl (es rfl l6_25)) ?_
      refine W_v rfl rfl (V_mov rfl (es rfl (es rfl l9_25))) ?_
      have k29 : k < (slT ws c).length := by first | omega | (simp only [List.length_cons, List.length_nil]; omega) | (simp only [List.length_set]; omega) | decide
      obtain ⟨y29, hy29⟩ := get_some (xs := (slT ws c)) (k := k) k29
      have hr29 := hsl.2.2.2 _ (List.mem_of_getElem? hy29)
      have hwb29 := wA_at (ws := ws) (a := y29) (List.getElem?_eq_getElem (show y29.toNat < ws.length by omega))
      obtain ⟨B29, O29, C29, hv29⟩ := (SlN.blk (ow_at (hS22.chq 1 rfl hc_22)) (by first | omega | (simp only [List.length_cons, List.length_nil]; omega) | (simp only [List.length_set]; omega) | decide))
      refine W_v rfl rfl (V_ixS (off := O29 + k) 1 (k) rfl (es rfl (et rfl)) (et rfl) hv29 (by omega) k29 Try.underlying23 (by kernel_rfl) (congrArg _ (Nat.mul_one _))) ?_
      refine W_r rfl rfl (VR_ldC rfl (et rfl) ((ow_at (hS22.chq 1 rfl hc_22)).cell hv29 (map_get hy29)) Try.underlying3 rfl) ?_
      have k30 : y29.toNat < ws.length := by first | omega | (simp only [List.length_cons, List.length_nil]; omega) | (simp only [List.length_set]; omega) | decide
      obtain ⟨y30, hy30⟩ := get_some (xs := ws) (k := y29.toNat) k30
      have hwa30 := wA_at hy30
      have hwu30 := hu _ (List.mem_of_getElem? hy30)
      obtain ⟨B30, O30, C30, hv30⟩ := (SlN.blk (sl_SlN h_wv.at) (by first | omega | (simp only [List.length_cons, List.length_nil]; omega) | (simp only [List.length_set]; omega) | decide))
      refine W_v rfl rfl (V_ixS (off := O30 + y29.toNat) 1 (y29.toNat) rfl (e4 rfl (et rfl)) (et rfl) hv30 (by omega) k30 Try.underlying22 (by kernel_rfl) (congrArg _ (Nat.mul_one _))) ?_
      refine W_r rfl rfl (VR_ldC rfl (et rfl) ((sl_SlN (hS22.ro h_wv)).cell hv30 (map_get hy30)) Try.underlying40 rfl) ?_
      refine W_v rfl rfl (V_neq rfl (et rfl) rfl) ?_
      refine W_end ?_
      refine gen_Q (fun A31 hA31 => ?_)
      have hsz31 := szq hA31
      have hdf31 : A31.defers = [] := by rw [hA31]; simp only [df_put]; exact hdf25
      have l0_31 := lookE hA31 0 (e7 rfl (es rfl l0_25))
      have l6_31 := lookE hA31 6 (e7 rfl (es rfl l6_25))
      have l8_31 := lookE hA31 8 (e7 rfl (es rfl l8_25))
      have l9_31 := lookE hA31 9 (e7 rfl (es rfl l9_25))
      have l32_31 := lookE hA31 32 (et rfl)
      clear hA31 hsz25 hdf25 l0_25 l6_25 l8_25 l9_25 l22_25
      refine then_n (hK28 _ _ ?_)
      clear hK28
      refine cond_dec l32_31 (fun c32 => ?_) (fun c32 => ?_)
      · skip
        refine region_in ?_
        refine W_v rfl rfl (V_mov rfl l8_31) ?_
        refine W_v rfl rfl (V_mov rfl (es rfl l0_31)) ?_
        refine W_v rfl rfl (V_mov rfl (es rfl (es rfl l6_31))) ?_
        refine W_v rfl rfl (V_mov rfl (e2 rfl (es rfl l9_31))) ?_
        refine W_v rfl rfl (V_ixS (off := O29 + k) 1 (k) rfl (es rfl (et rfl)) (et rfl) hv29 (by omega) k29 Try.underlying23 (by kernel_rfl) (congrArg _ (Nat.mul_one _))) ?_
        refine W_r rfl rfl (VR_ldC rfl (et rfl) ((ow_at (hS22.chq 1 rfl hc_22)).cell hv29 (map_get hy29)) Try.underlying3 rfl) ?_
        refine W_v rfl rfl (V_ixS (off := O30 + y29.toNat) 1 (y29.toNat) rfl (e4 rfl (et rfl)) (et rfl) hv30 (by omega) k30 Try.underlying22 (by kernel_rfl) (congrArg _ (Nat.mul_one _))) ?_
        refine W_r rfl rfl (VR_ldC rfl (et rfl) ((sl_SlN (hS22.ro h_wv)).cell hv30 (map_get hy30)) Try.underlying40 rfl) ?_
        refine W_v rfl rfl (V_cvt rfl (et rfl) Try.underlying40 Try.underlying3 (wrap_i64 (by omega) (by omega))) ?_
        refine W_call rfl rfl rfl Try.func40 (by kernel_rfl) rfl (args3 (e8 rfl (et rfl)) (et rfl) rfl) (qpl_c (t := y30) (n := 1) (hS22.chC 0 rfl hc21_22).own (by first | with_reducible assumption | with_reducible exact (hcb _).2 | omega) (by first | with_reducible assumption | with_reducible exact (hcb _).1) (by first | omega | with_reducible assumption)) ?_
        rintro _ w35 ⟨v_35, rfl, hP35⟩
        refine ⟨_, rfl, ?_⟩
        obtain ⟨c_35, hc_35, hP35⟩ := gen1 hP35
        have hS35 := hS22.join hP35
        replace hS35 : St w NoX [c_35, c21_22, c_22] w35 := hS35
        refine W_v rfl rfl (V_asg rfl (et rfl)) ?_
        refine W_end ?_
        refine gen_Q (fun A36 hA36 => ?_)
        have hsz36 := szq hA36
        have hdf36 : A36.defers = [] := by rw [hA36]; simp only [df_put]; exact hdf31
        have l0_36 := lookE hA36 0 (e10 rfl (es rfl l0_31))
        have l6_36 := lookE hA36 6 (e10 rfl (es rfl l6_31))
        have l8_36 := lookE hA36 8 (et rfl)
        have l9_36 := lookE hA36 9 (e10 rfl (es rfl l9_31))
        clear hA36 hsz31 hdf31 l0_31 l6_31 l8_31 l9_31 l32_31
        have hS37 : St w NoX [c_35, c_22] w35 := hS35.sel [0, 2] (by decide) rfl
        refine inb_n ?_
        refine then_n (hK27 _ _ ?_)
        clear hK27
        refine region_in ?_
        refine W_v rfl rfl (V_mov rfl l9_36) ?_
        refine W_v rfl rfl (V_add rfl (et rfl) rfl (by omega) (by omega)) ?_
        refine W_v rfl rfl (V_asg rfl (et rfl)) ?_
        refine W_end ?_
        refine gen_Q (fun A38 hA38 => ?_)
        have hsz38 := szq hA38
        have hdf38 : A38.defers = [] := by rw [hA38]; simp only [df_put]; exact hdf36
        have l0_38 := lookE hA38 0 (e2 rfl (es rfl l0_36))
        have l6_38 := lookE hA38 6 (e2 rfl (es rfl l6_36))
        have l8_38 := lookE hA38 8 (e2 rfl (es rfl l8_36))
        have l9_38 := lookE hA38 9 (et rfl)
        clear hA38 hsz36 hdf36 l0_36 l6_36 l8_36 l9_36
        refine then_n ⟨(slT ws c).length - (k + 1), by simp only [hm22]; omega, hsz38, hdf38, (k + 1), v_35, rfl, (by omega), ((l9_38).trans (by first | rfl | (simp; done) | (congr 1; omega))), ((l8_38).trans (by first | rfl | (simp; done) | (congr 1; omega))), ((l0_38).trans l0_20.symm), ((l6_38).trans l6_20.symm), (by have q0 : c_35 = ro 2 rcC v_35 (cnF ws ((slT ws c).take (k + 1))) := hc_35.trans ((congrArg (ro 2 rcC _) (cnF_inw hy29 hwa30 (by omega)))); have q1 := hc_22; subst q0 q1; exact hS37)⟩
      · skip
        refine wp_skip ?_
        refine inb_n ?_
        refine then_n (hK27 _ _ ?_)
        clear hK27
        refine region_in ?_
        refine W_v rfl rfl (V_mov rfl l9_31) ?_
        refine W_v rfl rfl (V_add rfl (et rfl) rfl (by omega) (by omega)) ?_
        refine W_v rfl rfl (V_asg rfl (et rfl)) ?_
        refine W_end ?_
        refine gen_Q (fun A39 hA39 => ?_)
        have hsz39 := szq hA39
        have hdf39 : A39.defers = [] := by rw [hA39]; simp only [df_put]; exact hdf31
        have l0_39 := lookE hA39 0 (e2 rfl (es rfl l0_31))
        have l6_39 := lookE hA39 6 (e2 rfl (es rfl l6_31))
        have l8_39 := lookE hA39 8 (e2 rfl (es rfl l8_31))
        have l9_39 := lookE hA39 9 (et rfl)
        clear hA39 hsz31 hdf31 l0_31 l6_31 l8_31 l9_31 l32_31
        refine then_n ⟨(slT ws c).length - (k + 1), by simp only [hm22]; omega, hsz39, hdf39, (k + 1), bv, rfl, (by omega), ((l9_39).trans (by first | rfl | (simp; done) | (congr 1; omega))), ((l8_39).trans (by first | rfl | (simp; done) | (congr 1; omega))), ((l0_39).trans l0_20.symm), ((l6_39).trans l6_20.symm), (by have q0 : c21_22 = ro 2 rcC bv (cnF ws ((slT ws c).take (k + 1))) := hc21_22.trans ((congrArg (ro 2 rcC _) (cnF_outw hy29 hwa30 (by omega)))); have q1 := hc_22; subst q0 q1; exact hS22)⟩
    · skip
      refine wp_exit ?_
      refine then_exit ?_
      refine then_exit ?_
      refine inb_hit ?_
      refine then_n (hK18 _ _ ?_)
      clear hK18
      refine wp_seq_k (fun K40 hK40 => ?_)
      refine region_in ?_
      refine W_v rfl rfl (V_mov rfl l8_25) ?_
      refine W_v rfl rfl (V_asg rfl (et rfl)) ?_
      refine W_v rfl rfl (V_asg rfl rfl) ?_
      refine W_end ?_
      refine gen_Q (fun A41 hA41 => ?_)
      have hsz41 := szq hA41
      have hdf41 : A41.defers = [] := by rw [hA41]; simp only [df_put]; exact hdf25
      have l4_41 := lookE hA41 4 (es rfl (et rfl))
      have l5_41 := lookE hA41 5 (et rfl)
      clear hA41 hsz25 hdf25 l0_25 l6_25 l8_25 l9_25 l22_25
      have hS42 : St w NoX [c21_22] w22 := hS22.sel [0] (by decide) rfl
      refine then_n (hK40 _ _ ?_)
      clear hK40
      refine wp_ret ?_
      refine ret_in (results_2 Try.results14 (rv_tmp l4_41) (rv_tmp l5_41)) hdf41 ?_
      -- leaf FF
      have hc : slE ws c = 0 := by omega
      rw [hc]
      exact ⟨_, rfl, (hS42.fin1 0 rfl (hc21_22.trans (congrArg (ro 2 rcC _) (by unfold coT; rw [if_neg (by omega), ← hsl.1, List.take_of_length_le (by omega)]))))⟩

end Go.Proofs.Ytnfgeekaeegolaa