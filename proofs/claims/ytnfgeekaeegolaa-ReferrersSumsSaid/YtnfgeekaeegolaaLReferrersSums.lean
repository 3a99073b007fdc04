import Derived.Test.YtnfgeekaeegolaaProg
import Derived.Test.YtnfgeekaeegolaaRd4
import Derived.Test.YtnfgeekaeegolaaRe6
import Derived.Test.YtnfgeekaeegolaaPl9p
namespace Go.Proofs.Ytnfgeekaeegolaa
open Go.RowKit Go.Own Go.Own.R Go.Own.S Go.Own.F


set_option maxHeartbeats 4000000 in
theorem ReferrersSums_c {wv : Value} {ws : List Int} {cv : Value} {c : List Int} {w : World} (h_wv : Ro w NoX (il .u64 wv ws)) (h_cv : Ro w NoX (il .i64 cv c)) (hu : ∀ x ∈ ws, 0 ≤ x ∧ x ≤ 18446744073709551615) :
    Calls Try.prog 4 #[wv, .agg #[cv]] w fun e w' => e = .returned (.bool true) ∧ St w NoX [] w' := by
  refine calls_in 194 Try.func4 rfl rfl (by simp) (fun A0 hsz0 hdf0 hargs => ?_)
  have l0_0 := hargs 0 (wv) rfl
  have l1_0 := hargs 1 (.agg #[cv]) rfl
  clear hargs; replace hsz0 : SzN A0 194 := ⟨hsz0⟩
  have hS := St.nil w
  have bh_wv := SlN.le (sl_SlN h_wv.at)
  have bh_cv := SlN.le (sl_SlN h_cv.at)
  refine wp_seq_k (fun K1 hK1 => ?_)
  refine region_in ?_
  refine W_boxS (zs := #[cv]) hS rfl rfl rfl l1_0 (by rfl) (fun g2 w2 c2 hc2 hS2 => ?_)
  replace hS2 : St w NoX [c2] w2 := hS2
  refine W_v rfl rfl (V_asg rfl rfl) ?_
  refine W_end ?_
  refine gen_Q (fun A3 hA3 => ?_)
  have hsz3 := szq hA3
  have hdf3 : A3.defers = [] := by rw [hA3]; simp only [df_put]; exact hdf0
  have l0_3 := lookE hA3 0 (es rfl (es rfl l0_0))
  have l3_3 := lookE hA3 3 (es rfl (et rfl))
  clear hA3 hsz0 hdf0 l0_0 l1_0
  refine then_n (hK1 _ _ ?_)
  clear hK1
  refine wp_seq_k (fun K4 hK4 => ?_)
  refine wp_seq_k (fun K5 hK5 => ?_)
  refine region_in ?_
  refine W_v rfl rfl (V_mov rfl l0_3) ?_
  refine W_r rfl rfl (VR_ldA rfl (es rfl l3_3) (hS2.obj 0 rfl hc2) Try.underlying25 rfl (by kernel_rfl)) ?_
  refine W_call rfl rfl rfl Try.func11 (by kernel_rfl) rfl (args2 (es rfl (et rfl)) (et rfl)) (far9_c (hS2.roC h_wv) (hS2.roC h_cv) ) ?_
  rintro _ w6 ⟨rfl, hP6⟩
  refine ⟨_, rfl, ?_⟩
  have hS6 := hS2.join hP6
  replace hS6 : St w NoX [c2] w6 := hS6
  refine W_end ?_
  refine gen_Q (fun A7 hA7 => ?_)
  have hsz7 := szq hA7
  have hdf7 : A7.defers = [] := by rw [hA7]; simp only [df_put]; exact hdf3
  have l0_7 := lookE hA7 0 (e2 rfl (es rfl l0_3))
  have l3_7 := lookE hA7 3 (e2 rfl (es rfl l3_3))
  have l19_7 := lookE hA7 19 (et rfl)
  clear hA7 hsz3 hdf3 l0_3 l3_3
  refine then_n (hK5 _ _ ?_)
  clear hK5
  refine cond_dec l19_7 (fun c8 => ?_) (fun c8 => ?_)
  · skip
    refine wp_seq_k (fun K9 hK9 => ?_)
    refine region_in ?_
    refine W_call rfl rfl rfl Try.func12 (by kernel_rfl) rfl (args0) (awk_c  ) ?_
    rintro _ w10 ⟨rfl, hP10⟩
    refine ⟨_, rfl, ?_⟩
    have hS10 := hS6.join hP10
    replace hS10 : St w NoX [c2] w10 := hS10
    refine W_v rfl rfl (V_asg rfl (et rfl)) ?_
    refine W_end ?_
    refine gen_Q (fun A11 hA11 => ?_)
    have hsz11 := szq hA11
    have hdf11 : A11.defers = [] := by rw [hA11]; simp only [df_put]; exact hdf7
    have l4_11 := lookE hA11 4 (et rfl)
    clear hA11 hsz7 hdf7 l0_7 l3_7 l19_7
    have hS12 : St w NoX [] w10 := hS10.sel [] (by decide) rfl
    refine then_n (hK9 _ _ ?_)
    clear hK9
    refine wp_ret ?_
    refine then_ret ?_
    refine ret_in (results_1 Try.results4 (rv_tmp l4_11)) hdf11 ?_
    -- leaf T
    exact ⟨rfl, hS12.fin0⟩
  · skip
    refine wp_skip ?_
    refine then_n (hK4 _ _ ?_)
    clear hK4
    refine wp_seq_k (fun K13 hK13 => ?_)
    refine region_in ?_
    refine W_v rfl rfl (V_mov rfl l0_7) ?_
    refine W_r rfl rfl (VR_ldA rfl (es rfl l3_7) (hS6.obj 0 rfl hc2) Try.underlying25 rfl (by kernel_rfl)) ?_
    refine W_call rfl rfl rfl Try.func13 (by kernel_rfl) rfl (args2 (es rfl (et rfl)) (et rfl)) (kct_c (hS6.roC h_wv) (hS6.roC h_cv) (by with_reducible assumption)) ?_
    rintro _ w14 ⟨v_14, rfl, hP14⟩
    refine ⟨_, rfl, ?_⟩
    obtain ⟨c_14, hc_14, hP14⟩ := gen1 hP14
    have hS14 := hS6.join hP14
    replace hS14 : St w NoX [c_14, c2] w14 := hS14
    refine W_v rfl rfl (V_mov rfl (et rfl)) ?_
    refine W_v rfl rfl (V_ext (v := v_14) rfl (et rfl) rfl) ?_
    refine W_v rfl rfl (V_ext (v := .int .i64 ((slE ws c))) rfl (es rfl (et rfl)) rfl) ?_
    refine W_v rfl rfl (V_asg rfl (es rfl (et rfl))) ?_
    refine W_v rfl rfl (V_asg rfl (es rfl (et rfl))) ?_
    refine W_end ?_
    refine gen_Q (fun A15 hA15 => ?_)
    have hsz15 := szq hA15
    have hdf15 : A15.defers = [] := by rw [hA15]; simp only [df_put]; exact hdf7
    have l0_15 := lookE hA15 0 (e7 rfl (es rfl l0_7))
    have l3_15 := lookE hA15 3 (e7 rfl (es rfl l3_7))
    have l5_15 := lookE hA15 5 (es rfl (et rfl))
    have l6_15 := lookE hA15 6 (et rfl)
    clear hA15 hsz7 hdf7 l0_7 l3_7 l19_7
    refine then_n (hK13 _ _ ?_)
    clear hK13
    refine wp_seq_k (fun K16 hK16 => ?_)
    refine wp_seq_k (fun K17 hK17 => ?_)
    refine region_in ?_
    refine W_v rfl rfl (V_mov rfl l6_15) ?_
    refine W_v rfl rfl (V_neq rfl (et rfl) rfl) ?_
    refine W_end ?_
    refine gen_Q (fun A18 hA18 => ?_)
    have hsz18 := szq hA18
    have hdf18 : A18.defers = [] := by rw [hA18]; simp only [df_put]; exact hdf15
    have l0_18 := lookE hA18 0 (es rfl (es rfl l0_15))
    have l3_18 := lookE hA18 3 (es rfl (es rfl l3_15))
    have l5_18 := lookE hA18 5 (es rfl (es rfl l5_15))
    have l28_18 := lookE hA18 28 (et rfl)
    clear hA18 hsz15 hdf15 l0_15 l3_15 l5_15 l6_15
    refine then_n (hK17 _ _ ?_)
    clear hK17
    refine cond_dec l28_18 (fun c19 => ?_) (fun c19 => ?_)
    · skip
      refine wp_seq_k (fun K20 hK20 => ?_)
      refine region_in ?_
      refine W_v rfl rfl (V_mov rfl l5_18) ?_
      refine W_v rfl rfl (V_lenS rfl (et rfl) (ow_at (hS14.chq 0 rfl hc_14)) Try.underlying28) ?_
      refine W_v rfl rfl (V_eql rfl (et rfl) rfl) ?_
      refine W_sure (c' := true) rfl rfl (V_mov rfl (et rfl)) (by rw [decide_eq_true_eq]; unfold coT; rw [if_pos (by omega)]; rfl) ?_
      refine W_call rfl (wanted_t rfl rfl (et rfl) (ez rfl)) rfl Try.func12 (by kernel_rfl) rfl (args0) (awk_c  ) ?_
      rintro _ w21 ⟨rfl, hP21⟩
      refine ⟨_, rfl, ?_⟩
      have hS21 := hS14.join hP21
      replace hS21 : St w NoX [c_14, c2] w21 := hS21
      refine W_v rfl rfl (V_pickT rfl (es rfl (et rfl)) (et rfl)) ?_
      refine W_v rfl rfl (V_asg rfl (et rfl)) ?_
      refine W_end ?_
      refine gen_Q (fun A22 hA22 => ?_)
      have hsz22 := szq hA22
      have hdf22 : A22.defers = [] := by rw [hA22]; simp only [df_put]; exact hdf18
      have l4_22 := lookE hA22 4 (et rfl)
      clear hA22 hsz18 hdf18 l0_18 l3_18 l5_18 l28_18
      have hS23 : St w NoX [] w21 := hS21.sel [] (by decide) rfl
      refine then_n (hK20 _ _ ?_)
      clear hK20
      refine wp_ret ?_
      refine then_ret ?_
      refine ret_in (results_1 Try.results4 (rv_tmp l4_22)) hdf22 ?_
      -- leaf FT
      exact ⟨rfl, hS23.fin0⟩
    · skip
      have hsl : slE ws c = 0 := by omega
      have hwn := wA_nn hu
      have hz := slE_zero hsl
      have hz4 := hz.2.2.2
      rw [hz.1] at hz4
      have hlen := Go.Own.F.lsT_len c
      have hcl := co_len ws c
      have hnza := nz_all ws c
      refine wp_skip ?_
      refine then_n (hK16 _ _ ?_)
      clear hK16
      refine wp_seq_k (fun K24 hK24 => ?_)
      refine region_in ?_
      refine W_r rfl rfl (VR_ldA rfl l3_18 (hS14.obj 1 rfl hc2) Try.underlying25 rfl (by kernel_rfl)) ?_
      refine W_call rfl rfl rfl Try.func21 (by kernel_rfl) rfl (args1 (et rfl)) (qList_c (hS14.roC h_cv) ) ?_
      rintro _ w25 ⟨v_25, rfl, hP25⟩
      refine ⟨_, rfl, ?_⟩
      obtain ⟨c_25, hc_25, hP25⟩ := gen1 hP25
      have hS25 := hS14.join hP25
      replace hS25 : St w NoX [c_25, c_14, c2] w25 := hS25
      refine W_v rfl rfl (V_mov rfl (et rfl)) ?_
      refine W_v rfl rfl (V_ext (v := v_25) rfl (et rfl) rfl) ?_
      refine W_v rfl rfl (V_ext (v := .int .i64 ((ckS c).2)) rfl (es rfl (et rfl)) rfl) ?_
      refine W_v rfl rfl (V_asg rfl (es rfl (et rfl))) ?_
      refine W_v rfl rfl (V_asg rfl (es rfl (et rfl))) ?_
      refine W_end ?_
      refine gen_Q (fun A26 hA26 => ?_)
      have hsz26 := szq hA26
      have hdf26 : A26.defers = [] := by rw [hA26]; simp only [df_put]; exact hdf18
      have l0_26 := lookE hA26 0 (e6 rfl (es rfl l0_18))
      have l3_26 := lookE hA26 3 (e6 rfl (es rfl l3_18))
      have l5_26 := lookE hA26 5 (e6 rfl (es rfl l5_18))
      have l7_26 := lookE hA26 7 (es rfl (et rfl))
      clear hA26 hsz18 hdf18 l0_18 l3_18 l5_18 l28_18
      refine then_n (hK24 _ _ ?_)
      clear hK24
      refine wp_seq_k (fun K27 hK27 => ?_)
      refine region_in ?_
      refine W_v rfl rfl (V_asg rfl rfl) ?_
      refine W_end ?_
      refine gen_Q (fun A28 hA28 => ?_)
      have hsz28 := szq hA28
      have hdf28 : A28.defers = [] := by rw [hA28]; simp only [df_put]; exact hdf26
      have l0_28 := lookE hA28 0 (es rfl l0_26)
      have l3_28 := lookE hA28 3 (es rfl l3_26)
      have l5_28 := lookE hA28 5 (es rfl l5_26)
      have l7_28 := lookE hA28 7 (es rfl l7_26)
      have l9_28 := lookE hA28 9 (et rfl)
      clear hA28 hsz26 hdf26 l0_26 l3_26 l5_26 l7_26
      refine then_n (hK27 _ _ ?_)
      clear hK27
      refine wp_seq_k (fun K29 hK29 => ?_)
      refine wp_seq_k (fun K30 hK30 => ?_)
      refine region_in ?_
      refine W_v rfl rfl (V_asg rfl rfl) ?_
      refine W_end ?_
      refine gen_Q (fun A31 hA31 => ?_)
      have hsz31 := szq hA31
      have hdf31 : A31.defers = [] := by rw [hA31]; simp only [df_put]; exact hdf28
      have l0_31 := lookE hA31 0 (es rfl l0_28)
      have l3_31 := lookE hA31 3 (es rfl l3_28)
      have l5_31 := lookE hA31 5 (es rfl l5_28)
      have l7_31 := lookE hA31 7 (es rfl l7_28)
      have l9_31 := lookE hA31 9 (es rfl l9_28)
      have l10_31 := lookE hA31 10 (et rfl)
      clear hA31 hsz28 hdf28 l0_28 l3_28 l5_28 l7_28 l9_28
      refine then_n (hK30 _ _ ?_)
      clear hK30
      refine wp_block ?_
      -- loop 9
      refine loopX (fun mz A' w' => SzN A' 194 ∧ A'.defers = [] ∧ (∃ (k : Nat), (mz = (lsT c).length - k) ∧ (k ≤ (lsT c).length) ∧ (EV A' (.tmp 10) = .int .i64 (k : Int)) ∧ (EV A' (.tmp 9) = .int .i64 (nzF ws ((lsT c).take k))) ∧ (EV A' (.tmp 0) = EV A31 (.tmp 0)) ∧ (EV A' (.tmp 3) = EV A31 (.tmp 3)) ∧ (EV A' (.tmp 5) = EV A31 (.tmp 5)) ∧ (EV A' (.tmp 7) = EV A31 (.tmp 7)) ∧ (St w NoX [io .i64 v_25 (lsT c), ro 2 rcC v_14 (coT ws c), bx g2 25 #[cv]] w'))) ((lsT c).length - 0) ⟨hsz31, hdf31, 0, rfl, (by omega), ((l10_31).trans (by first | rfl | (simp; done) | (congr 1; omega))), ((l9_31).trans ((by rw [List.take_zero]; rfl))), rfl, rfl, rfl, rfl, (by subst hc_25 hc_14 hc2; exact hS25)⟩ ?_
      clear hS25 hc_25 hc_14 hc2
      rintro n32 A32 w32 ⟨hsz32, hdf32, k, hm32, hk, l10_32, l9_32, u0_32, u3_32, u5_32, u7_32, hS32⟩
      have l0_32 := u0_32.trans l0_31
      have l3_32 := u3_32.trans l3_31
      have l5_32 := u5_32.trans l5_31
      have l7_32 := u7_32.trans l7_31
      obtain ⟨c_32, c_32b, c2_32, hc_32, hc_32b, hc2_32, hS32⟩ := gen3 hS32
      refine wp_seq_k (fun K33 hK33 => ?_)
      refine wp_seq_k (fun K34 hK34 => ?_)
      refine region_in ?_
      refine W_v rfl rfl (V_mov rfl l10_32) ?_
      refine W_v rfl rfl (V_mov rfl (es rfl l7_32)) ?_
      refine W_v rfl rfl (V_lenS rfl (et rfl) (ow_at (hS32.chq 0 rfl hc_32)) Try.underlying23) ?_
      refine W_v rfl rfl (V_lss rfl (e2 rfl (et rfl)) (et rfl)) ?_
      refine W_end ?_
      refine gen_Q (fun A35 hA35 => ?_)
      have hsz35 := szq hA35
      have hdf35 : A35.defers = [] := by rw [hA35]; simp only [df_put]; exact hdf32
      have l0_35 := lookE hA35 0 (e3 rfl (es rfl l0_32))
      have l3_35 := lookE hA35 3 (e3 rfl (es rfl l3_32))
      have l5_35 := lookE hA35 5 (e3 rfl (es rfl l5_32))
      have l7_35 := lookE hA35 7 (e3 rfl (es rfl l7_32))
      have l9_35 := lookE hA35 9 (e3 rfl (es rfl l9_32))
      have l10_35 := lookE hA35 10 (e3 rfl (es rfl l10_32))
      have l43_35 := lookE hA35 43 (et rfl)
      clear hA35 hsz32 hdf32 l10_32 l9_32 l0_32 l3_32 l5_32 l7_32
      refine then_n (hK34 _ _ ?_)
      clear hK34
      refine cond_dec l43_35 (fun c36 => ?_) (fun c36 => ?_)
      · skip
        refine wp_skip ?_
        refine then_n (hK33 _ _ ?_)
        clear hK33
        refine wp_seq_k (fun K37 hK37 => ?_)
        refine wp_block ?_
        refine wp_seq_k (fun K38 hK38 => ?_)
        refine wp_seq_k (fun K39 hK39 => ?_)
        refine region_in ?_
        refine W_v rfl rfl (V_mov rfl l7_35) ?_
        refine W_v rfl rfl (V_mov rfl (es rfl l10_35)) ?_
        have k40 : k < (lsT c).length := by first | omega | (simp only [List.length_cons, List.length_nil]; omega) | (simp only [List.length_set]; omega) | decide
        obtain ⟨y40, hy40⟩ := get_some (xs := (lsT c)) (k := k) k40
        have hr40 := hz4 _ (List.mem_of_getElem? hy40)
        have hnb40 := nz_rng ws (lsT c) k
        obtain ⟨B40, O40, C40, hv40⟩ := (SlN.blk (ow_at (hS32.chq 0 rfl hc_32)) (by first | omega | (simp only [List.length_cons, List.length_nil]; omega) | (simp only [List.length_set]; omega) | decide))
        refine W_v rfl rfl (V_ixS (off := O40 + k) 1 (k) rfl (es rfl (et rfl)) (et rfl) hv40 (by omega) k40 Try.underlying23 (by kernel_rfl) (congrArg _ (Nat.mul_one _))) ?_
        refine W_r rfl rfl (VR_ldC rfl (et rfl) ((ow_at (hS32.chq 0 rfl hc_32)).cell hv40 (map_get hy40)) Try.underlying3 rfl) ?_
        refine W_v rfl rfl (V_mov rfl (e3 rfl (es rfl l0_35))) ?_
        refine W_v rfl rfl (V_lenS rfl (et rfl) (sl_SlN h_wv.at) Try.underlying22) ?_
        refine W_v rfl rfl (V_geq rfl (e2 rfl (et rfl)) (et rfl)) ?_
        refine W_end ?_
        refine gen_Q (fun A41 hA41 => ?_)
        have hsz41 := szq hA41
        have hdf41 : A41.defers = [] := by rw [hA41]; simp only [df_put]; exact hdf35
        have l0_41 := lookE hA41 0 (e6 rfl (es rfl l0_35))
        have l3_41 := lookE hA41 3 (e6 rfl (es rfl l3_35))
        have l5_41 := lookE hA41 5 (e6 rfl (es rfl l5_35))
        have l7_41 := lookE hA41 7 (e6 rfl (es rfl l7_35))
        have l9_41 := lookE hA41 9 (e6 rfl (es rfl l9_35))
        have l10_41 := lookE hA41 10 (e6 rfl (es rfl l10_35))
        have l52_41 := lookE hA41 52 (et rfl)
        clear hA41 hsz35 hdf35 l0_35 l3_35 l5_35 l7_35 l9_35 l10_35 l43_35
        refine then_n (hK39 _ _ ?_)
        clear hK39
        refine cond_not l52_41 (by rw [decide_eq_false_iff_not]; omega) ?_
        refine wp_skip ?_
        refine then_n (hK38 _ _ ?_)
        clear hK38
        refine wp_seq_k (fun K42 hK42 => ?_)
        refine region_in ?_
        refine W_v rfl rfl (V_mov rfl l0_41) ?_
        refine W_v rfl rfl (V_mov rfl (es rfl l7_41)) ?_
        refine W_v rfl rfl (V_mov rfl (es rfl (es rfl l10_41))) ?_
        refine W_v rfl rfl (V_ixS (off := O40 + k) 1 (k) rfl (es rfl (et rfl)) (et rfl) hv40 (by omega) k40 Try.underlying23 (by kernel_rfl) (congrArg _ (Nat.mul_one _))) ?_
        refine W_r rfl rfl (VR_ldC rfl (et rfl) ((ow_at (hS32.chq 0 rfl hc_32)).cell hv40 (map_get hy40)) Try.underlying3 rfl) ?_
        have k44 : y40.toNat < ws.length := by first | omega | (simp only [List.length_cons, List.length_nil]; omega) | (simp only [List.length_set]; omega) | decide
        obtain ⟨y44, hy44⟩ := get_some (xs := ws) (k := y40.toNat) k44
        have hwa44 := wA_at hy44
        have hwu44 := hu _ (List.mem_of_getElem? hy44)
        obtain ⟨B44, O44, C44, hv44⟩ := (SlN.blk (sl_SlN h_wv.at) (by first | omega | (simp only [List.length_cons, List.length_nil]; omega) | (simp only [List.length_set]; omega) | decide))
        refine W_v rfl rfl (V_ixS (off := O44 + y40.toNat) 1 (y40.toNat) rfl (e4 rfl (et rfl)) (et rfl) hv44 (by omega) k44 Try.underlying22 (by kernel_rfl) (congrArg _ (Nat.mul_one _))) ?_
        refine W_r rfl rfl (VR_ldC rfl (et rfl) ((sl_SlN (hS32.ro h_wv)).cell hv44 (map_get hy44)) Try.underlying40 rfl) ?_
        refine W_v rfl rfl (V_neq rfl (et rfl) rfl) ?_
        refine W_end ?_
        refine gen_Q (fun A45 hA45 => ?_)
        have hsz45 := szq hA45
        have hdf45 : A45.defers = [] := by rw [hA45]; simp only [df_put]; exact hdf41
        have l0_45 := lookE hA45 0 (e7 rfl (es rfl l0_41))
        have l3_45 := lookE hA45 3 (e7 rfl (es rfl l3_41))
        have l5_45 := lookE hA45 5 (e7 rfl (es rfl l5_41))
        have l7_45 := lookE hA45 7 (e7 rfl (es rfl l7_41))
        have l9_45 := lookE hA45 9 (e7 rfl (es rfl l9_41))
        have l10_45 := lookE hA45 10 (e7 rfl (es rfl l10_41))
        have l60_45 := lookE hA45 60 (et rfl)
        clear hA45 hsz41 hdf41 l0_41 l3_41 l5_41 l7_41 l9_41 l10_41 l52_41
        refine then_n (hK42 _ _ ?_)
        clear hK42
        refine cond_dec l60_45 (fun c46 => ?_) (fun c46 => ?_)
        · skip
          refine region_in ?_
          refine W_v rfl rfl (V_mov rfl l9_45) ?_
          refine W_v rfl rfl (V_add rfl (et rfl) rfl (by omega) (by omega)) ?_
          refine W_v rfl rfl (V_asg rfl (et rfl)) ?_
          refine W_end ?_
          refine gen_Q (fun A47 hA47 => ?_)
          have hsz47 := szq hA47
          have hdf47 : A47.defers = [] := by rw [hA47]; simp only [df_put]; exact hdf45
          have l0_47 := lookE hA47 0 (e2 rfl (es rfl l0_45))
          have l3_47 := lookE hA47 3 (e2 rfl (es rfl l3_45))
          have l5_47 := lookE hA47 5 (e2 rfl (es rfl l5_45))
          have l7_47 := lookE hA47 7 (e2 rfl (es rfl l7_45))
          have l9_47 := lookE hA47 9 (et rfl)
          have l10_47 := lookE hA47 10 (e2 rfl (es rfl l10_45))
          clear hA47 hsz45 hdf45 l0_45 l3_45 l5_45 l7_45 l9_45 l10_45 l60_45
          refine inb_n ?_
          refine then_n (hK37 _ _ ?_)
          clear hK37
          refine region_in ?_
          refine W_v rfl rfl (V_mov rfl l10_47) ?_
          refine W_v rfl rfl (V_add rfl (et rfl) rfl (by omega) (by omega)) ?_
          refine W_v rfl rfl (V_asg rfl (et rfl)) ?_
          refine W_end ?_
          refine gen_Q (fun A48 hA48 => ?_)
          have hsz48 := szq hA48
          have hdf48 : A48.defers = [] := by rw [hA48]; simp only [df_put]; exact hdf47
          have l0_48 := lookE hA48 0 (e2 rfl (es rfl l0_47))
          have l3_48 := lookE hA48 3 (e2 rfl (es rfl l3_47))
          have l5_48 := lookE hA48 5 (e2 rfl (es rfl l5_47))
          have l7_48 := lookE hA48 7 (e2 rfl (es rfl l7_47))
          have l9_48 := lookE hA48 9 (e2 rfl (es rfl l9_47))
          have l10_48 := lookE hA48 10 (et rfl)
          clear hA48 hsz47 hdf47 l0_47 l3_47 l5_47 l7_47 l9_47 l10_47
          refine then_n ⟨(lsT c).length - (k + 1), by simp only [hm32]; omega, hsz48, hdf48, (k + 1), rfl, (by omega), ((l10_48).trans (by first | rfl | (simp; done) | (congr 1; omega))), ((l9_48).trans ((congrArg (Value.int .i64) (by have h := nz_in (ws := ws) hy40 (by omega); omega)))), ((l0_48).trans l0_31.symm), ((l3_48).trans l3_31.symm), ((l5_48).trans l5_31.symm), ((l7_48).trans l7_31.symm), (by subst hc_32 hc_32b hc2_32; exact hS32)⟩
        · skip
          refine wp_skip ?_
          refine inb_n ?_
          refine then_n (hK37 _ _ ?_)
          clear hK37
          refine region_in ?_
          refine W_v rfl rfl (V_mov rfl l10_45) ?_
          refine W_v rfl rfl (V_add rfl (et rfl) rfl (by omega) (by omega)) ?_
          refine W_v rfl rfl (V_asg rfl (et rfl)) ?_
          refine W_end ?_
          refine gen_Q (fun A49 hA49 => ?_)
          have hsz49 := szq hA49
          have hdf49 : A49.defers = [] := by rw [hA49]; simp only [df_put]; exact hdf45
          have l0_49 := lookE hA49 0 (e2 rfl (es rfl l0_45))
          have l3_49 := lookE hA49 3 (e2 rfl (es rfl l3_45))
          have l5_49 := lookE hA49 5 (e2 rfl (es rfl l5_45))
          have l7_49 := lookE hA49 7 (e2 rfl (es rfl l7_45))
          have l9_49 := lookE hA49 9 (e2 rfl (es rfl l9_45))
          have l10_49 := lookE hA49 10 (et rfl)
          clear hA49 hsz45 hdf45 l0_45 l3_45 l5_45 l7_45 l9_45 l10_45 l60_45
          refine then_n ⟨(lsT c).length - (k + 1), by simp only [hm32]; omega, hsz49, hdf49, (k + 1), rfl, (by omega), ((l10_49).trans (by first | rfl | (simp; done) | (congr 1; omega))), ((l9_49).trans ((congrArg (Value.int .i64) (by have h := nz_out (ws := ws) hy40 (by omega); omega)))), ((l0_49).trans l0_31.symm), ((l3_49).trans l3_31.symm), ((l5_49).trans l5_31.symm), ((l7_49).trans l7_31.symm), (by subst hc_32 hc_32b hc2_32; exact hS32)⟩
      · skip
        refine wp_exit ?_
        refine then_exit ?_
        refine then_exit ?_
        refine inb_hit ?_
        refine then_n (hK29 _ _ ?_)
        clear hK29
        refine wp_seq_k (fun K50 hK50 => ?_)
        refine wp_seq_k (fun K51 hK51 => ?_)
        refine region_in ?_
        refine W_v rfl rfl (V_asg rfl rfl) ?_
        refine W_end ?_
        refine gen_Q (fun A52 hA52 => ?_)
        have hsz52 := szq hA52
        have hdf52 : A52.defers = [] := by rw [hA52]; simp only [df_put]; exact hdf35
        have l0_52 := lookE hA52 0 (es rfl l0_35)
        have l3_52 := lookE hA52 3 (es rfl l3_35)
        have l5_52 := lookE hA52 5 (es rfl l5_35)
        have l9_52 := lookE hA52 9 (es rfl l9_35)
        have l11_52 := lookE hA52 11 (et rfl)
        clear hA52 hsz35 hdf35 l0_35 l3_35 l5_35 l7_35 l9_35 l10_35 l43_35
        have hS53 : St w NoX [c_32b, c2_32] w32 := hS32.sel [1, 2] (by decide) rfl
        refine then_n (hK51 _ _ ?_)
        clear hK51
        refine wp_block ?_
        -- loop 16
        refine loopX (fun mz A' w' => SzN A' 194 ∧ A'.defers = [] ∧ (∃ (j : Nat), (mz = (coT ws c).length - j) ∧ (j ≤ (coT ws c).length) ∧ (EV A' (.tmp 11) = .int .i64 (j : Int)) ∧ (EV A' (.tmp 9) = .int .i64 (nzF ws (lsT c) - sm2 ((coT ws c).take j))) ∧ (EV A' (.tmp 0) = EV A52 (.tmp 0)) ∧ (EV A' (.tmp 3) = EV A52 (.tmp 3)) ∧ (EV A' (.tmp 5) = EV A52 (.tmp 5)) ∧ (St w NoX [ro 2 rcC v_14 (coT ws c), bx g2 25 #[cv]] w'))) ((coT ws c).length - 0) ⟨hsz52, hdf52, 0, rfl, (by omega), ((l11_52).trans (by first | rfl | (simp; done) | (congr 1; omega))), ((l9_52).trans ((congrArg (Value.int .i64) (nz_end (by omega))))), rfl, rfl, rfl, (by subst hc_32b hc2_32; exact hS53)⟩ ?_
        clear hS53 hc_32b hc2_32
        rintro n54 A54 w54 ⟨hsz54, hdf54, j, hm54, hj, l11_54, l9_54, u0_54, u3_54, u5_54, hS54⟩
        have l0_54 := u0_54.trans l0_52
        have l3_54 := u3_54.trans l3_52
        have l5_54 := u5_54.trans l5_52
        obtain ⟨c_32b_54, c2_54, hc_32b_54, hc2_54, hS54⟩ := gen2 hS54
        refine wp_seq_k (fun K55 hK55 => ?_)
        refine wp_seq_k (fun K56 hK56 => ?_)
        refine region_in ?_
        refine W_v rfl rfl (V_mov rfl l11_54) ?_
        refine W_v rfl rfl (V_mov rfl (es rfl l5_54)) ?_
        refine W_v rfl rfl (V_lenS rfl (et rfl) (ow_at (hS54.chq 0 rfl hc_32b_54)) Try.underlying28) ?_
        refine W_v rfl rfl (V_lss rfl (e2 rfl (et rfl)) (et rfl)) ?_
        refine W_end ?_
        refine gen_Q (fun A57 hA57 => ?_)
        have hsz57 := szq hA57
        have hdf57 : A57.defers = [] := by rw [hA57]; simp only [df_put]; exact hdf54
        have l0_57 := lookE hA57 0 (e3 rfl (es rfl l0_54))
        have l3_57 := lookE hA57 3 (e3 rfl (es rfl l3_54))
        have l5_57 := lookE hA57 5 (e3 rfl (es rfl l5_54))
        have l9_57 := lookE hA57 9 (e3 rfl (es rfl l9_54))
        have l11_57 := lookE hA57 11 (e3 rfl (es rfl l11_54))
        have l66_57 := lookE hA57 66 (et rfl)
        clear hA57 hsz54 hdf54 l11_54 l9_54 l0_54 l3_54 l5_54
        refine then_n (hK56 _ _ ?_)
        clear hK56
        refine cond_dec l66_57 (fun c58 => ?_) (fun c58 => ?_)
        · skip
          refine wp_skip ?_
          refine then_n (hK55 _ _ ?_)
          clear hK55
          refine wp_seq_k (fun K59 hK59 => ?_)
          refine wp_block ?_
          refine wp_seq_k (fun K60 hK60 => ?_)
          have k61 : j < (coT ws c).length := by first | omega | (simp only [List.length_cons, List.length_nil]; omega) | (simp only [List.length_set]; omega) | decide
          obtain ⟨y61, hy61⟩ := get_some (xs := (coT ws c)) (k := j) k61
          have hrow61 := sums_row hsl (List.mem_of_getElem? hy61) hwn
          have hsr61 := sums_rng hsl hwn j
          refine region_monoS 13 13 [none, none, none, none, none, none, none, some (SPv [] (fun _ => fun u l' => u = .tuple #[.int .i64 ((hoT ws c y61.1).length : Int), .int .i64 (hoE ws c y61.1)] ∧ l' = []) 7)] (by kernel_rfl) (by kernel_rfl) ?_
          refine D_v rfl rfl (V_mov rfl l0_57) rfl rfl ?_
          refine D_r rfl rfl (by kernel_rfl) (fun sx hx hF => (VR_ldA rfl (es rfl l3_57) ((hS54.grow hx).obj 1 rfl hc2_54) Try.underlying25 rfl (by kernel_rfl))) rfl rfl ?_
          refine D_v rfl rfl (V_mov rfl (es rfl (es rfl l5_57))) rfl rfl ?_
          refine D_v rfl rfl (V_mov rfl (e2 rfl (es rfl l11_57))) rfl rfl ?_
          obtain ⟨B61, O61, C61, hv61⟩ := (SlN.blk (ow_at (hS54.chq 0 rfl hc_32b_54)) (by first | omega | (simp only [List.length_cons, List.length_nil]; omega) | (simp only [List.length_set]; omega) | decide))
          refine D_v rfl rfl (V_ixS (off := O61 + j * 2) 2 (j) rfl (es rfl (et rfl)) (et rfl) hv61 (by omega) k61 Try.underlying28 (by kernel_rfl) rfl) rfl rfl ?_
          refine D_v rfl rfl (V_fa (off' := O61 + j * 2 + 0) rfl (et rfl) Try.underlying42 rfl (by decide +kernel) rfl) rfl rfl ?_
          refine D_r rfl rfl (by kernel_rfl) (fun sx hx hF => (VR_ldC (v := .int .i64 (y61.1)) rfl (et rfl) (SlN.row rcC_len (ow_at ((hS54.grow hx).chq 0 rfl hc_32b_54)) hv61 hy61 rfl 0 _ rfl) Try.underlying3 rfl)) rfl rfl ?_
          refine D_call (ts := []) (vs := []) (C0 := fun _ => fun u l' => u = .tuple #[.int .i64 ((hoT ws c y61.1).length : Int), .int .i64 (hoE ws c y61.1)] ∧ l' = []) (C := fun u l' => u = .tuple #[.int .i64 ((hoT ws c y61.1).length : Int), .int .i64 (hoE ws c y61.1)] ∧ l' = []) rfl rfl rfl Try.func15 (by kernel_rfl) rfl (args3 (e6 rfl (et rfl)) (e5 rfl (et rfl)) (et rfl)) rfl rfl rfl rfl (fun sx hx hF => ?_) (fun u62 l62 hu62 => ?_)
          · refine (kof_c (t := y61.1) ((hS54.grow hx).roC h_wv) ((hS54.grow hx).roC h_cv) (by with_reducible assumption)).mono ?_
            rintro _ _ ⟨rfl, hz⟩
            exact ⟨_, rfl, _, ⟨rfl, rfl⟩, hz⟩
          obtain ⟨rfl, hl62⟩ := hu62
          refine D_v rfl rfl (V_mov rfl (et rfl)) rfl rfl ?_
          refine D_v rfl rfl (V_ext (v := .int .i64 (((hoT ws c y61.1).length : Int))) rfl (et rfl) rfl) rfl rfl ?_
          refine D_v rfl rfl (V_ext (v := .int .i64 ((hoE ws c y61.1))) rfl (es rfl (et rfl)) rfl) rfl rfl ?_
          refine D_v rfl rfl (V_asg rfl (es rfl (et rfl))) rfl rfl ?_
          refine D_v rfl rfl (V_asg rfl (es rfl (et rfl))) rfl rfl ?_
          refine ZS_none hS54 (Nat.le_refl _) (Nat.le_refl _) (fun s63 hJ63 hL63 hF63 => ?_)
          obtain ⟨ll62, ws62, we62, ⟨hq62, hl62r⟩, hm62, k62, e62⟩ := L.all_get hF63; cases hq62; subst hl62r
          replace hJ63 := hJ63.add hL63 (i := 7) rfl hm62 k62 e62
          have hS63 := hJ63.st; clear hF63 hJ63 hL63
          generalize s63.1 = w63 at *
          replace hS63 : St w NoX [c_32b_54, c2_54] w63 := hS63
          refine gen_Q (fun A64 hA64 => ?_)
          have hsz64 := szq hA64
          have hdf64 : A64.defers = [] := by rw [hA64]; simp only [df_put]; exact hdf57
          have l0_64 := lookE hA64 0 (e12 rfl (es rfl l0_57))
          have l3_64 := lookE hA64 3 (e12 rfl (es rfl l3_57))
          have l5_64 := lookE hA64 5 (e12 rfl (es rfl l5_57))
          have l9_64 := lookE hA64 9 (e12 rfl (es rfl l9_57))
          have l11_64 := lookE hA64 11 (e12 rfl (es rfl l11_57))
          have l12_64 := lookE hA64 12 (es rfl (et rfl))
          have l13_64 := lookE hA64 13 (et rfl)
          clear hA64 hsz57 hdf57 l0_57 l3_57 l5_57 l9_57 l11_57 l66_57
          refine then_n (hK60 _ _ ?_)
          clear hK60
          refine wp_seq_k (fun K65 hK65 => ?_)
          refine region_monoS 13 13 [none, none, none, none, none, none, none, some (SPv [] (fun _ => fun u l' => ∃ v_s, u = .tuple #[v_s, .int .i64 (hoE ws c y61.1)] ∧ ∃ c_s, c_s = io .i64 (v_s) (hoT ws c y61.1) ∧ l' = [c_s]) 7)] (by kernel_rfl) (by kernel_rfl) ?_
          refine D_v rfl rfl (V_mov rfl l0_64) rfl rfl ?_
          refine D_r rfl rfl (by kernel_rfl) (fun sx hx hF => (VR_ldA rfl (es rfl l3_64) ((hS63.grow hx).obj 1 rfl hc2_54) Try.underlying25 rfl (by kernel_rfl))) rfl rfl ?_
          refine D_v rfl rfl (V_mov rfl (es rfl (es rfl l5_64))) rfl rfl ?_
          refine D_v rfl rfl (V_mov rfl (e2 rfl (es rfl l11_64))) rfl rfl ?_
          refine D_v rfl rfl (V_ixS (off := O61 + j * 2) 2 (j) rfl (es rfl (et rfl)) (et rfl) hv61 (by omega) k61 Try.underlying28 (by kernel_rfl) rfl) rfl rfl ?_
          refine D_v rfl rfl (V_fa (off' := O61 + j * 2 + 0) rfl (et rfl) Try.underlying42 rfl (by decide +kernel) rfl) rfl rfl ?_
          refine D_r rfl rfl (by kernel_rfl) (fun sx hx hF => (VR_ldC (v := .int .i64 (y61.1)) rfl (et rfl) (SlN.row rcC_len (ow_at ((hS63.grow hx).chq 0 rfl hc_32b_54)) hv61 hy61 rfl 0 _ rfl) Try.underlying3 rfl)) rfl rfl ?_
          refine D_call (ts := []) (vs := []) (C0 := fun _ => fun u l' => ∃ v_s, u = .tuple #[v_s, .int .i64 (hoE ws c y61.1)] ∧ ∃ c_s, c_s = io .i64 (v_s) (hoT ws c y61.1) ∧ l' = [c_s]) (C := fun u l' => ∃ v_s, u = .tuple #[v_s, .int .i64 (hoE ws c y61.1)] ∧ ∃ c_s, c_s = io .i64 (v_s) (hoT ws c y61.1) ∧ l' = [c_s]) rfl rfl rfl Try.func18 (by kernel_rfl) rfl (args3 (e6 rfl (et rfl)) (e5 rfl (et rfl)) (et rfl)) rfl rfl rfl rfl (fun sx hx hF => ?_) (fun u67 l67 hu67 => ?_)
          · refine (kho_c (t := y61.1) ((hS63.grow hx).roC h_wv) ((hS63.grow hx).roC h_cv) (by with_reducible assumption)).mono ?_
            rintro _ _ ⟨v_67, rfl, hz⟩
            exact ⟨_, rfl, _, ⟨_, rfl, _, rfl, rfl⟩, hz⟩
          obtain ⟨v_67, rfl, c_67, hc_67, hl67⟩ := hu67
          refine D_v rfl rfl (V_mov rfl (et rfl)) rfl rfl ?_
          refine D_v rfl rfl (V_ext (v := v_67) rfl (et rfl) rfl) rfl rfl ?_
          refine D_v rfl rfl (V_ext (v := .int .i64 ((hoE ws c y61.1))) rfl (es rfl (et rfl)) rfl) rfl rfl ?_
          refine D_v rfl rfl (V_asg rfl (es rfl (et rfl))) rfl rfl ?_
          refine D_v rfl rfl (V_asg rfl (es rfl (et rfl))) rfl rfl ?_
          refine ZS_none hS63 (Nat.le_refl _) (Nat.le_refl _) (fun s68 hJ68 hL68 hF68 => ?_)
          obtain ⟨ll67, ws67, we67, ⟨v_67q, hq67, c_67r, hc_67r, hl67r⟩, hm67, k67, e67⟩ := L.all_get hF68; cases hq67; subst hl67r
          replace hJ68 := hJ68.add hL68 (i := 7) rfl hm67 k67 e67
          have hS68 := hJ68.st; clear hF68 hJ68 hL68
          generalize s68.1 = w68 at *
          replace hS68 : St w NoX [c_67r, c_32b_54, c2_54] w68 := hS68
          refine gen_Q (fun A69 hA69 => ?_)
          have hsz69 := szq hA69
          have hdf69 : A69.defers = [] := by rw [hA69]; simp only [df_put]; exact hdf64
          have l0_69 := lookE hA69 0 (e12 rfl (es rfl l0_64))
          have l3_69 := lookE hA69 3 (e12 rfl (es rfl l3_64))
          have l5_69 := lookE hA69 5 (e12 rfl (es rfl l5_64))
          have l9_69 := lookE hA69 9 (e12 rfl (es rfl l9_64))
          have l11_69 := lookE hA69 11 (e12 rfl (es rfl l11_64))
          have l12_69 := lookE hA69 12 (e12 rfl (es rfl l12_64))
          have l13_69 := lookE hA69 13 (e12 rfl (es rfl l13_64))
          have l14_69 := lookE hA69 14 (es rfl (et rfl))
          have l15_69 := lookE hA69 15 (et rfl)
          clear hA69 hsz64 hdf64 l0_64 l3_64 l5_64 l9_64 l11_64 l12_64 l13_64
          refine then_n (hK65 _ _ ?_)
          clear hK65
          refine wp_seq_k (fun K70 hK70 => ?_)
          refine wp_seq_k (fun K71 hK71 => ?_)
          refine region_monoS 43 43 [] (by kernel_rfl) (by kernel_rfl) ?_
          refine D_v rfl rfl (V_mov rfl l13_69) rfl rfl ?_
          refine D_v rfl rfl (V_neq rfl (et rfl) rfl) rfl rfl ?_
          refine D_sure (c' := false) rfl rfl (V_mov rfl (et rfl)) (by rw [decide_eq_false_iff_not]; rw [hrow61.2.2.1]; simp) rfl rfl ?_
          refine D_v rfl (wanted_t rfl rfl (et rfl) (ez rfl)) (V_mov rfl (e2 rfl (es rfl l15_69))) rfl rfl ?_
          refine D_v rfl (wanted_t rfl rfl (es rfl (et rfl)) (ez rfl)) (V_neq rfl (et rfl) rfl) rfl rfl ?_
          refine D_v rfl rfl (V_pickF rfl (e2 rfl (et rfl)) (et rfl)) rfl rfl ?_
          refine D_sure (c' := false) rfl rfl (V_mov rfl (et rfl)) (by rw [decide_eq_false_iff_not]; rw [hrow61.2.2.1]; simp) rfl rfl ?_
          refine D_v rfl (wanted_t rfl rfl (et rfl) (ez rfl)) (V_mov rfl (e6 rfl (es rfl l12_69))) rfl rfl ?_
          refine D_v rfl (wanted_t rfl rfl (es rfl (et rfl)) (ez rfl)) (V_mov rfl (e7 rfl (es rfl l5_69))) rfl rfl ?_
          refine D_v rfl (wanted_t rfl rfl (e2 rfl (et rfl)) (ez rfl)) (V_mov rfl (e8 rfl (es rfl l11_69))) rfl rfl ?_
          refine D_v rfl (wanted_t rfl rfl (e3 rfl (et rfl)) (ez rfl)) (V_ixS (off := O61 + j * 2) 2 (j) rfl (es rfl (et rfl)) (et rfl) hv61 (by omega) k61 Try.underlying28 (by kernel_rfl) rfl) rfl rfl ?_
          refine D_v rfl (wanted_t rfl rfl (e4 rfl (et rfl)) (ez rfl)) (V_fa (off' := O61 + j * 2 + 1) rfl (et rfl) Try.underlying42 rfl (by decide +kernel) rfl) rfl rfl ?_
          refine D_r rfl (wanted_t rfl rfl (e5 rfl (et rfl)) (ez rfl)) (by kernel_rfl) (fun sx hx hF => (VR_ldC (v := .int .i64 (y61.2)) rfl (et rfl) (SlN.row rcC_len (ow_at ((hS68.grow hx).chq 1 rfl hc_32b_54)) hv61 hy61 rfl 1 _ rfl) Try.underlying3 rfl)) rfl rfl ?_
          refine D_v rfl (wanted_t rfl rfl (e6 rfl (et rfl)) (ez rfl)) (V_neq rfl (e5 rfl (et rfl)) (et rfl)) rfl rfl ?_
          refine D_v rfl rfl (V_pickF rfl (e7 rfl (et rfl)) (et rfl)) rfl rfl ?_
          refine D_sure (c' := false) rfl rfl (V_mov rfl (et rfl)) (by rw [decide_eq_false_iff_not]; have q := hrow61; omega) rfl rfl ?_
          refine D_v rfl (wanted_t rfl rfl (et rfl) (ez rfl)) (V_mov rfl (e15 rfl (es rfl l14_69))) rfl rfl ?_
          refine D_v rfl (wanted_t rfl rfl (es rfl (et rfl)) (ez rfl)) (V_lenS rfl (et rfl) (ow_at (hS68.chq 0 rfl hc_67r)) Try.underlying23) rfl rfl ?_
          refine D_v rfl (wanted_t rfl rfl (e2 rfl (et rfl)) (ez rfl)) (V_mov rfl (e17 rfl (es rfl l12_69))) rfl rfl ?_
          refine D_v rfl (wanted_t rfl rfl (e3 rfl (et rfl)) (ez rfl)) (V_neq rfl (es rfl (et rfl)) (et rfl)) rfl rfl ?_
          refine D_v rfl rfl (V_pickF rfl (e4 rfl (et rfl)) (et rfl)) rfl rfl ?_
          refine D_sure (c' := false) rfl rfl (V_mov rfl (et rfl)) (by simp) rfl rfl ?_
          refine D_v rfl (wanted_t rfl rfl (et rfl) (ez rfl)) (V_mov rfl (e21 rfl (es rfl l12_69))) rfl rfl ?_
          refine D_v rfl (wanted_t rfl rfl (es rfl (et rfl)) (ez rfl)) (V_lss rfl (et rfl) rfl) rfl rfl ?_
          refine D_v rfl rfl (V_pickF rfl (e2 rfl (et rfl)) (et rfl)) rfl rfl ?_
          refine D_sure (c' := false) rfl rfl (V_mov rfl (et rfl)) (by rw [decide_eq_false_iff_not]; have q := hrow61; omega) rfl rfl ?_
          refine D_v rfl (wanted_t rfl rfl (et rfl) (ez rfl)) (V_mov rfl (e25 rfl (es rfl l11_69))) rfl rfl ?_
          refine D_v rfl (wanted_t rfl rfl (es rfl (et rfl)) (ez rfl)) (V_gtr rfl (et rfl) rfl) rfl rfl ?_
          refine D_split rfl (wanted_t rfl rfl (e2 rfl (et rfl)) (ez rfl)) (V_mov rfl (et rfl)) rfl rfl (fun c73 => ?_) (fun c73 => ?_)
          · skip
            refine D_v rfl (wanted_t rfl rfl (et rfl) (ez rfl)) (V_mov rfl (e25 rfl (es rfl (es rfl (es rfl (es rfl l5_69)))))) rfl rfl ?_
            refine D_v rfl (wanted_t rfl rfl (es rfl (et rfl)) (ez rfl)) (V_mov rfl (e25 rfl (es rfl (es rfl (es rfl (es rfl (es rfl l11_69))))))) rfl rfl ?_
            refine D_v rfl (wanted_t rfl rfl (e2 rfl (et rfl)) (ez rfl)) (V_ixS (off := O61 + j * 2) 2 (j) rfl (es rfl (et rfl)) (et rfl) hv61 (by omega) k61 Try.underlying28 (by kernel_rfl) rfl) rfl rfl ?_
            refine D_v rfl (wanted_t rfl rfl (e3 rfl (et rfl)) (ez rfl)) (V_fa (off' := O61 + j * 2 + 0) rfl (et rfl) Try.underlying42 rfl (by decide +kernel) rfl) rfl rfl ?_
            refine D_r rfl (wanted_t rfl rfl (e4 rfl (et rfl)) (ez rfl)) (by kernel_rfl) (fun sx hx hF => (VR_ldC (v := .int .i64 (y61.1)) rfl (et rfl) (SlN.row rcC_len (ow_at ((hS68.grow hx).chq 1 rfl hc_32b_54)) hv61 hy61 rfl 0 _ rfl) Try.underlying3 rfl)) rfl rfl ?_
            refine D_v rfl (wanted_t rfl rfl (e5 rfl (et rfl)) (ez rfl)) (V_mov rfl (e25 rfl (es rfl (es rfl (es rfl (es rfl (es rfl (es rfl (es rfl (es rfl (es rfl l5_69))))))))))) rfl rfl ?_
            refine D_v rfl (wanted_t rfl rfl (e6 rfl (et rfl)) (ez rfl)) (V_mov rfl (e25 rfl (es rfl (es rfl (es rfl (es rfl (es rfl (es rfl (es rfl (es rfl (es rfl (es rfl l11_69)))))))))))) rfl rfl ?_
            refine D_v rfl (wanted_t rfl rfl (e7 rfl (et rfl)) (ez rfl)) (V_sb rfl (et rfl) rfl (by omega) (by omega)) rfl rfl ?_
            have k75 : (j - 1) < (coT ws c).length := by first | omega | (simp only [List.length_cons, List.length_nil]; omega) | (simp only [List.length_set]; omega) | decide
            obtain ⟨y75, hy75⟩ := get_some (xs := (coT ws c)) (k := (j - 1)) k75
            refine D_v rfl (wanted_t rfl rfl (e8 rfl (et rfl)) (ez rfl)) (V_ixS (off := O61 + (j - 1) * 2) 2 ((j - 1)) rfl (e2 rfl (et rfl)) (et rfl) hv61 (by omega) k75 Try.underlying28 (by kernel_rfl) rfl) rfl rfl ?_
            refine D_v rfl (wanted_t rfl rfl (e9 rfl (et rfl)) (ez rfl)) (V_fa (off' := O61 + (j - 1) * 2 + 0) rfl (et rfl) Try.underlying42 rfl (by decide +kernel) rfl) rfl rfl ?_
            refine D_r rfl (wanted_t rfl rfl (e10 rfl (et rfl)) (ez rfl)) (by kernel_rfl) (fun sx hx hF => (VR_ldC (v := .int .i64 (y75.1)) rfl (et rfl) (SlN.row rcC_len (ow_at ((hS68.grow hx).chq 1 rfl hc_32b_54)) hv61 hy75 rfl 0 _ rfl) Try.underlying3 rfl)) rfl rfl ?_
            refine D_v rfl (wanted_t rfl rfl (e11 rfl (et rfl)) (ez rfl)) (V_leq rfl (e6 rfl (et rfl)) (et rfl)) rfl rfl ?_
            refine D_v rfl (wanted_t rfl rfl (e15 rfl (et rfl)) (ez rfl)) (V_pickT rfl (e12 rfl (et rfl)) (et rfl)) rfl rfl ?_
            refine D_v rfl rfl (V_pickF rfl (e16 rfl (et rfl)) (et rfl)) rfl rfl ?_
            refine ZS_none hS68 (Nat.le_refl _) (Nat.le_refl _) (fun s76 hJ76 hL76 hF76 => ?_)
            have hS76 := hJ76.st; clear hF76 hJ76 hL76
            generalize s76.1 = w76 at *
            replace hS76 : St w NoX [c_67r, c_32b_54, c2_54] w76 := hS76
            refine gen_Q (fun A77 hA77 => ?_)
            have hsz77 := szq hA77
            have hdf77 : A77.defers = [] := by rw [hA77]; simp only [df_put]; exact hdf69
            have l0_77 := lookE hA77 0 (e25 rfl (es rfl (es rfl (es rfl (es rfl (es rfl (es rfl (es rfl (es rfl (es rfl (es rfl (es rfl (es rfl (es rfl (es rfl (es rfl (es rfl (es rfl (es rfl l0_69)))))))))))))))))))
            have l3_77 := lookE hA77 3 (e25 rfl (es rfl (es rfl (es rfl (es rfl (es rfl (es rfl (es rfl (es rfl (es rfl (es rfl (es rfl (es rfl (es rfl (es rfl (es rfl (es rfl (es rfl (es rfl l3_69)))))))))))))))))))
            have l5_77 := lookE hA77 5 (e25 rfl (es rfl (es rfl (es rfl (es rfl (es rfl (es rfl (es rfl (es rfl (es rfl (es rfl (es rfl (es rfl (es rfl (es rfl (es rfl (es rfl (es rfl (es rfl l5_69)))))))))))))))))))
            have l9_77 := lookE hA77 9 (e25 rfl (es rfl (es rfl (es rfl (es rfl (es rfl (es rfl (es rfl (es rfl (es rfl (es rfl (es rfl (es rfl (es rfl (es rfl (es rfl (es rfl (es rfl (es rfl l9_69)))))))))))))))))))
            have l11_77 := lookE hA77 11 (e25 rfl (es rfl (es rfl (es rfl (es rfl (es rfl (es rfl (es rfl (es rfl (es rfl (es rfl (es rfl (es rfl (es rfl (es rfl (es rfl (es rfl (es rfl (es rfl l11_69)))))))))))))))))))
            have l12_77 := lookE hA77 12 (e25 rfl (es rfl (es rfl (es rfl (es rfl (es rfl (es rfl (es rfl (es rfl (es rfl (es rfl (es rfl (es rfl (es rfl (es rfl (es rfl (es rfl (es rfl (es rfl l12_69)))))))))))))))))))
            have l14_77 := lookE hA77 14 (e25 rfl (es rfl (es rfl (es rfl (es rfl (es rfl (es rfl (es rfl (es rfl (es rfl (es rfl (es rfl (es rfl (es rfl (es rfl (es rfl (es rfl (es rfl (es rfl l14_69)))))))))))))))))))
            have l94_77 := lookE hA77 94 (e25 rfl (es rfl (es rfl (es rfl (es rfl (es rfl (es rfl (es rfl (es rfl (es rfl (es rfl (es rfl (es rfl (es rfl (es rfl (et rfl))))))))))))))))
            have l95_77 := lookE hA77 95 (e25 rfl (es rfl (es rfl (es rfl (es rfl (es rfl (es rfl (es rfl (es rfl (es rfl (es rfl (es rfl (es rfl (es rfl (et rfl)))))))))))))))
            have l98_77 := lookE hA77 98 (e25 rfl (es rfl (es rfl (es rfl (es rfl (es rfl (es rfl (es rfl (es rfl (es rfl (es rfl (et rfl))))))))))))
            have l99_77 := lookE hA77 99 (e25 rfl (es rfl (es rfl (es rfl (es rfl (es rfl (es rfl (es rfl (es rfl (es rfl (et rfl)))))))))))
            have l100_77 := lookE hA77 100 (e25 rfl (es rfl (es rfl (es rfl (es rfl (es rfl (es rfl (es rfl (es rfl (et rfl))))))))))
            have l101_77 := lookE hA77 101 (e25 rfl (es rfl (es rfl (es rfl (es rfl (es rfl (es rfl (es rfl (et rfl)))))))))
            have l102_77 := lookE hA77 102 (e25 rfl (es rfl (es rfl (es rfl (es rfl (es rfl (es rfl (et rfl))))))))
            have l103_77 := lookE hA77 103 (e25 rfl (es rfl (es rfl (es rfl (es rfl (es rfl (et rfl)))))))
            have l104_77 := lookE hA77 104 (e25 rfl (es rfl (es rfl (es rfl (es rfl (et rfl))))))
            have l107_77 := lookE hA77 107 (e25 rfl (es rfl (et rfl)))
            have l108_77 := lookE hA77 108 (e25 rfl (et rfl))
            have l109_77 := lookE hA77 109 (e24 rfl (et rfl))
            have l110_77 := lookE hA77 110 (e23 rfl (et rfl))
            have l113_77 := lookE hA77 113 (e20 rfl (et rfl))
            have l114_77 := lookE hA77 114 (e19 rfl (et rfl))
            have l117_77 := lookE hA77 117 (e16 rfl (et rfl))
            have l118_77 := lookE hA77 118 (e15 rfl (et rfl))
            have l119_77 := lookE hA77 119 (e14 rfl (et rfl))
            have l120_77 := lookE hA77 120 (e13 rfl (et rfl))
            have l121_77 := lookE hA77 121 (e12 rfl (et rfl))
            have l122_77 := lookE hA77 122 (e11 rfl (et rfl))
            have l123_77 := lookE hA77 123 (e10 rfl (et rfl))
            have l124_77 := lookE hA77 124 (e9 rfl (et rfl))
            have l125_77 := lookE hA77 125 (e8 rfl (et rfl))
            have l126_77 := lookE hA77 126 (e7 rfl (et rfl))
            have l127_77 := lookE hA77 127 (e6 rfl (et rfl))
            have l128_77 := lookE hA77 128 (e5 rfl (et rfl))
            have l129_77 := lookE hA77 129 (e4 rfl (et rfl))
            have l130_77 := lookE hA77 130 (e3 rfl (et rfl))
            have l131_77 := lookE hA77 131 (e2 rfl (et rfl))
            have l132_77 := lookE hA77 132 (es rfl (et rfl))
            have l133_77 := lookE hA77 133 (et rfl)
            clear hA77 hsz69 hdf69 l0_69 l3_69 l5_69 l9_69 l11_69 l12_69 l13_69 l14_69 l15_69
            refine then_n (hK71 _ _ ?_)
            clear hK71
            refine cond_not l133_77 (by rw [decide_eq_false_iff_not]; have q := sums_asc hy75 hy61 (by omega); omega) ?_
            refine wp_skip ?_
            refine then_n (hK70 _ _ ?_)
            clear hK70
            refine wp_seq_k (fun K78 hK78 => ?_)
            refine wp_seq_k (fun K79 hK79 => ?_)
            refine region_in ?_
            refine W_v rfl rfl (V_asg rfl rfl) ?_
            refine W_end ?_
            refine gen_Q (fun A80 hA80 => ?_)
            have hsz80 := szq hA80
            have hdf80 : A80.defers = [] := by rw [hA80]; simp only [df_put]; exact hdf77
            have l0_80 := lookE hA80 0 (es rfl l0_77)
            have l3_80 := lookE hA80 3 (es rfl l3_77)
            have l5_80 := lookE hA80 5 (es rfl l5_77)
            have l9_80 := lookE hA80 9 (es rfl l9_77)
            have l11_80 := lookE hA80 11 (es rfl l11_77)
            have l12_80 := lookE hA80 12 (es rfl l12_77)
            have l14_80 := lookE hA80 14 (es rfl l14_77)
            have l16_80 := lookE hA80 16 (et rfl)
            have l94_80 := lookE hA80 94 (es rfl l94_77)
            have l95_80 := lookE hA80 95 (es rfl l95_77)
            have l98_80 := lookE hA80 98 (es rfl l98_77)
            have l99_80 := lookE hA80 99 (es rfl l99_77)
            have l100_80 := lookE hA80 100 (es rfl l100_77)
            have l101_80 := lookE hA80 101 (es rfl l101_77)
            have l102_80 := lookE hA80 102 (es rfl l102_77)
            have l103_80 := lookE hA80 103 (es rfl l103_77)
            have l104_80 := lookE hA80 104 (es rfl l104_77)
            have l107_80 := lookE hA80 107 (es rfl l107_77)
            have l108_80 := lookE hA80 108 (es rfl l108_77)
            have l109_80 := lookE hA80 109 (es rfl l109_77)
            have l110_80 := lookE hA80 110 (es rfl l110_77)
            have l113_80 := lookE hA80 113 (es rfl l113_77)
            have l114_80 := lookE hA80 114 (es rfl l114_77)
            have l117_80 := lookE hA80 117 (es rfl l117_77)
            have l118_80 := lookE hA80 118 (es rfl l118_77)
            have l119_80 := lookE hA80 119 (es rfl l119_77)
            have l120_80 := lookE hA80 120 (es rfl l120_77)
            have l121_80 := lookE hA80 121 (es rfl l121_77)
            have l122_80 := lookE hA80 122 (es rfl l122_77)
            have l123_80 := lookE hA80 123 (es rfl l123_77)
            have l124_80 := lookE hA80 124 (es rfl l124_77)
            have l125_80 := lookE hA80 125 (es rfl l125_77)
            have l126_80 := lookE hA80 126 (es rfl l126_77)
            have l127_80 := lookE hA80 127 (es rfl l127_77)
            have l128_80 := lookE hA80 128 (es rfl l128_77)
            have l129_80 := lookE hA80 129 (es rfl l129_77)
            have l130_80 := lookE hA80 130 (es rfl l130_77)
            have l131_80 := lookE hA80 131 (es rfl l131_77)
            have l132_80 := lookE hA80 132 (es rfl l132_77)
            clear hA80 hsz77 hdf77 l0_77 l3_77 l5_77 l9_77 l11_77 l12_77 l14_77 l94_77 l95_77 l98_77 l99_77 l100_77 l101_77 l102_77 l103_77 l104_77 l107_77 l108_77 l109_77 l110_77 l113_77 l114_77 l117_77 l118_77 l119_77 l120_77 l121_77 l122_77 l123_77 l124_77 l125_77 l126_77 l127_77 l128_77 l129_77 l130_77 l131_77 l132_77 l133_77
            refine then_n (hK79 _ _ ?_)
            clear hK79
            refine wp_block ?_
            -- loop 23
            refine loopX (fun mz A' w' => SzN A' 194 ∧ A'.defers = [] ∧ (∃ (m : Nat), (mz = (hoT ws c y61.1).length - m) ∧ (m ≤ (hoT ws c y61.1).length) ∧ (EV A' (.tmp 16) = .int .i64 (m : Int)) ∧ (EV A' (.tmp 0) = EV A80 (.tmp 0)) ∧ (EV A' (.tmp 3) = EV A80 (.tmp 3)) ∧ (EV A' (.tmp 5) = EV A80 (.tmp 5)) ∧ (EV A' (.tmp 9) = EV A80 (.tmp 9)) ∧ (EV A' (.tmp 11) = EV A80 (.tmp 11)) ∧ (EV A' (.tmp 12) = EV A80 (.tmp 12)) ∧ (EV A' (.tmp 14) = EV A80 (.tmp 14)) ∧ (EV A' (.tmp 94) = EV A80 (.tmp 94)) ∧ (EV A' (.tmp 95) = EV A80 (.tmp 95)) ∧ (EV A' (.tmp 98) = EV A80 (.tmp 98)) ∧ (EV A' (.tmp 99) = EV A80 (.tmp 99)) ∧ (EV A' (.tmp 100) = EV A80 (.tmp 100)) ∧ (EV A' (.tmp 101) = EV A80 (.tmp 101)) ∧ (EV A' (.tmp 102) = EV A80 (.tmp 102)) ∧ (EV A' (.tmp 103) = EV A80 (.tmp 103)) ∧ (EV A' (.tmp 104) = EV A80 (.tmp 104)) ∧ (EV A' (.tmp 107) = EV A80 (.tmp 107)) ∧ (EV A' (.tmp 108) = EV A80 (.tmp 108)) ∧ (EV A' (.tmp 109) = EV A80 (.tmp 109)) ∧ (EV A' (.tmp 110) = EV A80 (.tmp 110)) ∧ (EV A' (.tmp 113) = EV A80 (.tmp 113)) ∧ (EV A' (.tmp 114) = EV A80 (.tmp 114)) ∧ (EV A' (.tmp 117) = EV A80 (.tmp 117)) ∧ (EV A' (.tmp 118) = EV A80 (.tmp 118)) ∧ (EV A' (.tmp 119) = EV A80 (.tmp 119)) ∧ (EV A' (.tmp 120) = EV A80 (.tmp 120)) ∧ (EV A' (.tmp 121) = EV A80 (.tmp 121)) ∧ (EV A' (.tmp 122) = EV A80 (.tmp 122)) ∧ (EV A' (.tmp 123) = EV A80 (.tmp 123)) ∧ (EV A' (.tmp 124) = EV A80 (.tmp 124)) ∧ (EV A' (.tmp 125) = EV A80 (.tmp 125)) ∧ (EV A' (.tmp 126) = EV A80 (.tmp 126)) ∧ (EV A' (.tmp 127) = EV A80 (.tmp 127)) ∧ (EV A' (.tmp 128) = EV A80 (.tmp 128)) ∧ (EV A' (.tmp 129) = EV A80 (.tmp 129)) ∧ (EV A' (.tmp 130) = EV A80 (.tmp 130)) ∧ (EV A' (.tmp 131) = EV A80 (.tmp 131)) ∧ (EV A' (.tmp 132) = EV A80 (.tmp 132)) ∧ (St w NoX [io .i64 v_67 (hoT ws c y61.1), ro 2 rcC v_14 (coT ws c), bx g2 25 #[cv]] w'))) ((hoT ws c y61.1).length - 0) ⟨hsz80, hdf80, 0, rfl, (by omega), ((l16_80).trans (by first | rfl | (simp; done) | (congr 1; omega))), rfl, rfl, rfl, rfl, rfl, rfl, rfl, rfl, rfl, rfl, rfl, rfl, rfl, rfl, rfl, rfl, rfl, rfl, rfl, rfl, rfl, rfl, rfl, rfl, rfl, rfl, rfl, rfl, rfl, rfl, rfl, rfl, rfl, rfl, rfl, rfl, rfl, rfl, (by subst hc_67r hc_32b_54 hc2_54; exact hS76)⟩ ?_
            clear hS76 hc_67r hc_32b_54 hc2_54
            rintro n81 A81 w81 ⟨hsz81, hdf81, m, hm81, hm, l16_81, u0_81, u3_81, u5_81, u9_81, u11_81, u12_81, u14_81, u94_81, u95_81, u98_81, u99_81, u100_81, u101_81, u102_81, u103_81, u104_81, u107_81, u108_81, u109_81, u110_81, u113_81, u114_81, u117_81, u118_81, u119_81, u120_81, u121_81, u122_81, u123_81, u124_81, u125_81, u126_81, u127_81, u128_81, u129_81, u130_81, u131_81, u132_81, hS81⟩
            have l0_81 := u0_81.trans l0_80
            have l3_81 := u3_81.trans l3_80
            have l5_81 := u5_81.trans l5_80
            have l9_81 := u9_81.trans l9_80
            have l11_81 := u11_81.trans l11_80
            have l12_81 := u12_81.trans l12_80
            have l14_81 := u14_81.trans l14_80
            have l94_81 := u94_81.trans l94_80
            have l95_81 := u95_81.trans l95_80
            have l98_81 := u98_81.trans l98_80
            have l99_81 := u99_81.trans l99_80
            have l100_81 := u100_81.trans l100_80
            have l101_81 := u101_81.trans l101_80
            have l102_81 := u102_81.trans l102_80
            have l103_81 := u103_81.trans l103_80
            have l104_81 := u104_81.trans l104_80
            have l107_81 := u107_81.trans l107_80
            have l108_81 := u108_81.trans l108_80
            have l109_81 := u109_81.trans l109_80
            have l110_81 := u110_81.trans l110_80
            have l113_81 := u113_81.trans l113_80
            have l114_81 := u114_81.trans l114_80
            have l117_81 := u117_81.trans l117_80
            have l118_81 := u118_81.trans l118_80
            have l119_81 := u119_81.trans l119_80
            have l120_81 := u120_81.trans l120_80
            have l121_81 := u121_81.trans l121_80
            have l122_81 := u122_81.trans l122_80
            have l123_81 := u123_81.trans l123_80
            have l124_81 := u124_81.trans l124_80
            have l125_81 := u125_81.trans l125_80
            have l126_81 := u126_81.trans l126_80
            have l127_81 := u127_81.trans l127_80
            have l128_81 := u128_81.trans l128_80
            have l129_81 := u129_81.trans l129_80
            have l130_81 := u130_81.trans l130_80
            have l131_81 := u131_81.trans l131_80
            have l132_81 := u132_81.trans l132_80
            obtain ⟨c_67r_81, c_32b_81, c2_81, hc_67r_81, hc_32b_81, hc2_81, hS81⟩ := gen3 hS81
            refine wp_seq_k (fun K82 hK82 => ?_)
            refine wp_seq_k (fun K83 hK83 => ?_)
            refine region_in ?_
            refine W_v rfl rfl (V_mov rfl l16_81) ?_
            refine W_v rfl rfl (V_mov rfl (es rfl l14_81)) ?_
            refine W_v rfl rfl (V_lenS rfl (et rfl) (ow_at (hS81.chq 0 rfl hc_67r_81)) Try.underlying23) ?_
            refine W_v rfl rfl (V_lss rfl (e2 rfl (et rfl)) (et rfl)) ?_
            refine W_end ?_
            refine gen_Q (fun A84 hA84 => ?_)
            have hsz84 := szq hA84
            have hdf84 : A84.defers = [] := by rw [hA84]; simp only [df_put]; exact hdf81
            have l0_84 := lookE hA84 0 (e3 rfl (es rfl l0_81))
            have l3_84 := lookE hA84 3 (e3 rfl (es rfl l3_81))
            have l5_84 := lookE hA84 5 (e3 rfl (es rfl l5_81))
            have l9_84 := lookE hA84 9 (e3 rfl (es rfl l9_81))
            have l11_84 := lookE hA84 11 (e3 rfl (es rfl l11_81))
            have l12_84 := lookE hA84 12 (e3 rfl (es rfl l12_81))
            have l14_84 := lookE hA84 14 (e3 rfl (es rfl l14_81))
            have l16_84 := lookE hA84 16 (e3 rfl (es rfl l16_81))
            have l94_84 := lookE hA84 94 (e3 rfl (es rfl l94_81))
            have l95_84 := lookE hA84 95 (e3 rfl (es rfl l95_81))
            have l98_84 := lookE hA84 98 (e3 rfl (es rfl l98_81))
            have l99_84 := lookE hA84 99 (e3 rfl (es rfl l99_81))
            have l100_84 := lookE hA84 100 (e3 rfl (es rfl l100_81))
            have l101_84 := lookE hA84 101 (e3 rfl (es rfl l101_81))
            have l102_84 := lookE hA84 102 (e3 rfl (es rfl l102_81))
            have l103_84 := lookE hA84 103 (e3 rfl (es rfl l103_81))
            have l104_84 := lookE hA84 104 (e3 rfl (es rfl l104_81))
            have l107_84 := lookE hA84 107 (e3 rfl (es rfl l107_81))
            have l108_84 := lookE hA84 108 (e3 rfl (es rfl l108_81))
            have l109_84 := lookE hA84 109 (e3 rfl (es rfl l109_81))
            have l110_84 := lookE hA84 110 (e3 rfl (es rfl l110_81))
            have l113_84 := lookE hA84 113 (e3 rfl (es rfl l113_81))
            have l114_84 := lookE hA84 114 (e3 rfl (es rfl l114_81))
            have l117_84 := lookE hA84 117 (e3 rfl (es rfl l117_81))
            have l118_84 := lookE hA84 118 (e3 rfl (es rfl l118_81))
            have l119_84 := lookE hA84 119 (e3 rfl (es rfl l119_81))
            have l120_84 := lookE hA84 120 (e3 rfl (es rfl l120_81))
            have l121_84 := lookE hA84 121 (e3 rfl (es rfl l121_81))
            have l122_84 := lookE hA84 122 (e3 rfl (es rfl l122_81))
            have l123_84 := lookE hA84 123 (e3 rfl (es rfl l123_81))
            have l124_84 := lookE hA84 124 (e3 rfl (es rfl l124_81))
            have l125_84 := lookE hA84 125 (e3 rfl (es rfl l125_81))
            have l126_84 := lookE hA84 126 (e3 rfl (es rfl l126_81))
            have l127_84 := lookE hA84 127 (e3 rfl (es rfl l127_81))
            have l128_84 := lookE hA84 128 (e3 rfl (es rfl l128_81))
            have l129_84 := lookE hA84 129 (e3 rfl (es rfl l129_81))
            have l130_84 := lookE hA84 130 (e3 rfl (es rfl l130_81))
            have l131_84 := lookE hA84 131 (e3 rfl (es rfl l131_81))
            have l132_84 := lookE hA84 132 (e3 rfl (es rfl l132_81))
            have l137_84 := lookE hA84 137 (et rfl)
            clear hA84 hsz81 hdf81 l16_81 l0_81 l3_81 l5_81 l9_81 l11_81 l12_81 l14_81 l94_81 l95_81 l98_81 l99_81 l100_81 l101_81 l102_81 l103_81 l104_81 l107_81 l108_81 l109_81 l110_81 l113_81 l114_81 l117_81 l118_81 l119_81 l120_81 l121_81 l122_81 l123_81 l124_81 l125_81 l126_81 l127_81 l128_81 l129_81 l130_81 l131_81 l132_81
            refine then_n (hK83 _ _ ?_)
            clear hK83
            refine cond_dec l137_84 (fun c85 => ?_) (fun c85 => ?_)
            · skip
              refine wp_skip ?_
              refine then_n (hK82 _ _ ?_)
              clear hK82
              refine wp_seq_k (fun K86 hK86 => ?_)
              refine wp_block ?_
              refine wp_seq_k (fun K87 hK87 => ?_)
              refine region_monoS 46 46 [] (by kernel_rfl) (by kernel_rfl) ?_
              refine D_v rfl rfl (V_mov rfl l14_84) rfl rfl ?_
              refine D_v rfl rfl (V_mov rfl (es rfl l16_84)) rfl rfl ?_
              have k88 : m < (hoT ws c y61.1).length := by first | omega | (simp only [List.length_cons, List.length_nil]; omega) | (simp only [List.length_set]; omega) | decide
              obtain ⟨y88, hy88⟩ := get_some (xs := (hoT ws c y61.1)) (k := m) k88
              have hh88 := sums_ho hsl hrow61.1 hy88
              obtain ⟨B88, O88, C88, hv88⟩ := (SlN.blk (ow_at (hS81.chq 0 rfl hc_67r_81)) (by first | omega | (simp only [List.length_cons, List.length_nil]; omega) | (simp only [List.length_set]; omega) | decide))
              refine D_v rfl rfl (V_ixS (off := O88 + m) 1 (m) rfl (es rfl (et rfl)) (et rfl) hv88 (by omega) k88 Try.underlying23 (by kernel_rfl) (congrArg _ (Nat.mul_one _))) rfl rfl ?_
              refine D_r rfl rfl (by kernel_rfl) (fun sx hx hF => (VR_ldC rfl (et rfl) ((ow_at ((hS81.grow hx).chq 0 rfl hc_67r_81)).cell hv88 (map_get hy88)) Try.underlying3 rfl)) rfl rfl ?_
              refine D_v rfl rfl (V_lss rfl (et rfl) rfl) rfl rfl ?_
              refine D_sure (c' := false) rfl rfl (V_mov rfl (et rfl)) (by rw [decide_eq_false_iff_not]; have q := hh88.1; omega) rfl rfl ?_
              refine D_v rfl (wanted_t rfl rfl (et rfl) (ez rfl)) (V_mov rfl (e5 rfl (es rfl l14_84))) rfl rfl ?_
              refine D_v rfl (wanted_t rfl rfl (es rfl (et rfl)) (ez rfl)) (V_mov rfl (e6 rfl (es rfl l16_84))) rfl rfl ?_
              refine D_v rfl (wanted_t rfl rfl (e2 rfl (et rfl)) (ez rfl)) (V_ixS (off := O88 + m) 1 (m) rfl (es rfl (et rfl)) (et rfl) hv88 (by omega) k88 Try.underlying23 (by kernel_rfl) (congrArg _ (Nat.mul_one _))) rfl rfl ?_
              refine D_r rfl (wanted_t rfl rfl (e3 rfl (et rfl)) (ez rfl)) (by kernel_rfl) (fun sx hx hF => (VR_ldC rfl (et rfl) ((ow_at ((hS81.grow hx).chq 0 rfl hc_67r_81)).cell hv88 (map_get hy88)) Try.underlying3 rfl)) rfl rfl ?_
              refine D_v rfl (wanted_t rfl rfl (e4 rfl (et rfl)) (ez rfl)) (V_mov rfl (e9 rfl (es rfl l0_84))) rfl rfl ?_
              refine D_v rfl (wanted_t rfl rfl (e5 rfl (et rfl)) (ez rfl)) (V_lenS rfl (et rfl) (sl_SlN h_wv.at) Try.underlying22) rfl rfl ?_
              refine D_v rfl (wanted_t rfl rfl (e6 rfl (et rfl)) (ez rfl)) (V_geq rfl (e2 rfl (et rfl)) (et rfl)) rfl rfl ?_
              refine D_v rfl rfl (V_pickF rfl (e7 rfl (et rfl)) (et rfl)) rfl rfl ?_
              refine D_sure (c' := false) rfl rfl (V_mov rfl (et rfl)) (by rw [decide_eq_false_iff_not]; omega) rfl rfl ?_
              refine D_v rfl (wanted_t rfl rfl (et rfl) (ez rfl)) (V_mov rfl (e14 rfl (es rfl l0_84))) rfl rfl ?_
              refine D_v rfl (wanted_t rfl rfl (es rfl (et rfl)) (ez rfl)) (V_mov rfl (e15 rfl (es rfl l14_84))) rfl rfl ?_
              refine D_v rfl (wanted_t rfl rfl (e2 rfl (et rfl)) (ez rfl)) (V_mov rfl (e16 rfl (es rfl l16_84))) rfl rfl ?_
              refine D_v rfl (wanted_t rfl rfl (e3 rfl (et rfl)) (ez rfl)) (V_ixS (off := O88 + m) 1 (m) rfl (es rfl (et rfl)) (et rfl) hv88 (by omega) k88 Try.underlying23 (by kernel_rfl) (congrArg _ (Nat.mul_one _))) rfl rfl ?_
              refine D_r rfl (wanted_t rfl rfl (e4 rfl (et rfl)) (ez rfl)) (by kernel_rfl) (fun sx hx hF => (VR_ldC rfl (et rfl) ((ow_at ((hS81.grow hx).chq 0 rfl hc_67r_81)).cell hv88 (map_get hy88)) Try.underlying3 rfl)) rfl rfl ?_
              have k91 : y88.toNat < ws.length := by first | omega | (simp only [List.length_cons, List.length_nil]; omega) | (simp only [List.length_set]; omega) | decide
              obtain ⟨y91, hy91⟩ := get_some (xs := ws) (k := y88.toNat) k91
              have hwa91 := wA_at hy91
              have hwu91 := hu _ (List.mem_of_getElem? hy91)
              obtain ⟨B91, O91, C91, hv91⟩ := (SlN.blk (sl_SlN h_wv.at) (by first | omega | (simp only [List.length_cons, List.length_nil]; omega) | (simp only [List.length_set]; omega) | decide))
              refine D_v rfl (wanted_t rfl rfl (e5 rfl (et rfl)) (ez rfl)) (V_ixS (off := O91 + y88.toNat) 1 (y88.toNat) rfl (e4 rfl (et rfl)) (et rfl) hv91 (by omega) k91 Try.underlying22 (by kernel_rfl) (congrArg _ (Nat.mul_one _))) rfl rfl ?_
              refine D_r rfl (wanted_t rfl rfl (e6 rfl (et rfl)) (ez rfl)) (by kernel_rfl) (fun sx hx hF => (VR_ldC rfl (et rfl) ((sl_SlN ((hS81.grow hx).ro h_wv)).cell hv91 (map_get hy91)) Try.underlying40 rfl)) rfl rfl ?_
              refine D_v rfl (wanted_t rfl rfl (e7 rfl (et rfl)) (ez rfl)) (V_mov rfl (e21 rfl (es rfl l5_84))) rfl rfl ?_
              refine D_v rfl (wanted_t rfl rfl (e8 rfl (et rfl)) (ez rfl)) (V_mov rfl (e22 rfl (es rfl l11_84))) rfl rfl ?_
              refine D_v rfl (wanted_t rfl rfl (e9 rfl (et rfl)) (ez rfl)) (V_ixS (off := O61 + j * 2) 2 (j) rfl (es rfl (et rfl)) (et rfl) hv61 (by omega) k61 Try.underlying28 (by kernel_rfl) rfl) rfl rfl ?_
              refine D_v rfl (wanted_t rfl rfl (e10 rfl (et rfl)) (ez rfl)) (V_fa (off' := O61 + j * 2 + 0) rfl (et rfl) Try.underlying42 rfl (by decide +kernel) rfl) rfl rfl ?_
              refine D_r rfl (wanted_t rfl rfl (e11 rfl (et rfl)) (ez rfl)) (by kernel_rfl) (fun sx hx hF => (VR_ldC (v := .int .i64 (y61.1)) rfl (et rfl) (SlN.row rcC_len (ow_at ((hS81.grow hx).chq 1 rfl hc_32b_81)) hv61 hy61 rfl 0 _ rfl) Try.underlying3 rfl)) rfl rfl ?_
              refine D_v rfl (wanted_t rfl rfl (e12 rfl (et rfl)) (ez rfl)) (V_cvt rfl (et rfl) Try.underlying3 Try.underlying40 (wrap_u64 (by omega) (by omega))) rfl rfl ?_
              refine D_v rfl (wanted_t rfl rfl (e13 rfl (et rfl)) (ez rfl)) (V_neq rfl (e6 rfl (et rfl)) (et rfl)) rfl rfl ?_
              refine D_v rfl rfl (V_pickF rfl (e14 rfl (et rfl)) (et rfl)) rfl rfl ?_
              refine D_sure (c' := false) rfl rfl (V_mov rfl (et rfl)) (by rw [decide_eq_false_iff_not]; have q := hh88.2.1; omega) rfl rfl ?_
              refine D_v rfl (wanted_t rfl rfl (et rfl) (ez rfl)) (V_mov rfl (e25 rfl (es rfl (es rfl (es rfl (es rfl (es rfl (es rfl l16_84)))))))) rfl rfl ?_
              refine D_v rfl (wanted_t rfl rfl (es rfl (et rfl)) (ez rfl)) (V_gtr rfl (et rfl) rfl) rfl rfl ?_
              refine D_split rfl (wanted_t rfl rfl (e2 rfl (et rfl)) (ez rfl)) (V_mov rfl (et rfl)) rfl rfl (fun c93 => ?_) (fun c93 => ?_)
              · skip
                refine D_v rfl (wanted_t rfl rfl (et rfl) (ez rfl)) (V_mov rfl (e25 rfl (es rfl (es rfl (es rfl (es rfl (es rfl (es rfl (es rfl (es rfl (es rfl l14_84))))))))))) rfl rfl ?_
                refine D_v rfl (wanted_t rfl rfl (es rfl (et rfl)) (ez rfl)) (V_mov rfl (e25 rfl (es rfl (es rfl (es rfl (es rfl (es rfl (es rfl (es rfl (es rfl (es rfl (es rfl l16_84)))))))))))) rfl rfl ?_
                refine D_v rfl (wanted_t rfl rfl (e2 rfl (et rfl)) (ez rfl)) (V_ixS (off := O88 + m) 1 (m) rfl (es rfl (et rfl)) (et rfl) hv88 (by omega) k88 Try.underlying23 (by kernel_rfl) (congrArg _ (Nat.mul_one _))) rfl rfl ?_
                refine D_r rfl (wanted_t rfl rfl (e3 rfl (et rfl)) (ez rfl)) (by kernel_rfl) (fun sx hx hF => (VR_ldC rfl (et rfl) ((ow_at ((hS81.grow hx).chq 0 rfl hc_67r_81)).cell hv88 (map_get hy88)) Try.underlying3 rfl)) rfl rfl ?_
                refine D_v rfl (wanted_t rfl rfl (e4 rfl (et rfl)) (ez rfl)) (V_mov rfl (e25 rfl (es rfl (es rfl (es rfl (es rfl (es rfl (es rfl (es rfl (es rfl (es rfl (es rfl (es rfl (es rfl (es rfl l14_84))))))))))))))) rfl rfl ?_
                refine D_v rfl (wanted_t rfl rfl (e5 rfl (et rfl)) (ez rfl)) (V_mov rfl (e25 rfl (es rfl (es rfl (es rfl (es rfl (es rfl (es rfl (es rfl (es rfl (es rfl (es rfl (es rfl (es rfl (es rfl (es rfl l16_84)))))))))))))))) rfl rfl ?_
                refine D_v rfl (wanted_t rfl rfl (e6 rfl (et rfl)) (ez rfl)) (V_sb rfl (et rfl) rfl (by omega) (by omega)) rfl rfl ?_
                have k95 : (m - 1) < (hoT ws c y61.1).length := by first | omega | (simp only [List.length_cons, List.length_nil]; omega) | (simp only [List.length_set]; omega) | decide
                obtain ⟨y95, hy95⟩ := get_some (xs := (hoT ws c y61.1)) (k := (m - 1)) k95
                refine D_v rfl (wanted_t rfl rfl (e7 rfl (et rfl)) (ez rfl)) (V_ixS (off := O88 + (m - 1)) 1 ((m - 1)) rfl (e2 rfl (et rfl)) (et rfl) hv88 (by omega) k95 Try.underlying23 (by kernel_rfl) (congrArg _ (Nat.mul_one _))) rfl rfl ?_
                refine D_r rfl (wanted_t rfl rfl (e8 rfl (et rfl)) (ez rfl)) (by kernel_rfl) (fun sx hx hF => (VR_ldC rfl (et rfl) ((ow_at ((hS81.grow hx).chq 0 rfl hc_67r_81)).cell hv88 (map_get hy95)) Try.underlying3 rfl)) rfl rfl ?_
                refine D_v rfl (wanted_t rfl rfl (e9 rfl (et rfl)) (ez rfl)) (V_leq rfl (e5 rfl (et rfl)) (et rfl)) rfl rfl ?_
                refine D_v rfl (wanted_t rfl rfl (e13 rfl (et rfl)) (ez rfl)) (V_pickT rfl (e10 rfl (et rfl)) (et rfl)) rfl rfl ?_
                refine D_v rfl rfl (V_pickF rfl (e14 rfl (et rfl)) (et rfl)) rfl rfl ?_
                refine ZS_none hS81 (Nat.le_refl _) (Nat.le_refl _) (fun s96 hJ96 hL96 hF96 => ?_)
                have hS96 := hJ96.st; clear hF96 hJ96 hL96
                generalize s96.1 = w96 at *
                replace hS96 : St w NoX [c_67r_81, c_32b_81, c2_81] w96 := hS96
                refine gen_Q (fun A97 hA97 => ?_)
                have hsz97 := szq hA97
                have hdf97 : A97.defers = [] := by rw [hA97]; simp only [df_put]; exact hdf84
                have l0_97 := lookE hA97 0 (e25 rfl (es rfl (es rfl (es rfl (es rfl (es rfl (es rfl (es rfl (es rfl (es rfl (es rfl (es rfl (es rfl (es rfl (es rfl (es rfl (es rfl (es rfl (es rfl (es rfl (es rfl (es rfl l0_84))))))))))))))))))))))
                have l3_97 := lookE hA97 3 (e25 rfl (es rfl (es rfl (es rfl (es rfl (es rfl (es rfl (es rfl (es rfl (es rfl (es rfl (es rfl (es rfl (es rfl (es rfl (es rfl (es rfl (es rfl (es rfl (es rfl (es rfl (es rfl l3_84))))))))))))))))))))))
                have l5_97 := lookE hA97 5 (e25 rfl (es rfl (es rfl (es rfl (es rfl (es rfl (es rfl (es rfl (es rfl (es rfl (es rfl (es rfl (es rfl (es rfl (es rfl (es rfl (es rfl (es rfl (es rfl (es rfl (es rfl (es rfl l5_84))))))))))))))))))))))
                have l9_97 := lookE hA97 9 (e25 rfl (es rfl (es rfl (es rfl (es rfl (es rfl (es rfl (es rfl (es rfl (es rfl (es rfl (es rfl (es rfl (es rfl (es rfl (es rfl (es rfl (es rfl (es rfl (es rfl (es rfl (es rfl l9_84))))))))))))))))))))))
                have l11_97 := lookE hA97 11 (e25 rfl (es rfl (es rfl (es rfl (es rfl (es rfl (es rfl (es rfl (es rfl (es rfl (es rfl (es rfl (es rfl (es rfl (es rfl (es rfl (es rfl (es rfl (es rfl (es rfl (es rfl (es rfl l11_84))))))))))))))))))))))
                have l12_97 := lookE hA97 12 (e25 rfl (es rfl (es rfl (es rfl (es rfl (es rfl (es rfl (es rfl (es rfl (es rfl (es rfl (es rfl (es rfl (es rfl (es rfl (es rfl (es rfl (es rfl (es rfl (es rfl (es rfl (es rfl l12_84))))))))))))))))))))))
                have l14_97 := lookE hA97 14 (e25 rfl (es rfl (es rfl (es rfl (es rfl (es rfl (es rfl (es rfl (es rfl (es rfl (es rfl (es rfl (es rfl (es rfl (es rfl (es rfl (es rfl (es rfl (es rfl (es rfl (es rfl (es rfl l14_84))))))))))))))))))))))
                have l16_97 := lookE hA97 16 (e25 rfl (es rfl (es rfl (es rfl (es rfl (es rfl (es rfl (es rfl (es rfl (es rfl (es rfl (es rfl (es rfl (es rfl (es rfl (es rfl (es rfl (es rfl (es rfl (es rfl (es rfl (es rfl l16_84))))))))))))))))))))))
                have l94_97 := lookE hA97 94 (e25 rfl (es rfl (es rfl (es rfl (es rfl (es rfl (es rfl (es rfl (es rfl (es rfl (es rfl (es rfl (es rfl (es rfl (es rfl (es rfl (es rfl (es rfl (es rfl (es rfl (es rfl (es rfl l94_84))))))))))))))))))))))
                have l95_97 := lookE hA97 95 (e25 rfl (es rfl (es rfl (es rfl (es rfl (es rfl (es rfl (es rfl (es rfl (es rfl (es rfl (es rfl (es rfl (es rfl (es rfl (es rfl (es rfl (es rfl (es rfl (es rfl (es rfl (es rfl l95_84))))))))))))))))))))))
                have l98_97 := lookE hA97 98 (e25 rfl (es rfl (es rfl (es rfl (es rfl (es rfl (es rfl (es rfl (es rfl (es rfl (es rfl (es rfl (es rfl (es rfl (es rfl (es rfl (es rfl (es rfl (es rfl (es rfl (es rfl (es rfl l98_84))))))))))))))))))))))
                have l99_97 := lookE hA97 99 (e25 rfl (es rfl (es rfl (es rfl (es rfl (es rfl (es rfl (es rfl (es rfl (es rfl (es rfl (es rfl (es rfl (es rfl (es rfl (es rfl (es rfl (es rfl (es rfl (es rfl (es rfl (es rfl l99_84))))))))))))))))))))))
                have l100_97 := lookE hA97 100 (e25 rfl (es rfl (es rfl (es rfl (es rfl (es rfl (es rfl (es rfl (es rfl (es rfl (es rfl (es rfl (es rfl (es rfl (es rfl (es rfl (es rfl (es rfl (es rfl (es rfl (es rfl (es rfl l100_84))))))))))))))))))))))
                have l101_97 := lookE hA97 101 (e25 rfl (es rfl (es rfl (es rfl (es rfl (es rfl (es rfl (es rfl (es rfl (es rfl (es rfl (es rfl (es rfl (es rfl (es rfl (es rfl (es rfl (es rfl (es rfl (es rfl (es rfl (es rfl l101_84))))))))))))))))))))))
                have l102_97 := lookE hA97 102 (e25 rfl (es rfl (es rfl (es rfl (es rfl (es rfl (es rfl (es rfl (es rfl (es rfl (es rfl (es rfl (es rfl (es rfl (es rfl (es rfl (es rfl (es rfl (es rfl (es rfl (es rfl (es rfl l102_84))))))))))))))))))))))
                have l103_97 := lookE hA97 103 (e25 rfl (es rfl (es rfl (es rfl (es rfl (es rfl (es rfl (es rfl (es rfl (es rfl (es rfl (es rfl (es rfl (es rfl (es rfl (es rfl (es rfl (es rfl (es rfl (es rfl (es rfl (es rfl l103_84))))))))))))))))))))))
                have l104_97 := lookE hA97 104 (e25 rfl (es rfl (es rfl (es rfl (es rfl (es rfl (es rfl (es rfl (es rfl (es rfl (es rfl (es rfl (es rfl (es rfl (es rfl (es rfl (es rfl (es rfl (es rfl (es rfl (es rfl (es rfl l104_84))))))))))))))))))))))
                have l107_97 := lookE hA97 107 (e25 rfl (es rfl (es rfl (es rfl (es rfl (es rfl (es rfl (es rfl (es rfl (es rfl (es rfl (es rfl (es rfl (es rfl (es rfl (es rfl (es rfl (es rfl (es rfl (es rfl (es rfl (es rfl l107_84))))))))))))))))))))))
                have l108_97 := lookE hA97 108 (e25 rfl (es rfl (es rfl (es rfl (es rfl (es rfl (es rfl (es rfl (es rfl (es rfl (es rfl (es rfl (es rfl (es rfl (es rfl (es rfl (es rfl (es rfl (es rfl (es rfl (es rfl (es rfl l108_84))))))))))))))))))))))
                have l109_97 := lookE hA97 109 (e25 rfl (es rfl (es rfl (es rfl (es rfl (es rfl (es rfl (es rfl (es rfl (es rfl (es rfl (es rfl (es rfl (es rfl (es rfl (es rfl (es rfl (es rfl (es rfl (es rfl (es rfl (es rfl l109_84))))))))))))))))))))))
                have l110_97 := lookE hA97 110 (e25 rfl (es rfl (es rfl (es rfl (es rfl (es rfl (es rfl (es rfl (es rfl (es rfl (es rfl (es rfl (es rfl (es rfl (es rfl (es rfl (es rfl (es rfl (es rfl (es rfl (es rfl (es rfl l110_84))))))))))))))))))))))
                have l113_97 := lookE hA97 113 (e25 rfl (es rfl (es rfl (es rfl (es rfl (es rfl (es rfl (es rfl (es rfl (es rfl (es rfl (es rfl (es rfl (es rfl (es rfl (es rfl (es rfl (es rfl (es rfl (es rfl (es rfl (es rfl l113_84))))))))))))))))))))))
                have l114_97 := lookE hA97 114 (e25 rfl (es rfl (es rfl (es rfl (es rfl (es rfl (es rfl (es rfl (es rfl (es rfl (es rfl (es rfl (es rfl (es rfl (es rfl (es rfl (es rfl (es rfl (es rfl (es rfl (es rfl (es rfl l114_84))))))))))))))))))))))
                have l117_97 := lookE hA97 117 (e25 rfl (es rfl (es rfl (es rfl (es rfl (es rfl (es rfl (es rfl (es rfl (es rfl (es rfl (es rfl (es rfl (es rfl (es rfl (es rfl (es rfl (es rfl (es rfl (es rfl (es rfl (es rfl l117_84))))))))))))))))))))))
                have l118_97 := lookE hA97 118 (e25 rfl (es rfl (es rfl (es rfl (es rfl (es rfl (es rfl (es rfl (es rfl (es rfl (es rfl (es rfl (es rfl (es rfl (es rfl (es rfl (es rfl (es rfl (es rfl (es rfl (es rfl (es rfl l118_84))))))))))))))))))))))
                have l119_97 := lookE hA97 119 (e25 rfl (es rfl (es rfl (es rfl (es rfl (es rfl (es rfl (es rfl (es rfl (es rfl (es rfl (es rfl (es rfl (es rfl (es rfl (es rfl (es rfl (es rfl (es rfl (es rfl (es rfl (es rfl l119_84))))))))))))))))))))))
                have l120_97 := lookE hA97 120 (e25 rfl (es rfl (es rfl (es rfl (es rfl (es rfl (es rfl (es rfl (es rfl (es rfl (es rfl (es rfl (es rfl (es rfl (es rfl (es rfl (es rfl (es rfl (es rfl (es rfl (es rfl (es rfl l120_84))))))))))))))))))))))
                have l121_97 := lookE hA97 121 (e25 rfl (es rfl (es rfl (es rfl (es rfl (es rfl (es rfl (es rfl (es rfl (es rfl (es rfl (es rfl (es rfl (es rfl (es rfl (es rfl (es rfl (es rfl (es rfl (es rfl (es rfl (es rfl l121_84))))))))))))))))))))))
                have l122_97 := lookE hA97 122 (e25 rfl (es rfl (es rfl (es rfl (es rfl (es rfl (es rfl (es rfl (es rfl (es rfl (es rfl (es rfl (es rfl (es rfl (es rfl (es rfl (es rfl (es rfl (es rfl (es rfl (es rfl (es rfl l122_84))))))))))))))))))))))
                have l123_97 := lookE hA97 123 (e25 rfl (es rfl (es rfl (es rfl (es rfl (es rfl (es rfl (es rfl (es rfl (es rfl (es rfl (es rfl (es rfl (es rfl (es rfl (es rfl (es rfl (es rfl (es rfl (es rfl (es rfl (es rfl l123_84))))))))))))))))))))))
                have l124_97 := lookE hA97 124 (e25 rfl (es rfl (es rfl (es rfl (es rfl (es rfl (es rfl (es rfl (es rfl (es rfl (es rfl (es rfl (es rfl (es rfl (es rfl (es rfl (es rfl (es rfl (es rfl (es rfl (es rfl (es rfl l124_84))))))))))))))))))))))
                have l125_97 := lookE hA97 125 (e25 rfl (es rfl (es rfl (es rfl (es rfl (es rfl (es rfl (es rfl (es rfl (es rfl (es rfl (es rfl (es rfl (es rfl (es rfl (es rfl (es rfl (es rfl (es rfl (es rfl (es rfl (es rfl l125_84))))))))))))))))))))))
                have l126_97 := lookE hA97 126 (e25 rfl (es rfl (es rfl (es rfl (es rfl (es rfl (es rfl (es rfl (es rfl (es rfl (es rfl (es rfl (es rfl (es rfl (es rfl (es rfl (es rfl (es rfl (es rfl (es rfl (es rfl (es rfl l126_84))))))))))))))))))))))
                have l127_97 := lookE hA97 127 (e25 rfl (es rfl (es rfl (es rfl (es rfl (es rfl (es rfl (es rfl (es rfl (es rfl (es rfl (es rfl (es rfl (es rfl (es rfl (es rfl (es rfl (es rfl (es rfl (es rfl (es rfl (es rfl l127_84))))))))))))))))))))))
                have l128_97 := lookE hA97 128 (e25 rfl (es rfl (es rfl (es rfl (es rfl (es rfl (es rfl (es rfl (es rfl (es rfl (es rfl (es rfl (es rfl (es rfl (es rfl (es rfl (es rfl (es rfl (es rfl (es rfl (es rfl (es rfl l128_84))))))))))))))))))))))
                have l129_97 := lookE hA97 129 (e25 rfl (es rfl (es rfl (es rfl (es rfl (es rfl (es rfl (es rfl (es rfl (es rfl (es rfl (es rfl (es rfl (es rfl (es rfl (es rfl (es rfl (es rfl (es rfl (es rfl (es rfl (es rfl l129_84))))))))))))))))))))))
                have l130_97 := lookE hA97 130 (e25 rfl (es rfl (es rfl (es rfl (es rfl (es rfl (es rfl (es rfl (es rfl (es rfl (es rfl (es rfl (es rfl (es rfl (es rfl (es rfl (es rfl (es rfl (es rfl (es rfl (es rfl (es rfl l130_84))))))))))))))))))))))
                have l131_97 := lookE hA97 131 (e25 rfl (es rfl (es rfl (es rfl (es rfl (es rfl (es rfl (es rfl (es rfl (es rfl (es rfl (es rfl (es rfl (es rfl (es rfl (es rfl (es rfl (es rfl (es rfl (es rfl (es rfl (es rfl l131_84))))))))))))))))))))))
                have l132_97 := lookE hA97 132 (e25 rfl (es rfl (es rfl (es rfl (es rfl (es rfl (es rfl (es rfl (es rfl (es rfl (es rfl (es rfl (es rfl (es rfl (es rfl (es rfl (es rfl (es rfl (es rfl (es rfl (es rfl (es rfl l132_84))))))))))))))))))))))
                have l146_97 := lookE hA97 146 (e25 rfl (es rfl (es rfl (es rfl (es rfl (es rfl (es rfl (es rfl (es rfl (es rfl (es rfl (es rfl (es rfl (es rfl (es rfl (et rfl))))))))))))))))
                have l147_97 := lookE hA97 147 (e25 rfl (es rfl (es rfl (es rfl (es rfl (es rfl (es rfl (es rfl (es rfl (es rfl (es rfl (es rfl (es rfl (es rfl (et rfl)))))))))))))))
                have l148_97 := lookE hA97 148 (e25 rfl (es rfl (es rfl (es rfl (es rfl (es rfl (es rfl (es rfl (es rfl (es rfl (es rfl (es rfl (es rfl (et rfl))))))))))))))
                have l149_97 := lookE hA97 149 (e25 rfl (es rfl (es rfl (es rfl (es rfl (es rfl (es rfl (es rfl (es rfl (es rfl (es rfl (es rfl (et rfl)))))))))))))
                have l150_97 := lookE hA97 150 (e25 rfl (es rfl (es rfl (es rfl (es rfl (es rfl (es rfl (es rfl (es rfl (es rfl (es rfl (et rfl))))))))))))
                have l151_97 := lookE hA97 151 (e25 rfl (es rfl (es rfl (es rfl (es rfl (es rfl (es rfl (es rfl (es rfl (es rfl (et rfl)))))))))))
                have l152_97 := lookE hA97 152 (e25 rfl (es rfl (es rfl (es rfl (es rfl (es rfl (es rfl (es rfl (es rfl (et rfl))))))))))
                have l155_97 := lookE hA97 155 (e25 rfl (es rfl (es rfl (es rfl (es rfl (es rfl (et rfl)))))))
                have l156_97 := lookE hA97 156 (e25 rfl (es rfl (es rfl (es rfl (es rfl (et rfl))))))
                have l157_97 := lookE hA97 157 (e25 rfl (es rfl (es rfl (es rfl (et rfl)))))
                have l158_97 := lookE hA97 158 (e25 rfl (es rfl (es rfl (et rfl))))
                have l159_97 := lookE hA97 159 (e25 rfl (es rfl (et rfl)))
                have l160_97 := lookE hA97 160 (e25 rfl (et rfl))
                have l161_97 := lookE hA97 161 (e24 rfl (et rfl))
                have l162_97 := lookE hA97 162 (e23 rfl (et rfl))
                have l163_97 := lookE hA97 163 (e22 rfl (et rfl))
                have l164_97 := lookE hA97 164 (e21 rfl (et rfl))
                have l165_97 := lookE hA97 165 (e20 rfl (et rfl))
                have l166_97 := lookE hA97 166 (e19 rfl (et rfl))
                have l167_97 := lookE hA97 167 (e18 rfl (et rfl))
                have l168_97 := lookE hA97 168 (e17 rfl (et rfl))
                have l171_97 := lookE hA97 171 (e14 rfl (et rfl))
                have l172_97 := lookE hA97 172 (e13 rfl (et rfl))
                have l173_97 := lookE hA97 173 (e12 rfl (et rfl))
                have l174_97 := lookE hA97 174 (e11 rfl (et rfl))
                have l175_97 := lookE hA97 175 (e10 rfl (et rfl))
                have l176_97 := lookE hA97 176 (e9 rfl (et rfl))
                have l177_97 := lookE hA97 177 (e8 rfl (et rfl))
                have l178_97 := lookE hA97 178 (e7 rfl (et rfl))
                have l179_97 := lookE hA97 179 (e6 rfl (et rfl))
                have l180_97 := lookE hA97 180 (e5 rfl (et rfl))
                have l181_97 := lookE hA97 181 (e4 rfl (et rfl))
                have l182_97 := lookE hA97 182 (e3 rfl (et rfl))
                have l183_97 := lookE hA97 183 (e2 rfl (et rfl))
                have l184_97 := lookE hA97 184 (es rfl (et rfl))
                have l185_97 := lookE hA97 185 (et rfl)
                clear hA97 hsz84 hdf84 l0_84 l3_84 l5_84 l9_84 l11_84 l12_84 l14_84 l16_84 l94_84 l95_84 l98_84 l99_84 l100_84 l101_84 l102_84 l103_84 l104_84 l107_84 l108_84 l109_84 l110_84 l113_84 l114_84 l117_84 l118_84 l119_84 l120_84 l121_84 l122_84 l123_84 l124_84 l125_84 l126_84 l127_84 l128_84 l129_84 l130_84 l131_84 l132_84 l137_84
                refine then_n (hK87 _ _ ?_)
                clear hK87
                refine cond_not l185_97 (by rw [decide_eq_false_iff_not]; have q := hh88.2.2 _ _ (show m - 1 < m by omega) hy95; omega) ?_
                refine wp_skip ?_
                refine inb_n ?_
                refine then_n (hK86 _ _ ?_)
                clear hK86
                refine region_in ?_
                refine W_v rfl rfl (V_mov rfl l16_97) ?_
                refine W_v rfl rfl (V_add rfl (et rfl) rfl (by omega) (by omega)) ?_
                refine W_v rfl rfl (V_asg rfl (et rfl)) ?_
                refine W_end ?_
                refine gen_Q (fun A98 hA98 => ?_)
                have hsz98 := szq hA98
                have hdf98 : A98.defers = [] := by rw [hA98]; simp only [df_put]; exact hdf97
                have l0_98 := lookE hA98 0 (e2 rfl (es rfl l0_97))
                have l3_98 := lookE hA98 3 (e2 rfl (es rfl l3_97))
                have l5_98 := lookE hA98 5 (e2 rfl (es rfl l5_97))
                have l9_98 := lookE hA98 9 (e2 rfl (es rfl l9_97))
                have l11_98 := lookE hA98 11 (e2 rfl (es rfl l11_97))
                have l12_98 := lookE hA98 12 (e2 rfl (es rfl l12_97))
                have l14_98 := lookE hA98 14 (e2 rfl (es rfl l14_97))
                have l16_98 := lookE hA98 16 (et rfl)
                have l94_98 := lookE hA98 94 (e2 rfl (es rfl l94_97))
                have l95_98 := lookE hA98 95 (e2 rfl (es rfl l95_97))
                have l98_98 := lookE hA98 98 (e2 rfl (es rfl l98_97))
                have l99_98 := lookE hA98 99 (e2 rfl (es rfl l99_97))
                have l100_98 := lookE hA98 100 (e2 rfl (es rfl l100_97))
                have l101_98 := lookE hA98 101 (e2 rfl (es rfl l101_97))
                have l102_98 := lookE hA98 102 (e2 rfl (es rfl l102_97))
                have l103_98 := lookE hA98 103 (e2 rfl (es rfl l103_97))
                have l104_98 := lookE hA98 104 (e2 rfl (es rfl l104_97))
                have l107_98 := lookE hA98 107 (e2 rfl (es rfl l107_97))
                have l108_98 := lookE hA98 108 (e2 rfl (es rfl l108_97))
                have l109_98 := lookE hA98 109 (e2 rfl (es rfl l109_97))
                have l110_98 := lookE hA98 110 (e2 rfl (es rfl l110_97))
                have l113_98 := lookE hA98 113 (e2 rfl (es rfl l113_97))
                have l114_98 := lookE hA98 114 (e2 rfl (es rfl l114_97))
                have l117_98 := lookE hA98 117 (e2 rfl (es rfl l117_97))
                have l118_98 := lookE hA98 118 (e2 rfl (es rfl l118_97))
                have l119_98 := lookE hA98 119 (e2 rfl (es rfl l119_97))
                have l120_98 := lookE hA98 120 (e2 rfl (es rfl l120_97))
                have l121_98 := lookE hA98 121 (e2 rfl (es rfl l121_97))
                have l122_98 := lookE hA98 122 (e2 rfl (es rfl l122_97))
                have l123_98 := lookE hA98 123 (e2 rfl (es rfl l123_97))
                have l124_98 := lookE hA98 124 (e2 rfl (es rfl l124_97))
                have l125_98 := lookE hA98 125 (e2 rfl (es rfl l125_97))
                have l126_98 := lookE hA98 126 (e2 rfl (es rfl l126_97))
                have l127_98 := lookE hA98 127 (e2 rfl (es rfl l127_97))
                have l128_98 := lookE hA98 128 (e2 rfl (es rfl l128_97))
                have l129_98 := lookE hA98 129 (e2 rfl (es rfl l129_97))
                have l130_98 := lookE hA98 130 (e2 rfl (es rfl l130_97))
                have l131_98 := lookE hA98 131 (e2 rfl (es rfl l131_97))
                have l132_98 := lookE hA98 132 (e2 rfl (es rfl l132_97))
                have l146_98 := lookE hA98 146 (e2 rfl (es rfl l146_97))
                have l147_98 := lookE hA98 147 (e2 rfl (es rfl l147_97))
                have l148_98 := lookE hA98 148 (e2 rfl (es rfl l148_97))
                have l149_98 := lookE hA98 149 (e2 rfl (es rfl l149_97))
                have l150_98 := lookE hA98 150 (e2 rfl (es rfl l150_97))
                have l151_98 := lookE hA98 151 (e2 rfl (es rfl l151_97))
                have l152_98 := lookE hA98 152 (e2 rfl (es rfl l152_97))
                have l155_98 := lookE hA98 155 (e2 rfl (es rfl l155_97))
                have l156_98 := lookE hA98 156 (e2 rfl (es rfl l156_97))
                have l157_98 := lookE hA98 157 (e2 rfl (es rfl l157_97))
                have l158_98 := lookE hA98 158 (e2 rfl (es rfl l158_97))
                have l159_98 := lookE hA98 159 (e2 rfl (es rfl l159_97))
                have l160_98 := lookE hA98 160 (e2 rfl (es rfl l160_97))
                have l161_98 := lookE hA98 161 (e2 rfl (es rfl l161_97))
                have l162_98 := lookE hA98 162 (e2 rfl (es rfl l162_97))
                have l163_98 := lookE hA98 163 (e2 rfl (es rfl l163_97))
                have l164_98 := lookE hA98 164 (e2 rfl (es rfl l164_97))
                have l165_98 := lookE hA98 165 (e2 rfl (es rfl l165_97))
                have l166_98 := lookE hA98 166 (e2 rfl (es rfl l166_97))
                have l167_98 := lookE hA98 167 (e2 rfl (es rfl l167_97))
                have l168_98 := lookE hA98 168 (e2 rfl (es rfl l168_97))
                have l171_98 := lookE hA98 171 (e2 rfl (es rfl l171_97))
                have l172_98 := lookE hA98 172 (e2 rfl (es rfl l172_97))
                have l173_98 := lookE hA98 173 (e2 rfl (es rfl l173_97))
                have l174_98 := lookE hA98 174 (e2 rfl (es rfl l174_97))
                have l175_98 := lookE hA98 175 (e2 rfl (es rfl l175_97))
                have l176_98 := lookE hA98 176 (e2 rfl (es rfl l176_97))
                have l177_98 := lookE hA98 177 (e2 rfl (es rfl l177_97))
                have l178_98 := lookE hA98 178 (e2 rfl (es rfl l178_97))
                have l179_98 := lookE hA98 179 (e2 rfl (es rfl l179_97))
                have l180_98 := lookE hA98 180 (e2 rfl (es rfl l180_97))
                have l181_98 := lookE hA98 181 (e2 rfl (es rfl l181_97))
                have l182_98 := lookE hA98 182 (e2 rfl (es rfl l182_97))
                have l183_98 := lookE hA98 183 (e2 rfl (es rfl l183_97))
                have l184_98 := lookE hA98 184 (e2 rfl (es rfl l184_97))
                clear hA98 hsz97 hdf97 l0_97 l3_97 l5_97 l9_97 l11_97 l12_97 l14_97 l16_97 l94_97 l95_97 l98_97 l99_97 l100_97 l101_97 l102_97 l103_97 l104_97 l107_97 l108_97 l109_97 l110_97 l113_97 l114_97 l117_97 l118_97 l119_97 l120_97 l121_97 l122_97 l123_97 l124_97 l125_97 l126_97 l127_97 l128_97 l129_97 l130_97 l131_97 l132_97 l146_97 l147_97 l148_97 l149_97 l150_97 l151_97 l152_97 l155_97 l156_97 l157_97 l158_97 l159_97 l160_97 l161_97 l162_97 l163_97 l164_97 l165_97 l166_97 l167_97 l168_97 l171_97 l172_97 l173_97 l174_97 l175_97 l176_97 l177_97 l178_97 l179_97 l180_97 l181_97 l182_97 l183_97 l184_97 l185_97
                refine then_n ⟨(hoT ws c y61.1).length - (m + 1), by simp only [hm81]; omega, hsz98, hdf98, (m + 1), rfl, (by omega), ((l16_98).trans (by first | rfl | (simp; done) | (congr 1; omega))), ((l0_98).trans l0_80.symm), ((l3_98).trans l3_80.symm), ((l5_98).trans l5_80.symm), ((l9_98).trans l9_80.symm), ((l11_98).trans l11_80.symm), ((l12_98).trans l12_80.symm), ((l14_98).trans l14_80.symm), ((l94_98).trans l94_80.symm), ((l95_98).trans l95_80.symm), ((l98_98).trans l98_80.symm), ((l99_98).trans l99_80.symm), ((l100_98).trans l100_80.symm), ((l101_98).trans l101_80.symm), ((l102_98).trans l102_80.symm), ((l103_98).trans l103_80.symm), ((l104_98).trans l104_80.symm), ((l107_98).trans l107_80.symm), ((l108_98).trans l108_80.symm), ((l109_98).trans l109_80.symm), ((l110_98).trans l110_80.symm), ((l113_98).trans l113_80.symm), ((l114_98).trans l114_80.symm), ((l117_98).trans l117_80.symm), ((l118_98).trans l118_80.symm), ((l119_98).trans l119_80.symm), ((l120_98).trans l120_80.symm), ((l121_98).trans l121_80.symm), ((l122_98).trans l122_80.symm), ((l123_98).trans l123_80.symm), ((l124_98).trans l124_80.symm), ((l125_98).trans l125_80.symm), ((l126_98).trans l126_80.symm), ((l127_98).trans l127_80.symm), ((l128_98).trans l128_80.symm), ((l129_98).trans l129_80.symm), ((l130_98).trans l130_80.symm), ((l131_98).trans l131_80.symm), ((l132_98).trans l132_80.symm), (by subst hc_67r_81 hc_32b_81 hc2_81; exact hS96)⟩
              · skip
                refine D_off rfl (wanted_f rfl rfl (et rfl) (ez rfl) rfl) rfl ?_
                refine D_off rfl (wanted_f rfl rfl (es rfl (et rfl)) (ez rfl) rfl) rfl ?_
                refine D_off rfl (wanted_f rfl rfl (e2 rfl (et rfl)) (ez rfl) rfl) rfl ?_
                refine D_off rfl (wanted_f rfl rfl (e3 rfl (et rfl)) (ez rfl) rfl) rfl ?_
                refine D_off rfl (wanted_f rfl rfl (e4 rfl (et rfl)) (ez rfl) rfl) rfl ?_
                refine D_off rfl (wanted_f rfl rfl (e5 rfl (et rfl)) (ez rfl) rfl) rfl ?_
                refine D_off rfl (wanted_f rfl rfl (e6 rfl (et rfl)) (ez rfl) rfl) rfl ?_
                refine D_off rfl (wanted_f rfl rfl (e7 rfl (et rfl)) (ez rfl) rfl) rfl ?_
                refine D_off rfl (wanted_f rfl rfl (e8 rfl (et rfl)) (ez rfl) rfl) rfl ?_
                refine D_off rfl (wanted_f rfl rfl (e9 rfl (et rfl)) (ez rfl) rfl) rfl ?_
                refine D_v rfl (wanted_t rfl rfl (e13 rfl (et rfl)) (ez rfl)) (V_pickF rfl (e10 rfl (et rfl)) rfl) rfl rfl ?_
                refine D_v rfl rfl (V_pickF rfl (e14 rfl (et rfl)) (et rfl)) rfl rfl ?_
                refine ZS_none hS81 (Nat.le_refl _) (Nat.le_refl _) (fun s99 hJ99 hL99 hF99 => ?_)
                have hS99 := hJ99.st; clear hF99 hJ99 hL99
                generalize s99.1 = w99 at *
                replace hS99 : St w NoX [c_67r_81, c_32b_81, c2_81] w99 := hS99
                refine gen_Q (fun A100 hA100 => ?_)
                have hsz100 := szq hA100
                have hdf100 : A100.defers = [] := by rw [hA100]; simp only [df_put]; exact hdf84
                have l0_100 := lookE hA100 0 (e25 rfl (es rfl (es rfl (es rfl (es rfl (es rfl (es rfl (es rfl (es rfl (es rfl (es rfl (es rfl (es rfl (es rfl (es rfl (es rfl (es rfl (es rfl (es rfl (es rfl (es rfl (es rfl l0_84))))))))))))))))))))))
                have l3_100 := lookE hA100 3 (e25 rfl (es rfl (es rfl (es rfl (es rfl (es rfl (es rfl (es rfl (es rfl (es rfl (es rfl (es rfl (es rfl (es rfl (es rfl (es rfl (es rfl (es rfl (es rfl (es rfl (es rfl (es rfl l3_84))))))))))))))))))))))
                have l5_100 := lookE hA100 5 (e25 rfl (es rfl (es rfl (es rfl (es rfl (es rfl (es rfl (es rfl (es rfl (es rfl (es rfl (es rfl (es rfl (es rfl (es rfl (es rfl (es rfl (es rfl (es rfl (es rfl (es rfl (es rfl l5_84))))))))))))))))))))))
                have l9_100 := lookE hA100 9 (e25 rfl (es rfl (es rfl (es rfl (es rfl (es rfl (es rfl (es rfl (es rfl (es rfl (es rfl (es rfl (es rfl (es rfl (es rfl (es rfl (es rfl (es rfl (es rfl (es rfl (es rfl (es rfl l9_84))))))))))))))))))))))
                have l11_100 := lookE hA100 11 (e25 rfl (es rfl (es rfl (es rfl (es rfl (es rfl (es rfl (es rfl (es rfl (es rfl (es rfl (es rfl (es rfl (es rfl (es rfl (es rfl (es rfl (es rfl (es rfl (es rfl (es rfl (es rfl l11_84))))))))))))))))))))))
                have l12_100 := lookE hA100 12 (e25 rfl (es rfl (es rfl (es rfl (es rfl (es rfl (es rfl (es rfl (es rfl (es rfl (es rfl (es rfl (es rfl (es rfl (es rfl (es rfl (es rfl (es rfl (es rfl (es rfl (es rfl (es rfl l12_84))))))))))))))))))))))
                have l14_100 := lookE hA100 14 (e25 rfl (es rfl (es rfl (es rfl (es rfl (es rfl (es rfl (es rfl (es rfl (es rfl (es rfl (es rfl (es rfl (es rfl (es rfl (es rfl (es rfl (es rfl (es rfl (es rfl (es rfl (es rfl l14_84))))))))))))))))))))))
                have l16_100 := lookE hA100 16 (e25 rfl (es rfl (es rfl (es rfl (es rfl (es rfl (es rfl (es rfl (es rfl (es rfl (es rfl (es rfl (es rfl (es rfl (es rfl (es rfl (es rfl (es rfl (es rfl (es rfl (es rfl (es rfl l16_84))))))))))))))))))))))
                have l94_100 := lookE hA100 94 (e25 rfl (es rfl (es rfl (es rfl (es rfl (es rfl (es rfl (es rfl (es rfl (es rfl (es rfl (es rfl (es rfl (es rfl (es rfl (es rfl (es rfl (es rfl (es rfl (es rfl (es rfl (es rfl l94_84))))))))))))))))))))))
                have l95_100 := lookE hA100 95 (e25 rfl (es rfl (es rfl (es rfl (es rfl (es rfl (es rfl (es rfl (es rfl (es rfl (es rfl (es rfl (es rfl (es rfl (es rfl (es rfl (es rfl (es rfl (es rfl (es rfl (es rfl (es rfl l95_84))))))))))))))))))))))
                have l98_100 := lookE hA100 98 (e25 rfl (es rfl (es rfl (es rfl (es rfl (es rfl (es rfl (es rfl (es rfl (es rfl (es rfl (es rfl (es rfl (es rfl (es rfl (es rfl (es rfl (es rfl (es rfl (es rfl (es rfl (es rfl l98_84))))))))))))))))))))))
                have l99_100 := lookE hA100 99 (e25 rfl (es rfl (es rfl (es rfl (es rfl (es rfl (es rfl (es rfl (es rfl (es rfl (es rfl (es rfl (es rfl (es rfl (es rfl (es rfl (es rfl (es rfl (es rfl (es rfl (es rfl (es rfl l99_84))))))))))))))))))))))
                have l100_100 := lookE hA100 100 (e25 rfl (es rfl (es rfl (es rfl (es rfl (es rfl (es rfl (es rfl (es rfl (es rfl (es rfl (es rfl (es rfl (es rfl (es rfl (es rfl (es rfl (es rfl (es rfl (es rfl (es rfl (es rfl l100_84))))))))))))))))))))))
                have l101_100 := lookE hA100 101 (e25 rfl (es rfl (es rfl (es rfl (es rfl (es rfl (es rfl (es rfl (es rfl (es rfl (es rfl (es rfl (es rfl (es rfl (es rfl (es rfl (es rfl (es rfl (es rfl (es rfl (es rfl (es rfl l101_84))))))))))))))))))))))
                have l102_100 := lookE hA100 102 (e25 rfl (es rfl (es rfl (es rfl (es rfl (es rfl (es rfl (es rfl (es rfl (es rfl (es rfl (es rfl (es rfl (es rfl (es rfl (es rfl (es rfl (es rfl (es rfl (es rfl (es rfl (es rfl l102_84))))))))))))))))))))))
                have l103_100 := lookE hA100 103 (e25 rfl (es rfl (es rfl (es rfl (es rfl (es rfl (es rfl (es rfl (es rfl (es rfl (es rfl (es rfl (es rfl (es rfl (es rfl (es rfl (es rfl (es rfl (es rfl (es rfl (es rfl (es rfl l103_84))))))))))))))))))))))
                have l104_100 := lookE hA100 104 (e25 rfl (es rfl (es rfl (es rfl (es rfl (es rfl (es rfl (es rfl (es rfl (es rfl (es rfl (es rfl (es rfl (es rfl (es rfl (es rfl (es rfl (es rfl (es rfl (es rfl (es rfl (es rfl l104_84))))))))))))))))))))))
                have l107_100 := lookE hA100 107 (e25 rfl (es rfl (es rfl (es rfl (es rfl (es rfl (es rfl (es rfl (es rfl (es rfl (es rfl (es rfl (es rfl (es rfl (es rfl (es rfl (es rfl (es rfl (es rfl (es rfl (es rfl (es rfl l107_84))))))))))))))))))))))
                have l108_100 := lookE hA100 108 (e25 rfl (es rfl (es rfl (es rfl (es rfl (es rfl (es rfl (es rfl (es rfl (es rfl (es rfl (es rfl (es rfl (es rfl (es rfl (es rfl (es rfl (es rfl (es rfl (es rfl (es rfl (es rfl l108_84))))))))))))))))))))))
                have l109_100 := lookE hA100 109 (e25 rfl (es rfl (es rfl (es rfl (es rfl (es rfl (es rfl (es rfl (es rfl (es rfl (es rfl (es rfl (es rfl (es rfl (es rfl (es rfl (es rfl (es rfl (es rfl (es rfl (es rfl (es rfl l109_84))))))))))))))))))))))
                have l110_100 := lookE hA100 110 (e25 rfl (es rfl (es rfl (es rfl (es rfl (es rfl (es rfl (es rfl (es rfl (es rfl (es rfl (es rfl (es rfl (es rfl (es rfl (es rfl (es rfl (es rfl (es rfl (es rfl (es rfl (es rfl l110_84))))))))))))))))))))))
                have l113_100 := lookE hA100 113 (e25 rfl (es rfl (es rfl (es rfl (es rfl (es rfl (es rfl (es rfl (es rfl (es rfl (es rfl (es rfl (es rfl (es rfl (es rfl (es rfl (es rfl (es rfl (es rfl (es rfl (es rfl (es rfl l113_84))))))))))))))))))))))
                have l114_100 := lookE hA100 114 (e25 rfl (es rfl (es rfl (es rfl (es rfl (es rfl (es rfl (es rfl (es rfl (es rfl (es rfl (es rfl (es rfl (es rfl (es rfl (es rfl (es rfl (es rfl (es rfl (es rfl (es rfl (es rfl l114_84))))))))))))))))))))))
                have l117_100 := lookE hA100 117 (e25 rfl (es rfl (es rfl (es rfl (es rfl (es rfl (es rfl (es rfl (es rfl (es rfl (es rfl (es rfl (es rfl (es rfl (es rfl (es rfl (es rfl (es rfl (es rfl (es rfl (es rfl (es rfl l117_84))))))))))))))))))))))
                have l118_100 := lookE hA100 118 (e25 rfl (es rfl (es rfl (es rfl (es rfl (es rfl (es rfl (es rfl (es rfl (es rfl (es rfl (es rfl (es rfl (es rfl (es rfl (es rfl (es rfl (es rfl (es rfl (es rfl (es rfl (es rfl l118_84))))))))))))))))))))))
                have l119_100 := lookE hA100 119 (e25 rfl (es rfl (es rfl (es rfl (es rfl (es rfl (es rfl (es rfl (es rfl (es rfl (es rfl (es rfl (es rfl (es rfl (es rfl (es rfl (es rfl (es rfl (es rfl (es rfl (es rfl (es rfl l119_84))))))))))))))))))))))
                have l120_100 := lookE hA100 120 (e25 rfl (es rfl (es rfl (es rfl (es rfl (es rfl (es rfl (es rfl (es rfl (es rfl (es rfl (es rfl (es rfl (es rfl (es rfl (es rfl (es rfl (es rfl (es rfl (es rfl (es rfl (es rfl l120_84))))))))))))))))))))))
                have l121_100 := lookE hA100 121 (e25 rfl (es rfl (es rfl (es rfl (es rfl (es rfl (es rfl (es rfl (es rfl (es rfl (es rfl (es rfl (es rfl (es rfl (es rfl (es rfl (es rfl (es rfl (es rfl (es rfl (es rfl (es rfl l121_84))))))))))))))))))))))
                have l122_100 := lookE hA100 122 (e25 rfl (es rfl (es rfl (es rfl (es rfl (es rfl (es rfl (es rfl (es rfl (es rfl (es rfl (es rfl (es rfl (es rfl (es rfl (es rfl (es rfl (es rfl (es rfl (es rfl (es rfl (es rfl l122_84))))))))))))))))))))))
                have l123_100 := lookE hA100 123 (e25 rfl (es rfl (es rfl (es rfl (es rfl (es rfl (es rfl (es rfl (es rfl (es rfl (es rfl (es rfl (es rfl (es rfl (es rfl (es rfl (es rfl (es rfl (es rfl (es rfl (es rfl (es rfl l123_84))))))))))))))))))))))
                have l124_100 := lookE hA100 124 (e25 rfl (es rfl (es rfl (es rfl (es rfl (es rfl (es rfl (es rfl (es rfl (es rfl (es rfl (es rfl (es rfl (es rfl (es rfl (es rfl (es rfl (es rfl (es rfl (es rfl (es rfl (es rfl l124_84))))))))))))))))))))))
                have l125_100 := lookE hA100 125 (e25 rfl (es rfl (es rfl (es rfl (es rfl (es rfl (es rfl (es rfl (es rfl (es rfl (es rfl (es rfl (es rfl (es rfl (es rfl (es rfl (es rfl (es rfl (es rfl (es rfl (es rfl (es rfl l125_84))))))))))))))))))))))
                have l126_100 := lookE hA100 126 (e25 rfl (es rfl (es rfl (es rfl (es rfl (es rfl (es rfl (es rfl (es rfl (es rfl (es rfl (es rfl (es rfl (es rfl (es rfl (es rfl (es rfl (es rfl (es rfl (es rfl (es rfl (es rfl l126_84))))))))))))))))))))))
                have l127_100 := lookE hA100 127 (e25 rfl (es rfl (es rfl (es rfl (es rfl (es rfl (es rfl (es rfl (es rfl (es rfl (es rfl (es rfl (es rfl (es rfl (es rfl (es rfl (es rfl (es rfl (es rfl (es rfl (es rfl (es rfl l127_84))))))))))))))))))))))
                have l128_100 := lookE hA100 128 (e25 rfl (es rfl (es rfl (es rfl (es rfl (es rfl (es rfl (es rfl (es rfl (es rfl (es rfl (es rfl (es rfl (es rfl (es rfl (es rfl (es rfl (es rfl (es rfl (es rfl (es rfl (es rfl l128_84))))))))))))))))))))))
                have l129_100 := lookE hA100 129 (e25 rfl (es rfl (es rfl (es rfl (es rfl (es rfl (es rfl (es rfl (es rfl (es rfl (es rfl (es rfl (es rfl (es rfl (es rfl (es rfl (es rfl (es rfl (es rfl (es rfl (es rfl (es rfl l129_84))))))))))))))))))))))
                have l130_100 := lookE hA100 130 (e25 rfl (es rfl (es rfl (es rfl (es rfl (es rfl (es rfl (es rfl (es rfl (es rfl (es rfl (es rfl (es rfl (es rfl (es rfl (es rfl (es rfl (es rfl (es rfl (es rfl (es rfl (es rfl l130_84))))))))))))))))))))))
                have l131_100 := lookE hA100 131 (e25 rfl (es rfl (es rfl (es rfl (es rfl (es rfl (es rfl (es rfl (es rfl (es rfl (es rfl (es rfl (es rfl (es rfl (es rfl (es rfl (es rfl (es rfl (es rfl (es rfl (es rfl (es rfl l131_84))))))))))))))))))))))
                have l132_100 := lookE hA100 132 (e25 rfl (es rfl (es rfl (es rfl (es rfl (es rfl (es rfl (es rfl (es rfl (es rfl (es rfl (es rfl (es rfl (es rfl (es rfl (es rfl (es rfl (es rfl (es rfl (es rfl (es rfl (es rfl l132_84))))))))))))))))))))))
                have l146_100 := lookE hA100 146 (e25 rfl (es rfl (es rfl (es rfl (es rfl (es rfl (es rfl (es rfl (es rfl (es rfl (es rfl (es rfl (es rfl (es rfl (es rfl (et rfl))))))))))))))))
                have l147_100 := lookE hA100 147 (e25 rfl (es rfl (es rfl (es rfl (es rfl (es rfl (es rfl (es rfl (es rfl (es rfl (es rfl (es rfl (es rfl (es rfl (et rfl)))))))))))))))
                have l148_100 := lookE hA100 148 (e25 rfl (es rfl (es rfl (es rfl (es rfl (es rfl (es rfl (es rfl (es rfl (es rfl (es rfl (es rfl (es rfl (et rfl))))))))))))))
                have l149_100 := lookE hA100 149 (e25 rfl (es rfl (es rfl (es rfl (es rfl (es rfl (es rfl (es rfl (es rfl (es rfl (es rfl (es rfl (et rfl)))))))))))))
                have l150_100 := lookE hA100 150 (e25 rfl (es rfl (es rfl (es rfl (es rfl (es rfl (es rfl (es rfl (es rfl (es rfl (es rfl (et rfl))))))))))))
                have l151_100 := lookE hA100 151 (e25 rfl (es rfl (es rfl (es rfl (es rfl (es rfl (es rfl (es rfl (es rfl (es rfl (et rfl)))))))))))
                have l152_100 := lookE hA100 152 (e25 rfl (es rfl (es rfl (es rfl (es rfl (es rfl (es rfl (es rfl (es rfl (et rfl))))))))))
                have l155_100 := lookE hA100 155 (e25 rfl (es rfl (es rfl (es rfl (es rfl (es rfl (et rfl)))))))
                have l156_100 := lookE hA100 156 (e25 rfl (es rfl (es rfl (es rfl (es rfl (et rfl))))))
                have l157_100 := lookE hA100 157 (e25 rfl (es rfl (es rfl (es rfl (et rfl)))))
                have l158_100 := lookE hA100 158 (e25 rfl (es rfl (es rfl (et rfl))))
                have l159_100 := lookE hA100 159 (e25 rfl (es rfl (et rfl)))
                have l160_100 := lookE hA100 160 (e25 rfl (et rfl))
                have l161_100 := lookE hA100 161 (e24 rfl (et rfl))
                have l162_100 := lookE hA100 162 (e23 rfl (et rfl))
                have l163_100 := lookE hA100 163 (e22 rfl (et rfl))
                have l164_100 := lookE hA100 164 (e21 rfl (et rfl))
                have l165_100 := lookE hA100 165 (e20 rfl (et rfl))
                have l166_100 := lookE hA100 166 (e19 rfl (et rfl))
                have l167_100 := lookE hA100 167 (e18 rfl (et rfl))
                have l168_100 := lookE hA100 168 (e17 rfl (et rfl))
                have l171_100 := lookE hA100 171 (e14 rfl (et rfl))
                have l172_100 := lookE hA100 172 (e13 rfl (et rfl))
                have l173_100 := lookE hA100 173 (e12 rfl (et rfl))
                have l174_100 := lookE hA100 174 (e11 rfl (et rfl))
                have l175_100 := lookE hA100 175 (e10 rfl (et rfl))
                have l176_100 := lookE hA100 176 (e9 rfl (et rfl))
                have l177_100 := lookE hA100 177 (e8 rfl (et rfl))
                have l178_100 := lookE hA100 178 (e7 rfl (et rfl))
                have l179_100 := lookE hA100 179 (e6 rfl (et rfl))
                have l180_100 := lookE hA100 180 (e5 rfl (et rfl))
                have l181_100 := lookE hA100 181 (e4 rfl (et rfl))
                have l182_100 := lookE hA100 182 (e3 rfl (et rfl))
                have l183_100 := lookE hA100 183 (e2 rfl (et rfl))
                have l184_100 := lookE hA100 184 (es rfl (et rfl))
                have l185_100 := lookE hA100 185 (et rfl)
                clear hA100 hsz84 hdf84 l0_84 l3_84 l5_84 l9_84 l11_84 l12_84 l14_84 l16_84 l94_84 l95_84 l98_84 l99_84 l100_84 l101_84 l102_84 l103_84 l104_84 l107_84 l108_84 l109_84 l110_84 l113_84 l114_84 l117_84 l118_84 l119_84 l120_84 l121_84 l122_84 l123_84 l124_84 l125_84 l126_84 l127_84 l128_84 l129_84 l130_84 l131_84 l132_84 l137_84
                refine then_n (hK87 _ _ ?_)
                clear hK87
                refine cond_f l185_100 ?_
                refine wp_skip ?_
                refine inb_n ?_
                refine then_n (hK86 _ _ ?_)
                clear hK86
                refine region_in ?_
                refine W_v rfl rfl (V_mov rfl l16_100) ?_
                refine W_v rfl rfl (V_add rfl (et rfl) rfl (by omega) (by omega)) ?_
                refine W_v rfl rfl (V_asg rfl (et rfl)) ?_
                refine W_end ?_
                refine gen_Q (fun A101 hA101 => ?_)
                have hsz101 := szq hA101
                have hdf101 : A101.defers = [] := by rw [hA101]; simp only [df_put]; exact hdf100
                have l0_101 := lookE hA101 0 (e2 rfl (es rfl l0_100))
                have l3_101 := lookE hA101 3 (e2 rfl (es rfl l3_100))
                have l5_101 := lookE hA101 5 (e2 rfl (es rfl l5_100))
                have l9_101 := lookE hA101 9 (e2 rfl (es rfl l9_100))
                have l11_101 := lookE hA101 11 (e2 rfl (es rfl l11_100))
                have l12_101 := lookE hA101 12 (e2 rfl (es rfl l12_100))
                have l14_101 := lookE hA101 14 (e2 rfl (es rfl l14_100))
                have l16_101 := lookE hA101 16 (et rfl)
                have l94_101 := lookE hA101 94 (e2 rfl (es rfl l94_100))
                have l95_101 := lookE hA101 95 (e2 rfl (es rfl l95_100))
                have l98_101 := lookE hA101 98 (e2 rfl (es rfl l98_100))
                have l99_101 := lookE hA101 99 (e2 rfl (es rfl l99_100))
                have l100_101 := lookE hA101 100 (e2 rfl (es rfl l100_100))
                have l101_101 := lookE hA101 101 (e2 rfl (es rfl l101_100))
                have l102_101 := lookE hA101 102 (e2 rfl (es rfl l102_100))
                have l103_101 := lookE hA101 103 (e2 rfl (es rfl l103_100))
                have l104_101 := lookE hA101 104 (e2 rfl (es rfl l104_100))
                have l107_101 := lookE hA101 107 (e2 rfl (es rfl l107_100))
                have l108_101 := lookE hA101 108 (e2 rfl (es rfl l108_100))
                have l109_101 := lookE hA101 109 (e2 rfl (es rfl l109_100))
                have l110_101 := lookE hA101 110 (e2 rfl (es rfl l110_100))
                have l113_101 := lookE hA101 113 (e2 rfl (es rfl l113_100))
                have l114_101 := lookE hA101 114 (e2 rfl (es rfl l114_100))
                have l117_101 := lookE hA101 117 (e2 rfl (es rfl l117_100))
                have l118_101 := lookE hA101 118 (e2 rfl (es rfl l118_100))
                have l119_101 := lookE hA101 119 (e2 rfl (es rfl l119_100))
                have l120_101 := lookE hA101 120 (e2 rfl (es rfl l120_100))
                have l121_101 := lookE hA101 121 (e2 rfl (es rfl l121_100))
                have l122_101 := lookE hA101 122 (e2 rfl (es rfl l122_100))
                have l123_101 := lookE hA101 123 (e2 rfl (es rfl l123_100))
                have l124_101 := lookE hA101 124 (e2 rfl (es rfl l124_100))
                have l125_101 := lookE hA101 125 (e2 rfl (es rfl l125_100))
                have l126_101 := lookE hA101 126 (e2 rfl (es rfl l126_100))
                have l127_101 := lookE hA101 127 (e2 rfl (es rfl l127_100))
                have l128_101 := lookE hA101 128 (e2 rfl (es rfl l128_100))
                have l129_101 := lookE hA101 129 (e2 rfl (es rfl l129_100))
                have l130_101 := lookE hA101 130 (e2 rfl (es rfl l130_100))
                have l131_101 := lookE hA101 131 (e2 rfl (es rfl l131_100))
                have l132_101 := lookE hA101 132 (e2 rfl (es rfl l132_100))
                have l146_101 := lookE hA101 146 (e2 rfl (es rfl l146_100))
                have l147_101 := lookE hA101 147 (e2 rfl (es rfl l147_100))
                have l148_101 := lookE hA101 148 (e2 rfl (es rfl l148_100))
                have l149_101 := lookE hA101 149 (e2 rfl (es rfl l149_100))
                have l150_101 := lookE hA101 150 (e2 rfl (es rfl l150_100))
                have l151_101 := lookE hA101 151 (e2 rfl (es rfl l151_100))
                have l152_101 := lookE hA101 152 (e2 rfl (es rfl l152_100))
                have l155_101 := lookE hA101 155 (e2 rfl (es rfl l155_100))
                have l156_101 := lookE hA101 156 (e2 rfl (es rfl l156_100))
                have l157_101 := lookE hA101 157 (e2 rfl (es rfl l157_100))
                have l158_101 := lookE hA101 158 (e2 rfl (es rfl l158_100))
                have l159_101 := lookE hA101 159 (e2 rfl (es rfl l159_100))
                have l160_101 := lookE hA101 160 (e2 rfl (es rfl l160_100))
                have l161_101 := lookE hA101 161 (e2 rfl (es rfl l161_100))
                have l162_101 := lookE hA101 162 (e2 rfl (es rfl l162_100))
                have l163_101 := lookE hA101 163 (e2 rfl (es rfl l163_100))
                have l164_101 := lookE hA101 164 (e2 rfl (es rfl l164_100))
                have l165_101 := lookE hA101 165 (e2 rfl (es rfl l165_100))
                have l166_101 := lookE hA101 166 (e2 rfl (es rfl l166_100))
                have l167_101 := lookE hA101 167 (e2 rfl (es rfl l167_100))
                have l168_101 := lookE hA101 168 (e2 rfl (es rfl l168_100))
                have l171_101 := lookE hA101 171 (e2 rfl (es rfl l171_100))
                have l172_101 := lookE hA101 172 (e2 rfl (es rfl l172_100))
                have l173_101 := lookE hA101 173 (e2 rfl (es rfl l173_100))
                have l174_101 := lookE hA101 174 (e2 rfl (es rfl l174_100))
                have l175_101 := lookE hA101 175 (e2 rfl (es rfl l175_100))
                have l176_101 := lookE hA101 176 (e2 rfl (es rfl l176_100))
                have l177_101 := lookE hA101 177 (e2 rfl (es rfl l177_100))
                have l178_101 := lookE hA101 178 (e2 rfl (es rfl l178_100))
                have l179_101 := lookE hA101 179 (e2 rfl (es rfl l179_100))
                have l180_101 := lookE hA101 180 (e2 rfl (es rfl l180_100))
                have l181_101 := lookE hA101 181 (e2 rfl (es rfl l181_100))
                have l182_101 := lookE hA101 182 (e2 rfl (es rfl l182_100))
                have l183_101 := lookE hA101 183 (e2 rfl (es rfl l183_100))
                have l184_101 := lookE hA101 184 (e2 rfl (es rfl l184_100))
                clear hA101 hsz100 hdf100 l0_100 l3_100 l5_100 l9_100 l11_100 l12_100 l14_100 l16_100 l94_100 l95_100 l98_100 l99_100 l100_100 l101_100 l102_100 l103_100 l104_100 l107_100 l108_100 l109_100 l110_100 l113_100 l114_100 l117_100 l118_100 l119_100 l120_100 l121_100 l122_100 l123_100 l124_100 l125_100 l126_100 l127_100 l128_100 l129_100 l130_100 l131_100 l132_100 l146_100 l147_100 l148_100 l149_100 l150_100 l151_100 l152_100 l155_100 l156_100 l157_100 l158_100 l159_100 l160_100 l161_100 l162_100 l163_100 l164_100 l165_100 l166_100 l167_100 l168_100 l171_100 l172_100 l173_100 l174_100 l175_100 l176_100 l177_100 l178_100 l179_100 l180_100 l181_100 l182_100 l183_100 l184_100 l185_100
                refine then_n ⟨(hoT ws c y61.1).length - (m + 1), by simp only [hm81]; omega, hsz101, hdf101, (m + 1), rfl, (by omega), ((l16_101).trans (by first | rfl | (simp; done) | (congr 1; omega))), ((l0_101).trans l0_80.symm), ((l3_101).trans l3_80.symm), ((l5_101).trans l5_80.symm), ((l9_101).trans l9_80.symm), ((l11_101).trans l11_80.symm), ((l12_101).trans l12_80.symm), ((l14_101).trans l14_80.symm), ((l94_101).trans l94_80.symm), ((l95_101).trans l95_80.symm), ((l98_101).trans l98_80.symm), ((l99_101).trans l99_80.symm), ((l100_101).trans l100_80.symm), ((l101_101).trans l101_80.symm), ((l102_101).trans l102_80.symm), ((l103_101).trans l103_80.symm), ((l104_101).trans l104_80.symm), ((l107_101).trans l107_80.symm), ((l108_101).trans l108_80.symm), ((l109_101).trans l109_80.symm), ((l110_101).trans l110_80.symm), ((l113_101).trans l113_80.symm), ((l114_101).trans l114_80.symm), ((l117_101).trans l117_80.symm), ((l118_101).trans l118_80.symm), ((l119_101).trans l119_80.symm), ((l120_101).trans l120_80.symm), ((l121_101).trans l121_80.symm), ((l122_101).trans l122_80.symm), ((l123_101).trans l123_80.symm), ((l124_101).trans l124_80.symm), ((l125_101).trans l125_80.symm), ((l126_101).trans l126_80.symm), ((l127_101).trans l127_80.symm), ((l128_101).trans l128_80.symm), ((l129_101).trans l129_80.symm), ((l130_101).trans l130_80.symm), ((l131_101).trans l131_80.symm), ((l132_101).trans l132_80.symm), (by subst hc_67r_81 hc_32b_81 hc2_81; exact hS99)⟩
            · skip
              refine wp_exit ?_
              refine then_exit ?_
              refine then_exit ?_
              refine inb_hit ?_
              refine then_n (hK78 _ _ ?_)
              clear hK78
              refine region_in ?_
              refine W_v rfl rfl (V_mov rfl l9_84) ?_
              refine W_v rfl rfl (V_mov rfl (es rfl l12_84)) ?_
              refine W_v rfl rfl (V_sb rfl (es rfl (et rfl)) (et rfl) (by omega) (by omega)) ?_
              refine W_v rfl rfl (V_asg rfl (et rfl)) ?_
              refine W_end ?_
              refine gen_Q (fun A102 hA102 => ?_)
              have hsz102 := szq hA102
              have hdf102 : A102.defers = [] := by rw [hA102]; simp only [df_put]; exact hdf84
              have l0_102 := lookE hA102 0 (e3 rfl (es rfl l0_84))
              have l3_102 := lookE hA102 3 (e3 rfl (es rfl l3_84))
              have l5_102 := lookE hA102 5 (e3 rfl (es rfl l5_84))
              have l9_102 := lookE hA102 9 (et rfl)
              have l11_102 := lookE hA102 11 (e3 rfl (es rfl l11_84))
              have l94_102 := lookE hA102 94 (e3 rfl (es rfl l94_84))
              have l95_102 := lookE hA102 95 (e3 rfl (es rfl l95_84))
              have l98_102 := lookE hA102 98 (e3 rfl (es rfl l98_84))
              have l99_102 := lookE hA102 99 (e3 rfl (es rfl l99_84))
              have l100_102 := lookE hA102 100 (e3 rfl (es rfl l100_84))
              have l101_102 := lookE hA102 101 (e3 rfl (es rfl l101_84))
              have l102_102 := lookE hA102 102 (e3 rfl (es rfl l102_84))
              have l103_102 := lookE hA102 103 (e3 rfl (es rfl l103_84))
              have l104_102 := lookE hA102 104 (e3 rfl (es rfl l104_84))
              have l107_102 := lookE hA102 107 (e3 rfl (es rfl l107_84))
              have l108_102 := lookE hA102 108 (e3 rfl (es rfl l108_84))
              have l109_102 := lookE hA102 109 (e3 rfl (es rfl l109_84))
              have l110_102 := lookE hA102 110 (e3 rfl (es rfl l110_84))
              have l113_102 := lookE hA102 113 (e3 rfl (es rfl l113_84))
              have l114_102 := lookE hA102 114 (e3 rfl (es rfl l114_84))
              have l117_102 := lookE hA102 117 (e3 rfl (es rfl l117_84))
              have l118_102 := lookE hA102 118 (e3 rfl (es rfl l118_84))
              have l119_102 := lookE hA102 119 (e3 rfl (es rfl l119_84))
              have l120_102 := lookE hA102 120 (e3 rfl (es rfl l120_84))
              have l121_102 := lookE hA102 121 (e3 rfl (es rfl l121_84))
              have l122_102 := lookE hA102 122 (e3 rfl (es rfl l122_84))
              have l123_102 := lookE hA102 123 (e3 rfl (es rfl l123_84))
              have l124_102 := lookE hA102 124 (e3 rfl (es rfl l124_84))
              have l125_102 := lookE hA102 125 (e3 rfl (es rfl l125_84))
              have l126_102 := lookE hA102 126 (e3 rfl (es rfl l126_84))
              have l127_102 := lookE hA102 127 (e3 rfl (es rfl l127_84))
              have l128_102 := lookE hA102 128 (e3 rfl (es rfl l128_84))
              have l129_102 := lookE hA102 129 (e3 rfl (es rfl l129_84))
              have l130_102 := lookE hA102 130 (e3 rfl (es rfl l130_84))
              have l131_102 := lookE hA102 131 (e3 rfl (es rfl l131_84))
              have l132_102 := lookE hA102 132 (e3 rfl (es rfl l132_84))
              clear hA102 hsz84 hdf84 l0_84 l3_84 l5_84 l9_84 l11_84 l12_84 l14_84 l16_84 l94_84 l95_84 l98_84 l99_84 l100_84 l101_84 l102_84 l103_84 l104_84 l107_84 l108_84 l109_84 l110_84 l113_84 l114_84 l117_84 l118_84 l119_84 l120_84 l121_84 l122_84 l123_84 l124_84 l125_84 l126_84 l127_84 l128_84 l129_84 l130_84 l131_84 l132_84 l137_84
              refine inb_n ?_
              refine then_n (hK59 _ _ ?_)
              clear hK59
              refine region_in ?_
              refine W_v rfl rfl (V_mov rfl l11_102) ?_
              refine W_v rfl rfl (V_add rfl (et rfl) rfl (by omega) (by omega)) ?_
              refine W_v rfl rfl (V_asg rfl (et rfl)) ?_
              refine W_end ?_
              refine gen_Q (fun A103 hA103 => ?_)
              have hsz103 := szq hA103
              have hdf103 : A103.defers = [] := by rw [hA103]; simp only [df_put]; exact hdf102
              have l0_103 := lookE hA103 0 (e2 rfl (es rfl l0_102))
              have l3_103 := lookE hA103 3 (e2 rfl (es rfl l3_102))
              have l5_103 := lookE hA103 5 (e2 rfl (es rfl l5_102))
              have l9_103 := lookE hA103 9 (e2 rfl (es rfl l9_102))
              have l11_103 := lookE hA103 11 (et rfl)
              have l94_103 := lookE hA103 94 (e2 rfl (es rfl l94_102))
              have l95_103 := lookE hA103 95 (e2 rfl (es rfl l95_102))
              have l98_103 := lookE hA103 98 (e2 rfl (es rfl l98_102))
              have l99_103 := lookE hA103 99 (e2 rfl (es rfl l99_102))
              have l100_103 := lookE hA103 100 (e2 rfl (es rfl l100_102))
              have l101_103 := lookE hA103 101 (e2 rfl (es rfl l101_102))
              have l102_103 := lookE hA103 102 (e2 rfl (es rfl l102_102))
              have l103_103 := lookE hA103 103 (e2 rfl (es rfl l103_102))
              have l104_103 := lookE hA103 104 (e2 rfl (es rfl l104_102))
              have l107_103 := lookE hA103 107 (e2 rfl (es rfl l107_102))
              have l108_103 := lookE hA103 108 (e2 rfl (es rfl l108_102))
              have l109_103 := lookE hA103 109 (e2 rfl (es rfl l109_102))
              have l110_103 := lookE hA103 110 (e2 rfl (es rfl l110_102))
              have l113_103 := lookE hA103 113 (e2 rfl (es rfl l113_102))
              have l114_103 := lookE hA103 114 (e2 rfl (es rfl l114_102))
              have l117_103 := lookE hA103 117 (e2 rfl (es rfl l117_102))
              have l118_103 := lookE hA103 118 (e2 rfl (es rfl l118_102))
              have l119_103 := lookE hA103 119 (e2 rfl (es rfl l119_102))
              have l120_103 := lookE hA103 120 (e2 rfl (es rfl l120_102))
              have l121_103 := lookE hA103 121 (e2 rfl (es rfl l121_102))
              have l122_103 := lookE hA103 122 (e2 rfl (es rfl l122_102))
              have l123_103 := lookE hA103 123 (e2 rfl (es rfl l123_102))
              have l124_103 := lookE hA103 124 (e2 rfl (es rfl l124_102))
              have l125_103 := lookE hA103 125 (e2 rfl (es rfl l125_102))
              have l126_103 := lookE hA103 126 (e2 rfl (es rfl l126_102))
              have l127_103 := lookE hA103 127 (e2 rfl (es rfl l127_102))
              have l128_103 := lookE hA103 128 (e2 rfl (es rfl l128_102))
              have l129_103 := lookE hA103 129 (e2 rfl (es rfl l129_102))
              have l130_103 := lookE hA103 130 (e2 rfl (es rfl l130_102))
              have l131_103 := lookE hA103 131 (e2 rfl (es rfl l131_102))
              have l132_103 := lookE hA103 132 (e2 rfl (es rfl l132_102))
              clear hA103 hsz102 hdf102 l0_102 l3_102 l5_102 l9_102 l11_102 l94_102 l95_102 l98_102 l99_102 l100_102 l101_102 l102_102 l103_102 l104_102 l107_102 l108_102 l109_102 l110_102 l113_102 l114_102 l117_102 l118_102 l119_102 l120_102 l121_102 l122_102 l123_102 l124_102 l125_102 l126_102 l127_102 l128_102 l129_102 l130_102 l131_102 l132_102
              have hS104 : St w NoX [c_32b_81, c2_81] w81 := hS81.sel [1, 2] (by decide) rfl
              refine then_n ⟨(coT ws c).length - (j + 1), by simp only [hm54]; omega, hsz103, hdf103, (j + 1), rfl, (by omega), ((l11_103).trans (by first | rfl | (simp; done) | (congr 1; omega))), ((l9_103).trans ((congrArg (Value.int .i64) (by have h := sm2_take hy61; omega)))), ((l0_103).trans l0_52.symm), ((l3_103).trans l3_52.symm), ((l5_103).trans l5_52.symm), (by subst hc_32b_81 hc2_81; exact hS104)⟩
          · skip
            refine D_off rfl (wanted_f rfl rfl (et rfl) (ez rfl) rfl) rfl ?_
            refine D_off rfl (wanted_f rfl rfl (es rfl (et rfl)) (ez rfl) rfl) rfl ?_
            refine D_off rfl (wanted_f rfl rfl (e2 rfl (et rfl)) (ez rfl) rfl) rfl ?_
            refine D_off rfl (wanted_f rfl rfl (e3 rfl (et rfl)) (ez rfl) rfl) rfl ?_
            refine D_off rfl (wanted_f rfl rfl (e4 rfl (et rfl)) (ez rfl) rfl) rfl ?_
            refine D_off rfl (wanted_f rfl rfl (e5 rfl (et rfl)) (ez rfl) rfl) rfl ?_
            refine D_off rfl (wanted_f rfl rfl (e6 rfl (et rfl)) (ez rfl) rfl) rfl ?_
            refine D_off rfl (wanted_f rfl rfl (e7 rfl (et rfl)) (ez rfl) rfl) rfl ?_
            refine D_off rfl (wanted_f rfl rfl (e8 rfl (et rfl)) (ez rfl) rfl) rfl ?_
            refine D_off rfl (wanted_f rfl rfl (e9 rfl (et rfl)) (ez rfl) rfl) rfl ?_
            refine D_off rfl (wanted_f rfl rfl (e10 rfl (et rfl)) (ez rfl) rfl) rfl ?_
            refine D_off rfl (wanted_f rfl rfl (e11 rfl (et rfl)) (ez rfl) rfl) rfl ?_
            refine D_v rfl (wanted_t rfl rfl (e15 rfl (et rfl)) (ez rfl)) (V_pickF rfl (e12 rfl (et rfl)) rfl) rfl rfl ?_
            refine D_v rfl rfl (V_pickF rfl (e16 rfl (et rfl)) (et rfl)) rfl rfl ?_
            refine ZS_none hS68 (Nat.le_refl _) (Nat.le_refl _) (fun s105 hJ105 hL105 hF105 => ?_)
            have hS105 := hJ105.st; clear hF105 hJ105 hL105
            generalize s105.1 = w105 at *
            replace hS105 : St w NoX [c_67r, c_32b_54, c2_54] w105 := hS105
            refine gen_Q (fun A106 hA106 => ?_)
            have hsz106 := szq hA106
            have hdf106 : A106.defers = [] := by rw [hA106]; simp only [df_put]; exact hdf69
            have l0_106 := lookE hA106 0 (e25 rfl (es rfl (es rfl (es rfl (es rfl (es rfl (es rfl (es rfl (es rfl (es rfl (es rfl (es rfl (es rfl (es rfl (es rfl (es rfl (es rfl (es rfl (es rfl l0_69)))))))))))))))))))
            have l3_106 := lookE hA106 3 (e25 rfl (es rfl (es rfl (es rfl (es rfl (es rfl (es rfl (es rfl (es rfl (es rfl (es rfl (es rfl (es rfl (es rfl (es rfl (es rfl (es rfl (es rfl (es rfl l3_69)))))))))))))))))))
            have l5_106 := lookE hA106 5 (e25 rfl (es rfl (es rfl (es rfl (es rfl (es rfl (es rfl (es rfl (es rfl (es rfl (es rfl (es rfl (es rfl (es rfl (es rfl (es rfl (es rfl (es rfl (es rfl l5_69)))))))))))))))))))
            have l9_106 := lookE hA106 9 (e25 rfl (es rfl (es rfl (es rfl (es rfl (es rfl (es rfl (es rfl (es rfl (es rfl (es rfl (es rfl (es rfl (es rfl (es rfl (es rfl (es rfl (es rfl (es rfl l9_69)))))))))))))))))))
            have l11_106 := lookE hA106 11 (e25 rfl (es rfl (es rfl (es rfl (es rfl (es rfl (es rfl (es rfl (es rfl (es rfl (es rfl (es rfl (es rfl (es rfl (es rfl (es rfl (es rfl (es rfl (es rfl l11_69)))))))))))))))))))
            have l12_106 := lookE hA106 12 (e25 rfl (es rfl (es rfl (es rfl (es rfl (es rfl (es rfl (es rfl (es rfl (es rfl (es rfl (es rfl (es rfl (es rfl (es rfl (es rfl (es rfl (es rfl (es rfl l12_69)))))))))))))))))))
            have l14_106 := lookE hA106 14 (e25 rfl (es rfl (es rfl (es rfl (es rfl (es rfl (es rfl (es rfl (es rfl (es rfl (es rfl (es rfl (es rfl (es rfl (es rfl (es rfl (es rfl (es rfl (es rfl l14_69)))))))))))))))))))
            have l94_106 := lookE hA106 94 (e25 rfl (es rfl (es rfl (es rfl (es rfl (es rfl (es rfl (es rfl (es rfl (es rfl (es rfl (es rfl (es rfl (es rfl (es rfl (et rfl))))))))))))))))
            have l95_106 := lookE hA106 95 (e25 rfl (es rfl (es rfl (es rfl (es rfl (es rfl (es rfl (es rfl (es rfl (es rfl (es rfl (es rfl (es rfl (es rfl (et rfl)))))))))))))))
            have l98_106 := lookE hA106 98 (e25 rfl (es rfl (es rfl (es rfl (es rfl (es rfl (es rfl (es rfl (es rfl (es rfl (es rfl (et rfl))))))))))))
            have l99_106 := lookE hA106 99 (e25 rfl (es rfl (es rfl (es rfl (es rfl (es rfl (es rfl (es rfl (es rfl (es rfl (et rfl)))))))))))
            have l100_106 := lookE hA106 100 (e25 rfl (es rfl (es rfl (es rfl (es rfl (es rfl (es rfl (es rfl (es rfl (et rfl))))))))))
            have l101_106 := lookE hA106 101 (e25 rfl (es rfl (es rfl (es rfl (es rfl (es rfl (es rfl (es rfl (et rfl)))))))))
            have l102_106 := lookE hA106 102 (e25 rfl (es rfl (es rfl (es rfl (es rfl (es rfl (es rfl (et rfl))))))))
            have l103_106 := lookE hA106 103 (e25 rfl (es rfl (es rfl (es rfl (es rfl (es rfl (et rfl)))))))
            have l104_106 := lookE hA106 104 (e25 rfl (es rfl (es rfl (es rfl (es rfl (et rfl))))))
            have l107_106 := lookE hA106 107 (e25 rfl (es rfl (et rfl)))
            have l108_106 := lookE hA106 108 (e25 rfl (et rfl))
            have l109_106 := lookE hA106 109 (e24 rfl (et rfl))
            have l110_106 := lookE hA106 110 (e23 rfl (et rfl))
            have l113_106 := lookE hA106 113 (e20 rfl (et rfl))
            have l114_106 := lookE hA106 114 (e19 rfl (et rfl))
            have l117_106 := lookE hA106 117 (e16 rfl (et rfl))
            have l118_106 := lookE hA106 118 (e15 rfl (et rfl))
            have l119_106 := lookE hA106 119 (e14 rfl (et rfl))
            have l120_106 := lookE hA106 120 (e13 rfl (et rfl))
            have l121_106 := lookE hA106 121 (e12 rfl (et rfl))
            have l122_106 := lookE hA106 122 (e11 rfl (et rfl))
            have l123_106 := lookE hA106 123 (e10 rfl (et rfl))
            have l124_106 := lookE hA106 124 (e9 rfl (et rfl))
            have l125_106 := lookE hA106 125 (e8 rfl (et rfl))
            have l126_106 := lookE hA106 126 (e7 rfl (et rfl))
            have l127_106 := lookE hA106 127 (e6 rfl (et rfl))
            have l128_106 := lookE hA106 128 (e5 rfl (et rfl))
            have l129_106 := lookE hA106 129 (e4 rfl (et rfl))
            have l130_106 := lookE hA106 130 (e3 rfl (et rfl))
            have l131_106 := lookE hA106 131 (e2 rfl (et rfl))
            have l132_106 := lookE hA106 132 (es rfl (et rfl))
            have l133_106 := lookE hA106 133 (et rfl)
            clear hA106 hsz69 hdf69 l0_69 l3_69 l5_69 l9_69 l11_69 l12_69 l13_69 l14_69 l15_69
            refine then_n (hK71 _ _ ?_)
            clear hK71
            refine cond_f l133_106 ?_
            refine wp_skip ?_
            refine then_n (hK70 _ _ ?_)
            clear hK70
            refine wp_seq_k (fun K107 hK107 => ?_)
            refine wp_seq_k (fun K108 hK108 => ?_)
            refine region_in ?_
            refine W_v rfl rfl (V_asg rfl rfl) ?_
            refine W_end ?_
            refine gen_Q (fun A109 hA109 => ?_)
            have hsz109 := szq hA109
            have hdf109 : A109.defers = [] := by rw [hA109]; simp only [df_put]; exact hdf106
            have l0_109 := lookE hA109 0 (es rfl l0_106)
            have l3_109 := lookE hA109 3 (es rfl l3_106)
            have l5_109 := lookE hA109 5 (es rfl l5_106)
            have l9_109 := lookE hA109 9 (es rfl l9_106)
            have l11_109 := lookE hA109 11 (es rfl l11_106)
            have l12_109 := lookE hA109 12 (es rfl l12_106)
            have l14_109 := lookE hA109 14 (es rfl l14_106)
            have l16_109 := lookE hA109 16 (et rfl)
            have l94_109 := lookE hA109 94 (es rfl l94_106)
            have l95_109 := lookE hA109 95 (es rfl l95_106)
            have l98_109 := lookE hA109 98 (es rfl l98_106)
            have l99_109 := lookE hA109 99 (es rfl l99_106)
            have l100_109 := lookE hA109 100 (es rfl l100_106)
            have l101_109 := lookE hA109 101 (es rfl l101_106)
            have l102_109 := lookE hA109 102 (es rfl l102_106)
            have l103_109 := lookE hA109 103 (es rfl l103_106)
            have l104_109 := lookE hA109 104 (es rfl l104_106)
            have l107_109 := lookE hA109 107 (es rfl l107_106)
            have l108_109 := lookE hA109 108 (es rfl l108_106)
            have l109_109 := lookE hA109 109 (es rfl l109_106)
            have l110_109 := lookE hA109 110 (es rfl l110_106)
            have l113_109 := lookE hA109 113 (es rfl l113_106)
            have l114_109 := lookE hA109 114 (es rfl l114_106)
            have l117_109 := lookE hA109 117 (es rfl l117_106)
            have l118_109 := lookE hA109 118 (es rfl l118_106)
            have l119_109 := lookE hA109 119 (es rfl l119_106)
            have l120_109 := lookE hA109 120 (es rfl l120_106)
            have l121_109 := lookE hA109 121 (es rfl l121_106)
            have l122_109 := lookE hA109 122 (es rfl l122_106)
            have l123_109 := lookE hA109 123 (es rfl l123_106)
            have l124_109 := lookE hA109 124 (es rfl l124_106)
            have l125_109 := lookE hA109 125 (es rfl l125_106)
            have l126_109 := lookE hA109 126 (es rfl l126_106)
            have l127_109 := lookE hA109 127 (es rfl l127_106)
            have l128_109 := lookE hA109 128 (es rfl l128_106)
            have l129_109 := lookE hA109 129 (es rfl l129_106)
            have l130_109 := lookE hA109 130 (es rfl l130_106)
            have l131_109 := lookE hA109 131 (es rfl l131_106)
            have l132_109 := lookE hA109 132 (es rfl l132_106)
            clear hA109 hsz106 hdf106 l0_106 l3_106 l5_106 l9_106 l11_106 l12_106 l14_106 l94_106 l95_106 l98_106 l99_106 l100_106 l101_106 l102_106 l103_106 l104_106 l107_106 l108_106 l109_106 l110_106 l113_106 l114_106 l117_106 l118_106 l119_106 l120_106 l121_106 l122_106 l123_106 l124_106 l125_106 l126_106 l127_106 l128_106 l129_106 l130_106 l131_106 l132_106 l133_106
            refine then_n (hK108 _ _ ?_)
            clear hK108
            refine wp_block ?_
            -- loop 23
            refine loopX (fun mz A' w' => SzN A' 194 ∧ A'.defers = [] ∧ (∃ (m : Nat), (mz = (hoT ws c y61.1).length - m) ∧ (m ≤ (hoT ws c y61.1).length) ∧ (EV A' (.tmp 16) = .int .i64 (m : Int)) ∧ (EV A' (.tmp 0) = EV A109 (.tmp 0)) ∧ (EV A' (.tmp 3) = EV A109 (.tmp 3)) ∧ (EV A' (.tmp 5) = EV A109 (.tmp 5)) ∧ (EV A' (.tmp 9) = EV A109 (.tmp 9)) ∧ (EV A' (.tmp 11) = EV A109 (.tmp 11)) ∧ (EV A' (.tmp 12) = EV A109 (.tmp 12)) ∧ (EV A' (.tmp 14) = EV A109 (.tmp 14)) ∧ (EV A' (.tmp 94) = EV A109 (.tmp 94)) ∧ (EV A' (.tmp 95) = EV A109 (.tmp 95)) ∧ (EV A' (.tmp 98) = EV A109 (.tmp 98)) ∧ (EV A' (.tmp 99) = EV A109 (.tmp 99)) ∧ (EV A' (.tmp 100) = EV A109 (.tmp 100)) ∧ (EV A' (.tmp 101) = EV A109 (.tmp 101)) ∧ (EV A' (.tmp 102) = EV A109 (.tmp 102)) ∧ (EV A' (.tmp 103) = EV A109 (.tmp 103)) ∧ (EV A' (.tmp 104) = EV A109 (.tmp 104)) ∧ (EV A' (.tmp 107) = EV A109 (.tmp 107)) ∧ (EV A' (.tmp 108) = EV A109 (.tmp 108)) ∧ (EV A' (.tmp 109) = EV A109 (.tmp 109)) ∧ (EV A' (.tmp 110) = EV A109 (.tmp 110)) ∧ (EV A' (.tmp 113) = EV A109 (.tmp 113)) ∧ (EV A' (.tmp 114) = EV A109 (.tmp 114)) ∧ (EV A' (.tmp 117) = EV A109 (.tmp 117)) ∧ (EV A' (.tmp 118) = EV A109 (.tmp 118)) ∧ (EV A' (.tmp 119) = EV A109 (.tmp 119)) ∧ (EV A' (.tmp 120) = EV A109 (.tmp 120)) ∧ (EV A' (.tmp 121) = EV A109 (.tmp 121)) ∧ (EV A' (.tmp 122) = EV A109 (.tmp 122)) ∧ (EV A' (.tmp 123) = EV A109 (.tmp 123)) ∧ (EV A' (.tmp 124) = EV A109 (.tmp 124)) ∧ (EV A' (.tmp 125) = EV A109 (.tmp 125)) ∧ (EV A' (.tmp 126) = EV A109 (.tmp 126)) ∧ (EV A' (.tmp 127) = EV A109 (.tmp 127)) ∧ (EV A' (.tmp 128) = EV A109 (.tmp 128)) ∧ (EV A' (.tmp 129) = EV A109 (.tmp 129)) ∧ (EV A' (.tmp 130) = EV A109 (.tmp 130)) ∧ (EV A' (.tmp 131) = EV A109 (.tmp 131)) ∧ (EV A' (.tmp 132) = EV A109 (.tmp 132)) ∧ (St w NoX [io .i64 v_67 (hoT ws c y61.1), ro 2 rcC v_14 (coT ws c), bx g2 25 #[cv]] w'))) ((hoT ws c y61.1).length - 0) ⟨hsz109, hdf109, 0, rfl, (by omega), ((l16_109).trans (by first | rfl | (simp; done) | (congr 1; omega))), rfl, rfl, rfl, rfl, rfl, rfl, rfl, rfl, rfl, rfl, rfl, rfl, rfl, rfl, rfl, rfl, rfl, rfl, rfl, rfl, rfl, rfl, rfl, rfl, rfl, rfl, rfl, rfl, rfl, rfl, rfl, rfl, rfl, rfl, rfl, rfl, rfl, rfl, (by subst hc_67r hc_32b_54 hc2_54; exact hS105)⟩ ?_
            clear hS105 hc_67r hc_32b_54 hc2_54
            rintro n110 A110 w110 ⟨hsz110, hdf110, m, hm110, hm, l16_110, u0_110, u3_110, u5_110, u9_110, u11_110, u12_110, u14_110, u94_110, u95_110, u98_110, u99_110, u100_110, u101_110, u102_110, u103_110, u104_110, u107_110, u108_110, u109_110, u110_110, u113_110, u114_110, u117_110, u118_110, u119_110, u120_110, u121_110, u122_110, u123_110, u124_110, u125_110, u126_110, u127_110, u128_110, u129_110, u130_110, u131_110, u132_110, hS110⟩
            have l0_110 := u0_110.trans l0_109
            have l3_110 := u3_110.trans l3_109
            have l5_110 := u5_110.trans l5_109
            have l9_110 := u9_110.trans l9_109
            have l11_110 := u11_110.trans l11_109
            have l12_110 := u12_110.trans l12_109
            have l14_110 := u14_110.trans l14_109
            have l94_110 := u94_110.trans l94_109
            have l95_110 := u95_110.trans l95_109
            have l98_110 := u98_110.trans l98_109
            have l99_110 := u99_110.trans l99_109
            have l100_110 := u100_110.trans l100_109
            have l101_110 := u101_110.trans l101_109
            have l102_110 := u102_110.trans l102_109
            have l103_110 := u103_110.trans l103_109
            have l104_110 := u104_110.trans l104_109
            have l107_110 := u107_110.trans l107_109
            have l108_110 := u108_110.trans l108_109
            have l109_110 := u109_110.trans l109_109
            have l110_110 := u110_110.trans l110_109
            have l113_110 := u113_110.trans l113_109
            have l114_110 := u114_110.trans l114_109
            have l117_110 := u117_110.trans l117_109
            have l118_110 := u118_110.trans l118_109
            have l119_110 := u119_110.trans l119_109
            have l120_110 := u120_110.trans l120_109
            have l121_110 := u121_110.trans l121_109
            have l122_110 := u122_110.trans l122_109
            have l123_110 := u123_110.trans l123_109
            have l124_110 := u124_110.trans l124_109
            have l125_110 := u125_110.trans l125_109
            have l126_110 := u126_110.trans l126_109
            have l127_110 := u127_110.trans l127_109
            have l128_110 := u128_110.trans l128_109
            have l129_110 := u129_110.trans l129_109
            have l130_110 := u130_110.trans l130_109
            have l131_110 := u131_110.trans l131_109
            have l132_110 := u132_110.trans l132_109
            obtain ⟨c_67r_110, c_32b_110, c2_110, hc_67r_110, hc_32b_110, hc2_110, hS110⟩ := gen3 hS110
            refine wp_seq_k (fun K111 hK111 => ?_)
            refine wp_seq_k (fun K112 hK112 => ?_)
            refine region_in ?_
            refine W_v rfl rfl (V_mov rfl l16_110) ?_
            refine W_v rfl rfl (V_mov rfl (es rfl l14_110)) ?_
            refine W_v rfl rfl (V_lenS rfl (et rfl) (ow_at (hS110.chq 0 rfl hc_67r_110)) Try.underlying23) ?_
            refine W_v rfl rfl (V_lss rfl (e2 rfl (et rfl)) (et rfl)) ?_
            refine W_end ?_
            refine gen_Q (fun A113 hA113 => ?_)
            have hsz113 := szq hA113
            have hdf113 : A113.defers = [] := by rw [hA113]; simp only [df_put]; exact hdf110
            have l0_113 := lookE hA113 0 (e3 rfl (es rfl l0_110))
            have l3_113 := lookE hA113 3 (e3 rfl (es rfl l3_110))
            have l5_113 := lookE hA113 5 (e3 rfl (es rfl l5_110))
            have l9_113 := lookE hA113 9 (e3 rfl (es rfl l9_110))
            have l11_113 := lookE hA113 11 (e3 rfl (es rfl l11_110))
            have l12_113 := lookE hA113 12 (e3 rfl (es rfl l12_110))
            have l14_113 := lookE hA113 14 (e3 rfl (es rfl l14_110))
            have l16_113 := lookE hA113 16 (e3 rfl (es rfl l16_110))
            have l94_113 := lookE hA113 94 (e3 rfl (es rfl l94_110))
            have l95_113 := lookE hA113 95 (e3 rfl (es rfl l95_110))
            have l98_113 := lookE hA113 98 (e3 rfl (es rfl l98_110))
            have l99_113 := lookE hA113 99 (e3 rfl (es rfl l99_110))
            have l100_113 := lookE hA113 100 (e3 rfl (es rfl l100_110))
            have l101_113 := lookE hA113 101 (e3 rfl (es rfl l101_110))
            have l102_113 := lookE hA113 102 (e3 rfl (es rfl l102_110))
            have l103_113 := lookE hA113 103 (e3 rfl (es rfl l103_110))
            have l104_113 := lookE hA113 104 (e3 rfl (es rfl l104_110))
            have l107_113 := lookE hA113 107 (e3 rfl (es rfl l107_110))
            have l108_113 := lookE hA113 108 (e3 rfl (es rfl l108_110))
            have l109_113 := lookE hA113 109 (e3 rfl (es rfl l109_110))
            have l110_113 := lookE hA113 110 (e3 rfl (es rfl l110_110))
            have l113_113 := lookE hA113 113 (e3 rfl (es rfl l113_110))
            have l114_113 := lookE hA113 114 (e3 rfl (es rfl l114_110))
            have l117_113 := lookE hA113 117 (e3 rfl (es rfl l117_110))
            have l118_113 := lookE hA113 118 (e3 rfl (es rfl l118_110))
            have l119_113 := lookE hA113 119 (e3 rfl (es rfl l119_110))
            have l120_113 := lookE hA113 120 (e3 rfl (es rfl l120_110))
            have l121_113 := lookE hA113 121 (e3 rfl (es rfl l121_110))
            have l122_113 := lookE hA113 122 (e3 rfl (es rfl l122_110))
            have l123_113 := lookE hA113 123 (e3 rfl (es rfl l123_110))
            have l124_113 := lookE hA113 124 (e3 rfl (es rfl l124_110))
            have l125_113 := lookE hA113 125 (e3 rfl (es rfl l125_110))
            have l126_113 := lookE hA113 126 (e3 rfl (es rfl l126_110))
            have l127_113 := lookE hA113 127 (e3 rfl (es rfl l127_110))
            have l128_113 := lookE hA113 128 (e3 rfl (es rfl l128_110))
            have l129_113 := lookE hA113 129 (e3 rfl (es rfl l129_110))
            have l130_113 := lookE hA113 130 (e3 rfl (es rfl l130_110))
            have l131_113 := lookE hA113 131 (e3 rfl (es rfl l131_110))
            have l132_113 := lookE hA113 132 (e3 rfl (es rfl l132_110))
            have l137_113 := lookE hA113 137 (et rfl)
            clear hA113 hsz110 hdf110 l16_110 l0_110 l3_110 l5_110 l9_110 l11_110 l12_110 l14_110 l94_110 l95_110 l98_110 l99_110 l100_110 l101_110 l102_110 l103_110 l104_110 l107_110 l108_110 l109_110 l110_110 l113_110 l114_110 l117_110 l118_110 l119_110 l120_110 l121_110 l122_110 l123_110 l124_110 l125_110 l126_110 l127_110 l128_110 l129_110 l130_110 l131_110 l132_110
            refine then_n (hK112 _ _ ?_)
            clear hK112
            refine cond_dec l137_113 (fun c114 => ?_) (fun c114 => ?_)
            · skip
              refine wp_skip ?_
              refine then_n (hK111 _ _ ?_)
              clear hK111
              refine wp_seq_k (fun K115 hK115 => ?_)
              refine wp_block ?_
              refine wp_seq_k (fun K116 hK116 => ?_)
              refine region_monoS 46 46 [] (by kernel_rfl) (by kernel_rfl) ?_
              refine D_v rfl rfl (V_mov rfl l14_113) rfl rfl ?_
              refine D_v rfl rfl (V_mov rfl (es rfl l16_113)) rfl rfl ?_
              have k117 : m < (hoT ws c y61.1).length := by first | omega | (simp only [List.length_cons, List.length_nil]; omega) | (simp only [List.length_set]; omega) | decide
              obtain ⟨y117, hy117⟩ := get_some (xs := (hoT ws c y61.1)) (k := m) k117
              have hh117 := sums_ho hsl hrow61.1 hy117
              obtain ⟨B117, O117, C117, hv117⟩ := (SlN.blk (ow_at (hS110.chq 0 rfl hc_67r_110)) (by first | omega | (simp only [List.length_cons, List.length_nil]; omega) | (simp only [List.length_set]; omega) | decide))
              refine D_v rfl rfl (V_ixS (off := O117 + m) 1 (m) rfl (es rfl (et rfl)) (et rfl) hv117 (by omega) k117 Try.underlying23 (by kernel_rfl) (congrArg _ (Nat.mul_one _))) rfl rfl ?_
              refine D_r rfl rfl (by kernel_rfl) (fun sx hx hF => (VR_ldC rfl (et rfl) ((ow_at ((hS110.grow hx).chq 0 rfl hc_67r_110)).cell hv117 (map_get hy117)) Try.underlying3 rfl)) rfl rfl ?_
              refine D_v rfl rfl (V_lss rfl (et rfl) rfl) rfl rfl ?_
              refine D_sure (c' := false) rfl rfl (V_mov rfl (et rfl)) (by rw [decide_eq_false_iff_not]; have q := hh117.1; omega) rfl rfl ?_
              refine D_v rfl (wanted_t rfl rfl (et rfl) (ez rfl)) (V_mov rfl (e5 rfl (es rfl l14_113))) rfl rfl ?_
              refine D_v rfl (wanted_t rfl rfl (es rfl (et rfl)) (ez rfl)) (V_mov rfl (e6 rfl (es rfl l16_113))) rfl rfl ?_
              refine D_v rfl (wanted_t rfl rfl (e2 rfl (et rfl)) (ez rfl)) (V_ixS (off := O117 + m) 1 (m) rfl (es rfl (et rfl)) (et rfl) hv117 (by omega) k117 Try.underlying23 (by kernel_rfl) (congrArg _ (Nat.mul_one _))) rfl rfl ?_
              refine D_r rfl (wanted_t rfl rfl (e3 rfl (et rfl)) (ez rfl)) (by kernel_rfl) (fun sx hx hF => (VR_ldC rfl (et rfl) ((ow_at ((hS110.grow hx).chq 0 rfl hc_67r_110)).cell hv117 (map_get hy117)) Try.underlying3 rfl)) rfl rfl ?_
              refine D_v rfl (wanted_t rfl rfl (e4 rfl (et rfl)) (ez rfl)) (V_mov rfl (e9 rfl (es rfl l0_113))) rfl rfl ?_
              refine D_v rfl (wanted_t rfl rfl (e5 rfl (et rfl)) (ez rfl)) (V_lenS rfl (et rfl) (sl_SlN h_wv.at) Try.underlying22) rfl rfl ?_
              refine D_v rfl (wanted_t rfl rfl (e6 rfl (et rfl)) (ez rfl)) (V_geq rfl (e2 rfl (et rfl)) (et rfl)) rfl rfl ?_
              refine D_v rfl rfl (V_pickF rfl (e7 rfl (et rfl)) (et rfl)) rfl rfl ?_
              refine D_sure (c' := false) rfl rfl (V_mov rfl (et rfl)) (by rw [decide_eq_false_iff_not]; omega) rfl rfl ?_
              refine D_v rfl (wanted_t rfl rfl (et rfl) (ez rfl)) (V_mov rfl (e14 rfl (es rfl l0_113))) rfl rfl ?_
              refine D_v rfl (wanted_t rfl rfl (es rfl (et rfl)) (ez rfl)) (V_mov rfl (e15 rfl (es rfl l14_113))) rfl rfl ?_
              refine D_v rfl (wanted_t rfl rfl (e2 rfl (et rfl)) (ez rfl)) (V_mov rfl (e16 rfl (es rfl l16_113))) rfl rfl ?_
              refine D_v rfl (wanted_t rfl rfl (e3 rfl (et rfl)) (ez rfl)) (V_ixS (off := O117 + m) 1 (m) rfl (es rfl (et rfl)) (et rfl) hv117 (by omega) k117 Try.underlying23 (by kernel_rfl) (congrArg _ (Nat.mul_one _))) rfl rfl ?_
              refine D_r rfl (wanted_t rfl rfl (e4 rfl (et rfl)) (ez rfl)) (by kernel_rfl) (fun sx hx hF => (VR_ldC rfl (et rfl) ((ow_at ((hS110.grow hx).chq 0 rfl hc_67r_110)).cell hv117 (map_get hy117)) Try.underlying3 rfl)) rfl rfl ?_
              have k120 : y117.toNat < ws.length := by first | omega | (simp only [List.length_cons, List.length_nil]; omega) | (simp only [List.length_set]; omega) | decide
              obtain ⟨y120, hy120⟩ := get_some (xs := ws) (k := y117.toNat) k120
              have hwa120 := wA_at hy120
              have hwu120 := hu _ (List.mem_of_getElem? hy120)
              obtain ⟨B120, O120, C120, hv120⟩ := (SlN.blk (sl_SlN h_wv.at) (by first | omega | (simp only [List.length_cons, List.length_nil]; omega) | (simp only [List.length_set]; omega) | decide))
              refine D_v rfl (wanted_t rfl rfl (e5 rfl (et rfl)) (ez rfl)) (V_ixS (off := O120 + y117.toNat) 1 (y117.toNat) rfl (e4 rfl (et rfl)) (et rfl) hv120 (by omega) k120 Try.underlying22 (by kernel_rfl) (congrArg _ (Nat.mul_one _))) rfl rfl ?_
              refine D_r rfl (wanted_t rfl rfl (e6 rfl (et rfl)) (ez rfl)) (by kernel_rfl) (fun sx hx hF => (VR_ldC rfl (et rfl) ((sl_SlN ((hS110.grow hx).ro h_wv)).cell hv120 (map_get hy120)) Try.underlying40 rfl)) rfl rfl ?_
              refine D_v rfl (wanted_t rfl rfl (e7 rfl (et rfl)) (ez rfl)) (V_mov rfl (e21 rfl (es rfl l5_113))) rfl rfl ?_
              refine D_v rfl (wanted_t rfl rfl (e8 rfl (et rfl)) (ez rfl)) (V_mov rfl (e22 rfl (es rfl l11_113))) rfl rfl ?_
              refine D_v rfl (wanted_t rfl rfl (e9 rfl (et rfl)) (ez rfl)) (V_ixS (off := O61 + j * 2) 2 (j) rfl (es rfl (et rfl)) (et rfl) hv61 (by omega) k61 Try.underlying28 (by kernel_rfl) rfl) rfl rfl ?_
              refine D_v rfl (wanted_t rfl rfl (e10 rfl (et rfl)) (ez rfl)) (V_fa (off' := O61 + j * 2 + 0) rfl (et rfl) Try.underlying42 rfl (by decide +kernel) rfl) rfl rfl ?_
              refine D_r rfl (wanted_t rfl rfl (e11 rfl (et rfl)) (ez rfl)) (by kernel_rfl) (fun sx hx hF => (VR_ldC (v := .int .i64 (y61.1)) rfl (et rfl) (SlN.row rcC_len (ow_at ((hS110.grow hx).chq 1 rfl hc_32b_110)) hv61 hy61 rfl 0 _ rfl) Try.underlying3 rfl)) rfl rfl ?_
              refine D_v rfl (wanted_t rfl rfl (e12 rfl (et rfl)) (ez rfl)) (V_cvt rfl (et rfl) Try.underlying3 Try.underlying40 (wrap_u64 (by omega) (by omega))) rfl rfl ?_
              refine D_v rfl (wanted_t rfl rfl (e13 rfl (et rfl)) (ez rfl)) (V_neq rfl (e6 rfl (et rfl)) (et rfl)) rfl rfl ?_
              refine D_v rfl rfl (V_pickF rfl (e14 rfl (et rfl)) (et rfl)) rfl rfl ?_
              refine D_sure (c' := false) rfl rfl (V_mov rfl (et rfl)) (by rw [decide_eq_false_iff_not]; have q := hh117.2.1; omega) rfl rfl ?_
              refine D_v rfl (wanted_t rfl rfl (et rfl) (ez rfl)) (V_mov rfl (e25 rfl (es rfl (es rfl (es rfl (es rfl (es rfl (es rfl l16_113)))))))) rfl rfl ?_
              refine D_v rfl (wanted_t rfl rfl (es rfl (et rfl)) (ez rfl)) (V_gtr rfl (et rfl) rfl) rfl rfl ?_
              refine D_split rfl (wanted_t rfl rfl (e2 rfl (et rfl)) (ez rfl)) (V_mov rfl (et rfl)) rfl rfl (fun c122 => ?_) (fun c122 => ?_)
              · skip
                refine D_v rfl (wanted_t rfl rfl (et rfl) (ez rfl)) (V_mov rfl (e25 rfl (es rfl (es rfl (es rfl (es rfl (es rfl (es rfl (es rfl (es rfl (es rfl l14_113))))))))))) rfl rfl ?_
                refine D_v rfl (wanted_t rfl rfl (es rfl (et rfl)) (ez rfl)) (V_mov rfl (e25 rfl (es rfl (es rfl (es rfl (es rfl (es rfl (es rfl (es rfl (es rfl (es rfl (es rfl l16_113)))))))))))) rfl rfl ?_
                refine D_v rfl (wanted_t rfl rfl (e2 rfl (et rfl)) (ez rfl)) (V_ixS (off := O117 + m) 1 (m) rfl (es rfl (et rfl)) (et rfl) hv117 (by omega) k117 Try.underlying23 (by kernel_rfl) (congrArg _ (Nat.mul_one _))) rfl rfl ?_
                refine D_r rfl (wanted_t rfl rfl (e3 rfl (et rfl)) (ez rfl)) (by kernel_rfl) (fun sx hx hF => (VR_ldC rfl (et rfl) ((ow_at ((hS110.grow hx).chq 0 rfl hc_67r_110)).cell hv117 (map_get hy117)) Try.underlying3 rfl)) rfl rfl ?_
                refine D_v rfl (wanted_t rfl rfl (e4 rfl (et rfl)) (ez rfl)) (V_mov rfl (e25 rfl (es rfl (es rfl (es rfl (es rfl (es rfl (es rfl (es rfl (es rfl (es rfl (es rfl (es rfl (es rfl (es rfl l14_113))))))))))))))) rfl rfl ?_
                refine D_v rfl (wanted_t rfl rfl (e5 rfl (et rfl)) (ez rfl)) (V_mov rfl (e25 rfl (es rfl (es rfl (es rfl (es rfl (es rfl (es rfl (es rfl (es rfl (es rfl (es rfl (es rfl (es rfl (es rfl (es rfl l16_113)))))))))))))))) rfl rfl ?_
                refine D_v rfl (wanted_t rfl rfl (e6 rfl (et rfl)) (ez rfl)) (V_sb rfl (et rfl) rfl (by omega) (by omega)) rfl rfl ?_
                have k124 : (m - 1) < (hoT ws c y61.1).length := by first | omega | (simp only [List.length_cons, List.length_nil]; omega) | (simp only [List.length_set]; omega) | decide
                obtain ⟨y124, hy124⟩ := get_some (xs := (hoT ws c y61.1)) (k := (m - 1)) k124
                refine D_v rfl (wanted_t rfl rfl (e7 rfl (et rfl)) (ez rfl)) (V_ixS (off := O117 + (m - 1)) 1 ((m - 1)) rfl (e2 rfl (et rfl)) (et rfl) hv117 (by omega) k124 Try.underlying23 (by kernel_rfl) (congrArg _ (Nat.mul_one _))) rfl rfl ?_
                refine D_r rfl (wanted_t rfl rfl (e8 rfl (et rfl)) (ez rfl)) (by kernel_rfl) (fun sx hx hF => (VR_ldC rfl (et rfl) ((ow_at ((hS110.grow hx).chq 0 rfl hc_67r_110)).cell hv117 (map_get hy124)) Try.underlying3 rfl)) rfl rfl ?_
                refine D_v rfl (wanted_t rfl rfl (e9 rfl (et rfl)) (ez rfl)) (V_leq rfl (e5 rfl (et rfl)) (et rfl)) rfl rfl ?_
                refine D_v rfl (wanted_t rfl rfl (e13 rfl (et rfl)) (ez rfl)) (V_pickT rfl (e10 rfl (et rfl)) (et rfl)) rfl rfl ?_
                refine D_v rfl rfl (V_pickF rfl (e14 rfl (et rfl)) (et rfl)) rfl rfl ?_
                refine ZS_none hS110 (Nat.le_refl _) (Nat.le_refl _) (fun s125 hJ125 hL125 hF125 => ?_)
                have hS125 := hJ125.st; clear hF125 hJ125 hL125
                generalize s125.1 = w125 at *
                replace hS125 : St w NoX [c_67r_110, c_32b_110, c2_110] w125 := hS125
                refine gen_Q (fun A126 hA126 => ?_)
                have hsz126 := szq hA126
                have hdf126 : A126.defers = [] := by rw [hA126]; simp only [df_put]; exact hdf113
                have l0_126 := lookE hA126 0 (e25 rfl (es rfl (es rfl (es rfl (es rfl (es rfl (es rfl (es rfl (es rfl (es rfl (es rfl (es rfl (es rfl (es rfl (es rfl (es rfl (es rfl (es rfl (es rfl (es rfl (es rfl (es rfl l0_113))))))))))))))))))))))
                have l3_126 := lookE hA126 3 (e25 rfl (es rfl (es rfl (es rfl (es rfl (es rfl (es rfl (es rfl (es rfl (es rfl (es rfl (es rfl (es rfl (es rfl (es rfl (es rfl (es rfl (es rfl (es rfl (es rfl (es rfl (es rfl l3_113))))))))))))))))))))))
                have l5_126 := lookE hA126 5 (e25 rfl (es rfl (es rfl (es rfl (es rfl (es rfl (es rfl (es rfl (es rfl (es rfl (es rfl (es rfl (es rfl (es rfl (es rfl (es rfl (es rfl (es rfl (es rfl (es rfl (es rfl (es rfl l5_113))))))))))))))))))))))
                have l9_126 := lookE hA126 9 (e25 rfl (es rfl (es rfl (es rfl (es rfl (es rfl (es rfl (es rfl (es rfl (es rfl (es rfl (es rfl (es rfl (es rfl (es rfl (es rfl (es rfl (es rfl (es rfl (es rfl (es rfl (es rfl l9_113))))))))))))))))))))))
                have l11_126 := lookE hA126 11 (e25 rfl (es rfl (es rfl (es rfl (es rfl (es rfl (es rfl (es rfl (es rfl (es rfl (es rfl (es rfl (es rfl (es rfl (es rfl (es rfl (es rfl (es rfl (es rfl (es rfl (es rfl (es rfl l11_113))))))))))))))))))))))
                have l12_126 := lookE hA126 12 (e25 rfl (es rfl (es rfl (es rfl (es rfl (es rfl (es rfl (es rfl (es rfl (es rfl (es rfl (es rfl (es rfl (es rfl (es rfl (es rfl (es rfl (es rfl (es rfl (es rfl (es rfl (es rfl l12_113))))))))))))))))))))))
                have l14_126 := lookE hA126 14 (e25 rfl (es rfl (es rfl (es rfl (es rfl (es rfl (es rfl (es rfl (es rfl (es rfl (es rfl (es rfl (es rfl (es rfl (es rfl (es rfl (es rfl (es rfl (es rfl (es rfl (es rfl (es rfl l14_113))))))))))))))))))))))
                have l16_126 := lookE hA126 16 (e25 rfl (es rfl (es rfl (es rfl (es rfl (es rfl (es rfl (es rfl (es rfl (es rfl (es rfl (es rfl (es rfl (es rfl (es rfl (es rfl (es rfl (es rfl (es rfl (es rfl (es rfl (es rfl l16_113))))))))))))))))))))))
                have l94_126 := lookE hA126 94 (e25 rfl (es rfl (es rfl (es rfl (es rfl (es rfl (es rfl (es rfl (es rfl (es rfl (es rfl (es rfl (es rfl (es rfl (es rfl (es rfl (es rfl (es rfl (es rfl (es rfl (es rfl (es rfl l94_113))))))))))))))))))))))
                have l95_126 := lookE hA126 95 (e25 rfl (es rfl (es rfl (es rfl (es rfl (es rfl (es rfl (es rfl (es rfl (es rfl (es rfl (es rfl (es rfl (es rfl (es rfl (es rfl (es rfl (es rfl (es rfl (es rfl (es rfl (es rfl l95_113))))))))))))))))))))))
                have l98_126 := lookE hA126 98 (e25 rfl (es rfl (es rfl (es rfl (es rfl (es rfl (es rfl (es rfl (es rfl (es rfl (es rfl (es rfl (es rfl (es rfl (es rfl (es rfl (es rfl (es rfl (es rfl (es rfl (es rfl (es rfl l98_113))))))))))))))))))))))
                have l99_126 := lookE hA126 99 (e25 rfl (es rfl (es rfl (es rfl (es rfl (es rfl (es rfl (es rfl (es rfl (es rfl (es rfl (es rfl (es rfl (es rfl (es rfl (es rfl (es rfl (es rfl (es rfl (es rfl (es rfl (es rfl l99_113))))))))))))))))))))))
                have l100_126 := lookE hA126 100 (e25 rfl (es rfl (es rfl (es rfl (es rfl (es rfl (es rfl (es rfl (es rfl (es rfl (es rfl (es rfl (es rfl (es rfl (es rfl (es rfl (es rfl (es rfl (es rfl (es rfl (es rfl (es rfl l100_113))))))))))))))))))))))
                have l101_126 := lookE hA126 101 (e25 rfl (es rfl (es rfl (es rfl (es rfl (es rfl (es rfl (es rfl (es rfl (es rfl (es rfl (es rfl (es rfl (es rfl (es rfl (es rfl (es rfl (es rfl (es rfl (es rfl (es rfl (es rfl l101_113))))))))))))))))))))))
                have l102_126 := lookE hA126 102 (e25 rfl (es rfl (es rfl (es rfl (es rfl (es rfl (es rfl (es rfl (es rfl (es rfl (es rfl (es rfl (es rfl (es rfl (es rfl (es rfl (es rfl (es rfl (es rfl (es rfl (es rfl (es rfl l102_113))))))))))))))))))))))
                have l103_126 := lookE hA126 103 (e25 rfl (es rfl (es rfl (es rfl (es rfl (es rfl (es rfl (es rfl (es rfl (es rfl (es rfl (es rfl (es rfl (es rfl (es rfl (es rfl (es rfl (es rfl (es rfl (es rfl (es rfl (es rfl l103_113))))))))))))))))))))))
                have l104_126 := lookE hA126 104 (e25 rfl (es rfl (es rfl (es rfl (es rfl (es rfl (es rfl (es rfl (es rfl (es rfl (es rfl (es rfl (es rfl (es rfl (es rfl (es rfl (es rfl (es rfl (es rfl (es rfl (es rfl (es rfl l104_113))))))))))))))))))))))
                have l107_126 := lookE hA126 107 (e25 rfl (es rfl (es rfl (es rfl (es rfl (es rfl (es rfl (es rfl (es rfl (es rfl (es rfl (es rfl (es rfl (es rfl (es rfl (es rfl (es rfl (es rfl (es rfl (es rfl (es rfl (es rfl l107_113))))))))))))))))))))))
                have l108_126 := lookE hA126 108 (e25 rfl (es rfl (es rfl (es rfl (es rfl (es rfl (es rfl (es rfl (es rfl (es rfl (es rfl (es rfl (es rfl (es rfl (es rfl (es rfl (es rfl (es rfl (es rfl (es rfl (es rfl (es rfl l108_113))))))))))))))))))))))
                have l109_126 := lookE hA126 109 (e25 rfl (es rfl (es rfl (es rfl (es rfl (es rfl (es rfl (es rfl (es rfl (es rfl (es rfl (es rfl (es rfl (es rfl (es rfl (es rfl (es rfl (es rfl (es rfl (es rfl (es rfl (es rfl l109_113))))))))))))))))))))))
                have l110_126 := lookE hA126 110 (e25 rfl (es rfl (es rfl (es rfl (es rfl (es rfl (es rfl (es rfl (es rfl (es rfl (es rfl (es rfl (es rfl (es rfl (es rfl (es rfl (es rfl (es rfl (es rfl (es rfl (es rfl (es rfl l110_113))))))))))))))))))))))
                have l113_126 := lookE hA126 113 (e25 rfl (es rfl (es rfl (es rfl (es rfl (es rfl (es rfl (es rfl (es rfl (es rfl (es rfl (es rfl (es rfl (es rfl (es rfl (es rfl (es rfl (es rfl (es rfl (es rfl (es rfl (es rfl l113_113))))))))))))))))))))))
                have l114_126 := lookE hA126 114 (e25 rfl (es rfl (es rfl (es rfl (es rfl (es rfl (es rfl (es rfl (es rfl (es rfl (es rfl (es rfl (es rfl (es rfl (es rfl (es rfl (es rfl (es rfl (es rfl (es rfl (es rfl (es rfl l114_113))))))))))))))))))))))
                have l117_126 := lookE hA126 117 (e25 rfl (es rfl (es rfl (es rfl (es rfl (es rfl (es rfl (es rfl (es rfl (es rfl (es rfl (es rfl (es rfl (es rfl (es rfl (es rfl (es rfl (es rfl (es rfl (es rfl (es rfl (es rfl l117_113))))))))))))))))))))))
                have l118_126 := lookE hA126 118 (e25 rfl (es rfl (es rfl (es rfl (es rfl (es rfl (es rfl (es rfl (es rfl (es rfl (es rfl (es rfl (es rfl (es rfl (es rfl (es rfl (es rfl (es rfl (es rfl (es rfl (es rfl (es rfl l118_113))))))))))))))))))))))
                have l119_126 := lookE hA126 119 (e25 rfl (es rfl (es rfl (es rfl (es rfl (es rfl (es rfl (es rfl (es rfl (es rfl (es rfl (es rfl (es rfl (es rfl (es rfl (es rfl (es rfl (es rfl (es rfl (es rfl (es rfl (es rfl l119_113))))))))))))))))))))))
                have l120_126 := lookE hA126 120 (e25 rfl (es rfl (es rfl (es rfl (es rfl (es rfl (es rfl (es rfl (es rfl (es rfl (es rfl (es rfl (es rfl (es rfl (es rfl (es rfl (es rfl (es rfl (es rfl (es rfl (es rfl (es rfl l120_113))))))))))))))))))))))
                have l121_126 := lookE hA126 121 (e25 rfl (es rfl (es rfl (es rfl (es rfl (es rfl (es rfl (es rfl (es rfl (es rfl (es rfl (es rfl (es rfl (es rfl (es rfl (es rfl (es rfl (es rfl (es rfl (es rfl (es rfl (es rfl l121_113))))))))))))))))))))))
                have l122_126 := lookE hA126 122 (e25 rfl (es rfl (es rfl (es rfl (es rfl (es rfl (es rfl (es rfl (es rfl (es rfl (es rfl (es rfl (es rfl (es rfl (es rfl (es rfl (es rfl (es rfl (es rfl (es rfl (es rfl (es rfl l122_113))))))))))))))))))))))
                have l123_126 := lookE hA126 123 (e25 rfl (es rfl (es rfl (es rfl (es rfl (es rfl (es rfl (es rfl (es rfl (es rfl (es rfl (es rfl (es rfl (es rfl (es rfl (es rfl (es rfl (es rfl (es rfl (es rfl (es rfl (es rfl l123_113))))))))))))))))))))))
                have l124_126 := lookE hA126 124 (e25 rfl (es rfl (es rfl (es rfl (es rfl (es rfl (es rfl (es rfl (es rfl (es rfl (es rfl (es rfl (es rfl (es rfl (es rfl (es rfl (es rfl (es rfl (es rfl (es rfl (es rfl (es rfl l124_113))))))))))))))))))))))
                have l125_126 := lookE hA126 125 (e25 rfl (es rfl (es rfl (es rfl (es rfl (es rfl (es rfl (es rfl (es rfl (es rfl (es rfl (es rfl (es rfl (es rfl (es rfl (es rfl (es rfl (es rfl (es rfl (es rfl (es rfl (es rfl l125_113))))))))))))))))))))))
                have l126_126 := lookE hA126 126 (e25 rfl (es rfl (es rfl (es rfl (es rfl (es rfl (es rfl (es rfl (es rfl (es rfl (es rfl (es rfl (es rfl (es rfl (es rfl (es rfl (es rfl (es rfl (es rfl (es rfl (es rfl (es rfl l126_113))))))))))))))))))))))
                have l127_126 := lookE hA126 127 (e25 rfl (es rfl (es rfl (es rfl (es rfl (es rfl (es rfl (es rfl (es rfl (es rfl (es rfl (es rfl (es rfl (es rfl (es rfl (es rfl (es rfl (es rfl (es rfl (es rfl (es rfl (es rfl l127_113))))))))))))))))))))))
                have l128_126 := lookE hA126 128 (e25 rfl (es rfl (es rfl (es rfl (es rfl (es rfl (es rfl (es rfl (es rfl (es rfl (es rfl (es rfl (es rfl (es rfl (es rfl (es rfl (es rfl (es rfl (es rfl (es rfl (es rfl (es rfl l128_113))))))))))))))))))))))
                have l129_126 := lookE hA126 129 (e25 rfl (es rfl (es rfl (es rfl (es rfl (es rfl (es rfl (es rfl (es rfl (es rfl (es rfl (es rfl (es rfl (es rfl (es rfl (es rfl (es rfl (es rfl (es rfl (es rfl (es rfl (es rfl l129_113))))))))))))))))))))))
                have l130_126 := lookE hA126 130 (e25 rfl (es rfl (es rfl (es rfl (es rfl (es rfl (es rfl (es rfl (es rfl (es rfl (es rfl (es rfl (es rfl (es rfl (es rfl (es rfl (es rfl (es rfl (es rfl (es rfl (es rfl (es rfl l130_113))))))))))))))))))))))
                have l131_126 := lookE hA126 131 (e25 rfl (es rfl (es rfl (es rfl (es rfl (es rfl (es rfl (es rfl (es rfl (es rfl (es rfl (es rfl (es rfl (es rfl (es rfl (es rfl (es rfl (es rfl (es rfl (es rfl (es rfl (es rfl l131_113))))))))))))))))))))))
                have l132_126 := lookE hA126 132 (e25 rfl (es rfl (es rfl (es rfl (es rfl (es rfl (es rfl (es rfl (es rfl (es rfl (es rfl (es rfl (es rfl (es rfl (es rfl (es rfl (es rfl (es rfl (es rfl (es rfl (es rfl (es rfl l132_113))))))))))))))))))))))
                have l146_126 := lookE hA126 146 (e25 rfl (es rfl (es rfl (es rfl (es rfl (es rfl (es rfl (es rfl (es rfl (es rfl (es rfl (es rfl (es rfl (es rfl (es rfl (et rfl))))))))))))))))
                have l147_126 := lookE hA126 147 (e25 rfl (es rfl (es rfl (es rfl (es rfl (es rfl (es rfl (es rfl (es rfl (es rfl (es rfl (es rfl (es rfl (es rfl (et rfl)))))))))))))))
                have l148_126 := lookE hA126 148 (e25 rfl (es rfl (es rfl (es rfl (es rfl (es rfl (es rfl (es rfl (es rfl (es rfl (es rfl (es rfl (es rfl (et rfl))))))))))))))
                have l149_126 := lookE hA126 149 (e25 rfl (es rfl (es rfl (es rfl (es rfl (es rfl (es rfl (es rfl (es rfl (es rfl (es rfl (es rfl (et rfl)))))))))))))
                have l150_126 := lookE hA126 150 (e25 rfl (es rfl (es rfl (es rfl (es rfl (es rfl (es rfl (es rfl (es rfl (es rfl (es rfl (et rfl))))))))))))
                have l151_126 := lookE hA126 151 (e25 rfl (es rfl (es rfl (es rfl (es rfl (es rfl (es rfl (es rfl (es rfl (es rfl (et rfl)))))))))))
                have l152_126 := lookE hA126 152 (e25 rfl (es rfl (es rfl (es rfl (es rfl (es rfl (es rfl (es rfl (es rfl (et rfl))))))))))
                have l155_126 := lookE hA126 155 (e25 rfl (es rfl (es rfl (es rfl (es rfl (es rfl (et rfl)))))))
                have l156_126 := lookE hA126 156 (e25 rfl (es rfl (es rfl (es rfl (es rfl (et rfl))))))
                have l157_126 := lookE hA126 157 (e25 rfl (es rfl (es rfl (es rfl (et rfl)))))
                have l158_126 := lookE hA126 158 (e25 rfl (es rfl (es rfl (et rfl))))
                have l159_126 := lookE hA126 159 (e25 rfl (es rfl (et rfl)))
                have l160_126 := lookE hA126 160 (e25 rfl (et rfl))
                have l161_126 := lookE hA126 161 (e24 rfl (et rfl))
                have l162_126 := lookE hA126 162 (e23 rfl (et rfl))
                have l163_126 := lookE hA126 163 (e22 rfl (et rfl))
                have l164_126 := lookE hA126 164 (e21 rfl (et rfl))
                have l165_126 := lookE hA126 165 (e20 rfl (et rfl))
                have l166_126 := lookE hA126 166 (e19 rfl (et rfl))
                have l167_126 := lookE hA126 167 (e18 rfl (et rfl))
                have l168_126 := lookE hA126 168 (e17 rfl (et rfl))
                have l171_126 := lookE hA126 171 (e14 rfl (et rfl))
                have l172_126 := lookE hA126 172 (e13 rfl (et rfl))
                have l173_126 := lookE hA126 173 (e12 rfl (et rfl))
                have l174_126 := lookE hA126 174 (e11 rfl (et rfl))
                have l175_126 := lookE hA126 175 (e10 rfl (et rfl))
                have l176_126 := lookE hA126 176 (e9 rfl (et rfl))
                have l177_126 := lookE hA126 177 (e8 rfl (et rfl))
                have l178_126 := lookE hA126 178 (e7 rfl (et rfl))
                have l179_126 := lookE hA126 179 (e6 rfl (et rfl))
                have l180_126 := lookE hA126 180 (e5 rfl (et rfl))
                have l181_126 := lookE hA126 181 (e4 rfl (et rfl))
                have l182_126 := lookE hA126 182 (e3 rfl (et rfl))
                have l183_126 := lookE hA126 183 (e2 rfl (et rfl))
                have l184_126 := lookE hA126 184 (es rfl (et rfl))
                have l185_126 := lookE hA126 185 (et rfl)
                clear hA126 hsz113 hdf113 l0_113 l3_113 l5_113 l9_113 l11_113 l12_113 l14_113 l16_113 l94_113 l95_113 l98_113 l99_113 l100_113 l101_113 l102_113 l103_113 l104_113 l107_113 l108_113 l109_113 l110_113 l113_113 l114_113 l117_113 l118_113 l119_113 l120_113 l121_113 l122_113 l123_113 l124_113 l125_113 l126_113 l127_113 l128_113 l129_113 l130_113 l131_113 l132_113 l137_113
                refine then_n (hK116 _ _ ?_)
                clear hK116
                refine cond_not l185_126 (by rw [decide_eq_false_iff_not]; have q := hh117.2.2 _ _ (show m - 1 < m by omega) hy124; omega) ?_
                refine wp_skip ?_
                refine inb_n ?_
                refine then_n (hK115 _ _ ?_)
                clear hK115
                refine region_in ?_
                refine W_v rfl rfl (V_mov rfl l16_126) ?_
                refine W_v rfl rfl (V_add rfl (et rfl) rfl (by omega) (by omega)) ?_
                refine W_v rfl rfl (V_asg rfl (et rfl)) ?_
                refine W_end ?_
                refine gen_Q (fun A127 hA127 => ?_)
                have hsz127 := szq hA127
                have hdf127 : A127.defers = [] := by rw [hA127]; simp only [df_put]; exact hdf126
                have l0_127 := lookE hA127 0 (e2 rfl (es rfl l0_126))
                have l3_127 := lookE hA127 3 (e2 rfl (es rfl l3_126))
                have l5_127 := lookE hA127 5 (e2 rfl (es rfl l5_126))
                have l9_127 := lookE hA127 9 (e2 rfl (es rfl l9_126))
                have l11_127 := lookE hA127 11 (e2 rfl (es rfl l11_126))
                have l12_127 := lookE hA127 12 (e2 rfl (es rfl l12_126))
                have l14_127 := lookE hA127 14 (e2 rfl (es rfl l14_126))
                have l16_127 := lookE hA127 16 (et rfl)
                have l94_127 := lookE hA127 94 (e2 rfl (es rfl l94_126))
                have l95_127 := lookE hA127 95 (e2 rfl (es rfl l95_126))
                have l98_127 := lookE hA127 98 (e2 rfl (es rfl l98_126))
                have l99_127 := lookE hA127 99 (e2 rfl (es rfl l99_126))
                have l100_127 := lookE hA127 100 (e2 rfl (es rfl l100_126))
                have l101_127 := lookE hA127 101 (e2 rfl (es rfl l101_126))
                have l102_127 := lookE hA127 102 (e2 rfl (es rfl l102_126))
                have l103_127 := lookE hA127 103 (e2 rfl (es rfl l103_126))
                have l104_127 := lookE hA127 104 (e2 rfl (es rfl l104_126))
                have l107_127 := lookE hA127 107 (e2 rfl (es rfl l107_126))
                have l108_127 := lookE hA127 108 (e2 rfl (es rfl l108_126))
                have l109_127 := lookE hA127 109 (e2 rfl (es rfl l109_126))
                have l110_127 := lookE hA127 110 (e2 rfl (es rfl l110_126))
                have l113_127 := lookE hA127 113 (e2 rfl (es rfl l113_126))
                have l114_127 := lookE hA127 114 (e2 rfl (es rfl l114_126))
                have l117_127 := lookE hA127 117 (e2 rfl (es rfl l117_126))
                have l118_127 := lookE hA127 118 (e2 rfl (es rfl l118_126))
                have l119_127 := lookE hA127 119 (e2 rfl (es rfl l119_126))
                have l120_127 := lookE hA127 120 (e2 rfl (es rfl l120_126))
                have l121_127 := lookE hA127 121 (e2 rfl (es rfl l121_126))
                have l122_127 := lookE hA127 122 (e2 rfl (es rfl l122_126))
                have l123_127 := lookE hA127 123 (e2 rfl (es rfl l123_126))
                have l124_127 := lookE hA127 124 (e2 rfl (es rfl l124_126))
                have l125_127 := lookE hA127 125 (e2 rfl (es rfl l125_126))
                have l126_127 := lookE hA127 126 (e2 rfl (es rfl l126_126))
                have l127_127 := lookE hA127 127 (e2 rfl (es rfl l127_126))
                have l128_127 := lookE hA127 128 (e2 rfl (es rfl l128_126))
                have l129_127 := lookE hA127 129 (e2 rfl (es rfl l129_126))
                have l130_127 := lookE hA127 130 (e2 rfl (es rfl l130_126))
                have l131_127 := lookE hA127 131 (e2 rfl (es rfl l131_126))
                have l132_127 := lookE hA127 132 (e2 rfl (es rfl l132_126))
                have l146_127 := lookE hA127 146 (e2 rfl (es rfl l146_126))
                have l147_127 := lookE hA127 147 (e2 rfl (es rfl l147_126))
                have l148_127 := lookE hA127 148 (e2 rfl (es rfl l148_126))
                have l149_127 := lookE hA127 149 (e2 rfl (es rfl l149_126))
                have l150_127 := lookE hA127 150 (e2 rfl (es rfl l150_126))
                have l151_127 := lookE hA127 151 (e2 rfl (es rfl l151_126))
                have l152_127 := lookE hA127 152 (e2 rfl (es rfl l152_126))
                have l155_127 := lookE hA127 155 (e2 rfl (es rfl l155_126))
                have l156_127 := lookE hA127 156 (e2 rfl (es rfl l156_126))
                have l157_127 := lookE hA127 157 (e2 rfl (es rfl l157_126))
                have l158_127 := lookE hA127 158 (e2 rfl (es rfl l158_126))
                have l159_127 := lookE hA127 159 (e2 rfl (es rfl l159_126))
                have l160_127 := lookE hA127 160 (e2 rfl (es rfl l160_126))
                have l161_127 := lookE hA127 161 (e2 rfl (es rfl l161_126))
                have l162_127 := lookE hA127 162 (e2 rfl (es rfl l162_126))
                have l163_127 := lookE hA127 163 (e2 rfl (es rfl l163_126))
                have l164_127 := lookE hA127 164 (e2 rfl (es rfl l164_126))
                have l165_127 := lookE hA127 165 (e2 rfl (es rfl l165_126))
                have l166_127 := lookE hA127 166 (e2 rfl (es rfl l166_126))
                have l167_127 := lookE hA127 167 (e2 rfl (es rfl l167_126))
                have l168_127 := lookE hA127 168 (e2 rfl (es rfl l168_126))
                have l171_127 := lookE hA127 171 (e2 rfl (es rfl l171_126))
                have l172_127 := lookE hA127 172 (e2 rfl (es rfl l172_126))
                have l173_127 := lookE hA127 173 (e2 rfl (es rfl l173_126))
                have l174_127 := lookE hA127 174 (e2 rfl (es rfl l174_126))
                have l175_127 := lookE hA127 175 (e2 rfl (es rfl l175_126))
                have l176_127 := lookE hA127 176 (e2 rfl (es rfl l176_126))
                have l177_127 := lookE hA127 177 (e2 rfl (es rfl l177_126))
                have l178_127 := lookE hA127 178 (e2 rfl (es rfl l178_126))
                have l179_127 := lookE hA127 179 (e2 rfl (es rfl l179_126))
                have l180_127 := lookE hA127 180 (e2 rfl (es rfl l180_126))
                have l181_127 := lookE hA127 181 (e2 rfl (es rfl l181_126))
                have l182_127 := lookE hA127 182 (e2 rfl (es rfl l182_126))
                have l183_127 := lookE hA127 183 (e2 rfl (es rfl l183_126))
                have l184_127 := lookE hA127 184 (e2 rfl (es rfl l184_126))
                clear hA127 hsz126 hdf126 l0_126 l3_126 l5_126 l9_126 l11_126 l12_126 l14_126 l16_126 l94_126 l95_126 l98_126 l99_126 l100_126 l101_126 l102_126 l103_126 l104_126 l107_126 l108_126 l109_126 l110_126 l113_126 l114_126 l117_126 l118_126 l119_126 l120_126 l121_126 l122_126 l123_126 l124_126 l125_126 l126_126 l127_126 l128_126 l129_126 l130_126 l131_126 l132_126 l146_126 l147_126 l148_126 l149_126 l150_126 l151_126 l152_126 l155_126 l156_126 l157_126 l158_126 l159_126 l160_126 l161_126 l162_126 l163_126 l164_126 l165_126 l166_126 l167_126 l168_126 l171_126 l172_126 l173_126 l174_126 l175_126 l176_126 l177_126 l178_126 l179_126 l180_126 l181_126 l182_126 l183_126 l184_126 l185_126
                refine then_n ⟨(hoT ws c y61.1).length - (m + 1), by simp only [hm110]; omega, hsz127, hdf127, (m + 1), rfl, (by omega), ((l16_127).trans (by first | rfl | (simp; done) | (congr 1; omega))), ((l0_127).trans l0_109.symm), ((l3_127).trans l3_109.symm), ((l5_127).trans l5_109.symm), ((l9_127).trans l9_109.symm), ((l11_127).trans l11_109.symm), ((l12_127).trans l12_109.symm), ((l14_127).trans l14_109.symm), ((l94_127).trans l94_109.symm), ((l95_127).trans l95_109.symm), ((l98_127).trans l98_109.symm), ((l99_127).trans l99_109.symm), ((l100_127).trans l100_109.symm), ((l101_127).trans l101_109.symm), ((l102_127).trans l102_109.symm), ((l103_127).trans l103_109.symm), ((l104_127).trans l104_109.symm), ((l107_127).trans l107_109.symm), ((l108_127).trans l108_109.symm), ((l109_127).trans l109_109.symm), ((l110_127).trans l110_109.symm), ((l113_127).trans l113_109.symm), ((l114_127).trans l114_109.symm), ((l117_127).trans l117_109.symm), ((l118_127).trans l118_109.symm), ((l119_127).trans l119_109.symm), ((l120_127).trans l120_109.symm), ((l121_127).trans l121_109.symm), ((l122_127).trans l122_109.symm), ((l123_127).trans l123_109.symm), ((l124_127).trans l124_109.symm), ((l125_127).trans l125_109.symm), ((l126_127).trans l126_109.symm), ((l127_127).trans l127_109.symm), ((l128_127).trans l128_109.symm), ((l129_127).trans l129_109.symm), ((l130_127).trans l130_109.symm), ((l131_127).trans l131_109.symm), ((l132_127).trans l132_109.symm), (by subst hc_67r_110 hc_32b_110 hc2_110; exact hS125)⟩
              · skip
                refine D_off rfl (wanted_f rfl rfl (et rfl) (ez rfl) rfl) rfl ?_
                refine D_off rfl (wanted_f rfl rfl (es rfl (et rfl)) (ez rfl) rfl) rfl ?_
                refine D_off rfl (wanted_f rfl rfl (e2 rfl (et rfl)) (ez rfl) rfl) rfl ?_
                refine D_off rfl (wanted_f rfl rfl (e3 rfl (et rfl)) (ez rfl) rfl) rfl ?_
                refine D_off rfl (wanted_f rfl rfl (e4 rfl (et rfl)) (ez rfl) rfl) rfl ?_
                refine D_off rfl (wanted_f rfl rfl (e5 rfl (et rfl)) (ez rfl) rfl) rfl ?_
                refine D_off rfl (wanted_f rfl rfl (e6 rfl (et rfl)) (ez rfl) rfl) rfl ?_
                refine D_off rfl (wanted_f rfl rfl (e7 rfl (et rfl)) (ez rfl) rfl) rfl ?_
                refine D_off rfl (wanted_f rfl rfl (e8 rfl (et rfl)) (ez rfl) rfl) rfl ?_
                refine D_off rfl (wanted_f rfl rfl (e9 rfl (et rfl)) (ez rfl) rfl) rfl ?_
                refine D_v rfl (wanted_t rfl rfl (e13 rfl (et rfl)) (ez rfl)) (V_pickF rfl (e10 rfl (et rfl)) rfl) rfl rfl ?_
                refine D_v rfl rfl (V_pickF rfl (e14 rfl (et rfl)) (et rfl)) rfl rfl ?_
                refine ZS_none hS110 (Nat.le_refl _) (Nat.le_refl _) (fun s128 hJ128 hL128 hF128 => ?_)
                have hS128 := hJ128.st; clear hF128 hJ128 hL128
                generalize s128.1 = w128 at *
                replace hS128 : St w NoX [c_67r_110, c_32b_110, c2_110] w128 := hS128
                refine gen_Q (fun A129 hA129 => ?_)
                have hsz129 := szq hA129
                have hdf129 : A129.defers = [] := by rw [hA129]; simp only [df_put]; exact hdf113
                have l0_129 := lookE hA129 0 (e25 rfl (es rfl (es rfl (es rfl (es rfl (es rfl (es rfl (es rfl (es rfl (es rfl (es rfl (es rfl (es rfl (es rfl (es rfl (es rfl (es rfl (es rfl (es rfl (es rfl (es rfl (es rfl l0_113))))))))))))))))))))))
                have l3_129 := lookE hA129 3 (e25 rfl (es rfl (es rfl (es rfl (es rfl (es rfl (es rfl (es rfl (es rfl (es rfl (es rfl (es rfl (es rfl (es rfl (es rfl (es rfl (es rfl (es rfl (es rfl (es rfl (es rfl (es rfl l3_113))))))))))))))))))))))
                have l5_129 := lookE hA129 5 (e25 rfl (es rfl (es rfl (es rfl (es rfl (es rfl (es rfl (es rfl (es rfl (es rfl (es rfl (es rfl (es rfl (es rfl (es rfl (es rfl (es rfl (es rfl (es rfl (es rfl (es rfl (es rfl l5_113))))))))))))))))))))))
                have l9_129 := lookE hA129 9 (e25 rfl (es rfl (es rfl (es rfl (es rfl (es rfl (es rfl (es rfl (es rfl (es rfl (es rfl (es rfl (es rfl (es rfl (es rfl (es rfl (es rfl (es rfl (es rfl (es rfl (es rfl (es rfl l9_113))))))))))))))))))))))
                have l11_129 := lookE hA129 11 (e25 rfl (es rfl (es rfl (es rfl (es rfl (es rfl (es rfl (es rfl (es rfl (es rfl (es rfl (es rfl (es rfl (es rfl (es rfl (es rfl (es rfl (es rfl (es rfl (es rfl (es rfl (es rfl l11_113))))))))))))))))))))))
                have l12_129 := lookE hA129 12 (e25 rfl (es rfl (es rfl (es rfl (es rfl (es rfl (es rfl (es rfl (es rfl (es rfl (es rfl (es rfl (es rfl (es rfl (es rfl (es rfl (es rfl (es rfl (es rfl (es rfl (es rfl (es rfl l12_113))))))))))))))))))))))
                have l14_129 := lookE hA129 14 (e25 rfl (es rfl (es rfl (es rfl (es rfl (es rfl (es rfl (es rfl (es rfl (es rfl (es rfl (es rfl (es rfl (es rfl (es rfl (es rfl (es rfl (es rfl (es rfl (es rfl (es rfl (es rfl l14_113))))))))))))))))))))))
                have l16_129 := lookE hA129 16 (e25 rfl (es rfl (es rfl (es rfl (es rfl (es rfl (es rfl (es rfl (es rfl (es rfl (es rfl (es rfl (es rfl (es rfl (es rfl (es rfl (es rfl (es rfl (es rfl (es rfl (es rfl (es rfl l16_113))))))))))))))))))))))
                have l94_129 := lookE hA129 94 (e25 rfl (es rfl (es rfl (es rfl (es rfl (es rfl (es rfl (es rfl (es rfl (es rfl (es rfl (es rfl (es rfl (es rfl (es rfl (es rfl (es rfl (es rfl (es rfl (es rfl (es rfl (es rfl l94_113))))))))))))))))))))))
                have l95_129 := lookE hA129 95 (e25 rfl (es rfl (es rfl (es rfl (es rfl (es rfl (es rfl (es rfl (es rfl (es rfl (es rfl (es rfl (es rfl (es rfl (es rfl (es rfl (es rfl (es rfl (es rfl (es rfl (es rfl (es rfl l95_113))))))))))))))))))))))
                have l98_129 := lookE hA129 98 (e25 rfl (es rfl (es rfl (es rfl (es rfl (es rfl (es rfl (es rfl (es rfl (es rfl (es rfl (es rfl (es rfl (es rfl (es rfl (es rfl (es rfl (es rfl (es rfl (es rfl (es rfl (es rfl l98_113))))))))))))))))))))))
                have l99_129 := lookE hA129 99 (e25 rfl (es rfl (es rfl (es rfl (es rfl (es rfl (es rfl (es rfl (es rfl (es rfl (es rfl (es rfl (es rfl (es rfl (es rfl (es rfl (es rfl (es rfl (es rfl (es rfl (es rfl (es rfl l99_113))))))))))))))))))))))
                have l100_129 := lookE hA129 100 (e25 rfl (es rfl (es rfl (es rfl (es rfl (es rfl (es rfl (es rfl (es rfl (es rfl (es rfl (es rfl (es rfl (es rfl (es rfl (es rfl (es rfl (es rfl (es rfl (es rfl (es rfl (es rfl l100_113))))))))))))))))))))))
                have l101_129 := lookE hA129 101 (e25 rfl (es rfl (es rfl (es rfl (es rfl (es rfl (es rfl (es rfl (es rfl (es rfl (es rfl (es rfl (es rfl (es rfl (es rfl (es rfl (es rfl (es rfl (es rfl (es rfl (es rfl (es rfl l101_113))))))))))))))))))))))
                have l102_129 := lookE hA129 102 (e25 rfl (es rfl (es rfl (es rfl (es rfl (es rfl (es rfl (es rfl (es rfl (es rfl (es rfl (es rfl (es rfl (es rfl (es rfl (es rfl (es rfl (es rfl (es rfl (es rfl (es rfl (es rfl l102_113))))))))))))))))))))))
                have l103_129 := lookE hA129 103 (e25 rfl (es rfl (es rfl (es rfl (es rfl (es rfl (es rfl (es rfl (es rfl (es rfl (es rfl (es rfl (es rfl (es rfl (es rfl (es rfl (es rfl (es rfl (es rfl (es rfl (es rfl (es rfl l103_113))))))))))))))))))))))
                have l104_129 := lookE hA129 104 (e25 rfl (es rfl (es rfl (es rfl (es rfl (es rfl (es rfl (es rfl (es rfl (es rfl (es rfl (es rfl (es rfl (es rfl (es rfl (es rfl (es rfl (es rfl (es rfl (es rfl (es rfl (es rfl l104_113))))))))))))))))))))))
                have l107_129 := lookE hA129 107 (e25 rfl (es rfl (es rfl (es rfl (es rfl (es rfl (es rfl (es rfl (es rfl (es rfl (es rfl (es rfl (es rfl (es rfl (es rfl (es rfl (es rfl (es rfl (es rfl (es rfl (es rfl (es rfl l107_113))))))))))))))))))))))
                have l108_129 := lookE hA129 108 (e25 rfl (es rfl (es rfl (es rfl (es rfl (es rfl (es rfl (es rfl (es rfl (es rfl (es rfl (es rfl (es rfl (es rfl (es rfl (es rfl (es rfl (es rfl (es rfl (es rfl (es rfl (es rfl l108_113))))))))))))))))))))))
                have l109_129 := lookE hA129 109 (e25 rfl (es rfl (es rfl (es rfl (es rfl (es rfl (es rfl (es rfl (es rfl (es rfl (es rfl (es rfl (es rfl (es rfl (es rfl (es rfl (es rfl (es rfl (es rfl (es rfl (es rfl (es rfl l109_113))))))))))))))))))))))
                have l110_129 := lookE hA129 110 (e25 rfl (es rfl (es rfl (es rfl (es rfl (es rfl (es rfl (es rfl (es rfl (es rfl (es rfl (es rfl (es rfl (es rfl (es rfl (es rfl (es rfl (es rfl (es rfl (es rfl (es rfl (es rfl l110_113))))))))))))))))))))))
                have l113_129 := lookE hA129 113 (e25 rfl (es rfl (es rfl (es rfl (es rfl (es rfl (es rfl (es rfl (es rfl (es rfl (es rfl (es rfl (es rfl (es rfl (es rfl (es rfl (es rfl (es rfl (es rfl (es rfl (es rfl (es rfl l113_113))))))))))))))))))))))
                have l114_129 := lookE hA129 114 (e25 rfl (es rfl (es rfl (es rfl (es rfl (es rfl (es rfl (es rfl (es rfl (es rfl (es rfl (es rfl (es rfl (es rfl (es rfl (es rfl (es rfl (es rfl (es rfl (es rfl (es rfl (es rfl l114_113))))))))))))))))))))))
                have l117_129 := lookE hA129 117 (e25 rfl (es rfl (es rfl (es rfl (es rfl (es rfl (es rfl (es rfl (es rfl (es rfl (es rfl (es rfl (es rfl (es rfl (es rfl (es rfl (es rfl (es rfl (es rfl (es rfl (es rfl (es rfl l117_113))))))))))))))))))))))
                have l118_129 := lookE hA129 118 (e25 rfl (es rfl (es rfl (es rfl (es rfl (es rfl (es rfl (es rfl (es rfl (es rfl (es rfl (es rfl (es rfl (es rfl (es rfl (es rfl (es rfl (es rfl (es rfl (es rfl (es rfl (es rfl l118_113))))))))))))))))))))))
                have l119_129 := lookE hA129 119 (e25 rfl (es rfl (es rfl (es rfl (es rfl (es rfl (es rfl (es rfl (es rfl (es rfl (es rfl (es rfl (es rfl (es rfl (es rfl (es rfl (es rfl (es rfl (es rfl (es rfl (es rfl (es rfl l119_113))))))))))))))))))))))
                have l120_129 := lookE hA129 120 (e25 rfl (es rfl (es rfl (es rfl (es rfl (es rfl (es rfl (es rfl (es rfl (es rfl (es rfl (es rfl (es rfl (es rfl (es rfl (es rfl (es rfl (es rfl (es rfl (es rfl (es rfl (es rfl l120_113))))))))))))))))))))))
                have l121_129 := lookE hA129 121 (e25 rfl (es rfl (es rfl (es rfl (es rfl (es rfl (es rfl (es rfl (es rfl (es rfl (es rfl (es rfl (es rfl (es rfl (es rfl (es rfl (es rfl (es rfl (es rfl (es rfl (es rfl (es rfl l121_113))))))))))))))))))))))
                have l122_129 := lookE hA129 122 (e25 rfl (es rfl (es rfl (es rfl (es rfl (es rfl (es rfl (es rfl (es rfl (es rfl (es rfl (es rfl (es rfl (es rfl (es rfl (es rfl (es rfl (es rfl (es rfl (es rfl (es rfl (es rfl l122_113))))))))))))))))))))))
                have l123_129 := lookE hA129 123 (e25 rfl (es rfl (es rfl (es rfl (es rfl (es rfl (es rfl (es rfl (es rfl (es rfl (es rfl (es rfl (es rfl (es rfl (es rfl (es rfl (es rfl (es rfl (es rfl (es rfl (es rfl (es rfl l123_113))))))))))))))))))))))
                have l124_129 := lookE hA129 124 (e25 rfl (es rfl (es rfl (es rfl (es rfl (es rfl (es rfl (es rfl (es rfl (es rfl (es rfl (es rfl (es rfl (es rfl (es rfl (es rfl (es rfl (es rfl (es rfl (es rfl (es rfl (es rfl l124_113))))))))))))))))))))))
                have l125_129 := lookE hA129 125 (e25 rfl (es rfl (es rfl (es rfl (es rfl (es rfl (es rfl (es rfl (es rfl (es rfl (es rfl (es rfl (es rfl (es rfl (es rfl (es rfl (es rfl (es rfl (es rfl (es rfl (es rfl (es rfl l125_113))))))))))))))))))))))
                have l126_129 := lookE hA129 126 (e25 rfl (es rfl (es rfl (es rfl (es rfl (es rfl (es rfl (es rfl (es rfl (es rfl (es rfl (es rfl (es rfl (es rfl (es rfl (es rfl (es rfl (es rfl (es rfl (es rfl (es rfl (es rfl l126_113))))))))))))))))))))))
                have l127_129 := lookE hA129 127 (e25 rfl (es rfl (es rfl (es rfl (es rfl (es rfl (es rfl (es rfl (es rfl (es rfl (es rfl (es rfl (es rfl (es rfl (es rfl (es rfl (es rfl (es rfl (es rfl (es rfl (es rfl (es rfl l127_113))))))))))))))))))))))
                have l128_129 := lookE hA129 128 (e25 rfl (es rfl (es rfl (es rfl (es rfl (es rfl (es rfl (es rfl (es rfl (es rfl (es rfl (es rfl (es rfl (es rfl (es rfl (es rfl (es rfl (es rfl (es rfl (es rfl (es rfl (es rfl l128_113))))))))))))))))))))))
                have l129_129 := lookE hA129 129 (e25 rfl (es rfl (es rfl (es rfl (es rfl (es rfl (es rfl (es rfl (es rfl (es rfl (es rfl (es rfl (es rfl (es rfl (es rfl (es rfl (es rfl (es rfl (es rfl (es rfl (es rfl (es rfl l129_113))))))))))))))))))))))
                have l130_129 := lookE hA129 130 (e25 rfl (es rfl (es rfl (es rfl (es rfl (es rfl (es rfl (es rfl (es rfl (es rfl (es rfl (es rfl (es rfl (es rfl (es rfl (es rfl (es rfl (es rfl (es rfl (es rfl (es rfl (es rfl l130_113))))))))))))))))))))))
                have l131_129 := lookE hA129 131 (e25 rfl (es rfl (es rfl (es rfl (es rfl (es rfl (es rfl (es rfl (es rfl (es rfl (es rfl (es rfl (es rfl (es rfl (es rfl (es rfl (es rfl (es rfl (es rfl (es rfl (es rfl (es rfl l131_113))))))))))))))))))))))
                have l132_129 := lookE hA129 132 (e25 rfl (es rfl (es rfl (es rfl (es rfl (es rfl (es rfl (es rfl (es rfl (es rfl (es rfl (es rfl (es rfl (es rfl (es rfl (es rfl (es rfl (es rfl (es rfl (es rfl (es rfl (es rfl l132_113))))))))))))))))))))))
                have l146_129 := lookE hA129 146 (e25 rfl (es rfl (es rfl (es rfl (es rfl (es rfl (es rfl (es rfl (es rfl (es rfl (es rfl (es rfl (es rfl (es rfl (es rfl (et rfl))))))))))))))))
                have l147_129 := lookE hA129 147 (e25 rfl (es rfl (es rfl (es rfl (es rfl (es rfl (es rfl (es rfl (es rfl (es rfl (es rfl (es rfl (es rfl (es rfl (et rfl)))))))))))))))
                have l148_129 := lookE hA129 148 (e25 rfl (es rfl (es rfl (es rfl (es rfl (es rfl (es rfl (es rfl (es rfl (es rfl (es rfl (es rfl (es rfl (et rfl))))))))))))))
                have l149_129 := lookE hA129 149 (e25 rfl (es rfl (es rfl (es rfl (es rfl (es rfl (es rfl (es rfl (es rfl (es rfl (es rfl (es rfl (et rfl)))))))))))))
                have l150_129 := lookE hA129 150 (e25 rfl (es rfl (es rfl (es rfl (es rfl (es rfl (es rfl (es rfl (es rfl (es rfl (es rfl (et rfl))))))))))))
                have l151_129 := lookE hA129 151 (e25 rfl (es rfl (es rfl (es rfl (es rfl (es rfl (es rfl (es rfl (es rfl (es rfl (et rfl)))))))))))
                have l152_129 := lookE hA129 152 (e25 rfl (es rfl (es rfl (es rfl (es rfl (es rfl (es rfl (es rfl (es rfl (et rfl))))))))))
                have l155_129 := lookE hA129 155 (e25 rfl (es rfl (es rfl (es rfl (es rfl (es rfl (et rfl)))))))
                have l156_129 := lookE hA129 156 (e25 rfl (es rfl (es rfl (es rfl (es rfl (et rfl))))))
                have l157_129 := lookE hA129 157 (e25 rfl (es rfl (es rfl (es rfl (et rfl)))))
                have l158_129 := lookE hA129 158 (e25 rfl (es rfl (es rfl (et rfl))))
                have l159_129 := lookE hA129 159 (e25 rfl (es rfl (et rfl)))
                have l160_129 := lookE hA129 160 (e25 rfl (et rfl))
                have l161_129 := lookE hA129 161 (e24 rfl (et rfl))
                have l162_129 := lookE hA129 162 (e23 rfl (et rfl))
                have l163_129 := lookE hA129 163 (e22 rfl (et rfl))
                have l164_129 := lookE hA129 164 (e21 rfl (et rfl))
                have l165_129 := lookE hA129 165 (e20 rfl (et rfl))
                have l166_129 := lookE hA129 166 (e19 rfl (et rfl))
                have l167_129 := lookE hA129 167 (e18 rfl (et rfl))
                have l168_129 := lookE hA129 168 (e17 rfl (et rfl))
                have l171_129 := lookE hA129 171 (e14 rfl (et rfl))
                have l172_129 := lookE hA129 172 (e13 rfl (et rfl))
                have l173_129 := lookE hA129 173 (e12 rfl (et rfl))
                have l174_129 := lookE hA129 174 (e11 rfl (et rfl))
                have l175_129 := lookE hA129 175 (e10 rfl (et rfl))
                have l176_129 := lookE hA129 176 (e9 rfl (et rfl))
                have l177_129 := lookE hA129 177 (e8 rfl (et rfl))
                have l178_129 := lookE hA129 178 (e7 rfl (et rfl))
                have l179_129 := lookE hA129 179 (e6 rfl (et rfl))
                have l180_129 := lookE hA129 180 (e5 rfl (et rfl))
                have l181_129 := lookE hA129 181 (e4 rfl (et rfl))
                have l182_129 := lookE hA129 182 (e3 rfl (et rfl))
                have l183_129 := lookE hA129 183 (e2 rfl (et rfl))
                have l184_129 := lookE hA129 184 (es rfl (et rfl))
                have l185_129 := lookE hA129 185 (et rfl)
                clear hA129 hsz113 hdf113 l0_113 l3_113 l5_113 l9_113 l11_113 l12_113 l14_113 l16_113 l94_113 l95_113 l98_113 l99_113 l100_113 l101_113 l102_113 l103_113 l104_113 l107_113 l108_113 l109_113 l110_113 l113_113 l114_113 l117_113 l118_113 l119_113 l120_113 l121_113 l122_113 l123_113 l124_113 l125_113 l126_113 l127_113 l128_113 l129_113 l130_113 l131_113 l132_113 l137_113
                refine then_n (hK116 _ _ ?_)
                clear hK116
                refine cond_f l185_129 ?_
                refine wp_skip ?_
                refine inb_n ?_
                refine then_n (hK115 _ _ ?_)
                clear hK115
                refine region_in ?_
                refine W_v rfl rfl (V_mov rfl l16_129) ?_
                refine W_v rfl rfl (V_add rfl (et rfl) rfl (by omega) (by omega)) ?_
                refine W_v rfl rfl (V_asg rfl (et rfl)) ?_
                refine W_end ?_
                refine gen_Q (fun A130 hA130 => ?_)
                have hsz130 := szq hA130
                have hdf130 : A130.defers = [] := by rw [hA130]; simp only [df_put]; exact hdf129
                have l0_130 := lookE hA130 0 (e2 rfl (es rfl l0_129))
                have l3_130 := lookE hA130 3 (e2 rfl (es rfl l3_129))
                have l5_130 := lookE hA130 5 (e2 rfl (es rfl l5_129))
                have l9_130 := lookE hA130 9 (e2 rfl (es rfl l9_129))
                have l11_130 := lookE hA130 11 (e2 rfl (es rfl l11_129))
                have l12_130 := lookE hA130 12 (e2 rfl (es rfl l12_129))
                have l14_130 := lookE hA130 14 (e2 rfl (es rfl l14_129))
                have l16_130 := lookE hA130 16 (et rfl)
                have l94_130 := lookE hA130 94 (e2 rfl (es rfl l94_129))
                have l95_130 := lookE hA130 95 (e2 rfl (es rfl l95_129))
                have l98_130 := lookE hA130 98 (e2 rfl (es rfl l98_129))
                have l99_130 := lookE hA130 99 (e2 rfl (es rfl l99_129))
                have l100_130 := lookE hA130 100 (e2 rfl (es rfl l100_129))
                have l101_130 := lookE hA130 101 (e2 rfl (es rfl l101_129))
                have l102_130 := lookE hA130 102 (e2 rfl (es rfl l102_129))
                have l103_130 := lookE hA130 103 (e2 rfl (es rfl l103_129))
                have l104_130 := lookE hA130 104 (e2 rfl (es rfl l104_129))
                have l107_130 := lookE hA130 107 (e2 rfl (es rfl l107_129))
                have l108_130 := lookE hA130 108 (e2 rfl (es rfl l108_129))
                have l109_130 := lookE hA130 109 (e2 rfl (es rfl l109_129))
                have l110_130 := lookE hA130 110 (e2 rfl (es rfl l110_129))
                have l113_130 := lookE hA130 113 (e2 rfl (es rfl l113_129))
                have l114_130 := lookE hA130 114 (e2 rfl (es rfl l114_129))
                have l117_130 := lookE hA130 117 (e2 rfl (es rfl l117_129))
                have l118_130 := lookE hA130 118 (e2 rfl (es rfl l118_129))
                have l119_130 := lookE hA130 119 (e2 rfl (es rfl l119_129))
                have l120_130 := lookE hA130 120 (e2 rfl (es rfl l120_129))
                have l121_130 := lookE hA130 121 (e2 rfl (es rfl l121_129))
                have l122_130 := lookE hA130 122 (e2 rfl (es rfl l122_129))
                have l123_130 := lookE hA130 123 (e2 rfl (es rfl l123_129))
                have l124_130 := lookE hA130 124 (e2 rfl (es rfl l124_129))
                have l125_130 := lookE hA130 125 (e2 rfl (es rfl l125_129))
                have l126_130 := lookE hA130 126 (e2 rfl (es rfl l126_129))
                have l127_130 := lookE hA130 127 (e2 rfl (es rfl l127_129))
                have l128_130 := lookE hA130 128 (e2 rfl (es rfl l128_129))
                have l129_130 := lookE hA130 129 (e2 rfl (es rfl l129_129))
                have l130_130 := lookE hA130 130 (e2 rfl (es rfl l130_129))
                have l131_130 := lookE hA130 131 (e2 rfl (es rfl l131_129))
                have l132_130 := lookE hA130 132 (e2 rfl (es rfl l132_129))
                have l146_130 := lookE hA130 146 (e2 rfl (es rfl l146_129))
                have l147_130 := lookE hA130 147 (e2 rfl (es rfl l147_129))
                have l148_130 := lookE hA130 148 (e2 rfl (es rfl l148_129))
                have l149_130 := lookE hA130 149 (e2 rfl (es rfl l149_129))
                have l150_130 := lookE hA130 150 (e2 rfl (es rfl l150_129))
                have l151_130 := lookE hA130 151 (e2 rfl (es rfl l151_129))
                have l152_130 := lookE hA130 152 (e2 rfl (es rfl l152_129))
                have l155_130 := lookE hA130 155 (e2 rfl (es rfl l155_129))
                have l156_130 := lookE hA130 156 (e2 rfl (es rfl l156_129))
                have l157_130 := lookE hA130 157 (e2 rfl (es rfl l157_129))
                have l158_130 := lookE hA130 158 (e2 rfl (es rfl l158_129))
                have l159_130 := lookE hA130 159 (e2 rfl (es rfl l159_129))
                have l160_130 := lookE hA130 160 (e2 rfl (es rfl l160_129))
                have l161_130 := lookE hA130 161 (e2 rfl (es rfl l161_129))
                have l162_130 := lookE hA130 162 (e2 rfl (es rfl l162_129))
                have l163_130 := lookE hA130 163 (e2 rfl (es rfl l163_129))
                have l164_130 := lookE hA130 164 (e2 rfl (es rfl l164_129))
                have l165_130 := lookE hA130 165 (e2 rfl (es rfl l165_129))
                have l166_130 := lookE hA130 166 (e2 rfl (es rfl l166_129))
                have l167_130 := lookE hA130 167 (e2 rfl (es rfl l167_129))
                have l168_130 := lookE hA130 168 (e2 rfl (es rfl l168_129))
                have l171_130 := lookE hA130 171 (e2 rfl (es rfl l171_129))
                have l172_130 := lookE hA130 172 (e2 rfl (es rfl l172_129))
                have l173_130 := lookE hA130 173 (e2 rfl (es rfl l173_129))
                have l174_130 := lookE hA130 174 (e2 rfl (es rfl l174_129))
                have l175_130 := lookE hA130 175 (e2 rfl (es rfl l175_129))
                have l176_130 := lookE hA130 176 (e2 rfl (es rfl l176_129))
                have l177_130 := lookE hA130 177 (e2 rfl (es rfl l177_129))
                have l178_130 := lookE hA130 178 (e2 rfl (es rfl l178_129))
                have l179_130 := lookE hA130 179 (e2 rfl (es rfl l179_129))
                have l180_130 := lookE hA130 180 (e2 rfl (es rfl l180_129))
                have l181_130 := lookE hA130 181 (e2 rfl (es rfl l181_129))
                have l182_130 := lookE hA130 182 (e2 rfl (es rfl l182_129))
                have l183_130 := lookE hA130 183 (e2 rfl (es rfl l183_129))
                have l184_130 := lookE hA130 184 (e2 rfl (es rfl l184_129))
                clear hA130 hsz129 hdf129 l0_129 l3_129 l5_129 l9_129 l11_129 l12_129 l14_129 l16_129 l94_129 l95_129 l98_129 l99_129 l100_129 l101_129 l102_129 l103_129 l104_129 l107_129 l108_129 l109_129 l110_129 l113_129 l114_129 l117_129 l118_129 l119_129 l120_129 l121_129 l122_129 l123_129 l124_129 l125_129 l126_129 l127_129 l128_129 l129_129 l130_129 l131_129 l132_129 l146_129 l147_129 l148_129 l149_129 l150_129 l151_129 l152_129 l155_129 l156_129 l157_129 l158_129 l159_129 l160_129 l161_129 l162_129 l163_129 l164_129 l165_129 l166_129 l167_129 l168_129 l171_129 l172_129 l173_129 l174_129 l175_129 l176_129 l177_129 l178_129 l179_129 l180_129 l181_129 l182_129 l183_129 l184_129 l185_129
                refine then_n ⟨(hoT ws c y61.1).length - (m + 1), by simp only [hm110]; omega, hsz130, hdf130, (m + 1), rfl, (by omega), ((l16_130).trans (by first | rfl | (simp; done) | (congr 1; omega))), ((l0_130).trans l0_109.symm), ((l3_130).trans l3_109.symm), ((l5_130).trans l5_109.symm), ((l9_130).trans l9_109.symm), ((l11_130).trans l11_109.symm), ((l12_130).trans l12_109.symm), ((l14_130).trans l14_109.symm), ((l94_130).trans l94_109.symm), ((l95_130).trans l95_109.symm), ((l98_130).trans l98_109.symm), ((l99_130).trans l99_109.symm), ((l100_130).trans l100_109.symm), ((l101_130).trans l101_109.symm), ((l102_130).trans l102_109.symm), ((l103_130).trans l103_109.symm), ((l104_130).trans l104_109.symm), ((l107_130).trans l107_109.symm), ((l108_130).trans l108_109.symm), ((l109_130).trans l109_109.symm), ((l110_130).trans l110_109.symm), ((l113_130).trans l113_109.symm), ((l114_130).trans l114_109.symm), ((l117_130).trans l117_109.symm), ((l118_130).trans l118_109.symm), ((l119_130).trans l119_109.symm), ((l120_130).trans l120_109.symm), ((l121_130).trans l121_109.symm), ((l122_130).trans l122_109.symm), ((l123_130).trans l123_109.symm), ((l124_130).trans l124_109.symm), ((l125_130).trans l125_109.symm), ((l126_130).trans l126_109.symm), ((l127_130).trans l127_109.symm), ((l128_130).trans l128_109.symm), ((l129_130).trans l129_109.symm), ((l130_130).trans l130_109.symm), ((l131_130).trans l131_109.symm), ((l132_130).trans l132_109.symm), (by subst hc_67r_110 hc_32b_110 hc2_110; exact hS128)⟩
            · skip
              refine wp_exit ?_
              refine then_exit ?_
              refine then_exit ?_
              refine inb_hit ?_
              refine then_n (hK107 _ _ ?_)
              clear hK107
              refine region_in ?_
              refine W_v rfl rfl (V_mov rfl l9_113) ?_
              refine W_v rfl rfl (V_mov rfl (es rfl l12_113)) ?_
              refine W_v rfl rfl (V_sb rfl (es rfl (et rfl)) (et rfl) (by omega) (by omega)) ?_
              refine W_v rfl rfl (V_asg rfl (et rfl)) ?_
              refine W_end ?_
              refine gen_Q (fun A131 hA131 => ?_)
              have hsz131 := szq hA131
              have hdf131 : A131.defers = [] := by rw [hA131]; simp only [df_put]; exact hdf113
              have l0_131 := lookE hA131 0 (e3 rfl (es rfl l0_113))
              have l3_131 := lookE hA131 3 (e3 rfl (es rfl l3_113))
              have l5_131 := lookE hA131 5 (e3 rfl (es rfl l5_113))
              have l9_131 := lookE hA131 9 (et rfl)
              have l11_131 := lookE hA131 11 (e3 rfl (es rfl l11_113))
              have l94_131 := lookE hA131 94 (e3 rfl (es rfl l94_113))
              have l95_131 := lookE hA131 95 (e3 rfl (es rfl l95_113))
              have l98_131 := lookE hA131 98 (e3 rfl (es rfl l98_113))
              have l99_131 := lookE hA131 99 (e3 rfl (es rfl l99_113))
              have l100_131 := lookE hA131 100 (e3 rfl (es rfl l100_113))
              have l101_131 := lookE hA131 101 (e3 rfl (es rfl l101_113))
              have l102_131 := lookE hA131 102 (e3 rfl (es rfl l102_113))
              have l103_131 := lookE hA131 103 (e3 rfl (es rfl l103_113))
              have l104_131 := lookE hA131 104 (e3 rfl (es rfl l104_113))
              have l107_131 := lookE hA131 107 (e3 rfl (es rfl l107_113))
              have l108_131 := lookE hA131 108 (e3 rfl (es rfl l108_113))
              have l109_131 := lookE hA131 109 (e3 rfl (es rfl l109_113))
              have l110_131 := lookE hA131 110 (e3 rfl (es rfl l110_113))
              have l113_131 := lookE hA131 113 (e3 rfl (es rfl l113_113))
              have l114_131 := lookE hA131 114 (e3 rfl (es rfl l114_113))
              have l117_131 := lookE hA131 117 (e3 rfl (es rfl l117_113))
              have l118_131 := lookE hA131 118 (e3 rfl (es rfl l118_113))
              have l119_131 := lookE hA131 119 (e3 rfl (es rfl l119_113))
              have l120_131 := lookE hA131 120 (e3 rfl (es rfl l120_113))
              have l121_131 := lookE hA131 121 (e3 rfl (es rfl l121_113))
              have l122_131 := lookE hA131 122 (e3 rfl (es rfl l122_113))
              have l123_131 := lookE hA131 123 (e3 rfl (es rfl l123_113))
              have l124_131 := lookE hA131 124 (e3 rfl (es rfl l124_113))
              have l125_131 := lookE hA131 125 (e3 rfl (es rfl l125_113))
              have l126_131 := lookE hA131 126 (e3 rfl (es rfl l126_113))
              have l127_131 := lookE hA131 127 (e3 rfl (es rfl l127_113))
              have l128_131 := lookE hA131 128 (e3 rfl (es rfl l128_113))
              have l129_131 := lookE hA131 129 (e3 rfl (es rfl l129_113))
              have l130_131 := lookE hA131 130 (e3 rfl (es rfl l130_113))
              have l131_131 := lookE hA131 131 (e3 rfl (es rfl l131_113))
              have l132_131 := lookE hA131 132 (e3 rfl (es rfl l132_113))
              clear hA131 hsz113 hdf113 l0_113 l3_113 l5_113 l9_113 l11_113 l12_113 l14_113 l16_113 l94_113 l95_113 l98_113 l99_113 l100_113 l101_113 l102_113 l103_113 l104_113 l107_113 l108_113 l109_113 l110_113 l113_113 l114_113 l117_113 l118_113 l119_113 l120_113 l121_113 l122_113 l123_113 l124_113 l125_113 l126_113 l127_113 l128_113 l129_113 l130_113 l131_113 l132_113 l137_113
              refine inb_n ?_
              refine then_n (hK59 _ _ ?_)
              clear hK59
              refine region_in ?_
              refine W_v rfl rfl (V_mov rfl l11_131) ?_
              refine W_v rfl rfl (V_add rfl (et rfl) rfl (by omega) (by omega)) ?_
              refine W_v rfl rfl (V_asg rfl (et rfl)) ?_
              refine W_end ?_
              refine gen_Q (fun A132 hA132 => ?_)
              have hsz132 := szq hA132
              have hdf132 : A132.defers = [] := by rw [hA132]; simp only [df_put]; exact hdf131
              have l0_132 := lookE hA132 0 (e2 rfl (es rfl l0_131))
              have l3_132 := lookE hA132 3 (e2 rfl (es rfl l3_131))
              have l5_132 := lookE hA132 5 (e2 rfl (es rfl l5_131))
              have l9_132 := lookE hA132 9 (e2 rfl (es rfl l9_131))
              have l11_132 := lookE hA132 11 (et rfl)
              have l94_132 := lookE hA132 94 (e2 rfl (es rfl l94_131))
              have l95_132 := lookE hA132 95 (e2 rfl (es rfl l95_131))
              have l98_132 := lookE hA132 98 (e2 rfl (es rfl l98_131))
              have l99_132 := lookE hA132 99 (e2 rfl (es rfl l99_131))
              have l100_132 := lookE hA132 100 (e2 rfl (es rfl l100_131))
              have l101_132 := lookE hA132 101 (e2 rfl (es rfl l101_131))
              have l102_132 := lookE hA132 102 (e2 rfl (es rfl l102_131))
              have l103_132 := lookE hA132 103 (e2 rfl (es rfl l103_131))
              have l104_132 := lookE hA132 104 (e2 rfl (es rfl l104_131))
              have l107_132 := lookE hA132 107 (e2 rfl (es rfl l107_131))
              have l108_132 := lookE hA132 108 (e2 rfl (es rfl l108_131))
              have l109_132 := lookE hA132 109 (e2 rfl (es rfl l109_131))
              have l110_132 := lookE hA132 110 (e2 rfl (es rfl l110_131))
              have l113_132 := lookE hA132 113 (e2 rfl (es rfl l113_131))
              have l114_132 := lookE hA132 114 (e2 rfl (es rfl l114_131))
              have l117_132 := lookE hA132 117 (e2 rfl (es rfl l117_131))
              have l118_132 := lookE hA132 118 (e2 rfl (es rfl l118_131))
              have l119_132 := lookE hA132 119 (e2 rfl (es rfl l119_131))
              have l120_132 := lookE hA132 120 (e2 rfl (es rfl l120_131))
              have l121_132 := lookE hA132 121 (e2 rfl (es rfl l121_131))
              have l122_132 := lookE hA132 122 (e2 rfl (es rfl l122_131))
              have l123_132 := lookE hA132 123 (e2 rfl (es rfl l123_131))
              have l124_132 := lookE hA132 124 (e2 rfl (es rfl l124_131))
              have l125_132 := lookE hA132 125 (e2 rfl (es rfl l125_131))
              have l126_132 := lookE hA132 126 (e2 rfl (es rfl l126_131))
              have l127_132 := lookE hA132 127 (e2 rfl (es rfl l127_131))
              have l128_132 := lookE hA132 128 (e2 rfl (es rfl l128_131))
              have l129_132 := lookE hA132 129 (e2 rfl (es rfl l129_131))
              have l130_132 := lookE hA132 130 (e2 rfl (es rfl l130_131))
              have l131_132 := lookE hA132 131 (e2 rfl (es rfl l131_131))
              have l132_132 := lookE hA132 132 (e2 rfl (es rfl l132_131))
              clear hA132 hsz131 hdf131 l0_131 l3_131 l5_131 l9_131 l11_131 l94_131 l95_131 l98_131 l99_131 l100_131 l101_131 l102_131 l103_131 l104_131 l107_131 l108_131 l109_131 l110_131 l113_131 l114_131 l117_131 l118_131 l119_131 l120_131 l121_131 l122_131 l123_131 l124_131 l125_131 l126_131 l127_131 l128_131 l129_131 l130_131 l131_131 l132_131
              have hS133 : St w NoX [c_32b_110, c2_110] w110 := hS110.sel [1, 2] (by decide) rfl
              refine then_n ⟨(coT ws c).length - (j + 1), by simp only [hm54]; omega, hsz132, hdf132, (j + 1), rfl, (by omega), ((l11_132).trans (by first | rfl | (simp; done) | (congr 1; omega))), ((l9_132).trans ((congrArg (Value.int .i64) (by have h := sm2_take hy61; omega)))), ((l0_132).trans l0_52.symm), ((l3_132).trans l3_52.symm), ((l5_132).trans l5_52.symm), (by subst hc_32b_110 hc2_110; exact hS133)⟩
        · skip
          refine wp_exit ?_
          refine then_exit ?_
          refine then_exit ?_
          refine inb_hit ?_
          refine then_n (hK50 _ _ ?_)
          clear hK50
          refine wp_seq_k (fun K134 hK134 => ?_)
          refine region_in ?_
          refine W_v rfl rfl (V_mov rfl l9_57) ?_
          refine W_v rfl rfl (V_eql rfl (et rfl) rfl) ?_
          refine W_sure (c' := true) rfl rfl (V_mov rfl (et rfl)) (by rw [decide_eq_true_eq]; have q := sums_all hsl (k := j) (by omega); omega) ?_
          refine W_call rfl (wanted_t rfl rfl (et rfl) (ez rfl)) rfl Try.func12 (by kernel_rfl) rfl (args0) (awk_c  ) ?_
          rintro _ w135 ⟨rfl, hP135⟩
          refine ⟨_, rfl, ?_⟩
          have hS135 := hS54.join hP135
          replace hS135 : St w NoX [c_32b_54, c2_54] w135 := hS135
          refine W_v rfl rfl (V_pickT rfl (es rfl (et rfl)) (et rfl)) ?_
          refine W_v rfl rfl (V_asg rfl (et rfl)) ?_
          refine W_end ?_
          refine gen_Q (fun A136 hA136 => ?_)
          have hsz136 := szq hA136
          have hdf136 : A136.defers = [] := by rw [hA136]; simp only [df_put]; exact hdf57
          have l4_136 := lookE hA136 4 (et rfl)
          clear hA136 hsz57 hdf57 l0_57 l3_57 l5_57 l9_57 l11_57 l66_57
          have hS137 : St w NoX [] w135 := hS135.sel [] (by decide) rfl
          refine then_n (hK134 _ _ ?_)
          clear hK134
          refine wp_ret ?_
          refine ret_in (results_1 Try.results4 (rv_tmp l4_136)) hdf136 ?_
          -- leaf FFFF
          exact ⟨rfl, hS137.fin0⟩

end Go.Proofs.Ytnfgeekaeegolaa