import Derived.Test.YtnfgeekaeegolaaProg
import Derived.Test.YtnfgeekaeegolaaRc7
import Derived.Test.YtnfgeekaeegolaaPl9e
namespace Go.Proofs.Ytnfgeekaeegolaa
open Go.RowKit Go.Own Go.Own.R Go.Own.S Go.Own.F


set_option maxHeartbeats 4000000 in
theorem kls_c {v : Value} {m : List (Int × Int)} {w : World} (h_v : Ro w NoX (mi v m)) (hml : m.length ≤ 1000000) :
    Calls Try.prog 38 #[v] w fun e w' => ∃ v1, e = .returned (v1) ∧ St w NoX [ro 2 rcC (v1) (lsM m)] w' := by
  have hsl : (sortL (m.map (·.1))).length = m.length := by rw [sortL_len, List.length_map]
  refine calls_in 23 Try.func38 rfl rfl (by simp) (fun A0 hsz0 hdf0 hargs => ?_)
  have l0_0 := hargs 0 (v) rfl
  clear hargs; replace hsz0 : SzN A0 23 := ⟨hsz0⟩
  have hS := St.nil w
  refine wp_seq_k (fun K1 hK1 => ?_)
  refine region_in ?_
  refine W_v rfl rfl (V_asg rfl rfl) ?_
  refine W_end ?_
  refine gen_Q (fun A2 hA2 => ?_)
  have hsz2 := szq hA2
  have hdf2 : A2.defers = [] := by rw [hA2]; simp only [df_put]; exact hdf0
  have l0_2 := lookE hA2 0 (es rfl l0_0)
  clear hA2 hsz0 hdf0 l0_0
  refine then_n (hK1 _ _ ?_)
  clear hK1
  refine wp_seq_k (fun K3 hK3 => ?_)
  refine region_in ?_
  refine W_v rfl rfl (V_asg rfl rfl) ?_
  refine W_end ?_
  refine gen_Q (fun A4 hA4 => ?_)
  have hsz4 := szq hA4
  have hdf4 : A4.defers = [] := by rw [hA4]; simp only [df_put]; exact hdf2
  have l0_4 := lookE hA4 0 (es rfl l0_2)
  have l3_4 := lookE hA4 3 (et rfl)
  clear hA4 hsz2 hdf2 l0_2
  refine then_n (hK3 _ _ ?_)
  clear hK3
  refine wp_seq_k (fun K5 hK5 => ?_)
  refine wp_seq_k (fun K6 hK6 => ?_)
  refine region_in ?_
  refine W_v rfl rfl (V_mov rfl l0_4) ?_
  refine W_call rfl rfl rfl Try.func59 (by kernel_rfl) rfl (args1 (et rfl)) (ksd_c (hS.roC h_v) (by first | with_reducible assumption | omega)) ?_
  rintro _ w7 ⟨v1_7, rfl, hP7⟩
  refine ⟨_, rfl, ?_⟩
  obtain ⟨c_7, hc_7, hP7⟩ := gen1 hP7
  have hS7 := hS.join hP7
  replace hS7 : St w NoX [c_7] w7 := hS7
  refine W_v rfl rfl (V_lenS rfl (et rfl) (ow_at (hS7.chq 0 rfl hc_7)) Try.underlying23) ?_
  refine W_v rfl rfl (V_mov rfl rfl) ?_
  refine W_end ?_
  refine gen_Q (fun A8 hA8 => ?_)
  have hsz8 := szq hA8
  have hdf8 : A8.defers = [] := by rw [hA8]; simp only [df_put]; exact hdf4
  have l0_8 := lookE hA8 0 (e3 rfl (es rfl l0_4))
  have l3_8 := lookE hA8 3 (e3 rfl (es rfl l3_4))
  have l7_8 := lookE hA8 7 (e2 rfl (et rfl))
  have l8_8 := lookE hA8 8 (es rfl (et rfl))
  have l9_8 := lookE hA8 9 (et rfl)
  clear hA8 hsz4 hdf4 l0_4 l3_4
  refine then_n (hK6 _ _ ?_)
  clear hK6
  refine wp_block ?_
  obtain ⟨c9, hc9, hS9⟩ := hS7.pnil (s := 2)
  -- loop 3
  refine loopX (fun mz A' w' => SzN A' 23 ∧ A'.defers = [] ∧ (∃ (k : Nat) (bv : Value), (mz = (sortL (m.map (·.1))).length - k) ∧ (k ≤ (sortL (m.map (·.1))).length) ∧ (EV A' (.tmp 9) = .int .i64 (k : Int)) ∧ (EV A' (.tmp 3) = bv) ∧ (EV A' (.tmp 0) = EV A8 (.tmp 0)) ∧ (EV A' (.tmp 7) = EV A8 (.tmp 7)) ∧ (EV A' (.tmp 8) = EV A8 (.tmp 8)) ∧ (St w NoX [ro 2 rcC bv (((sortL (m.map (·.1))).take k).map (fun q => (q, lkN m q))), io .i64 v1_7 (sortL (m.map (·.1)))] w'))) ((sortL (m.map (·.1))).length - 0) ⟨hsz8, hdf8, 0, (.slice none 0 0), rfl, (by omega), ((l9_8).trans (by first | rfl | (simp; done) | (congr 1; omega))), ((l3_8).trans (by first | rfl | (simp; done) | (congr 1; omega))), rfl, rfl, rfl, (by have q0 : c9 = ro 2 rcC (.slice none 0 0) (((sortL (m.map (·.1))).take 0).map (fun q => (q, lkN m q))) := hc9.trans (rfl); have q1 := hc_7; subst q0 q1; exact hS9)⟩ ?_
  clear hS9 hc9 hc_7
  rintro n10 A10 w10 ⟨hsz10, hdf10, k, bv, hm10, hk, l9_10, l3_10, u0_10, u7_10, u8_10, hS10⟩
  have l0_10 := u0_10.trans l0_8
  have l7_10 := u7_10.trans l7_8
  have l8_10 := u8_10.trans l8_8
  obtain ⟨c9_10, c_10, hc9_10, hc_10, hS10⟩ := gen2 hS10
  refine wp_seq_k (fun K11 hK11 => ?_)
  refine region_in ?_
  refine W_v rfl rfl (V_lss rfl l9_10 l8_10) ?_
  refine W_end ?_
  refine gen_Q (fun A12 hA12 => ?_)
  have hsz12 := szq hA12
  have hdf12 : A12.defers = [] := by rw [hA12]; simp only [df_put]; exact hdf10
  have l0_12 := lookE hA12 0 (es rfl l0_10)
  have l3_12 := lookE hA12 3 (es rfl l3_10)
  have l7_12 := lookE hA12 7 (es rfl l7_10)
  have l8_12 := lookE hA12 8 (es rfl l8_10)
  have l9_12 := lookE hA12 9 (es rfl l9_10)
  have l10_12 := lookE hA12 10 (et rfl)
  clear hA12 hsz10 hdf10 l9_10 l3_10 l0_10 l7_10 l8_10
  refine then_n (hK11 _ _ ?_)
  clear hK11
  refine wp_seq_k (fun K13 hK13 => ?_)
  refine cond_dec l10_12 (fun c14 => ?_) (fun c14 => ?_)
  · skip
    refine wp_skip ?_
    refine then_n (hK13 _ _ ?_)
    clear hK13
    refine wp_seq_k (fun K15 hK15 => ?_)
    refine wp_block ?_
    refine wp_seq_k (fun K16 hK16 => ?_)
    refine region_in ?_
    have k17 : k < (sortL (m.map (·.1))).length := by first | omega | (simp only [List.length_cons, List.length_nil]; omega) | (simp only [List.length_set]; omega) | decide
    obtain ⟨y17, hy17⟩ := get_some (xs := (sortL (m.map (·.1)))) (k := k) k17
    obtain ⟨B17, O17, C17, hv17⟩ := (SlN.blk (ow_at (hS10.chq 1 rfl hc_10)) (by first | omega | (simp only [List.length_cons, List.length_nil]; omega) | (simp only [List.length_set]; omega) | decide))
    refine W_v rfl rfl (V_ixS (off := O17 + k) 1 (k) rfl l7_12 l9_12 hv17 (by omega) k17 Try.underlying23 (by kernel_rfl) (congrArg _ (Nat.mul_one _))) ?_
    refine W_r rfl rfl (VR_ldC rfl (et rfl) ((ow_at (hS10.chq 1 rfl hc_10)).cell hv17 (map_get hy17)) Try.underlying3 rfl) ?_
    refine W_v rfl rfl (V_asg rfl (et rfl)) ?_
    refine W_end ?_
    refine gen_Q (fun A18 hA18 => ?_)
    have hsz18 := szq hA18
    have hdf18 : A18.defers = [] := by rw [hA18]; simp only [df_put]; exact hdf12
    have l0_18 := lookE hA18 0 (e2 rfl (es rfl l0_12))
    have l3_18 := lookE hA18 3 (e2 rfl (es rfl l3_12))
    have l5_18 := lookE hA18 5 (et rfl)
    have l7_18 := lookE hA18 7 (e2 rfl (es rfl l7_12))
    have l8_18 := lookE hA18 8 (e2 rfl (es rfl l8_12))
    have l9_18 := lookE hA18 9 (e2 rfl (es rfl l9_12))
    clear hA18 hsz12 hdf12 l0_12 l3_12 l7_12 l8_12 l9_12 l10_12
    refine then_n (hK16 _ _ ?_)
    clear hK16
    refine region_in ?_
    refine W_v rfl rfl (V_mov rfl l3_18) ?_
    refine W_v rfl rfl (V_mov rfl (es rfl l5_18)) ?_
    refine W_v rfl rfl (V_mov rfl (es rfl (es rfl l0_18))) ?_
    refine W_v rfl rfl (V_mov rfl (e2 rfl (es rfl l5_18))) ?_
    refine W_r rfl rfl (VR_look0I rfl (es rfl (et rfl)) (et rfl) (hS10.ro h_v) Try.underlying67 Try.underlying3 (by kernel_rfl)) ?_
    refine W_v rfl rfl (V_bldS (n := 2) (z := .agg #[.int .i64 0, .int .i64 0]) rfl (parts2 (e3 rfl (et rfl)) (et rfl)) (by kernel_rfl) (by simp only [List.all_cons, List.all_nil, Bool.and_true] <;> rfl) (by kernel_rfl) (by simp only [List.foldl_cons, List.foldl_nil, Value.cells, List.setIfInBounds_toArray, List.set_cons_succ, List.set_cons_zero] <;> rfl)) ?_
    have hll19 : [(y17, (lkN m y17))].length = 1 := rfl
    refine W_litS (vs := [.agg #[.int .i64 (y17), .int .i64 ((lkN m y17))]]) (xs := ([(y17, (lkN m y17))].flatMap rcC)) 2 hS10 rfl rfl rfl (parts1 (et rfl)) rfl Try.underlying28 (by kernel_rfl) (by decide) (by intro v hv; simp only [List.mem_cons, List.not_mem_nil, or_false] at hv; rcases hv with rfl <;> rfl) (by rfl) (fun g19 w19 c19 hc19 hS19 => ?_)
    replace hc19 : c19 = ro 2 rcC (.slice (some ⟨g19, 0, none⟩) 1 1) [(y17, (lkN m y17))] := hc19
    replace hS19 : St w NoX [c19, c9_10, c_10] w19 := hS19
    refine W_appS 2 1 hS19 rfl hc9_10 rfl rfl rfl (e6 rfl (et rfl)) (et rfl) Try.underlying28 Try.underlying28 (z := .agg #[.int .i64 0, .int .i64 0]) (bytes := 16) (by kernel_rfl) rfl (by decide) (ow_at (hS19.chq 0 rfl hc19)) (ones_r rcC_one) (by have h2 : ((sortL (m.map (·.1))).take k).length ≤ (sortL (m.map (·.1))).length := (by rw [List.length_take]; omega); simp only [List.length_map, List.length_singleton, List.length_cons, List.length_nil]; omega) (by have h2 : ((sortL (m.map (·.1))).take k).length ≤ (sortL (m.map (·.1))).length := (by rw [List.length_take]; omega); simp only [List.length_map, List.length_singleton, List.length_cons, List.length_nil]; omega) (fun v20 w20 c20 hc20 hS20 => ?_)
    replace hc20 : c20 = ro 2 rcC v20 ((((sortL (m.map (·.1))).take k).map (fun q => (q, lkN m q))) ++ [(y17, (lkN m y17))]) := hc20.trans (app_eqR (by simp))
    replace hS20 : St w NoX [c19, c20, c_10] w20 := hS20
    refine W_v rfl rfl (V_asg rfl (et rfl)) ?_
    refine W_end ?_
    refine gen_Q (fun A21 hA21 => ?_)
    have hsz21 := szq hA21
    have hdf21 : A21.defers = [] := by rw [hA21]; simp only [df_put]; exact hdf18
    have l0_21 := lookE hA21 0 (e8 rfl (es rfl l0_18))
    have l3_21 := lookE hA21 3 (et rfl)
    have l7_21 := lookE hA21 7 (e8 rfl (es rfl l7_18))
    have l8_21 := lookE hA21 8 (e8 rfl (es rfl l8_18))
    have l9_21 := lookE hA21 9 (e8 rfl (es rfl l9_18))
    clear hA21 hsz18 hdf18 l0_18 l3_18 l5_18 l7_18 l8_18 l9_18
    have hS22 : St w NoX [c20, c_10] w20 := hS20.sel [1, 2] (by decide) rfl
    refine inb_n ?_
    refine then_n (hK15 _ _ ?_)
    clear hK15
    refine region_in ?_
    refine W_v rfl rfl (V_add rfl l9_21 rfl (by omega) (by omega)) ?_
    refine W_v rfl rfl (V_mov rfl (et rfl)) ?_
    refine W_end ?_
    refine gen_Q (fun A23 hA23 => ?_)
    have hsz23 := szq hA23
    have hdf23 : A23.defers = [] := by rw [hA23]; simp only [df_put]; exact hdf21
    have l0_23 := lookE hA23 0 (es rfl (es rfl l0_21))
    have l3_23 := lookE hA23 3 (es rfl (es rfl l3_21))
    have l7_23 := lookE hA23 7 (es rfl (es rfl l7_21))
    have l8_23 := lookE hA23 8 (es rfl (es rfl l8_21))
    have l9_23 := lookE hA23 9 (et rfl)
    clear hA23 hsz21 hdf21 l0_21 l3_21 l7_21 l8_21 l9_21
    refine then_n ⟨(sortL (m.map (·.1))).length - (k + 1), by simp only [hm10]; omega, hsz23, hdf23, (k + 1), v20, rfl, (by omega), ((l9_23).trans (by first | rfl | (simp; done) | (congr 1; omega))), ((l3_23).trans (by first | rfl | (simp; done) | (congr 1; omega))), ((l0_23).trans l0_8.symm), ((l7_23).trans l7_8.symm), ((l8_23).trans l8_8.symm), (by have q0 : c20 = ro 2 rcC v20 (((sortL (m.map (·.1))).take (k + 1)).map (fun q => (q, lkN m q))) := hc20.trans ((congrArg (ro 2 rcC _) (lsM_take hy17))); have q1 := hc_10; subst q0 q1; exact hS22)⟩
  · skip
    refine wp_exit ?_
    refine then_exit ?_
    refine then_exit ?_
    refine inb_hit ?_
    refine then_n (hK5 _ _ ?_)
    clear hK5
    refine wp_seq_k (fun K24 hK24 => ?_)
    refine region_in ?_
    refine W_v rfl rfl (V_mov rfl l3_12) ?_
    refine W_v rfl rfl (V_asg rfl (et rfl)) ?_
    refine W_end ?_
    refine gen_Q (fun A25 hA25 => ?_)
    have hsz25 := szq hA25
    have hdf25 : A25.defers = [] := by rw [hA25]; simp only [df_put]; exact hdf12
    have l2_25 := lookE hA25 2 (et rfl)
    clear hA25 hsz12 hdf12 l0_12 l3_12 l7_12 l8_12 l9_12 l10_12
    have hS26 : St w NoX [c9_10] w10 := hS10.sel [0] (by decide) rfl
    refine then_n (hK24 _ _ ?_)
    clear hK24
    refine wp_ret ?_
    refine ret_in (results_1 Try.results38 (rv_tmp l2_25)) hdf25 ?_
    -- leaf F
    exact ⟨_, rfl, (hS26.fin1 0 rfl (hc9_10.trans (congrArg (ro 2 rcC _) (by unfold lsM; rw [List.take_of_length_le (by omega)]))))⟩

set_option maxHeartbeats 4000000 in
theorem kct_c {wv : Value} {ws : List Int} {cv : Value} {c : List Int} {w : World} (h_wv : Ro w NoX (il .u64 wv ws)) (h_cv : Ro w NoX (il .i64 cv c)) (hu : ∀ x ∈ ws, 0 ≤ x ∧ x ≤ 18446744073709551615) :
    Calls Try.prog 13 #[wv, .agg #[cv]] w fun e w' => ∃ v, e = .returned (.tuple #[v, .int .i64 (slE ws c)]) ∧ St w NoX [ro 2 rcC (v) (coT ws c)] w' := by
  refine calls_in 32 Try.func13 rfl rfl (by simp) (fun A0 hsz0 hdf0 hargs => ?_)
  have l0_0 := hargs 0 (wv) rfl
  have l1_0 := hargs 1 (.agg #[cv]) rfl
  clear hargs; replace hsz0 : SzN A0 32 := ⟨hsz0⟩
  have hS := St.nil w
  have bh_wv := SlN.le (sl_SlN h_wv.at)
  have bh_cv := SlN.le (sl_SlN h_cv.at)
  refine wp_seq_k (fun K1 hK1 => ?_)
  refine region_in ?_
  refine W_boxS (zs := #[cv]) hS rfl rfl rfl l1_0 (by rfl) (fun g2 w2 c2 hc2 hS2 => ?_)
  replace hS2 : St w NoX [c2] w2 := hS2
  refine W_v rfl rfl (V_asg rfl rfl) ?_
  refine W_v rfl rfl (V_asg rfl rfl) ?_
  refine W_end ?_
  refine gen_Q (fun A3 hA3 => ?_)
  have hsz3 := szq hA3
  have hdf3 : A3.defers = [] := by rw [hA3]; simp only [df_put]; exact hdf0
  have l0_3 := lookE hA3 0 (e2 rfl (es rfl l0_0))
  have l3_3 := lookE hA3 3 (e2 rfl (et rfl))
  clear hA3 hsz0 hdf0 l0_0 l1_0
  refine then_n (hK1 _ _ ?_)
  clear hK1
  refine wp_seq_k (fun K4 hK4 => ?_)
  refine region_in ?_
  refine W_v rfl rfl (V_mov rfl l0_3) ?_
  refine W_r rfl rfl (VR_ldA rfl (es rfl l3_3) (hS2.obj 0 rfl hc2) Try.underlying25 rfl (by kernel_rfl)) ?_
  refine W_call rfl rfl rfl Try.func37 (by kernel_rfl) rfl (args2 (es rfl (et rfl)) (et rfl)) (khm_c (hS2.roC h_wv) (hS2.roC h_cv) (by with_reducible assumption)) ?_
  rintro _ w5 ⟨v_5, K_5, rfl, hm_5, hP5⟩
  refine ⟨_, rfl, ?_⟩
  obtain ⟨c_5, cm_5, hc_5, hcm_5, hP5⟩ := gen2 hP5
  have hS5 := hS2.join hP5
  replace hS5 : St w NoX [c_5, cm_5, c2] w5 := hS5
  refine W_v rfl rfl (V_mov rfl (et rfl)) ?_
  refine W_v rfl rfl (V_ext (v := v_5) rfl (et rfl) rfl) ?_
  refine W_v rfl rfl (V_ext (v := .int .i64 ((slE ws c))) rfl (es rfl (et rfl)) rfl) ?_
  refine W_v rfl rfl (V_asg rfl (es rfl (et rfl))) ?_
  refine W_v rfl rfl (V_asg rfl (es rfl (et rfl))) ?_
  refine W_end ?_
  refine gen_Q (fun A6 hA6 => ?_)
  have hsz6 := szq hA6
  have hdf6 : A6.defers = [] := by rw [hA6]; simp only [df_put]; exact hdf3
  have l6_6 := lookE hA6 6 (es rfl (et rfl))
  have l7_6 := lookE hA6 7 (et rfl)
  clear hA6 hsz3 hdf3 l0_3 l3_3
  have hS7 : St w NoX [c_5, cm_5] w5 := hS5.sel [0, 1] (by decide) rfl
  refine then_n (hK4 _ _ ?_)
  clear hK4
  refine wp_seq_k (fun K8 hK8 => ?_)
  refine region_in ?_
  refine W_mkMapS .i64 hS7 rfl rfl rfl (fun g9 w9 c9 hc9 hS9 => ?_)
  replace hc9 : c9 = mi (.map (some g9)) [] := hc9
  replace hS9 : St w NoX [c9, c_5, cm_5] w9 := hS9
  refine W_v rfl rfl (V_asg rfl (et rfl)) ?_
  refine W_end ?_
  refine gen_Q (fun A10 hA10 => ?_)
  have hsz10 := szq hA10
  have hdf10 : A10.defers = [] := by rw [hA10]; simp only [df_put]; exact hdf6
  have l6_10 := lookE hA10 6 (es rfl (es rfl l6_6))
  have l7_10 := lookE hA10 7 (es rfl (es rfl l7_6))
  have l8_10 := lookE hA10 8 (et rfl)
  clear hA10 hsz6 hdf6 l6_6 l7_6
  refine then_n (hK8 _ _ ?_)
  clear hK8
  refine wp_seq_k (fun K11 hK11 => ?_)
  refine wp_seq_k (fun K12 hK12 => ?_)
  refine region_in ?_
  refine W_v rfl rfl (V_mov rfl l6_10) ?_
  obtain ⟨es13, ck13, hS13⟩ := hS9.mop (k := .i64) (m := kmap (fun y : Value × List Int => y.1) K_5) 1 rfl hc_5
  obtain ⟨c13, hc13⟩ : ∃ c, c = mop .i64 v_5 es13 ck13 (kmap (fun y : Value × List Int => y.1) K_5) := ⟨_, rfl⟩
  rw [← hc13] at hS13
  replace hS13 : St w NoX [c9, c13, cm_5] w9 := hS13
  refine W_rangeV hS13 (hS13.chq 1 rfl hc13) rfl rfl rfl (et rfl) Try.underlying64 (fun r14 w14 c14 hc14 hS14 => ?_)
  replace hS14 : St w NoX [c14, c9, c13, cm_5] w14 := hS14
  refine W_end ?_
  refine gen_Q (fun A15 hA15 => ?_)
  have hsz15 := szq hA15
  have hdf15 : A15.defers = [] := by rw [hA15]; simp only [df_put]; exact hdf10
  have l7_15 := lookE hA15 7 (es rfl (es rfl l7_10))
  have l8_15 := lookE hA15 8 (es rfl (es rfl l8_10))
  have l19_15 := lookE hA15 19 (et rfl)
  clear hA15 hsz10 hdf10 l6_10 l7_10 l8_10
  refine then_n (hK12 _ _ ?_)
  clear hK12
  refine wp_block ?_
  -- loop 4
  refine loopX (fun mz A' w' => SzN A' 32 ∧ A'.defers = [] ∧ (∃ (L : List KE) (D : List KE) (cu : Option (Int × Value)), (mz = L.length) ∧ ((D ++ L).Perm K_5) ∧ (EV A' (.tmp 7) = EV A15 (.tmp 7)) ∧ (EV A' (.tmp 8) = EV A15 (.tmp 8)) ∧ (EV A' (.tmp 19) = EV A15 (.tmp 19)) ∧ (St w NoX [miv .i64 r14 v_5 es13 ck13 cu (kmap (fun y : Value × List Int => y.1) L), mi (.map (some g9)) (cnM D), mop .i64 v_5 es13 ck13 (kmap (fun y : Value × List Int => y.1) K_5), mkC K_5] w'))) (K_5.length) ⟨hsz15, hdf15, K_5, [], none, rfl, (List.Perm.refl _), rfl, rfl, rfl, (by have q0 : c14 = miv .i64 r14 v_5 es13 ck13 none (kmap (fun y : Value × List Int => y.1) K_5) := hc14.trans (rfl); have q1 : c9 = mi (.map (some g9)) (cnM []) := hc9.trans (rfl); have q2 := hc13; have q3 := hcm_5; subst q0 q1 q2 q3; exact hS14)⟩ ?_
  clear hS14 hc14 hc9 hc13 hcm_5
  rintro n16 A16 w16 ⟨hsz16, hdf16, L, D, cu, hm16, hpm, u7_16, u8_16, u19_16, hS16⟩
  have l7_16 := u7_16.trans l7_15
  have l8_16 := u8_16.trans l8_15
  have l19_16 := u19_16.trans l19_15
  obtain ⟨c14_16, c9_16, c13_16, cm_16, hc14_16, hc9_16, hc13_16, hcm_16, hS16⟩ := gen4 hS16
  refine wp_seq_k (fun K17 hK17 => ?_)
  refine region_in ?_
  refine W_nextK (f := (fun y : Value × List Int => y.1)) (L := L) 0 hS16 rfl hc14_16 (hS16.chq 2 rfl hc13_16) rfl rfl rfl l19_16 ?_ ?_
  · intro hL18
    have hcl18 := cn_len (show HM ws (slT ws c) K_5 by assumption) hpm hL18
    refine W_v rfl rfl (V_ext (v := .bool false) rfl (et rfl) rfl) ?_
    refine W_end ?_
    refine gen_Q (fun A19 hA19 => ?_)
    have hsz19 := szq hA19
    have hdf19 : A19.defers = [] := by rw [hA19]; simp only [df_put]; exact hdf16
    have l7_19 := lookE hA19 7 (es rfl (es rfl l7_16))
    have l8_19 := lookE hA19 8 (es rfl (es rfl l8_16))
    have l19_19 := lookE hA19 19 (es rfl (es rfl l19_16))
    have l21_19 := lookE hA19 21 (et rfl)
    clear hA19 hsz16 hdf16 l7_16 l8_16 l19_16
    refine then_n (hK17 _ _ ?_)
    clear hK17
    refine wp_seq_k (fun K20 hK20 => ?_)
    refine cond_f l21_19 ?_
    refine wp_exit ?_
    refine then_exit ?_
    refine then_exit ?_
    refine inb_hit ?_
    refine then_n (hK11 _ _ ?_)
    clear hK11
    refine wp_seq_k (fun K21 hK21 => ?_)
    refine region_in ?_
    refine W_v rfl rfl (V_mov rfl l8_19) ?_
    refine W_call rfl rfl rfl Try.func38 (by kernel_rfl) rfl (args1 (et rfl)) (kls_c (hS16.chC 1 rfl hc9_16) (by first | with_reducible assumption | omega)) ?_
    rintro _ w22 ⟨v1_22, rfl, hP22⟩
    refine ⟨_, rfl, ?_⟩
    obtain ⟨c_22, hc_22, hP22⟩ := gen1 hP22
    have hS22 := hS16.join hP22
    replace hS22 : St w NoX [c_22, c14_16, c9_16, c13_16, cm_16] w22 := hS22
    refine W_v rfl rfl (V_mov rfl (es rfl (es rfl l7_19))) ?_
    refine W_v rfl rfl (V_asg rfl (es rfl (et rfl))) ?_
    refine W_v rfl rfl (V_asg rfl (es rfl (et rfl))) ?_
    refine W_end ?_
    refine gen_Q (fun A23 hA23 => ?_)
    have hsz23 := szq hA23
    have hdf23 : A23.defers = [] := by rw [hA23]; simp only [df_put]; exact hdf19
    have l4_23 := lookE hA23 4 (es rfl (et rfl))
    have l5_23 := lookE hA23 5 (et rfl)
    clear hA23 hsz19 hdf19 l7_19 l8_19 l19_19 l21_19
    have hS24 : St w NoX [c_22] w22 := hS22.sel [0] (by decide) rfl
    refine then_n (hK21 _ _ ?_)
    clear hK21
    refine wp_ret ?_
    refine ret_in (results_2 Try.results13 (rv_tmp l4_23) (rv_tmp l5_23)) hdf23 ?_
    -- leaf N
    exact ⟨_, rfl, (hS24.fin1 0 rfl (hc_22.trans (congrArg (ro 2 rcC _) (by rw [coT_eq]; exact lsM_cnF (show HM ws (slT ws c) K_5 by assumption) (pm_doneK hpm hL18)))))⟩
  · intro j18 q18 y18 w18 c18 hj18 hc18 hS18
    replace hc18 : c18 = miv .i64 r14 v_5 es13 ck13 (some (q18, y18.1)) (kmap (fun y : Value × List Int => y.1) (L.eraseIdx j18)) := hc18
    replace hS18 : St w NoX [c18, c9_16, c13_16, cm_16] w18 := hS18
    have hle18 := er_len hj18
    refine W_v rfl rfl (V_ext (v := .bool true) rfl (et rfl) rfl) ?_
    refine W_end ?_
    refine gen_Q (fun A25 hA25 => ?_)
    have hsz25 := szq hA25
    have hdf25 : A25.defers = [] := by rw [hA25]; simp only [df_put]; exact hdf16
    have l7_25 := lookE hA25 7 (es rfl (es rfl l7_16))
    have l8_25 := lookE hA25 8 (es rfl (es rfl l8_16))
    have l19_25 := lookE hA25 19 (es rfl (es rfl l19_16))
    have l21_25 := lookE hA25 21 (et rfl)
    clear hA25 hsz16 hdf16 l7_16 l8_16 l19_16
    refine then_n (hK17 _ _ ?_)
    clear hK17
    refine wp_seq_k (fun K26 hK26 => ?_)
    refine cond_t l21_25 ?_
    refine wp_skip ?_
    refine then_n (hK26 _ _ ?_)
    clear hK26
    refine wp_block ?_
    refine wp_seq_k (fun K27 hK27 => ?_)
    refine region_in ?_
    refine W_r rfl rfl (VR_entry rfl l19_25 (hS18.chq 0 rfl hc18) (hS18.chq 2 rfl hc13_16)) ?_
    refine W_v rfl rfl (V_ext (v := .int .i64 (q18)) rfl (et rfl) rfl) ?_
    refine W_v rfl rfl (V_ext (v := y18.1) rfl (es rfl (et rfl)) rfl) ?_
    refine W_v rfl rfl (V_asg rfl (es rfl (et rfl))) ?_
    refine W_v rfl rfl (V_asg rfl (es rfl (et rfl))) ?_
    refine W_end ?_
    refine gen_Q (fun A28 hA28 => ?_)
    have hsz28 := szq hA28
    have hdf28 : A28.defers = [] := by rw [hA28]; simp only [df_put]; exact hdf25
    have l7_28 := lookE hA28 7 (e4 rfl (es rfl l7_25))
    have l8_28 := lookE hA28 8 (e4 rfl (es rfl l8_25))
    have l9_28 := lookE hA28 9 (es rfl (et rfl))
    have l10_28 := lookE hA28 10 (et rfl)
    have l19_28 := lookE hA28 19 (e4 rfl (es rfl l19_25))
    clear hA28 hsz25 hdf25 l7_25 l8_25 l19_25 l21_25
    refine then_n (hK27 _ _ ?_)
    clear hK27
    refine region_in ?_
    refine W_v rfl rfl (V_mov rfl l8_28) ?_
    refine W_v rfl rfl (V_mov rfl (es rfl l9_28)) ?_
    refine W_v rfl rfl (V_mov rfl (es rfl (es rfl l10_28))) ?_
    refine W_v rfl rfl (V_lenS rfl (et rfl) (sl_SlN (mkC_at ⟨q18, perm_mem hpm hj18⟩ (hS18.chq 3 rfl hcm_16))) Try.underlying23) ?_
    refine W_mapNewI 1 hS18 rfl hc9_16 rfl rfl rfl rfl (e3 rfl (et rfl)) (e2 rfl (et rfl)) (et rfl) Try.underlying67 Try.underlying3 (cn_new ((show HM ws (slT ws c) K_5 by assumption)).nd hpm hj18) (fun w29 c29 hc29 hS29 => ?_)
    replace hc29 : c29 = mi (.map (some g9)) ((cnM D) ++ [(q18, (y18.2.length : Int))]) := hc29
    replace hS29 : St w NoX [c18, c29, c13_16, cm_16] w29 := hS29
    refine W_end ?_
    refine gen_Q (fun A30 hA30 => ?_)
    have hsz30 := szq hA30
    have hdf30 : A30.defers = [] := by rw [hA30]; simp only [df_put]; exact hdf28
    have l7_30 := lookE hA30 7 (e3 rfl (es rfl l7_28))
    have l8_30 := lookE hA30 8 (e3 rfl (es rfl l8_28))
    have l19_30 := lookE hA30 19 (e3 rfl (es rfl l19_28))
    clear hA30 hsz28 hdf28 l7_28 l8_28 l9_28 l10_28 l19_28
    refine inb_n ?_
    refine then_n ⟨(L.eraseIdx j18).length, by simp only [hm16]; omega, hsz30, hdf30, (L.eraseIdx j18), (D ++ [(q18, y18)]), (some (q18, y18.1)), rfl, (pm_stepK hpm hj18), ((l7_30).trans l7_15.symm), ((l8_30).trans l8_15.symm), ((l19_30).trans l19_15.symm), (by have q0 := hc18; have q1 : c29 = mi (.map (some g9)) (cnM (D ++ [(q18, y18)])) := hc29.trans ((congrArg (mi _) (cnM_snoc D (q18, y18)).symm)); have q2 := hc13_16; have q3 := hcm_16; subst q0 q1 q2 q3; exact hS29)⟩

end Go.Proofs.Ytnfgeekaeegolaa