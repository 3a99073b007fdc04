import Derived.Test.YtnfgeekaeegolaaProg
import Derived.Test.YtnfgeekaeegolaaRd3
namespace Go.Proofs.Ytnfgeekaeegolaa
open Go.RowKit Go.Own Go.Own.R Go.Own.S Go.Own.F Go.Own.G


set_option maxHeartbeats 4000000 in
theorem kwi1_c {x1 : Int} {x2 : Int} {f : Int} {gf : Nat} {t : Int} {gt : Nat} {w : World} (hb_f : Ro w NoX (bx gf 3 #[.int .i64 f])) (hb_t : Ro w NoX (bx gt 3 #[.int .i64 t]))  :
    Calls Try.prog 51 #[.agg #[.int .i64 x1, .int .i64 x2], .pointer (some ⟨gf, 0, none⟩), .pointer (some ⟨gt, 0, none⟩)] w fun e w' => e = .returned (.bool (decide (x1 < f ∨ t ≤ x1))) ∧ St w NoX [] w' := by
  refine calls_in 15 Try.func51 rfl rfl (by simp) (fun A0 hsz0 hdf0 hargs => ?_)
  have l0_0 := hargs 0 (.agg #[.int .i64 x1, .int .i64 x2]) rfl
  have l1_0 := hargs 1 (.pointer (some ⟨gf, 0, none⟩)) rfl
  have l2_0 := hargs 2 (.pointer (some ⟨gt, 0, none⟩)) rfl
  clear hargs; replace hsz0 : SzN A0 15 := ⟨hsz0⟩
  have hS := St.nil w
  refine wp_seq_k (fun K1 hK1 => ?_)
  refine region_in ?_
  refine W_boxS (zs := #[.int .i64 (x1), .int .i64 (x2)]) hS rfl rfl rfl l0_0 (by rfl) (fun g2 w2 c2 hc2 hS2 => ?_)
  replace hS2 : St w NoX [c2] w2 := hS2
  refine W_v rfl rfl (V_asg rfl rfl) ?_
  refine W_end ?_
  refine gen_Q (fun A3 hA3 => ?_)
  have hsz3 := szq hA3
  have hdf3 : A3.defers = [] := by rw [hA3]; simp only [df_put]; exact hdf0
  have l1_3 := lookE hA3 1 (es rfl (es rfl l1_0))
  have l2_3 := lookE hA3 2 (es rfl (es rfl l2_0))
  have l3_3 := lookE hA3 3 (es rfl (et rfl))
  clear hA3 hsz0 hdf0 l0_0 l1_0 l2_0
  refine then_n (hK1 _ _ ?_)
  clear hK1
  refine wp_seq_k (fun K4 hK4 => ?_)
  refine region_in ?_
  refine W_v rfl rfl (V_fa (off' := 0) rfl l3_3 Try.underlying42 rfl (by decide +kernel) rfl) ?_
  refine W_r rfl rfl (VR_ldC rfl (et rfl) (cell_box (v := .int .i64 (x1)) (hS2.obj 0 rfl hc2) rfl) Try.underlying3 rfl) ?_
  refine W_r rfl rfl (VR_ldC rfl (es rfl (es rfl l1_3)) (cell_box (v := .int .i64 (f)) (ob_at (hS2.ro hb_f)) rfl) Try.underlying3 rfl) ?_
  refine W_v rfl rfl (V_lss rfl (es rfl (et rfl)) (et rfl)) ?_
  refine W_split rfl rfl (V_mov rfl (et rfl)) (fun c5 => ?_) (fun c5 => ?_)
  · skip
    refine W_off rfl (wanted_f rfl rfl (et rfl) (ez rfl) rfl) ?_
    refine W_off rfl (wanted_f rfl rfl (es rfl (et rfl)) (ez rfl) rfl) ?_
    refine W_off rfl (wanted_f rfl rfl (e2 rfl (et rfl)) (ez rfl) rfl) ?_
    refine W_off rfl (wanted_f rfl rfl (e3 rfl (et rfl)) (ez rfl) rfl) ?_
    refine W_v rfl rfl (V_pickT rfl (e4 rfl (et rfl)) rfl) ?_
    refine W_v rfl rfl (V_asg rfl (et rfl)) ?_
    refine W_end ?_
    refine gen_Q (fun A6 hA6 => ?_)
    have hsz6 := szq hA6
    have hdf6 : A6.defers = [] := by rw [hA6]; simp only [df_put]; exact hdf3
    have l4_6 := lookE hA6 4 (et rfl)
    clear hA6 hsz3 hdf3 l1_3 l2_3 l3_3
    have hS7 : St w NoX [] w2 := hS2.sel [] (by decide) rfl
    refine then_n (hK4 _ _ ?_)
    clear hK4
    refine wp_ret ?_
    refine ret_in (results_1 Try.results51 (rv_tmp l4_6)) hdf6 ?_
    -- leaf T
    rw [show (decide (x1 < f ∨ t ≤ x1)) = true by exact decide_eq_true (by omega)]
    exact ⟨rfl, hS7.fin0⟩
  · skip
    refine W_v rfl (wanted_t rfl rfl (et rfl) (ez rfl)) (V_fa (off' := 0) rfl (e4 rfl (es rfl l3_3)) Try.underlying42 rfl (by decide +kernel) rfl) ?_
    refine W_r rfl (wanted_t rfl rfl (es rfl (et rfl)) (ez rfl)) (VR_ldC rfl (et rfl) (cell_box (v := .int .i64 (x1)) (hS2.obj 0 rfl hc2) rfl) Try.underlying3 rfl) ?_
    refine W_r rfl (wanted_t rfl rfl (e2 rfl (et rfl)) (ez rfl)) (VR_ldC rfl (e6 rfl (es rfl l2_3)) (cell_box (v := .int .i64 (t)) (ob_at (hS2.ro hb_t)) rfl) Try.underlying3 rfl) ?_
    refine W_v rfl (wanted_t rfl rfl (e3 rfl (et rfl)) (ez rfl)) (V_geq rfl (es rfl (et rfl)) (et rfl)) ?_
    refine W_v rfl rfl (V_pickF rfl (e4 rfl (et rfl)) (et rfl)) ?_
    refine W_v rfl rfl (V_asg rfl (et rfl)) ?_
    refine W_end ?_
    refine gen_Q (fun A8 hA8 => ?_)
    have hsz8 := szq hA8
    have hdf8 : A8.defers = [] := by rw [hA8]; simp only [df_put]; exact hdf3
    have l4_8 := lookE hA8 4 (et rfl)
    clear hA8 hsz3 hdf3 l1_3 l2_3 l3_3
    have hS9 : St w NoX [] w2 := hS2.sel [] (by decide) rfl
    refine then_n (hK4 _ _ ?_)
    clear hK4
    refine wp_ret ?_
    refine ret_in (results_1 Try.results51 (rv_tmp l4_8)) hdf8 ?_
    -- leaf F
    rw [show (decide (x1 < f ∨ t ≤ x1)) = decide (t ≤ x1) by exact decide_eq_decide.2 (by omega)]
    exact ⟨rfl, hS9.fin0⟩

set_option maxHeartbeats 4000000 in
theorem kixW_c {cv : Value} {l : List (Int × Int)} {f : Int} {gf : Nat} {t : Int} {gt : Nat} {w : World} (h_cv : Ro w NoX (rl 2 rcC cv l)) (hb_f : Ro w NoX (bx gf 3 #[.int .i64 f])) (hb_t : Ro w NoX (bx gt 3 #[.int .i64 t]))  :
    Calls Try.prog 62 #[cv, .func (.func 51) #[] #[.pointer (some ⟨gf, 0, none⟩), .pointer (some ⟨gt, 0, none⟩)]] w fun e w' => e = .returned (.int .i64 (idxFG (wiB f t) l)) ∧ St w NoX [] w' := by
  refine calls_in 19 Try.func62 rfl rfl (by simp) (fun A0 hsz0 hdf0 hargs => ?_)
  have l0_0 := hargs 0 (cv) rfl
  have l1_0 := hargs 1 (.func (.func 51) #[] #[.pointer (some ⟨gf, 0, none⟩), .pointer (some ⟨gt, 0, none⟩)]) rfl
  clear hargs; replace hsz0 : SzN A0 19 := ⟨hsz0⟩
  have hS := St.nil w
  have bh_cv := SlN.le (sl_SlN h_cv.at)
  refine wp_seq_k (fun K1 hK1 => ?_)
  refine region_in ?_
  refine W_v rfl rfl (V_asg rfl rfl) ?_
  refine W_end ?_
  refine gen_Q (fun A2 hA2 => ?_)
  have hsz2 := szq hA2
  have hdf2 : A2.defers = [] := by rw [hA2]; simp only [df_put]; exact hdf0
  have l0_2 := lookE hA2 0 (es rfl l0_0)
  have l1_2 := lookE hA2 1 (es rfl l1_0)
  clear hA2 hsz0 hdf0 l0_0 l1_0
  refine then_n (hK1 _ _ ?_)
  clear hK1
  refine wp_seq_k (fun K3 hK3 => ?_)
  refine wp_seq_k (fun K4 hK4 => ?_)
  refine region_in ?_
  refine W_v rfl rfl (V_mov rfl l0_2) ?_
  refine W_v rfl rfl (V_lenS rfl (et rfl) (sl_SlN h_cv.at) Try.underlying28) ?_
  refine W_v rfl rfl (V_mov rfl rfl) ?_
  refine W_end ?_
  refine gen_Q (fun A5 hA5 => ?_)
  have hsz5 := szq hA5
  have hdf5 : A5.defers = [] := by rw [hA5]; simp only [df_put]; exact hdf2
  have l0_5 := lookE hA5 0 (e2 rfl (es rfl l0_2))
  have l1_5 := lookE hA5 1 (e2 rfl (es rfl l1_2))
  have l7_5 := lookE hA5 7 (es rfl (et rfl))
  have l8_5 := lookE hA5 8 (et rfl)
  clear hA5 hsz2 hdf2 l0_2 l1_2
  refine then_n (hK4 _ _ ?_)
  clear hK4
  refine wp_block ?_
  -- loop 2
  refine loopX (fun mz A' w' => SzN A' 19 ∧ A'.defers = [] ∧ (∃ (k : Nat), (mz = l.length - k) ∧ (k ≤ l.length) ∧ (∀ i, i < k → ∀ x, l[i]? = some x → (wiB f t) x = false) ∧ (EV A' (.tmp 8) = .int .i64 (k : Int)) ∧ (EV A' (.tmp 0) = EV A5 (.tmp 0)) ∧ (EV A' (.tmp 1) = EV A5 (.tmp 1)) ∧ (EV A' (.tmp 7) = EV A5 (.tmp 7)) ∧ (St w NoX [] w'))) (l.length - 0) ⟨hsz5, hdf5, 0, rfl, (Nat.zero_le _), (fun i hi => by omega), ((l8_5).trans (by first | rfl | (simp; done) | (congr 1; omega))), rfl, rfl, rfl, hS⟩ ?_
  clear hS
  rintro n6 A6 w6 ⟨hsz6, hdf6, k, hm6, hk, hz, l8_6, u0_6, u1_6, u7_6, hS6⟩
  have l0_6 := u0_6.trans l0_5
  have l1_6 := u1_6.trans l1_5
  have l7_6 := u7_6.trans l7_5
  refine wp_seq_k (fun K7 hK7 => ?_)
  refine region_in ?_
  refine W_v rfl rfl (V_lss rfl l8_6 l7_6) ?_
  refine W_end ?_
  refine gen_Q (fun A8 hA8 => ?_)
  have hsz8 := szq hA8
  have hdf8 : A8.defers = [] := by rw [hA8]; simp only [df_put]; exact hdf6
  have l0_8 := lookE hA8 0 (es rfl l0_6)
  have l1_8 := lookE hA8 1 (es rfl l1_6)
  have l7_8 := lookE hA8 7 (es rfl l7_6)
  have l8_8 := lookE hA8 8 (es rfl l8_6)
  have l9_8 := lookE hA8 9 (et rfl)
  clear hA8 hsz6 hdf6 l8_6 l0_6 l1_6 l7_6
  refine then_n (hK7 _ _ ?_)
  clear hK7
  refine wp_seq_k (fun K9 hK9 => ?_)
  refine cond_dec l9_8 (fun c10 => ?_) (fun c10 => ?_)
  · skip
    refine wp_skip ?_
    refine then_n (hK9 _ _ ?_)
    clear hK9
    refine wp_seq_k (fun K11 hK11 => ?_)
    refine wp_block ?_
    refine wp_seq_k (fun K12 hK12 => ?_)
    refine region_in ?_
    refine W_v rfl rfl (V_mov rfl l8_8) ?_
    refine W_v rfl rfl (V_asg rfl (et rfl)) ?_
    refine W_end ?_
    refine gen_Q (fun A13 hA13 => ?_)
    have hsz13 := szq hA13
    have hdf13 : A13.defers = [] := by rw [hA13]; simp only [df_put]; exact hdf8
    have l0_13 := lookE hA13 0 (es rfl (es rfl l0_8))
    have l1_13 := lookE hA13 1 (es rfl (es rfl l1_8))
    have l5_13 := lookE hA13 5 (et rfl)
    have l7_13 := lookE hA13 7 (es rfl (es rfl l7_8))
    have l8_13 := lookE hA13 8 (es rfl (es rfl l8_8))
    clear hA13 hsz8 hdf8 l0_8 l1_8 l7_8 l8_8 l9_8
    refine then_n (hK12 _ _ ?_)
    clear hK12
    refine wp_seq_k (fun K14 hK14 => ?_)
    refine region_in ?_
    refine W_v rfl rfl (V_mov rfl l1_13) ?_
    refine W_v rfl rfl (V_mov rfl (es rfl l0_13)) ?_
    refine W_v rfl rfl (V_mov rfl (es rfl (es rfl l5_13))) ?_
    have k15 : k < l.length := by first | omega | (simp only [List.length_cons, List.length_nil]; omega) | (simp only [List.length_set]; omega) | decide
    obtain ⟨y15, hy15⟩ := get_some (xs := l) (k := k) k15
    obtain ⟨B15, O15, C15, hv15⟩ := (SlN.blk (sl_SlN h_cv.at) (by first | omega | (simp only [List.length_cons, List.length_nil]; omega) | (simp only [List.length_set]; omega) | decide))
    refine W_v rfl rfl (V_ixS (off := O15 + k * 2) 2 (k) rfl (es rfl (et rfl)) (et rfl) hv15 (by omega) k15 Try.underlying28 (by kernel_rfl) rfl) ?_
    refine W_r rfl rfl (VR_ldR (ys := rcC y15) rfl (et rfl) (SlN.row rcC_len (sl_SlN (hS6.ro h_cv)) hv15 hy15 rfl) Try.underlying42 rfl (by kernel_rfl)) ?_
    refine W_callV rfl rfl rfl (e4 rfl (et rfl)) Try.func51 (by kernel_rfl) rfl (args1 (et rfl)) (kwi1_c (x1 := y15.1) (x2 := y15.2) (f := f) (gf := gf) (t := t) (gt := gt) (hS6.roC hb_f) (hS6.roC hb_t) ) ?_
    rintro _ w16 ⟨rfl, hP16⟩
    refine ⟨_, rfl, ?_⟩
    have hS16 := hS6.join hP16
    replace hS16 : St w NoX [] w16 := hS16
    refine W_end ?_
    refine gen_Q (fun A17 hA17 => ?_)
    have hsz17 := szq hA17
    have hdf17 : A17.defers = [] := by rw [hA17]; simp only [df_put]; exact hdf13
    have l0_17 := lookE hA17 0 (e5 rfl (es rfl l0_13))
    have l1_17 := lookE hA17 1 (e5 rfl (es rfl l1_13))
    have l5_17 := lookE hA17 5 (e5 rfl (es rfl l5_13))
    have l7_17 := lookE hA17 7 (e5 rfl (es rfl l7_13))
    have l8_17 := lookE hA17 8 (e5 rfl (es rfl l8_13))
    have l16_17 := lookE hA17 16 (et rfl)
    clear hA17 hsz13 hdf13 l0_13 l1_13 l5_13 l7_13 l8_13
    refine then_n (hK14 _ _ ?_)
    clear hK14
    refine cond_dec l16_17 (fun c18 => ?_) (fun c18 => ?_)
    · skip
      refine wp_seq_k (fun K19 hK19 => ?_)
      refine region_in ?_
      refine W_v rfl rfl (V_mov rfl l5_17) ?_
      refine W_v rfl rfl (V_asg rfl (et rfl)) ?_
      refine W_end ?_
      refine gen_Q (fun A20 hA20 => ?_)
      have hsz20 := szq hA20
      have hdf20 : A20.defers = [] := by rw [hA20]; simp only [df_put]; exact hdf17
      have l4_20 := lookE hA20 4 (et rfl)
      clear hA20 hsz17 hdf17 l0_17 l1_17 l5_17 l7_17 l8_17 l16_17
      refine then_n (hK19 _ _ ?_)
      clear hK19
      refine wp_ret ?_
      refine inb_ret ?_
      refine then_ret ?_
      refine then_ret ?_
      refine inb_ret ?_
      refine then_ret ?_
      refine ret_in (results_1 Try.results62 (rv_tmp l4_20)) hdf20 ?_
      -- leaf TT
      have e0 : idxFG (wiB f t) l = (k : Int) := by exact idxF_atG hz hy15 (show wiB f t y15 = true by unfold wiB; exact decide_eq_true c18)
      rw [e0]
      exact ⟨rfl, hS16.fin0⟩
    · skip
      refine wp_skip ?_
      refine inb_n ?_
      refine then_n (hK11 _ _ ?_)
      clear hK11
      refine region_in ?_
      refine W_v rfl rfl (V_add rfl l8_17 rfl (by omega) (by omega)) ?_
      refine W_v rfl rfl (V_mov rfl (et rfl)) ?_
      refine W_end ?_
      refine gen_Q (fun A21 hA21 => ?_)
      have hsz21 := szq hA21
      have hdf21 : A21.defers = [] := by rw [hA21]; simp only [df_put]; exact hdf17
      have l0_21 := lookE hA21 0 (es rfl (es rfl l0_17))
      have l1_21 := lookE hA21 1 (es rfl (es rfl l1_17))
      have l7_21 := lookE hA21 7 (es rfl (es rfl l7_17))
      have l8_21 := lookE hA21 8 (et rfl)
      clear hA21 hsz17 hdf17 l0_17 l1_17 l5_17 l7_17 l8_17 l16_17
      refine then_n ⟨l.length - (k + 1), by simp only [hm6]; omega, hsz21, hdf21, (k + 1), rfl, (by omega), (no_stepG hz hy15 (show wiB f t y15 = false by unfold wiB; exact decide_eq_false c18)), ((l8_21).trans (by first | rfl | (simp; done) | (congr 1; omega))), ((l0_21).trans l0_5.symm), ((l1_21).trans l1_5.symm), ((l7_21).trans l7_5.symm), hS16⟩
  · skip
    refine wp_exit ?_
    refine then_exit ?_
    refine then_exit ?_
    refine inb_hit ?_
    refine then_n (hK3 _ _ ?_)
    clear hK3
    refine wp_seq_k (fun K22 hK22 => ?_)
    refine region_in ?_
    refine W_v rfl rfl (V_asg rfl rfl) ?_
    refine W_end ?_
    refine gen_Q (fun A23 hA23 => ?_)
    have hsz23 := szq hA23
    have hdf23 : A23.defers = [] := by rw [hA23]; simp only [df_put]; exact hdf8
    have l4_23 := lookE hA23 4 (et rfl)
    clear hA23 hsz8 hdf8 l0_8 l1_8 l7_8 l8_8 l9_8
    refine then_n (hK22 _ _ ?_)
    clear hK22
    refine wp_ret ?_
    refine ret_in (results_1 Try.results62 (rv_tmp l4_23)) hdf23 ?_
    -- leaf F
    have e0 : idxFG (wiB f t) l = (-1) := by exact idxF_noG (fun i hi x hx => hz i (by omega) x hx)
    rw [e0]
    exact ⟨rfl, hS6.fin0⟩

set_option maxHeartbeats 4000000 in
theorem kdlW_c {v : Value} {l : List (Int × Int)} {f : Int} {gf : Nat} {t : Int} {gt : Nat} {w : World} {Y : Nat → Prop} (hb_f : Ro w Y (bx gf 3 #[.int .i64 f])) (hb_t : Ro w Y (bx gt 3 #[.int .i64 t])) (hS : St w Y [ro 2 rcC v l] w)  :
    Calls Try.prog 49 #[v, .func (.func 51) #[] #[.pointer (some ⟨gf, 0, none⟩), .pointer (some ⟨gt, 0, none⟩)]] w fun e w' => ∃ u, e = .returned (u) ∧ St w Y [ro 2 rcC (u) (flG (wiB f t) l)] w' := by
  refine calls_in 42 Try.func49 rfl rfl (by simp) (fun A0 hsz0 hdf0 hargs => ?_)
  have l0_0 := hargs 0 (v) rfl
  have l1_0 := hargs 1 (.func (.func 51) #[] #[.pointer (some ⟨gf, 0, none⟩), .pointer (some ⟨gt, 0, none⟩)]) rfl
  clear hargs; replace hsz0 : SzN A0 42 := ⟨hsz0⟩
  obtain ⟨m_v, hm_v, hS⟩ := gen1 hS
  replace hS : St w Y [m_v] w := hS
  have bm_v := SlN.le (ow_at (hS.chq 0 rfl hm_v))
  refine wp_seq_k (fun K1 hK1 => ?_)
  refine region_in ?_
  refine W_v rfl rfl (V_asg rfl rfl) ?_
  refine W_end ?_
  refine gen_Q (fun A2 hA2 => ?_)
  have hsz2 := szq hA2
  have hdf2 : A2.defers = [] := by rw [hA2]; simp only [df_put]; exact hdf0
  have l0_2 := lookE hA2 0 (es rfl l0_0)
  have l1_2 := lookE hA2 1 (es rfl l1_0)
  clear hA2 hsz0 hdf0 l0_0 l1_0
  refine then_n (hK1 _ _ ?_)
  clear hK1
  refine wp_seq_k (fun K3 hK3 => ?_)
  refine region_in ?_
  refine W_v rfl rfl (V_mov rfl l0_2) ?_
  refine W_v rfl rfl (V_mov rfl (es rfl l1_2)) ?_
  refine W_call rfl rfl rfl Try.func62 (by kernel_rfl) rfl (args2 (es rfl (et rfl)) (et rfl)) (kixW_c (f := f) (gf := gf) (t := t) (gt := gt) (hS.chC 0 rfl hm_v).own (hS.roC hb_f) (hS.roC hb_t) ) ?_
  rintro _ w4 ⟨rfl, hP4⟩
  refine ⟨_, rfl, ?_⟩
  have hS4 := hS.join hP4
  replace hS4 : St w Y [m_v] w4 := hS4
  refine W_v rfl rfl (V_asg rfl (et rfl)) ?_
  refine W_end ?_
  refine gen_Q (fun A5 hA5 => ?_)
  have hsz5 := szq hA5
  have hdf5 : A5.defers = [] := by rw [hA5]; simp only [df_put]; exact hdf2
  have l0_5 := lookE hA5 0 (e3 rfl (es rfl l0_2))
  have l1_5 := lookE hA5 1 (e3 rfl (es rfl l1_2))
  have l5_5 := lookE hA5 5 (et rfl)
  clear hA5 hsz2 hdf2 l0_2 l1_2
  refine then_n (hK3 _ _ ?_)
  clear hK3
  refine wp_seq_k (fun K6 hK6 => ?_)
  refine wp_seq_k (fun K7 hK7 => ?_)
  refine region_in ?_
  refine W_v rfl rfl (V_mov rfl l5_5) ?_
  refine W_v rfl rfl (V_eql rfl (et rfl) rfl) ?_
  refine W_end ?_
  refine gen_Q (fun A8 hA8 => ?_)
  have hsz8 := szq hA8
  have hdf8 : A8.defers = [] := by rw [hA8]; simp only [df_put]; exact hdf5
  have l0_8 := lookE hA8 0 (es rfl (es rfl l0_5))
  have l1_8 := lookE hA8 1 (es rfl (es rfl l1_5))
  have l5_8 := lookE hA8 5 (es rfl (es rfl l5_5))
  have l12_8 := lookE hA8 12 (et rfl)
  clear hA8 hsz5 hdf5 l0_5 l1_5 l5_5
  refine then_n (hK7 _ _ ?_)
  clear hK7
  refine cond_dec l12_8 (fun c9 => ?_) (fun c9 => ?_)
  · skip
    refine wp_seq_k (fun K10 hK10 => ?_)
    refine region_in ?_
    refine W_v rfl rfl (V_mov rfl l0_8) ?_
    refine W_v rfl rfl (V_asg rfl (et rfl)) ?_
    refine W_end ?_
    refine gen_Q (fun A11 hA11 => ?_)
    have hsz11 := szq hA11
    have hdf11 : A11.defers = [] := by rw [hA11]; simp only [df_put]; exact hdf8
    have l4_11 := lookE hA11 4 (et rfl)
    clear hA11 hsz8 hdf8 l0_8 l1_8 l5_8 l12_8
    refine then_n (hK10 _ _ ?_)
    clear hK10
    refine wp_ret ?_
    refine then_ret ?_
    refine ret_in (results_1 Try.results49 (rv_tmp l4_11)) hdf11 ?_
    -- leaf T
    exact ⟨_, rfl, (hS4.fin1 0 rfl (hm_v.trans (congrArg (ro 2 rcC _) (fl_noG c9))))⟩
  · skip
    obtain ⟨k0, y0, hk0, hy0, hpy0, hn0⟩ := idxF_specG (p := (wiB f t)) c9
    have h0 := df_initG hy0 hpy0 hn0
    have hk0l := (List.getElem?_eq_some_iff.1 hy0).1
    refine wp_skip ?_
    refine then_n (hK6 _ _ ?_)
    clear hK6
    refine wp_seq_k (fun K12 hK12 => ?_)
    refine wp_seq_k (fun K13 hK13 => ?_)
    refine region_in ?_
    refine W_v rfl rfl (V_mov rfl l5_8) ?_
    refine W_v rfl rfl (V_add rfl (et rfl) rfl (by omega) (by omega)) ?_
    refine W_v rfl rfl (V_asg rfl (et rfl)) ?_
    refine W_end ?_
    refine gen_Q (fun A14 hA14 => ?_)
    have hsz14 := szq hA14
    have hdf14 : A14.defers = [] := by rw [hA14]; simp only [df_put]; exact hdf8
    have l0_14 := lookE hA14 0 (e2 rfl (es rfl l0_8))
    have l1_14 := lookE hA14 1 (e2 rfl (es rfl l1_8))
    have l5_14 := lookE hA14 5 (e2 rfl (es rfl l5_8))
    have l6_14 := lookE hA14 6 (et rfl)
    clear hA14 hsz8 hdf8 l0_8 l1_8 l5_8 l12_8
    refine then_n (hK13 _ _ ?_)
    clear hK13
    refine wp_block ?_
    -- loop 5
    refine loopX (fun mz A' w' => SzN A' 42 ∧ A'.defers = [] ∧ (∃ (j : Nat) (gar : List (Int × Int)), (mz = l.length - j) ∧ (j ≤ l.length) ∧ ((flG (wiB f t) (l.take j)).length + gar.length = j) ∧ ((dfDG (wiB f t) l gar j).length = l.length) ∧ (EV A' (.tmp 6) = .int .i64 (j : Int)) ∧ (EV A' (.tmp 5) = .int .i64 ((flG (wiB f t) (l.take j)).length : Int)) ∧ (EV A' (.tmp 0) = EV A14 (.tmp 0)) ∧ (EV A' (.tmp 1) = EV A14 (.tmp 1)) ∧ (St w Y [ro 2 rcC v (dfDG (wiB f t) l gar j)] w'))) (l.length - (k0 + 1)) ⟨hsz14, hdf14, (k0 + 1), [y0], rfl, (by omega), (by rw [h0.2]; rfl), (by rw [← h0.1]), ((l6_14).trans ((by rw [hk0]; rfl))), ((l5_14).trans ((by rw [h0.2, hk0]))), rfl, rfl, (by have q0 : m_v = ro 2 rcC v (dfDG (wiB f t) l [y0] (k0 + 1)) := hm_v.trans ((congrArg (ro 2 rcC _) h0.1)); subst q0; exact hS4)⟩ ?_
    clear hS4 hm_v
    rintro n15 A15 w15 ⟨hsz15, hdf15, j, gar, hm15, hj, hgl, hdl, l6_15, l5_15, u0_15, u1_15, hS15⟩
    have l0_15 := u0_15.trans l0_14
    have l1_15 := u1_15.trans l1_14
    obtain ⟨m_v_15, hm_v_15, hS15⟩ := gen1 hS15
    refine wp_seq_k (fun K16 hK16 => ?_)
    refine wp_seq_k (fun K17 hK17 => ?_)
    refine region_in ?_
    refine W_v rfl rfl (V_mov rfl l6_15) ?_
    refine W_v rfl rfl (V_mov rfl (es rfl l0_15)) ?_
    refine W_v rfl rfl (V_lenS rfl (et rfl) (ow_at (hS15.chq 0 rfl hm_v_15)) Try.underlying28) ?_
    refine W_v rfl rfl (V_lss rfl (e2 rfl (et rfl)) (et rfl)) ?_
    refine W_end ?_
    refine gen_Q (fun A18 hA18 => ?_)
    have hsz18 := szq hA18
    have hdf18 : A18.defers = [] := by rw [hA18]; simp only [df_put]; exact hdf15
    have l0_18 := lookE hA18 0 (e3 rfl (es rfl l0_15))
    have l1_18 := lookE hA18 1 (e3 rfl (es rfl l1_15))
    have l5_18 := lookE hA18 5 (e3 rfl (es rfl l5_15))
    have l6_18 := lookE hA18 6 (e3 rfl (es rfl l6_15))
    have l19_18 := lookE hA18 19 (et rfl)
    clear hA18 hsz15 hdf15 l6_15 l5_15 l0_15 l1_15
    refine then_n (hK17 _ _ ?_)
    clear hK17
    refine cond_dec l19_18 (fun c19 => ?_) (fun c19 => ?_)
    · skip
      refine wp_skip ?_
      refine then_n (hK16 _ _ ?_)
      clear hK16
      refine wp_seq_k (fun K20 hK20 => ?_)
      refine wp_block ?_
      refine wp_seq_k (fun K21 hK21 => ?_)
      refine region_in ?_
      refine W_v rfl rfl (V_mov rfl l0_18) ?_
      refine W_v rfl rfl (V_mov rfl (es rfl l6_18)) ?_
      have k22 : j < (dfDG (wiB f t) l gar j).length := by first | omega | (simp only [List.length_cons, List.length_nil]; omega) | (simp only [List.length_set]; omega) | decide
      obtain ⟨y22, hy22⟩ := get_some (xs := (dfDG (wiB f t) l gar j)) (k := j) k22
      have hq22 := df_getG hgl hy22
      obtain ⟨B22, O22, C22, hv22⟩ := (SlN.blk (ow_at (hS15.chq 0 rfl hm_v_15)) (by first | omega | (simp only [List.length_cons, List.length_nil]; omega) | (simp only [List.length_set]; omega) | decide))
      refine W_v rfl rfl (V_ixS (off := O22 + j * 2) 2 (j) rfl (es rfl (et rfl)) (et rfl) hv22 (by omega) k22 Try.underlying28 (by kernel_rfl) rfl) ?_
      refine W_r rfl rfl (VR_ldR (ys := rcC y22) rfl (et rfl) (SlN.row rcC_len (ow_at (hS15.chq 0 rfl hm_v_15)) hv22 hy22 rfl) Try.underlying42 rfl (by kernel_rfl)) ?_
      refine W_allocS (z := .agg #[.int .i64 0, .int .i64 0]) (zs := #[.int .i64 0, .int .i64 0]) hS15 rfl rfl rfl (by kernel_rfl) (by rfl) (fun g23 w23 c23 hc23 hS23 => ?_)
      replace hS23 : St w Y [c23, m_v_15] w23 := hS23
      refine W_stAS 0 hS23 rfl hc23 rfl rfl rfl (et rfl) (es rfl (et rfl)) (by first | (rw [List.all_toArray] <;> rfl) | (simp only [List.all_toArray, List.all_cons, List.all_nil] <;> rfl)) (by rfl) (by kernel_rfl) (fun w24 c24 hc24 hS24 => ?_)
      replace hS24 : St w Y [c24, m_v_15] w24 := hS24
      refine W_end ?_
      refine gen_Q (fun A25 hA25 => ?_)
      have hsz25 := szq hA25
      have hdf25 : A25.defers = [] := by rw [hA25]; simp only [df_put]; exact hdf18
      have l0_25 := lookE hA25 0 (e4 rfl (es rfl l0_18))
      have l1_25 := lookE hA25 1 (e4 rfl (es rfl l1_18))
      have l5_25 := lookE hA25 5 (e4 rfl (es rfl l5_18))
      have l6_25 := lookE hA25 6 (e4 rfl (es rfl l6_18))
      have l7_25 := lookE hA25 7 (et rfl)
      clear hA25 hsz18 hdf18 l0_18 l1_18 l5_18 l6_18 l19_18
      refine then_n (hK21 _ _ ?_)
      clear hK21
      refine wp_seq_k (fun K26 hK26 => ?_)
      refine region_in ?_
      refine W_v rfl rfl (V_mov rfl l1_25) ?_
      refine W_r rfl rfl (VR_ldA rfl (es rfl l7_25) (hS24.obj 0 rfl hc24) Try.underlying42 rfl (by kernel_rfl)) ?_
      refine W_callV rfl rfl rfl (es rfl (et rfl)) Try.func51 (by kernel_rfl) rfl (args1 (et rfl)) (kwi1_c (x1 := y22.1) (x2 := y22.2) (f := f) (gf := gf) (t := t) (gt := gt) (hS24.roC hb_f) (hS24.roC hb_t) ) ?_
      rintro _ w27 ⟨rfl, hP27⟩
      refine ⟨_, rfl, ?_⟩
      have hS27 := hS24.join hP27
      replace hS27 : St w Y [c24, m_v_15] w27 := hS27
      refine W_v rfl rfl (V_notd rfl (et rfl)) ?_
      refine W_end ?_
      refine gen_Q (fun A28 hA28 => ?_)
      have hsz28 := szq hA28
      have hdf28 : A28.defers = [] := by rw [hA28]; simp only [df_put]; exact hdf25
      have l0_28 := lookE hA28 0 (e3 rfl (es rfl l0_25))
      have l1_28 := lookE hA28 1 (e3 rfl (es rfl l1_25))
      have l5_28 := lookE hA28 5 (e3 rfl (es rfl l5_25))
      have l6_28 := lookE hA28 6 (e3 rfl (es rfl l6_25))
      have l7_28 := lookE hA28 7 (e3 rfl (es rfl l7_25))
      have l29_28 := lookE hA28 29 (et rfl)
      clear hA28 hsz25 hdf25 l0_25 l1_25 l5_25 l6_25 l7_25
      refine then_n (hK26 _ _ ?_)
      clear hK26
      refine cond_dec l29_28 (fun c29 => ?_) (fun c29 => ?_)
      · skip
        refine wp_seq_k (fun K30 hK30 => ?_)
        refine region_in ?_
        refine W_v rfl rfl (V_mov rfl l0_28) ?_
        refine W_v rfl rfl (V_mov rfl (es rfl l5_28)) ?_
        refine W_r rfl rfl (VR_ldA rfl (es rfl (es rfl l7_28)) (hS27.obj 0 rfl hc24) Try.underlying42 rfl (by kernel_rfl)) ?_
        have k31 : (flG (wiB f t) (l.take j)).length < (dfDG (wiB f t) l gar j).length := by first | omega | (simp only [List.length_cons, List.length_nil]; omega) | (simp only [List.length_set]; omega) | decide
        obtain ⟨y31, hy31⟩ := get_some (xs := (dfDG (wiB f t) l gar j)) (k := (flG (wiB f t) (l.take j)).length) k31
        refine W_v rfl rfl (V_ixS (off := O22 + ((flG (wiB f t) (l.take j)).length) * 2) 2 ((flG (wiB f t) (l.take j)).length) rfl (e2 rfl (et rfl)) (es rfl (et rfl)) hv22 (by omega) k31 Try.underlying28 (by kernel_rfl) rfl) ?_
        refine W_stR (j := (flG (wiB f t) (l.take j)).length) (ys := rcC (y22.1, y22.2)) 1 hS27 rfl hm_v_15 hv22 rfl rfl rfl (et rfl) (es rfl (et rfl)) (rcC_one _) (rcC_len _) rfl (by omega) (by kernel_rfl) (fun w32 c32 hc32 hS32 => ?_)
        replace hc32 : c32 = ro 2 rcC v ((dfDG (wiB f t) l gar j).set ((flG (wiB f t) (l.take j)).length) (y22.1, y22.2)) := hc32.trans (ro_set rcC_len (by omega))
        replace hS32 : St w Y [c24, c32] w32 := hS32
        refine W_end ?_
        refine gen_Q (fun A33 hA33 => ?_)
        have hsz33 := szq hA33
        have hdf33 : A33.defers = [] := by rw [hA33]; simp only [df_put]; exact hdf28
        have l0_33 := lookE hA33 0 (e3 rfl (es rfl l0_28))
        have l1_33 := lookE hA33 1 (e3 rfl (es rfl l1_28))
        have l5_33 := lookE hA33 5 (e3 rfl (es rfl l5_28))
        have l6_33 := lookE hA33 6 (e3 rfl (es rfl l6_28))
        clear hA33 hsz28 hdf28 l0_28 l1_28 l5_28 l6_28 l7_28 l29_28
        have hS34 : St w Y [c32] w32 := hS32.sel [1] (by decide) rfl
        refine then_n (hK30 _ _ ?_)
        clear hK30
        refine region_in ?_
        refine W_v rfl rfl (V_mov rfl l5_33) ?_
        refine W_v rfl rfl (V_add rfl (et rfl) rfl (by omega) (by omega)) ?_
        refine W_v rfl rfl (V_asg rfl (et rfl)) ?_
        refine W_end ?_
        refine gen_Q (fun A35 hA35 => ?_)
        have hsz35 := szq hA35
        have hdf35 : A35.defers = [] := by rw [hA35]; simp only [df_put]; exact hdf33
        have l0_35 := lookE hA35 0 (e2 rfl (es rfl l0_33))
        have l1_35 := lookE hA35 1 (e2 rfl (es rfl l1_33))
        have l5_35 := lookE hA35 5 (et rfl)
        have l6_35 := lookE hA35 6 (e2 rfl (es rfl l6_33))
        clear hA35 hsz33 hdf33 l0_33 l1_33 l5_33 l6_33
        refine inb_n ?_
        refine then_n (hK20 _ _ ?_)
        clear hK20
        refine region_in ?_
        refine W_v rfl rfl (V_mov rfl l6_35) ?_
        refine W_v rfl rfl (V_add rfl (et rfl) rfl (by omega) (by omega)) ?_
        refine W_v rfl rfl (V_asg rfl (et rfl)) ?_
        refine W_end ?_
        refine gen_Q (fun A36 hA36 => ?_)
        have hsz36 := szq hA36
        have hdf36 : A36.defers = [] := by rw [hA36]; simp only [df_put]; exact hdf35
        have l0_36 := lookE hA36 0 (e2 rfl (es rfl l0_35))
        have l1_36 := lookE hA36 1 (e2 rfl (es rfl l1_35))
        have l5_36 := lookE hA36 5 (e2 rfl (es rfl l5_35))
        have l6_36 := lookE hA36 6 (et rfl)
        clear hA36 hsz35 hdf35 l0_35 l1_35 l5_35 l6_35
        refine then_n ⟨l.length - (j + 1), by simp only [hm15]; omega, hsz36, hdf36, (j + 1), (gar ++ [y22]).tail, rfl, (by omega), (df_keepG hgl hq22 (show wiB f t y22 = false by unfold wiB; exact decide_eq_false (by omega))).2.2, (dfD_lenG (by omega) (df_keepG hgl hq22 (show wiB f t y22 = false by unfold wiB; exact decide_eq_false (by omega))).2.2), ((l6_36).trans (by first | rfl | (simp; done) | (congr 1; omega))), ((l5_36).trans ((by rw [(df_keepG hgl hq22 (show wiB f t y22 = false by unfold wiB; exact decide_eq_false (by omega))).2.1] <;> first | rfl | (congr 1; omega)))), ((l0_36).trans l0_14.symm), ((l1_36).trans l1_14.symm), (by have q0 : c32 = ro 2 rcC v (dfDG (wiB f t) l ((gar ++ [y22]).tail) (j + 1)) := hc32.trans ((congrArg (ro 2 rcC _) (df_keepG hgl hq22 (show wiB f t y22 = false by unfold wiB; exact decide_eq_false (by omega))).1)); subst q0; exact hS34)⟩
      · skip
        refine wp_skip ?_
        refine inb_n ?_
        refine then_n (hK20 _ _ ?_)
        clear hK20
        refine region_in ?_
        refine W_v rfl rfl (V_mov rfl l6_28) ?_
        refine W_v rfl rfl (V_add rfl (et rfl) rfl (by omega) (by omega)) ?_
        refine W_v rfl rfl (V_asg rfl (et rfl)) ?_
        refine W_end ?_
        refine gen_Q (fun A37 hA37 => ?_)
        have hsz37 := szq hA37
        have hdf37 : A37.defers = [] := by rw [hA37]; simp only [df_put]; exact hdf28
        have l0_37 := lookE hA37 0 (e2 rfl (es rfl l0_28))
        have l1_37 := lookE hA37 1 (e2 rfl (es rfl l1_28))
        have l5_37 := lookE hA37 5 (e2 rfl (es rfl l5_28))
        have l6_37 := lookE hA37 6 (et rfl)
        clear hA37 hsz28 hdf28 l0_28 l1_28 l5_28 l6_28 l7_28 l29_28
        have hS38 : St w Y [m_v_15] w27 := hS27.sel [1] (by decide) rfl
        refine then_n ⟨l.length - (j + 1), by simp only [hm15]; omega, hsz37, hdf37, (j + 1), (gar ++ [y22]), rfl, (by omega), (df_dropG hgl hq22 (show wiB f t y22 = true by unfold wiB; exact decide_eq_true (by omega))).2.2, (dfD_lenG (by omega) (df_dropG hgl hq22 (show wiB f t y22 = true by unfold wiB; exact decide_eq_true (by omega))).2.2), ((l6_37).trans (by first | rfl | (simp; done) | (congr 1; omega))), ((l5_37).trans ((by rw [(df_dropG hgl hq22 (show wiB f t y22 = true by unfold wiB; exact decide_eq_true (by omega))).2.1] <;> first | rfl | (congr 1; omega)))), ((l0_37).trans l0_14.symm), ((l1_37).trans l1_14.symm), (by have q0 : m_v_15 = ro 2 rcC v (dfDG (wiB f t) l (gar ++ [y22]) (j + 1)) := hm_v_15.trans ((congrArg (ro 2 rcC _) (df_dropG hgl hq22 (show wiB f t y22 = true by unfold wiB; exact decide_eq_true (by omega))).1)); subst q0; exact hS38)⟩
    · skip
      refine wp_exit ?_
      refine then_exit ?_
      refine then_exit ?_
      refine inb_hit ?_
      refine then_n (hK12 _ _ ?_)
      clear hK12
      refine wp_seq_k (fun K39 hK39 => ?_)
      refine region_in ?_
      refine W_v rfl rfl (V_mov rfl l0_18) ?_
      refine W_v rfl rfl (V_mov rfl (es rfl l5_18)) ?_
      have k40 : (flG (wiB f t) (l.take j)).length ≤ (dfDG (wiB f t) l gar j).length := by omega
      have m40 : (dfDG (wiB f t) l gar j).length ≤ (dfDG (wiB f t) l gar j).length := by omega
      refine W_v rfl rfl (V_subS 2 ((flG (wiB f t) (l.take j)).length) ((dfDG (wiB f t) l gar j).length) rfl (es rfl (et rfl)) (.inr ⟨_, _, rfl, (et rfl), by omega⟩) (.inl ⟨rfl, rfl⟩) Try.underlying28 (by kernel_rfl) (ow_at (hS15.chq 0 rfl hm_v_15)) k40 m40) ?_
      refine W_clearR (z := .agg (rcC (0, 0)).toArray) (zs := rcC (0, 0)) 0 ((flG (wiB f t) (l.take j)).length) hS15 rfl hm_v_15 (by omega) rfl rfl rfl (et rfl) Try.underlying28 (by kernel_rfl) rfl (rcC_len _) (by decide) (rcC_one _) (fun w41 c41 hc41 hS41 => ?_)
      replace hc41 : c41 = ro 2 rcC v ((dfDG (wiB f t) l gar j).take ((flG (wiB f t) (l.take j)).length) ++ List.replicate ((dfDG (wiB f t) l gar j).length - ((flG (wiB f t) (l.take j)).length)) (0, 0)) := hc41.trans (ro_clr (z := (0, 0)) rcC_len (by omega))
      have hcl41 : ((dfDG (wiB f t) l gar j).take ((flG (wiB f t) (l.take j)).length) ++ List.replicate ((dfDG (wiB f t) l gar j).length - ((flG (wiB f t) (l.take j)).length)) (0, 0)).length = (dfDG (wiB f t) l gar j).length := by rw [List.length_append, List.length_take, List.length_replicate]; omega
      replace hS41 : St w Y [c41] w41 := hS41
      refine W_end ?_
      refine gen_Q (fun A42 hA42 => ?_)
      have hsz42 := szq hA42
      have hdf42 : A42.defers = [] := by rw [hA42]; simp only [df_put]; exact hdf18
      have l0_42 := lookE hA42 0 (e2 rfl (es rfl l0_18))
      have l5_42 := lookE hA42 5 (e2 rfl (es rfl l5_18))
      clear hA42 hsz18 hdf18 l0_18 l1_18 l5_18 l6_18 l19_18
      refine then_n (hK39 _ _ ?_)
      clear hK39
      refine wp_seq_k (fun K43 hK43 => ?_)
      refine region_in ?_
      refine W_v rfl rfl (V_mov rfl l0_42) ?_
      refine W_v rfl rfl (V_mov rfl (es rfl l5_42)) ?_
      have k44 : 0 ≤ (flG (wiB f t) (l.take j)).length := by omega
      have m44 : (flG (wiB f t) (l.take j)).length ≤ ((dfDG (wiB f t) l gar j).take ((flG (wiB f t) (l.take j)).length) ++ List.replicate ((dfDG (wiB f t) l gar j).length - ((flG (wiB f t) (l.take j)).length)) (0, 0)).length := by omega
      obtain ⟨c44, hc44, hS44⟩ := hS41.sub 0 rfl hc41 (0) ((flG (wiB f t) (l.take j)).length) k44 m44
      replace hc44 : c44 = ro 2 rcC (subS 2 v 0 ((flG (wiB f t) (l.take j)).length)) (((dfDG (wiB f t) l gar j).take ((flG (wiB f t) (l.take j)).length) ++ List.replicate ((dfDG (wiB f t) l gar j).length - ((flG (wiB f t) (l.take j)).length)) (0, 0)).take ((flG (wiB f t) (l.take j)).length)) := hc44.trans (part_eqR rcC_len k44 m44 (by first | (simp; done) | exact List.take_of_length_le (by rw [List.length_drop]; omega)))
      replace hS44 : St w Y [c44] w41 := hS44
      refine W_v rfl rfl (V_subS 2 (0) ((flG (wiB f t) (l.take j)).length) rfl (es rfl (et rfl)) (.inl ⟨rfl, rfl⟩) (.inr ⟨_, _, rfl, (et rfl), by omega⟩) Try.underlying28 (by kernel_rfl) (ow_at (hS41.chq 0 rfl hc41)) k44 m44) ?_
      refine W_v rfl rfl (V_asg rfl (et rfl)) ?_
      refine W_end ?_
      refine gen_Q (fun A45 hA45 => ?_)
      have hsz45 := szq hA45
      have hdf45 : A45.defers = [] := by rw [hA45]; simp only [df_put]; exact hdf42
      have l4_45 := lookE hA45 4 (et rfl)
      clear hA45 hsz42 hdf42 l0_42 l5_42
      refine then_n (hK43 _ _ ?_)
      clear hK43
      refine wp_ret ?_
      refine ret_in (results_1 Try.results49 (rv_tmp l4_45)) hdf45 ?_
      -- leaf FF
      exact ⟨_, rfl, (hS44.fin1 0 rfl (hc44.trans (congrArg (ro 2 rcC _) (df_endG (by omega) rfl))))⟩

end Go.Proofs.Ytnfgeekaeegolaa