import Derived.Test.YtnfgeekaeegolaaProg
import Derived.Test.YtnfgeekaeegolaaRe5
import Derived.Test.YtnfgeekaeegolaaPl9j
namespace Go.Proofs.Ytnfgeekaeegolaa
open Go.RowKit Go.Own Go.Own.R Go.Own.S Go.Own.F Go.Own.G


set_option maxHeartbeats 4000000 in
theorem kmg_c {cv : Value} {l : List (Int × Int)} {dv : Value} {m : List (Int × Int)} {w : World} (h_cv : Ro w NoX (rl 2 rcC cv l)) (h_dv : Ro w NoX (rl 2 rcC dv m))  :
    Calls Try.prog 33 #[cv, dv] w fun e w' => ∃ v, e = .returned (.tuple #[v, .int .i64 (mgE l m)]) ∧ St w NoX [ro 2 rcC (v) (mgT l m)] w' := by
  have hn2 : ckN (([(cv, l), (dv, m)] : List RS).map (·.2)) = ckN [l, m] := rfl
  have hcc : (ccF ([(cv, l), (dv, m)] : List RS)) = l ++ m := by simp [ccF]
  refine calls_in 42 Try.func33 rfl rfl (by simp) (fun A0 hsz0 hdf0 hargs => ?_)
  have l0_0 := hargs 0 (cv) rfl
  have l1_0 := hargs 1 (dv) rfl
  clear hargs; replace hsz0 : SzN A0 42 := ⟨hsz0⟩
  have hS := St.nil w
  have bh_cv := SlN.le (sl_SlN h_cv.at)
  have bh_dv := SlN.le (sl_SlN h_dv.at)
  refine wp_seq_k (fun K1 hK1 => ?_)
  refine region_in ?_
  refine W_v rfl rfl (V_asg rfl rfl) ?_
  refine W_v rfl rfl (V_asg rfl rfl) ?_
  refine W_end ?_
  refine gen_Q (fun A2 hA2 => ?_)
  have hsz2 := szq hA2
  have hdf2 : A2.defers = [] := by rw [hA2]; simp only [df_put]; exact hdf0
  have l0_2 := lookE hA2 0 (es rfl (es rfl l0_0))
  have l1_2 := lookE hA2 1 (es rfl (es rfl l1_0))
  clear hA2 hsz0 hdf0 l0_0 l1_0
  refine then_n (hK1 _ _ ?_)
  clear hK1
  refine wp_seq_k (fun K3 hK3 => ?_)
  refine wp_seq_k (fun K4 hK4 => ?_)
  refine region_in ?_
  refine W_v rfl rfl (V_mov rfl l0_2) ?_
  refine W_v rfl rfl (V_mov rfl (es rfl l1_2)) ?_
  have hll5 : [cv, dv].length = 2 := rfl
  refine W_litS (vs := [cv, dv]) (xs := [cv, dv]) 1 hS rfl rfl rfl (parts2 (es rfl (et rfl)) (et rfl)) rfl Try.underlying88 (by kernel_rfl) (by decide) (by intro v hv; simp only [List.mem_cons, List.not_mem_nil, or_false] at hv; rcases hv with rfl | rfl <;> simp [SlN_cells (sl_SlN h_cv.at), SlN_cells (sl_SlN h_dv.at)]) (by simp [SlN_cells (sl_SlN h_cv.at), SlN_cells (sl_SlN h_dv.at)]) (fun g5 w5 c5 hc5 hS5 => ?_)
  replace hc5 : c5 = ow 1 [cv, dv].length (.slice (some ⟨g5, 0, none⟩) 2 2) [cv, dv] := hc5
  replace hS5 : St w NoX [c5] w5 := hS5
  refine W_call rfl rfl rfl Try.func44 (by kernel_rfl) rfl (args1 (et rfl)) (kck_c (us := [(cv, l), (dv, m)]) (hS5.chC 0 rfl hc5).own (nsr_two (hS5.roC h_cv) (hS5.roC h_dv)) ) ?_
  rintro _ w6 ⟨rfl, hP6⟩
  refine ⟨_, rfl, ?_⟩
  have hS6 := hS5.join hP6
  replace hS6 : St w NoX [c5] w6 := hS6
  refine W_v rfl rfl (V_asg rfl (et rfl)) ?_
  refine W_end ?_
  refine gen_Q (fun A7 hA7 => ?_)
  have hsz7 := szq hA7
  have hdf7 : A7.defers = [] := by rw [hA7]; simp only [df_put]; exact hdf2
  have l0_7 := lookE hA7 0 (e4 rfl (es rfl l0_2))
  have l1_7 := lookE hA7 1 (e4 rfl (es rfl l1_2))
  have l6_7 := lookE hA7 6 (et rfl)
  clear hA7 hsz2 hdf2 l0_2 l1_2
  have hS8 : St w NoX [] w6 := hS6.sel [] (by decide) rfl
  refine then_n (hK4 _ _ ?_)
  clear hK4
  refine wp_seq_k (fun K9 hK9 => ?_)
  refine region_in ?_
  refine W_v rfl rfl (V_mov rfl l6_7) ?_
  refine W_v rfl rfl (V_neq rfl (et rfl) rfl) ?_
  refine W_end ?_
  refine gen_Q (fun A10 hA10 => ?_)
  have hsz10 := szq hA10
  have hdf10 : A10.defers = [] := by rw [hA10]; simp only [df_put]; exact hdf7
  have l0_10 := lookE hA10 0 (es rfl (es rfl l0_7))
  have l1_10 := lookE hA10 1 (es rfl (es rfl l1_7))
  have l6_10 := lookE hA10 6 (es rfl (es rfl l6_7))
  have l15_10 := lookE hA10 15 (et rfl)
  clear hA10 hsz7 hdf7 l0_7 l1_7 l6_7
  refine then_n (hK9 _ _ ?_)
  clear hK9
  refine cond_dec l15_10 (fun c11 => ?_) (fun c11 => ?_)
  · skip
    refine wp_seq_k (fun K12 hK12 => ?_)
    refine region_in ?_
    refine W_v rfl rfl (V_mov rfl l6_10) ?_
    refine W_v rfl rfl (V_asg rfl rfl) ?_
    refine W_v rfl rfl (V_asg rfl (es rfl (et rfl))) ?_
    refine W_end ?_
    refine gen_Q (fun A13 hA13 => ?_)
    have hsz13 := szq hA13
    have hdf13 : A13.defers = [] := by rw [hA13]; simp only [df_put]; exact hdf10
    have l4_13 := lookE hA13 4 (es rfl (et rfl))
    have l5_13 := lookE hA13 5 (et rfl)
    clear hA13 hsz10 hdf10 l0_10 l1_10 l6_10 l15_10
    refine then_n (hK12 _ _ ?_)
    clear hK12
    refine wp_ret ?_
    refine then_ret ?_
    refine ret_in (results_2 Try.results33 (rv_tmp l4_13) (rv_tmp l5_13)) hdf13 ?_
    -- leaf T
    obtain ⟨c14, hc14, hS14⟩ := hS8.pnil (s := 2)
    have he : mgE l m = (ckN ([(cv, l), (dv, m)].map (·.2))) := (mgE_ck (by omega)).trans hn2.symm
    have ht : mgT l m = [] := by unfold mgT; rw [if_pos (by rw [he]; omega)]
    rw [he]
    exact ⟨_, rfl, (hS14.fin1 0 rfl (hc14.trans (by rw [ht] <;> rfl)))⟩
  · skip
    have hcl := ck_two (l := l) (m := m) (by omega)
    have hq1 := (ck_vals hcl.1).1
    have hq2 := (ck_vals hcl.2).1
    have hT2 : (ccF ([(cv, l), (dv, m)] : List RS)).length ≤ 10000 := by rw [hcc, List.length_append]; omega
    refine wp_skip ?_
    refine then_n (hK3 _ _ ?_)
    clear hK3
    refine wp_seq_k (fun K15 hK15 => ?_)
    refine region_in ?_
    refine W_mkMapS .i64 hS8 rfl rfl rfl (fun g16 w16 c16 hc16 hS16 => ?_)
    replace hc16 : c16 = mi (.map (some g16)) [] := hc16
    replace hS16 : St w NoX [c16] w16 := hS16
    refine W_v rfl rfl (V_asg rfl (et rfl)) ?_
    refine W_end ?_
    refine gen_Q (fun A17 hA17 => ?_)
    have hsz17 := szq hA17
    have hdf17 : A17.defers = [] := by rw [hA17]; simp only [df_put]; exact hdf10
    have l0_17 := lookE hA17 0 (es rfl (es rfl l0_10))
    have l1_17 := lookE hA17 1 (es rfl (es rfl l1_10))
    have l7_17 := lookE hA17 7 (et rfl)
    clear hA17 hsz10 hdf10 l0_10 l1_10 l6_10 l15_10
    refine then_n (hK15 _ _ ?_)
    clear hK15
    refine wp_seq_k (fun K18 hK18 => ?_)
    refine wp_seq_k (fun K19 hK19 => ?_)
    refine region_in ?_
    refine W_v rfl rfl (V_mov rfl l0_17) ?_
    refine W_v rfl rfl (V_mov rfl (es rfl l1_17)) ?_
    have hll20 : [cv, dv].length = 2 := rfl
    refine W_litS (vs := [cv, dv]) (xs := [cv, dv]) 1 hS16 rfl rfl rfl (parts2 (es rfl (et rfl)) (et rfl)) rfl Try.underlying88 (by kernel_rfl) (by decide) (by intro v hv; simp only [List.mem_cons, List.not_mem_nil, or_false] at hv; rcases hv with rfl | rfl <;> simp [SlN_cells (sl_SlN h_cv.at), SlN_cells (sl_SlN h_dv.at)]) (by simp [SlN_cells (sl_SlN h_cv.at), SlN_cells (sl_SlN h_dv.at)]) (fun g20 w20 c20 hc20 hS20 => ?_)
    replace hc20 : c20 = ow 1 [cv, dv].length (.slice (some ⟨g20, 0, none⟩) 2 2) [cv, dv] := hc20
    replace hS20 : St w NoX [c20, c16] w20 := hS20
    refine W_call rfl rfl rfl Try.func52 (by kernel_rfl) rfl (args1 (et rfl)) (kcc_c (us := [(cv, l), (dv, m)]) (hS20.chC 0 rfl hc20).own (nsr_two (hS20.roC h_cv) (hS20.roC h_dv)) (by first | with_reducible assumption | omega)) ?_
    rintro _ w21 ⟨v_21, rfl, hP21⟩
    refine ⟨_, rfl, ?_⟩
    obtain ⟨c_21, hc_21, hP21⟩ := gen1 hP21
    have hS21 := hS20.join hP21
    replace hS21 : St w NoX [c_21, c20, c16] w21 := hS21
    refine W_v rfl rfl (V_lenS rfl (et rfl) (ow_at (hS21.chq 0 rfl hc_21)) Try.underlying28) ?_
    refine W_v rfl rfl (V_mov rfl rfl) ?_
    refine W_end ?_
    refine gen_Q (fun A22 hA22 => ?_)
    have hsz22 := szq hA22
    have hdf22 : A22.defers = [] := by rw [hA22]; simp only [df_put]; exact hdf17
    have l7_22 := lookE hA22 7 (e5 rfl (es rfl l7_17))
    have l21_22 := lookE hA22 21 (e2 rfl (et rfl))
    have l22_22 := lookE hA22 22 (es rfl (et rfl))
    have l23_22 := lookE hA22 23 (et rfl)
    clear hA22 hsz17 hdf17 l0_17 l1_17 l7_17
    have hS23 : St w NoX [c_21, c16] w21 := hS21.sel [0, 2] (by decide) rfl
    refine then_n (hK19 _ _ ?_)
    clear hK19
    refine wp_block ?_
    -- loop 6
    refine loopX (fun mz A' w' => SzN A' 42 ∧ A'.defers = [] ∧ (∃ (k : Nat) (M : List (Int × Int)), (mz = (ccF ([(cv, l), (dv, m)] : List RS)).length - k) ∧ (k ≤ (ccF ([(cv, l), (dv, m)] : List RS)).length) ∧ (KM (ccF ([(cv, l), (dv, m)] : List RS)) k M) ∧ (EV A' (.tmp 23) = .int .i64 (k : Int)) ∧ (EV A' (.tmp 7) = EV A22 (.tmp 7)) ∧ (EV A' (.tmp 21) = EV A22 (.tmp 21)) ∧ (EV A' (.tmp 22) = EV A22 (.tmp 22)) ∧ (St w NoX [ro 2 rcC v_21 (ccF [(cv, l), (dv, m)]), mi (.map (some g16)) M] w'))) ((ccF ([(cv, l), (dv, m)] : List RS)).length - 0) ⟨hsz22, hdf22, 0, [], rfl, (by omega), (KM_0 _), ((l23_22).trans (by first | rfl | (simp; done) | (congr 1; omega))), rfl, rfl, rfl, (by have q0 := hc_21; have q1 : c16 = mi (.map (some g16)) [] := hc16.trans (rfl); subst q0 q1; exact hS23)⟩ ?_
    clear hS23 hc_21 hc16
    rintro n24 A24 w24 ⟨hsz24, hdf24, k, M, hm24, hk, hkm, l23_24, u7_24, u21_24, u22_24, hS24⟩
    have l7_24 := u7_24.trans l7_22
    have l21_24 := u21_24.trans l21_22
    have l22_24 := u22_24.trans l22_22
    obtain ⟨c_24, c16_24, hc_24, hc16_24, hS24⟩ := gen2 hS24
    refine wp_seq_k (fun K25 hK25 => ?_)
    refine region_in ?_
    refine W_v rfl rfl (V_lss rfl l23_24 l22_24) ?_
    refine W_end ?_
    refine gen_Q (fun A26 hA26 => ?_)
    have hsz26 := szq hA26
    have hdf26 : A26.defers = [] := by rw [hA26]; simp only [df_put]; exact hdf24
    have l7_26 := lookE hA26 7 (es rfl l7_24)
    have l21_26 := lookE hA26 21 (es rfl l21_24)
    have l22_26 := lookE hA26 22 (es rfl l22_24)
    have l23_26 := lookE hA26 23 (es rfl l23_24)
    have l24_26 := lookE hA26 24 (et rfl)
    clear hA26 hsz24 hdf24 l23_24 l7_24 l21_24 l22_24
    refine then_n (hK25 _ _ ?_)
    clear hK25
    refine wp_seq_k (fun K27 hK27 => ?_)
    refine cond_dec l24_26 (fun c28 => ?_) (fun c28 => ?_)
    · skip
      refine wp_skip ?_
      refine then_n (hK27 _ _ ?_)
      clear hK27
      refine wp_seq_k (fun K29 hK29 => ?_)
      refine wp_block ?_
      refine wp_seq_k (fun K30 hK30 => ?_)
      refine region_in ?_
      have k31 : k < (ccF [(cv, l), (dv, m)]).length := by first | omega | (simp only [List.length_cons, List.length_nil]; omega) | (simp only [List.length_set]; omega) | decide
      obtain ⟨y31, hy31⟩ := get_some (xs := (ccF [(cv, l), (dv, m)])) (k := k) k31
      have hb31 := app_pos hcl.1 hcl.2 (hcc ▸ List.mem_of_getElem? hy31)
      have hlk31 := KM_lk hkm y31.1
      have hml := hkm.len
      obtain ⟨B31, O31, C31, hv31⟩ := (SlN.blk (ow_at (hS24.chq 0 rfl hc_24)) (by first | omega | (simp only [List.length_cons, List.length_nil]; omega) | (simp only [List.length_set]; omega) | decide))
      refine W_v rfl rfl (V_ixS (off := O31 + k * 2) 2 (k) rfl l21_26 l23_26 hv31 (by omega) k31 Try.underlying28 (by kernel_rfl) rfl) ?_
      refine W_r rfl rfl (VR_ldR (ys := rcC y31) rfl (et rfl) (SlN.row rcC_len (ow_at (hS24.chq 0 rfl hc_24)) hv31 hy31 rfl) Try.underlying42 rfl (by kernel_rfl)) ?_
      refine W_allocS (z := .agg #[.int .i64 0, .int .i64 0]) (zs := #[.int .i64 0, .int .i64 0]) hS24 rfl rfl rfl (by kernel_rfl) (by rfl) (fun g32 w32 c32 hc32 hS32 => ?_)
      replace hS32 : St w NoX [c32, c_24, c16_24] w32 := hS32
      refine W_stAS 0 hS32 rfl hc32 rfl rfl rfl (et rfl) (es rfl (et rfl)) (by first | (rw [List.all_toArray] <;> rfl) | (simp only [List.all_toArray, List.all_cons, List.all_nil] <;> rfl)) (by rfl) (by kernel_rfl) (fun w33 c33 hc33 hS33 => ?_)
      replace hS33 : St w NoX [c33, c_24, c16_24] w33 := hS33
      refine W_end ?_
      refine gen_Q (fun A34 hA34 => ?_)
      have hsz34 := szq hA34
      have hdf34 : A34.defers = [] := by rw [hA34]; simp only [df_put]; exact hdf26
      have l7_34 := lookE hA34 7 (e2 rfl (es rfl l7_26))
      have l9_34 := lookE hA34 9 (et rfl)
      have l21_34 := lookE hA34 21 (e2 rfl (es rfl l21_26))
      have l22_34 := lookE hA34 22 (e2 rfl (es rfl l22_26))
      have l23_34 := lookE hA34 23 (e2 rfl (es rfl l23_26))
      clear hA34 hsz26 hdf26 l7_26 l21_26 l22_26 l23_26 l24_26
      refine then_n (hK30 _ _ ?_)
      clear hK30
      refine wp_seq_k (fun K35 hK35 => ?_)
      refine region_in ?_
      refine W_v rfl rfl (V_mov rfl l7_34) ?_
      refine W_v rfl rfl (V_fa (off' := 0) rfl (es rfl l9_34) Try.underlying42 rfl (by decide +kernel) rfl) ?_
      refine W_r rfl rfl (VR_ldC rfl (et rfl) (cell_box (v := .int .i64 (y31.1)) (hS33.obj 0 rfl hc33) rfl) Try.underlying3 rfl) ?_
      refine W_r rfl rfl (VR_look0I rfl (e2 rfl (et rfl)) (et rfl) (hS33.chq 2 rfl hc16_24) Try.underlying67 Try.underlying3 (by kernel_rfl)) ?_
      refine W_v rfl rfl (V_fa (off' := 1) rfl (e3 rfl (es rfl l9_34)) Try.underlying42 rfl (by decide +kernel) rfl) ?_
      refine W_r rfl rfl (VR_ldC rfl (et rfl) (cell_box (v := .int .i64 (y31.2)) (hS33.obj 0 rfl hc33) rfl) Try.underlying3 rfl) ?_
      refine W_v rfl rfl (V_add rfl (e2 rfl (et rfl)) (et rfl) (by omega) (by omega)) ?_
      refine W_mapSetI 2 hS33 rfl hc16_24 rfl rfl rfl rfl (e6 rfl (et rfl)) (e4 rfl (et rfl)) (et rfl) Try.underlying67 Try.underlying3 (fun w36 c36 hc36 hS36 => ?_)
      replace hc36 : c36 = mi (.map (some g16)) (kset M y31.1 ((lkN M y31.1) + y31.2)) := hc36
      replace hS36 : St w NoX [c33, c_24, c36] w36 := hS36
      refine W_end ?_
      refine gen_Q (fun A37 hA37 => ?_)
      have hsz37 := szq hA37
      have hdf37 : A37.defers = [] := by rw [hA37]; simp only [df_put]; exact hdf34
      have l7_37 := lookE hA37 7 (e6 rfl (es rfl l7_34))
      have l9_37 := lookE hA37 9 (e6 rfl (es rfl l9_34))
      have l21_37 := lookE hA37 21 (e6 rfl (es rfl l21_34))
      have l22_37 := lookE hA37 22 (e6 rfl (es rfl l22_34))
      have l23_37 := lookE hA37 23 (e6 rfl (es rfl l23_34))
      clear hA37 hsz34 hdf34 l7_34 l9_34 l21_34 l22_34 l23_34
      refine then_n (hK35 _ _ ?_)
      clear hK35
      refine wp_seq_k (fun K38 hK38 => ?_)
      refine region_in ?_
      refine W_v rfl rfl (V_mov rfl l7_37) ?_
      refine W_v rfl rfl (V_fa (off' := 0) rfl (es rfl l9_37) Try.underlying42 rfl (by decide +kernel) rfl) ?_
      refine W_r rfl rfl (VR_ldC rfl (et rfl) (cell_box (v := .int .i64 (y31.1)) (hS36.obj 0 rfl hc33) rfl) Try.underlying3 rfl) ?_
      refine W_r rfl rfl (VR_look0I rfl (e2 rfl (et rfl)) (et rfl) (hS36.chq 2 rfl hc36) Try.underlying67 Try.underlying3 (by kernel_rfl)) ?_
      refine W_v rfl rfl (V_gtr rfl (et rfl) rfl) ?_
      refine W_end ?_
      refine gen_Q (fun A39 hA39 => ?_)
      have hsz39 := szq hA39
      have hdf39 : A39.defers = [] := by rw [hA39]; simp only [df_put]; exact hdf37
      have l7_39 := lookE hA39 7 (e4 rfl (es rfl l7_37))
      have l21_39 := lookE hA39 21 (e4 rfl (es rfl l21_37))
      have l22_39 := lookE hA39 22 (e4 rfl (es rfl l22_37))
      have l23_39 := lookE hA39 23 (e4 rfl (es rfl l23_37))
      have l38_39 := lookE hA39 38 (et rfl)
      clear hA39 hsz37 hdf37 l7_37 l9_37 l21_37 l22_37 l23_37
      have hS40 : St w NoX [c_24, c36] w36 := hS36.sel [1, 2] (by decide) rfl
      refine then_n (hK38 _ _ ?_)
      clear hK38
      refine cond_dec l38_39 (fun c41 => ?_) (fun c41 => ?_)
      · skip
        refine wp_seq_k (fun K42 hK42 => ?_)
        refine region_in ?_
        refine W_v rfl rfl (V_asg rfl rfl) ?_
        refine W_v rfl rfl (V_asg rfl rfl) ?_
        refine W_end ?_
        refine gen_Q (fun A43 hA43 => ?_)
        have hsz43 := szq hA43
        have hdf43 : A43.defers = [] := by rw [hA43]; simp only [df_put]; exact hdf39
        have l4_43 := lookE hA43 4 (es rfl (et rfl))
        have l5_43 := lookE hA43 5 (et rfl)
        clear hA43 hsz39 hdf39 l7_39 l21_39 l22_39 l23_39 l38_39
        have hS44 : St w NoX [] w36 := hS40.sel [] (by decide) rfl
        refine then_n (hK42 _ _ ?_)
        clear hK42
        refine wp_ret ?_
        refine inb_ret ?_
        refine then_ret ?_
        refine then_ret ?_
        refine inb_ret ?_
        refine then_ret ?_
        refine ret_in (results_2 Try.results33 (rv_tmp l4_43) (rv_tmp l5_43)) hdf43 ?_
        -- leaf FTT
        obtain ⟨c45, hc45, hS45⟩ := hS44.pnil (s := 2)
        have he : mgE l m = 7 := KM_over hcl.1 hcl.2 (k := k + 1) (t := y31.1) (by rw [← hcc, ← KM_new hkm hy31]; omega)
        have ht : mgT l m = [] := by unfold mgT; rw [if_pos (by rw [he]; omega)]
        rw [he]
        exact ⟨_, rfl, (hS45.fin1 0 rfl (hc45.trans (by rw [ht] <;> rfl)))⟩
      · skip
        refine wp_skip ?_
        refine inb_n ?_
        refine then_n (hK29 _ _ ?_)
        clear hK29
        refine region_in ?_
        refine W_v rfl rfl (V_add rfl l23_39 rfl (by omega) (by omega)) ?_
        refine W_v rfl rfl (V_mov rfl (et rfl)) ?_
        refine W_end ?_
        refine gen_Q (fun A46 hA46 => ?_)
        have hsz46 := szq hA46
        have hdf46 : A46.defers = [] := by rw [hA46]; simp only [df_put]; exact hdf39
        have l7_46 := lookE hA46 7 (es rfl (es rfl l7_39))
        have l21_46 := lookE hA46 21 (es rfl (es rfl l21_39))
        have l22_46 := lookE hA46 22 (es rfl (es rfl l22_39))
        have l23_46 := lookE hA46 23 (et rfl)
        clear hA46 hsz39 hdf39 l7_39 l21_39 l22_39 l23_39 l38_39
        refine then_n ⟨(ccF ([(cv, l), (dv, m)] : List RS)).length - (k + 1), by simp only [hm24]; omega, hsz46, hdf46, (k + 1), (kset M y31.1 ((lkN M y31.1) + y31.2)), rfl, (by omega), (KM_step hkm hy31 (by omega) c41), ((l23_46).trans (by first | rfl | (simp; done) | (congr 1; omega))), ((l7_46).trans l7_22.symm), ((l21_46).trans l21_22.symm), ((l22_46).trans l22_22.symm), (by have q0 := hc_24; have q1 : c36 = mi (.map (some g16)) (kset M y31.1 ((lkN M y31.1) + y31.2)) := hc36.trans (rfl); subst q0 q1; exact hS40)⟩
    · skip
      have hml := hkm.len
      refine wp_exit ?_
      refine then_exit ?_
      refine then_exit ?_
      refine inb_hit ?_
      refine then_n (hK18 _ _ ?_)
      clear hK18
      refine wp_seq_k (fun K47 hK47 => ?_)
      refine region_in ?_
      refine W_v rfl rfl (V_mov rfl l7_26) ?_
      refine W_call rfl rfl rfl Try.func38 (by kernel_rfl) rfl (args1 (et rfl)) (kls_c (hS24.chC 1 rfl hc16_24) (by first | with_reducible assumption | omega)) ?_
      rintro _ w48 ⟨v1_48, rfl, hP48⟩
      refine ⟨_, rfl, ?_⟩
      obtain ⟨c_48, hc_48, hP48⟩ := gen1 hP48
      have hS48 := hS24.join hP48
      replace hS48 : St w NoX [c_48, c_24, c16_24] w48 := hS48
      refine W_v rfl rfl (V_asg rfl (et rfl)) ?_
      refine W_v rfl rfl (V_asg rfl rfl) ?_
      refine W_end ?_
      refine gen_Q (fun A49 hA49 => ?_)
      have hsz49 := szq hA49
      have hdf49 : A49.defers = [] := by rw [hA49]; simp only [df_put]; exact hdf26
      have l4_49 := lookE hA49 4 (es rfl (et rfl))
      have l5_49 := lookE hA49 5 (et rfl)
      clear hA49 hsz26 hdf26 l7_26 l21_26 l22_26 l23_26 l24_26
      have hS50 : St w NoX [c_48] w48 := hS48.sel [0] (by decide) rfl
      refine then_n (hK47 _ _ ?_)
      clear hK47
      refine wp_ret ?_
      refine ret_in (results_2 Try.results33 (rv_tmp l4_49) (rv_tmp l5_49)) hdf49 ?_
      -- leaf FF
      have hd := KM_done hcl.1 hcl.2 (hcc ▸ hkm) (by rw [← hcc]; omega)
      rw [hd.2]
      exact ⟨_, rfl, (hS50.fin1 0 rfl (hc_48.trans (congrArg (ro 2 rcC _) (by unfold mgT; rw [if_neg (by rw [hd.2]; omega), hd.1]))))⟩

end Go.Proofs.Ytnfgeekaeegolaa