import Derived.Test.YtnfgeekaeegolaaProg
import Derived.Test.YtnfgeekaeegolaaRc8
namespace Go.Proofs.Ytnfgeekaeegolaa
open Go.RowKit Go.Own Go.Own.R Go.Own.S Go.Own.F


set_option maxHeartbeats 4000000 in
theorem kCk9_c {cv : Value} {l : List (Int × Int)} {w : World} (h_cv : Ro w NoX (rl 2 rcC cv l))  :
    Calls Try.prog 27 #[cv] w fun e w' => e = .returned (.tuple #[.int .i64 (ckL l).1, .int .i64 (ckL l).2]) ∧ St w NoX [] w' := by
  refine calls_in 38 Try.func27 rfl rfl (by simp) (fun A0 hsz0 hdf0 hargs => ?_)
  have l0_0 := hargs 0 (cv) rfl
  clear hargs; replace hsz0 : SzN A0 38 := ⟨hsz0⟩
  have hS := St.nil w
  have bh_cv := SlN.le (sl_SlN h_cv.at)
  refine wp_seq_k (fun K1 hK1 => ?_)
  refine region_in ?_
  refine W_v rfl rfl (V_asg rfl rfl) ?_
  refine W_v rfl rfl (V_asg rfl rfl) ?_
  refine W_end ?_
  refine gen_Q (fun A2 hA2 => ?_)
  have hsz2 := szq hA2
  have hdf2 : A2.defers = [] := by rw [hA2]; simp only [df_put]; exact hdf0
  have l0_2 := lookE hA2 0 (es rfl (es rfl l0_0))
  clear hA2 hsz0 hdf0 l0_0
  refine then_n (hK1 _ _ ?_)
  clear hK1
  refine wp_seq_k (fun K3 hK3 => ?_)
  refine wp_seq_k (fun K4 hK4 => ?_)
  refine region_in ?_
  refine W_v rfl rfl (V_mov rfl l0_2) ?_
  refine W_v rfl rfl (V_lenS rfl (et rfl) (sl_SlN h_cv.at) Try.underlying28) ?_
  refine W_v rfl rfl (V_gtr rfl (et rfl) rfl) ?_
  refine W_end ?_
  refine gen_Q (fun A5 hA5 => ?_)
  have hsz5 := szq hA5
  have hdf5 : A5.defers = [] := by rw [hA5]; simp only [df_put]; exact hdf2
  have l0_5 := lookE hA5 0 (e2 rfl (es rfl l0_2))
  have l9_5 := lookE hA5 9 (et rfl)
  clear hA5 hsz2 hdf2 l0_2
  refine then_n (hK4 _ _ ?_)
  clear hK4
  refine cond_dec l9_5 (fun c6 => ?_) (fun c6 => ?_)
  · skip
    refine wp_seq_k (fun K7 hK7 => ?_)
    refine region_in ?_
    refine W_v rfl rfl (V_asg rfl rfl) ?_
    refine W_v rfl rfl (V_asg rfl rfl) ?_
    refine W_end ?_
    refine gen_Q (fun A8 hA8 => ?_)
    have hsz8 := szq hA8
    have hdf8 : A8.defers = [] := by rw [hA8]; simp only [df_put]; exact hdf5
    have l2_8 := lookE hA8 2 (es rfl (et rfl))
    have l3_8 := lookE hA8 3 (et rfl)
    clear hA8 hsz5 hdf5 l0_5 l9_5
    refine then_n (hK7 _ _ ?_)
    clear hK7
    refine wp_ret ?_
    refine then_ret ?_
    refine ret_in (results_2 Try.results27 (rv_tmp l2_8) (rv_tmp l3_8)) hdf8 ?_
    -- leaf T
    have hc := ckL_long c6
    rw [hc]
    exact ⟨rfl, hS.fin0⟩
  · skip
    refine wp_skip ?_
    refine then_n (hK3 _ _ ?_)
    clear hK3
    refine wp_seq_k (fun K9 hK9 => ?_)
    refine region_in ?_
    refine W_v rfl rfl (V_asg rfl rfl) ?_
    refine W_end ?_
    refine gen_Q (fun A10 hA10 => ?_)
    have hsz10 := szq hA10
    have hdf10 : A10.defers = [] := by rw [hA10]; simp only [df_put]; exact hdf5
    have l0_10 := lookE hA10 0 (es rfl l0_5)
    have l4_10 := lookE hA10 4 (et rfl)
    clear hA10 hsz5 hdf5 l0_5 l9_5
    refine then_n (hK9 _ _ ?_)
    clear hK9
    refine wp_seq_k (fun K11 hK11 => ?_)
    refine wp_seq_k (fun K12 hK12 => ?_)
    refine region_in ?_
    refine W_v rfl rfl (V_mov rfl l0_10) ?_
    refine W_v rfl rfl (V_lenS rfl (et rfl) (sl_SlN h_cv.at) Try.underlying28) ?_
    refine W_v rfl rfl (V_mov rfl rfl) ?_
    refine W_end ?_
    refine gen_Q (fun A13 hA13 => ?_)
    have hsz13 := szq hA13
    have hdf13 : A13.defers = [] := by rw [hA13]; simp only [df_put]; exact hdf10
    have l4_13 := lookE hA13 4 (e2 rfl (es rfl l4_10))
    have l10_13 := lookE hA13 10 (e2 rfl (et rfl))
    have l11_13 := lookE hA13 11 (es rfl (et rfl))
    have l12_13 := lookE hA13 12 (et rfl)
    clear hA13 hsz10 hdf10 l0_10 l4_10
    refine then_n (hK12 _ _ ?_)
    clear hK12
    refine wp_block ?_
    -- loop 5
    refine loopX (fun mz A' w' => SzN A' 38 ∧ A'.defers = [] ∧ (∃ (k : Nat), (mz = l.length - k) ∧ (k ≤ l.length) ∧ (ckL l = clGo (lst l k) (l.drop k) k) ∧ (EV A' (.tmp 12) = .int .i64 (k : Int)) ∧ (EV A' (.tmp 4) = .int .i64 (lst l k)) ∧ (EV A' (.tmp 10) = EV A13 (.tmp 10)) ∧ (EV A' (.tmp 11) = EV A13 (.tmp 11)) ∧ (St w NoX [] w'))) (l.length - 0) ⟨hsz13, hdf13, 0, rfl, (by omega), (ckL_init c6), ((l12_13).trans (by first | rfl | (simp; done) | (congr 1; omega))), ((l4_13).trans (rfl)), rfl, rfl, hS⟩ ?_
    clear hS
    rintro n14 A14 w14 ⟨hsz14, hdf14, k, hm14, hk, hz, l12_14, l4_14, u10_14, u11_14, hS14⟩
    have l10_14 := u10_14.trans l10_13
    have l11_14 := u11_14.trans l11_13
    refine wp_seq_k (fun K15 hK15 => ?_)
    refine region_in ?_
    refine W_v rfl rfl (V_lss rfl l12_14 l11_14) ?_
    refine W_end ?_
    refine gen_Q (fun A16 hA16 => ?_)
    have hsz16 := szq hA16
    have hdf16 : A16.defers = [] := by rw [hA16]; simp only [df_put]; exact hdf14
    have l4_16 := lookE hA16 4 (es rfl l4_14)
    have l10_16 := lookE hA16 10 (es rfl l10_14)
    have l11_16 := lookE hA16 11 (es rfl l11_14)
    have l12_16 := lookE hA16 12 (es rfl l12_14)
    have l13_16 := lookE hA16 13 (et rfl)
    clear hA16 hsz14 hdf14 l12_14 l4_14 l10_14 l11_14
    refine then_n (hK15 _ _ ?_)
    clear hK15
    refine wp_seq_k (fun K17 hK17 => ?_)
    refine cond_dec l13_16 (fun c18 => ?_) (fun c18 => ?_)
    · skip
      refine wp_skip ?_
      refine then_n (hK17 _ _ ?_)
      clear hK17
      refine wp_seq_k (fun K19 hK19 => ?_)
      refine wp_block ?_
      refine wp_seq_k (fun K20 hK20 => ?_)
      refine region_in ?_
      refine W_v rfl rfl (V_mov rfl l12_16) ?_
      have k21 : k < l.length := by first | omega | (simp only [List.length_cons, List.length_nil]; omega) | (simp only [List.length_set]; omega) | decide
      obtain ⟨y21, hy21⟩ := get_some (xs := l) (k := k) k21
      obtain ⟨B21, O21, C21, hv21⟩ := (SlN.blk (sl_SlN h_cv.at) (by first | omega | (simp only [List.length_cons, List.length_nil]; omega) | (simp only [List.length_set]; omega) | decide))
      refine W_v rfl rfl (V_ixS (off := O21 + k * 2) 2 (k) rfl (es rfl l10_16) (es rfl l12_16) hv21 (by omega) k21 Try.underlying28 (by kernel_rfl) rfl) ?_
      refine W_r rfl rfl (VR_ldR (ys := rcC y21) rfl (et rfl) (SlN.row rcC_len (sl_SlN (hS14.ro h_cv)) hv21 hy21 rfl) Try.underlying42 rfl (by kernel_rfl)) ?_
      refine W_allocS (z := .agg #[.int .i64 0, .int .i64 0]) (zs := #[.int .i64 0, .int .i64 0]) hS14 rfl rfl rfl (by kernel_rfl) (by rfl) (fun g22 w22 c22 hc22 hS22 => ?_)
      replace hS22 : St w NoX [c22] w22 := hS22
      refine W_v rfl rfl (V_asg rfl (e3 rfl (et rfl))) ?_
      refine W_stAS 0 hS22 rfl hc22 rfl rfl rfl (es rfl (et rfl)) (e2 rfl (et rfl)) (by first | (rw [List.all_toArray] <;> rfl) | (simp only [List.all_toArray, List.all_cons, List.all_nil] <;> rfl)) (by rfl) (by kernel_rfl) (fun w23 c23 hc23 hS23 => ?_)
      replace hS23 : St w NoX [c23] w23 := hS23
      refine W_end ?_
      refine gen_Q (fun A24 hA24 => ?_)
      have hsz24 := szq hA24
      have hdf24 : A24.defers = [] := by rw [hA24]; simp only [df_put]; exact hdf16
      have l4_24 := lookE hA24 4 (e4 rfl (es rfl l4_16))
      have l5_24 := lookE hA24 5 (et rfl)
      have l6_24 := lookE hA24 6 (es rfl (et rfl))
      have l10_24 := lookE hA24 10 (e4 rfl (es rfl l10_16))
      have l11_24 := lookE hA24 11 (e4 rfl (es rfl l11_16))
      have l12_24 := lookE hA24 12 (e4 rfl (es rfl l12_16))
      clear hA24 hsz16 hdf16 l4_16 l10_16 l11_16 l12_16 l13_16
      refine then_n (hK20 _ _ ?_)
      clear hK20
      refine wp_seq_k (fun K25 hK25 => ?_)
      refine wp_block ?_
      refine wp_seq_k (fun K26 hK26 => ?_)
      refine region_in ?_
      refine W_v rfl rfl (V_fa (off' := 0) rfl l6_24 Try.underlying42 rfl (by decide +kernel) rfl) ?_
      refine W_r rfl rfl (VR_ldC rfl (et rfl) (cell_box (v := .int .i64 (y21.1)) (hS23.obj 0 rfl hc23) rfl) Try.underlying3 rfl) ?_
      refine W_call rfl rfl rfl Try.func41 (by kernel_rfl) rfl (args1 (et rfl)) (kkn_c (a := y21.1)  ) ?_
      rintro _ w27 ⟨rfl, hP27⟩
      refine ⟨_, rfl, ?_⟩
      have hS27 := hS23.join hP27
      replace hS27 : St w NoX [c23] w27 := hS27
      refine W_v rfl rfl (V_notd rfl (et rfl)) ?_
      refine W_split rfl rfl (V_mov rfl (et rfl)) (fun c28 => ?_) (fun c28 => ?_)
      · skip
        refine W_off rfl (wanted_f rfl rfl (et rfl) (ez rfl) rfl) ?_
        refine W_off rfl (wanted_f rfl rfl (es rfl (et rfl)) (ez rfl) rfl) ?_
        refine W_off rfl (wanted_f rfl rfl (e2 rfl (et rfl)) (ez rfl) rfl) ?_
        refine W_off rfl (wanted_f rfl rfl (e3 rfl (et rfl)) (ez rfl) rfl) ?_
        refine W_v rfl rfl (V_pickT rfl (e4 rfl (et rfl)) rfl) ?_
        refine W_v rfl rfl (V_asg rfl (et rfl)) ?_
        refine W_end ?_
        refine gen_Q (fun A29 hA29 => ?_)
        have hsz29 := szq hA29
        have hdf29 : A29.defers = [] := by rw [hA29]; simp only [df_put]; exact hdf24
        have l4_29 := lookE hA29 4 (e10 rfl (es rfl l4_24))
        have l5_29 := lookE hA29 5 (e10 rfl (es rfl l5_24))
        have l6_29 := lookE hA29 6 (e10 rfl (es rfl l6_24))
        have l10_29 := lookE hA29 10 (e10 rfl (es rfl l10_24))
        have l11_29 := lookE hA29 11 (e10 rfl (es rfl l11_24))
        have l12_29 := lookE hA29 12 (e10 rfl (es rfl l12_24))
        have l17_29 := lookE hA29 17 (et rfl)
        have l23_29 := lookE hA29 23 (e5 rfl (et rfl))
        have l24_29 := lookE hA29 24 (e4 rfl (et rfl))
        have l25_29 := lookE hA29 25 (e3 rfl (et rfl))
        have l26_29 := lookE hA29 26 (e2 rfl (et rfl))
        clear hA29 hsz24 hdf24 l4_24 l5_24 l6_24 l10_24 l11_24 l12_24
        refine then_n (hK26 _ _ ?_)
        clear hK26
        refine cond_t l17_29 ?_
        refine wp_seq_k (fun K30 hK30 => ?_)
        refine region_in ?_
        refine W_v rfl rfl (V_mov rfl l5_29) ?_
        refine W_v rfl rfl (V_asg rfl (et rfl)) ?_
        refine W_v rfl rfl (V_asg rfl rfl) ?_
        refine W_end ?_
        refine gen_Q (fun A31 hA31 => ?_)
        have hsz31 := szq hA31
        have hdf31 : A31.defers = [] := by rw [hA31]; simp only [df_put]; exact hdf29
        have l2_31 := lookE hA31 2 (es rfl (et rfl))
        have l3_31 := lookE hA31 3 (et rfl)
        clear hA31 hsz29 hdf29 l4_29 l5_29 l6_29 l10_29 l11_29 l12_29 l17_29 l23_29 l24_29 l25_29 l26_29
        have hS32 : St w NoX [] w27 := hS27.sel [] (by decide) rfl
        refine then_n (hK30 _ _ ?_)
        clear hK30
        refine wp_ret ?_
        refine inb_ret ?_
        refine then_ret ?_
        refine inb_ret ?_
        refine then_ret ?_
        refine then_ret ?_
        refine inb_ret ?_
        refine then_ret ?_
        refine ret_in (results_2 Try.results27 (rv_tmp l2_31) (rv_tmp l3_31)) hdf31 ?_
        -- leaf FTT
        have hc := cl_rng hz hy21 (by unfold okC; omega)
        rw [hc]
        exact ⟨rfl, hS32.fin0⟩
      · skip
        refine W_v rfl (wanted_t rfl rfl (et rfl) (ez rfl)) (V_fa (off' := 1) rfl (e4 rfl (es rfl l6_24)) Try.underlying42 rfl (by decide +kernel) rfl) ?_
        refine W_r rfl (wanted_t rfl rfl (es rfl (et rfl)) (ez rfl)) (VR_ldC rfl (et rfl) (cell_box (v := .int .i64 (y21.2)) (hS27.obj 0 rfl hc23) rfl) Try.underlying3 rfl) ?_
        refine W_call rfl (wanted_t rfl rfl (e2 rfl (et rfl)) (ez rfl)) rfl Try.func41 (by kernel_rfl) rfl (args1 (et rfl)) (kkn_c (a := y21.2)  ) ?_
        rintro _ w33 ⟨rfl, hP33⟩
        refine ⟨_, rfl, ?_⟩
        have hS33 := hS27.join hP33
        replace hS33 : St w NoX [c23] w33 := hS33
        refine W_v rfl (wanted_t rfl rfl (e3 rfl (et rfl)) (ez rfl)) (V_notd rfl (et rfl)) ?_
        refine W_v rfl rfl (V_pickF rfl (e4 rfl (et rfl)) (et rfl)) ?_
        refine W_v rfl rfl (V_asg rfl (et rfl)) ?_
        refine W_end ?_
        refine gen_Q (fun A34 hA34 => ?_)
        have hsz34 := szq hA34
        have hdf34 : A34.defers = [] := by rw [hA34]; simp only [df_put]; exact hdf24
        have l4_34 := lookE hA34 4 (e10 rfl (es rfl l4_24))
        have l5_34 := lookE hA34 5 (e10 rfl (es rfl l5_24))
        have l6_34 := lookE hA34 6 (e10 rfl (es rfl l6_24))
        have l10_34 := lookE hA34 10 (e10 rfl (es rfl l10_24))
        have l11_34 := lookE hA34 11 (e10 rfl (es rfl l11_24))
        have l12_34 := lookE hA34 12 (e10 rfl (es rfl l12_24))
        have l17_34 := lookE hA34 17 (et rfl)
        have l23_34 := lookE hA34 23 (e5 rfl (et rfl))
        have l24_34 := lookE hA34 24 (e4 rfl (et rfl))
        have l25_34 := lookE hA34 25 (e3 rfl (et rfl))
        have l26_34 := lookE hA34 26 (e2 rfl (et rfl))
        clear hA34 hsz24 hdf24 l4_24 l5_24 l6_24 l10_24 l11_24 l12_24
        refine then_n (hK26 _ _ ?_)
        clear hK26
        refine cond_dec l17_34 (fun c35 => ?_) (fun c35 => ?_)
        · skip
          refine wp_seq_k (fun K36 hK36 => ?_)
          refine region_in ?_
          refine W_v rfl rfl (V_mov rfl l5_34) ?_
          refine W_v rfl rfl (V_asg rfl (et rfl)) ?_
          refine W_v rfl rfl (V_asg rfl rfl) ?_
          refine W_end ?_
          refine gen_Q (fun A37 hA37 => ?_)
          have hsz37 := szq hA37
          have hdf37 : A37.defers = [] := by rw [hA37]; simp only [df_put]; exact hdf34
          have l2_37 := lookE hA37 2 (es rfl (et rfl))
          have l3_37 := lookE hA37 3 (et rfl)
          clear hA37 hsz34 hdf34 l4_34 l5_34 l6_34 l10_34 l11_34 l12_34 l17_34 l23_34 l24_34 l25_34 l26_34
          have hS38 : St w NoX [] w33 := hS33.sel [] (by decide) rfl
          refine then_n (hK36 _ _ ?_)
          clear hK36
          refine wp_ret ?_
          refine inb_ret ?_
          refine then_ret ?_
          refine inb_ret ?_
          refine then_ret ?_
          refine then_ret ?_
          refine inb_ret ?_
          refine then_ret ?_
          refine ret_in (results_2 Try.results27 (rv_tmp l2_37) (rv_tmp l3_37)) hdf37 ?_
          -- leaf FTFT
          have hc := cl_rng hz hy21 (by unfold okC; omega)
          rw [hc]
          exact ⟨rfl, hS38.fin0⟩
        · skip
          refine wp_seq_k (fun K39 hK39 => ?_)
          refine region_in ?_
          refine W_v rfl rfl (V_fa (off' := 0) rfl l6_34 Try.underlying42 rfl (by decide +kernel) rfl) ?_
          refine W_r rfl rfl (VR_ldC rfl (et rfl) (cell_box (v := .int .i64 (y21.1)) (hS33.obj 0 rfl hc23) rfl) Try.underlying3 rfl) ?_
          refine W_v rfl rfl (V_mov rfl (es rfl (es rfl l4_34))) ?_
          refine W_v rfl rfl (V_leq rfl (es rfl (et rfl)) (et rfl)) ?_
          refine W_v rfl rfl (V_asg rfl (et rfl)) ?_
          refine W_end ?_
          refine gen_Q (fun A40 hA40 => ?_)
          have hsz40 := szq hA40
          have hdf40 : A40.defers = [] := by rw [hA40]; simp only [df_put]; exact hdf34
          have l5_40 := lookE hA40 5 (e4 rfl (es rfl l5_34))
          have l6_40 := lookE hA40 6 (e4 rfl (es rfl l6_34))
          have l10_40 := lookE hA40 10 (e4 rfl (es rfl l10_34))
          have l11_40 := lookE hA40 11 (e4 rfl (es rfl l11_34))
          have l12_40 := lookE hA40 12 (e4 rfl (es rfl l12_34))
          have l23_40 := lookE hA40 23 (e4 rfl (es rfl l23_34))
          have l24_40 := lookE hA40 24 (e4 rfl (es rfl l24_34))
          have l25_40 := lookE hA40 25 (e4 rfl (es rfl l25_34))
          have l26_40 := lookE hA40 26 (e4 rfl (es rfl l26_34))
          have l29_40 := lookE hA40 29 (et rfl)
          clear hA40 hsz34 hdf34 l4_34 l5_34 l6_34 l10_34 l11_34 l12_34 l17_34 l23_34 l24_34 l25_34 l26_34
          refine then_n (hK39 _ _ ?_)
          clear hK39
          refine cond_dec l29_40 (fun c41 => ?_) (fun c41 => ?_)
          · skip
            refine wp_seq_k (fun K42 hK42 => ?_)
            refine region_in ?_
            refine W_v rfl rfl (V_mov rfl l5_40) ?_
            refine W_v rfl rfl (V_asg rfl (et rfl)) ?_
            refine W_v rfl rfl (V_asg rfl rfl) ?_
            refine W_end ?_
            refine gen_Q (fun A43 hA43 => ?_)
            have hsz43 := szq hA43
            have hdf43 : A43.defers = [] := by rw [hA43]; simp only [df_put]; exact hdf40
            have l2_43 := lookE hA43 2 (es rfl (et rfl))
            have l3_43 := lookE hA43 3 (et rfl)
            clear hA43 hsz40 hdf40 l5_40 l6_40 l10_40 l11_40 l12_40 l23_40 l24_40 l25_40 l26_40 l29_40
            have hS44 : St w NoX [] w33 := hS33.sel [] (by decide) rfl
            refine then_n (hK42 _ _ ?_)
            clear hK42
            refine wp_ret ?_
            refine inb_ret ?_
            refine then_ret ?_
            refine inb_ret ?_
            refine then_ret ?_
            refine then_ret ?_
            refine inb_ret ?_
            refine then_ret ?_
            refine ret_in (results_2 Try.results27 (rv_tmp l2_43) (rv_tmp l3_43)) hdf43 ?_
            -- leaf FTFFT
            have hc := cl_form hz hy21 (by unfold okC; omega) (by omega)
            rw [hc]
            exact ⟨rfl, hS44.fin0⟩
          · skip
            refine wp_skip ?_
            refine inb_n ?_
            refine then_n (hK25 _ _ ?_)
            clear hK25
            refine region_in ?_
            refine W_v rfl rfl (V_fa (off' := 0) rfl l6_40 Try.underlying42 rfl (by decide +kernel) rfl) ?_
            refine W_r rfl rfl (VR_ldC rfl (et rfl) (cell_box (v := .int .i64 (y21.1)) (hS33.obj 0 rfl hc23) rfl) Try.underlying3 rfl) ?_
            refine W_v rfl rfl (V_asg rfl (et rfl)) ?_
            refine W_end ?_
            refine gen_Q (fun A45 hA45 => ?_)
            have hsz45 := szq hA45
            have hdf45 : A45.defers = [] := by rw [hA45]; simp only [df_put]; exact hdf40
            have l4_45 := lookE hA45 4 (et rfl)
            have l10_45 := lookE hA45 10 (e2 rfl (es rfl l10_40))
            have l11_45 := lookE hA45 11 (e2 rfl (es rfl l11_40))
            have l12_45 := lookE hA45 12 (e2 rfl (es rfl l12_40))
            have l23_45 := lookE hA45 23 (e2 rfl (es rfl l23_40))
            have l24_45 := lookE hA45 24 (e2 rfl (es rfl l24_40))
            have l25_45 := lookE hA45 25 (e2 rfl (es rfl l25_40))
            have l26_45 := lookE hA45 26 (e2 rfl (es rfl l26_40))
            clear hA45 hsz40 hdf40 l5_40 l6_40 l10_40 l11_40 l12_40 l23_40 l24_40 l25_40 l26_40 l29_40
            refine inb_n ?_
            refine then_n (hK19 _ _ ?_)
            clear hK19
            refine region_in ?_
            refine W_v rfl rfl (V_add rfl l12_45 rfl (by omega) (by omega)) ?_
            refine W_v rfl rfl (V_mov rfl (et rfl)) ?_
            refine W_end ?_
            refine gen_Q (fun A46 hA46 => ?_)
            have hsz46 := szq hA46
            have hdf46 : A46.defers = [] := by rw [hA46]; simp only [df_put]; exact hdf45
            have l4_46 := lookE hA46 4 (es rfl (es rfl l4_45))
            have l10_46 := lookE hA46 10 (es rfl (es rfl l10_45))
            have l11_46 := lookE hA46 11 (es rfl (es rfl l11_45))
            have l12_46 := lookE hA46 12 (et rfl)
            have l23_46 := lookE hA46 23 (es rfl (es rfl l23_45))
            have l24_46 := lookE hA46 24 (es rfl (es rfl l24_45))
            have l25_46 := lookE hA46 25 (es rfl (es rfl l25_45))
            have l26_46 := lookE hA46 26 (es rfl (es rfl l26_45))
            clear hA46 hsz45 hdf45 l4_45 l10_45 l11_45 l12_45 l23_45 l24_45 l25_45 l26_45
            have hS47 : St w NoX [] w33 := hS33.sel [] (by decide) rfl
            refine then_n ⟨l.length - (k + 1), by simp only [hm14]; omega, hsz46, hdf46, (k + 1), rfl, (by omega), (cl_step hz hy21 (by unfold okC; omega) (by omega)), ((l12_46).trans (by first | rfl | (simp; done) | (congr 1; omega))), ((l4_46).trans ((by rw [lst_succ hy21]))), ((l10_46).trans l10_13.symm), ((l11_46).trans l11_13.symm), hS47⟩
    · skip
      refine wp_exit ?_
      refine then_exit ?_
      refine then_exit ?_
      refine inb_hit ?_
      refine then_n (hK11 _ _ ?_)
      clear hK11
      refine wp_seq_k (fun K48 hK48 => ?_)
      refine region_in ?_
      refine W_v rfl rfl (V_asg rfl rfl) ?_
      refine W_v rfl rfl (V_asg rfl rfl) ?_
      refine W_end ?_
      refine gen_Q (fun A49 hA49 => ?_)
      have hsz49 := szq hA49
      have hdf49 : A49.defers = [] := by rw [hA49]; simp only [df_put]; exact hdf16
      have l2_49 := lookE hA49 2 (es rfl (et rfl))
      have l3_49 := lookE hA49 3 (et rfl)
      clear hA49 hsz16 hdf16 l4_16 l10_16 l11_16 l12_16 l13_16
      refine then_n (hK48 _ _ ?_)
      clear hK48
      refine wp_ret ?_
      refine ret_in (results_2 Try.results27 (rv_tmp l2_49) (rv_tmp l3_49)) hdf49 ?_
      -- leaf FF
      have hc := cl_done hz (by omega)
      rw [hc]
      exact ⟨rfl, hS14.fin0⟩

set_option maxHeartbeats 4000000 in
theorem qpp_c {cv : Value} {l : List (Int × Int)} {q : Int} {w : World} (h_cv : Ro w NoX (rl 2 rcC cv l))  :
    Calls Try.prog 29 #[cv, .int .i64 q] w fun e w' => ∃ v, e = .returned (.tuple #[v, .int .i64 (ppE l q)]) ∧ St w NoX [io .i64 (v) (ppT l q)] w' := by
  refine calls_in 47 Try.func29 rfl rfl (by simp) (fun A0 hsz0 hdf0 hargs => ?_)
  have l0_0 := hargs 0 (cv) rfl
  have l1_0 := hargs 1 (.int .i64 q) rfl
  clear hargs; replace hsz0 : SzN A0 47 := ⟨hsz0⟩
  have hS := St.nil w
  have bh_cv := SlN.le (sl_SlN h_cv.at)
  refine wp_seq_k (fun K1 hK1 => ?_)
  refine region_in ?_
  refine W_v rfl rfl (V_asg rfl rfl) ?_
  refine W_v rfl rfl (V_asg rfl rfl) ?_
  refine W_end ?_
  refine gen_Q (fun A2 hA2 => ?_)
  have hsz2 := szq hA2
  have hdf2 : A2.defers = [] := by rw [hA2]; simp only [df_put]; exact hdf0
  have l0_2 := lookE hA2 0 (es rfl (es rfl l0_0))
  have l1_2 := lookE hA2 1 (es rfl (es rfl l1_0))
  clear hA2 hsz0 hdf0 l0_0 l1_0
  refine then_n (hK1 _ _ ?_)
  clear hK1
  refine wp_seq_k (fun K3 hK3 => ?_)
  refine region_in ?_
  refine W_v rfl rfl (V_mov rfl l0_2) ?_
  refine W_call rfl rfl rfl Try.func28 (by kernel_rfl) rfl (args1 (et rfl)) (qCk9_c (hS.roC h_cv) ) ?_
  rintro _ w4 ⟨rfl, hP4⟩
  refine ⟨_, rfl, ?_⟩
  have hS4 := hS.join hP4
  replace hS4 : St w NoX [] w4 := hS4
  refine W_v rfl rfl (V_mov rfl (et rfl)) ?_
  refine W_v rfl rfl (V_ext (v := .int .i64 ((ckL l).1)) rfl (et rfl) rfl) ?_
  refine W_v rfl rfl (V_ext (v := .int .i64 ((ckL l).2)) rfl (es rfl (et rfl)) rfl) ?_
  refine W_v rfl rfl (V_asg rfl (es rfl (et rfl))) ?_
  refine W_v rfl rfl (V_asg rfl (es rfl (et rfl))) ?_
  refine W_end ?_
  refine gen_Q (fun A5 hA5 => ?_)
  have hsz5 := szq hA5
  have hdf5 : A5.defers = [] := by rw [hA5]; simp only [df_put]; exact hdf2
  have l0_5 := lookE hA5 0 (e6 rfl (es rfl l0_2))
  have l1_5 := lookE hA5 1 (e6 rfl (es rfl l1_2))
  have l7_5 := lookE hA5 7 (et rfl)
  clear hA5 hsz2 hdf2 l0_2 l1_2
  refine then_n (hK3 _ _ ?_)
  clear hK3
  refine wp_seq_k (fun K6 hK6 => ?_)
  refine wp_seq_k (fun K7 hK7 => ?_)
  refine region_in ?_
  refine W_v rfl rfl (V_mov rfl l7_5) ?_
  refine W_v rfl rfl (V_eql rfl (et rfl) rfl) ?_
  refine W_split rfl rfl (V_mov rfl (et rfl)) (fun c8 => ?_) (fun c8 => ?_)
  · skip
    refine W_v rfl (wanted_t rfl rfl (et rfl) (ez rfl)) (V_mov rfl (e2 rfl (es rfl l1_5))) ?_
    refine W_call rfl (wanted_t rfl rfl (es rfl (et rfl)) (ez rfl)) rfl Try.func42 (by kernel_rfl) rfl (args1 (et rfl)) (qkn_c (a := q)  ) ?_
    rintro _ w9 ⟨rfl, hP9⟩
    refine ⟨_, rfl, ?_⟩
    have hS9 := hS4.join hP9
    replace hS9 : St w NoX [] w9 := hS9
    refine W_v rfl (wanted_t rfl rfl (e2 rfl (et rfl)) (ez rfl)) (V_notd rfl (et rfl)) ?_
    refine W_v rfl rfl (V_pickT rfl (e3 rfl (et rfl)) (et rfl)) ?_
    refine W_end ?_
    refine gen_Q (fun A10 hA10 => ?_)
    have hsz10 := szq hA10
    have hdf10 : A10.defers = [] := by rw [hA10]; simp only [df_put]; exact hdf5
    have l0_10 := lookE hA10 0 (e6 rfl (es rfl l0_5))
    have l1_10 := lookE hA10 1 (e6 rfl (es rfl l1_5))
    have l7_10 := lookE hA10 7 (e6 rfl (es rfl l7_5))
    have l21_10 := lookE hA10 21 (et rfl)
    clear hA10 hsz5 hdf5 l0_5 l1_5 l7_5
    refine then_n (hK7 _ _ ?_)
    clear hK7
    refine cond_dec l21_10 (fun c11 => ?_) (fun c11 => ?_)
    · skip
      refine region_in ?_
      refine W_v rfl rfl (V_asg rfl rfl) ?_
      refine W_end ?_
      refine gen_Q (fun A12 hA12 => ?_)
      have hsz12 := szq hA12
      have hdf12 : A12.defers = [] := by rw [hA12]; simp only [df_put]; exact hdf10
      have l0_12 := lookE hA12 0 (es rfl l0_10)
      have l1_12 := lookE hA12 1 (es rfl l1_10)
      have l7_12 := lookE hA12 7 (et rfl)
      clear hA12 hsz10 hdf10 l0_10 l1_10 l7_10 l21_10
      refine then_n (hK6 _ _ ?_)
      clear hK6
      refine wp_seq_k (fun K13 hK13 => ?_)
      refine wp_seq_k (fun K14 hK14 => ?_)
      refine region_in ?_
      refine W_v rfl rfl (V_mov rfl l7_12) ?_
      refine W_v rfl rfl (V_neq rfl (et rfl) rfl) ?_
      refine W_end ?_
      refine gen_Q (fun A15 hA15 => ?_)
      have hsz15 := szq hA15
      have hdf15 : A15.defers = [] := by rw [hA15]; simp only [df_put]; exact hdf12
      have l0_15 := lookE hA15 0 (es rfl (es rfl l0_12))
      have l1_15 := lookE hA15 1 (es rfl (es rfl l1_12))
      have l7_15 := lookE hA15 7 (es rfl (es rfl l7_12))
      have l23_15 := lookE hA15 23 (et rfl)
      clear hA15 hsz12 hdf12 l0_12 l1_12 l7_12
      refine then_n (hK14 _ _ ?_)
      clear hK14
      refine cond_sure l23_15 (by decide) ?_
      refine wp_seq_k (fun K16 hK16 => ?_)
      refine region_in ?_
      refine W_v rfl rfl (V_mov rfl l7_15) ?_
      refine W_v rfl rfl (V_asg rfl rfl) ?_
      refine W_v rfl rfl (V_asg rfl (es rfl (et rfl))) ?_
      refine W_end ?_
      refine gen_Q (fun A17 hA17 => ?_)
      have hsz17 := szq hA17
      have hdf17 : A17.defers = [] := by rw [hA17]; simp only [df_put]; exact hdf15
      have l4_17 := lookE hA17 4 (es rfl (et rfl))
      have l5_17 := lookE hA17 5 (et rfl)
      clear hA17 hsz15 hdf15 l0_15 l1_15 l7_15 l23_15
      refine then_n (hK16 _ _ ?_)
      clear hK16
      refine wp_ret ?_
      refine then_ret ?_
      refine ret_in (results_2 Try.results29 (rv_tmp l4_17) (rv_tmp l5_17)) hdf17 ?_
      -- leaf TT
      obtain ⟨c18, hc18, hS18⟩ := hS9.pnil (s := 1)
      have he : ppE l q = 7 := by unfold ppE; rw [if_neg (by omega), if_neg (by omega)]
      have ht : ppT l q = [] := by unfold ppT; rw [if_pos (by rw [he]; omega)]
      rw [he]
      exact ⟨_, rfl, (hS18.fin1 0 rfl (hc18.trans (by rw [show ppT l q = [] by rw [ht]] <;> rfl)))⟩
    · skip
      have hck := ckL_iff.1 (show (ckL l).2 = 0 by omega)
      have hckl := hck.1
      refine wp_skip ?_
      refine then_n (hK6 _ _ ?_)
      clear hK6
      refine wp_seq_k (fun K19 hK19 => ?_)
      refine wp_seq_k (fun K20 hK20 => ?_)
      refine region_in ?_
      refine W_v rfl rfl (V_mov rfl l7_10) ?_
      refine W_v rfl rfl (V_neq rfl (et rfl) rfl) ?_
      refine W_end ?_
      refine gen_Q (fun A21 hA21 => ?_)
      have hsz21 := szq hA21
      have hdf21 : A21.defers = [] := by rw [hA21]; simp only [df_put]; exact hdf10
      have l0_21 := lookE hA21 0 (es rfl (es rfl l0_10))
      have l1_21 := lookE hA21 1 (es rfl (es rfl l1_10))
      have l7_21 := lookE hA21 7 (es rfl (es rfl l7_10))
      have l23_21 := lookE hA21 23 (et rfl)
      clear hA21 hsz10 hdf10 l0_10 l1_10 l7_10 l21_10
      refine then_n (hK20 _ _ ?_)
      clear hK20
      refine cond_not l23_21 (by first | (simp [c8]; done) | exact decide_eq_true (by omega) | exact decide_eq_false (by omega)) ?_
      refine wp_skip ?_
      refine then_n (hK19 _ _ ?_)
      clear hK19
      refine wp_seq_k (fun K22 hK22 => ?_)
      refine region_in ?_
      refine W_v rfl rfl (V_asg rfl rfl) ?_
      refine W_end ?_
      refine gen_Q (fun A23 hA23 => ?_)
      have hsz23 := szq hA23
      have hdf23 : A23.defers = [] := by rw [hA23]; simp only [df_put]; exact hdf21
      have l0_23 := lookE hA23 0 (es rfl l0_21)
      have l1_23 := lookE hA23 1 (es rfl l1_21)
      have l8_23 := lookE hA23 8 (et rfl)
      clear hA23 hsz21 hdf21 l0_21 l1_21 l7_21 l23_21
      refine then_n (hK22 _ _ ?_)
      clear hK22
      refine wp_seq_k (fun K24 hK24 => ?_)
      refine wp_seq_k (fun K25 hK25 => ?_)
      refine region_in ?_
      refine W_v rfl rfl (V_asg rfl rfl) ?_
      refine W_end ?_
      refine gen_Q (fun A26 hA26 => ?_)
      have hsz26 := szq hA26
      have hdf26 : A26.defers = [] := by rw [hA26]; simp only [df_put]; exact hdf23
      have l0_26 := lookE hA26 0 (es rfl l0_23)
      have l1_26 := lookE hA26 1 (es rfl l1_23)
      have l8_26 := lookE hA26 8 (es rfl l8_23)
      have l9_26 := lookE hA26 9 (et rfl)
      clear hA26 hsz23 hdf23 l0_23 l1_23 l8_23
      refine then_n (hK25 _ _ ?_)
      clear hK25
      refine wp_block ?_
      obtain ⟨c27, hc27, hS27⟩ := hS9.pnil (s := 1)
      -- loop 8
      refine loopX (fun mz A' w' => SzN A' 47 ∧ A'.defers = [] ∧ (∃ (k : Nat) (bv : Value), (mz = l.length - k) ∧ (k ≤ l.length) ∧ (EV A' (.tmp 9) = .int .i64 (k : Int)) ∧ (EV A' (.tmp 8) = bv) ∧ (EV A' (.tmp 0) = EV A26 (.tmp 0)) ∧ (EV A' (.tmp 1) = EV A26 (.tmp 1)) ∧ (St w NoX [io .i64 bv (ppF (l.take k) q)] w'))) (l.length - 0) ⟨hsz26, hdf26, 0, (.slice none 0 0), rfl, (by omega), ((l9_26).trans (by first | rfl | (simp; done) | (congr 1; omega))), ((l8_26).trans (by first | rfl | (simp; done) | (congr 1; omega))), rfl, rfl, (by have q0 : c27 = io .i64 (.slice none 0 0) (ppF (l.take 0) q) := hc27.trans (rfl); subst q0; exact hS27)⟩ ?_
      clear hS27 hc27
      rintro n28 A28 w28 ⟨hsz28, hdf28, k, bv, hm28, hk, l9_28, l8_28, u0_28, u1_28, hS28⟩
      have l0_28 := u0_28.trans l0_26
      have l1_28 := u1_28.trans l1_26
      obtain ⟨c27_28, hc27_28, hS28⟩ := gen1 hS28
      refine wp_seq_k (fun K29 hK29 => ?_)
      refine wp_seq_k (fun K30 hK30 => ?_)
      refine region_in ?_
      refine W_v rfl rfl (V_mov rfl l9_28) ?_
      refine W_v rfl rfl (V_mov rfl (es rfl l0_28)) ?_
      refine W_v rfl rfl (V_lenS rfl (et rfl) (sl_SlN h_cv.at) Try.underlying28) ?_
      refine W_v rfl rfl (V_lss rfl (e2 rfl (et rfl)) (et rfl)) ?_
      refine W_end ?_
      refine gen_Q (fun A31 hA31 => ?_)
      have hsz31 := szq hA31
      have hdf31 : A31.defers = [] := by rw [hA31]; simp only [df_put]; exact hdf28
      have l0_31 := lookE hA31 0 (e3 rfl (es rfl l0_28))
      have l1_31 := lookE hA31 1 (e3 rfl (es rfl l1_28))
      have l8_31 := lookE hA31 8 (e3 rfl (es rfl l8_28))
      have l9_31 := lookE hA31 9 (e3 rfl (es rfl l9_28))
      have l28_31 := lookE hA31 28 (et rfl)
      clear hA31 hsz28 hdf28 l9_28 l8_28 l0_28 l1_28
      refine then_n (hK30 _ _ ?_)
      clear hK30
      refine cond_dec l28_31 (fun c32 => ?_) (fun c32 => ?_)
      · skip
        refine wp_skip ?_
        refine then_n (hK29 _ _ ?_)
        clear hK29
        refine wp_seq_k (fun K33 hK33 => ?_)
        refine wp_block ?_
        refine wp_seq_k (fun K34 hK34 => ?_)
        refine region_in ?_
        refine W_v rfl rfl (V_mov rfl l0_31) ?_
        refine W_v rfl rfl (V_mov rfl (es rfl l9_31)) ?_
        have k35 : k < l.length := by first | omega | (simp only [List.length_cons, List.length_nil]; omega) | (simp only [List.length_set]; omega) | decide
        obtain ⟨y35, hy35⟩ := get_some (xs := l) (k := k) k35
        obtain ⟨B35, O35, C35, hv35⟩ := (SlN.blk (sl_SlN h_cv.at) (by first | omega | (simp only [List.length_cons, List.length_nil]; omega) | (simp only [List.length_set]; omega) | decide))
        refine W_v rfl rfl (V_ixS (off := O35 + k * 2) 2 (k) rfl (es rfl (et rfl)) (et rfl) hv35 (by omega) k35 Try.underlying28 (by kernel_rfl) rfl) ?_
        refine W_v rfl rfl (V_fa (off' := O35 + k * 2 + 1) rfl (et rfl) Try.underlying42 rfl (by decide +kernel) rfl) ?_
        refine W_r rfl rfl (VR_ldC (v := .int .i64 (y35.2)) rfl (et rfl) (SlN.row rcC_len (sl_SlN (hS28.ro h_cv)) hv35 hy35 rfl 1 _ rfl) Try.underlying3 rfl) ?_
        refine W_v rfl rfl (V_mov rfl (e4 rfl (es rfl l1_31))) ?_
        refine W_v rfl rfl (V_geq rfl (es rfl (et rfl)) (et rfl)) ?_
        refine W_end ?_
        refine gen_Q (fun A36 hA36 => ?_)
        have hsz36 := szq hA36
        have hdf36 : A36.defers = [] := by rw [hA36]; simp only [df_put]; exact hdf31
        have l0_36 := lookE hA36 0 (e6 rfl (es rfl l0_31))
        have l1_36 := lookE hA36 1 (e6 rfl (es rfl l1_31))
        have l8_36 := lookE hA36 8 (e6 rfl (es rfl l8_31))
        have l9_36 := lookE hA36 9 (e6 rfl (es rfl l9_31))
        have l37_36 := lookE hA36 37 (et rfl)
        clear hA36 hsz31 hdf31 l0_31 l1_31 l8_31 l9_31 l28_31
        refine then_n (hK34 _ _ ?_)
        clear hK34
        refine cond_dec l37_36 (fun c37 => ?_) (fun c37 => ?_)
        · skip
          refine region_in ?_
          refine W_v rfl rfl (V_mov rfl l8_36) ?_
          refine W_v rfl rfl (V_mov rfl (es rfl l0_36)) ?_
          refine W_v rfl rfl (V_mov rfl (es rfl (es rfl l9_36))) ?_
          refine W_v rfl rfl (V_ixS (off := O35 + k * 2) 2 (k) rfl (es rfl (et rfl)) (et rfl) hv35 (by omega) k35 Try.underlying28 (by kernel_rfl) rfl) ?_
          refine W_v rfl rfl (V_fa (off' := O35 + k * 2 + 0) rfl (et rfl) Try.underlying42 rfl (by decide +kernel) rfl) ?_
          refine W_r rfl rfl (VR_ldC (v := .int .i64 (y35.1)) rfl (et rfl) (SlN.row rcC_len (sl_SlN (hS28.ro h_cv)) hv35 hy35 rfl 0 _ rfl) Try.underlying3 rfl) ?_
          have hll39 : [y35.1].length = 1 := rfl
          refine W_litS (vs := [.int .i64 (y35.1)]) (xs := ([y35.1].map (Value.int .i64))) 1 hS28 rfl rfl rfl (parts1 (et rfl)) rfl Try.underlying23 (by kernel_rfl) (by decide) (by intro v hv; simp only [List.mem_cons, List.not_mem_nil, or_false] at hv; rcases hv with rfl <;> rfl) (by rfl) (fun g39 w39 c39 hc39 hS39 => ?_)
          replace hc39 : c39 = io .i64 (.slice (some ⟨g39, 0, none⟩) 1 1) [y35.1] := hc39
          replace hS39 : St w NoX [c39, c27_28] w39 := hS39
          refine W_appS 1 1 hS39 rfl hc27_28 rfl rfl rfl (e6 rfl (et rfl)) (et rfl) Try.underlying23 Try.underlying23 (z := .int .i64 0) (bytes := 8) (by kernel_rfl) rfl (by decide) (ow_at (hS39.chq 0 rfl hc39)) ones_i (by have h1 := pp_len (l.take k) q; have h2 : (l.take k).length ≤ l.length := (by rw [List.length_take]; omega); simp only [List.length_singleton, List.length_cons, List.length_nil]; omega) (by have h1 := pp_len (l.take k) q; have h2 : (l.take k).length ≤ l.length := (by rw [List.length_take]; omega); simp only [List.length_singleton, List.length_cons, List.length_nil]; omega) (fun v40 w40 c40 hc40 hS40 => ?_)
          replace hc40 : c40 = io .i64 v40 ((ppF (l.take k) q) ++ [y35.1]) := hc40.trans (app_eq (by simp))
          replace hS40 : St w NoX [c39, c40] w40 := hS40
          refine W_v rfl rfl (V_asg rfl (et rfl)) ?_
          refine W_end ?_
          refine gen_Q (fun A41 hA41 => ?_)
          have hsz41 := szq hA41
          have hdf41 : A41.defers = [] := by rw [hA41]; simp only [df_put]; exact hdf36
          have l0_41 := lookE hA41 0 (e8 rfl (es rfl l0_36))
          have l1_41 := lookE hA41 1 (e8 rfl (es rfl l1_36))
          have l8_41 := lookE hA41 8 (et rfl)
          have l9_41 := lookE hA41 9 (e8 rfl (es rfl l9_36))
          clear hA41 hsz36 hdf36 l0_36 l1_36 l8_36 l9_36 l37_36
          have hS42 : St w NoX [c40] w40 := hS40.sel [1] (by decide) rfl
          refine inb_n ?_
          refine then_n (hK33 _ _ ?_)
          clear hK33
          refine region_in ?_
          refine W_v rfl rfl (V_mov rfl l9_41) ?_
          refine W_v rfl rfl (V_add rfl (et rfl) rfl (by omega) (by omega)) ?_
          refine W_v rfl rfl (V_asg rfl (et rfl)) ?_
          refine W_end ?_
          refine gen_Q (fun A43 hA43 => ?_)
          have hsz43 := szq hA43
          have hdf43 : A43.defers = [] := by rw [hA43]; simp only [df_put]; exact hdf41
          have l0_43 := lookE hA43 0 (e2 rfl (es rfl l0_41))
          have l1_43 := lookE hA43 1 (e2 rfl (es rfl l1_41))
          have l8_43 := lookE hA43 8 (e2 rfl (es rfl l8_41))
          have l9_43 := lookE hA43 9 (et rfl)
          clear hA43 hsz41 hdf41 l0_41 l1_41 l8_41 l9_41
          refine then_n ⟨l.length - (k + 1), by simp only [hm28]; omega, hsz43, hdf43, (k + 1), v40, rfl, (by omega), ((l9_43).trans (by first | rfl | (simp; done) | (congr 1; omega))), ((l8_43).trans (by first | rfl | (simp; done) | (congr 1; omega))), ((l0_43).trans l0_26.symm), ((l1_43).trans l1_26.symm), (by have q0 : c40 = io .i64 v40 (ppF (l.take (k + 1)) q) := hc40.trans ((congrArg (io .i64 _) (pp_in hy35 (by omega)))); subst q0; exact hS42)⟩
        · skip
          refine wp_skip ?_
          refine inb_n ?_
          refine then_n (hK33 _ _ ?_)
          clear hK33
          refine region_in ?_
          refine W_v rfl rfl (V_mov rfl l9_36) ?_
          refine W_v rfl rfl (V_add rfl (et rfl) rfl (by omega) (by omega)) ?_
          refine W_v rfl rfl (V_asg rfl (et rfl)) ?_
          refine W_end ?_
          refine gen_Q (fun A44 hA44 => ?_)
          have hsz44 := szq hA44
          have hdf44 : A44.defers = [] := by rw [hA44]; simp only [df_put]; exact hdf36
          have l0_44 := lookE hA44 0 (e2 rfl (es rfl l0_36))
          have l1_44 := lookE hA44 1 (e2 rfl (es rfl l1_36))
          have l8_44 := lookE hA44 8 (e2 rfl (es rfl l8_36))
          have l9_44 := lookE hA44 9 (et rfl)
          clear hA44 hsz36 hdf36 l0_36 l1_36 l8_36 l9_36 l37_36
          refine then_n ⟨l.length - (k + 1), by simp only [hm28]; omega, hsz44, hdf44, (k + 1), bv, rfl, (by omega), ((l9_44).trans (by first | rfl | (simp; done) | (congr 1; omega))), ((l8_44).trans (by first | rfl | (simp; done) | (congr 1; omega))), ((l0_44).trans l0_26.symm), ((l1_44).trans l1_26.symm), (by have q0 : c27_28 = io .i64 bv (ppF (l.take (k + 1)) q) := hc27_28.trans ((congrArg (io .i64 _) (pp_out hy35 (by omega)))); subst q0; exact hS28)⟩
      · skip
        refine wp_exit ?_
        refine then_exit ?_
        refine then_exit ?_
        refine inb_hit ?_
        refine then_n (hK24 _ _ ?_)
        clear hK24
        refine wp_seq_k (fun K45 hK45 => ?_)
        refine region_in ?_
        refine W_v rfl rfl (V_mov rfl l8_31) ?_
        refine W_v rfl rfl (V_asg rfl (et rfl)) ?_
        refine W_v rfl rfl (V_asg rfl rfl) ?_
        refine W_end ?_
        refine gen_Q (fun A46 hA46 => ?_)
        have hsz46 := szq hA46
        have hdf46 : A46.defers = [] := by rw [hA46]; simp only [df_put]; exact hdf31
        have l4_46 := lookE hA46 4 (es rfl (et rfl))
        have l5_46 := lookE hA46 5 (et rfl)
        clear hA46 hsz31 hdf31 l0_31 l1_31 l8_31 l9_31 l28_31
        refine then_n (hK45 _ _ ?_)
        clear hK45
        refine wp_ret ?_
        refine ret_in (results_2 Try.results29 (rv_tmp l4_46) (rv_tmp l5_46)) hdf46 ?_
        -- leaf TFF
        have he : ppE l q = 0 := by unfold ppE; rw [if_neg (by omega), if_pos (by omega)]
        rw [he]
        exact ⟨_, rfl, (hS28.fin1 0 rfl (hc27_28.trans (congrArg (io .i64 _) (by unfold ppT; rw [if_neg (by omega), List.take_of_length_le (by omega)]))))⟩
  · skip
    refine W_off rfl (wanted_f rfl rfl (et rfl) (ez rfl) rfl) ?_
    refine W_off rfl (wanted_f rfl rfl (es rfl (et rfl)) (ez rfl) rfl) ?_
    refine W_off rfl (wanted_f rfl rfl (e2 rfl (et rfl)) (ez rfl) rfl) ?_
    refine W_v rfl rfl (V_pickF rfl (e3 rfl (et rfl)) rfl) ?_
    refine W_end ?_
    refine gen_Q (fun A47 hA47 => ?_)
    have hsz47 := szq hA47
    have hdf47 : A47.defers = [] := by rw [hA47]; simp only [df_put]; exact hdf5
    have l0_47 := lookE hA47 0 (e6 rfl (es rfl l0_5))
    have l1_47 := lookE hA47 1 (e6 rfl (es rfl l1_5))
    have l7_47 := lookE hA47 7 (e6 rfl (es rfl l7_5))
    have l21_47 := lookE hA47 21 (et rfl)
    clear hA47 hsz5 hdf5 l0_5 l1_5 l7_5
    refine then_n (hK7 _ _ ?_)
    clear hK7
    refine cond_f l21_47 ?_
    refine wp_skip ?_
    refine then_n (hK6 _ _ ?_)
    clear hK6
    refine wp_seq_k (fun K48 hK48 => ?_)
    refine wp_seq_k (fun K49 hK49 => ?_)
    refine region_in ?_
    refine W_v rfl rfl (V_mov rfl l7_47) ?_
    refine W_v rfl rfl (V_neq rfl (et rfl) rfl) ?_
    refine W_end ?_
    refine gen_Q (fun A50 hA50 => ?_)
    have hsz50 := szq hA50
    have hdf50 : A50.defers = [] := by rw [hA50]; simp only [df_put]; exact hdf47
    have l0_50 := lookE hA50 0 (es rfl (es rfl l0_47))
    have l1_50 := lookE hA50 1 (es rfl (es rfl l1_47))
    have l7_50 := lookE hA50 7 (es rfl (es rfl l7_47))
    have l23_50 := lookE hA50 23 (et rfl)
    clear hA50 hsz47 hdf47 l0_47 l1_47 l7_47 l21_47
    refine then_n (hK49 _ _ ?_)
    clear hK49
    refine cond_sure l23_50 (by first | (simp [c8]; done) | exact decide_eq_true (by omega) | exact decide_eq_false (by omega)) ?_
    refine wp_seq_k (fun K51 hK51 => ?_)
    refine region_in ?_
    refine W_v rfl rfl (V_mov rfl l7_50) ?_
    refine W_v rfl rfl (V_asg rfl rfl) ?_
    refine W_v rfl rfl (V_asg rfl (es rfl (et rfl))) ?_
    refine W_end ?_
    refine gen_Q (fun A52 hA52 => ?_)
    have hsz52 := szq hA52
    have hdf52 : A52.defers = [] := by rw [hA52]; simp only [df_put]; exact hdf50
    have l4_52 := lookE hA52 4 (es rfl (et rfl))
    have l5_52 := lookE hA52 5 (et rfl)
    clear hA52 hsz50 hdf50 l0_50 l1_50 l7_50 l23_50
    refine then_n (hK51 _ _ ?_)
    clear hK51
    refine wp_ret ?_
    refine then_ret ?_
    refine ret_in (results_2 Try.results29 (rv_tmp l4_52) (rv_tmp l5_52)) hdf52 ?_
    -- leaf F
    obtain ⟨c53, hc53, hS53⟩ := hS4.pnil (s := 1)
    have he : ppE l q = (ckL l).2 := by unfold ppE; rw [if_pos (by omega)]
    have ht : ppT l q = [] := by unfold ppT; rw [if_pos (by rw [he]; omega)]
    rw [he]
    exact ⟨_, rfl, (hS53.fin1 0 rfl (hc53.trans (by rw [show ppT l q = [] by rw [ht]] <;> rfl)))⟩

set_option maxHeartbeats 4000000 in
theorem qwi_c {cv : Value} {l : List (Int × Int)} {f : Int} {t : Int} {w : World} (h_cv : Ro w NoX (rl 2 rcC cv l))  :
    Calls Try.prog 32 #[cv, .int .i64 f, .int .i64 t] w fun e w' => ∃ v, e = .returned (.tuple #[v, .int .i64 (ckL l).2]) ∧ St w NoX [ro 2 rcC (v) (wiT l f t)] w' := by
  refine calls_in 50 Try.func32 rfl rfl (by simp) (fun A0 hsz0 hdf0 hargs => ?_)
  have l0_0 := hargs 0 (cv) rfl
  have l1_0 := hargs 1 (.int .i64 f) rfl
  have l2_0 := hargs 2 (.int .i64 t) rfl
  clear hargs; replace hsz0 : SzN A0 50 := ⟨hsz0⟩
  have hS := St.nil w
  have bh_cv := SlN.le (sl_SlN h_cv.at)
  refine wp_seq_k (fun K1 hK1 => ?_)
  refine region_in ?_
  refine W_v rfl rfl (V_asg rfl rfl) ?_
  refine W_v rfl rfl (V_asg rfl rfl) ?_
  refine W_end ?_
  refine gen_Q (fun A2 hA2 => ?_)
  have hsz2 := szq hA2
  have hdf2 : A2.defers = [] := by rw [hA2]; simp only [df_put]; exact hdf0
  have l0_2 := lookE hA2 0 (es rfl (es rfl l0_0))
  have l1_2 := lookE hA2 1 (es rfl (es rfl l1_0))
  have l2_2 := lookE hA2 2 (es rfl (es rfl l2_0))
  clear hA2 hsz0 hdf0 l0_0 l1_0 l2_0
  refine then_n (hK1 _ _ ?_)
  clear hK1
  refine wp_seq_k (fun K3 hK3 => ?_)
  refine region_in ?_
  refine W_v rfl rfl (V_mov rfl l0_2) ?_
  refine W_call rfl rfl rfl Try.func28 (by kernel_rfl) rfl (args1 (et rfl)) (qCk9_c (hS.roC h_cv) ) ?_
  rintro _ w4 ⟨rfl, hP4⟩
  refine ⟨_, rfl, ?_⟩
  have hS4 := hS.join hP4
  replace hS4 : St w NoX [] w4 := hS4
  refine W_v rfl rfl (V_mov rfl (et rfl)) ?_
  refine W_v rfl rfl (V_ext (v := .int .i64 ((ckL l).1)) rfl (et rfl) rfl) ?_
  refine W_v rfl rfl (V_ext (v := .int .i64 ((ckL l).2)) rfl (es rfl (et rfl)) rfl) ?_
  refine W_v rfl rfl (V_asg rfl (es rfl (et rfl))) ?_
  refine W_v rfl rfl (V_asg rfl (es rfl (et rfl))) ?_
  refine W_end ?_
  refine gen_Q (fun A5 hA5 => ?_)
  have hsz5 := szq hA5
  have hdf5 : A5.defers = [] := by rw [hA5]; simp only [df_put]; exact hdf2
  have l0_5 := lookE hA5 0 (e6 rfl (es rfl l0_2))
  have l1_5 := lookE hA5 1 (e6 rfl (es rfl l1_2))
  have l2_5 := lookE hA5 2 (e6 rfl (es rfl l2_2))
  have l9_5 := lookE hA5 9 (et rfl)
  clear hA5 hsz2 hdf2 l0_2 l1_2 l2_2
  refine then_n (hK3 _ _ ?_)
  clear hK3
  refine wp_seq_k (fun K6 hK6 => ?_)
  refine wp_seq_k (fun K7 hK7 => ?_)
  refine region_in ?_
  refine W_v rfl rfl (V_mov rfl l9_5) ?_
  refine W_v rfl rfl (V_neq rfl (et rfl) rfl) ?_
  refine W_end ?_
  refine gen_Q (fun A8 hA8 => ?_)
  have hsz8 := szq hA8
  have hdf8 : A8.defers = [] := by rw [hA8]; simp only [df_put]; exact hdf5
  have l0_8 := lookE hA8 0 (es rfl (es rfl l0_5))
  have l1_8 := lookE hA8 1 (es rfl (es rfl l1_5))
  have l2_8 := lookE hA8 2 (es rfl (es rfl l2_5))
  have l9_8 := lookE hA8 9 (es rfl (es rfl l9_5))
  have l18_8 := lookE hA8 18 (et rfl)
  clear hA8 hsz5 hdf5 l0_5 l1_5 l2_5 l9_5
  refine then_n (hK7 _ _ ?_)
  clear hK7
  refine cond_dec l18_8 (fun c9 => ?_) (fun c9 => ?_)
  · skip
    refine wp_seq_k (fun K10 hK10 => ?_)
    refine region_in ?_
    refine W_v rfl rfl (V_mov rfl l9_8) ?_
    refine W_v rfl rfl (V_asg rfl rfl) ?_
    refine W_v rfl rfl (V_asg rfl (es rfl (et rfl))) ?_
    refine W_end ?_
    refine gen_Q (fun A11 hA11 => ?_)
    have hsz11 := szq hA11
    have hdf11 : A11.defers = [] := by rw [hA11]; simp only [df_put]; exact hdf8
    have l6_11 := lookE hA11 6 (es rfl (et rfl))
    have l7_11 := lookE hA11 7 (et rfl)
    clear hA11 hsz8 hdf8 l0_8 l1_8 l2_8 l9_8 l18_8
    refine then_n (hK10 _ _ ?_)
    clear hK10
    refine wp_ret ?_
    refine then_ret ?_
    refine ret_in (results_2 Try.results32 (rv_tmp l6_11) (rv_tmp l7_11)) hdf11 ?_
    -- leaf T
    obtain ⟨c12, hc12, hS12⟩ := hS4.pnil (s := 2)
    exact ⟨_, rfl, (hS12.fin1 0 rfl (hc12.trans (by rw [show wiT l f t = [] by unfold wiT; rw [if_pos (by omega)]] <;> rfl)))⟩
  · skip
    have hck := ckL_iff.1 (show (ckL l).2 = 0 by omega)
    have hckl := hck.1
    refine wp_skip ?_
    refine then_n (hK6 _ _ ?_)
    clear hK6
    refine wp_seq_k (fun K13 hK13 => ?_)
    refine region_in ?_
    refine W_v rfl rfl (V_asg rfl rfl) ?_
    refine W_end ?_
    refine gen_Q (fun A14 hA14 => ?_)
    have hsz14 := szq hA14
    have hdf14 : A14.defers = [] := by rw [hA14]; simp only [df_put]; exact hdf8
    have l0_14 := lookE hA14 0 (es rfl l0_8)
    have l1_14 := lookE hA14 1 (es rfl l1_8)
    have l2_14 := lookE hA14 2 (es rfl l2_8)
    have l10_14 := lookE hA14 10 (et rfl)
    clear hA14 hsz8 hdf8 l0_8 l1_8 l2_8 l9_8 l18_8
    refine then_n (hK13 _ _ ?_)
    clear hK13
    refine wp_seq_k (fun K15 hK15 => ?_)
    refine wp_seq_k (fun K16 hK16 => ?_)
    refine region_in ?_
    refine W_v rfl rfl (V_asg rfl rfl) ?_
    refine W_end ?_
    refine gen_Q (fun A17 hA17 => ?_)
    have hsz17 := szq hA17
    have hdf17 : A17.defers = [] := by rw [hA17]; simp only [df_put]; exact hdf14
    have l0_17 := lookE hA17 0 (es rfl l0_14)
    have l1_17 := lookE hA17 1 (es rfl l1_14)
    have l2_17 := lookE hA17 2 (es rfl l2_14)
    have l10_17 := lookE hA17 10 (es rfl l10_14)
    have l11_17 := lookE hA17 11 (et rfl)
    clear hA17 hsz14 hdf14 l0_14 l1_14 l2_14 l10_14
    refine then_n (hK16 _ _ ?_)
    clear hK16
    refine wp_block ?_
    obtain ⟨c18, hc18, hS18⟩ := hS4.pnil (s := 2)
    -- loop 6
    refine loopX (fun mz A' w' => SzN A' 50 ∧ A'.defers = [] ∧ (∃ (k : Nat) (bv : Value), (mz = l.length - k) ∧ (k ≤ l.length) ∧ (EV A' (.tmp 11) = .int .i64 (k : Int)) ∧ (EV A' (.tmp 10) = bv) ∧ (EV A' (.tmp 0) = EV A17 (.tmp 0)) ∧ (EV A' (.tmp 1) = EV A17 (.tmp 1)) ∧ (EV A' (.tmp 2) = EV A17 (.tmp 2)) ∧ (St w NoX [ro 2 rcC bv (wiF f t (l.take k))] w'))) (l.length - 0) ⟨hsz17, hdf17, 0, (.slice none 0 0), rfl, (by omega), ((l11_17).trans (by first | rfl | (simp; done) | (congr 1; omega))), ((l10_17).trans (by first | rfl | (simp; done) | (congr 1; omega))), rfl, rfl, rfl, (by have q0 : c18 = ro 2 rcC (.slice none 0 0) (wiF f t (l.take 0)) := hc18.trans (rfl); subst q0; exact hS18)⟩ ?_
    clear hS18 hc18
    rintro n19 A19 w19 ⟨hsz19, hdf19, k, bv, hm19, hk, l11_19, l10_19, u0_19, u1_19, u2_19, hS19⟩
    have l0_19 := u0_19.trans l0_17
    have l1_19 := u1_19.trans l1_17
    have l2_19 := u2_19.trans l2_17
    obtain ⟨c18_19, hc18_19, hS19⟩ := gen1 hS19
    refine wp_seq_k (fun K20 hK20 => ?_)
    refine wp_seq_k (fun K21 hK21 => ?_)
    refine region_in ?_
    refine W_v rfl rfl (V_mov rfl l11_19) ?_
    refine W_v rfl rfl (V_mov rfl (es rfl l0_19)) ?_
    refine W_v rfl rfl (V_lenS rfl (et rfl) (sl_SlN h_cv.at) Try.underlying28) ?_
    refine W_v rfl rfl (V_lss rfl (e2 rfl (et rfl)) (et rfl)) ?_
    refine W_end ?_
    refine gen_Q (fun A22 hA22 => ?_)
    have hsz22 := szq hA22
    have hdf22 : A22.defers = [] := by rw [hA22]; simp only [df_put]; exact hdf19
    have l0_22 := lookE hA22 0 (e3 rfl (es rfl l0_19))
    have l1_22 := lookE hA22 1 (e3 rfl (es rfl l1_19))
    have l2_22 := lookE hA22 2 (e3 rfl (es rfl l2_19))
    have l10_22 := lookE hA22 10 (e3 rfl (es rfl l10_19))
    have l11_22 := lookE hA22 11 (e3 rfl (es rfl l11_19))
    have l23_22 := lookE hA22 23 (et rfl)
    clear hA22 hsz19 hdf19 l11_19 l10_19 l0_19 l1_19 l2_19
    refine then_n (hK21 _ _ ?_)
    clear hK21
    refine cond_dec l23_22 (fun c23 => ?_) (fun c23 => ?_)
    · skip
      refine wp_skip ?_
      refine then_n (hK20 _ _ ?_)
      clear hK20
      refine wp_seq_k (fun K24 hK24 => ?_)
      refine wp_block ?_
      refine wp_seq_k (fun K25 hK25 => ?_)
      refine region_in ?_
      refine W_v rfl rfl (V_mov rfl l0_22) ?_
      refine W_v rfl rfl (V_mov rfl (es rfl l11_22)) ?_
      have k26 : k < l.length := by first | omega | (simp only [List.length_cons, List.length_nil]; omega) | (simp only [List.length_set]; omega) | decide
      obtain ⟨y26, hy26⟩ := get_some (xs := l) (k := k) k26
      obtain ⟨B26, O26, C26, hv26⟩ := (SlN.blk (sl_SlN h_cv.at) (by first | omega | (simp only [List.length_cons, List.length_nil]; omega) | (simp only [List.length_set]; omega) | decide))
      refine W_v rfl rfl (V_ixS (off := O26 + k * 2) 2 (k) rfl (es rfl (et rfl)) (et rfl) hv26 (by omega) k26 Try.underlying28 (by kernel_rfl) rfl) ?_
      refine W_v rfl rfl (V_fa (off' := O26 + k * 2 + 0) rfl (et rfl) Try.underlying42 rfl (by decide +kernel) rfl) ?_
      refine W_r rfl rfl (VR_ldC (v := .int .i64 (y26.1)) rfl (et rfl) (SlN.row rcC_len (sl_SlN (hS19.ro h_cv)) hv26 hy26 rfl 0 _ rfl) Try.underlying3 rfl) ?_
      refine W_v rfl rfl (V_mov rfl (e4 rfl (es rfl l1_22))) ?_
      refine W_v rfl rfl (V_geq rfl (es rfl (et rfl)) (et rfl)) ?_
      refine W_split rfl rfl (V_mov rfl (et rfl)) (fun c27 => ?_) (fun c27 => ?_)
      · skip
        refine W_v rfl (wanted_t rfl rfl (et rfl) (ez rfl)) (V_mov rfl (e7 rfl (es rfl l0_22))) ?_
        refine W_v rfl (wanted_t rfl rfl (es rfl (et rfl)) (ez rfl)) (V_mov rfl (e8 rfl (es rfl l11_22))) ?_
        refine W_v rfl (wanted_t rfl rfl (e2 rfl (et rfl)) (ez rfl)) (V_ixS (off := O26 + k * 2) 2 (k) rfl (es rfl (et rfl)) (et rfl) hv26 (by omega) k26 Try.underlying28 (by kernel_rfl) rfl) ?_
        refine W_v rfl (wanted_t rfl rfl (e3 rfl (et rfl)) (ez rfl)) (V_fa (off' := O26 + k * 2 + 0) rfl (et rfl) Try.underlying42 rfl (by decide +kernel) rfl) ?_
        refine W_r rfl (wanted_t rfl rfl (e4 rfl (et rfl)) (ez rfl)) (VR_ldC (v := .int .i64 (y26.1)) rfl (et rfl) (SlN.row rcC_len (sl_SlN (hS19.ro h_cv)) hv26 hy26 rfl 0 _ rfl) Try.underlying3 rfl) ?_
        refine W_v rfl (wanted_t rfl rfl (e5 rfl (et rfl)) (ez rfl)) (V_mov rfl (e12 rfl (es rfl l2_22))) ?_
        refine W_v rfl (wanted_t rfl rfl (e6 rfl (et rfl)) (ez rfl)) (V_lss rfl (es rfl (et rfl)) (et rfl)) ?_
        refine W_v rfl rfl (V_pickT rfl (e7 rfl (et rfl)) (et rfl)) ?_
        refine W_end ?_
        refine gen_Q (fun A29 hA29 => ?_)
        have hsz29 := szq hA29
        have hdf29 : A29.defers = [] := by rw [hA29]; simp only [df_put]; exact hdf22
        have l0_29 := lookE hA29 0 (e15 rfl (es rfl l0_22))
        have l1_29 := lookE hA29 1 (e15 rfl (es rfl l1_22))
        have l2_29 := lookE hA29 2 (e15 rfl (es rfl l2_22))
        have l10_29 := lookE hA29 10 (e15 rfl (es rfl l10_22))
        have l11_29 := lookE hA29 11 (e15 rfl (es rfl l11_22))
        have l34_29 := lookE hA29 34 (e7 rfl (et rfl))
        have l35_29 := lookE hA29 35 (e6 rfl (et rfl))
        have l36_29 := lookE hA29 36 (e5 rfl (et rfl))
        have l37_29 := lookE hA29 37 (e4 rfl (et rfl))
        have l38_29 := lookE hA29 38 (e3 rfl (et rfl))
        have l39_29 := lookE hA29 39 (e2 rfl (et rfl))
        have l40_29 := lookE hA29 40 (es rfl (et rfl))
        have l41_29 := lookE hA29 41 (et rfl)
        clear hA29 hsz22 hdf22 l0_22 l1_22 l2_22 l10_22 l11_22 l23_22
        refine then_n (hK25 _ _ ?_)
        clear hK25
        refine cond_dec l41_29 (fun c30 => ?_) (fun c30 => ?_)
        · skip
          refine region_in ?_
          refine W_v rfl rfl (V_mov rfl l10_29) ?_
          refine W_v rfl rfl (V_mov rfl (es rfl l0_29)) ?_
          refine W_v rfl rfl (V_mov rfl (es rfl (es rfl l11_29))) ?_
          refine W_v rfl rfl (V_ixS (off := O26 + k * 2) 2 (k) rfl (es rfl (et rfl)) (et rfl) hv26 (by omega) k26 Try.underlying28 (by kernel_rfl) rfl) ?_
          refine W_r rfl rfl (VR_ldR (ys := rcC y26) rfl (et rfl) (SlN.row rcC_len (sl_SlN (hS19.ro h_cv)) hv26 hy26 rfl) Try.underlying42 rfl (by kernel_rfl)) ?_
          have hll32 : [(y26.1, y26.2)].length = 1 := rfl
          refine W_litS (vs := [.agg #[.int .i64 (y26.1), .int .i64 (y26.2)]]) (xs := ([(y26.1, y26.2)].flatMap rcC)) 2 hS19 rfl rfl rfl (parts1 (et rfl)) rfl Try.underlying28 (by kernel_rfl) (by decide) (by intro v hv; simp only [List.mem_cons, List.not_mem_nil, or_false] at hv; rcases hv with rfl <;> rfl) (by rfl) (fun g32 w32 c32 hc32 hS32 => ?_)
          replace hc32 : c32 = ro 2 rcC (.slice (some ⟨g32, 0, none⟩) 1 1) [(y26.1, y26.2)] := hc32
          replace hS32 : St w NoX [c32, c18_19] w32 := hS32
          refine W_appS 2 1 hS32 rfl hc18_19 rfl rfl rfl (e5 rfl (et rfl)) (et rfl) Try.underlying28 Try.underlying28 (z := .agg #[.int .i64 0, .int .i64 0]) (bytes := 16) (by kernel_rfl) rfl (by decide) (ow_at (hS32.chq 0 rfl hc32)) (ones_r rcC_one) (by have h1 := wi_len f t (l.take k); have h2 : (l.take k).length ≤ l.length := (by rw [List.length_take]; omega); simp only [List.length_singleton, List.length_cons, List.length_nil]; omega) (by have h1 := wi_len f t (l.take k); have h2 : (l.take k).length ≤ l.length := (by rw [List.length_take]; omega); simp only [List.length_singleton, List.length_cons, List.length_nil]; omega) (fun v33 w33 c33 hc33 hS33 => ?_)
          replace hc33 : c33 = ro 2 rcC v33 ((wiF f t (l.take k)) ++ [(y26.1, y26.2)]) := hc33.trans (app_eqR (by simp))
          replace hS33 : St w NoX [c32, c33] w33 := hS33
          refine W_v rfl rfl (V_asg rfl (et rfl)) ?_
          refine W_end ?_
          refine gen_Q (fun A34 hA34 => ?_)
          have hsz34 := szq hA34
          have hdf34 : A34.defers = [] := by rw [hA34]; simp only [df_put]; exact hdf29
          have l0_34 := lookE hA34 0 (e7 rfl (es rfl l0_29))
          have l1_34 := lookE hA34 1 (e7 rfl (es rfl l1_29))
          have l2_34 := lookE hA34 2 (e7 rfl (es rfl l2_29))
          have l10_34 := lookE hA34 10 (et rfl)
          have l11_34 := lookE hA34 11 (e7 rfl (es rfl l11_29))
          have l34_34 := lookE hA34 34 (e7 rfl (es rfl l34_29))
          have l35_34 := lookE hA34 35 (e7 rfl (es rfl l35_29))
          have l36_34 := lookE hA34 36 (e7 rfl (es rfl l36_29))
          have l37_34 := lookE hA34 37 (e7 rfl (es rfl l37_29))
          have l38_34 := lookE hA34 38 (e7 rfl (es rfl l38_29))
          have l39_34 := lookE hA34 39 (e7 rfl (es rfl l39_29))
          have l40_34 := lookE hA34 40 (e7 rfl (es rfl l40_29))
          clear hA34 hsz29 hdf29 l0_29 l1_29 l2_29 l10_29 l11_29 l34_29 l35_29 l36_29 l37_29 l38_29 l39_29 l40_29 l41_29
          have hS35 : St w NoX [c33] w33 := hS33.sel [1] (by decide) rfl
          refine inb_n ?_
          refine then_n (hK24 _ _ ?_)
          clear hK24
          refine region_in ?_
          refine W_v rfl rfl (V_mov rfl l11_34) ?_
          refine W_v rfl rfl (V_add rfl (et rfl) rfl (by omega) (by omega)) ?_
          refine W_v rfl rfl (V_asg rfl (et rfl)) ?_
          refine W_end ?_
          refine gen_Q (fun A36 hA36 => ?_)
          have hsz36 := szq hA36
          have hdf36 : A36.defers = [] := by rw [hA36]; simp only [df_put]; exact hdf34
          have l0_36 := lookE hA36 0 (e2 rfl (es rfl l0_34))
          have l1_36 := lookE hA36 1 (e2 rfl (es rfl l1_34))
          have l2_36 := lookE hA36 2 (e2 rfl (es rfl l2_34))
          have l10_36 := lookE hA36 10 (e2 rfl (es rfl l10_34))
          have l11_36 := lookE hA36 11 (et rfl)
          have l34_36 := lookE hA36 34 (e2 rfl (es rfl l34_34))
          have l35_36 := lookE hA36 35 (e2 rfl (es rfl l35_34))
          have l36_36 := lookE hA36 36 (e2 rfl (es rfl l36_34))
          have l37_36 := lookE hA36 37 (e2 rfl (es rfl l37_34))
          have l38_36 := lookE hA36 38 (e2 rfl (es rfl l38_34))
          have l39_36 := lookE hA36 39 (e2 rfl (es rfl l39_34))
          have l40_36 := lookE hA36 40 (e2 rfl (es rfl l40_34))
          clear hA36 hsz34 hdf34 l0_34 l1_34 l2_34 l10_34 l11_34 l34_34 l35_34 l36_34 l37_34 l38_34 l39_34 l40_34
          refine then_n ⟨l.length - (k + 1), by simp only [hm19]; omega, hsz36, hdf36, (k + 1), v33, rfl, (by omega), ((l11_36).trans (by first | rfl | (simp; done) | (congr 1; omega))), ((l10_36).trans (by first | rfl | (simp; done) | (congr 1; omega))), ((l0_36).trans l0_17.symm), ((l1_36).trans l1_17.symm), ((l2_36).trans l2_17.symm), (by have q0 : c33 = ro 2 rcC v33 (wiF f t (l.take (k + 1))) := hc33.trans ((congrArg (ro 2 rcC _) (wi_in hy26 (by omega)))); subst q0; exact hS35)⟩
        · skip
          refine wp_skip ?_
          refine inb_n ?_
          refine then_n (hK24 _ _ ?_)
          clear hK24
          refine region_in ?_
          refine W_v rfl rfl (V_mov rfl l11_29) ?_
          refine W_v rfl rfl (V_add rfl (et rfl) rfl (by omega) (by omega)) ?_
          refine W_v rfl rfl (V_asg rfl (et rfl)) ?_
          refine W_end ?_
          refine gen_Q (fun A37 hA37 => ?_)
          have hsz37 := szq hA37
          have hdf37 : A37.defers = [] := by rw [hA37]; simp only [df_put]; exact hdf29
          have l0_37 := lookE hA37 0 (e2 rfl (es rfl l0_29))
          have l1_37 := lookE hA37 1 (e2 rfl (es rfl l1_29))
          have l2_37 := lookE hA37 2 (e2 rfl (es rfl l2_29))
          have l10_37 := lookE hA37 10 (e2 rfl (es rfl l10_29))
          have l11_37 := lookE hA37 11 (et rfl)
          have l34_37 := lookE hA37 34 (e2 rfl (es rfl l34_29))
          have l35_37 := lookE hA37 35 (e2 rfl (es rfl l35_29))
          have l36_37 := lookE hA37 36 (e2 rfl (es rfl l36_29))
          have l37_37 := lookE hA37 37 (e2 rfl (es rfl l37_29))
          have l38_37 := lookE hA37 38 (e2 rfl (es rfl l38_29))
          have l39_37 := lookE hA37 39 (e2 rfl (es rfl l39_29))
          have l40_37 := lookE hA37 40 (e2 rfl (es rfl l40_29))
          clear hA37 hsz29 hdf29 l0_29 l1_29 l2_29 l10_29 l11_29 l34_29 l35_29 l36_29 l37_29 l38_29 l39_29 l40_29 l41_29
          refine then_n ⟨l.length - (k + 1), by simp only [hm19]; omega, hsz37, hdf37, (k + 1), bv, rfl, (by omega), ((l11_37).trans (by first | rfl | (simp; done) | (congr 1; omega))), ((l10_37).trans (by first | rfl | (simp; done) | (congr 1; omega))), ((l0_37).trans l0_17.symm), ((l1_37).trans l1_17.symm), ((l2_37).trans l2_17.symm), (by have q0 : c18_19 = ro 2 rcC bv (wiF f t (l.take (k + 1))) := hc18_19.trans ((congrArg (ro 2 rcC _) (wi_out hy26 (by omega)))); subst q0; exact hS19)⟩
      · skip
        refine W_off rfl (wanted_f rfl rfl (et rfl) (ez rfl) rfl) ?_
        refine W_off rfl (wanted_f rfl rfl (es rfl (et rfl)) (ez rfl) rfl) ?_
        refine W_off rfl (wanted_f rfl rfl (e2 rfl (et rfl)) (ez rfl) rfl) ?_
        refine W_off rfl (wanted_f rfl rfl (e3 rfl (et rfl)) (ez rfl) rfl) ?_
        refine W_off rfl (wanted_f rfl rfl (e4 rfl (et rfl)) (ez rfl) rfl) ?_
        refine W_off rfl (wanted_f rfl rfl (e5 rfl (et rfl)) (ez rfl) rfl) ?_
        refine W_off rfl (wanted_f rfl rfl (e6 rfl (et rfl)) (ez rfl) rfl) ?_
        refine W_v rfl rfl (V_pickF rfl (e7 rfl (et rfl)) rfl) ?_
        refine W_end ?_
        refine gen_Q (fun A38 hA38 => ?_)
        have hsz38 := szq hA38
        have hdf38 : A38.defers = [] := by rw [hA38]; simp only [df_put]; exact hdf22
        have l0_38 := lookE hA38 0 (e15 rfl (es rfl l0_22))
        have l1_38 := lookE hA38 1 (e15 rfl (es rfl l1_22))
        have l2_38 := lookE hA38 2 (e15 rfl (es rfl l2_22))
        have l10_38 := lookE hA38 10 (e15 rfl (es rfl l10_22))
        have l11_38 := lookE hA38 11 (e15 rfl (es rfl l11_22))
        have l34_38 := lookE hA38 34 (e7 rfl (et rfl))
        have l35_38 := lookE hA38 35 (e6 rfl (et rfl))
        have l36_38 := lookE hA38 36 (e5 rfl (et rfl))
        have l37_38 := lookE hA38 37 (e4 rfl (et rfl))
        have l38_38 := lookE hA38 38 (e3 rfl (et rfl))
        have l39_38 := lookE hA38 39 (e2 rfl (et rfl))
        have l40_38 := lookE hA38 40 (es rfl (et rfl))
        have l41_38 := lookE hA38 41 (et rfl)
        clear hA38 hsz22 hdf22 l0_22 l1_22 l2_22 l10_22 l11_22 l23_22
        refine then_n (hK25 _ _ ?_)
        clear hK25
        refine cond_f l41_38 ?_
        refine wp_skip ?_
        refine inb_n ?_
        refine then_n (hK24 _ _ ?_)
        clear hK24
        refine region_in ?_
        refine W_v rfl rfl (V_mov rfl l11_38) ?_
        refine W_v rfl rfl (V_add rfl (et rfl) rfl (by omega) (by omega)) ?_
        refine W_v rfl rfl (V_asg rfl (et rfl)) ?_
        refine W_end ?_
        refine gen_Q (fun A39 hA39 => ?_)
        have hsz39 := szq hA39
        have hdf39 : A39.defers = [] := by rw [hA39]; simp only [df_put]; exact hdf38
        have l0_39 := lookE hA39 0 (e2 rfl (es rfl l0_38))
        have l1_39 := lookE hA39 1 (e2 rfl (es rfl l1_38))
        have l2_39 := lookE hA39 2 (e2 rfl (es rfl l2_38))
        have l10_39 := lookE hA39 10 (e2 rfl (es rfl l10_38))
        have l11_39 := lookE hA39 11 (et rfl)
        have l34_39 := lookE hA39 34 (e2 rfl (es rfl l34_38))
        have l35_39 := lookE hA39 35 (e2 rfl (es rfl l35_38))
        have l36_39 := lookE hA39 36 (e2 rfl (es rfl l36_38))
        have l37_39 := lookE hA39 37 (e2 rfl (es rfl l37_38))
        have l38_39 := lookE hA39 38 (e2 rfl (es rfl l38_38))
        have l39_39 := lookE hA39 39 (e2 rfl (es rfl l39_38))
        have l40_39 := lookE hA39 40 (e2 rfl (es rfl l40_38))
        clear hA39 hsz38 hdf38 l0_38 l1_38 l2_38 l10_38 l11_38 l34_38 l35_38 l36_38 l37_38 l38_38 l39_38 l40_38 l41_38
        refine then_n ⟨l.length - (k + 1), by simp only [hm19]; omega, hsz39, hdf39, (k + 1), bv, rfl, (by omega), ((l11_39).trans (by first | rfl | (simp; done) | (congr 1; omega))), ((l10_39).trans (by first | rfl | (simp; done) | (congr 1; omega))), ((l0_39).trans l0_17.symm), ((l1_39).trans l1_17.symm), ((l2_39).trans l2_17.symm), (by have q0 : c18_19 = ro 2 rcC bv (wiF f t (l.take (k + 1))) := hc18_19.trans ((congrArg (ro 2 rcC _) (wi_out hy26 (by omega)))); subst q0; exact hS19)⟩
    · skip
      refine wp_exit ?_
      refine then_exit ?_
      refine then_exit ?_
      refine inb_hit ?_
      refine then_n (hK15 _ _ ?_)
      clear hK15
      refine wp_seq_k (fun K40 hK40 => ?_)
      refine region_in ?_
      refine W_v rfl rfl (V_mov rfl l10_22) ?_
      refine W_v rfl rfl (V_asg rfl (et rfl)) ?_
      refine W_v rfl rfl (V_asg rfl rfl) ?_
      refine W_end ?_
      refine gen_Q (fun A41 hA41 => ?_)
      have hsz41 := szq hA41
      have hdf41 : A41.defers = [] := by rw [hA41]; simp only [df_put]; exact hdf22
      have l6_41 := lookE hA41 6 (es rfl (et rfl))
      have l7_41 := lookE hA41 7 (et rfl)
      clear hA41 hsz22 hdf22 l0_22 l1_22 l2_22 l10_22 l11_22 l23_22
      refine then_n (hK40 _ _ ?_)
      clear hK40
      refine wp_ret ?_
      refine ret_in (results_2 Try.results32 (rv_tmp l6_41) (rv_tmp l7_41)) hdf41 ?_
      -- leaf FF
      have he : (ckL l).2 = 0 := by omega
      rw [he]
      exact ⟨_, rfl, (hS19.fin1 0 rfl (hc18_19.trans (congrArg (ro 2 rcC _) (by unfold wiT; rw [if_neg (by omega), List.take_of_length_le (by omega)]))))⟩

end Go.Proofs.Ytnfgeekaeegolaa