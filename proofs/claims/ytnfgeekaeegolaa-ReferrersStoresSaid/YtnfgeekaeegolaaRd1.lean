import Derived.Test.YtnfgeekaeegolaaProg
import Derived.Test.YtnfgeekaeegolaaRc8
namespace Go.Proofs.Ytnfgeekaeegolaa
open Go.RowKit Go.Own Go.Own.R Go.Own.S Go.Own.F


set_option maxHeartbeats 4000000 in
theorem kCk9_c {cv : Value} {l : List (Int × Int)} {w : World} (h_cv : Ro w NoX (rl 2 rcC cv l))  :
    Calls Try.prog 27 #[cv] w fun e w' => e = .returned (.tuple #[.int .i64 (ckL l).1, .int .i64 (ckL l).2]) ∧ St w NoX [] w' := by
  refine calls_in 38 Try.func27 rfl rfl (by simp) (fun A0 hsz0 hdf0 hargs => ?_)
  have l0_0 := hargs 0 (cv) rfl
  clear hargs; replace hsz0 : SzN A0 38 := ⟨hsz0⟩
  have hS := St.nil w
  have bh_cv := SlN.le (sl_SlN h_cv.at)
  refine wp_seq_k (fun K1 hK1 => ?_)
  refine region_in ?_
  refine W_v rfl rfl (V_asg rfl rfl) ?_
  refine W_v rfl rfl (V_asg rfl rfl) ?_
  refine W_end ?_
  refine gen_Q (fun A2 hA2 => ?_)
  have hsz2 := szq hA2
  have hdf2 : A2.defers = [] := by rw [hA2]; simp only [df_put]; exact hdf0
  have l0_2 := lookE hA2 0 (es rfl (es rfl l0_0))
  clear hA2 hsz0 hdf0 l0_0
  refine then_n (hK1 _ _ ?_)
  clear hK1
  refine wp_seq_k (fun K3 hK3 => ?_)
  refine wp_seq_k (fun K4 hK4 => ?_)
  refine region_in ?_
  refine W_v rfl rfl (V_mov rfl l0_2) ?_
  refine W_v rfl rfl (V_lenS rfl (et rfl) (sl_SlN h_cv.at) Try.underlying28) ?_
  refine W_v rfl rfl (V_gtr rfl (et rfl) rfl) ?_
  refine W_end ?_
  refine gen_Q (fun A5 hA5 => ?_)
  have hsz5 := szq hA5
  have hdf5 : A5.defers = [] := by rw [hA5]; simp only [df_put]; exact hdf2
  have l0_5 := lookE hA5 0 (e2 rfl (es rfl l0_2))
  have l9_5 := lookE hA5 9 (et rfl)
  clear hA5 hsz2 hdf2 l0_2
  refine then_n (hK4 _ _ ?_)
  clear hK4
  refine cond_dec l9_5 (fun c6 => ?_) (fun c6 => ?_)
  · skip
    refine wp_seq_k (fun K7 hK7 => ?_)
    refine region_in ?_
    refine W_v rfl rfl (V_asg rfl rfl) ?_
    refine W_v rfl rfl (V_asg rfl rfl) ?_
    refine W_end ?_
    refine gen_Q (fun A8 hA8 => ?_)
    have hsz8 := szq hA8
    have hdf8 : A8.defers = [] := by rw [hA8]; simp only [df_put]; exact hdf5
    have l2_8 := lookE hA8 2 (es rfl (et rfl))
    have l3_8 := lookE hA8 3 (et rfl)
    clear hA8 hsz5 hdf5 l0_5 l9_5
    refine then_n (hK7 _ _ ?_)
    clear hK7
    refine wp_ret ?_
    refine then_ret ?_
    refine ret_in (results_2 Try.results27 (rv_tmp l2_8) (rv_tmp l3_8)) hdf8 ?_
    -- leaf T
    have hc := ckL_long c6
    rw [hc]
    exact ⟨rfl, hS.fin0⟩
  · skip
    refine wp_skip ?_
    refine then_n (hK3 _ _ ?_)
    clear hK3
    refine wp_seq_k (fun K9 hK9 => ?_)
    refine region_in ?_
    refine W_v rfl rfl (V_asg rfl rfl) ?_
    refine W_end ?_
    refine gen_Q (fun A10 hA10 => ?_)
    have hsz10 := szq hA10
    have hdf10 : A10.defers = [] := by rw [hA10]; simp only [df_put]; exact hdf5
    have l0_10 := lookE hA10 0 (es rfl l0_5)
    have l4_10 := lookE hA10 4 (et rfl)
    clear hA10 hsz5 hdf5 l0_5 l9_5
    refine then_n (hK9 _ _ ?_)
    clear hK9
    refine wp_seq_k (fun K11 hK11 => ?_)
    refine wp_seq_k (fun K12 hK12 => ?_)
    refine region_in ?_
    refine W_v rfl rfl (V_mov rfl l0_10) ?_
    refine W_v rfl rfl (V_lenS rfl (et rfl) (sl_SlN h_cv.at) Try.underlying28) ?_
    refine W_v rfl rfl (V_mov rfl rfl) ?_
    refine W_end ?_
    refine gen_Q (fun A13 hA13 => ?_)
    have hsz13 := szq hA13
    have hdf13 : A13.defers = [] := by rw [hA13]; simp only [df_put]; exact hdf10
    have l4_13 := lookE hA13 4 (e2 rfl (es rfl l4_10))
    have l10_13 := lookE hA13 10 (e2 rfl (et rfl))
    have l11_13 := lookE hA13 11 (es rfl (et rfl))
    have l12_13 := lookE hA13 12 (et rfl)
    clear hA13 hsz10 hdf10 l0_10 l4_10
    refine then_n (hK12 _ _ ?_)
    clear hK12
    refine wp_block ?_
    -- loop 5
    refine loopX (fun mz A' w' => SzN A' 38 ∧ A'.defers = [] ∧ (∃ (k : Nat), (mz = l.length - k) ∧ (k ≤ l.length) ∧ (ckL l = clGo (lst l k) (l.drop k) k) ∧ (EV A' (.tmp 12) = .int .i64 (k : Int)) ∧ (EV A' (.tmp 4) = .int .i64 (lst l k)) ∧ (EV A' (.tmp 10) = EV A13 (.tmp 10)) ∧ (EV A' (.tmp 11) = EV A13 (.tmp 11)) ∧ (St w NoX [] w'))) (l.length - 0) ⟨hsz13, hdf13, 0, rfl, (by omega), (ckL_init c6), ((l12_13).trans (by first | rfl | (simp; done) | (congr 1; omega))), ((l4_13).trans (rfl)), rfl, rfl, hS⟩ ?_
    clear hS
    rintro n14 A14 w14 ⟨hsz14, hdf14, k, hm14, hk, hz, l12_14, l4_14, u10_14, u11_14, hS14⟩
    have l10_14 := u10_14.trans l10_13
    have l11_14 := u11_14.trans l11_13
    refine wp_seq_k (fun K15 hK15 => ?_)
    refine region_in ?_
    refine W_v rfl rfl (V_lss rfl l12_14 l11_14) ?_
    refine W_end ?_
    refine gen_Q (fun A16 hA16 => ?_)
    have hsz16 := szq hA16
    have hdf16 : A16.defers = [] := by rw [hA16]; simp only [df_put]; exact hdf14
    have l4_16 := lookE hA16 4 (es rfl l4_14)
    have l10_16 := lookE hA16 10 (es rfl l10_14)
    have l11_16 := lookE hA16 11 (es rfl l11_14)
    have l12_16 := lookE hA16 12 (es rfl l12_14)
    have l13_16 := lookE hA16 13 (et rfl)
    clear hA16 hsz14 hdf14 l12_14 l4_14 l10_14 l11_14
    refine then_n (hK15 _ _ ?_)
    clear hK15
    refine wp_seq_k (fun K17 hK17 => ?_)
    refine cond_dec l13_16 (fun c18 => ?_) (fun c18 => ?_)
    · skip
      refine wp_skip ?_
      refine then_n (hK17 _ _ ?_)
      clear hK17
      refine wp_seq_k (fun K19 hK19 => ?_)
      refine wp_block ?_
      refine wp_seq_k (fun K20 hK20 => ?_)
      refine region_in ?_
      refine W_v rfl rfl (V_mov rfl l12_16) ?_
      have k21 : k < l.length := by first | omega | (simp only [List.length_cons, List.length_nil]; omega) | (simp only [List.length_set]; omega) | decide
      obtain ⟨y21, hy21⟩ := get_some (xs := l) (k := k) k21
      obtain ⟨B21, O21, C21, hv21⟩ := (SlN.blk (sl_SlN h_cv.at) (by first | omega | (simp only [List.length_cons, List.length_nil]; omega) | (simp only [List.length_set]; omega) | decide))
      refine W_v rfl rfl (V_ixS (off := O21 + k * 2) 2 (k) rfl (es rfl l10_16) (es rfl l12_16) hv21 (by omega) k21 Try.underlying28 (by kernel_rfl) rfl) ?_
      refine W_r rfl rfl (VR_ldR (ys := rcC y21) rfl (et rfl) (SlN.row rcC_len (sl_SlN (hS14.ro h_cv)) hv21 hy21 rfl) Try.underlying42 rfl (by kernel_rfl)) ?_
      refine W_allocS (z := .agg #[.int .i64 0, .int .i64 0]) (zs := #[.int .i64 0, .int .i64 0]) hS14 rfl rfl rfl (by kernel_rfl) (by rfl) (fun g22 w22 c22 hc22 hS22 => ?_)
      replace hS22 : St w NoX [c22] w22 := hS22
      refine W_v rfl rfl (V_asg rfl (e3 rfl (et rfl))) ?_
      refine W_stAS 0 hS22 rfl hc22 rfl rfl rfl (es rfl (et rfl)) (e2 rfl (et rfl)) (by first | (rw [List.all_toArray] <;> rfl) | (simp only [List.all_toArray, List.all_cons, List.all_nil] <;> rfl)) (by rfl) (by kernel_rfl) (fun w23 c23 hc23 hS23 => ?_)
      replace hS23 : St w NoX [c23] w23 := hS23
      refine W_end ?_
      refine gen_Q (fun A24 hA24 => ?_)
      have hsz24 := szq hA24
      have hdf24 : A24.defers = [] := by rw [hA24]; simp only [df_put]; exact hdf16
      have l4_24 := lookE hA24 4 (e4 rfl (es rfl l4_16))
      have l5_24 := lookE hA24 5 (et rfl)
      have l6_24 := lookE hA24 6 (es rfl (et rfl))
      have l10_24 := lookE hA24 10 (e4 rfl (es rfl l10_16))
      have l11_24 := lookE hA24 11 (e4 rfl (es rfl l11_16))
      have l12_24 := lookE hA24 12 (e4 rfl (es rfl l12_16))
      clear hA24 hsz16 hdf16 l4_16 l10_16 l11_16 l12_16 l13_16
      refine then_n (hK20 _ _ ?_)
      clear hK20
      refine wp_seq_k (fun K25 hK25 => ?_)
      refine wp_block ?_
      refine wp_seq_k (fun K26 hK26 => ?_)
      refine region_in ?_
      refine W_v rfl rfl (V_fa (off' := 0) rfl l6_24 Try.underlying42 rfl (by decide +kernel) rfl) ?_
      refine W_r rfl rfl (VR_ldC rfl (et rfl) (cell_box (v := .int .i64 (y21.1)) (hS23.obj 0 rfl hc23) rfl) Try.underlying3 rfl) ?_
      refine W_call rfl rfl rfl Try.func41 (by kernel_rfl) rfl (args1 (et rfl)) (kkn_c (a := y21.1)  ) ?_
      rintro _ w27 ⟨rfl, hP27⟩
      refine ⟨_, rfl, ?_⟩
      have hS27 := hS23.join hP27
      replace hS27 : St w NoX [c23] w27 := hS27
      refine W_v rfl rfl (V_notd rfl (et rfl)) ?_
      refine W_split rfl rfl (V_mov rfl (et rfl)) (fun c28 => ?_) (fun c28 => ?_)
      · skip
        refine W_off rfl (wanted_f rfl rfl (et rfl) (ez rfl) rfl) ?_
        refine W_off rfl (wanted_f rfl rfl (es rfl (et rfl)) (ez rfl) rfl) ?_
        refine W_off rfl (wanted_f rfl rfl (e2 rfl (et rfl)) (ez rfl) rfl) ?_
        refine W_off rfl (wanted_f rfl rfl (e3 rfl (et rfl)) (ez rfl) rfl) ?_
        refine W_v rfl rfl (V_pickT rfl (e4 rfl (et rfl)) rfl) ?_
        refine W_v rfl rfl (V_asg rfl (et rfl)) ?_
        refine W_end ?_
        refine gen_Q (fun A29 hA29 => ?_)
        have hsz29 := szq hA29
        have hdf29 : A29.defers = [] := by rw [hA29]; simp only [df_put]; exact hdf24
        have l4_29 := lookE hA29 4 (e10 rfl (es rfl l4_24))
        have l5_29 := lookE hA29 5 (e10 rfl (es rfl l5_24))
        have l6_29 := lookE hA29 6 (e10 rfl (es rfl l6_24))
        have l10_29 := lookE hA29 10 (e10 rfl (es rfl l10_24))
        have l11_29 := lookE hA29 11 (e10 rfl (es rfl l11_24))
        have l12_29 := lookE hA29 12 (e10 rfl (es rfl l12_24))
        have l17_29 := lookE hA29 17 (et rfl)
        have l23_29 := lookE hA29 23 (e5 rfl (et rfl))
        have l24_29 := lookE hA29 24 (e4 rfl (et rfl))
        have l25_29 := lookE hA29 25 (e3 rfl (et rfl))
        have l26_29 := lookE hA29 26 (e2 rfl (et rfl))
        clear hA29 hsz24 hdf24 l4_24 l5_24 l6_24 l10_24 l11_24 l12_24
        refine then_n (hK26 _ _ ?_)
        clear hK26
        refine cond_t l17_29 ?_
        refine wp_seq_k (fun K30 hK30 => ?_)
        refine region_in ?_
        refine W_v rfl rfl (V_mov rfl l5_29) ?_
        refine W_v rfl rfl (V_asg rfl (et rfl)) ?_
        refine W_v rfl rfl (V_asg rfl rfl) ?_
        refine W_end ?_
        refine gen_Q (fun A31 hA31 => ?_)
        have hsz31 := szq hA31
        have hdf31 : A31.defers = [] := by rw [hA31]; simp only [df_put]; exact hdf29
        have l2_31 := lookE hA31 2 (es rfl (et rfl))
        have l3_31 := lookE hA31 3 (et rfl)
        clear hA31 hsz29 hdf29 l4_29 l5_29 l6_29 l10_29 l11_29 l12_29 l17_29 l23_29 l24_29 l25_29 l26_29
        have hS32 : St w NoX [] w27 := hS27.sel [] (by decide) rfl
        refine then_n (hK30 _ _ ?_)
        clear hK30
        refine wp_ret ?_
        refine inb_ret ?_
        refine then_ret ?_
        refine inb_ret ?_
        refine then_ret ?_
        refine then_ret ?_
        refine inb_ret ?_
        refine then_ret ?_
        refine ret_in (results_2 Try.results27 (rv_tmp l2_31) (rv_tmp l3_31)) hdf31 ?_
        -- leaf FTT
        have hc := cl_rng hz hy21 (by unfold okC; omega)
        rw [hc]
        exact ⟨rfl, hS32.fin0⟩
      · skip
        refine W_v rfl (wanted_t rfl rfl (et rfl) (ez rfl)) (V_fa (off' := 1) rfl (e4 rfl (es rfl l6_24)) Try.underlying42 rfl (by decide +kernel) rfl) ?_
        refine W_r rfl (wanted_t rfl rfl (es rfl (et rfl)) (ez rfl)) (VR_ldC rfl (et rfl) (cell_box (v := .int .i64 (y21.2)) (hS27.obj 0 rfl hc23) rfl) Try.underlying3 rfl) ?_
        refine W_call rfl (wanted_t rfl rfl (e2 rfl (et rfl)) (ez rfl)) rfl Try.func41 (by kernel_rfl) rfl (args1 (et rfl)) (kkn_c (a := y21.2)  ) ?_
        rintro _ w33 ⟨rfl, hP33⟩
        refine ⟨_, rfl, ?_⟩
        have hS33 := hS27.join hP33
        replace hS33 : St w NoX [c23] w33 := hS33
        refine W_v rfl (wanted_t rfl rfl (e3 rfl (et rfl)) (ez rfl)) (V_notd rfl (et rfl)) ?_
        refine W_v rfl rfl (V_pickF rfl (e4 rfl (et rfl)) (et rfl)) ?_
        refine W_v rfl rfl (V_asg rfl (et rfl)) ?_
        refine W_end ?_
        refine gen_Q (fun A34 hA34 => ?_)
        have hsz34 := szq hA34
        have hdf34 : A34.defers = [] := by rw [hA34]; simp only [df_put]; exact hdf24
        have l4_34 := lookE hA34 4 (e10 rfl (es rfl l4_24))
        have l5_34 := lookE hA34 5 (e10 rfl (es rfl l5_24))
        have l6_34 := lookE hA34 6 (e10 rfl (es rfl l6_24))
        have l10_34 := lookE hA34 10 (e10 rfl (es rfl l10_24))
        have l11_34 := lookE hA34 11 (e10 rfl (es rfl l11_24))
        have l12_34 := lookE hA34 12 (e10 rfl (es rfl l12_24))
        have l17_34 := lookE hA34 17 (et rfl)
        have l23_34 := lookE hA34 23 (e5 rfl (et rfl))
        have l24_34 := lookE hA34 24 (e4 rfl (et rfl))
        have l25_34 := lookE hA34 25 (e3 rfl (et rfl))
        have l26_34 := lookE hA34 26 (e2 rfl (et rfl))
        clear hA34 hsz24 hdf24 l4_24 l5_24 l6_24 l10_24 l11_24 l12_24
        refine then_n (hK26 _ _ ?_)
        clear hK26
        refine cond_dec l17_34 (fun c35 => ?_) (fun c35 => ?_)
        · skip
          refine wp_seq_k (fun K36 hK36 => ?_)
          refine region_in ?_
          refine W_v rfl rfl (V_mov rfl l5_34) ?_
          refine W_v rfl rfl (V_asg rfl (et rfl)) ?_
          refine W_v rfl rfl (V_asg rfl rfl) ?_
          refine W_end ?_
          refine gen_Q (fun A37 hA37 => ?_)
          have hsz37 := szq hA37
          have hdf37 : A37.defers = [] := by rw [hA37]; simp only [df_put]; exact hdf34
          have l2_37 := lookE hA37 2 (es rfl (et rfl))
          have l3_37 := lookE hA37 3 (et rfl)
          clear hA37 hsz34 hdf34 l4_34 l5_34 l6_34 l10_34 l11_34 l12_34 l17_34 l23_34 l24_34 l25_34 l26_34
          have hS38 : St w NoX [] w33 := hS33.sel [] (by decide) rfl
          refine then_n (hK36 _ _ ?_)
          clear hK36
          refine wp_ret ?_
          refine inb_ret ?_
          refine then_ret ?_
          refine inb_ret ?_
          refine then_ret ?_
          refine then_ret ?_
          refine inb_ret ?_
          refine then_ret ?_
          refine ret_in (results_2 Try.results27 (rv_tmp l2_37) (rv_tmp l3_37)) hdf37 ?_
          -- leaf FTFT
          have hc := cl_rng hz hy21 (by unfold okC; omega)
          rw [hc]
          exact ⟨rfl, hS38.fin0⟩
        · skip
          refine wp_seq_k (fun K39 hK39 => ?_)
          refine region_in ?_
          refine W_v rfl rfl (V_fa (off' := 0) rfl l6_34 Try.underlying42 rfl (by decide +kernel) rfl) ?_
          refine W_r rfl rfl (VR_ldC rfl (et rfl) (cell_box (v := .int .i64 (y21.1)) (hS33.obj 0 rfl hc23) rfl) Try.underlying3 rfl) ?_
          refine W_v rfl rfl (V_mov rfl (es rfl (es rfl l4_34))) ?_
          refine W_v rfl rfl (V_leq rfl (es rfl (et rfl)) (et rfl)) ?_
          refine W_v rfl rfl (V_asg rfl (et rfl)) ?_
          refine W_end ?_
          refine gen_Q (fun A40 hA40 => ?_)
          have hsz40 := szq hA40
          have hdf40 : A40.defers = [] := by rw [hA40]; simp only [df_put]; exact hdf34
          have l5_40 := lookE hA40 5 (e4 rfl (es rfl l5_34))
          have l6_40 := lookE hA40 6 (e4 rfl (es rfl l6_34))
          have l10_40 := lookE hA40 10 (e4 rfl (es rfl l10_34))
          have l11_40 := lookE hA40 11 (e4 rfl (es rfl l11_34))
          have l12_40 := lookE hA40 12 (e4 rfl (es rfl l12_34))
          have l23_40 := lookE hA40 23 (e4 rfl (es rfl l23_34))
          have l24_40 := lookE hA40 24 (e4 rfl (es rfl l24_34))
          have l25_40 := lookE hA40 25 (e4 rfl (es rfl l25_34))
          have l26_40 := lookE hA40 26 (e4 rfl (es rfl l26_34))
          have l29_40 := lookE hA40 29 (et rfl)
          clear hA40 hsz34 hdf34 l4_34 l5_34 l6_34 l10_34 l11_34 l12_34 l17_34 l23_34 l24_34 l25_34 l26_34
          refine then_n (hK39 _ _ ?_)
          clear hK39
          refine cond_dec l29_40 (fun c41 => ?_) (fun c41 => ?_)
          · skip
            refine wp_seq_k (fun K42 hK42 => ?_)
            refine region_in ?_
            refine W_v rfl rfl (V_mov rfl l5_40) ?_
            refine W_v rfl rfl (V_asg rfl (et rfl)) ?_
            refine W_v rfl rfl (V_asg rfl rfl) ?_
            refine W_end ?_
            refine gen_Q (fun A43 hA43 => ?_)
            have hsz43 := szq hA43
            have hdf43 : A43.defers = [] := by rw [hA43]; simp only [df_put]; exact hdf40
            have l2_43 := lookE hA43 2 (es rfl (et rfl))
            have l3_43 := lookE hA43 3 (et rfl)
            clear hA43 hsz40 hdf40 l5_40 l6_40 l10_40 l11_40 l12_40 l23_40 l24_40 l25_40 l26_40 l29_40
            have hS44 : St w NoX [] w33 := hS33.sel [] (by decide) rfl
            refine then_n (hK42 _ _ ?_)
            clear hK42
            refine wp_ret ?_
            refine inb_ret ?_
            refine then_ret ?_
            refine inb_ret ?_
            refine then_ret ?_
            refine then_ret ?_
            refine inb_ret ?_
            refine then_ret ?_
            refine ret_in (results_2 Try.results27 (rv_tmp l2_43) (rv_tmp l3_43)) hdf43 ?_
            -- leaf FTFFT
            have hc := cl_form hz hy21 (by unfold okC; omega) (by omega)
            rw [hc]
            exact ⟨rfl, hS44.fin0⟩
          · skip
            refine wp_skip ?_
            refine inb_n ?_
            refine then_n (hK25 _ _ ?_)
            clear hK25
            refine region_in ?_
            refine W_v rfl rfl (V_fa (off' := 0) rfl l6_40 Try.underlying42 rfl (by decide +kernel) rfl) ?_
            refine W_r rfl rfl (VR_ldC rfl (et rfl) (cell_box (v := .int .i64 (y21.1)) (hS33.obj 0 rfl hc23) rfl) Try.underlying3 rfl) ?_
            refine W_v rfl rfl (V_asg rfl (et rfl)) ?_
            refine W_end ?_
            refine gen_Q (fun A45 hA45 => ?_)
            have hsz45 := szq hA45
            have hdf45 : A45.defers = [] := by rw [hA45]; simp only [df_put]; exact hdf40
            have l4_45 := lookE hA45 4 (et rfl)
            have l10_45 := lookE hA45 10 (e2 rfl (es rfl l10_40))
            have l11_45 := lookE hA45 11 (e2 rfl (es rfl l11_40))
            have l12_45 := lookE hA45 12 (e2 rfl (es rfl l12_40))
            have l23_45 := lookE hA45 23 (e2 rfl (es rfl l23_40))
            have l24_45 := lookE hA45 24 (e2 rfl (es rfl l24_40))
            have l25_45 := lookE hA45 25 (e2 rfl (es rfl l25_40))
            have l26_45 := lookE hA45 26 (e2 rfl (es rfl l26_40))
            clear hA45 hsz40 hdf40 l5_40 l6_40 l10_40 l11_40 l12_40 l23_40 l24_40 l25_40 l26_40 l29_40
            refine inb_n ?_
            refine then_n (hK19 _ _ ?_)
            clear hK19
            refine region_in ?_
            refine W_v rfl rfl (V_add rfl l12_45 rfl (by omega) (by omega)) ?_
            refine W_v rfl rfl (V_mov rfl (et rfl)) ?_
            refine W_end ?_
            refine gen_Q (fun A46 hA46 => ?_)
            have hsz46 := szq hA46
            have hdf46 : A46.defers = [] := by rw [hA46]; simp only [df_put]; exact hdf45
            have l4_46 := lookE hA46 4 (es rfl (es rfl l4_45))
            have l10_46 := lookE hA46 10 (es rfl (es rfl l10_45))
            have l11_46 := lookE hA46 11 (es rfl (es rfl l11_45))
            have l12_46 := lookE hA46 12 (et rfl)
            have l23_46 := lookE hA46 23 (es rfl (es rfl l23_45))
            have l24_46 := lookE hA46 24 (es rfl (es rfl l24_45))
            have l25_46 := lookE hA46 25 (es rfl (es rfl l25_45))
            have l26_46 := lookE hA46 26 (es rfl (es rfl l26_45))
            clear hA46 hsz45 hdf45 l4_45 l10_45 l11_45 l12_45 l23_45 l24_45 l25_45 l26_45
            have hS47 : St w NoX [] w33 := hS33.sel [] (by decide) rfl
            refine then_n ⟨l.length - (k + 1), by simp only [hm14]; omega, hsz46, hdf46, (k + 1), rfl, (by omega), (cl_step hz hy21 (by unfold okC; omega) (by omega)), ((l12_46).trans (by first | rfl | (simp; done) | (congr 1; omega))), ((l4_46).trans ((by rw [lst_succ hy21]))), ((l10_46).trans l10_13.symm), ((l11_46).trans l11_13.symm), hS47⟩
    · skip
      refine wp_exit ?_
      refine then_exit ?_
      refine then_exit ?_
      refine inb_hit ?_
      refine then_n (hK11 _ _ ?_)
      clear hK11
      refine wp_seq_k (fun K48 hK48 => ?_)
      refine region_in ?_
      refine W_v rfl rfl (V_asg rfl rfl) ?_
      refine W_v rfl rfl (V_asg rfl rfl) ?_
      refine W_end ?_
      refine gen_Q (fun A49 hA49 => ?_)
      have hsz49 := szq hA49
      have hdf49 : A49.defers = [] := by rw [hA49]; simp only [df_put]; exact hdf16
      have l2_49 := lookE hA49 2 (es rfl (et rfl))
      have l3_49 := lookE hA49 3 (et rfl)
      clear hA49 hsz16 hdf16 l4_16 l10_16 l11_16 l12_16 l13_16
      refine then_n (hK48 _ _ ?_)
      clear hK48
      refine wp_ret ?_
      refine ret_in (results_2 Try.results27 (rv_tmp l2_49) (rv_tmp l3_49)) hdf49 ?_
      -- leaf FF
      have hc := cl_done hz (by omega)
      rw [hc]
      exact ⟨rfl, hS14.fin0⟩

end Go.Proofs.Ytnfgeekaeegolaa