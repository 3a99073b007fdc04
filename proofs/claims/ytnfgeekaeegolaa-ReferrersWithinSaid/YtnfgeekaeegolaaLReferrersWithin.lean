import Derived.Test.YtnfgeekaeegolaaProg
import Derived.Test.YtnfgeekaeegolaaRd4
import Derived.Test.YtnfgeekaeegolaaRe6
import Derived.Test.YtnfgeekaeegolaaPl9o
import Derived.Test.YtnfgeekaeegolaaSepL
namespace Go.Proofs.Ytnfgeekaeegolaa
open Go.RowKit Go.Own Go.Own.R Go.Own.S Go.Own.F


set_option maxHeartbeats 4000000 in
theorem ReferrersWithin_c {cv : Value} {l : List (Int × Int)} {x0 : Int} {x1 : Int} {x2 : Int} {w : World} (h_cv : Ro w NoX (rl 2 rcC cv l)) (h0 : 0 ≤ x0 ∧ x0 ≤ 65535) (h1 : 0 ≤ x1 ∧ x1 ≤ 65535) (h2 : 0 ≤ x2 ∧ x2 ≤ 65535) :
    Calls Try.prog 10 #[cv, .agg #[.int .u16 x0, .int .u16 x1, .int .u16 x2]] w fun e w' => e = .returned (.bool true) ∧ St w NoX [] w' := by
  have hm := mnx3 h0 h1 h2
  refine calls_in 199 Try.func10 rfl rfl (by simp) (fun A0 hsz0 hdf0 hargs => ?_)
  have l0_0 := hargs 0 (cv) rfl
  have l1_0 := hargs 1 (.agg #[.int .u16 x0, .int .u16 x1, .int .u16 x2]) rfl
  clear hargs; replace hsz0 : SzN A0 199 := ⟨hsz0⟩
  have hS := St.nil w
  have bh_cv := SlN.le (sl_SlN h_cv.at)
  refine wp_seq_k (fun K1 hK1 => ?_)
  refine region_in ?_
  refine W_boxS (zs := #[.int .u16 (x0), .int .u16 (x1), .int .u16 (x2)]) hS rfl rfl rfl l1_0 (by rfl) (fun g2 w2 c2 hc2 hS2 => ?_)
  replace hS2 : St w NoX [c2] w2 := hS2
  refine W_v rfl rfl (V_asg rfl rfl) ?_
  refine W_end ?_
  refine gen_Q (fun A3 hA3 => ?_)
  have hsz3 := szq hA3
  have hdf3 : A3.defers = [] := by rw [hA3]; simp only [df_put]; exact hdf0
  have l0_3 := lookE hA3 0 (es rfl (es rfl l0_0))
  have l3_3 := lookE hA3 3 (es rfl (et rfl))
  clear hA3 hsz0 hdf0 l0_0 l1_0
  refine then_n (hK1 _ _ ?_)
  clear hK1
  refine wp_seq_k (fun K4 hK4 => ?_)
  refine region_in ?_
  refine W_v rfl rfl (V_mov rfl l0_3) ?_
  refine W_call rfl rfl rfl Try.func27 (by kernel_rfl) rfl (args1 (et rfl)) (kCk9_c (hS2.roC h_cv) ) ?_
  rintro _ w5 ⟨rfl, hP5⟩
  refine ⟨_, rfl, ?_⟩
  have hS5 := hS2.join hP5
  replace hS5 : St w NoX [c2] w5 := hS5
  refine W_v rfl rfl (V_mov rfl (et rfl)) ?_
  refine W_v rfl rfl (V_ext (v := .int .i64 ((ckL l).1)) rfl (et rfl) rfl) ?_
  refine W_v rfl rfl (V_ext (v := .int .i64 ((ckL l).2)) rfl (es rfl (et rfl)) rfl) ?_
  refine W_v rfl rfl (V_asg rfl (es rfl (et rfl))) ?_
  refine W_v rfl rfl (V_asg rfl (es rfl (et rfl))) ?_
  refine W_end ?_
  refine gen_Q (fun A6 hA6 => ?_)
  have hsz6 := szq hA6
  have hdf6 : A6.defers = [] := by rw [hA6]; simp only [df_put]; exact hdf3
  have l0_6 := lookE hA6 0 (e6 rfl (es rfl l0_3))
  have l3_6 := lookE hA6 3 (e6 rfl (es rfl l3_3))
  have l6_6 := lookE hA6 6 (et rfl)
  clear hA6 hsz3 hdf3 l0_3 l3_3
  refine then_n (hK4 _ _ ?_)
  clear hK4
  refine wp_seq_k (fun K7 hK7 => ?_)
  refine wp_seq_k (fun K8 hK8 => ?_)
  refine region_in ?_
  refine W_v rfl rfl (V_mov rfl l0_6) ?_
  refine W_call rfl rfl rfl Try.func24 (by kernel_rfl) rfl (args1 (et rfl)) (qlong_c (hS5.roC h_cv) ) ?_
  rintro _ w9 ⟨rfl, hP9⟩
  refine ⟨_, rfl, ?_⟩
  have hS9 := hS5.join hP9
  replace hS9 : St w NoX [c2] w9 := hS9
  refine W_split rfl rfl (V_mov rfl (et rfl)) (fun c10 => ?_) (fun c10 => ?_)
  · skip
    refine W_off rfl (wanted_f rfl rfl (et rfl) (ez rfl) rfl) ?_
    refine W_off rfl (wanted_f rfl rfl (es rfl (et rfl)) (ez rfl) rfl) ?_
    refine W_off rfl (wanted_f rfl rfl (e2 rfl (et rfl)) (ez rfl) rfl) ?_
    refine W_v rfl rfl (V_pickT rfl (e3 rfl (et rfl)) rfl) ?_
    refine W_v rfl rfl (V_mov rfl (et rfl)) ?_
    refine W_off rfl (wanted_f rfl rfl (et rfl) (ez rfl) rfl) ?_
    refine W_off rfl (wanted_f rfl rfl (es rfl (et rfl)) (ez rfl) rfl) ?_
    refine W_v rfl rfl (V_pickT rfl (e2 rfl (et rfl)) rfl) ?_
    refine W_end ?_
    refine gen_Q (fun A11 hA11 => ?_)
    have hsz11 := szq hA11
    have hdf11 : A11.defers = [] := by rw [hA11]; simp only [df_put]; exact hdf6
    have l0_11 := lookE hA11 0 (e10 rfl (es rfl l0_6))
    have l3_11 := lookE hA11 3 (e10 rfl (es rfl l3_6))
    have l41_11 := lookE hA11 41 (et rfl)
    clear hA11 hsz6 hdf6 l0_6 l3_6 l6_6
    refine then_n (hK8 _ _ ?_)
    clear hK8
    refine cond_t l41_11 ?_
    refine wp_seq_k (fun K12 hK12 => ?_)
    refine region_in ?_
    refine W_call rfl rfl rfl Try.func12 (by kernel_rfl) rfl (args0) (awk_c  ) ?_
    rintro _ w13 ⟨rfl, hP13⟩
    refine ⟨_, rfl, ?_⟩
    have hS13 := hS9.join hP13
    replace hS13 : St w NoX [c2] w13 := hS13
    refine W_v rfl rfl (V_asg rfl (et rfl)) ?_
    refine W_end ?_
    refine gen_Q (fun A14 hA14 => ?_)
    have hsz14 := szq hA14
    have hdf14 : A14.defers = [] := by rw [hA14]; simp only [df_put]; exact hdf11
    have l4_14 := lookE hA14 4 (et rfl)
    clear hA14 hsz11 hdf11 l0_11 l3_11 l41_11
    have hS15 : St w NoX [] w13 := hS13.sel [] (by decide) rfl
    refine then_n (hK12 _ _ ?_)
    clear hK12
    refine wp_ret ?_
    refine then_ret ?_
    refine ret_in (results_1 Try.results10 (rv_tmp l4_14)) hdf14 ?_
    -- leaf T
    exact ⟨rfl, hS15.fin0⟩
  · skip
    refine W_v rfl (wanted_t rfl rfl (et rfl) (ez rfl)) (V_mov rfl (e2 rfl (es rfl l0_6))) ?_
    refine W_v rfl (wanted_t rfl rfl (es rfl (et rfl)) (ez rfl)) (V_lenS rfl (et rfl) (sl_SlN h_cv.at) Try.underlying28) ?_
    refine W_v rfl (wanted_t rfl rfl (e2 rfl (et rfl)) (ez rfl)) (V_gtr rfl (et rfl) rfl) ?_
    refine W_v rfl rfl (V_pickF rfl (e3 rfl (et rfl)) (et rfl)) ?_
    refine W_split rfl rfl (V_mov rfl (et rfl)) (fun c16 => ?_) (fun c16 => ?_)
    · skip
      refine W_off rfl (wanted_f rfl rfl (et rfl) (ez rfl) rfl) ?_
      refine W_off rfl (wanted_f rfl rfl (es rfl (et rfl)) (ez rfl) rfl) ?_
      refine W_v rfl rfl (V_pickT rfl (e2 rfl (et rfl)) rfl) ?_
      refine W_end ?_
      refine gen_Q (fun A17 hA17 => ?_)
      have hsz17 := szq hA17
      have hdf17 : A17.defers = [] := by rw [hA17]; simp only [df_put]; exact hdf6
      have l0_17 := lookE hA17 0 (e10 rfl (es rfl l0_6))
      have l3_17 := lookE hA17 3 (e10 rfl (es rfl l3_6))
      have l41_17 := lookE hA17 41 (et rfl)
      clear hA17 hsz6 hdf6 l0_6 l3_6 l6_6
      refine then_n (hK8 _ _ ?_)
      clear hK8
      refine cond_t l41_17 ?_
      refine wp_seq_k (fun K18 hK18 => ?_)
      refine region_in ?_
      refine W_call rfl rfl rfl Try.func12 (by kernel_rfl) rfl (args0) (awk_c  ) ?_
      rintro _ w19 ⟨rfl, hP19⟩
      refine ⟨_, rfl, ?_⟩
      have hS19 := hS9.join hP19
      replace hS19 : St w NoX [c2] w19 := hS19
      refine W_v rfl rfl (V_asg rfl (et rfl)) ?_
      refine W_end ?_
      refine gen_Q (fun A20 hA20 => ?_)
      have hsz20 := szq hA20
      have hdf20 : A20.defers = [] := by rw [hA20]; simp only [df_put]; exact hdf17
      have l4_20 := lookE hA20 4 (et rfl)
      clear hA20 hsz17 hdf17 l0_17 l3_17 l41_17
      have hS21 : St w NoX [] w19 := hS19.sel [] (by decide) rfl
      refine then_n (hK18 _ _ ?_)
      clear hK18
      refine wp_ret ?_
      refine then_ret ?_
      refine ret_in (results_1 Try.results10 (rv_tmp l4_20)) hdf20 ?_
      -- leaf FT
      exact ⟨rfl, hS21.fin0⟩
    · skip
      refine W_v rfl (wanted_t rfl rfl (et rfl) (ez rfl)) (V_mov rfl (e7 rfl (es rfl l6_6))) ?_
      refine W_v rfl (wanted_t rfl rfl (es rfl (et rfl)) (ez rfl)) (V_neq rfl (et rfl) rfl) ?_
      refine W_v rfl rfl (V_pickF rfl (e2 rfl (et rfl)) (et rfl)) ?_
      refine W_end ?_
      refine gen_Q (fun A22 hA22 => ?_)
      have hsz22 := szq hA22
      have hdf22 : A22.defers = [] := by rw [hA22]; simp only [df_put]; exact hdf6
      have l0_22 := lookE hA22 0 (e10 rfl (es rfl l0_6))
      have l3_22 := lookE hA22 3 (e10 rfl (es rfl l3_6))
      have l41_22 := lookE hA22 41 (et rfl)
      clear hA22 hsz6 hdf6 l0_6 l3_6 l6_6
      refine then_n (hK8 _ _ ?_)
      clear hK8
      refine cond_dec l41_22 (fun c23 => ?_) (fun c23 => ?_)
      · skip
        refine wp_seq_k (fun K24 hK24 => ?_)
        refine region_in ?_
        refine W_call rfl rfl rfl Try.func12 (by kernel_rfl) rfl (args0) (awk_c  ) ?_
        rintro _ w25 ⟨rfl, hP25⟩
        refine ⟨_, rfl, ?_⟩
        have hS25 := hS9.join hP25
        replace hS25 : St w NoX [c2] w25 := hS25
        refine W_v rfl rfl (V_asg rfl (et rfl)) ?_
        refine W_end ?_
        refine gen_Q (fun A26 hA26 => ?_)
        have hsz26 := szq hA26
        have hdf26 : A26.defers = [] := by rw [hA26]; simp only [df_put]; exact hdf22
        have l4_26 := lookE hA26 4 (et rfl)
        clear hA26 hsz22 hdf22 l0_22 l3_22 l41_22
        have hS27 : St w NoX [] w25 := hS25.sel [] (by decide) rfl
        refine then_n (hK24 _ _ ?_)
        clear hK24
        refine wp_ret ?_
        refine then_ret ?_
        refine ret_in (results_1 Try.results10 (rv_tmp l4_26)) hdf26 ?_
        -- leaf FFT
        exact ⟨rfl, hS27.fin0⟩
      · skip
        have hck : (ckL l).2 = 0 := by omega
        refine wp_skip ?_
        refine then_n (hK7 _ _ ?_)
        clear hK7
        refine wp_seq_k (fun K28 hK28 => ?_)
        refine region_monoS 30 30 [] (by kernel_rfl) (by kernel_rfl) ?_
        refine D_v rfl rfl (V_ixA (sz := 1) (off' := 0) 0 rfl l3_22 rfl (by rfl) Try.underlying59 (by decide) (by kernel_rfl) rfl) rfl rfl ?_
        refine D_r rfl rfl (by kernel_rfl) (fun sx hx hF => (VR_ldC rfl (et rfl) (cell_box (v := .int .u16 (x0)) ((hS9.grow hx).obj 0 rfl hc2) rfl) Try.underlying43 rfl)) rfl rfl ?_
        refine D_v rfl rfl (V_ixA (sz := 1) (off' := 1) 1 rfl (es rfl (es rfl l3_22)) rfl (by rfl) Try.underlying59 (by decide) (by kernel_rfl) rfl) rfl rfl ?_
        refine D_r rfl rfl (by kernel_rfl) (fun sx hx hF => (VR_ldC rfl (et rfl) (cell_box (v := .int .u16 (x1)) ((hS9.grow hx).obj 0 rfl hc2) rfl) Try.underlying43 rfl)) rfl rfl ?_
        refine D_v rfl rfl (V_ixA (sz := 1) (off' := 2) 2 rfl (e3 rfl (es rfl l3_22)) rfl (by rfl) Try.underlying59 (by decide) (by kernel_rfl) rfl) rfl rfl ?_
        refine D_r rfl rfl (by kernel_rfl) (fun sx hx hF => (VR_ldC rfl (et rfl) (cell_box (v := .int .u16 (x2)) ((hS9.grow hx).obj 0 rfl hc2) rfl) Try.underlying43 rfl)) rfl rfl ?_
        refine D_v rfl rfl (V_min3 rfl (e4 rfl (et rfl)) (e2 rfl (et rfl)) (et rfl)) rfl rfl ?_
        refine D_v rfl rfl (V_cvt rfl (et rfl) Try.underlying43 Try.underlying3 (wrap_i64 (by omega) (by omega))) rfl rfl ?_
        refine D_v rfl rfl (V_ixA (sz := 1) (off' := 0) 0 rfl (e7 rfl (es rfl l3_22)) rfl (by rfl) Try.underlying59 (by decide) (by kernel_rfl) rfl) rfl rfl ?_
        refine D_r rfl rfl (by kernel_rfl) (fun sx hx hF => (VR_ldC rfl (et rfl) (cell_box (v := .int .u16 (x0)) ((hS9.grow hx).obj 0 rfl hc2) rfl) Try.underlying43 rfl)) rfl rfl ?_
        refine D_v rfl rfl (V_cvt rfl (et rfl) Try.underlying43 Try.underlying3 (wrap_i64 (by omega) (by omega))) rfl rfl ?_
        refine D_v rfl rfl (V_ixA (sz := 1) (off' := 1) 1 rfl (e10 rfl (es rfl l3_22)) rfl (by rfl) Try.underlying59 (by decide) (by kernel_rfl) rfl) rfl rfl ?_
        refine D_r rfl rfl (by kernel_rfl) (fun sx hx hF => (VR_ldC rfl (et rfl) (cell_box (v := .int .u16 (x1)) ((hS9.grow hx).obj 0 rfl hc2) rfl) Try.underlying43 rfl)) rfl rfl ?_
        refine D_v rfl rfl (V_cvt rfl (et rfl) Try.underlying43 Try.underlying3 (wrap_i64 (by omega) (by omega))) rfl rfl ?_
        refine D_v rfl rfl (V_add rfl (e3 rfl (et rfl)) (et rfl) (by omega) (by omega)) rfl rfl ?_
        refine D_v rfl rfl (V_ixA (sz := 1) (off' := 2) 2 rfl (e14 rfl (es rfl l3_22)) rfl (by rfl) Try.underlying59 (by decide) (by kernel_rfl) rfl) rfl rfl ?_
        refine D_r rfl rfl (by kernel_rfl) (fun sx hx hF => (VR_ldC rfl (et rfl) (cell_box (v := .int .u16 (x2)) ((hS9.grow hx).obj 0 rfl hc2) rfl) Try.underlying43 rfl)) rfl rfl ?_
        refine D_v rfl rfl (V_cvt rfl (et rfl) Try.underlying43 Try.underlying3 (wrap_i64 (by omega) (by omega))) rfl rfl ?_
        refine D_v rfl rfl (V_add rfl (e3 rfl (et rfl)) (et rfl) (by omega) (by omega)) rfl rfl ?_
        refine D_v rfl rfl (V_ixA (sz := 1) (off' := 0) 0 rfl (e18 rfl (es rfl l3_22)) rfl (by rfl) Try.underlying59 (by decide) (by kernel_rfl) rfl) rfl rfl ?_
        refine D_r rfl rfl (by kernel_rfl) (fun sx hx hF => (VR_ldC rfl (et rfl) (cell_box (v := .int .u16 (x0)) ((hS9.grow hx).obj 0 rfl hc2) rfl) Try.underlying43 rfl)) rfl rfl ?_
        refine D_v rfl rfl (V_ixA (sz := 1) (off' := 1) 1 rfl (e20 rfl (es rfl l3_22)) rfl (by rfl) Try.underlying59 (by decide) (by kernel_rfl) rfl) rfl rfl ?_
        refine D_r rfl rfl (by kernel_rfl) (fun sx hx hF => (VR_ldC rfl (et rfl) (cell_box (v := .int .u16 (x1)) ((hS9.grow hx).obj 0 rfl hc2) rfl) Try.underlying43 rfl)) rfl rfl ?_
        refine D_v rfl rfl (V_ixA (sz := 1) (off' := 2) 2 rfl (e22 rfl (es rfl l3_22)) rfl (by rfl) Try.underlying59 (by decide) (by kernel_rfl) rfl) rfl rfl ?_
        refine D_r rfl rfl (by kernel_rfl) (fun sx hx hF => (VR_ldC rfl (et rfl) (cell_box (v := .int .u16 (x2)) ((hS9.grow hx).obj 0 rfl hc2) rfl) Try.underlying43 rfl)) rfl rfl ?_
        refine D_v rfl rfl (V_max3 rfl (e4 rfl (et rfl)) (e2 rfl (et rfl)) (et rfl)) rfl rfl ?_
        refine D_v rfl rfl (V_cvt rfl (et rfl) Try.underlying43 Try.underlying3 (wrap_i64 (by omega) (by omega))) rfl rfl ?_
        refine D_v rfl rfl (V_asg rfl (e19 rfl (et rfl))) rfl rfl ?_
        refine D_v rfl rfl (V_asg rfl (e9 rfl (et rfl))) rfl rfl ?_
        refine D_v rfl rfl (V_asg rfl (e2 rfl (et rfl))) rfl rfl ?_
        refine ZS_none hS9 (Nat.le_refl _) (Nat.le_refl _) (fun s38 hJ38 hL38 hF38 => ?_)
        have hS38 := hJ38.st; clear hF38 hJ38 hL38
        generalize s38.1 = w38 at *
        replace hS38 : St w NoX [c2] w38 := hS38
        refine gen_Q (fun A39 hA39 => ?_)
        have hsz39 := szq hA39
        have hdf39 : A39.defers = [] := by rw [hA39]; simp only [df_put]; exact hdf22
        have l0_39 := lookE hA39 0 (e25 rfl (es rfl (es rfl (es rfl (es rfl (es rfl l0_22))))))
        have l7_39 := lookE hA39 7 (e2 rfl (et rfl))
        have l8_39 := lookE hA39 8 (es rfl (et rfl))
        have l9_39 := lookE hA39 9 (et rfl)
        clear hA39 hsz22 hdf22 l0_22 l3_22 l41_22
        have hS40 : St w NoX [] w38 := hS38.sel [] (by decide) rfl
        obtain ⟨qa, hqa⟩ : ∃ z : Int, z = (mn3 x0 x1 x2) := ⟨_, rfl⟩
        rw [← hqa] at l7_39
        obtain ⟨qc, hqc⟩ : ∃ z : Int, z = (mx3 x0 x1 x2) := ⟨_, rfl⟩
        rw [← hqc] at l9_39
        rw [← hqa, ← hqc] at hm
        refine then_n (hK28 _ _ ?_)
        clear hK28
        refine wp_seq_k (fun K41 hK41 => ?_)
        refine region_in ?_
        refine W_v rfl rfl (V_mov rfl l8_39) ?_
        refine W_v rfl rfl (V_mov rfl (es rfl l7_39)) ?_
        refine W_v rfl rfl (V_sb rfl (es rfl (et rfl)) (et rfl) (by omega) (by omega)) ?_
        refine W_v rfl rfl (V_mov rfl (e2 rfl (es rfl l9_39))) ?_
        refine W_v rfl rfl (V_sb rfl (es rfl (et rfl)) (et rfl) (by omega) (by omega)) ?_
        refine W_v rfl rfl (V_asg rfl (et rfl)) ?_
        refine W_end ?_
        refine gen_Q (fun A42 hA42 => ?_)
        have hsz42 := szq hA42
        have hdf42 : A42.defers = [] := by rw [hA42]; simp only [df_put]; exact hdf39
        have l0_42 := lookE hA42 0 (e5 rfl (es rfl l0_39))
        have l7_42 := lookE hA42 7 (e5 rfl (es rfl l7_39))
        have l8_42 := lookE hA42 8 (et rfl)
        have l9_42 := lookE hA42 9 (e5 rfl (es rfl l9_39))
        clear hA42 hsz39 hdf39 l0_39 l7_39 l8_39 l9_39
        obtain ⟨qb, hqb⟩ : ∃ z : Int, z = ((((x0 + x1) + x2) - qa) - qc) := ⟨_, rfl⟩
        rw [← hqb] at l8_42
        have habc : qa ≤ qb ∧ qb ≤ qc := by omega
        obtain ⟨w1, w2, w3, w4, w5, w6, w7⟩ := within_law hck habc.1 habc.2
        have hp : ppT (wiT l qa qc) 2 = (ppT l 2).filter (fun z => decide (qa ≤ z ∧ z < qc)) := by rw [w7, w6]
        have hl2 := ppT_len l 2
        have hl3 : (ppT (wiT l qa qc) 2).length ≤ l.length := by rw [hp]; exact Nat.le_trans (List.length_filter_le _ _) hl2
        refine then_n (hK41 _ _ ?_)
        clear hK41
        refine wp_seq_k (fun K43 hK43 => ?_)
        refine region_in ?_
        refine W_v rfl rfl (V_mov rfl l0_42) ?_
        refine W_v rfl rfl (V_mov rfl (es rfl l7_42)) ?_
        refine W_v rfl rfl (V_mov rfl (es rfl (es rfl l8_42))) ?_
        refine W_call rfl rfl rfl Try.func31 (by kernel_rfl) rfl (args3 (e2 rfl (et rfl)) (es rfl (et rfl)) (et rfl)) (kwi_c (f := qa) (t := qb) (hS40.roC h_cv) ) ?_
        rintro _ w44 ⟨v_44, rfl, hP44⟩
        refine ⟨_, rfl, ?_⟩
        obtain ⟨c_44, hc_44, hP44⟩ := gen1 hP44
        have hS44 := hS40.join hP44
        replace hS44 : St w NoX [c_44] w44 := hS44
        refine W_v rfl rfl (V_mov rfl (et rfl)) ?_
        refine W_v rfl rfl (V_ext (v := v_44) rfl (et rfl) rfl) ?_
        refine W_v rfl rfl (V_ext (v := .int .i64 ((ckL l).2)) rfl (es rfl (et rfl)) rfl) ?_
        refine W_v rfl rfl (V_asg rfl (es rfl (et rfl))) ?_
        refine W_v rfl rfl (V_asg rfl (es rfl (et rfl))) ?_
        refine W_end ?_
        refine gen_Q (fun A45 hA45 => ?_)
        have hsz45 := szq hA45
        have hdf45 : A45.defers = [] := by rw [hA45]; simp only [df_put]; exact hdf42
        have l0_45 := lookE hA45 0 (e8 rfl (es rfl l0_42))
        have l7_45 := lookE hA45 7 (e8 rfl (es rfl l7_42))
        have l8_45 := lookE hA45 8 (e8 rfl (es rfl l8_42))
        have l9_45 := lookE hA45 9 (e8 rfl (es rfl l9_42))
        have l10_45 := lookE hA45 10 (es rfl (et rfl))
        have l11_45 := lookE hA45 11 (et rfl)
        clear hA45 hsz42 hdf42 l0_42 l7_42 l8_42 l9_42
        refine then_n (hK43 _ _ ?_)
        clear hK43
        refine wp_seq_k (fun K46 hK46 => ?_)
        refine region_in ?_
        refine W_v rfl rfl (V_mov rfl l0_45) ?_
        refine W_v rfl rfl (V_mov rfl (es rfl l8_45)) ?_
        refine W_v rfl rfl (V_mov rfl (es rfl (es rfl l9_45))) ?_
        refine W_call rfl rfl rfl Try.func31 (by kernel_rfl) rfl (args3 (e2 rfl (et rfl)) (es rfl (et rfl)) (et rfl)) (kwi_c (f := qb) (t := qc) (hS44.roC h_cv) ) ?_
        rintro _ w47 ⟨v_47, rfl, hP47⟩
        refine ⟨_, rfl, ?_⟩
        obtain ⟨c_47, hc_47, hP47⟩ := gen1 hP47
        have hS47 := hS44.join hP47
        replace hS47 : St w NoX [c_47, c_44] w47 := hS47
        refine W_v rfl rfl (V_mov rfl (et rfl)) ?_
        refine W_v rfl rfl (V_ext (v := v_47) rfl (et rfl) rfl) ?_
        refine W_v rfl rfl (V_ext (v := .int .i64 ((ckL l).2)) rfl (es rfl (et rfl)) rfl) ?_
        refine W_v rfl rfl (V_asg rfl (es rfl (et rfl))) ?_
        refine W_v rfl rfl (V_asg rfl (es rfl (et rfl))) ?_
        refine W_end ?_
        refine gen_Q (fun A48 hA48 => ?_)
        have hsz48 := szq hA48
        have hdf48 : A48.defers = [] := by rw [hA48]; simp only [df_put]; exact hdf45
        have l0_48 := lookE hA48 0 (e8 rfl (es rfl l0_45))
        have l7_48 := lookE hA48 7 (e8 rfl (es rfl l7_45))
        have l9_48 := lookE hA48 9 (e8 rfl (es rfl l9_45))
        have l10_48 := lookE hA48 10 (e8 rfl (es rfl l10_45))
        have l11_48 := lookE hA48 11 (e8 rfl (es rfl l11_45))
        have l12_48 := lookE hA48 12 (es rfl (et rfl))
        have l13_48 := lookE hA48 13 (et rfl)
        clear hA48 hsz45 hdf45 l0_45 l7_45 l8_45 l9_45 l10_45 l11_45
        refine then_n (hK46 _ _ ?_)
        clear hK46
        refine wp_seq_k (fun K49 hK49 => ?_)
        refine region_in ?_
        refine W_v rfl rfl (V_mov rfl l0_48) ?_
        refine W_v rfl rfl (V_mov rfl (es rfl l7_48)) ?_
        refine W_v rfl rfl (V_mov rfl (es rfl (es rfl l9_48))) ?_
        refine W_call rfl rfl rfl Try.func31 (by kernel_rfl) rfl (args3 (e2 rfl (et rfl)) (es rfl (et rfl)) (et rfl)) (kwi_c (f := qa) (t := qc) (hS47.roC h_cv) ) ?_
        rintro _ w50 ⟨v_50, rfl, hP50⟩
        refine ⟨_, rfl, ?_⟩
        obtain ⟨c_50, hc_50, hP50⟩ := gen1 hP50
        have hS50 := hS47.join hP50
        replace hS50 : St w NoX [c_50, c_47, c_44] w50 := hS50
        refine W_v rfl rfl (V_mov rfl (et rfl)) ?_
        refine W_v rfl rfl (V_ext (v := v_50) rfl (et rfl) rfl) ?_
        refine W_v rfl rfl (V_ext (v := .int .i64 ((ckL l).2)) rfl (es rfl (et rfl)) rfl) ?_
        refine W_v rfl rfl (V_asg rfl (es rfl (et rfl))) ?_
        refine W_v rfl rfl (V_asg rfl (es rfl (et rfl))) ?_
        refine W_end ?_
        refine gen_Q (fun A51 hA51 => ?_)
        have hsz51 := szq hA51
        have hdf51 : A51.defers = [] := by rw [hA51]; simp only [df_put]; exact hdf48
        have l0_51 := lookE hA51 0 (e8 rfl (es rfl l0_48))
        have l7_51 := lookE hA51 7 (e8 rfl (es rfl l7_48))
        have l9_51 := lookE hA51 9 (e8 rfl (es rfl l9_48))
        have l10_51 := lookE hA51 10 (e8 rfl (es rfl l10_48))
        have l11_51 := lookE hA51 11 (e8 rfl (es rfl l11_48))
        have l12_51 := lookE hA51 12 (e8 rfl (es rfl l12_48))
        have l13_51 := lookE hA51 13 (e8 rfl (es rfl l13_48))
        have l14_51 := lookE hA51 14 (es rfl (et rfl))
        have l15_51 := lookE hA51 15 (et rfl)
        clear hA51 hsz48 hdf48 l0_48 l7_48 l9_48 l10_48 l11_48 l12_48 l13_48
        refine then_n (hK49 _ _ ?_)
        clear hK49
        refine wp_seq_k (fun K52 hK52 => ?_)
        refine region_in ?_
        refine W_v rfl rfl (V_mov rfl l0_51) ?_
        refine W_call rfl rfl rfl Try.func31 (by kernel_rfl) rfl (args3 (et rfl) rfl rfl) (kwi_c (f := 0) (t := 1601) (hS50.roC h_cv) ) ?_
        rintro _ w53 ⟨v_53, rfl, hP53⟩
        refine ⟨_, rfl, ?_⟩
        obtain ⟨c_53, hc_53, hP53⟩ := gen1 hP53
        have hS53 := hS50.join hP53
        replace hS53 : St w NoX [c_53, c_50, c_47, c_44] w53 := hS53
        refine W_v rfl rfl (V_mov rfl (et rfl)) ?_
        refine W_v rfl rfl (V_ext (v := v_53) rfl (et rfl) rfl) ?_
        refine W_v rfl rfl (V_ext (v := .int .i64 ((ckL l).2)) rfl (es rfl (et rfl)) rfl) ?_
        refine W_v rfl rfl (V_asg rfl (es rfl (et rfl))) ?_
        refine W_v rfl rfl (V_asg rfl (es rfl (et rfl))) ?_
        refine W_end ?_
        refine gen_Q (fun A54 hA54 => ?_)
        have hsz54 := szq hA54
        have hdf54 : A54.defers = [] := by rw [hA54]; simp only [df_put]; exact hdf51
        have l0_54 := lookE hA54 0 (e6 rfl (es rfl l0_51))
        have l7_54 := lookE hA54 7 (e6 rfl (es rfl l7_51))
        have l9_54 := lookE hA54 9 (e6 rfl (es rfl l9_51))
        have l10_54 := lookE hA54 10 (e6 rfl (es rfl l10_51))
        have l11_54 := lookE hA54 11 (e6 rfl (es rfl l11_51))
        have l12_54 := lookE hA54 12 (e6 rfl (es rfl l12_51))
        have l13_54 := lookE hA54 13 (e6 rfl (es rfl l13_51))
        have l14_54 := lookE hA54 14 (e6 rfl (es rfl l14_51))
        have l15_54 := lookE hA54 15 (e6 rfl (es rfl l15_51))
        have l16_54 := lookE hA54 16 (es rfl (et rfl))
        have l17_54 := lookE hA54 17 (et rfl)
        clear hA54 hsz51 hdf51 l0_51 l7_51 l9_51 l10_51 l11_51 l12_51 l13_51 l14_51 l15_51
        refine then_n (hK52 _ _ ?_)
        clear hK52
        refine wp_seq_k (fun K55 hK55 => ?_)
        refine region_in ?_
        refine W_v rfl rfl (V_mov rfl l10_54) ?_
        refine W_v rfl rfl (V_mov rfl (es rfl l12_54)) ?_
        refine W_call rfl rfl rfl Try.func33 (by kernel_rfl) rfl (args2 (es rfl (et rfl)) (et rfl)) (kmg_c (hS53.chC 3 rfl hc_44).own (hS53.chC 2 rfl hc_47).own ) ?_
        rintro _ w56 ⟨v_56, rfl, hP56⟩
        refine ⟨_, rfl, ?_⟩
        obtain ⟨c_56, hc_56, hP56⟩ := gen1 hP56
        have hS56 := hS53.join hP56
        replace hS56 : St w NoX [c_56, c_53, c_50, c_47, c_44] w56 := hS56
        refine W_v rfl rfl (V_mov rfl (et rfl)) ?_
        refine W_v rfl rfl (V_ext (v := v_56) rfl (et rfl) rfl) ?_
        refine W_v rfl rfl (V_ext (v := .int .i64 ((mgE (wiT l qa qb) (wiT l qb qc)))) rfl (es rfl (et rfl)) rfl) ?_
        refine W_v rfl rfl (V_asg rfl (es rfl (et rfl))) ?_
        refine W_v rfl rfl (V_asg rfl (es rfl (et rfl))) ?_
        refine W_end ?_
        refine gen_Q (fun A57 hA57 => ?_)
        have hsz57 := szq hA57
        have hdf57 : A57.defers = [] := by rw [hA57]; simp only [df_put]; exact hdf54
        have l0_57 := lookE hA57 0 (e7 rfl (es rfl l0_54))
        have l7_57 := lookE hA57 7 (e7 rfl (es rfl l7_54))
        have l9_57 := lookE hA57 9 (e7 rfl (es rfl l9_54))
        have l11_57 := lookE hA57 11 (e7 rfl (es rfl l11_54))
        have l13_57 := lookE hA57 13 (e7 rfl (es rfl l13_54))
        have l14_57 := lookE hA57 14 (e7 rfl (es rfl l14_54))
        have l15_57 := lookE hA57 15 (e7 rfl (es rfl l15_54))
        have l16_57 := lookE hA57 16 (e7 rfl (es rfl l16_54))
        have l17_57 := lookE hA57 17 (e7 rfl (es rfl l17_54))
        have l18_57 := lookE hA57 18 (es rfl (et rfl))
        have l19_57 := lookE hA57 19 (et rfl)
        clear hA57 hsz54 hdf54 l0_54 l7_54 l9_54 l10_54 l11_54 l12_54 l13_54 l14_54 l15_54 l16_54 l17_54
        have hS58 : St w NoX [c_56, c_53, c_50] w56 := hS56.sel [0, 1, 2] (by decide) rfl
        refine then_n (hK55 _ _ ?_)
        clear hK55
        refine wp_seq_k (fun K59 hK59 => ?_)
        refine wp_seq_k (fun K60 hK60 => ?_)
        refine region_in ?_
        refine W_v rfl rfl (V_mov rfl l11_57) ?_
        refine W_v rfl rfl (V_neq rfl (et rfl) rfl) ?_
        refine W_sure (c' := false) rfl rfl (V_mov rfl (et rfl)) (by first | (simp [c23]; done) | exact decide_eq_true (by omega) | exact decide_eq_false (by omega)) ?_
        refine W_v rfl (wanted_t rfl rfl (et rfl) (ez rfl)) (V_mov rfl (e2 rfl (es rfl l13_57))) ?_
        refine W_v rfl (wanted_t rfl rfl (es rfl (et rfl)) (ez rfl)) (V_neq rfl (et rfl) rfl) ?_
        refine W_v rfl rfl (V_pickF rfl (e2 rfl (et rfl)) (et rfl)) ?_
        refine W_sure (c' := false) rfl rfl (V_mov rfl (et rfl)) (by first | (simp [c23]; done) | exact decide_eq_true (by omega) | exact decide_eq_false (by omega)) ?_
        refine W_v rfl (wanted_t rfl rfl (et rfl) (ez rfl)) (V_mov rfl (e6 rfl (es rfl l15_57))) ?_
        refine W_v rfl (wanted_t rfl rfl (es rfl (et rfl)) (ez rfl)) (V_neq rfl (et rfl) rfl) ?_
        refine W_v rfl rfl (V_pickF rfl (e2 rfl (et rfl)) (et rfl)) ?_
        refine W_sure (c' := false) rfl rfl (V_mov rfl (et rfl)) (by first | (simp [c23]; done) | exact decide_eq_true (by omega) | exact decide_eq_false (by omega)) ?_
        refine W_v rfl (wanted_t rfl rfl (et rfl) (ez rfl)) (V_mov rfl (e10 rfl (es rfl l17_57))) ?_
        refine W_v rfl (wanted_t rfl rfl (es rfl (et rfl)) (ez rfl)) (V_neq rfl (et rfl) rfl) ?_
        refine W_v rfl rfl (V_pickF rfl (e2 rfl (et rfl)) (et rfl)) ?_
        refine W_sure (c' := false) rfl rfl (V_mov rfl (et rfl)) (by first | (simp [c23]; done) | exact decide_eq_true (by omega) | exact decide_eq_false (by omega)) ?_
        refine W_v rfl (wanted_t rfl rfl (et rfl) (ez rfl)) (V_mov rfl (e14 rfl (es rfl l19_57))) ?_
        refine W_v rfl (wanted_t rfl rfl (es rfl (et rfl)) (ez rfl)) (V_neq rfl (et rfl) rfl) ?_
        refine W_v rfl rfl (V_pickF rfl (e2 rfl (et rfl)) (et rfl)) ?_
        refine W_sure (c' := false) rfl rfl (V_mov rfl (et rfl)) (by rw [decide_eq_false_iff_not]; rw [w1]; simp) ?_
        refine W_v rfl (wanted_t rfl rfl (et rfl) (ez rfl)) (V_mov rfl (e18 rfl (es rfl l18_57))) ?_
        refine W_v rfl (wanted_t rfl rfl (es rfl (et rfl)) (ez rfl)) (V_mov rfl (e19 rfl (es rfl l14_57))) ?_
        refine W_call rfl (wanted_t rfl rfl (e2 rfl (et rfl)) (ez rfl)) rfl Try.func17 (by kernel_rfl) rfl (args2 (es rfl (et rfl)) (et rfl)) (qSm9_c (hS58.chC 0 rfl hc_56).own (hS58.chC 2 rfl hc_50).own ) ?_
        rintro _ w61 ⟨rfl, hP61⟩
        refine ⟨_, rfl, ?_⟩
        have hS61 := hS58.join hP61
        replace hS61 : St w NoX [c_56, c_53, c_50] w61 := hS61
        refine W_v rfl (wanted_t rfl rfl (e3 rfl (et rfl)) (ez rfl)) (V_notd rfl (et rfl)) ?_
        refine W_v rfl rfl (V_pickF rfl (e4 rfl (et rfl)) (et rfl)) ?_
        refine W_sure (c' := false) rfl rfl (V_mov rfl (et rfl)) (by rw [decide_eq_false_iff_not]; rw [w2]; simp) ?_
        refine W_v rfl (wanted_t rfl rfl (et rfl) (ez rfl)) (V_mov rfl (e24 rfl (es rfl l16_57))) ?_
        refine W_v rfl (wanted_t rfl rfl (es rfl (et rfl)) (ez rfl)) (V_mov rfl (e25 rfl (es rfl l0_57))) ?_
        refine W_call rfl (wanted_t rfl rfl (e2 rfl (et rfl)) (ez rfl)) rfl Try.func17 (by kernel_rfl) rfl (args2 (es rfl (et rfl)) (et rfl)) (qSm9_c (hS61.chC 1 rfl hc_53).own (hS61.roC h_cv) ) ?_
        rintro _ w62 ⟨rfl, hP62⟩
        refine ⟨_, rfl, ?_⟩
        have hS62 := hS61.join hP62
        replace hS62 : St w NoX [c_56, c_53, c_50] w62 := hS62
        refine W_v rfl (wanted_t rfl rfl (e3 rfl (et rfl)) (ez rfl)) (V_notd rfl (et rfl)) ?_
        refine W_v rfl rfl (V_pickF rfl (e4 rfl (et rfl)) (et rfl)) ?_
        refine W_end ?_
        refine gen_Q (fun A63 hA63 => ?_)
        have hsz63 := szq hA63
        have hdf63 : A63.defers = [] := by rw [hA63]; simp only [df_put]; exact hdf57
        have l0_63 := lookE hA63 0 (e25 rfl (es rfl (es rfl (es rfl (es rfl (es rfl l0_57))))))
        have l7_63 := lookE hA63 7 (e25 rfl (es rfl (es rfl (es rfl (es rfl (es rfl l7_57))))))
        have l9_63 := lookE hA63 9 (e25 rfl (es rfl (es rfl (es rfl (es rfl (es rfl l9_57))))))
        have l14_63 := lookE hA63 14 (e25 rfl (es rfl (es rfl (es rfl (es rfl (es rfl l14_57))))))
        have l136_63 := lookE hA63 136 (et rfl)
        clear hA63 hsz57 hdf57 l0_57 l7_57 l9_57 l11_57 l13_57 l14_57 l15_57 l16_57 l17_57 l18_57 l19_57
        have hS64 : St w NoX [c_50] w62 := hS62.sel [2] (by decide) rfl
        refine then_n (hK60 _ _ ?_)
        clear hK60
        refine cond_not l136_63 (by rw [decide_eq_false_iff_not]; rw [w3]; simp) ?_
        refine wp_skip ?_
        refine then_n (hK59 _ _ ?_)
        clear hK59
        refine wp_seq_k (fun K65 hK65 => ?_)
        refine region_in ?_
        refine W_v rfl rfl (V_mov rfl l14_63) ?_
        refine W_call rfl rfl rfl Try.func26 (by kernel_rfl) rfl (args2 (et rfl) rfl) (kpp_c (q := 2) (hS64.chC 0 rfl hc_50).own ) ?_
        rintro _ w66 ⟨v_66, rfl, hP66⟩
        refine ⟨_, rfl, ?_⟩
        obtain ⟨c_66, hc_66, hP66⟩ := gen1 hP66
        have hS66 := hS64.join hP66
        replace hS66 : St w NoX [c_66, c_50] w66 := hS66
        refine W_v rfl rfl (V_mov rfl (et rfl)) ?_
        refine W_v rfl rfl (V_ext (v := v_66) rfl (et rfl) rfl) ?_
        refine W_v rfl rfl (V_ext (v := .int .i64 ((ppE (wiT l qa qc) 2))) rfl (es rfl (et rfl)) rfl) ?_
        refine W_v rfl rfl (V_asg rfl (es rfl (et rfl))) ?_
        refine W_v rfl rfl (V_asg rfl (es rfl (et rfl))) ?_
        refine W_end ?_
        refine gen_Q (fun A67 hA67 => ?_)
        have hsz67 := szq hA67
        have hdf67 : A67.defers = [] := by rw [hA67]; simp only [df_put]; exact hdf63
        have l0_67 := lookE hA67 0 (e6 rfl (es rfl l0_63))
        have l7_67 := lookE hA67 7 (e6 rfl (es rfl l7_63))
        have l9_67 := lookE hA67 9 (e6 rfl (es rfl l9_63))
        have l20_67 := lookE hA67 20 (es rfl (et rfl))
        have l21_67 := lookE hA67 21 (et rfl)
        clear hA67 hsz63 hdf63 l0_63 l7_63 l9_63 l14_63 l136_63
        have hS68 : St w NoX [c_66] w66 := hS66.sel [0] (by decide) rfl
        refine then_n (hK65 _ _ ?_)
        clear hK65
        refine wp_seq_k (fun K69 hK69 => ?_)
        refine region_in ?_
        refine W_v rfl rfl (V_mov rfl l0_67) ?_
        refine W_call rfl rfl rfl Try.func26 (by kernel_rfl) rfl (args2 (et rfl) rfl) (kpp_c (q := 2) (hS68.roC h_cv) ) ?_
        rintro _ w70 ⟨v_70, rfl, hP70⟩
        refine ⟨_, rfl, ?_⟩
        obtain ⟨c_70, hc_70, hP70⟩ := gen1 hP70
        have hS70 := hS68.join hP70
        replace hS70 : St w NoX [c_70, c_66] w70 := hS70
        refine W_v rfl rfl (V_mov rfl (et rfl)) ?_
        refine W_v rfl rfl (V_ext (v := v_70) rfl (et rfl) rfl) ?_
        refine W_v rfl rfl (V_ext (v := .int .i64 ((ppE l 2))) rfl (es rfl (et rfl)) rfl) ?_
        refine W_v rfl rfl (V_asg rfl (es rfl (et rfl))) ?_
        refine W_v rfl rfl (V_asg rfl (es rfl (et rfl))) ?_
        refine W_end ?_
        refine gen_Q (fun A71 hA71 => ?_)
        have hsz71 := szq hA71
        have hdf71 : A71.defers = [] := by rw [hA71]; simp only [df_put]; exact hdf67
        have l7_71 := lookE hA71 7 (e6 rfl (es rfl l7_67))
        have l9_71 := lookE hA71 9 (e6 rfl (es rfl l9_67))
        have l20_71 := lookE hA71 20 (e6 rfl (es rfl l20_67))
        have l21_71 := lookE hA71 21 (e6 rfl (es rfl l21_67))
        have l22_71 := lookE hA71 22 (es rfl (et rfl))
        have l23_71 := lookE hA71 23 (et rfl)
        clear hA71 hsz67 hdf67 l0_67 l7_67 l9_67 l20_67 l21_67
        refine then_n (hK69 _ _ ?_)
        clear hK69
        refine wp_seq_k (fun K72 hK72 => ?_)
        refine region_in ?_
        refine W_v rfl rfl (V_asg rfl rfl) ?_
        refine W_end ?_
        refine gen_Q (fun A73 hA73 => ?_)
        have hsz73 := szq hA73
        have hdf73 : A73.defers = [] := by rw [hA73]; simp only [df_put]; exact hdf71
        have l7_73 := lookE hA73 7 (es rfl l7_71)
        have l9_73 := lookE hA73 9 (es rfl l9_71)
        have l20_73 := lookE hA73 20 (es rfl l20_71)
        have l21_73 := lookE hA73 21 (es rfl l21_71)
        have l22_73 := lookE hA73 22 (es rfl l22_71)
        have l23_73 := lookE hA73 23 (es rfl l23_71)
        have l24_73 := lookE hA73 24 (et rfl)
        clear hA73 hsz71 hdf71 l7_71 l9_71 l20_71 l21_71 l22_71 l23_71
        refine then_n (hK72 _ _ ?_)
        clear hK72
        refine wp_seq_k (fun K74 hK74 => ?_)
        refine wp_seq_k (fun K75 hK75 => ?_)
        refine region_in ?_
        refine W_v rfl rfl (V_asg rfl rfl) ?_
        refine W_end ?_
        refine gen_Q (fun A76 hA76 => ?_)
        have hsz76 := szq hA76
        have hdf76 : A76.defers = [] := by rw [hA76]; simp only [df_put]; exact hdf73
        have l7_76 := lookE hA76 7 (es rfl l7_73)
        have l9_76 := lookE hA76 9 (es rfl l9_73)
        have l20_76 := lookE hA76 20 (es rfl l20_73)
        have l21_76 := lookE hA76 21 (es rfl l21_73)
        have l22_76 := lookE hA76 22 (es rfl l22_73)
        have l23_76 := lookE hA76 23 (es rfl l23_73)
        have l24_76 := lookE hA76 24 (es rfl l24_73)
        have l25_76 := lookE hA76 25 (et rfl)
        clear hA76 hsz73 hdf73 l7_73 l9_73 l20_73 l21_73 l22_73 l23_73 l24_73
        refine then_n (hK75 _ _ ?_)
        clear hK75
        refine wp_block ?_
        -- loop 17
        refine loopX (fun mz A' w' => SzN A' 199 ∧ A'.defers = [] ∧ (∃ (k : Nat), (mz = (ppT l 2).length - k) ∧ (k ≤ (ppT l 2).length) ∧ (EV A' (.tmp 25) = .int .i64 (k : Int)) ∧ (EV A' (.tmp 24) = .int .i64 (((flK (fun z => decide (qa ≤ z ∧ z < qc)) (ppT l 2) k) : Nat) : Int)) ∧ (EV A' (.tmp 7) = EV A76 (.tmp 7)) ∧ (EV A' (.tmp 9) = EV A76 (.tmp 9)) ∧ (EV A' (.tmp 20) = EV A76 (.tmp 20)) ∧ (EV A' (.tmp 21) = EV A76 (.tmp 21)) ∧ (EV A' (.tmp 22) = EV A76 (.tmp 22)) ∧ (EV A' (.tmp 23) = EV A76 (.tmp 23)) ∧ (St w NoX [io .i64 v_70 (ppT l 2), io .i64 v_66 (ppT (wiT l qa qc) 2)] w'))) ((ppT l 2).length - 0) ⟨hsz76, hdf76, 0, rfl, (by omega), ((l25_76).trans (by first | rfl | (simp; done) | (congr 1; omega))), ((l24_76).trans ((by rw [flK_0]; rfl))), rfl, rfl, rfl, rfl, rfl, rfl, (by subst hc_70 hc_66; exact hS70)⟩ ?_
        clear hS70 hc_70 hc_66
        rintro n77 A77 w77 ⟨hsz77, hdf77, k, hm77, hk, l25_77, l24_77, u7_77, u9_77, u20_77, u21_77, u22_77, u23_77, hS77⟩
        have l7_77 := u7_77.trans l7_76
        have l9_77 := u9_77.trans l9_76
        have l20_77 := u20_77.trans l20_76
        have l21_77 := u21_77.trans l21_76
        have l22_77 := u22_77.trans l22_76
        have l23_77 := u23_77.trans l23_76
        obtain ⟨c_77, c_77b, hc_77, hc_77b, hS77⟩ := gen2 hS77
        refine wp_seq_k (fun K78 hK78 => ?_)
        refine wp_seq_k (fun K79 hK79 => ?_)
        refine region_in ?_
        refine W_v rfl rfl (V_mov rfl l25_77) ?_
        refine W_v rfl rfl (V_mov rfl (es rfl l22_77)) ?_
        refine W_v rfl rfl (V_lenS rfl (et rfl) (ow_at (hS77.chq 0 rfl hc_77)) Try.underlying23) ?_
        refine W_v rfl rfl (V_lss rfl (e2 rfl (et rfl)) (et rfl)) ?_
        refine W_end ?_
        refine gen_Q (fun A80 hA80 => ?_)
        have hsz80 := szq hA80
        have hdf80 : A80.defers = [] := by rw [hA80]; simp only [df_put]; exact hdf77
        have l7_80 := lookE hA80 7 (e3 rfl (es rfl l7_77))
        have l9_80 := lookE hA80 9 (e3 rfl (es rfl l9_77))
        have l20_80 := lookE hA80 20 (e3 rfl (es rfl l20_77))
        have l21_80 := lookE hA80 21 (e3 rfl (es rfl l21_77))
        have l22_80 := lookE hA80 22 (e3 rfl (es rfl l22_77))
        have l23_80 := lookE hA80 23 (e3 rfl (es rfl l23_77))
        have l24_80 := lookE hA80 24 (e3 rfl (es rfl l24_77))
        have l25_80 := lookE hA80 25 (e3 rfl (es rfl l25_77))
        have l150_80 := lookE hA80 150 (et rfl)
        clear hA80 hsz77 hdf77 l25_77 l24_77 l7_77 l9_77 l20_77 l21_77 l22_77 l23_77
        refine then_n (hK79 _ _ ?_)
        clear hK79
        refine cond_dec l150_80 (fun c81 => ?_) (fun c81 => ?_)
        · skip
          refine wp_skip ?_
          refine then_n (hK78 _ _ ?_)
          clear hK78
          refine wp_seq_k (fun K82 hK82 => ?_)
          refine wp_block ?_
          refine wp_seq_k (fun K83 hK83 => ?_)
          refine wp_seq_k (fun K84 hK84 => ?_)
          refine region_in ?_
          refine W_v rfl rfl (V_mov rfl l22_80) ?_
          refine W_v rfl rfl (V_mov rfl (es rfl l25_80)) ?_
          have k85 : k < (ppT l 2).length := by first | omega | (simp only [List.length_cons, List.length_nil]; omega) | (simp only [List.length_set]; omega) | decide
          obtain ⟨y85, hy85⟩ := get_some (xs := (ppT l 2)) (k := k) k85
          obtain ⟨B85, O85, C85, hv85⟩ := (SlN.blk (ow_at (hS77.chq 0 rfl hc_77)) (by first | omega | (simp only [List.length_cons, List.length_nil]; omega) | (simp only [List.length_set]; omega) | decide))
          refine W_v rfl rfl (V_ixS (off := O85 + k) 1 (k) rfl (es rfl (et rfl)) (et rfl) hv85 (by omega) k85 Try.underlying23 (by kernel_rfl) (congrArg _ (Nat.mul_one _))) ?_
          refine W_r rfl rfl (VR_ldC rfl (et rfl) ((ow_at (hS77.chq 0 rfl hc_77)).cell hv85 (map_get hy85)) Try.underlying3 rfl) ?_
          refine W_v rfl rfl (V_mov rfl (e3 rfl (es rfl l7_80))) ?_
          refine W_v rfl rfl (V_lss rfl (es rfl (et rfl)) (et rfl)) ?_
          refine W_split rfl rfl (V_mov rfl (et rfl)) (fun c86 => ?_) (fun c86 => ?_)
          · skip
            refine W_off rfl (wanted_f rfl rfl (et rfl) (ez rfl) rfl) ?_
            refine W_off rfl (wanted_f rfl rfl (es rfl (et rfl)) (ez rfl) rfl) ?_
            refine W_off rfl (wanted_f rfl rfl (e2 rfl (et rfl)) (ez rfl) rfl) ?_
            refine W_off rfl (wanted_f rfl rfl (e3 rfl (et rfl)) (ez rfl) rfl) ?_
            refine W_off rfl (wanted_f rfl rfl (e4 rfl (et rfl)) (ez rfl) rfl) ?_
            refine W_off rfl (wanted_f rfl rfl (e5 rfl (et rfl)) (ez rfl) rfl) ?_
            refine W_v rfl rfl (V_pickT rfl (e6 rfl (et rfl)) rfl) ?_
            refine W_end ?_
            refine gen_Q (fun A87 hA87 => ?_)
            have hsz87 := szq hA87
            have hdf87 : A87.defers = [] := by rw [hA87]; simp only [df_put]; exact hdf80
            have l7_87 := lookE hA87 7 (e13 rfl (es rfl l7_80))
            have l9_87 := lookE hA87 9 (e13 rfl (es rfl l9_80))
            have l20_87 := lookE hA87 20 (e13 rfl (es rfl l20_80))
            have l21_87 := lookE hA87 21 (e13 rfl (es rfl l21_80))
            have l22_87 := lookE hA87 22 (e13 rfl (es rfl l22_80))
            have l23_87 := lookE hA87 23 (e13 rfl (es rfl l23_80))
            have l24_87 := lookE hA87 24 (e13 rfl (es rfl l24_80))
            have l25_87 := lookE hA87 25 (e13 rfl (es rfl l25_80))
            have l160_87 := lookE hA87 160 (e6 rfl (et rfl))
            have l161_87 := lookE hA87 161 (e5 rfl (et rfl))
            have l162_87 := lookE hA87 162 (e4 rfl (et rfl))
            have l163_87 := lookE hA87 163 (e3 rfl (et rfl))
            have l164_87 := lookE hA87 164 (e2 rfl (et rfl))
            have l165_87 := lookE hA87 165 (es rfl (et rfl))
            have l166_87 := lookE hA87 166 (et rfl)
            clear hA87 hsz80 hdf80 l7_80 l9_80 l20_80 l21_80 l22_80 l23_80 l24_80 l25_80 l150_80
            refine then_n (hK84 _ _ ?_)
            clear hK84
            refine cond_t l166_87 ?_
            refine wp_exit ?_
            refine then_exit ?_
            refine inb_hit ?_
            refine then_n (hK82 _ _ ?_)
            clear hK82
            refine region_in ?_
            refine W_v rfl rfl (V_mov rfl l25_87) ?_
            refine W_v rfl rfl (V_add rfl (et rfl) rfl (by omega) (by omega)) ?_
            refine W_v rfl rfl (V_asg rfl (et rfl)) ?_
            refine W_end ?_
            refine gen_Q (fun A88 hA88 => ?_)
            have hsz88 := szq hA88
            have hdf88 : A88.defers = [] := by rw [hA88]; simp only [df_put]; exact hdf87
            have l7_88 := lookE hA88 7 (e2 rfl (es rfl l7_87))
            have l9_88 := lookE hA88 9 (e2 rfl (es rfl l9_87))
            have l20_88 := lookE hA88 20 (e2 rfl (es rfl l20_87))
            have l21_88 := lookE hA88 21 (e2 rfl (es rfl l21_87))
            have l22_88 := lookE hA88 22 (e2 rfl (es rfl l22_87))
            have l23_88 := lookE hA88 23 (e2 rfl (es rfl l23_87))
            have l24_88 := lookE hA88 24 (e2 rfl (es rfl l24_87))
            have l25_88 := lookE hA88 25 (et rfl)
            have l160_88 := lookE hA88 160 (e2 rfl (es rfl l160_87))
            have l161_88 := lookE hA88 161 (e2 rfl (es rfl l161_87))
            have l162_88 := lookE hA88 162 (e2 rfl (es rfl l162_87))
            have l163_88 := lookE hA88 163 (e2 rfl (es rfl l163_87))
            have l164_88 := lookE hA88 164 (e2 rfl (es rfl l164_87))
            have l165_88 := lookE hA88 165 (e2 rfl (es rfl l165_87))
            clear hA88 hsz87 hdf87 l7_87 l9_87 l20_87 l21_87 l22_87 l23_87 l24_87 l25_87 l160_87 l161_87 l162_87 l163_87 l164_87 l165_87 l166_87
            refine then_n ⟨(ppT l 2).length - (k + 1), by simp only [hm77]; omega, hsz88, hdf88, (k + 1), rfl, (by omega), ((l25_88).trans (by first | rfl | (simp; done) | (congr 1; omega))), ((l24_88).trans ((congrArg (Value.int .i64) (by have h := (flK_out (p := (fun z => decide (qa ≤ z ∧ z < qc))) hy85 (by simp; omega)); omega)))), ((l7_88).trans l7_76.symm), ((l9_88).trans l9_76.symm), ((l20_88).trans l20_76.symm), ((l21_88).trans l21_76.symm), ((l22_88).trans l22_76.symm), ((l23_88).trans l23_76.symm), (by subst hc_77 hc_77b; exact hS77)⟩
          · skip
            refine W_v rfl (wanted_t rfl rfl (et rfl) (ez rfl)) (V_mov rfl (e6 rfl (es rfl l22_80))) ?_
            refine W_v rfl (wanted_t rfl rfl (es rfl (et rfl)) (ez rfl)) (V_mov rfl (e7 rfl (es rfl l25_80))) ?_
            refine W_v rfl (wanted_t rfl rfl (e2 rfl (et rfl)) (ez rfl)) (V_ixS (off := O85 + k) 1 (k) rfl (es rfl (et rfl)) (et rfl) hv85 (by omega) k85 Try.underlying23 (by kernel_rfl) (congrArg _ (Nat.mul_one _))) ?_
            refine W_r rfl (wanted_t rfl rfl (e3 rfl (et rfl)) (ez rfl)) (VR_ldC rfl (et rfl) ((ow_at (hS77.chq 0 rfl hc_77)).cell hv85 (map_get hy85)) Try.underlying3 rfl) ?_
            refine W_v rfl (wanted_t rfl rfl (e4 rfl (et rfl)) (ez rfl)) (V_mov rfl (e10 rfl (es rfl l9_80))) ?_
            refine W_v rfl (wanted_t rfl rfl (e5 rfl (et rfl)) (ez rfl)) (V_geq rfl (es rfl (et rfl)) (et rfl)) ?_
            refine W_v rfl rfl (V_pickF rfl (e6 rfl (et rfl)) (et rfl)) ?_
            refine W_end ?_
            refine gen_Q (fun A90 hA90 => ?_)
            have hsz90 := szq hA90
            have hdf90 : A90.defers = [] := by rw [hA90]; simp only [df_put]; exact hdf80
            have l7_90 := lookE hA90 7 (e13 rfl (es rfl l7_80))
            have l9_90 := lookE hA90 9 (e13 rfl (es rfl l9_80))
            have l20_90 := lookE hA90 20 (e13 rfl (es rfl l20_80))
            have l21_90 := lookE hA90 21 (e13 rfl (es rfl l21_80))
            have l22_90 := lookE hA90 22 (e13 rfl (es rfl l22_80))
            have l23_90 := lookE hA90 23 (e13 rfl (es rfl l23_80))
            have l24_90 := lookE hA90 24 (e13 rfl (es rfl l24_80))
            have l25_90 := lookE hA90 25 (e13 rfl (es rfl l25_80))
            have l160_90 := lookE hA90 160 (e6 rfl (et rfl))
            have l161_90 := lookE hA90 161 (e5 rfl (et rfl))
            have l162_90 := lookE hA90 162 (e4 rfl (et rfl))
            have l163_90 := lookE hA90 163 (e3 rfl (et rfl))
            have l164_90 := lookE hA90 164 (e2 rfl (et rfl))
            have l165_90 := lookE hA90 165 (es rfl (et rfl))
            have l166_90 := lookE hA90 166 (et rfl)
            clear hA90 hsz80 hdf80 l7_80 l9_80 l20_80 l21_80 l22_80 l23_80 l24_80 l25_80 l150_80
            refine then_n (hK84 _ _ ?_)
            clear hK84
            refine cond_dec l166_90 (fun c91 => ?_) (fun c91 => ?_)
            · skip
              refine wp_exit ?_
              refine then_exit ?_
              refine inb_hit ?_
              refine then_n (hK82 _ _ ?_)
              clear hK82
              refine region_in ?_
              refine W_v rfl rfl (V_mov rfl l25_90) ?_
              refine W_v rfl rfl (V_add rfl (et rfl) rfl (by omega) (by omega)) ?_
              refine W_v rfl rfl (V_asg rfl (et rfl)) ?_
              refine W_end ?_
              refine gen_Q (fun A92 hA92 => ?_)
              have hsz92 := szq hA92
              have hdf92 : A92.defers = [] := by rw [hA92]; simp only [df_put]; exact hdf90
              have l7_92 := lookE hA92 7 (e2 rfl (es rfl l7_90))
              have l9_92 := lookE hA92 9 (e2 rfl (es rfl l9_90))
              have l20_92 := lookE hA92 20 (e2 rfl (es rfl l20_90))
              have l21_92 := lookE hA92 21 (e2 rfl (es rfl l21_90))
              have l22_92 := lookE hA92 22 (e2 rfl (es rfl l22_90))
              have l23_92 := lookE hA92 23 (e2 rfl (es rfl l23_90))
              have l24_92 := lookE hA92 24 (e2 rfl (es rfl l24_90))
              have l25_92 := lookE hA92 25 (et rfl)
              have l160_92 := lookE hA92 160 (e2 rfl (es rfl l160_90))
              have l161_92 := lookE hA92 161 (e2 rfl (es rfl l161_90))
              have l162_92 := lookE hA92 162 (e2 rfl (es rfl l162_90))
              have l163_92 := lookE hA92 163 (e2 rfl (es rfl l163_90))
              have l164_92 := lookE hA92 164 (e2 rfl (es rfl l164_90))
              have l165_92 := lookE hA92 165 (e2 rfl (es rfl l165_90))
              clear hA92 hsz90 hdf90 l7_90 l9_90 l20_90 l21_90 l22_90 l23_90 l24_90 l25_90 l160_90 l161_90 l162_90 l163_90 l164_90 l165_90 l166_90
              refine then_n ⟨(ppT l 2).length - (k + 1), by simp only [hm77]; omega, hsz92, hdf92, (k + 1), rfl, (by omega), ((l25_92).trans (by first | rfl | (simp; done) | (congr 1; omega))), ((l24_92).trans ((congrArg (Value.int .i64) (by have h := (flK_out (p := (fun z => decide (qa ≤ z ∧ z < qc))) hy85 (by simp; omega)); omega)))), ((l7_92).trans l7_76.symm), ((l9_92).trans l9_76.symm), ((l20_92).trans l20_76.symm), ((l21_92).trans l21_76.symm), ((l22_92).trans l22_76.symm), ((l23_92).trans l23_76.symm), (by subst hc_77 hc_77b; exact hS77)⟩
            · skip
              have hin := flK_in (p := (fun z => decide (qa ≤ z ∧ z < qc))) hy85 (by simp; omega)
              have hin2 := (List.getElem?_eq_some_iff.1 hin.2).1
              rw [← hp] at hin2
              refine wp_skip ?_
              refine then_n (hK83 _ _ ?_)
              clear hK83
              refine wp_seq_k (fun K93 hK93 => ?_)
              refine wp_seq_k (fun K94 hK94 => ?_)
              refine region_monoS 15 15 [] (by kernel_rfl) (by kernel_rfl) ?_
              refine D_v rfl rfl (V_mov rfl l24_90) rfl rfl ?_
              refine D_v rfl rfl (V_mov rfl (es rfl l20_90)) rfl rfl ?_
              refine D_v rfl rfl (V_lenS rfl (et rfl) (ow_at (hS77.chq 1 rfl hc_77b)) Try.underlying23) rfl rfl ?_
              refine D_v rfl rfl (V_geq rfl (e2 rfl (et rfl)) (et rfl)) rfl rfl ?_
              refine D_sure (c' := false) rfl rfl (V_mov rfl (et rfl)) (by rw [decide_eq_false_iff_not]; omega) rfl rfl ?_
              refine D_v rfl (wanted_t rfl rfl (et rfl) (ez rfl)) (V_mov rfl (e4 rfl (es rfl l20_90))) rfl rfl ?_
              refine D_v rfl (wanted_t rfl rfl (es rfl (et rfl)) (ez rfl)) (V_mov rfl (e5 rfl (es rfl l24_90))) rfl rfl ?_
              have k95 : (flK (fun z => decide (qa ≤ z ∧ z < qc)) (ppT l 2) k) < (ppT (wiT l qa qc) 2).length := by first | omega | (simp only [List.length_cons, List.length_nil]; omega) | (simp only [List.length_set]; omega) | decide
              obtain ⟨y95, hy95⟩ := get_some (xs := (ppT (wiT l qa qc) 2)) (k := (flK (fun z => decide (qa ≤ z ∧ z < qc)) (ppT l 2) k)) k95
              obtain ⟨B95, O95, C95, hv95⟩ := (SlN.blk (ow_at (hS77.chq 1 rfl hc_77b)) (by first | omega | (simp only [List.length_cons, List.length_nil]; omega) | (simp only [List.length_set]; omega) | decide))
              refine D_v rfl (wanted_t rfl rfl (e2 rfl (et rfl)) (ez rfl)) (V_ixS (off := O95 + (flK (fun z => decide (qa ≤ z ∧ z < qc)) (ppT l 2) k)) 1 ((flK (fun z => decide (qa ≤ z ∧ z < qc)) (ppT l 2) k)) rfl (es rfl (et rfl)) (et rfl) hv95 (by omega) k95 Try.underlying23 (by kernel_rfl) (congrArg _ (Nat.mul_one _))) rfl rfl ?_
              refine D_r rfl (wanted_t rfl rfl (e3 rfl (et rfl)) (ez rfl)) (by kernel_rfl) (fun sx hx hF => (VR_ldC rfl (et rfl) ((ow_at ((hS77.grow hx).chq 1 rfl hc_77b)).cell hv95 (map_get hy95)) Try.underlying3 rfl)) rfl rfl ?_
              refine D_v rfl (wanted_t rfl rfl (e4 rfl (et rfl)) (ez rfl)) (V_mov rfl (e8 rfl (es rfl l22_90))) rfl rfl ?_
              refine D_v rfl (wanted_t rfl rfl (e5 rfl (et rfl)) (ez rfl)) (V_mov rfl (e9 rfl (es rfl l25_90))) rfl rfl ?_
              refine D_v rfl (wanted_t rfl rfl (e6 rfl (et rfl)) (ez rfl)) (V_ixS (off := O85 + k) 1 (k) rfl (es rfl (et rfl)) (et rfl) hv85 (by omega) k85 Try.underlying23 (by kernel_rfl) (congrArg _ (Nat.mul_one _))) rfl rfl ?_
              refine D_r rfl (wanted_t rfl rfl (e7 rfl (et rfl)) (ez rfl)) (by kernel_rfl) (fun sx hx hF => (VR_ldC rfl (et rfl) ((ow_at ((hS77.grow hx).chq 0 rfl hc_77)).cell hv85 (map_get hy85)) Try.underlying3 rfl)) rfl rfl ?_
              refine D_v rfl (wanted_t rfl rfl (e8 rfl (et rfl)) (ez rfl)) (V_neq rfl (e4 rfl (et rfl)) (et rfl)) rfl rfl ?_
              refine D_v rfl rfl (V_pickF rfl (e9 rfl (et rfl)) (et rfl)) rfl rfl ?_
              refine ZS_none hS77 (Nat.le_refl _) (Nat.le_refl _) (fun s97 hJ97 hL97 hF97 => ?_)
              have hS97 := hJ97.st; clear hF97 hJ97 hL97
              generalize s97.1 = w97 at *
              replace hS97 : St w NoX [c_77, c_77b] w97 := hS97
              refine gen_Q (fun A98 hA98 => ?_)
              have hsz98 := szq hA98
              have hdf98 : A98.defers = [] := by rw [hA98]; simp only [df_put]; exact hdf90
              have l7_98 := lookE hA98 7 (e14 rfl (es rfl l7_90))
              have l9_98 := lookE hA98 9 (e14 rfl (es rfl l9_90))
              have l20_98 := lookE hA98 20 (e14 rfl (es rfl l20_90))
              have l21_98 := lookE hA98 21 (e14 rfl (es rfl l21_90))
              have l22_98 := lookE hA98 22 (e14 rfl (es rfl l22_90))
              have l23_98 := lookE hA98 23 (e14 rfl (es rfl l23_90))
              have l24_98 := lookE hA98 24 (e14 rfl (es rfl l24_90))
              have l25_98 := lookE hA98 25 (e14 rfl (es rfl l25_90))
              have l160_98 := lookE hA98 160 (e14 rfl (es rfl l160_90))
              have l161_98 := lookE hA98 161 (e14 rfl (es rfl l161_90))
              have l162_98 := lookE hA98 162 (e14 rfl (es rfl l162_90))
              have l163_98 := lookE hA98 163 (e14 rfl (es rfl l163_90))
              have l164_98 := lookE hA98 164 (e14 rfl (es rfl l164_90))
              have l165_98 := lookE hA98 165 (e14 rfl (es rfl l165_90))
              have l172_98 := lookE hA98 172 (e9 rfl (et rfl))
              have l173_98 := lookE hA98 173 (e8 rfl (et rfl))
              have l174_98 := lookE hA98 174 (e7 rfl (et rfl))
              have l175_98 := lookE hA98 175 (e6 rfl (et rfl))
              have l176_98 := lookE hA98 176 (e5 rfl (et rfl))
              have l177_98 := lookE hA98 177 (e4 rfl (et rfl))
              have l178_98 := lookE hA98 178 (e3 rfl (et rfl))
              have l179_98 := lookE hA98 179 (e2 rfl (et rfl))
              have l180_98 := lookE hA98 180 (es rfl (et rfl))
              have l181_98 := lookE hA98 181 (et rfl)
              clear hA98 hsz90 hdf90 l7_90 l9_90 l20_90 l21_90 l22_90 l23_90 l24_90 l25_90 l160_90 l161_90 l162_90 l163_90 l164_90 l165_90 l166_90
              refine then_n (hK94 _ _ ?_)
              clear hK94
              refine cond_not l181_98 (by rw [decide_eq_false_iff_not]; have q := hin.2; rw [← hp, hy95] at q; cases q; simp) ?_
              refine wp_skip ?_
              refine then_n (hK93 _ _ ?_)
              clear hK93
              refine region_in ?_
              refine W_v rfl rfl (V_mov rfl l24_98) ?_
              refine W_v rfl rfl (V_add rfl (et rfl) rfl (by omega) (by omega)) ?_
              refine W_v rfl rfl (V_asg rfl (et rfl)) ?_
              refine W_end ?_
              refine gen_Q (fun A99 hA99 => ?_)
              have hsz99 := szq hA99
              have hdf99 : A99.defers = [] := by rw [hA99]; simp only [df_put]; exact hdf98
              have l7_99 := lookE hA99 7 (e2 rfl (es rfl l7_98))
              have l9_99 := lookE hA99 9 (e2 rfl (es rfl l9_98))
              have l20_99 := lookE hA99 20 (e2 rfl (es rfl l20_98))
              have l21_99 := lookE hA99 21 (e2 rfl (es rfl l21_98))
              have l22_99 := lookE hA99 22 (e2 rfl (es rfl l22_98))
              have l23_99 := lookE hA99 23 (e2 rfl (es rfl l23_98))
              have l24_99 := lookE hA99 24 (et rfl)
              have l25_99 := lookE hA99 25 (e2 rfl (es rfl l25_98))
              have l160_99 := lookE hA99 160 (e2 rfl (es rfl l160_98))
              have l161_99 := lookE hA99 161 (e2 rfl (es rfl l161_98))
              have l162_99 := lookE hA99 162 (e2 rfl (es rfl l162_98))
              have l163_99 := lookE hA99 163 (e2 rfl (es rfl l163_98))
              have l164_99 := lookE hA99 164 (e2 rfl (es rfl l164_98))
              have l165_99 := lookE hA99 165 (e2 rfl (es rfl l165_98))
              have l172_99 := lookE hA99 172 (e2 rfl (es rfl l172_98))
              have l173_99 := lookE hA99 173 (e2 rfl (es rfl l173_98))
              have l174_99 := lookE hA99 174 (e2 rfl (es rfl l174_98))
              have l175_99 := lookE hA99 175 (e2 rfl (es rfl l175_98))
              have l176_99 := lookE hA99 176 (e2 rfl (es rfl l176_98))
              have l177_99 := lookE hA99 177 (e2 rfl (es rfl l177_98))
              have l178_99 := lookE hA99 178 (e2 rfl (es rfl l178_98))
              have l179_99 := lookE hA99 179 (e2 rfl (es rfl l179_98))
              have l180_99 := lookE hA99 180 (e2 rfl (es rfl l180_98))
              clear hA99 hsz98 hdf98 l7_98 l9_98 l20_98 l21_98 l22_98 l23_98 l24_98 l25_98 l160_98 l161_98 l162_98 l163_98 l164_98 l165_98 l172_98 l173_98 l174_98 l175_98 l176_98 l177_98 l178_98 l179_98 l180_98 l181_98
              refine inb_n ?_
              refine then_n (hK82 _ _ ?_)
              clear hK82
              refine region_in ?_
              refine W_v rfl rfl (V_mov rfl l25_99) ?_
              refine W_v rfl rfl (V_add rfl (et rfl) rfl (by omega) (by omega)) ?_
              refine W_v rfl rfl (V_asg rfl (et rfl)) ?_
              refine W_end ?_
              refine gen_Q (fun A100 hA100 => ?_)
              have hsz100 := szq hA100
              have hdf100 : A100.defers = [] := by rw [hA100]; simp only [df_put]; exact hdf99
              have l7_100 := lookE hA100 7 (e2 rfl (es rfl l7_99))
              have l9_100 := lookE hA100 9 (e2 rfl (es rfl l9_99))
              have l20_100 := lookE hA100 20 (e2 rfl (es rfl l20_99))
              have l21_100 := lookE hA100 21 (e2 rfl (es rfl l21_99))
              have l22_100 := lookE hA100 22 (e2 rfl (es rfl l22_99))
              have l23_100 := lookE hA100 23 (e2 rfl (es rfl l23_99))
              have l24_100 := lookE hA100 24 (e2 rfl (es rfl l24_99))
              have l25_100 := lookE hA100 25 (et rfl)
              have l160_100 := lookE hA100 160 (e2 rfl (es rfl l160_99))
              have l161_100 := lookE hA100 161 (e2 rfl (es rfl l161_99))
              have l162_100 := lookE hA100 162 (e2 rfl (es rfl l162_99))
              have l163_100 := lookE hA100 163 (e2 rfl (es rfl l163_99))
              have l164_100 := lookE hA100 164 (e2 rfl (es rfl l164_99))
              have l165_100 := lookE hA100 165 (e2 rfl (es rfl l165_99))
              have l172_100 := lookE hA100 172 (e2 rfl (es rfl l172_99))
              have l173_100 := lookE hA100 173 (e2 rfl (es rfl l173_99))
              have l174_100 := lookE hA100 174 (e2 rfl (es rfl l174_99))
              have l175_100 := lookE hA100 175 (e2 rfl (es rfl l175_99))
              have l176_100 := lookE hA100 176 (e2 rfl (es rfl l176_99))
              have l177_100 := lookE hA100 177 (e2 rfl (es rfl l177_99))
              have l178_100 := lookE hA100 178 (e2 rfl (es rfl l178_99))
              have l179_100 := lookE hA100 179 (e2 rfl (es rfl l179_99))
              have l180_100 := lookE hA100 180 (e2 rfl (es rfl l180_99))
              clear hA100 hsz99 hdf99 l7_99 l9_99 l20_99 l21_99 l22_99 l23_99 l24_99 l25_99 l160_99 l161_99 l162_99 l163_99 l164_99 l165_99 l172_99 l173_99 l174_99 l175_99 l176_99 l177_99 l178_99 l179_99 l180_99
              refine then_n ⟨(ppT l 2).length - (k + 1), by simp only [hm77]; omega, hsz100, hdf100, (k + 1), rfl, (by omega), ((l25_100).trans (by first | rfl | (simp; done) | (congr 1; omega))), ((l24_100).trans ((congrArg (Value.int .i64) (by have h := hin.1; omega)))), ((l7_100).trans l7_76.symm), ((l9_100).trans l9_76.symm), ((l20_100).trans l20_76.symm), ((l21_100).trans l21_76.symm), ((l22_100).trans l22_76.symm), ((l23_100).trans l23_76.symm), (by subst hc_77 hc_77b; exact hS97)⟩
        · skip
          refine wp_exit ?_
          refine then_exit ?_
          refine then_exit ?_
          refine inb_hit ?_
          refine then_n (hK74 _ _ ?_)
          clear hK74
          refine wp_seq_k (fun K101 hK101 => ?_)
          refine region_in ?_
          refine W_v rfl rfl (V_mov rfl l21_80) ?_
          refine W_v rfl rfl (V_eql rfl (et rfl) rfl) ?_
          refine W_sure (c' := true) rfl rfl (V_mov rfl (et rfl)) (by rw [decide_eq_true_eq]; exact w4) ?_
          refine W_v rfl (wanted_t rfl rfl (et rfl) (ez rfl)) (V_mov rfl (e2 rfl (es rfl l23_80))) ?_
          refine W_v rfl (wanted_t rfl rfl (es rfl (et rfl)) (ez rfl)) (V_eql rfl (et rfl) rfl) ?_
          refine W_v rfl rfl (V_pickT rfl (e2 rfl (et rfl)) (et rfl)) ?_
          refine W_sure (c' := true) rfl rfl (V_mov rfl (et rfl)) (by rw [decide_eq_true_eq]; exact w5) ?_
          refine W_v rfl (wanted_t rfl rfl (et rfl) (ez rfl)) (V_mov rfl (e6 rfl (es rfl l24_80))) ?_
          refine W_v rfl (wanted_t rfl rfl (es rfl (et rfl)) (ez rfl)) (V_mov rfl (e7 rfl (es rfl l20_80))) ?_
          refine W_v rfl (wanted_t rfl rfl (e2 rfl (et rfl)) (ez rfl)) (V_lenS rfl (et rfl) (ow_at (hS77.chq 1 rfl hc_77b)) Try.underlying23) ?_
          refine W_v rfl (wanted_t rfl rfl (e3 rfl (et rfl)) (ez rfl)) (V_eql rfl (e2 rfl (et rfl)) (et rfl)) ?_
          refine W_v rfl rfl (V_pickT rfl (e4 rfl (et rfl)) (et rfl)) ?_
          refine W_sure (c' := true) rfl rfl (V_mov rfl (et rfl)) (by rw [decide_eq_true_eq]; have q := flK_end (p := (fun z => decide (qa ≤ z ∧ z < qc))) (show (ppT l 2).length ≤ k by omega); rw [hp]; omega) ?_
          refine W_call rfl (wanted_t rfl rfl (et rfl) (ez rfl)) rfl Try.func12 (by kernel_rfl) rfl (args0) (awk_c  ) ?_
          rintro _ w102 ⟨rfl, hP102⟩
          refine ⟨_, rfl, ?_⟩
          have hS102 := hS77.join hP102
          replace hS102 : St w NoX [c_77, c_77b] w102 := hS102
          refine W_v rfl rfl (V_pickT rfl (es rfl (et rfl)) (et rfl)) ?_
          refine W_v rfl rfl (V_asg rfl (et rfl)) ?_
          refine W_end ?_
          refine gen_Q (fun A103 hA103 => ?_)
          have hsz103 := szq hA103
          have hdf103 : A103.defers = [] := by rw [hA103]; simp only [df_put]; exact hdf80
          have l4_103 := lookE hA103 4 (et rfl)
          clear hA103 hsz80 hdf80 l7_80 l9_80 l20_80 l21_80 l22_80 l23_80 l24_80 l25_80 l150_80
          have hS104 : St w NoX [] w102 := hS102.sel [] (by decide) rfl
          refine then_n (hK101 _ _ ?_)
          clear hK101
          refine wp_ret ?_
          refine ret_in (results_1 Try.results10 (rv_tmp l4_103)) hdf103 ?_
          -- leaf FFFF
          exact ⟨rfl, hS104.fin0⟩

end Go.Proofs.Ytnfgeekaeegolaa