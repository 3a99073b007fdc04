import Derived.Test.YtnfgeekaeegolaaProg
import Derived.Test.YtnfgeekaeegolaaRd4
import Derived.Test.YtnfgeekaeegolaaRe6
import Derived.Test.YtnfgeekaeegolaaPl9n
namespace Go.Proofs.Ytnfgeekaeegolaa
open Go.RowKit Go.Own Go.Own.R Go.Own.S Go.Own.F


set_option maxHeartbeats 4000000 in
theorem ReferrersPopular_c {cv : Value} {l : List (Int × Int)} {p : Int} {q : Int} {w : World} (h_cv : Ro w NoX (rl 2 rcC cv l)) (hp : 0 ≤ p ∧ p ≤ 65535) (hq : 0 ≤ q ∧ q ≤ 65535) :
    Calls Try.prog 6 #[cv, .int .u16 p, .int .u16 q] w fun e w' => e = .returned (.bool true) ∧ St w NoX [] w' := by
  have hmn : 0 ≤ (if (q : Int) < p then q else p) ∧ (if (q : Int) < p then q else p) ≤ 65535 := by split <;> omega
  have hmx : 0 ≤ (if (q : Int) > p then q else p) ∧ (if (q : Int) > p then q else p) ≤ 65535 := by split <;> omega
  refine calls_in 164 Try.func6 rfl rfl (by simp) (fun A0 hsz0 hdf0 hargs => ?_)
  have l0_0 := hargs 0 (cv) rfl
  have l1_0 := hargs 1 (.int .u16 p) rfl
  have l2_0 := hargs 2 (.int .u16 q) rfl
  clear hargs; replace hsz0 : SzN A0 164 := ⟨hsz0⟩
  have hS := St.nil w
  have bh_cv := SlN.le (sl_SlN h_cv.at)
  refine wp_seq_k (fun K1 hK1 => ?_)
  refine region_in ?_
  refine W_v rfl rfl (V_asg rfl rfl) ?_
  refine W_end ?_
  refine gen_Q (fun A2 hA2 => ?_)
  have hsz2 := szq hA2
  have hdf2 : A2.defers = [] := by rw [hA2]; simp only [df_put]; exact hdf0
  have l0_2 := lookE hA2 0 (es rfl l0_0)
  have l1_2 := lookE hA2 1 (es rfl l1_0)
  have l2_2 := lookE hA2 2 (es rfl l2_0)
  clear hA2 hsz0 hdf0 l0_0 l1_0 l2_0
  refine then_n (hK1 _ _ ?_)
  clear hK1
  refine wp_seq_k (fun K3 hK3 => ?_)
  refine wp_seq_k (fun K4 hK4 => ?_)
  refine region_in ?_
  refine W_v rfl rfl (V_mov rfl l0_2) ?_
  refine W_call rfl rfl rfl Try.func24 (by kernel_rfl) rfl (args1 (et rfl)) (qlong_c (hS.roC h_cv) ) ?_
  rintro _ w5 ⟨rfl, hP5⟩
  refine ⟨_, rfl, ?_⟩
  have hS5 := hS.join hP5
  replace hS5 : St w NoX [] w5 := hS5
  refine W_split rfl rfl (V_mov rfl (et rfl)) (fun c6 => ?_) (fun c6 => ?_)
  · skip
    refine W_off rfl (wanted_f rfl rfl (et rfl) (ez rfl) rfl) ?_
    refine W_off rfl (wanted_f rfl rfl (es rfl (et rfl)) (ez rfl) rfl) ?_
    refine W_off rfl (wanted_f rfl rfl (e2 rfl (et rfl)) (ez rfl) rfl) ?_
    refine W_v rfl rfl (V_pickT rfl (e3 rfl (et rfl)) rfl) ?_
    refine W_end ?_
    refine gen_Q (fun A7 hA7 => ?_)
    have hsz7 := szq hA7
    have hdf7 : A7.defers = [] := by rw [hA7]; simp only [df_put]; exact hdf2
    have l0_7 := lookE hA7 0 (e6 rfl (es rfl l0_2))
    have l1_7 := lookE hA7 1 (e6 rfl (es rfl l1_2))
    have l2_7 := lookE hA7 2 (e6 rfl (es rfl l2_2))
    have l29_7 := lookE hA7 29 (et rfl)
    clear hA7 hsz2 hdf2 l0_2 l1_2 l2_2
    refine then_n (hK4 _ _ ?_)
    clear hK4
    refine cond_t l29_7 ?_
    refine wp_seq_k (fun K8 hK8 => ?_)
    refine region_in ?_
    refine W_call rfl rfl rfl Try.func12 (by kernel_rfl) rfl (args0) (awk_c  ) ?_
    rintro _ w9 ⟨rfl, hP9⟩
    refine ⟨_, rfl, ?_⟩
    have hS9 := hS5.join hP9
    replace hS9 : St w NoX [] w9 := hS9
    refine W_v rfl rfl (V_asg rfl (et rfl)) ?_
    refine W_end ?_
    refine gen_Q (fun A10 hA10 => ?_)
    have hsz10 := szq hA10
    have hdf10 : A10.defers = [] := by rw [hA10]; simp only [df_put]; exact hdf7
    have l6_10 := lookE hA10 6 (et rfl)
    clear hA10 hsz7 hdf7 l0_7 l1_7 l2_7 l29_7
    refine then_n (hK8 _ _ ?_)
    clear hK8
    refine wp_ret ?_
    refine then_ret ?_
    refine ret_in (results_1 Try.results6 (rv_tmp l6_10)) hdf10 ?_
    -- leaf T
    exact ⟨rfl, hS9.fin0⟩
  · skip
    refine W_v rfl (wanted_t rfl rfl (et rfl) (ez rfl)) (V_mov rfl (e2 rfl (es rfl l0_2))) ?_
    refine W_v rfl (wanted_t rfl rfl (es rfl (et rfl)) (ez rfl)) (V_lenS rfl (et rfl) (sl_SlN h_cv.at) Try.underlying28) ?_
    refine W_v rfl (wanted_t rfl rfl (e2 rfl (et rfl)) (ez rfl)) (V_gtr rfl (et rfl) rfl) ?_
    refine W_v rfl rfl (V_pickF rfl (e3 rfl (et rfl)) (et rfl)) ?_
    refine W_end ?_
    refine gen_Q (fun A11 hA11 => ?_)
    have hsz11 := szq hA11
    have hdf11 : A11.defers = [] := by rw [hA11]; simp only [df_put]; exact hdf2
    have l0_11 := lookE hA11 0 (e6 rfl (es rfl l0_2))
    have l1_11 := lookE hA11 1 (e6 rfl (es rfl l1_2))
    have l2_11 := lookE hA11 2 (e6 rfl (es rfl l2_2))
    have l29_11 := lookE hA11 29 (et rfl)
    clear hA11 hsz2 hdf2 l0_2 l1_2 l2_2
    refine then_n (hK4 _ _ ?_)
    clear hK4
    refine cond_dec l29_11 (fun c12 => ?_) (fun c12 => ?_)
    · skip
      refine wp_seq_k (fun K13 hK13 => ?_)
      refine region_in ?_
      refine W_call rfl rfl rfl Try.func12 (by kernel_rfl) rfl (args0) (awk_c  ) ?_
      rintro _ w14 ⟨rfl, hP14⟩
      refine ⟨_, rfl, ?_⟩
      have hS14 := hS5.join hP14
      replace hS14 : St w NoX [] w14 := hS14
      refine W_v rfl rfl (V_asg rfl (et rfl)) ?_
      refine W_end ?_
      refine gen_Q (fun A15 hA15 => ?_)
      have hsz15 := szq hA15
      have hdf15 : A15.defers = [] := by rw [hA15]; simp only [df_put]; exact hdf11
      have l6_15 := lookE hA15 6 (et rfl)
      clear hA15 hsz11 hdf11 l0_11 l1_11 l2_11 l29_11
      refine then_n (hK13 _ _ ?_)
      clear hK13
      refine wp_ret ?_
      refine then_ret ?_
      refine ret_in (results_1 Try.results6 (rv_tmp l6_15)) hdf15 ?_
      -- leaf FT
      exact ⟨rfl, hS14.fin0⟩
    · skip
      refine wp_skip ?_
      refine then_n (hK3 _ _ ?_)
      clear hK3
      refine wp_seq_k (fun K16 hK16 => ?_)
      refine region_in ?_
      refine W_v rfl rfl (V_mov rfl l0_11) ?_
      refine W_call rfl rfl rfl Try.func25 (by kernel_rfl) rfl (args1 (et rfl)) (kmx_c (hS5.roC h_cv) ) ?_
      rintro _ w17 ⟨rfl, hP17⟩
      refine ⟨_, rfl, ?_⟩
      have hS17 := hS5.join hP17
      replace hS17 : St w NoX [] w17 := hS17
      refine W_v rfl rfl (V_mov rfl (et rfl)) ?_
      refine W_v rfl rfl (V_ext (v := .agg #[.int .i64 ((mxT l).1), .int .i64 ((mxT l).2)]) rfl (et rfl) rfl) ?_
      refine W_v rfl rfl (V_ext (v := .int .i64 ((mxE l))) rfl (es rfl (et rfl)) rfl) ?_
      refine W_allocS (z := .agg #[.int .i64 0, .int .i64 0]) (zs := #[.int .i64 0, .int .i64 0]) hS17 rfl rfl rfl (by kernel_rfl) (by rfl) (fun g18 w18 c18 hc18 hS18 => ?_)
      replace hS18 : St w NoX [c18] w18 := hS18
      refine W_stAS 0 hS18 rfl hc18 rfl rfl rfl (et rfl) (e2 rfl (et rfl)) (by first | (rw [List.all_toArray] <;> rfl) | (simp only [List.all_toArray, List.all_cons, List.all_nil] <;> rfl)) (by rfl) (by kernel_rfl) (fun w19 c19 hc19 hS19 => ?_)
      replace hS19 : St w NoX [c19] w19 := hS19
      refine W_v rfl rfl (V_asg rfl (es rfl (et rfl))) ?_
      refine W_end ?_
      refine gen_Q (fun A20 hA20 => ?_)
      have hsz20 := szq hA20
      have hdf20 : A20.defers = [] := by rw [hA20]; simp only [df_put]; exact hdf11
      have l0_20 := lookE hA20 0 (e6 rfl (es rfl l0_11))
      have l1_20 := lookE hA20 1 (e6 rfl (es rfl l1_11))
      have l2_20 := lookE hA20 2 (e6 rfl (es rfl l2_11))
      have l7_20 := lookE hA20 7 (es rfl (et rfl))
      have l8_20 := lookE hA20 8 (et rfl)
      clear hA20 hsz11 hdf11 l0_11 l1_11 l2_11 l29_11
      refine then_n (hK16 _ _ ?_)
      clear hK16
      refine wp_seq_k (fun K21 hK21 => ?_)
      refine wp_seq_k (fun K22 hK22 => ?_)
      refine region_in ?_
      refine W_v rfl rfl (V_mov rfl l8_20) ?_
      refine W_v rfl rfl (V_neq rfl (et rfl) rfl) ?_
      refine W_end ?_
      refine gen_Q (fun A23 hA23 => ?_)
      have hsz23 := szq hA23
      have hdf23 : A23.defers = [] := by rw [hA23]; simp only [df_put]; exact hdf20
      have l0_23 := lookE hA23 0 (es rfl (es rfl l0_20))
      have l1_23 := lookE hA23 1 (es rfl (es rfl l1_20))
      have l2_23 := lookE hA23 2 (es rfl (es rfl l2_20))
      have l7_23 := lookE hA23 7 (es rfl (es rfl l7_20))
      have l37_23 := lookE hA23 37 (et rfl)
      clear hA23 hsz20 hdf20 l0_20 l1_20 l2_20 l7_20 l8_20
      refine then_n (hK22 _ _ ?_)
      clear hK22
      refine cond_dec l37_23 (fun c24 => ?_) (fun c24 => ?_)
      · skip
        refine wp_seq_k (fun K25 hK25 => ?_)
        refine region_in ?_
        refine W_call rfl rfl rfl Try.func12 (by kernel_rfl) rfl (args0) (awk_c  ) ?_
        rintro _ w26 ⟨rfl, hP26⟩
        refine ⟨_, rfl, ?_⟩
        have hS26 := hS19.join hP26
        replace hS26 : St w NoX [c19] w26 := hS26
        refine W_v rfl rfl (V_asg rfl (et rfl)) ?_
        refine W_end ?_
        refine gen_Q (fun A27 hA27 => ?_)
        have hsz27 := szq hA27
        have hdf27 : A27.defers = [] := by rw [hA27]; simp only [df_put]; exact hdf23
        have l6_27 := lookE hA27 6 (et rfl)
        clear hA27 hsz23 hdf23 l0_23 l1_23 l2_23 l7_23 l37_23
        have hS28 : St w NoX [] w26 := hS26.sel [] (by decide) rfl
        refine then_n (hK25 _ _ ?_)
        clear hK25
        refine wp_ret ?_
        refine then_ret ?_
        refine ret_in (results_1 Try.results6 (rv_tmp l6_27)) hdf27 ?_
        -- leaf FFT
        exact ⟨rfl, hS28.fin0⟩
      · skip
        obtain ⟨hck, hl0, hmr, htop, hnone⟩ := most_law (show mxE l = 0 by omega)
        have htl := (List.getElem?_eq_some_iff.1 htop).1
        refine wp_skip ?_
        refine then_n (hK21 _ _ ?_)
        clear hK21
        refine wp_seq_k (fun K29 hK29 => ?_)
        refine region_in ?_
        refine W_v rfl rfl (V_mov rfl l1_23) ?_
        refine W_v rfl rfl (V_mov rfl (es rfl l2_23)) ?_
        refine W_v rfl rfl (V_min rfl (es rfl (et rfl)) (et rfl)) ?_
        refine W_v rfl rfl (V_cvt rfl (et rfl) Try.underlying43 Try.underlying3 (wrap_i64 (by omega) (by omega))) ?_
        refine W_v rfl rfl (V_rem rfl (et rfl) rfl (by omega) (by omega) (wrap_i64 (by omega) (by omega))) ?_
        refine W_v rfl rfl (V_add rfl (et rfl) rfl (by omega) (by omega)) ?_
        refine W_v rfl rfl (V_mov rfl (e5 rfl (es rfl l1_23))) ?_
        refine W_v rfl rfl (V_mov rfl (e6 rfl (es rfl l2_23))) ?_
        refine W_v rfl rfl (V_max rfl (es rfl (et rfl)) (et rfl)) ?_
        refine W_v rfl rfl (V_cvt rfl (et rfl) Try.underlying43 Try.underlying3 (wrap_i64 (by omega) (by omega))) ?_
        refine W_v rfl rfl (V_rem rfl (et rfl) rfl (by omega) (by omega) (wrap_i64 (by omega) (by omega))) ?_
        refine W_v rfl rfl (V_add rfl (et rfl) rfl (by omega) (by omega)) ?_
        refine W_v rfl rfl (V_asg rfl (e6 rfl (et rfl))) ?_
        refine W_v rfl rfl (V_asg rfl (es rfl (et rfl))) ?_
        refine W_end ?_
        refine gen_Q (fun A30 hA30 => ?_)
        have hsz30 := szq hA30
        have hdf30 : A30.defers = [] := by rw [hA30]; simp only [df_put]; exact hdf23
        have l0_30 := lookE hA30 0 (e13 rfl (es rfl l0_23))
        have l7_30 := lookE hA30 7 (e13 rfl (es rfl l7_23))
        have l9_30 := lookE hA30 9 (es rfl (et rfl))
        have l10_30 := lookE hA30 10 (et rfl)
        clear hA30 hsz23 hdf23 l0_23 l1_23 l2_23 l7_23 l37_23
        refine then_n (hK29 _ _ ?_)
        clear hK29
        refine wp_seq_k (fun K31 hK31 => ?_)
        refine region_in ?_
        refine W_v rfl rfl (V_mov rfl l9_30) ?_
        refine W_v rfl rfl (V_mov rfl (es rfl l10_30)) ?_
        refine W_v rfl rfl (V_min rfl (es rfl (et rfl)) (et rfl)) ?_
        refine W_v rfl rfl (V_mov rfl (e2 rfl (es rfl l9_30))) ?_
        refine W_v rfl rfl (V_mov rfl (e3 rfl (es rfl l10_30))) ?_
        refine W_v rfl rfl (V_max rfl (es rfl (et rfl)) (et rfl)) ?_
        refine W_v rfl rfl (V_asg rfl (e3 rfl (et rfl))) ?_
        refine W_v rfl rfl (V_asg rfl (es rfl (et rfl))) ?_
        refine W_end ?_
        refine gen_Q (fun A32 hA32 => ?_)
        have hsz32 := szq hA32
        have hdf32 : A32.defers = [] := by rw [hA32]; simp only [df_put]; exact hdf30
        have l0_32 := lookE hA32 0 (e7 rfl (es rfl l0_30))
        have l7_32 := lookE hA32 7 (e7 rfl (es rfl l7_30))
        have l9_32 := lookE hA32 9 (es rfl (et rfl))
        have l10_32 := lookE hA32 10 (et rfl)
        clear hA32 hsz30 hdf30 l0_30 l7_30 l9_30 l10_30
        obtain ⟨lo, hlo⟩ : ∃ z : Int, z = (if ((((if (q : Int) > p then q else p) % 50) + 1) : Int) < (((if (q : Int) < p then q else p) % 50) + 1) then (((if (q : Int) > p then q else p) % 50) + 1) else (((if (q : Int) < p then q else p) % 50) + 1)) := ⟨_, rfl⟩
        rw [← hlo] at l9_32
        obtain ⟨hi, hhi⟩ : ∃ z : Int, z = (if ((((if (q : Int) > p then q else p) % 50) + 1) : Int) > (((if (q : Int) < p then q else p) % 50) + 1) then (((if (q : Int) > p then q else p) % 50) + 1) else (((if (q : Int) < p then q else p) % 50) + 1)) := ⟨_, rfl⟩
        rw [← hhi] at l10_32
        have hlh : 1 ≤ lo ∧ lo ≤ hi ∧ hi ≤ 50 := by rw [hlo, hhi]; (repeat' split) <;> omega
        have hA := ppT_ok hck (show 1 ≤ lo ∧ lo ≤ 1600 by omega)
        have hB := ppT_ok hck (show 1 ≤ hi ∧ hi ≤ 1600 by omega)
        have h1 := pp_one hck
        have hC := ppT_ok hck hmr
        have hla := ppT_len l lo
        have hlb := ppT_len l hi
        refine then_n (hK31 _ _ ?_)
        clear hK31
        refine wp_seq_k (fun K33 hK33 => ?_)
        refine region_in ?_
        refine W_v rfl rfl (V_mov rfl l0_32) ?_
        refine W_v rfl rfl (V_mov rfl (es rfl l9_32)) ?_
        refine W_call rfl rfl rfl Try.func26 (by kernel_rfl) rfl (args2 (es rfl (et rfl)) (et rfl)) (kpp_c (q := lo) (hS19.roC h_cv) ) ?_
        rintro _ w34 ⟨v_34, rfl, hP34⟩
        refine ⟨_, rfl, ?_⟩
        obtain ⟨c_34, hc_34, hP34⟩ := gen1 hP34
        have hS34 := hS19.join hP34
        replace hS34 : St w NoX [c_34, c19] w34 := hS34
        refine W_v rfl rfl (V_mov rfl (et rfl)) ?_
        refine W_v rfl rfl (V_ext (v := v_34) rfl (et rfl) rfl) ?_
        refine W_v rfl rfl (V_ext (v := .int .i64 ((ppE l lo))) rfl (es rfl (et rfl)) rfl) ?_
        refine W_v rfl rfl (V_asg rfl (es rfl (et rfl))) ?_
        refine W_v rfl rfl (V_asg rfl (es rfl (et rfl))) ?_
        refine W_end ?_
        refine gen_Q (fun A35 hA35 => ?_)
        have hsz35 := szq hA35
        have hdf35 : A35.defers = [] := by rw [hA35]; simp only [df_put]; exact hdf32
        have l0_35 := lookE hA35 0 (e7 rfl (es rfl l0_32))
        have l7_35 := lookE hA35 7 (e7 rfl (es rfl l7_32))
        have l10_35 := lookE hA35 10 (e7 rfl (es rfl l10_32))
        have l11_35 := lookE hA35 11 (es rfl (et rfl))
        have l12_35 := lookE hA35 12 (et rfl)
        clear hA35 hsz32 hdf32 l0_32 l7_32 l9_32 l10_32
        refine then_n (hK33 _ _ ?_)
        clear hK33
        refine wp_seq_k (fun K36 hK36 => ?_)
        refine region_in ?_
        refine W_v rfl rfl (V_mov rfl l0_35) ?_
        refine W_v rfl rfl (V_mov rfl (es rfl l10_35)) ?_
        refine W_call rfl rfl rfl Try.func26 (by kernel_rfl) rfl (args2 (es rfl (et rfl)) (et rfl)) (kpp_c (q := hi) (hS34.roC h_cv) ) ?_
        rintro _ w37 ⟨v_37, rfl, hP37⟩
        refine ⟨_, rfl, ?_⟩
        obtain ⟨c_37, hc_37, hP37⟩ := gen1 hP37
        have hS37 := hS34.join hP37
        replace hS37 : St w NoX [c_37, c_34, c19] w37 := hS37
        refine W_v rfl rfl (V_mov rfl (et rfl)) ?_
        refine W_v rfl rfl (V_ext (v := v_37) rfl (et rfl) rfl) ?_
        refine W_v rfl rfl (V_ext (v := .int .i64 ((ppE l hi))) rfl (es rfl (et rfl)) rfl) ?_
        refine W_v rfl rfl (V_asg rfl (es rfl (et rfl))) ?_
        refine W_v rfl rfl (V_asg rfl (es rfl (et rfl))) ?_
        refine W_end ?_
        refine gen_Q (fun A38 hA38 => ?_)
        have hsz38 := szq hA38
        have hdf38 : A38.defers = [] := by rw [hA38]; simp only [df_put]; exact hdf35
        have l0_38 := lookE hA38 0 (e7 rfl (es rfl l0_35))
        have l7_38 := lookE hA38 7 (e7 rfl (es rfl l7_35))
        have l11_38 := lookE hA38 11 (e7 rfl (es rfl l11_35))
        have l12_38 := lookE hA38 12 (e7 rfl (es rfl l12_35))
        have l13_38 := lookE hA38 13 (es rfl (et rfl))
        have l14_38 := lookE hA38 14 (et rfl)
        clear hA38 hsz35 hdf35 l0_35 l7_35 l10_35 l11_35 l12_35
        refine then_n (hK36 _ _ ?_)
        clear hK36
        refine wp_seq_k (fun K39 hK39 => ?_)
        refine region_in ?_
        refine W_v rfl rfl (V_mov rfl l0_38) ?_
        refine W_call rfl rfl rfl Try.func26 (by kernel_rfl) rfl (args2 (et rfl) rfl) (kpp_c (q := 1) (hS37.roC h_cv) ) ?_
        rintro _ w40 ⟨v_40, rfl, hP40⟩
        refine ⟨_, rfl, ?_⟩
        obtain ⟨c_40, hc_40, hP40⟩ := gen1 hP40
        have hS40 := hS37.join hP40
        replace hS40 : St w NoX [c_40, c_37, c_34, c19] w40 := hS40
        refine W_v rfl rfl (V_mov rfl (et rfl)) ?_
        refine W_v rfl rfl (V_ext (v := v_40) rfl (et rfl) rfl) ?_
        refine W_v rfl rfl (V_ext (v := .int .i64 ((ppE l 1))) rfl (es rfl (et rfl)) rfl) ?_
        refine W_v rfl rfl (V_asg rfl (es rfl (et rfl))) ?_
        refine W_v rfl rfl (V_asg rfl (es rfl (et rfl))) ?_
        refine W_end ?_
        refine gen_Q (fun A41 hA41 => ?_)
        have hsz41 := szq hA41
        have hdf41 : A41.defers = [] := by rw [hA41]; simp only [df_put]; exact hdf38
        have l0_41 := lookE hA41 0 (e6 rfl (es rfl l0_38))
        have l7_41 := lookE hA41 7 (e6 rfl (es rfl l7_38))
        have l11_41 := lookE hA41 11 (e6 rfl (es rfl l11_38))
        have l12_41 := lookE hA41 12 (e6 rfl (es rfl l12_38))
        have l13_41 := lookE hA41 13 (e6 rfl (es rfl l13_38))
        have l14_41 := lookE hA41 14 (e6 rfl (es rfl l14_38))
        have l15_41 := lookE hA41 15 (es rfl (et rfl))
        have l16_41 := lookE hA41 16 (et rfl)
        clear hA41 hsz38 hdf38 l0_38 l7_38 l11_38 l12_38 l13_38 l14_38
        refine then_n (hK39 _ _ ?_)
        clear hK39
        refine wp_seq_k (fun K42 hK42 => ?_)
        refine region_in ?_
        refine W_v rfl rfl (V_mov rfl l0_41) ?_
        refine W_v rfl rfl (V_fa (off' := 1) rfl (es rfl l7_41) Try.underlying42 rfl (by decide +kernel) rfl) ?_
        refine W_r rfl rfl (VR_ldC rfl (et rfl) (cell_box (v := .int .i64 ((mxT l).2)) (hS40.obj 3 rfl hc19) rfl) Try.underlying3 rfl) ?_
        refine W_call rfl rfl rfl Try.func26 (by kernel_rfl) rfl (args2 (e2 rfl (et rfl)) (et rfl)) (kpp_c (q := (mxT l).2) (hS40.roC h_cv) ) ?_
        rintro _ w43 ⟨v_43, rfl, hP43⟩
        refine ⟨_, rfl, ?_⟩
        obtain ⟨c_43, hc_43, hP43⟩ := gen1 hP43
        have hS43 := hS40.join hP43
        replace hS43 : St w NoX [c_43, c_40, c_37, c_34, c19] w43 := hS43
        refine W_v rfl rfl (V_mov rfl (et rfl)) ?_
        refine W_v rfl rfl (V_ext (v := v_43) rfl (et rfl) rfl) ?_
        refine W_v rfl rfl (V_ext (v := .int .i64 ((ppE l ((mxT l).2)))) rfl (es rfl (et rfl)) rfl) ?_
        refine W_v rfl rfl (V_asg rfl (es rfl (et rfl))) ?_
        refine W_v rfl rfl (V_asg rfl (es rfl (et rfl))) ?_
        refine W_end ?_
        refine gen_Q (fun A44 hA44 => ?_)
        have hsz44 := szq hA44
        have hdf44 : A44.defers = [] := by rw [hA44]; simp only [df_put]; exact hdf41
        have l0_44 := lookE hA44 0 (e8 rfl (es rfl l0_41))
        have l7_44 := lookE hA44 7 (e8 rfl (es rfl l7_41))
        have l11_44 := lookE hA44 11 (e8 rfl (es rfl l11_41))
        have l12_44 := lookE hA44 12 (e8 rfl (es rfl l12_41))
        have l13_44 := lookE hA44 13 (e8 rfl (es rfl l13_41))
        have l14_44 := lookE hA44 14 (e8 rfl (es rfl l14_41))
        have l15_44 := lookE hA44 15 (e8 rfl (es rfl l15_41))
        have l16_44 := lookE hA44 16 (e8 rfl (es rfl l16_41))
        have l17_44 := lookE hA44 17 (es rfl (et rfl))
        have l18_44 := lookE hA44 18 (et rfl)
        clear hA44 hsz41 hdf41 l0_41 l7_41 l11_41 l12_41 l13_41 l14_41 l15_41 l16_41
        refine then_n (hK42 _ _ ?_)
        clear hK42
        refine wp_seq_k (fun K45 hK45 => ?_)
        refine wp_seq_k (fun K46 hK46 => ?_)
        refine region_monoS 34 34 [] (by kernel_rfl) (by kernel_rfl) ?_
        refine D_v rfl rfl (V_mov rfl l12_44) rfl rfl ?_
        refine D_v rfl rfl (V_neq rfl (et rfl) rfl) rfl rfl ?_
        refine D_sure (c' := false) rfl rfl (V_mov rfl (et rfl)) (by rw [decide_eq_false_iff_not]; rw [hA.1]; simp) rfl rfl ?_
        refine D_v rfl (wanted_t rfl rfl (et rfl) (ez rfl)) (V_mov rfl (e2 rfl (es rfl l14_44))) rfl rfl ?_
        refine D_v rfl (wanted_t rfl rfl (es rfl (et rfl)) (ez rfl)) (V_neq rfl (et rfl) rfl) rfl rfl ?_
        refine D_v rfl rfl (V_pickF rfl (e2 rfl (et rfl)) (et rfl)) rfl rfl ?_
        refine D_sure (c' := false) rfl rfl (V_mov rfl (et rfl)) (by rw [decide_eq_false_iff_not]; rw [hB.1]; simp) rfl rfl ?_
        refine D_v rfl (wanted_t rfl rfl (et rfl) (ez rfl)) (V_mov rfl (e6 rfl (es rfl l16_44))) rfl rfl ?_
        refine D_v rfl (wanted_t rfl rfl (es rfl (et rfl)) (ez rfl)) (V_neq rfl (et rfl) rfl) rfl rfl ?_
        refine D_v rfl rfl (V_pickF rfl (e2 rfl (et rfl)) (et rfl)) rfl rfl ?_
        refine D_sure (c' := false) rfl rfl (V_mov rfl (et rfl)) (by rw [decide_eq_false_iff_not]; rw [h1.2]; simp) rfl rfl ?_
        refine D_v rfl (wanted_t rfl rfl (et rfl) (ez rfl)) (V_mov rfl (e10 rfl (es rfl l18_44))) rfl rfl ?_
        refine D_v rfl (wanted_t rfl rfl (es rfl (et rfl)) (ez rfl)) (V_neq rfl (et rfl) rfl) rfl rfl ?_
        refine D_v rfl rfl (V_pickF rfl (e2 rfl (et rfl)) (et rfl)) rfl rfl ?_
        refine D_sure (c' := false) rfl rfl (V_mov rfl (et rfl)) (by rw [decide_eq_false_iff_not]; rw [hC.1]; simp) rfl rfl ?_
        refine D_v rfl (wanted_t rfl rfl (et rfl) (ez rfl)) (V_mov rfl (e14 rfl (es rfl l15_44))) rfl rfl ?_
        refine D_v rfl (wanted_t rfl rfl (es rfl (et rfl)) (ez rfl)) (V_lenS rfl (et rfl) (ow_at (hS43.chq 1 rfl hc_40)) Try.underlying23) rfl rfl ?_
        refine D_v rfl (wanted_t rfl rfl (e2 rfl (et rfl)) (ez rfl)) (V_mov rfl (e16 rfl (es rfl l0_44))) rfl rfl ?_
        refine D_v rfl (wanted_t rfl rfl (e3 rfl (et rfl)) (ez rfl)) (V_lenS rfl (et rfl) (sl_SlN h_cv.at) Try.underlying28) rfl rfl ?_
        refine D_v rfl (wanted_t rfl rfl (e4 rfl (et rfl)) (ez rfl)) (V_neq rfl (e2 rfl (et rfl)) (et rfl)) rfl rfl ?_
        refine D_v rfl rfl (V_pickF rfl (e5 rfl (et rfl)) (et rfl)) rfl rfl ?_
        refine D_sure (c' := false) rfl rfl (V_mov rfl (et rfl)) (by rw [decide_eq_false_iff_not]; rw [h1.1, List.length_map]; simp) rfl rfl ?_
        refine D_v rfl (wanted_t rfl rfl (et rfl) (ez rfl)) (V_mov rfl (e21 rfl (es rfl l17_44))) rfl rfl ?_
        refine D_v rfl (wanted_t rfl rfl (es rfl (et rfl)) (ez rfl)) (V_lenS rfl (et rfl) (ow_at (hS43.chq 0 rfl hc_43)) Try.underlying23) rfl rfl ?_
        refine D_v rfl (wanted_t rfl rfl (e2 rfl (et rfl)) (ez rfl)) (V_eql rfl (et rfl) rfl) rfl rfl ?_
        refine D_v rfl rfl (V_pickF rfl (e3 rfl (et rfl)) (et rfl)) rfl rfl ?_
        refine D_sure (c' := false) rfl rfl (V_mov rfl (et rfl)) (by rw [decide_eq_false_iff_not]; have q := (List.getElem?_eq_some_iff.1 htop).1; omega) rfl rfl ?_
        refine D_v rfl (wanted_t rfl rfl (et rfl) (ez rfl)) (V_mov rfl (e25 rfl (es rfl (es rfl l17_44)))) rfl rfl ?_
        have k47 : 0 < (ppT l ((mxT l).2)).length := by first | omega | (simp only [List.length_cons, List.length_nil]; omega) | (simp only [List.length_set]; omega) | decide
        obtain ⟨y47, hy47⟩ := get_some (xs := (ppT l ((mxT l).2))) (k := 0) k47
        obtain ⟨B47, O47, C47, hv47⟩ := (SlN.blk (ow_at (hS43.chq 0 rfl hc_43)) (by first | omega | (simp only [List.length_cons, List.length_nil]; omega) | (simp only [List.length_set]; omega) | decide))
        refine D_v rfl (wanted_t rfl rfl (es rfl (et rfl)) (ez rfl)) (V_ixS (off := O47 + 0) 1 (0) rfl (et rfl) rfl hv47 (by omega) k47 Try.underlying23 (by kernel_rfl) (congrArg _ (Nat.mul_one _))) rfl rfl ?_
        refine D_r rfl (wanted_t rfl rfl (e2 rfl (et rfl)) (ez rfl)) (by kernel_rfl) (fun sx hx hF => (VR_ldC rfl (et rfl) ((ow_at ((hS43.grow hx).chq 0 rfl hc_43)).cell hv47 (map_get hy47)) Try.underlying3 rfl)) rfl rfl ?_
        refine D_v rfl (wanted_t rfl rfl (e3 rfl (et rfl)) (ez rfl)) (V_fa (off' := 0) rfl (e25 rfl (es rfl (es rfl (es rfl (es rfl (es rfl l7_44)))))) Try.underlying42 rfl (by decide +kernel) rfl) rfl rfl ?_
        refine D_r rfl (wanted_t rfl rfl (e4 rfl (et rfl)) (ez rfl)) (by kernel_rfl) (fun sx hx hF => (VR_ldC rfl (et rfl) (cell_box (v := .int .i64 ((mxT l).1)) ((hS43.grow hx).obj 4 rfl hc19) rfl) Try.underlying3 rfl)) rfl rfl ?_
        refine D_v rfl (wanted_t rfl rfl (e5 rfl (et rfl)) (ez rfl)) (V_neq rfl (e2 rfl (et rfl)) (et rfl)) rfl rfl ?_
        refine D_v rfl rfl (V_pickF rfl (e6 rfl (et rfl)) (et rfl)) rfl rfl ?_
        refine ZS_none hS43 (Nat.le_refl _) (Nat.le_refl _) (fun s48 hJ48 hL48 hF48 => ?_)
        have hS48 := hJ48.st; clear hF48 hJ48 hL48
        generalize s48.1 = w48 at *
        replace hS48 : St w NoX [c_43, c_40, c_37, c_34, c19] w48 := hS48
        refine gen_Q (fun A49 hA49 => ?_)
        have hsz49 := szq hA49
        have hdf49 : A49.defers = [] := by rw [hA49]; simp only [df_put]; exact hdf44
        have l0_49 := lookE hA49 0 (e25 rfl (es rfl (es rfl (es rfl (es rfl (es rfl (es rfl (es rfl (es rfl (es rfl l0_44))))))))))
        have l7_49 := lookE hA49 7 (e25 rfl (es rfl (es rfl (es rfl (es rfl (es rfl (es rfl (es rfl (es rfl (es rfl l7_44))))))))))
        have l11_49 := lookE hA49 11 (e25 rfl (es rfl (es rfl (es rfl (es rfl (es rfl (es rfl (es rfl (es rfl (es rfl l11_44))))))))))
        have l13_49 := lookE hA49 13 (e25 rfl (es rfl (es rfl (es rfl (es rfl (es rfl (es rfl (es rfl (es rfl (es rfl l13_44))))))))))
        have l114_49 := lookE hA49 114 (et rfl)
        clear hA49 hsz44 hdf44 l0_44 l7_44 l11_44 l12_44 l13_44 l14_44 l15_44 l16_44 l17_44 l18_44
        have hS50 : St w NoX [c_37, c_34, c19] w48 := hS48.sel [2, 3, 4] (by decide) rfl
        refine then_n (hK46 _ _ ?_)
        clear hK46
        refine cond_not l114_49 (by rw [decide_eq_false_iff_not]; rw [hy47] at htop; cases htop; simp) ?_
        refine wp_skip ?_
        refine then_n (hK45 _ _ ?_)
        clear hK45
        refine wp_seq_k (fun K51 hK51 => ?_)
        refine region_in ?_
        refine W_v rfl rfl (V_asg rfl rfl) ?_
        refine W_end ?_
        refine gen_Q (fun A52 hA52 => ?_)
        have hsz52 := szq hA52
        have hdf52 : A52.defers = [] := by rw [hA52]; simp only [df_put]; exact hdf49
        have l0_52 := lookE hA52 0 (es rfl l0_49)
        have l7_52 := lookE hA52 7 (es rfl l7_49)
        have l11_52 := lookE hA52 11 (es rfl l11_49)
        have l13_52 := lookE hA52 13 (es rfl l13_49)
        have l19_52 := lookE hA52 19 (et rfl)
        clear hA52 hsz49 hdf49 l0_49 l7_49 l11_49 l13_49 l114_49
        refine then_n (hK51 _ _ ?_)
        clear hK51
        refine wp_seq_k (fun K53 hK53 => ?_)
        refine wp_seq_k (fun K54 hK54 => ?_)
        refine region_in ?_
        refine W_v rfl rfl (V_asg rfl rfl) ?_
        refine W_end ?_
        refine gen_Q (fun A55 hA55 => ?_)
        have hsz55 := szq hA55
        have hdf55 : A55.defers = [] := by rw [hA55]; simp only [df_put]; exact hdf52
        have l0_55 := lookE hA55 0 (es rfl l0_52)
        have l7_55 := lookE hA55 7 (es rfl l7_52)
        have l11_55 := lookE hA55 11 (es rfl l11_52)
        have l13_55 := lookE hA55 13 (es rfl l13_52)
        have l19_55 := lookE hA55 19 (es rfl l19_52)
        have l20_55 := lookE hA55 20 (et rfl)
        clear hA55 hsz52 hdf52 l0_52 l7_52 l11_52 l13_52 l19_52
        refine then_n (hK54 _ _ ?_)
        clear hK54
        refine wp_block ?_
        -- loop 16
        refine loopX (fun mz A' w' => SzN A' 164 ∧ A'.defers = [] ∧ (∃ (k : Nat), (mz = (ppT l lo).length - k) ∧ (k ≤ (ppT l lo).length) ∧ (EV A' (.tmp 20) = .int .i64 (k : Int)) ∧ (EV A' (.tmp 19) = .int .i64 ((grK l lo hi k : Nat) : Int)) ∧ (EV A' (.tmp 0) = EV A55 (.tmp 0)) ∧ (EV A' (.tmp 7) = EV A55 (.tmp 7)) ∧ (EV A' (.tmp 11) = EV A55 (.tmp 11)) ∧ (EV A' (.tmp 13) = EV A55 (.tmp 13)) ∧ (St w NoX [io .i64 v_37 (ppT l hi), io .i64 v_34 (ppT l lo), bx g18 42 #[.int .i64 ((mxT l).1), .int .i64 ((mxT l).2)]] w'))) ((ppT l lo).length - 0) ⟨hsz55, hdf55, 0, rfl, (by omega), ((l20_55).trans (by first | rfl | (simp; done) | (congr 1; omega))), ((l19_55).trans ((by rw [gr_0]; rfl))), rfl, rfl, rfl, rfl, (by subst hc_37 hc_34 hc19; exact hS50)⟩ ?_
        clear hS50 hc_37 hc_34 hc19
        rintro n56 A56 w56 ⟨hsz56, hdf56, k, hm56, hk, l20_56, l19_56, u0_56, u7_56, u11_56, u13_56, hS56⟩
        have l0_56 := u0_56.trans l0_55
        have l7_56 := u7_56.trans l7_55
        have l11_56 := u11_56.trans l11_55
        have l13_56 := u13_56.trans l13_55
        obtain ⟨c_56, c_56b, c19_56, hc_56, hc_56b, hc19_56, hS56⟩ := gen3 hS56
        refine wp_seq_k (fun K57 hK57 => ?_)
        refine wp_seq_k (fun K58 hK58 => ?_)
        refine region_in ?_
        refine W_v rfl rfl (V_mov rfl l20_56) ?_
        refine W_v rfl rfl (V_mov rfl (es rfl l11_56)) ?_
        refine W_v rfl rfl (V_lenS rfl (et rfl) (ow_at (hS56.chq 1 rfl hc_56b)) Try.underlying23) ?_
        refine W_v rfl rfl (V_lss rfl (e2 rfl (et rfl)) (et rfl)) ?_
        refine W_end ?_
        refine gen_Q (fun A59 hA59 => ?_)
        have hsz59 := szq hA59
        have hdf59 : A59.defers = [] := by rw [hA59]; simp only [df_put]; exact hdf56
        have l0_59 := lookE hA59 0 (e3 rfl (es rfl l0_56))
        have l7_59 := lookE hA59 7 (e3 rfl (es rfl l7_56))
        have l11_59 := lookE hA59 11 (e3 rfl (es rfl l11_56))
        have l13_59 := lookE hA59 13 (e3 rfl (es rfl l13_56))
        have l19_59 := lookE hA59 19 (e3 rfl (es rfl l19_56))
        have l20_59 := lookE hA59 20 (e3 rfl (es rfl l20_56))
        have l118_59 := lookE hA59 118 (et rfl)
        clear hA59 hsz56 hdf56 l20_56 l19_56 l0_56 l7_56 l11_56 l13_56
        refine then_n (hK58 _ _ ?_)
        clear hK58
        refine cond_dec l118_59 (fun c60 => ?_) (fun c60 => ?_)
        · skip
          refine wp_skip ?_
          refine then_n (hK57 _ _ ?_)
          clear hK57
          refine wp_seq_k (fun K61 hK61 => ?_)
          refine wp_block ?_
          refine wp_seq_k (fun K62 hK62 => ?_)
          refine region_monoS 15 15 [] (by kernel_rfl) (by kernel_rfl) ?_
          refine D_v rfl rfl (V_mov rfl l19_59) rfl rfl ?_
          refine D_v rfl rfl (V_mov rfl (es rfl l13_59)) rfl rfl ?_
          refine D_v rfl rfl (V_lenS rfl (et rfl) (ow_at (hS56.chq 0 rfl hc_56)) Try.underlying23) rfl rfl ?_
          refine D_v rfl rfl (V_lss rfl (e2 rfl (et rfl)) (et rfl)) rfl rfl ?_
          refine D_split rfl rfl (V_mov rfl (et rfl)) rfl rfl (fun c63 => ?_) (fun c63 => ?_)
          · skip
            refine D_v rfl (wanted_t rfl rfl (et rfl) (ez rfl)) (V_mov rfl (e4 rfl (es rfl l11_59))) rfl rfl ?_
            refine D_v rfl (wanted_t rfl rfl (es rfl (et rfl)) (ez rfl)) (V_mov rfl (e5 rfl (es rfl l20_59))) rfl rfl ?_
            have k64 : k < (ppT l lo).length := by first | omega | (simp only [List.length_cons, List.length_nil]; omega) | (simp only [List.length_set]; omega) | decide
            obtain ⟨y64, hy64⟩ := get_some (xs := (ppT l lo)) (k := k) k64
            have hgs64 := gr_T hck hlh hy64
            obtain ⟨B64, O64, C64, hv64⟩ := (SlN.blk (ow_at (hS56.chq 1 rfl hc_56b)) (by first | omega | (simp only [List.length_cons, List.length_nil]; omega) | (simp only [List.length_set]; omega) | decide))
            refine D_v rfl (wanted_t rfl rfl (e2 rfl (et rfl)) (ez rfl)) (V_ixS (off := O64 + k) 1 (k) rfl (es rfl (et rfl)) (et rfl) hv64 (by omega) k64 Try.underlying23 (by kernel_rfl) (congrArg _ (Nat.mul_one _))) rfl rfl ?_
            refine D_r rfl (wanted_t rfl rfl (e3 rfl (et rfl)) (ez rfl)) (by kernel_rfl) (fun sx hx hF => (VR_ldC rfl (et rfl) ((ow_at ((hS56.grow hx).chq 1 rfl hc_56b)).cell hv64 (map_get hy64)) Try.underlying3 rfl)) rfl rfl ?_
            refine D_v rfl (wanted_t rfl rfl (e4 rfl (et rfl)) (ez rfl)) (V_mov rfl (e8 rfl (es rfl l13_59))) rfl rfl ?_
            refine D_v rfl (wanted_t rfl rfl (e5 rfl (et rfl)) (ez rfl)) (V_mov rfl (e9 rfl (es rfl l19_59))) rfl rfl ?_
            have k65 : (grK l lo hi k) < (ppT l hi).length := by first | omega | (simp only [List.length_cons, List.length_nil]; omega) | (simp only [List.length_set]; omega) | decide
            obtain ⟨y65, hy65⟩ := get_some (xs := (ppT l hi)) (k := (grK l lo hi k)) k65
            obtain ⟨B65, O65, C65, hv65⟩ := (SlN.blk (ow_at (hS56.chq 0 rfl hc_56)) (by first | omega | (simp only [List.length_cons, List.length_nil]; omega) | (simp only [List.length_set]; omega) | decide))
            refine D_v rfl (wanted_t rfl rfl (e6 rfl (et rfl)) (ez rfl)) (V_ixS (off := O65 + (grK l lo hi k)) 1 ((grK l lo hi k)) rfl (es rfl (et rfl)) (et rfl) hv65 (by omega) k65 Try.underlying23 (by kernel_rfl) (congrArg _ (Nat.mul_one _))) rfl rfl ?_
            refine D_r rfl (wanted_t rfl rfl (e7 rfl (et rfl)) (ez rfl)) (by kernel_rfl) (fun sx hx hF => (VR_ldC rfl (et rfl) ((ow_at ((hS56.grow hx).chq 0 rfl hc_56)).cell hv65 (map_get hy65)) Try.underlying3 rfl)) rfl rfl ?_
            refine D_v rfl (wanted_t rfl rfl (e8 rfl (et rfl)) (ez rfl)) (V_eql rfl (e4 rfl (et rfl)) (et rfl)) rfl rfl ?_
            refine D_v rfl rfl (V_pickT rfl (e9 rfl (et rfl)) (et rfl)) rfl rfl ?_
            refine ZS_none hS56 (Nat.le_refl _) (Nat.le_refl _) (fun s66 hJ66 hL66 hF66 => ?_)
            have hS66 := hJ66.st; clear hF66 hJ66 hL66
            generalize s66.1 = w66 at *
            replace hS66 : St w NoX [c_56, c_56b, c19_56] w66 := hS66
            refine gen_Q (fun A67 hA67 => ?_)
            have hsz67 := szq hA67
            have hdf67 : A67.defers = [] := by rw [hA67]; simp only [df_put]; exact hdf59
            have l0_67 := lookE hA67 0 (e14 rfl (es rfl l0_59))
            have l7_67 := lookE hA67 7 (e14 rfl (es rfl l7_59))
            have l11_67 := lookE hA67 11 (e14 rfl (es rfl l11_59))
            have l13_67 := lookE hA67 13 (e14 rfl (es rfl l13_59))
            have l19_67 := lookE hA67 19 (e14 rfl (es rfl l19_59))
            have l20_67 := lookE hA67 20 (e14 rfl (es rfl l20_59))
            have l126_67 := lookE hA67 126 (e9 rfl (et rfl))
            have l127_67 := lookE hA67 127 (e8 rfl (et rfl))
            have l128_67 := lookE hA67 128 (e7 rfl (et rfl))
            have l129_67 := lookE hA67 129 (e6 rfl (et rfl))
            have l130_67 := lookE hA67 130 (e5 rfl (et rfl))
            have l131_67 := lookE hA67 131 (e4 rfl (et rfl))
            have l132_67 := lookE hA67 132 (e3 rfl (et rfl))
            have l133_67 := lookE hA67 133 (e2 rfl (et rfl))
            have l134_67 := lookE hA67 134 (es rfl (et rfl))
            have l135_67 := lookE hA67 135 (et rfl)
            clear hA67 hsz59 hdf59 l0_59 l7_59 l11_59 l13_59 l19_59 l20_59 l118_59
            refine then_n (hK62 _ _ ?_)
            clear hK62
            refine cond_dec l135_67 (fun c68 => ?_) (fun c68 => ?_)
            · skip
              refine region_in ?_
              refine W_v rfl rfl (V_mov rfl l19_67) ?_
              refine W_v rfl rfl (V_add rfl (et rfl) rfl (by omega) (by omega)) ?_
              refine W_v rfl rfl (V_asg rfl (et rfl)) ?_
              refine W_end ?_
              refine gen_Q (fun A69 hA69 => ?_)
              have hsz69 := szq hA69
              have hdf69 : A69.defers = [] := by rw [hA69]; simp only [df_put]; exact hdf67
              have l0_69 := lookE hA69 0 (e2 rfl (es rfl l0_67))
              have l7_69 := lookE hA69 7 (e2 rfl (es rfl l7_67))
              have l11_69 := lookE hA69 11 (e2 rfl (es rfl l11_67))
              have l13_69 := lookE hA69 13 (e2 rfl (es rfl l13_67))
              have l19_69 := lookE hA69 19 (et rfl)
              have l20_69 := lookE hA69 20 (e2 rfl (es rfl l20_67))
              have l126_69 := lookE hA69 126 (e2 rfl (es rfl l126_67))
              have l127_69 := lookE hA69 127 (e2 rfl (es rfl l127_67))
              have l128_69 := lookE hA69 128 (e2 rfl (es rfl l128_67))
              have l129_69 := lookE hA69 129 (e2 rfl (es rfl l129_67))
              have l130_69 := lookE hA69 130 (e2 rfl (es rfl l130_67))
              have l131_69 := lookE hA69 131 (e2 rfl (es rfl l131_67))
              have l132_69 := lookE hA69 132 (e2 rfl (es rfl l132_67))
              have l133_69 := lookE hA69 133 (e2 rfl (es rfl l133_67))
              have l134_69 := lookE hA69 134 (e2 rfl (es rfl l134_67))
              clear hA69 hsz67 hdf67 l0_67 l7_67 l11_67 l13_67 l19_67 l20_67 l126_67 l127_67 l128_67 l129_67 l130_67 l131_67 l132_67 l133_67 l134_67 l135_67
              refine inb_n ?_
              refine then_n (hK61 _ _ ?_)
              clear hK61
              refine region_in ?_
              refine W_v rfl rfl (V_mov rfl l20_69) ?_
              refine W_v rfl rfl (V_add rfl (et rfl) rfl (by omega) (by omega)) ?_
              refine W_v rfl rfl (V_asg rfl (et rfl)) ?_
              refine W_end ?_
              refine gen_Q (fun A70 hA70 => ?_)
              have hsz70 := szq hA70
              have hdf70 : A70.defers = [] := by rw [hA70]; simp only [df_put]; exact hdf69
              have l0_70 := lookE hA70 0 (e2 rfl (es rfl l0_69))
              have l7_70 := lookE hA70 7 (e2 rfl (es rfl l7_69))
              have l11_70 := lookE hA70 11 (e2 rfl (es rfl l11_69))
              have l13_70 := lookE hA70 13 (e2 rfl (es rfl l13_69))
              have l19_70 := lookE hA70 19 (e2 rfl (es rfl l19_69))
              have l20_70 := lookE hA70 20 (et rfl)
              have l126_70 := lookE hA70 126 (e2 rfl (es rfl l126_69))
              have l127_70 := lookE hA70 127 (e2 rfl (es rfl l127_69))
              have l128_70 := lookE hA70 128 (e2 rfl (es rfl l128_69))
              have l129_70 := lookE hA70 129 (e2 rfl (es rfl l129_69))
              have l130_70 := lookE hA70 130 (e2 rfl (es rfl l130_69))
              have l131_70 := lookE hA70 131 (e2 rfl (es rfl l131_69))
              have l132_70 := lookE hA70 132 (e2 rfl (es rfl l132_69))
              have l133_70 := lookE hA70 133 (e2 rfl (es rfl l133_69))
              have l134_70 := lookE hA70 134 (e2 rfl (es rfl l134_69))
              clear hA70 hsz69 hdf69 l0_69 l7_69 l11_69 l13_69 l19_69 l20_69 l126_69 l127_69 l128_69 l129_69 l130_69 l131_69 l132_69 l133_69 l134_69
              refine then_n ⟨(ppT l lo).length - (k + 1), by simp only [hm56]; omega, hsz70, hdf70, (k + 1), rfl, (by omega), ((l20_70).trans (by first | rfl | (simp; done) | (congr 1; omega))), ((l19_70).trans ((congrArg (Value.int .i64) (by have h := (gr_TT hgs64 hy65 (by omega)); omega)))), ((l0_70).trans l0_55.symm), ((l7_70).trans l7_55.symm), ((l11_70).trans l11_55.symm), ((l13_70).trans l13_55.symm), (by subst hc_56 hc_56b hc19_56; exact hS66)⟩
            · skip
              refine wp_skip ?_
              refine inb_n ?_
              refine then_n (hK61 _ _ ?_)
              clear hK61
              refine region_in ?_
              refine W_v rfl rfl (V_mov rfl l20_67) ?_
              refine W_v rfl rfl (V_add rfl (et rfl) rfl (by omega) (by omega)) ?_
              refine W_v rfl rfl (V_asg rfl (et rfl)) ?_
              refine W_end ?_
              refine gen_Q (fun A71 hA71 => ?_)
              have hsz71 := szq hA71
              have hdf71 : A71.defers = [] := by rw [hA71]; simp only [df_put]; exact hdf67
              have l0_71 := lookE hA71 0 (e2 rfl (es rfl l0_67))
              have l7_71 := lookE hA71 7 (e2 rfl (es rfl l7_67))
              have l11_71 := lookE hA71 11 (e2 rfl (es rfl l11_67))
              have l13_71 := lookE hA71 13 (e2 rfl (es rfl l13_67))
              have l19_71 := lookE hA71 19 (e2 rfl (es rfl l19_67))
              have l20_71 := lookE hA71 20 (et rfl)
              have l126_71 := lookE hA71 126 (e2 rfl (es rfl l126_67))
              have l127_71 := lookE hA71 127 (e2 rfl (es rfl l127_67))
              have l128_71 := lookE hA71 128 (e2 rfl (es rfl l128_67))
              have l129_71 := lookE hA71 129 (e2 rfl (es rfl l129_67))
              have l130_71 := lookE hA71 130 (e2 rfl (es rfl l130_67))
              have l131_71 := lookE hA71 131 (e2 rfl (es rfl l131_67))
              have l132_71 := lookE hA71 132 (e2 rfl (es rfl l132_67))
              have l133_71 := lookE hA71 133 (e2 rfl (es rfl l133_67))
              have l134_71 := lookE hA71 134 (e2 rfl (es rfl l134_67))
              clear hA71 hsz67 hdf67 l0_67 l7_67 l11_67 l13_67 l19_67 l20_67 l126_67 l127_67 l128_67 l129_67 l130_67 l131_67 l132_67 l133_67 l134_67 l135_67
              refine then_n ⟨(ppT l lo).length - (k + 1), by simp only [hm56]; omega, hsz71, hdf71, (k + 1), rfl, (by omega), ((l20_71).trans (by first | rfl | (simp; done) | (congr 1; omega))), ((l19_71).trans ((congrArg (Value.int .i64) (by have h := (gr_TF hgs64 hy65 (by omega)); omega)))), ((l0_71).trans l0_55.symm), ((l7_71).trans l7_55.symm), ((l11_71).trans l11_55.symm), ((l13_71).trans l13_55.symm), (by subst hc_56 hc_56b hc19_56; exact hS66)⟩
          · skip
            refine D_off rfl (wanted_f rfl rfl (et rfl) (ez rfl) rfl) rfl ?_
            refine D_off rfl (wanted_f rfl rfl (es rfl (et rfl)) (ez rfl) rfl) rfl ?_
            refine D_off rfl (wanted_f rfl rfl (e2 rfl (et rfl)) (ez rfl) rfl) rfl ?_
            refine D_off rfl (wanted_f rfl rfl (e3 rfl (et rfl)) (ez rfl) rfl) rfl ?_
            refine D_off rfl (wanted_f rfl rfl (e4 rfl (et rfl)) (ez rfl) rfl) rfl ?_
            refine D_off rfl (wanted_f rfl rfl (e5 rfl (et rfl)) (ez rfl) rfl) rfl ?_
            refine D_off rfl (wanted_f rfl rfl (e6 rfl (et rfl)) (ez rfl) rfl) rfl ?_
            refine D_off rfl (wanted_f rfl rfl (e7 rfl (et rfl)) (ez rfl) rfl) rfl ?_
            refine D_off rfl (wanted_f rfl rfl (e8 rfl (et rfl)) (ez rfl) rfl) rfl ?_
            refine D_v rfl rfl (V_pickF rfl (e9 rfl (et rfl)) rfl) rfl rfl ?_
            refine ZS_none hS56 (Nat.le_refl _) (Nat.le_refl _) (fun s72 hJ72 hL72 hF72 => ?_)
            have hS72 := hJ72.st; clear hF72 hJ72 hL72
            generalize s72.1 = w72 at *
            replace hS72 : St w NoX [c_56, c_56b, c19_56] w72 := hS72
            refine gen_Q (fun A73 hA73 => ?_)
            have hsz73 := szq hA73
            have hdf73 : A73.defers = [] := by rw [hA73]; simp only [df_put]; exact hdf59
            have l0_73 := lookE hA73 0 (e14 rfl (es rfl l0_59))
            have l7_73 := lookE hA73 7 (e14 rfl (es rfl l7_59))
            have l11_73 := lookE hA73 11 (e14 rfl (es rfl l11_59))
            have l13_73 := lookE hA73 13 (e14 rfl (es rfl l13_59))
            have l19_73 := lookE hA73 19 (e14 rfl (es rfl l19_59))
            have l20_73 := lookE hA73 20 (e14 rfl (es rfl l20_59))
            have l126_73 := lookE hA73 126 (e9 rfl (et rfl))
            have l127_73 := lookE hA73 127 (e8 rfl (et rfl))
            have l128_73 := lookE hA73 128 (e7 rfl (et rfl))
            have l129_73 := lookE hA73 129 (e6 rfl (et rfl))
            have l130_73 := lookE hA73 130 (e5 rfl (et rfl))
            have l131_73 := lookE hA73 131 (e4 rfl (et rfl))
            have l132_73 := lookE hA73 132 (e3 rfl (et rfl))
            have l133_73 := lookE hA73 133 (e2 rfl (et rfl))
            have l134_73 := lookE hA73 134 (es rfl (et rfl))
            have l135_73 := lookE hA73 135 (et rfl)
            clear hA73 hsz59 hdf59 l0_59 l7_59 l11_59 l13_59 l19_59 l20_59 l118_59
            refine then_n (hK62 _ _ ?_)
            clear hK62
            refine cond_f l135_73 ?_
            refine wp_skip ?_
            refine inb_n ?_
            refine then_n (hK61 _ _ ?_)
            clear hK61
            refine region_in ?_
            refine W_v rfl rfl (V_mov rfl l20_73) ?_
            refine W_v rfl rfl (V_add rfl (et rfl) rfl (by omega) (by omega)) ?_
            refine W_v rfl rfl (V_asg rfl (et rfl)) ?_
            refine W_end ?_
            refine gen_Q (fun A74 hA74 => ?_)
            have hsz74 := szq hA74
            have hdf74 : A74.defers = [] := by rw [hA74]; simp only [df_put]; exact hdf73
            have l0_74 := lookE hA74 0 (e2 rfl (es rfl l0_73))
            have l7_74 := lookE hA74 7 (e2 rfl (es rfl l7_73))
            have l11_74 := lookE hA74 11 (e2 rfl (es rfl l11_73))
            have l13_74 := lookE hA74 13 (e2 rfl (es rfl l13_73))
            have l19_74 := lookE hA74 19 (e2 rfl (es rfl l19_73))
            have l20_74 := lookE hA74 20 (et rfl)
            have l126_74 := lookE hA74 126 (e2 rfl (es rfl l126_73))
            have l127_74 := lookE hA74 127 (e2 rfl (es rfl l127_73))
            have l128_74 := lookE hA74 128 (e2 rfl (es rfl l128_73))
            have l129_74 := lookE hA74 129 (e2 rfl (es rfl l129_73))
            have l130_74 := lookE hA74 130 (e2 rfl (es rfl l130_73))
            have l131_74 := lookE hA74 131 (e2 rfl (es rfl l131_73))
            have l132_74 := lookE hA74 132 (e2 rfl (es rfl l132_73))
            have l133_74 := lookE hA74 133 (e2 rfl (es rfl l133_73))
            have l134_74 := lookE hA74 134 (e2 rfl (es rfl l134_73))
            clear hA74 hsz73 hdf73 l0_73 l7_73 l11_73 l13_73 l19_73 l20_73 l126_73 l127_73 l128_73 l129_73 l130_73 l131_73 l132_73 l133_73 l134_73 l135_73
            refine then_n ⟨(ppT l lo).length - (k + 1), by simp only [hm56]; omega, hsz74, hdf74, (k + 1), rfl, (by omega), ((l20_74).trans (by first | rfl | (simp; done) | (congr 1; omega))), ((l19_74).trans ((congrArg (Value.int .i64) (by have h := (gr_F (n := k) hck hlh (by omega) (by omega)); omega)))), ((l0_74).trans l0_55.symm), ((l7_74).trans l7_55.symm), ((l11_74).trans l11_55.symm), ((l13_74).trans l13_55.symm), (by subst hc_56 hc_56b hc19_56; exact hS72)⟩
        · skip
          refine wp_exit ?_
          refine then_exit ?_
          refine then_exit ?_
          refine inb_hit ?_
          refine then_n (hK53 _ _ ?_)
          clear hK53
          refine wp_seq_k (fun K75 hK75 => ?_)
          refine wp_seq_k (fun K76 hK76 => ?_)
          refine region_in ?_
          refine W_v rfl rfl (V_mov rfl l19_59) ?_
          refine W_v rfl rfl (V_mov rfl (es rfl l13_59)) ?_
          refine W_v rfl rfl (V_lenS rfl (et rfl) (ow_at (hS56.chq 0 rfl hc_56)) Try.underlying23) ?_
          refine W_v rfl rfl (V_neq rfl (e2 rfl (et rfl)) (et rfl)) ?_
          refine W_end ?_
          refine gen_Q (fun A77 hA77 => ?_)
          have hsz77 := szq hA77
          have hdf77 : A77.defers = [] := by rw [hA77]; simp only [df_put]; exact hdf59
          have l0_77 := lookE hA77 0 (e3 rfl (es rfl l0_59))
          have l7_77 := lookE hA77 7 (e3 rfl (es rfl l7_59))
          have l141_77 := lookE hA77 141 (et rfl)
          clear hA77 hsz59 hdf59 l0_59 l7_59 l11_59 l13_59 l19_59 l20_59 l118_59
          have hS78 : St w NoX [c19_56] w56 := hS56.sel [2] (by decide) rfl
          refine then_n (hK76 _ _ ?_)
          clear hK76
          refine cond_not l141_77 (by rw [decide_eq_false_iff_not]; have q := gr_endT hck hlh (n := k) (by omega); omega) ?_
          refine wp_skip ?_
          refine then_n (hK75 _ _ ?_)
          clear hK75
          refine wp_seq_k (fun K79 hK79 => ?_)
          refine wp_seq_k (fun K80 hK80 => ?_)
          refine region_in ?_
          refine W_v rfl rfl (V_fa (off' := 1) rfl l7_77 Try.underlying42 rfl (by decide +kernel) rfl) ?_
          refine W_r rfl rfl (VR_ldC rfl (et rfl) (cell_box (v := .int .i64 ((mxT l).2)) (hS78.obj 0 rfl hc19_56) rfl) Try.underlying3 rfl) ?_
          refine W_v rfl rfl (V_lss rfl (et rfl) rfl) ?_
          refine W_end ?_
          refine gen_Q (fun A81 hA81 => ?_)
          have hsz81 := szq hA81
          have hdf81 : A81.defers = [] := by rw [hA81]; simp only [df_put]; exact hdf77
          have l0_81 := lookE hA81 0 (e2 rfl (es rfl l0_77))
          have l7_81 := lookE hA81 7 (e2 rfl (es rfl l7_77))
          have l144_81 := lookE hA81 144 (et rfl)
          clear hA81 hsz77 hdf77 l0_77 l7_77 l141_77
          refine then_n (hK80 _ _ ?_)
          clear hK80
          refine cond_dec l144_81 (fun c82 => ?_) (fun c82 => ?_)
          · skip
            refine wp_seq_k (fun K83 hK83 => ?_)
            refine region_in ?_
            refine W_v rfl rfl (V_mov rfl l0_81) ?_
            refine W_v rfl rfl (V_fa (off' := 1) rfl (es rfl l7_81) Try.underlying42 rfl (by decide +kernel) rfl) ?_
            refine W_r rfl rfl (VR_ldC rfl (et rfl) (cell_box (v := .int .i64 ((mxT l).2)) (hS78.obj 0 rfl hc19_56) rfl) Try.underlying3 rfl) ?_
            refine W_v rfl rfl (V_add rfl (et rfl) rfl (by omega) (by omega)) ?_
            refine W_call rfl rfl rfl Try.func26 (by kernel_rfl) rfl (args2 (e3 rfl (et rfl)) (et rfl)) (kpp_c (q := ((mxT l).2 + 1)) (hS78.roC h_cv) ) ?_
            rintro _ w84 ⟨v_84, rfl, hP84⟩
            refine ⟨_, rfl, ?_⟩
            obtain ⟨c_84, hc_84, hP84⟩ := gen1 hP84
            have hS84 := hS78.join hP84
            replace hS84 : St w NoX [c_84, c19_56] w84 := hS84
            refine W_v rfl rfl (V_mov rfl (et rfl)) ?_
            refine W_v rfl rfl (V_ext (v := v_84) rfl (et rfl) rfl) ?_
            refine W_v rfl rfl (V_ext (v := .int .i64 ((ppE l ((mxT l).2 + 1)))) rfl (es rfl (et rfl)) rfl) ?_
            refine W_v rfl rfl (V_asg rfl (es rfl (et rfl))) ?_
            refine W_v rfl rfl (V_asg rfl (es rfl (et rfl))) ?_
            refine W_end ?_
            refine gen_Q (fun A85 hA85 => ?_)
            have hsz85 := szq hA85
            have hdf85 : A85.defers = [] := by rw [hA85]; simp only [df_put]; exact hdf81
            have l21_85 := lookE hA85 21 (es rfl (et rfl))
            have l22_85 := lookE hA85 22 (et rfl)
            clear hA85 hsz81 hdf81 l0_81 l7_81 l144_81
            have hS86 : St w NoX [c_84] w84 := hS84.sel [0] (by decide) rfl
            refine then_n (hK83 _ _ ?_)
            clear hK83
            refine wp_seq_k (fun K87 hK87 => ?_)
            refine region_in ?_
            refine W_v rfl rfl (V_mov rfl l21_85) ?_
            refine W_v rfl rfl (V_lenS rfl (et rfl) (ow_at (hS86.chq 0 rfl hc_84)) Try.underlying23) ?_
            refine W_v rfl rfl (V_eql rfl (et rfl) rfl) ?_
            refine W_sure (c' := true) rfl rfl (V_mov rfl (et rfl)) (by rw [decide_eq_true_eq]; rw [(hnone (by omega)).2]; rfl) ?_
            refine W_v rfl (wanted_t rfl rfl (et rfl) (ez rfl)) (V_mov rfl (e3 rfl (es rfl l22_85))) ?_
            refine W_v rfl (wanted_t rfl rfl (es rfl (et rfl)) (ez rfl)) (V_eql rfl (et rfl) rfl) ?_
            refine W_v rfl rfl (V_pickT rfl (e2 rfl (et rfl)) (et rfl)) ?_
            refine W_sure (c' := true) rfl rfl (V_mov rfl (et rfl)) (by rw [decide_eq_true_eq]; exact (hnone (by omega)).1) ?_
            refine W_call rfl (wanted_t rfl rfl (et rfl) (ez rfl)) rfl Try.func12 (by kernel_rfl) rfl (args0) (awk_c  ) ?_
            rintro _ w88 ⟨rfl, hP88⟩
            refine ⟨_, rfl, ?_⟩
            have hS88 := hS86.join hP88
            replace hS88 : St w NoX [c_84] w88 := hS88
            refine W_v rfl rfl (V_pickT rfl (es rfl (et rfl)) (et rfl)) ?_
            refine W_v rfl rfl (V_asg rfl (et rfl)) ?_
            refine W_end ?_
            refine gen_Q (fun A89 hA89 => ?_)
            have hsz89 := szq hA89
            have hdf89 : A89.defers = [] := by rw [hA89]; simp only [df_put]; exact hdf85
            have l6_89 := lookE hA89 6 (et rfl)
            clear hA89 hsz85 hdf85 l21_85 l22_85
            have hS90 : St w NoX [] w88 := hS88.sel [] (by decide) rfl
            refine then_n (hK87 _ _ ?_)
            clear hK87
            refine wp_ret ?_
            refine then_ret ?_
            refine ret_in (results_1 Try.results6 (rv_tmp l6_89)) hdf89 ?_
            -- leaf FFFFT
            exact ⟨rfl, hS90.fin0⟩
          · skip
            refine wp_skip ?_
            refine then_n (hK79 _ _ ?_)
            clear hK79
            refine wp_seq_k (fun K91 hK91 => ?_)
            refine region_in ?_
            refine W_call rfl rfl rfl Try.func12 (by kernel_rfl) rfl (args0) (awk_c  ) ?_
            rintro _ w92 ⟨rfl, hP92⟩
            refine ⟨_, rfl, ?_⟩
            have hS92 := hS78.join hP92
            replace hS92 : St w NoX [c19_56] w92 := hS92
            refine W_v rfl rfl (V_asg rfl (et rfl)) ?_
            refine W_end ?_
            refine gen_Q (fun A93 hA93 => ?_)
            have hsz93 := szq hA93
            have hdf93 : A93.defers = [] := by rw [hA93]; simp only [df_put]; exact hdf81
            have l6_93 := lookE hA93 6 (et rfl)
            clear hA93 hsz81 hdf81 l0_81 l7_81 l144_81
            have hS94 : St w NoX [] w92 := hS92.sel [] (by decide) rfl
            refine then_n (hK91 _ _ ?_)
            clear hK91
            refine wp_ret ?_
            refine ret_in (results_1 Try.results6 (rv_tmp l6_93)) hdf93 ?_
            -- leaf FFFFF
            exact ⟨rfl, hS94.fin0⟩

end Go.Proofs.Ytnfgeekaeegolaa