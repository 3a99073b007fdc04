import Derived.Test.YtdilbnmaihmgnaaProg
import Derived.Test.YtdilbnmaihmgnaaGh3
import Derived.Test.YtdilbnmaihmgnaaPl15e
import Derived.Test.YtdilbnmaihmgnaaSepZ
namespace Go.Proofs.Ytdilbnmaihmgnaa
open Go.RowKit Go.Own Go.Own.R Go.Own.G Go.Own.Gr


set_option maxHeartbeats 4000000 in
theorem kcl_c {cv : Value} {c : List Int} {w : World} (h_cv : Ro w NoX (il .i64 cv c)) (hl : c.length ≤ 1048576) :
    Calls Try.prog 67 #[cv] w fun e w' => ∃ v, e = .returned (v) ∧ St w NoX [io .i64 (v) c] w' := by
  refine calls_in 8 Try.func67 rfl rfl (by simp) (fun A0 hsz0 hdf0 hargs => ?_)
  have l0_0 := hargs 0 (cv) rfl
  clear hargs; replace hsz0 : SzN A0 8 := ⟨hsz0⟩
  have hS := St.nil w
  have bh_cv := SlN.le (sl_SlN h_cv.at)
  refine wp_seq_k (fun K1 hK1 => ?_)
  refine region_in ?_
  refine W_v rfl rfl (V_asg rfl rfl) ?_
  refine W_end ?_
  refine gen_Q (fun A2 hA2 => ?_)
  have hsz2 := szq hA2
  have hdf2 : A2.defers = [] := by rw [hA2]; simp only [df_put]; exact hdf0
  have l0_2 := lookE hA2 0 (es rfl l0_0)
  clear hA2 hsz0 hdf0 l0_0
  refine then_n (hK1 _ _ ?_)
  clear hK1
  refine wp_seq_k (fun K3 hK3 => ?_)
  refine wp_seq_k (fun K4 hK4 => ?_)
  refine region_in ?_
  refine W_v rfl rfl (V_mov rfl l0_2) ?_
  refine W_v rfl rfl (V_eqNilB rfl (et rfl) rfl (sl_SlN h_cv.at) Try.underlying23) ?_
  refine W_end ?_
  refine gen_Q (fun A5 hA5 => ?_)
  have hsz5 := szq hA5
  have hdf5 : A5.defers = [] := by rw [hA5]; simp only [df_put]; exact hdf2
  have l0_5 := lookE hA5 0 (es rfl (es rfl l0_2))
  have l4_5 := lookE hA5 4 (et rfl)
  clear hA5 hsz2 hdf2 l0_2
  refine then_n (hK4 _ _ ?_)
  clear hK4
  refine cond_b l4_5 (fun c6 => ?_) (fun c6 => ?_)
  · skip
    refine wp_seq_k (fun K7 hK7 => ?_)
    refine region_in ?_
    refine W_v rfl rfl (V_asg rfl rfl) ?_
    refine W_end ?_
    refine gen_Q (fun A8 hA8 => ?_)
    have hsz8 := szq hA8
    have hdf8 : A8.defers = [] := by rw [hA8]; simp only [df_put]; exact hdf5
    have l2_8 := lookE hA8 2 (et rfl)
    clear hA8 hsz5 hdf5 l0_5 l4_5
    refine then_n (hK7 _ _ ?_)
    clear hK7
    refine wp_ret ?_
    refine then_ret ?_
    refine ret_in (results_1 Try.results67 (rv_tmp l2_8)) hdf8 ?_
    -- leaf T
    obtain ⟨c9, hc9, hS9⟩ := hS.pnil (s := 1)
    obtain rfl : c = [] := List.eq_nil_of_length_eq_zero (nilB_len (sl_SlN h_cv.at) c6)
    exact ⟨_, rfl, (hS9.fin1 0 rfl (hc9))⟩
  · skip
    refine wp_skip ?_
    refine then_n (hK3 _ _ ?_)
    clear hK3
    refine wp_seq_k (fun K10 hK10 => ?_)
    refine region_in ?_
    refine W_litS (vs := []) (xs := []) 1 hS rfl rfl rfl (parts0) rfl Try.underlying23 (by kernel_rfl) (by decide) (by intro v hv; cases hv) (by rfl) (fun g11 w11 c11 hc11 hS11 => ?_)
    replace hc11 : c11 = io .i64 (.slice (some ⟨g11, 0, none⟩) 0 0) [] := hc11
    replace hS11 : St w NoX [c11] w11 := hS11
    refine W_v rfl rfl (V_mov rfl (es rfl l0_5)) ?_
    refine W_appS 1 0 hS11 rfl hc11 rfl rfl rfl (es rfl (et rfl)) (et rfl) Try.underlying23 Try.underlying23 (z := .int .i64 0) (bytes := 8) (by kernel_rfl) rfl (by decide) (sl_SlN (hS11.ro h_cv)) ones_i (by first | omega | (simp; done) | (simp; omega)) (by first | omega | (simp; done) | (simp; omega)) (fun v12 w12 c12 hc12 hS12 => ?_)
    replace hc12 : c12 = io .i64 v12 c := hc12.trans (app_eq (by simp))
    replace hS12 : St w NoX [c12] w12 := hS12
    refine W_v rfl rfl (V_asg rfl (et rfl)) ?_
    refine W_end ?_
    refine gen_Q (fun A13 hA13 => ?_)
    have hsz13 := szq hA13
    have hdf13 : A13.defers = [] := by rw [hA13]; simp only [df_put]; exact hdf5
    have l2_13 := lookE hA13 2 (et rfl)
    clear hA13 hsz5 hdf5 l0_5 l4_5
    refine then_n (hK10 _ _ ?_)
    clear hK10
    refine wp_ret ?_
    refine ret_in (results_1 Try.results67 (rv_tmp l2_13)) hdf13 ?_
    -- leaf F
    exact ⟨_, rfl, (hS12.fin1 0 rfl (hc12))⟩

set_option maxHeartbeats 4000000 in
theorem kcu_c {cv : Value} {c : List Int} {w : World} (h_cv : Ro w NoX (il .u64 cv c)) (hl : c.length ≤ 1048576) :
    Calls Try.prog 68 #[cv] w fun e w' => ∃ v, e = .returned (v) ∧ St w NoX [io .u64 (v) c] w' := by
  refine calls_in 8 Try.func68 rfl rfl (by simp) (fun A0 hsz0 hdf0 hargs => ?_)
  have l0_0 := hargs 0 (cv) rfl
  clear hargs; replace hsz0 : SzN A0 8 := ⟨hsz0⟩
  have hS := St.nil w
  have bh_cv := SlN.le (sl_SlN h_cv.at)
  refine wp_seq_k (fun K1 hK1 => ?_)
  refine region_in ?_
  refine W_v rfl rfl (V_asg rfl rfl) ?_
  refine W_end ?_
  refine gen_Q (fun A2 hA2 => ?_)
  have hsz2 := szq hA2
  have hdf2 : A2.defers = [] := by rw [hA2]; simp only [df_put]; exact hdf0
  have l0_2 := lookE hA2 0 (es rfl l0_0)
  clear hA2 hsz0 hdf0 l0_0
  refine then_n (hK1 _ _ ?_)
  clear hK1
  refine wp_seq_k (fun K3 hK3 => ?_)
  refine wp_seq_k (fun K4 hK4 => ?_)
  refine region_in ?_
  refine W_v rfl rfl (V_mov rfl l0_2) ?_
  refine W_v rfl rfl (V_eqNilB rfl (et rfl) rfl (sl_SlN h_cv.at) Try.underlying38) ?_
  refine W_end ?_
  refine gen_Q (fun A5 hA5 => ?_)
  have hsz5 := szq hA5
  have hdf5 : A5.defers = [] := by rw [hA5]; simp only [df_put]; exact hdf2
  have l0_5 := lookE hA5 0 (es rfl (es rfl l0_2))
  have l4_5 := lookE hA5 4 (et rfl)
  clear hA5 hsz2 hdf2 l0_2
  refine then_n (hK4 _ _ ?_)
  clear hK4
  refine cond_b l4_5 (fun c6 => ?_) (fun c6 => ?_)
  · skip
    refine wp_seq_k (fun K7 hK7 => ?_)
    refine region_in ?_
    refine W_v rfl rfl (V_asg rfl rfl) ?_
    refine W_end ?_
    refine gen_Q (fun A8 hA8 => ?_)
    have hsz8 := szq hA8
    have hdf8 : A8.defers = [] := by rw [hA8]; simp only [df_put]; exact hdf5
    have l2_8 := lookE hA8 2 (et rfl)
    clear hA8 hsz5 hdf5 l0_5 l4_5
    refine then_n (hK7 _ _ ?_)
    clear hK7
    refine wp_ret ?_
    refine then_ret ?_
    refine ret_in (results_1 Try.results68 (rv_tmp l2_8)) hdf8 ?_
    -- leaf T
    obtain ⟨c9, hc9, hS9⟩ := hS.pnil (s := 1)
    obtain rfl : c = [] := List.eq_nil_of_length_eq_zero (nilB_len (sl_SlN h_cv.at) c6)
    exact ⟨_, rfl, (hS9.fin1 0 rfl (hc9))⟩
  · skip
    refine wp_skip ?_
    refine then_n (hK3 _ _ ?_)
    clear hK3
    refine wp_seq_k (fun K10 hK10 => ?_)
    refine region_in ?_
    refine W_litS (vs := []) (xs := []) 1 hS rfl rfl rfl (parts0) rfl Try.underlying38 (by kernel_rfl) (by decide) (by intro v hv; cases hv) (by rfl) (fun g11 w11 c11 hc11 hS11 => ?_)
    replace hc11 : c11 = io .u64 (.slice (some ⟨g11, 0, none⟩) 0 0) [] := hc11
    replace hS11 : St w NoX [c11] w11 := hS11
    refine W_v rfl rfl (V_mov rfl (es rfl l0_5)) ?_
    refine W_appS 1 0 hS11 rfl hc11 rfl rfl rfl (es rfl (et rfl)) (et rfl) Try.underlying38 Try.underlying38 (z := .int .u64 0) (bytes := 8) (by kernel_rfl) rfl (by decide) (sl_SlN (hS11.ro h_cv)) ones_i (by first | omega | (simp; done) | (simp; omega)) (by first | omega | (simp; done) | (simp; omega)) (fun v12 w12 c12 hc12 hS12 => ?_)
    replace hc12 : c12 = io .u64 v12 c := hc12.trans (app_eq (by simp))
    replace hS12 : St w NoX [c12] w12 := hS12
    refine W_v rfl rfl (V_asg rfl (et rfl)) ?_
    refine W_end ?_
    refine gen_Q (fun A13 hA13 => ?_)
    have hsz13 := szq hA13
    have hdf13 : A13.defers = [] := by rw [hA13]; simp only [df_put]; exact hdf5
    have l2_13 := lookE hA13 2 (et rfl)
    clear hA13 hsz5 hdf5 l0_5 l4_5
    refine then_n (hK10 _ _ ?_)
    clear hK10
    refine wp_ret ?_
    refine ret_in (results_1 Try.results68 (rv_tmp l2_13)) hdf13 ?_
    -- leaf F
    exact ⟨_, rfl, (hS12.fin1 0 rfl (hc12))⟩

set_option maxHeartbeats 4000000 in
theorem qsm_c {ov : Value} {O : List Ob} {rv : Value} {rs : List Int} {ov2 : Value} {O2 : List Ob} {rv2 : Value} {rs2 : List Int} {w : World} (h_ov : Ro w NoX (rl 2 obC ov O)) (n_ov : Ro w NoX (nst O)) (h_rv : Ro w NoX (il .i64 rv rs)) (h_ov2 : Ro w NoX (rl 2 obC ov2 O2)) (n_ov2 : Ro w NoX (nst O2)) (h_rv2 : Ro w NoX (il .i64 rv2 rs2))  :
    Calls Try.prog 16 #[.agg #[ov, rv], .agg #[ov2, rv2]] w fun e w' => e = .returned (.bool (smG (O.map ab) rs (O2.map ab) rs2)) ∧ St w NoX [] w' := by
  refine calls_in 114 Try.func16 rfl rfl (by simp) (fun A0 hsz0 hdf0 hargs => ?_)
  have l0_0 := hargs 0 (.agg #[ov, rv]) rfl
  have l1_0 := hargs 1 (.agg #[ov2, rv2]) rfl
  clear hargs; replace hsz0 : SzN A0 114 := ⟨hsz0⟩
  have hS := St.nil w
  have bh_ov := SlN.le (sl_SlN h_ov.at)
  have bh_rv := SlN.le (sl_SlN h_rv.at)
  have bh_ov2 := SlN.le (sl_SlN h_ov2.at)
  have bh_rv2 := SlN.le (sl_SlN h_rv2.at)
  refine wp_seq_k (fun K1 hK1 => ?_)
  refine region_in ?_
  refine W_boxS (zs := #[ov, rv]) hS rfl rfl rfl l0_0 (by rfl) (fun g2 w2 c2 hc2 hS2 => ?_)
  replace hS2 : St w NoX [c2] w2 := hS2
  refine W_boxS (zs := #[ov2, rv2]) hS2 rfl rfl rfl (es rfl l1_0) (by rfl) (fun g3 w3 c3 hc3 hS3 => ?_)
  replace hS3 : St w NoX [c3, c2] w3 := hS3
  refine W_v rfl rfl (V_asg rfl rfl) ?_
  refine W_end ?_
  refine gen_Q (fun A4 hA4 => ?_)
  have hsz4 := szq hA4
  have hdf4 : A4.defers = [] := by rw [hA4]; simp only [df_put]; exact hdf0
  have l2_4 := lookE hA4 2 (e2 rfl (et rfl))
  have l3_4 := lookE hA4 3 (es rfl (et rfl))
  clear hA4 hsz0 hdf0 l0_0 l1_0
  refine then_n (hK1 _ _ ?_)
  clear hK1
  refine wp_seq_k (fun K5 hK5 => ?_)
  refine wp_seq_k (fun K6 hK6 => ?_)
  refine region_in ?_
  refine W_v rfl rfl (V_fa (off' := 0) rfl l2_4 Try.underlying25 rfl (by decide +kernel) rfl) ?_
  refine W_r rfl rfl (VR_ldC rfl (et rfl) (cell_box (v := ov) (hS3.obj 1 rfl hc2) rfl) Try.underlying22 rfl) ?_
  refine W_v rfl rfl (V_lenS rfl (et rfl) (sl_SlN h_ov.at) Try.underlying22) ?_
  refine W_v rfl rfl (V_fa (off' := 0) rfl (e2 rfl (es rfl l3_4)) Try.underlying25 rfl (by decide +kernel) rfl) ?_
  refine W_r rfl rfl (VR_ldC rfl (et rfl) (cell_box (v := ov2) (hS3.obj 0 rfl hc3) rfl) Try.underlying22 rfl) ?_
  refine W_v rfl rfl (V_lenS rfl (et rfl) (sl_SlN h_ov2.at) Try.underlying22) ?_
  refine W_v rfl rfl (V_neq rfl (e3 rfl (et rfl)) (et rfl)) ?_
  refine W_split rfl rfl (V_mov rfl (et rfl)) (fun c7 => ?_) (fun c7 => ?_)
  · skip
    refine W_off rfl (wanted_f rfl rfl (et rfl) (ez rfl) rfl) ?_
    refine W_off rfl (wanted_f rfl rfl (es rfl (et rfl)) (ez rfl) rfl) ?_
    refine W_off rfl (wanted_f rfl rfl (e2 rfl (et rfl)) (ez rfl) rfl) ?_
    refine W_off rfl (wanted_f rfl rfl (e3 rfl (et rfl)) (ez rfl) rfl) ?_
    refine W_off rfl (wanted_f rfl rfl (e4 rfl (et rfl)) (ez rfl) rfl) ?_
    refine W_off rfl (wanted_f rfl rfl (e5 rfl (et rfl)) (ez rfl) rfl) ?_
    refine W_off rfl (wanted_f rfl rfl (e6 rfl (et rfl)) (ez rfl) rfl) ?_
    refine W_v rfl rfl (V_pickT rfl (e7 rfl (et rfl)) rfl) ?_
    refine W_end ?_
    refine gen_Q (fun A8 hA8 => ?_)
    have hsz8 := szq hA8
    have hdf8 : A8.defers = [] := by rw [hA8]; simp only [df_put]; exact hdf4
    have l2_8 := lookE hA8 2 (e15 rfl (es rfl l2_4))
    have l3_8 := lookE hA8 3 (e15 rfl (es rfl l3_4))
    have l26_8 := lookE hA8 26 (et rfl)
    clear hA8 hsz4 hdf4 l2_4 l3_4
    refine then_n (hK6 _ _ ?_)
    clear hK6
    refine cond_t l26_8 ?_
    refine wp_seq_k (fun K9 hK9 => ?_)
    refine region_in ?_
    refine W_v rfl rfl (V_asg rfl rfl) ?_
    refine W_end ?_
    refine gen_Q (fun A10 hA10 => ?_)
    have hsz10 := szq hA10
    have hdf10 : A10.defers = [] := by rw [hA10]; simp only [df_put]; exact hdf8
    have l4_10 := lookE hA10 4 (et rfl)
    clear hA10 hsz8 hdf8 l2_8 l3_8 l26_8
    have hS11 : St w NoX [] w3 := hS3.sel [] (by decide) rfl
    refine then_n (hK9 _ _ ?_)
    clear hK9
    refine wp_ret ?_
    refine then_ret ?_
    refine ret_in (results_1 Try.results16 (rv_tmp l4_10)) hdf10 ?_
    -- leaf T
    rw [show smG (O.map ab) rs (O2.map ab) rs2 = false from decide_eq_false (fun q => by have := congrArg List.length q.1; simp only [List.length_map] at this; have hc := c7; omega)]
    exact ⟨rfl, hS11.fin0⟩
  · skip
    refine W_v rfl (wanted_t rfl rfl (et rfl) (ez rfl)) (V_fa (off' := 1) rfl (e7 rfl (es rfl l2_4)) Try.underlying25 rfl (by decide +kernel) rfl) ?_
    refine W_r rfl (wanted_t rfl rfl (es rfl (et rfl)) (ez rfl)) (VR_ldC rfl (et rfl) (cell_box (v := rv) (hS3.obj 1 rfl hc2) rfl) Try.underlying23 rfl) ?_
    refine W_v rfl (wanted_t rfl rfl (e2 rfl (et rfl)) (ez rfl)) (V_lenS rfl (et rfl) (sl_SlN h_rv.at) Try.underlying23) ?_
    refine W_v rfl (wanted_t rfl rfl (e3 rfl (et rfl)) (ez rfl)) (V_fa (off' := 1) rfl (e10 rfl (es rfl l3_4)) Try.underlying25 rfl (by decide +kernel) rfl) ?_
    refine W_r rfl (wanted_t rfl rfl (e4 rfl (et rfl)) (ez rfl)) (VR_ldC rfl (et rfl) (cell_box (v := rv2) (hS3.obj 0 rfl hc3) rfl) Try.underlying23 rfl) ?_
    refine W_v rfl (wanted_t rfl rfl (e5 rfl (et rfl)) (ez rfl)) (V_lenS rfl (et rfl) (sl_SlN h_rv2.at) Try.underlying23) ?_
    refine W_v rfl (wanted_t rfl rfl (e6 rfl (et rfl)) (ez rfl)) (V_neq rfl (e3 rfl (et rfl)) (et rfl)) ?_
    refine W_v rfl rfl (V_pickF rfl (e7 rfl (et rfl)) (et rfl)) ?_
    refine W_end ?_
    refine gen_Q (fun A12 hA12 => ?_)
    have hsz12 := szq hA12
    have hdf12 : A12.defers = [] := by rw [hA12]; simp only [df_put]; exact hdf4
    have l2_12 := lookE hA12 2 (e15 rfl (es rfl l2_4))
    have l3_12 := lookE hA12 3 (e15 rfl (es rfl l3_4))
    have l26_12 := lookE hA12 26 (et rfl)
    clear hA12 hsz4 hdf4 l2_4 l3_4
    refine then_n (hK6 _ _ ?_)
    clear hK6
    refine cond_dec l26_12 (fun c13 => ?_) (fun c13 => ?_)
    · skip
      refine wp_seq_k (fun K14 hK14 => ?_)
      refine region_in ?_
      refine W_v rfl rfl (V_asg rfl rfl) ?_
      refine W_end ?_
      refine gen_Q (fun A15 hA15 => ?_)
      have hsz15 := szq hA15
      have hdf15 : A15.defers = [] := by rw [hA15]; simp only [df_put]; exact hdf12
      have l4_15 := lookE hA15 4 (et rfl)
      clear hA15 hsz12 hdf12 l2_12 l3_12 l26_12
      have hS16 : St w NoX [] w3 := hS3.sel [] (by decide) rfl
      refine then_n (hK14 _ _ ?_)
      clear hK14
      refine wp_ret ?_
      refine then_ret ?_
      refine ret_in (results_1 Try.results16 (rv_tmp l4_15)) hdf15 ?_
      -- leaf FT
      rw [show smG (O.map ab) rs (O2.map ab) rs2 = false from decide_eq_false (fun q => by have := congrArg List.length q.2; have hc := c13; omega)]
      exact ⟨rfl, hS16.fin0⟩
    · skip
      refine wp_skip ?_
      refine then_n (hK5 _ _ ?_)
      clear hK5
      refine wp_seq_k (fun K17 hK17 => ?_)
      refine wp_seq_k (fun K18 hK18 => ?_)
      refine region_in ?_
      refine W_v rfl rfl (V_asg rfl rfl) ?_
      refine W_end ?_
      refine gen_Q (fun A19 hA19 => ?_)
      have hsz19 := szq hA19
      have hdf19 : A19.defers = [] := by rw [hA19]; simp only [df_put]; exact hdf12
      have l2_19 := lookE hA19 2 (es rfl l2_12)
      have l3_19 := lookE hA19 3 (es rfl l3_12)
      have l5_19 := lookE hA19 5 (et rfl)
      clear hA19 hsz12 hdf12 l2_12 l3_12 l26_12
      refine then_n (hK18 _ _ ?_)
      clear hK18
      refine wp_block ?_
      -- loop 4
      refine loopX (fun mz A' w' => SzN A' 114 ∧ A'.defers = [] ∧ (∃ (k : Nat), (mz = rs.length - k) ∧ (k ≤ rs.length) ∧ (rs.take k = rs2.take k) ∧ (EV A' (.tmp 5) = .int .i64 (k : Int)) ∧ (EV A' (.tmp 2) = EV A19 (.tmp 2)) ∧ (EV A' (.tmp 3) = EV A19 (.tmp 3)) ∧ (St w NoX [bx g3 25 #[ov2, rv2], bx g2 25 #[ov, rv]] w'))) (rs.length - 0) ⟨hsz19, hdf19, 0, rfl, (by omega), rfl, ((l5_19).trans (by first | rfl | (simp; done) | (congr 1; omega))), rfl, rfl, (by subst hc3 hc2; exact hS3)⟩ ?_
      clear hS3 hc3 hc2
      rintro n20 A20 w20 ⟨hsz20, hdf20, k, hm20, hk, hz, l5_20, u2_20, u3_20, hS20⟩
      have l2_20 := u2_20.trans l2_19
      have l3_20 := u3_20.trans l3_19
      obtain ⟨c3_20, c2_20, hc3_20, hc2_20, hS20⟩ := gen2 hS20
      refine wp_seq_k (fun K21 hK21 => ?_)
      refine wp_seq_k (fun K22 hK22 => ?_)
      refine region_in ?_
      refine W_v rfl rfl (V_mov rfl l5_20) ?_
      refine W_v rfl rfl (V_fa (off' := 1) rfl (es rfl l2_20) Try.underlying25 rfl (by decide +kernel) rfl) ?_
      refine W_r rfl rfl (VR_ldC rfl (et rfl) (cell_box (v := rv) (hS20.obj 1 rfl hc2_20) rfl) Try.underlying23 rfl) ?_
      refine W_v rfl rfl (V_lenS rfl (et rfl) (sl_SlN h_rv.at) Try.underlying23) ?_
      refine W_v rfl rfl (V_lss rfl (e3 rfl (et rfl)) (et rfl)) ?_
      refine W_end ?_
      refine gen_Q (fun A23 hA23 => ?_)
      have hsz23 := szq hA23
      have hdf23 : A23.defers = [] := by rw [hA23]; simp only [df_put]; exact hdf20
      have l2_23 := lookE hA23 2 (e4 rfl (es rfl l2_20))
      have l3_23 := lookE hA23 3 (e4 rfl (es rfl l3_20))
      have l5_23 := lookE hA23 5 (e4 rfl (es rfl l5_20))
      have l31_23 := lookE hA23 31 (et rfl)
      clear hA23 hsz20 hdf20 l5_20 l2_20 l3_20
      refine then_n (hK22 _ _ ?_)
      clear hK22
      refine cond_dec l31_23 (fun c24 => ?_) (fun c24 => ?_)
      · skip
        refine wp_skip ?_
        refine then_n (hK21 _ _ ?_)
        clear hK21
        refine wp_seq_k (fun K25 hK25 => ?_)
        refine wp_block ?_
        refine wp_seq_k (fun K26 hK26 => ?_)
        refine region_monoS 11 11 [] (by kernel_rfl) (by kernel_rfl) ?_
        refine D_v rfl rfl (V_fa (off' := 1) rfl l2_23 Try.underlying25 rfl (by decide +kernel) rfl) rfl rfl ?_
        refine D_r rfl rfl (by kernel_rfl) (fun sx hx hF => (VR_ldC rfl (et rfl) (cell_box (v := rv) ((hS20.grow hx).obj 1 rfl hc2_20) rfl) Try.underlying23 rfl)) rfl rfl ?_
        refine D_v rfl rfl (V_mov rfl (es rfl (es rfl l5_23))) rfl rfl ?_
        have k27 : k < rs.length := by first | omega | (simp only [List.length_cons, List.length_nil]; omega) | (simp only [List.length_set]; omega)
        obtain ⟨y27, hy27⟩ := get_some (xs := rs) (k := k) k27
        obtain ⟨B27, O27, C27, hv27⟩ := (SlN.blk (sl_SlN h_rv.at) (by first | omega | (simp only [List.length_cons, List.length_nil]; omega) | (simp only [List.length_set]; omega)))
        refine D_v rfl rfl (V_ixS (off := O27 + k) 1 (k) rfl (es rfl (et rfl)) (et rfl) hv27 (by omega) k27 Try.underlying23 (by kernel_rfl) (congrArg _ (Nat.mul_one _))) rfl rfl ?_
        refine D_r rfl rfl (by kernel_rfl) (fun sx hx hF => (VR_ldC rfl (et rfl) ((sl_SlN ((hS20.grow hx).ro h_rv)).cell hv27 (map_get hy27)) Try.underlying3 rfl)) rfl rfl ?_
        refine D_v rfl rfl (V_fa (off' := 1) rfl (e4 rfl (es rfl l3_23)) Try.underlying25 rfl (by decide +kernel) rfl) rfl rfl ?_
        refine D_r rfl rfl (by kernel_rfl) (fun sx hx hF => (VR_ldC rfl (et rfl) (cell_box (v := rv2) ((hS20.grow hx).obj 0 rfl hc3_20) rfl) Try.underlying23 rfl)) rfl rfl ?_
        refine D_v rfl rfl (V_mov rfl (e6 rfl (es rfl l5_23))) rfl rfl ?_
        have k28 : k < rs2.length := by first | omega | (simp only [List.length_cons, List.length_nil]; omega) | (simp only [List.length_set]; omega)
        obtain ⟨y28, hy28⟩ := get_some (xs := rs2) (k := k) k28
        obtain ⟨B28, O28, C28, hv28⟩ := (SlN.blk (sl_SlN h_rv2.at) (by first | omega | (simp only [List.length_cons, List.length_nil]; omega) | (simp only [List.length_set]; omega)))
        refine D_v rfl rfl (V_ixS (off := O28 + k) 1 (k) rfl (es rfl (et rfl)) (et rfl) hv28 (by omega) k28 Try.underlying23 (by kernel_rfl) (congrArg _ (Nat.mul_one _))) rfl rfl ?_
        refine D_r rfl rfl (by kernel_rfl) (fun sx hx hF => (VR_ldC rfl (et rfl) ((sl_SlN ((hS20.grow hx).ro h_rv2)).cell hv28 (map_get hy28)) Try.underlying3 rfl)) rfl rfl ?_
        refine D_v rfl rfl (V_neq rfl (e5 rfl (et rfl)) (et rfl)) rfl rfl ?_
        refine ZS_none hS20 (Nat.le_refl _) (Nat.le_refl _) (fun s29 hJ29 hL29 hF29 => ?_)
        have hS29 := hJ29.st; clear hF29 hJ29 hL29
        generalize s29.1 = w29 at *
        replace hS29 : St w NoX [c3_20, c2_20] w29 := hS29
        refine gen_Q (fun A30 hA30 => ?_)
        have hsz30 := szq hA30
        have hdf30 : A30.defers = [] := by rw [hA30]; simp only [df_put]; exact hdf23
        have l2_30 := lookE hA30 2 (e10 rfl (es rfl l2_23))
        have l3_30 := lookE hA30 3 (e10 rfl (es rfl l3_23))
        have l5_30 := lookE hA30 5 (e10 rfl (es rfl l5_23))
        have l44_30 := lookE hA30 44 (et rfl)
        clear hA30 hsz23 hdf23 l2_23 l3_23 l5_23 l31_23
        refine then_n (hK26 _ _ ?_)
        clear hK26
        refine cond_dec l44_30 (fun c31 => ?_) (fun c31 => ?_)
        · skip
          refine wp_seq_k (fun K32 hK32 => ?_)
          refine region_in ?_
          refine W_v rfl rfl (V_asg rfl rfl) ?_
          refine W_end ?_
          refine gen_Q (fun A33 hA33 => ?_)
          have hsz33 := szq hA33
          have hdf33 : A33.defers = [] := by rw [hA33]; simp only [df_put]; exact hdf30
          have l4_33 := lookE hA33 4 (et rfl)
          clear hA33 hsz30 hdf30 l2_30 l3_30 l5_30 l44_30
          have hS34 : St w NoX [] w29 := hS29.sel [] (by decide) rfl
          refine then_n (hK32 _ _ ?_)
          clear hK32
          refine wp_ret ?_
          refine inb_ret ?_
          refine then_ret ?_
          refine then_ret ?_
          refine inb_ret ?_
          refine then_ret ?_
          refine ret_in (results_1 Try.results16 (rv_tmp l4_33)) hdf33 ?_
          -- leaf FFTT
          rw [show smG (O.map ab) rs (O2.map ab) rs2 = false from decide_eq_false (fun q => tk_ne hy27 hy28 (by have hc := c31; omega) q.2)]
          exact ⟨rfl, hS34.fin0⟩
        · skip
          refine wp_skip ?_
          refine inb_n ?_
          refine then_n (hK25 _ _ ?_)
          clear hK25
          refine region_in ?_
          refine W_v rfl rfl (V_mov rfl l5_30) ?_
          refine W_v rfl rfl (V_add rfl (et rfl) rfl (by omega) (by omega)) ?_
          refine W_v rfl rfl (V_asg rfl (et rfl)) ?_
          refine W_end ?_
          refine gen_Q (fun A35 hA35 => ?_)
          have hsz35 := szq hA35
          have hdf35 : A35.defers = [] := by rw [hA35]; simp only [df_put]; exact hdf30
          have l2_35 := lookE hA35 2 (e2 rfl (es rfl l2_30))
          have l3_35 := lookE hA35 3 (e2 rfl (es rfl l3_30))
          have l5_35 := lookE hA35 5 (et rfl)
          clear hA35 hsz30 hdf30 l2_30 l3_30 l5_30 l44_30
          refine then_n ⟨rs.length - (k + 1), by simp only [hm20]; omega, hsz35, hdf35, (k + 1), rfl, (by omega), (tk_step hz hy27 hy28 (by have hc := c31; omega)), ((l5_35).trans (by first | rfl | (simp; done) | (congr 1; omega))), ((l2_35).trans l2_19.symm), ((l3_35).trans l3_19.symm), (by subst hc3_20 hc2_20; exact hS29)⟩
      · skip
        refine wp_exit ?_
        refine then_exit ?_
        refine then_exit ?_
        refine inb_hit ?_
        refine then_n (hK17 _ _ ?_)
        clear hK17
        refine wp_seq_k (fun K36 hK36 => ?_)
        refine wp_seq_k (fun K37 hK37 => ?_)
        refine region_in ?_
        refine W_v rfl rfl (V_asg rfl rfl) ?_
        refine W_end ?_
        refine gen_Q (fun A38 hA38 => ?_)
        have hsz38 := szq hA38
        have hdf38 : A38.defers = [] := by rw [hA38]; simp only [df_put]; exact hdf23
        have l2_38 := lookE hA38 2 (es rfl l2_23)
        have l3_38 := lookE hA38 3 (es rfl l3_23)
        have l6_38 := lookE hA38 6 (et rfl)
        clear hA38 hsz23 hdf23 l2_23 l3_23 l5_23 l31_23
        refine then_n (hK37 _ _ ?_)
        clear hK37
        refine wp_block ?_
        -- loop 9
        have hrs : rs = rs2 := tk_all hz (by omega) (by omega)
        refine loopX (fun mz A' w' => SzN A' 114 ∧ A'.defers = [] ∧ (∃ (k : Nat), (mz = O.length - k) ∧ (k ≤ O.length) ∧ ((O.map ab).take k = (O2.map ab).take k) ∧ (EV A' (.tmp 6) = .int .i64 (k : Int)) ∧ (EV A' (.tmp 2) = EV A38 (.tmp 2)) ∧ (EV A' (.tmp 3) = EV A38 (.tmp 3)) ∧ (St w NoX [bx g3 25 #[ov2, rv2], bx g2 25 #[ov, rv]] w'))) (O.length - 0) ⟨hsz38, hdf38, 0, rfl, (by omega), rfl, ((l6_38).trans (by first | rfl | (simp; done) | (congr 1; omega))), rfl, rfl, (by subst hc3_20 hc2_20; exact hS20)⟩ ?_
        clear hS20 hc3_20 hc2_20
        rintro n39 A39 w39 ⟨hsz39, hdf39, k, hm39, hk, hz, l6_39, u2_39, u3_39, hS39⟩
        have l2_39 := u2_39.trans l2_38
        have l3_39 := u3_39.trans l3_38
        obtain ⟨c3_39, c2_39, hc3_39, hc2_39, hS39⟩ := gen2 hS39
        refine wp_seq_k (fun K40 hK40 => ?_)
        refine wp_seq_k (fun K41 hK41 => ?_)
        refine region_in ?_
        refine W_v rfl rfl (V_mov rfl l6_39) ?_
        refine W_v rfl rfl (V_fa (off' := 0) rfl (es rfl l2_39) Try.underlying25 rfl (by decide +kernel) rfl) ?_
        refine W_r rfl rfl (VR_ldC rfl (et rfl) (cell_box (v := ov) (hS39.obj 1 rfl hc2_39) rfl) Try.underlying22 rfl) ?_
        refine W_v rfl rfl (V_lenS rfl (et rfl) (sl_SlN h_ov.at) Try.underlying22) ?_
        refine W_v rfl rfl (V_lss rfl (e3 rfl (et rfl)) (et rfl)) ?_
        refine W_end ?_
        refine gen_Q (fun A42 hA42 => ?_)
        have hsz42 := szq hA42
        have hdf42 : A42.defers = [] := by rw [hA42]; simp only [df_put]; exact hdf39
        have l2_42 := lookE hA42 2 (e4 rfl (es rfl l2_39))
        have l3_42 := lookE hA42 3 (e4 rfl (es rfl l3_39))
        have l6_42 := lookE hA42 6 (e4 rfl (es rfl l6_39))
        have l49_42 := lookE hA42 49 (et rfl)
        clear hA42 hsz39 hdf39 l6_39 l2_39 l3_39
        refine then_n (hK41 _ _ ?_)
        clear hK41
        refine cond_dec l49_42 (fun c43 => ?_) (fun c43 => ?_)
        · skip
          refine wp_skip ?_
          refine then_n (hK40 _ _ ?_)
          clear hK40
          refine wp_seq_k (fun K44 hK44 => ?_)
          refine wp_block ?_
          refine wp_seq_k (fun K45 hK45 => ?_)
          have k46 : k < O.length := by first | omega | (simp only [List.length_cons, List.length_nil]; omega) | (simp only [List.length_set]; omega)
          obtain ⟨y46, hy46⟩ := get_some (xs := O) (k := k) k46
          obtain ⟨B46, O46, C46, hv46⟩ := (SlN.blk (sl_SlN h_ov.at) (by first | omega | (simp only [List.length_cons, List.length_nil]; omega) | (simp only [List.length_set]; omega)))
          have fn47 : Ro w NoX (il .i64 y46.1.1 y46.1.2) := nst_ro1 n_ov hy46
          have bfn47 := SlN.le (sl_SlN (hS39.ro fn47))
          have fn48 : Ro w NoX (il .u64 y46.2.1 y46.2.2) := nst_ro2 n_ov hy46
          have bfn48 := SlN.le (sl_SlN (hS39.ro fn48))
          have k49 : k < O2.length := by first | omega | (simp only [List.length_cons, List.length_nil]; omega) | (simp only [List.length_set]; omega)
          obtain ⟨y49, hy49⟩ := get_some (xs := O2) (k := k) k49
          obtain ⟨B49, O49, C49, hv49⟩ := (SlN.blk (sl_SlN h_ov2.at) (by first | omega | (simp only [List.length_cons, List.length_nil]; omega) | (simp only [List.length_set]; omega)))
          have fn50 : Ro w NoX (il .i64 y49.1.1 y49.1.2) := nst_ro1 n_ov2 hy49
          have bfn50 := SlN.le (sl_SlN (hS39.ro fn50))
          have fn51 : Ro w NoX (il .u64 y49.2.1 y49.2.2) := nst_ro2 n_ov2 hy49
          have bfn51 := SlN.le (sl_SlN (hS39.ro fn51))
          refine join_wp (R := fun A' w' => ∃ (g3948q : Nat) (g3949q : Nat), SzN A' 114 ∧ A'.defers = [] ∧ EV A' (.tmp 7) = .pointer (some ⟨g3948q, 0, none⟩) ∧ EV A' (.tmp 8) = .pointer (some ⟨g3949q, 0, none⟩) ∧ EV A' (.tmp 2) = EV A42 (.tmp 2) ∧ EV A' (.tmp 3) = EV A42 (.tmp 3) ∧ EV A' (.tmp 6) = EV A42 (.tmp 6) ∧ St w NoX [bx g3949q 40 #[y49.1.1, y49.2.1], bx g3948q 40 #[y46.1.1, y46.2.1], bx g3 25 #[ov2, rv2], bx g2 25 #[ov, rv]] w') ?_ ?_
          · skip
            refine region_anyQ (by kernel_rfl) 14 rfl (fun w4046 hx4046 => ?_)
            have hS4046 := hS39.grow hx4046
            refine AX_go (fun Z hZ => ?_)
            have hZ4046_36 : ∀ (g3748q : Nat) (g3749q : Nat) (A' : Act) (w' : World), SzN A' 114 → A'.defers = [] → EV A' (.tmp 7) = .pointer (some ⟨g3748q, 0, none⟩) → EV A' (.tmp 8) = .pointer (some ⟨g3749q, 0, none⟩) → EV A' (.tmp 56) = .agg #[y46.1.1, y46.2.1] → EV A' (.tmp 61) = .agg #[y49.1.1, y49.2.1] → EV A' (.tmp 2) = EV A42 (.tmp 2) → EV A' (.tmp 3) = EV A42 (.tmp 3) → EV A' (.tmp 6) = EV A42 (.tmp 6) → St w NoX [bx g3749q 40 #[.slice none 0 0, .slice none 0 0], bx g3748q 40 #[.slice none 0 0, .slice none 0 0], bx g3 25 #[ov2, rv2], bx g2 25 #[ov, rv]] w' → Z 2 #[true, true, true, true, true, true, true, true, true, true, true, true, false, false] A' w' := by
              intro g3748q g3749q A4047 w4047 hsz4047 hdf4047 l7_4047 l8_4047 l56_4047 l61_4047 u2_4047 u3_4047 u6_4047 hS4047
              have l2_4047 := u2_4047.trans l2_42
              have l3_4047 := u3_4047.trans l3_42
              have l6_4047 := u6_4047.trans l6_42
              obtain ⟨ce0_4047, ce1_4047, c3_4047, c2_4047, hce0_4047, hce1_4047, hc3_4047, hc2_4047, hS4047⟩ := gen4 hS4047
              refine Zto hZ ?_
              refine AX_1 (i := 12) (by kernel_rfl) rfl ?_
              refine W_stAS 1 hS4047 rfl hce1_4047 rfl rfl rfl l7_4047 l56_4047 (by simp only [List.all_toArray, List.all_cons, List.all_nil, obC, SlN_one (sl_SlN fn47.at), SlN_one (sl_SlN fn48.at)] <;> rfl) (by rfl) (by kernel_rfl) (fun w4048 c4048 hc4048 hS4048 => ?_)
              replace hS4048 : St w NoX [ce0_4047, c4048, c3_4047, c2_4047] w4048 := hS4048
              refine W_end ?_
              refine kq _ ?_
              refine AX_cast (l2 := #[true, true, true, true, true, true, true, true, true, true, true, true, true, false]) ?_ (by kernel_rfl)
              refine AX_1 (i := 13) (by kernel_rfl) rfl ?_
              refine W_stAS 0 hS4048 rfl hce0_4047 rfl rfl rfl l8_4047 l61_4047 (by simp only [List.all_toArray, List.all_cons, List.all_nil, obC, SlN_one (sl_SlN fn50.at), SlN_one (sl_SlN fn51.at)] <;> rfl) (by rfl) (by kernel_rfl) (fun w4049 c4049 hc4049 hS4049 => ?_)
              replace hS4049 : St w NoX [c4049, c4048, c3_4047, c2_4047] w4049 := hS4049
              refine W_end ?_
              refine kq _ ?_
              refine AX_cast (l2 := #[true, true, true, true, true, true, true, true, true, true, true, true, true, true]) ?_ (by kernel_rfl)
              refine AX_end (by kernel_rfl) ?_
              refine Qo_normal ?_
              exact ⟨g3748q, g3749q, inferInstance, hdf4047, l7_4047, l8_4047, (l2_4047.trans l2_42.symm), (l3_4047.trans l3_42.symm), (l6_4047.trans l6_42.symm), (by subst hc4049 hc4048 hc3_4047 hc2_4047; exact hS4049)⟩
            have hZ4046_37 : ∀ (g3848q : Nat) (g3849q : Nat) (A' : Act) (w' : World), SzN A' 114 → A'.defers = [] → EV A' (.tmp 7) = .pointer (some ⟨g3848q, 0, none⟩) → EV A' (.tmp 8) = .pointer (some ⟨g3849q, 0, none⟩) → EV A' (.tmp 60) = .pointer (some ⟨B49, O49 + k * 2, none⟩) → EV A' (.tmp 2) = EV A42 (.tmp 2) → EV A' (.tmp 3) = EV A42 (.tmp 3) → EV A' (.tmp 6) = EV A42 (.tmp 6) → St w NoX [bx g3849q 40 #[.slice none 0 0, .slice none 0 0], bx g3848q 40 #[y46.1.1, y46.2.1], bx g3 25 #[ov2, rv2], bx g2 25 #[ov, rv]] w' → Z 2 #[true, true, true, true, true, true, true, true, true, false, true, true, true, false] A' w' := by
              intro g3848q g3849q A4050 w4050 hsz4050 hdf4050 l7_4050 l8_4050 l60_4050 u2_4050 u3_4050 u6_4050 hS4050
              have l2_4050 := u2_4050.trans l2_42
              have l3_4050 := u3_4050.trans l3_42
              have l6_4050 := u6_4050.trans l6_42
              obtain ⟨ce0_4050, ce1_4050, c3_4050, c2_4050, hce0_4050, hce1_4050, hc3_4050, hc2_4050, hS4050⟩ := gen4 hS4050
              refine Zto hZ ?_
              refine AX_1 (i := 9) (by kernel_rfl) rfl ?_
              refine W_r rfl rfl (VR_ldR (ys := obC y49) rfl l60_4050 (SlN.row obC_len (sl_SlN (hS4050.ro h_ov2)) hv49 hy49 rfl) Try.underlying40 rfl (by kernel_rfl)) ?_
              refine W_end ?_
              refine kq _ ?_
              refine AX_cast (l2 := #[true, true, true, true, true, true, true, true, true, true, true, true, true, false]) ?_ (by kernel_rfl)
              refine AX_1 (i := 13) (by kernel_rfl) rfl ?_
              refine W_stAS 0 hS4050 rfl hce0_4050 rfl rfl rfl (es rfl l8_4050) (et rfl) (by simp only [List.all_toArray, List.all_cons, List.all_nil, obC, SlN_one (sl_SlN fn50.at), SlN_one (sl_SlN fn51.at)] <;> rfl) (by rfl) (by kernel_rfl) (fun w4051 c4051 hc4051 hS4051 => ?_)
              replace hS4051 : St w NoX [c4051, ce1_4050, c3_4050, c2_4050] w4051 := hS4051
              refine W_end ?_
              refine kq _ ?_
              refine AX_cast (l2 := #[true, true, true, true, true, true, true, true, true, true, true, true, true, true]) ?_ (by kernel_rfl)
              refine AX_end (by kernel_rfl) ?_
              refine Qo_normal ?_
              exact ⟨g3848q, g3849q, inferInstance, (by simp only [df_put]; exact hdf4050), (es rfl l7_4050), (es rfl l8_4050), ((es rfl l2_4050).trans l2_42.symm), ((es rfl l3_4050).trans l3_42.symm), ((es rfl l6_4050).trans l6_42.symm), (by subst hc4051 hce1_4050 hc3_4050 hc2_4050; exact hS4051)⟩
            have hZ4046_31 : ∀ (g3248q : Nat) (A' : Act) (w' : World), SzN A' 114 → A'.defers = [] → EV A' (.tmp 7) = .pointer (some ⟨g3248q, 0, none⟩) → EV A' (.tmp 56) = .agg #[y46.1.1, y46.2.1] → EV A' (.tmp 61) = .agg #[y49.1.1, y49.2.1] → EV A' (.tmp 2) = EV A42 (.tmp 2) → EV A' (.tmp 3) = EV A42 (.tmp 3) → EV A' (.tmp 6) = EV A42 (.tmp 6) → St w NoX [bx g3248q 40 #[.slice none 0 0, .slice none 0 0], bx g3 25 #[ov2, rv2], bx g2 25 #[ov, rv]] w' → Z 3 #[true, true, true, true, true, true, true, true, true, true, true, false, false, false] A' w' := by
              intro g3248q A4052 w4052 hsz4052 hdf4052 l7_4052 l56_4052 l61_4052 u2_4052 u3_4052 u6_4052 hS4052
              have l2_4052 := u2_4052.trans l2_42
              have l3_4052 := u3_4052.trans l3_42
              have l6_4052 := u6_4052.trans l6_42
              obtain ⟨ce0_4052, c3_4052, c2_4052, hce0_4052, hc3_4052, hc2_4052, hS4052⟩ := gen3 hS4052
              refine Zto hZ ?_
              refine AX_1 (i := 11) (by kernel_rfl) rfl ?_
              refine W_allocS (z := .agg #[.slice none 0 0, .slice none 0 0]) (zs := #[.slice none 0 0, .slice none 0 0]) hS4052 rfl rfl rfl (by kernel_rfl) (by rfl) (fun g4053 w4053 c4053 hc4053 hS4053 => ?_)
              replace hS4053 : St w NoX [c4053, ce0_4052, c3_4052, c2_4052] w4053 := hS4053
              refine W_end ?_
              refine kq _ ?_
              refine AX_cast (l2 := #[true, true, true, true, true, true, true, true, true, true, true, true, false, false]) ?_ (by kernel_rfl)
              exact Zof hZ (hZ4046_36 g3248q g4053 _ _ inferInstance (by simp only [df_put]; exact hdf4052) (es rfl l7_4052) (et rfl) (es rfl l56_4052) (es rfl l61_4052) ((es rfl l2_4052).trans l2_42.symm) ((es rfl l3_4052).trans l3_42.symm) ((es rfl l6_4052).trans l6_42.symm) (by subst hc4053 hce0_4052 hc3_4052 hc2_4052; exact hS4053))
            have hZ4046_32 : ∀ (g3348q : Nat) (A' : Act) (w' : World), SzN A' 114 → A'.defers = [] → EV A' (.tmp 8) = .pointer (some ⟨g3348q, 0, none⟩) → EV A' (.tmp 56) = .agg #[y46.1.1, y46.2.1] → EV A' (.tmp 61) = .agg #[y49.1.1, y49.2.1] → EV A' (.tmp 2) = EV A42 (.tmp 2) → EV A' (.tmp 3) = EV A42 (.tmp 3) → EV A' (.tmp 6) = EV A42 (.tmp 6) → St w NoX [bx g3348q 40 #[.slice none 0 0, .slice none 0 0], bx g3 25 #[ov2, rv2], bx g2 25 #[ov, rv]] w' → Z 3 #[true, true, true, true, true, true, true, true, true, true, false, true, false, false] A' w' := by
              intro g3348q A4054 w4054 hsz4054 hdf4054 l8_4054 l56_4054 l61_4054 u2_4054 u3_4054 u6_4054 hS4054
              have l2_4054 := u2_4054.trans l2_42
              have l3_4054 := u3_4054.trans l3_42
              have l6_4054 := u6_4054.trans l6_42
              obtain ⟨ce0_4054, c3_4054, c2_4054, hce0_4054, hc3_4054, hc2_4054, hS4054⟩ := gen3 hS4054
              refine Zto hZ ?_
              refine AX_1 (i := 10) (by kernel_rfl) rfl ?_
              refine W_allocS (z := .agg #[.slice none 0 0, .slice none 0 0]) (zs := #[.slice none 0 0, .slice none 0 0]) hS4054 rfl rfl rfl (by kernel_rfl) (by rfl) (fun g4055 w4055 c4055 hc4055 hS4055 => ?_)
              replace hS4055 : St w NoX [c4055, ce0_4054, c3_4054, c2_4054] w4055 := hS4055
              refine W_end ?_
              refine kq _ ?_
              refine AX_cast (l2 := #[true, true, true, true, true, true, true, true, true, true, true, true, false, false]) ?_ (by kernel_rfl)
              have hS4056 : St w NoX [ce0_4054, c4055, c3_4054, c2_4054] w4055 := hS4055.sel [1, 0, 2, 3] (by decide) rfl
              exact Zof hZ (hZ4046_36 g4055 g3348q _ _ inferInstance (by simp only [df_put]; exact hdf4054) (et rfl) (es rfl l8_4054) (es rfl l56_4054) (es rfl l61_4054) ((es rfl l2_4054).trans l2_42.symm) ((es rfl l3_4054).trans l3_42.symm) ((es rfl l6_4054).trans l6_42.symm) (by subst hce0_4054 hc4055 hc3_4054 hc2_4054; exact hS4056))
            have hZ4046_33 : ∀ (g3448q : Nat) (g3449q : Nat) (A' : Act) (w' : World), SzN A' 114 → A'.defers = [] → EV A' (.tmp 7) = .pointer (some ⟨g3448q, 0, none⟩) → EV A' (.tmp 8) = .pointer (some ⟨g3449q, 0, none⟩) → EV A' (.tmp 56) = .agg #[y46.1.1, y46.2.1] → EV A' (.tmp 60) = .pointer (some ⟨B49, O49 + k * 2, none⟩) → EV A' (.tmp 2) = EV A42 (.tmp 2) → EV A' (.tmp 3) = EV A42 (.tmp 3) → EV A' (.tmp 6) = EV A42 (.tmp 6) → St w NoX [bx g3449q 40 #[.slice none 0 0, .slice none 0 0], bx g3448q 40 #[.slice none 0 0, .slice none 0 0], bx g3 25 #[ov2, rv2], bx g2 25 #[ov, rv]] w' → Z 3 #[true, true, true, true, true, true, true, true, true, false, true, true, false, false] A' w' := by
              intro g3448q g3449q A4057 w4057 hsz4057 hdf4057 l7_4057 l8_4057 l56_4057 l60_4057 u2_4057 u3_4057 u6_4057 hS4057
              have l2_4057 := u2_4057.trans l2_42
              have l3_4057 := u3_4057.trans l3_42
              have l6_4057 := u6_4057.trans l6_42
              obtain ⟨ce0_4057, ce1_4057, c3_4057, c2_4057, hce0_4057, hce1_4057, hc3_4057, hc2_4057, hS4057⟩ := gen4 hS4057
              refine Zto hZ ?_
              refine AX_2 (i := 9) (j := 12) (by kernel_rfl) rfl rfl ?_ ?_
              · skip
                refine W_r rfl rfl (VR_ldR (ys := obC y49) rfl l60_4057 (SlN.row obC_len (sl_SlN (hS4057.ro h_ov2)) hv49 hy49 rfl) Try.underlying40 rfl (by kernel_rfl)) ?_
                refine W_end ?_
                refine kq _ ?_
                refine AX_cast (l2 := #[true, true, true, true, true, true, true, true, true, true, true, true, false, false]) ?_ (by kernel_rfl)
                exact Zof hZ (hZ4046_36 g3448q g3449q _ _ inferInstance (by simp only [df_put]; exact hdf4057) (es rfl l7_4057) (es rfl l8_4057) (es rfl l56_4057) (et rfl) ((es rfl l2_4057).trans l2_42.symm) ((es rfl l3_4057).trans l3_42.symm) ((es rfl l6_4057).trans l6_42.symm) (by subst hce0_4057 hce1_4057 hc3_4057 hc2_4057; exact hS4057))
              · skip
                refine W_stAS 1 hS4057 rfl hce1_4057 rfl rfl rfl l7_4057 l56_4057 (by simp only [List.all_toArray, List.all_cons, List.all_nil, obC, SlN_one (sl_SlN fn47.at), SlN_one (sl_SlN fn48.at)] <;> rfl) (by rfl) (by kernel_rfl) (fun w4058 c4058 hc4058 hS4058 => ?_)
                replace hS4058 : St w NoX [ce0_4057, c4058, c3_4057, c2_4057] w4058 := hS4058
                refine W_end ?_
                refine kq _ ?_
                refine AX_cast (l2 := #[true, true, true, true, true, true, true, true, true, false, true, true, true, false]) ?_ (by kernel_rfl)
                exact Zof hZ (hZ4046_37 g3448q g3449q _ _ inferInstance hdf4057 l7_4057 l8_4057 l60_4057 (l2_4057.trans l2_42.symm) (l3_4057.trans l3_42.symm) (l6_4057.trans l6_42.symm) (by subst hce0_4057 hc4058 hc3_4057 hc2_4057; exact hS4058))
            have hZ4046_35 : ∀ (g3648q : Nat) (g3649q : Nat) (A' : Act) (w' : World), SzN A' 114 → A'.defers = [] → EV A' (.tmp 7) = .pointer (some ⟨g3648q, 0, none⟩) → EV A' (.tmp 8) = .pointer (some ⟨g3649q, 0, none⟩) → EV A' (.tmp 55) = .pointer (some ⟨B46, O46 + k * 2, none⟩) → EV A' (.tmp 61) = .agg #[y49.1.1, y49.2.1] → EV A' (.tmp 2) = EV A42 (.tmp 2) → EV A' (.tmp 3) = EV A42 (.tmp 3) → EV A' (.tmp 6) = EV A42 (.tmp 6) → St w NoX [bx g3649q 40 #[.slice none 0 0, .slice none 0 0], bx g3648q 40 #[.slice none 0 0, .slice none 0 0], bx g3 25 #[ov2, rv2], bx g2 25 #[ov, rv]] w' → Z 3 #[true, true, true, true, false, true, true, true, true, true, true, true, false, false] A' w' := by
              intro g3648q g3649q A4059 w4059 hsz4059 hdf4059 l7_4059 l8_4059 l55_4059 l61_4059 u2_4059 u3_4059 u6_4059 hS4059
              have l2_4059 := u2_4059.trans l2_42
              have l3_4059 := u3_4059.trans l3_42
              have l6_4059 := u6_4059.trans l6_42
              obtain ⟨ce0_4059, ce1_4059, c3_4059, c2_4059, hce0_4059, hce1_4059, hc3_4059, hc2_4059, hS4059⟩ := gen4 hS4059
              refine Zto hZ ?_
              refine AX_1 (i := 4) (by kernel_rfl) rfl ?_
              refine W_r rfl rfl (VR_ldR (ys := obC y46) rfl l55_4059 (SlN.row obC_len (sl_SlN (hS4059.ro h_ov)) hv46 hy46 rfl) Try.underlying40 rfl (by kernel_rfl)) ?_
              refine W_end ?_
              refine kq _ ?_
              refine AX_cast (l2 := #[true, true, true, true, true, true, true, true, true, true, true, true, false, false]) ?_ (by kernel_rfl)
              exact Zof hZ (hZ4046_36 g3648q g3649q _ _ inferInstance (by simp only [df_put]; exact hdf4059) (es rfl l7_4059) (es rfl l8_4059) (et rfl) (es rfl l61_4059) ((es rfl l2_4059).trans l2_42.symm) ((es rfl l3_4059).trans l3_42.symm) ((es rfl l6_4059).trans l6_42.symm) (by subst hce0_4059 hce1_4059 hc3_4059 hc2_4059; exact hS4059))
            have hZ4046_23 : ∀ (A' : Act) (w' : World), SzN A' 114 → A'.defers = [] → EV A' (.tmp 56) = .agg #[y46.1.1, y46.2.1] → EV A' (.tmp 61) = .agg #[y49.1.1, y49.2.1] → EV A' (.tmp 2) = EV A42 (.tmp 2) → EV A' (.tmp 3) = EV A42 (.tmp 3) → EV A' (.tmp 6) = EV A42 (.tmp 6) → St w NoX [bx g3 25 #[ov2, rv2], bx g2 25 #[ov, rv]] w' → Z 4 #[true, true, true, true, true, true, true, true, true, true, false, false, false, false] A' w' := by
              intro A4060 w4060 hsz4060 hdf4060 l56_4060 l61_4060 u2_4060 u3_4060 u6_4060 hS4060
              have l2_4060 := u2_4060.trans l2_42
              have l3_4060 := u3_4060.trans l3_42
              have l6_4060 := u6_4060.trans l6_42
              obtain ⟨c3_4060, c2_4060, hc3_4060, hc2_4060, hS4060⟩ := gen2 hS4060
              refine Zto hZ ?_
              refine AX_2 (i := 10) (j := 11) (by kernel_rfl) rfl rfl ?_ ?_
              · skip
                refine W_allocS (z := .agg #[.slice none 0 0, .slice none 0 0]) (zs := #[.slice none 0 0, .slice none 0 0]) hS4060 rfl rfl rfl (by kernel_rfl) (by rfl) (fun g4061 w4061 c4061 hc4061 hS4061 => ?_)
                replace hS4061 : St w NoX [c4061, c3_4060, c2_4060] w4061 := hS4061
                refine W_end ?_
                refine kq _ ?_
                refine AX_cast (l2 := #[true, true, true, true, true, true, true, true, true, true, true, false, false, false]) ?_ (by kernel_rfl)
                exact Zof hZ (hZ4046_31 g4061 _ _ inferInstance (by simp only [df_put]; exact hdf4060) (et rfl) (es rfl l56_4060) (es rfl l61_4060) ((es rfl l2_4060).trans l2_42.symm) ((es rfl l3_4060).trans l3_42.symm) ((es rfl l6_4060).trans l6_42.symm) (by subst hc4061 hc3_4060 hc2_4060; exact hS4061))
              · skip
                refine W_allocS (z := .agg #[.slice none 0 0, .slice none 0 0]) (zs := #[.slice none 0 0, .slice none 0 0]) hS4060 rfl rfl rfl (by kernel_rfl) (by rfl) (fun g4062 w4062 c4062 hc4062 hS4062 => ?_)
                replace hS4062 : St w NoX [c4062, c3_4060, c2_4060] w4062 := hS4062
                refine W_end ?_
                refine kq _ ?_
                refine AX_cast (l2 := #[true, true, true, true, true, true, true, true, true, true, false, true, false, false]) ?_ (by kernel_rfl)
                exact Zof hZ (hZ4046_32 g4062 _ _ inferInstance (by simp only [df_put]; exact hdf4060) (et rfl) (es rfl l56_4060) (es rfl l61_4060) ((es rfl l2_4060).trans l2_42.symm) ((es rfl l3_4060).trans l3_42.symm) ((es rfl l6_4060).trans l6_42.symm) (by subst hc4062 hc3_4060 hc2_4060; exact hS4062))
            have hZ4046_24 : ∀ (g2548q : Nat) (A' : Act) (w' : World), SzN A' 114 → A'.defers = [] → EV A' (.tmp 7) = .pointer (some ⟨g2548q, 0, none⟩) → EV A' (.tmp 56) = .agg #[y46.1.1, y46.2.1] → EV A' (.tmp 60) = .pointer (some ⟨B49, O49 + k * 2, none⟩) → EV A' (.tmp 2) = EV A42 (.tmp 2) → EV A' (.tmp 3) = EV A42 (.tmp 3) → EV A' (.tmp 6) = EV A42 (.tmp 6) → St w NoX [bx g2548q 40 #[.slice none 0 0, .slice none 0 0], bx g3 25 #[ov2, rv2], bx g2 25 #[ov, rv]] w' → Z 4 #[true, true, true, true, true, true, true, true, true, false, true, false, false, false] A' w' := by
              intro g2548q A4063 w4063 hsz4063 hdf4063 l7_4063 l56_4063 l60_4063 u2_4063 u3_4063 u6_4063 hS4063
              have l2_4063 := u2_4063.trans l2_42
              have l3_4063 := u3_4063.trans l3_42
              have l6_4063 := u6_4063.trans l6_42
              obtain ⟨ce0_4063, c3_4063, c2_4063, hce0_4063, hc3_4063, hc2_4063, hS4063⟩ := gen3 hS4063
              refine Zto hZ ?_
              refine AX_2 (i := 9) (j := 11) (by kernel_rfl) rfl rfl ?_ ?_
              · skip
                refine W_r rfl rfl (VR_ldR (ys := obC y49) rfl l60_4063 (SlN.row obC_len (sl_SlN (hS4063.ro h_ov2)) hv49 hy49 rfl) Try.underlying40 rfl (by kernel_rfl)) ?_
                refine W_end ?_
                refine kq _ ?_
                refine AX_cast (l2 := #[true, true, true, true, true, true, true, true, true, true, true, false, false, false]) ?_ (by kernel_rfl)
                exact Zof hZ (hZ4046_31 g2548q _ _ inferInstance (by simp only [df_put]; exact hdf4063) (es rfl l7_4063) (es rfl l56_4063) (et rfl) ((es rfl l2_4063).trans l2_42.symm) ((es rfl l3_4063).trans l3_42.symm) ((es rfl l6_4063).trans l6_42.symm) (by subst hce0_4063 hc3_4063 hc2_4063; exact hS4063))
              · skip
                refine W_allocS (z := .agg #[.slice none 0 0, .slice none 0 0]) (zs := #[.slice none 0 0, .slice none 0 0]) hS4063 rfl rfl rfl (by kernel_rfl) (by rfl) (fun g4064 w4064 c4064 hc4064 hS4064 => ?_)
                replace hS4064 : St w NoX [c4064, ce0_4063, c3_4063, c2_4063] w4064 := hS4064
                refine W_end ?_
                refine kq _ ?_
                refine AX_cast (l2 := #[true, true, true, true, true, true, true, true, true, false, true, true, false, false]) ?_ (by kernel_rfl)
                exact Zof hZ (hZ4046_33 g2548q g4064 _ _ inferInstance (by simp only [df_put]; exact hdf4063) (es rfl l7_4063) (et rfl) (es rfl l56_4063) (es rfl l60_4063) ((es rfl l2_4063).trans l2_42.symm) ((es rfl l3_4063).trans l3_42.symm) ((es rfl l6_4063).trans l6_42.symm) (by subst hc4064 hce0_4063 hc3_4063 hc2_4063; exact hS4064))
            have hZ4046_25 : ∀ (g2648q : Nat) (A' : Act) (w' : World), SzN A' 114 → A'.defers = [] → EV A' (.tmp 8) = .pointer (some ⟨g2648q, 0, none⟩) → EV A' (.tmp 56) = .agg #[y46.1.1, y46.2.1] → EV A' (.tmp 60) = .pointer (some ⟨B49, O49 + k * 2, none⟩) → EV A' (.tmp 2) = EV A42 (.tmp 2) → EV A' (.tmp 3) = EV A42 (.tmp 3) → EV A' (.tmp 6) = EV A42 (.tmp 6) → St w NoX [bx g2648q 40 #[.slice none 0 0, .slice none 0 0], bx g3 25 #[ov2, rv2], bx g2 25 #[ov, rv]] w' → Z 4 #[true, true, true, true, true, true, true, true, true, false, false, true, false, false] A' w' := by
              intro g2648q A4065 w4065 hsz4065 hdf4065 l8_4065 l56_4065 l60_4065 u2_4065 u3_4065 u6_4065 hS4065
              have l2_4065 := u2_4065.trans l2_42
              have l3_4065 := u3_4065.trans l3_42
              have l6_4065 := u6_4065.trans l6_42
              obtain ⟨ce0_4065, c3_4065, c2_4065, hce0_4065, hc3_4065, hc2_4065, hS4065⟩ := gen3 hS4065
              refine Zto hZ ?_
              refine AX_2 (i := 9) (j := 10) (by kernel_rfl) rfl rfl ?_ ?_
              · skip
                refine W_r rfl rfl (VR_ldR (ys := obC y49) rfl l60_4065 (SlN.row obC_len (sl_SlN (hS4065.ro h_ov2)) hv49 hy49 rfl) Try.underlying40 rfl (by kernel_rfl)) ?_
                refine W_end ?_
                refine kq _ ?_
                refine AX_cast (l2 := #[true, true, true, true, true, true, true, true, true, true, false, true, false, false]) ?_ (by kernel_rfl)
                exact Zof hZ (hZ4046_32 g2648q _ _ inferInstance (by simp only [df_put]; exact hdf4065) (es rfl l8_4065) (es rfl l56_4065) (et rfl) ((es rfl l2_4065).trans l2_42.symm) ((es rfl l3_4065).trans l3_42.symm) ((es rfl l6_4065).trans l6_42.symm) (by subst hce0_4065 hc3_4065 hc2_4065; exact hS4065))
              · skip
                refine W_allocS (z := .agg #[.slice none 0 0, .slice none 0 0]) (zs := #[.slice none 0 0, .slice none 0 0]) hS4065 rfl rfl rfl (by kernel_rfl) (by rfl) (fun g4066 w4066 c4066 hc4066 hS4066 => ?_)
                replace hS4066 : St w NoX [c4066, ce0_4065, c3_4065, c2_4065] w4066 := hS4066
                refine W_end ?_
                refine kq _ ?_
                refine AX_cast (l2 := #[true, true, true, true, true, true, true, true, true, false, true, true, false, false]) ?_ (by kernel_rfl)
                have hS4067 : St w NoX [ce0_4065, c4066, c3_4065, c2_4065] w4066 := hS4066.sel [1, 0, 2, 3] (by decide) rfl
                exact Zof hZ (hZ4046_33 g4066 g2648q _ _ inferInstance (by simp only [df_put]; exact hdf4065) (et rfl) (es rfl l8_4065) (es rfl l56_4065) (es rfl l60_4065) ((es rfl l2_4065).trans l2_42.symm) ((es rfl l3_4065).trans l3_42.symm) ((es rfl l6_4065).trans l6_42.symm) (by subst hce0_4065 hc4066 hc3_4065 hc2_4065; exact hS4067))
            have hZ4046_27 : ∀ (g2848q : Nat) (A' : Act) (w' : World), SzN A' 114 → A'.defers = [] → EV A' (.tmp 7) = .pointer (some ⟨g2848q, 0, none⟩) → EV A' (.tmp 55) = .pointer (some ⟨B46, O46 + k * 2, none⟩) → EV A' (.tmp 61) = .agg #[y49.1.1, y49.2.1] → EV A' (.tmp 2) = EV A42 (.tmp 2) → EV A' (.tmp 3) = EV A42 (.tmp 3) → EV A' (.tmp 6) = EV A42 (.tmp 6) → St w NoX [bx g2848q 40 #[.slice none 0 0, .slice none 0 0], bx g3 25 #[ov2, rv2], bx g2 25 #[ov, rv]] w' → Z 4 #[true, true, true, true, false, true, true, true, true, true, true, false, false, false] A' w' := by
              intro g2848q A4068 w4068 hsz4068 hdf4068 l7_4068 l55_4068 l61_4068 u2_4068 u3_4068 u6_4068 hS4068
              have l2_4068 := u2_4068.trans l2_42
              have l3_4068 := u3_4068.trans l3_42
              have l6_4068 := u6_4068.trans l6_42
              obtain ⟨ce0_4068, c3_4068, c2_4068, hce0_4068, hc3_4068, hc2_4068, hS4068⟩ := gen3 hS4068
              refine Zto hZ ?_
              refine AX_2 (i := 4) (j := 11) (by kernel_rfl) rfl rfl ?_ ?_
              · skip
                refine W_r rfl rfl (VR_ldR (ys := obC y46) rfl l55_4068 (SlN.row obC_len (sl_SlN (hS4068.ro h_ov)) hv46 hy46 rfl) Try.underlying40 rfl (by kernel_rfl)) ?_
                refine W_end ?_
                refine kq _ ?_
                refine AX_cast (l2 := #[true, true, true, true, true, true, true, true, true, true, true, false, false, false]) ?_ (by kernel_rfl)
                exact Zof hZ (hZ4046_31 g2848q _ _ inferInstance (by simp only [df_put]; exact hdf4068) (es rfl l7_4068) (et rfl) (es rfl l61_4068) ((es rfl l2_4068).trans l2_42.symm) ((es rfl l3_4068).trans l3_42.symm) ((es rfl l6_4068).trans l6_42.symm) (by subst hce0_4068 hc3_4068 hc2_4068; exact hS4068))
              · skip
                refine W_allocS (z := .agg #[.slice none 0 0, .slice none 0 0]) (zs := #[.slice none 0 0, .slice none 0 0]) hS4068 rfl rfl rfl (by kernel_rfl) (by rfl) (fun g4069 w4069 c4069 hc4069 hS4069 => ?_)
                replace hS4069 : St w NoX [c4069, ce0_4068, c3_4068, c2_4068] w4069 := hS4069
                refine W_end ?_
                refine kq _ ?_
                refine AX_cast (l2 := #[true, true, true, true, false, true, true, true, true, true, true, true, false, false]) ?_ (by kernel_rfl)
                exact Zof hZ (hZ4046_35 g2848q g4069 _ _ inferInstance (by simp only [df_put]; exact hdf4068) (es rfl l7_4068) (et rfl) (es rfl l55_4068) (es rfl l61_4068) ((es rfl l2_4068).trans l2_42.symm) ((es rfl l3_4068).trans l3_42.symm) ((es rfl l6_4068).trans l6_42.symm) (by subst hc4069 hce0_4068 hc3_4068 hc2_4068; exact hS4069))
            have hZ4046_28 : ∀ (g2948q : Nat) (A' : Act) (w' : World), SzN A' 114 → A'.defers = [] → EV A' (.tmp 8) = .pointer (some ⟨g2948q, 0, none⟩) → EV A' (.tmp 55) = .pointer (some ⟨B46, O46 + k * 2, none⟩) → EV A' (.tmp 61) = .agg #[y49.1.1, y49.2.1] → EV A' (.tmp 2) = EV A42 (.tmp 2) → EV A' (.tmp 3) = EV A42 (.tmp 3) → EV A' (.tmp 6) = EV A42 (.tmp 6) → St w NoX [bx g2948q 40 #[.slice none 0 0, .slice none 0 0], bx g3 25 #[ov2, rv2], bx g2 25 #[ov, rv]] w' → Z 4 #[true, true, true, true, false, true, true, true, true, true, false, true, false, false] A' w' := by
              intro g2948q A4070 w4070 hsz4070 hdf4070 l8_4070 l55_4070 l61_4070 u2_4070 u3_4070 u6_4070 hS4070
              have l2_4070 := u2_4070.trans l2_42
              have l3_4070 := u3_4070.trans l3_42
              have l6_4070 := u6_4070.trans l6_42
              obtain ⟨ce0_4070, c3_4070, c2_4070, hce0_4070, hc3_4070, hc2_4070, hS4070⟩ := gen3 hS4070
              refine Zto hZ ?_
              refine AX_2 (i := 4) (j := 10) (by kernel_rfl) rfl rfl ?_ ?_
              · skip
                refine W_r rfl rfl (VR_ldR (ys := obC y46) rfl l55_4070 (SlN.row obC_len (sl_SlN (hS4070.ro h_ov)) hv46 hy46 rfl) Try.underlying40 rfl (by kernel_rfl)) ?_
                refine W_end ?_
                refine kq _ ?_
                refine AX_cast (l2 := #[true, true, true, true, true, true, true, true, true, true, false, true, false, false]) ?_ (by kernel_rfl)
                exact Zof hZ (hZ4046_32 g2948q _ _ inferInstance (by simp only [df_put]; exact hdf4070) (es rfl l8_4070) (et rfl) (es rfl l61_4070) ((es rfl l2_4070).trans l2_42.symm) ((es rfl l3_4070).trans l3_42.symm) ((es rfl l6_4070).trans l6_42.symm) (by subst hce0_4070 hc3_4070 hc2_4070; exact hS4070))
              · skip
                refine W_allocS (z := .agg #[.slice none 0 0, .slice none 0 0]) (zs := #[.slice none 0 0, .slice none 0 0]) hS4070 rfl rfl rfl (by kernel_rfl) (by rfl) (fun g4071 w4071 c4071 hc4071 hS4071 => ?_)
                replace hS4071 : St w NoX [c4071, ce0_4070, c3_4070, c2_4070] w4071 := hS4071
                refine W_end ?_
                refine kq _ ?_
                refine AX_cast (l2 := #[true, true, true, true, false, true, true, true, true, true, true, true, false, false]) ?_ (by kernel_rfl)
                have hS4072 : St w NoX [ce0_4070, c4071, c3_4070, c2_4070] w4071 := hS4071.sel [1, 0, 2, 3] (by decide) rfl
                exact Zof hZ (hZ4046_35 g4071 g2948q _ _ inferInstance (by simp only [df_put]; exact hdf4070) (et rfl) (es rfl l8_4070) (es rfl l55_4070) (es rfl l61_4070) ((es rfl l2_4070).trans l2_42.symm) ((es rfl l3_4070).trans l3_42.symm) ((es rfl l6_4070).trans l6_42.symm) (by subst hce0_4070 hc4071 hc3_4070 hc2_4070; exact hS4072))
            have hZ4046_29 : ∀ (g3048q : Nat) (g3049q : Nat) (A' : Act) (w' : World), SzN A' 114 → A'.defers = [] → EV A' (.tmp 7) = .pointer (some ⟨g3048q, 0, none⟩) → EV A' (.tmp 8) = .pointer (some ⟨g3049q, 0, none⟩) → EV A' (.tmp 55) = .pointer (some ⟨B46, O46 + k * 2, none⟩) → EV A' (.tmp 60) = .pointer (some ⟨B49, O49 + k * 2, none⟩) → EV A' (.tmp 2) = EV A42 (.tmp 2) → EV A' (.tmp 3) = EV A42 (.tmp 3) → EV A' (.tmp 6) = EV A42 (.tmp 6) → St w NoX [bx g3049q 40 #[.slice none 0 0, .slice none 0 0], bx g3048q 40 #[.slice none 0 0, .slice none 0 0], bx g3 25 #[ov2, rv2], bx g2 25 #[ov, rv]] w' → Z 4 #[true, true, true, true, false, true, true, true, true, false, true, true, false, false] A' w' := by
              intro g3048q g3049q A4073 w4073 hsz4073 hdf4073 l7_4073 l8_4073 l55_4073 l60_4073 u2_4073 u3_4073 u6_4073 hS4073
              have l2_4073 := u2_4073.trans l2_42
              have l3_4073 := u3_4073.trans l3_42
              have l6_4073 := u6_4073.trans l6_42
              obtain ⟨ce0_4073, ce1_4073, c3_4073, c2_4073, hce0_4073, hce1_4073, hc3_4073, hc2_4073, hS4073⟩ := gen4 hS4073
              refine Zto hZ ?_
              refine AX_2 (i := 4) (j := 9) (by kernel_rfl) rfl rfl ?_ ?_
              · skip
                refine W_r rfl rfl (VR_ldR (ys := obC y46) rfl l55_4073 (SlN.row obC_len (sl_SlN (hS4073.ro h_ov)) hv46 hy46 rfl) Try.underlying40 rfl (by kernel_rfl)) ?_
                refine W_end ?_
                refine kq _ ?_
                refine AX_cast (l2 := #[true, true, true, true, true, true, true, true, true, false, true, true, false, false]) ?_ (by kernel_rfl)
                exact Zof hZ (hZ4046_33 g3048q g3049q _ _ inferInstance (by simp only [df_put]; exact hdf4073) (es rfl l7_4073) (es rfl l8_4073) (et rfl) (es rfl l60_4073) ((es rfl l2_4073).trans l2_42.symm) ((es rfl l3_4073).trans l3_42.symm) ((es rfl l6_4073).trans l6_42.symm) (by subst hce0_4073 hce1_4073 hc3_4073 hc2_4073; exact hS4073))
              · skip
                refine W_r rfl rfl (VR_ldR (ys := obC y49) rfl l60_4073 (SlN.row obC_len (sl_SlN (hS4073.ro h_ov2)) hv49 hy49 rfl) Try.underlying40 rfl (by kernel_rfl)) ?_
                refine W_end ?_
                refine kq _ ?_
                refine AX_cast (l2 := #[true, true, true, true, false, true, true, true, true, true, true, true, false, false]) ?_ (by kernel_rfl)
                exact Zof hZ (hZ4046_35 g3048q g3049q _ _ inferInstance (by simp only [df_put]; exact hdf4073) (es rfl l7_4073) (es rfl l8_4073) (es rfl l55_4073) (et rfl) ((es rfl l2_4073).trans l2_42.symm) ((es rfl l3_4073).trans l3_42.symm) ((es rfl l6_4073).trans l6_42.symm) (by subst hce0_4073 hce1_4073 hc3_4073 hc2_4073; exact hS4073))
            have hZ4046_34 : ∀ (g3547q : Nat) (g3548q : Nat) (A' : Act) (w' : World), SzN A' 114 → A'.defers = [] → EV A' (.tmp 7) = .pointer (some ⟨g3547q, 0, none⟩) → EV A' (.tmp 8) = .pointer (some ⟨g3548q, 0, none⟩) → EV A' (.tmp 57) = .pointer (some ⟨g3, 0, none⟩) → EV A' (.tmp 59) = .int .i64 ((k : Int)) → EV A' (.tmp 2) = EV A42 (.tmp 2) → EV A' (.tmp 3) = EV A42 (.tmp 3) → EV A' (.tmp 6) = EV A42 (.tmp 6) → St w NoX [bx g3548q 40 #[.slice none 0 0, .slice none 0 0], bx g3547q 40 #[y46.1.1, y46.2.1], bx g3 25 #[ov2, rv2], bx g2 25 #[ov, rv]] w' → Z 4 #[true, true, true, true, true, true, false, true, false, false, true, true, true, false] A' w' := by
              intro g3547q g3548q A4074 w4074 hsz4074 hdf4074 l7_4074 l8_4074 l57_4074 l59_4074 u2_4074 u3_4074 u6_4074 hS4074
              have l2_4074 := u2_4074.trans l2_42
              have l3_4074 := u3_4074.trans l3_42
              have l6_4074 := u6_4074.trans l6_42
              obtain ⟨ce0_4074, ce1_4074, c3_4074, c2_4074, hce0_4074, hce1_4074, hc3_4074, hc2_4074, hS4074⟩ := gen4 hS4074
              refine Zto hZ ?_
              refine AX_1 (i := 6) (by kernel_rfl) rfl ?_
              refine W_r rfl rfl (VR_ldC rfl l57_4074 (cell_box (v := ov2) (hS4074.obj 2 rfl hc3_4074) rfl) Try.underlying22 rfl) ?_
              refine W_end ?_
              refine kq _ ?_
              refine AX_cast (l2 := #[true, true, true, true, true, true, true, true, false, false, true, true, true, false]) ?_ (by kernel_rfl)
              refine AX_first (i := 8) (by kernel_rfl) (by kernel_rfl) (by kernel_rfl) rfl rfl rfl (V_ixS (off := O49 + k * 2) 2 (k) rfl (et rfl) (es rfl l59_4074) hv49 (by omega) k49 Try.underlying22 (by kernel_rfl) rfl) ?_
              refine AX_cast (l2 := #[true, true, true, true, true, true, true, true, true, false, true, true, true, false]) ?_ (by kernel_rfl)
              exact Zof hZ (hZ4046_37 g3547q g3548q _ _ inferInstance (by simp only [df_put]; exact hdf4074) (es rfl (es rfl l7_4074)) (es rfl (es rfl l8_4074)) (et rfl) ((es rfl (es rfl l2_4074)).trans l2_42.symm) ((es rfl (es rfl l3_4074)).trans l3_42.symm) ((es rfl (es rfl l6_4074)).trans l6_42.symm) (by subst hce0_4074 hce1_4074 hc3_4074 hc2_4074; exact hS4074))
            have hZ4046_13 : ∀ (A' : Act) (w' : World), SzN A' 114 → A'.defers = [] → EV A' (.tmp 56) = .agg #[y46.1.1, y46.2.1] → EV A' (.tmp 60) = .pointer (some ⟨B49, O49 + k * 2, none⟩) → EV A' (.tmp 2) = EV A42 (.tmp 2) → EV A' (.tmp 3) = EV A42 (.tmp 3) → EV A' (.tmp 6) = EV A42 (.tmp 6) → St w NoX [bx g3 25 #[ov2, rv2], bx g2 25 #[ov, rv]] w' → Z 5 #[true, true, true, true, true, true, true, true, true, false, false, false, false, false] A' w' := by
              intro A4076 w4076 hsz4076 hdf4076 l56_4076 l60_4076 u2_4076 u3_4076 u6_4076 hS4076
              have l2_4076 := u2_4076.trans l2_42
              have l3_4076 := u3_4076.trans l3_42
              have l6_4076 := u6_4076.trans l6_42
              obtain ⟨c3_4076, c2_4076, hc3_4076, hc2_4076, hS4076⟩ := gen2 hS4076
              refine Zto hZ ?_
              refine AX_3 (i := 9) (j := 10) (m := 11) (by kernel_rfl) rfl rfl rfl ?_ ?_ ?_
              · skip
                refine W_r rfl rfl (VR_ldR (ys := obC y49) rfl l60_4076 (SlN.row obC_len (sl_SlN (hS4076.ro h_ov2)) hv49 hy49 rfl) Try.underlying40 rfl (by kernel_rfl)) ?_
                refine W_end ?_
                refine kq _ ?_
                refine AX_cast (l2 := #[true, true, true, true, true, true, true, true, true, true, false, false, false, false]) ?_ (by kernel_rfl)
                exact Zof hZ (hZ4046_23 _ _ inferInstance (by simp only [df_put]; exact hdf4076) (es rfl l56_4076) (et rfl) ((es rfl l2_4076).trans l2_42.symm) ((es rfl l3_4076).trans l3_42.symm) ((es rfl l6_4076).trans l6_42.symm) (by subst hc3_4076 hc2_4076; exact hS4076))
              · skip
                refine W_allocS (z := .agg #[.slice none 0 0, .slice none 0 0]) (zs := #[.slice none 0 0, .slice none 0 0]) hS4076 rfl rfl rfl (by kernel_rfl) (by rfl) (fun g4077 w4077 c4077 hc4077 hS4077 => ?_)
                replace hS4077 : St w NoX [c4077, c3_4076, c2_4076] w4077 := hS4077
                refine W_end ?_
                refine kq _ ?_
                refine AX_cast (l2 := #[true, true, true, true, true, true, true, true, true, false, true, false, false, false]) ?_ (by kernel_rfl)
                exact Zof hZ (hZ4046_24 g4077 _ _ inferInstance (by simp only [df_put]; exact hdf4076) (et rfl) (es rfl l56_4076) (es rfl l60_4076) ((es rfl l2_4076).trans l2_42.symm) ((es rfl l3_4076).trans l3_42.symm) ((es rfl l6_4076).trans l6_42.symm) (by subst hc4077 hc3_4076 hc2_4076; exact hS4077))
              · skip
                refine W_allocS (z := .agg #[.slice none 0 0, .slice none 0 0]) (zs := #[.slice none 0 0, .slice none 0 0]) hS4076 rfl rfl rfl (by kernel_rfl) (by rfl) (fun g4078 w4078 c4078 hc4078 hS4078 => ?_)
                replace hS4078 : St w NoX [c4078, c3_4076, c2_4076] w4078 := hS4078
                refine W_end ?_
                refine kq _ ?_
                refine AX_cast (l2 := #[true, true, true, true, true, true, true, true, true, false, false, true, false, false]) ?_ (by kernel_rfl)
                exact Zof hZ (hZ4046_25 g4078 _ _ inferInstance (by simp only [df_put]; exact hdf4076) (et rfl) (es rfl l56_4076) (es rfl l60_4076) ((es rfl l2_4076).trans l2_42.symm) ((es rfl l3_4076).trans l3_42.symm) ((es rfl l6_4076).trans l6_42.symm) (by subst hc4078 hc3_4076 hc2_4076; exact hS4078))
            have hZ4046_16 : ∀ (A' : Act) (w' : World), SzN A' 114 → A'.defers = [] → EV A' (.tmp 55) = .pointer (some ⟨B46, O46 + k * 2, none⟩) → EV A' (.tmp 61) = .agg #[y49.1.1, y49.2.1] → EV A' (.tmp 2) = EV A42 (.tmp 2) → EV A' (.tmp 3) = EV A42 (.tmp 3) → EV A' (.tmp 6) = EV A42 (.tmp 6) → St w NoX [bx g3 25 #[ov2, rv2], bx g2 25 #[ov, rv]] w' → Z 5 #[true, true, true, true, false, true, true, true, true, true, false, false, false, false] A' w' := by
              intro A4079 w4079 hsz4079 hdf4079 l55_4079 l61_4079 u2_4079 u3_4079 u6_4079 hS4079
              have l2_4079 := u2_4079.trans l2_42
              have l3_4079 := u3_4079.trans l3_42
              have l6_4079 := u6_4079.trans l6_42
              obtain ⟨c3_4079, c2_4079, hc3_4079, hc2_4079, hS4079⟩ := gen2 hS4079
              refine Zto hZ ?_
              refine AX_3 (i := 4) (j := 10) (m := 11) (by kernel_rfl) rfl rfl rfl ?_ ?_ ?_
              · skip
                refine W_r rfl rfl (VR_ldR (ys := obC y46) rfl l55_4079 (SlN.row obC_len (sl_SlN (hS4079.ro h_ov)) hv46 hy46 rfl) Try.underlying40 rfl (by kernel_rfl)) ?_
                refine W_end ?_
                refine kq _ ?_
                refine AX_cast (l2 := #[true, true, true, true, true, true, true, true, true, true, false, false, false, false]) ?_ (by kernel_rfl)
                exact Zof hZ (hZ4046_23 _ _ inferInstance (by simp only [df_put]; exact hdf4079) (et rfl) (es rfl l61_4079) ((es rfl l2_4079).trans l2_42.symm) ((es rfl l3_4079).trans l3_42.symm) ((es rfl l6_4079).trans l6_42.symm) (by subst hc3_4079 hc2_4079; exact hS4079))
              · skip
                refine W_allocS (z := .agg #[.slice none 0 0, .slice none 0 0]) (zs := #[.slice none 0 0, .slice none 0 0]) hS4079 rfl rfl rfl (by kernel_rfl) (by rfl) (fun g4080 w4080 c4080 hc4080 hS4080 => ?_)
                replace hS4080 : St w NoX [c4080, c3_4079, c2_4079] w4080 := hS4080
                refine W_end ?_
                refine kq _ ?_
                refine AX_cast (l2 := #[true, true, true, true, false, true, true, true, true, true, true, false, false, false]) ?_ (by kernel_rfl)
                exact Zof hZ (hZ4046_27 g4080 _ _ inferInstance (by simp only [df_put]; exact hdf4079) (et rfl) (es rfl l55_4079) (es rfl l61_4079) ((es rfl l2_4079).trans l2_42.symm) ((es rfl l3_4079).trans l3_42.symm) ((es rfl l6_4079).trans l6_42.symm) (by subst hc4080 hc3_4079 hc2_4079; exact hS4080))
              · skip
                refine W_allocS (z := .agg #[.slice none 0 0, .slice none 0 0]) (zs := #[.slice none 0 0, .slice none 0 0]) hS4079 rfl rfl rfl (by kernel_rfl) (by rfl) (fun g4081 w4081 c4081 hc4081 hS4081 => ?_)
                replace hS4081 : St w NoX [c4081, c3_4079, c2_4079] w4081 := hS4081
                refine W_end ?_
                refine kq _ ?_
                refine AX_cast (l2 := #[true, true, true, true, false, true, true, true, true, true, false, true, false, false]) ?_ (by kernel_rfl)
                exact Zof hZ (hZ4046_28 g4081 _ _ inferInstance (by simp only [df_put]; exact hdf4079) (et rfl) (es rfl l55_4079) (es rfl l61_4079) ((es rfl l2_4079).trans l2_42.symm) ((es rfl l3_4079).trans l3_42.symm) ((es rfl l6_4079).trans l6_42.symm) (by subst hc4081 hc3_4079 hc2_4079; exact hS4081))
            have hZ4046_17 : ∀ (g1848q : Nat) (A' : Act) (w' : World), SzN A' 114 → A'.defers = [] → EV A' (.tmp 7) = .pointer (some ⟨g1848q, 0, none⟩) → EV A' (.tmp 55) = .pointer (some ⟨B46, O46 + k * 2, none⟩) → EV A' (.tmp 60) = .pointer (some ⟨B49, O49 + k * 2, none⟩) → EV A' (.tmp 2) = EV A42 (.tmp 2) → EV A' (.tmp 3) = EV A42 (.tmp 3) → EV A' (.tmp 6) = EV A42 (.tmp 6) → St w NoX [bx g1848q 40 #[.slice none 0 0, .slice none 0 0], bx g3 25 #[ov2, rv2], bx g2 25 #[ov, rv]] w' → Z 5 #[true, true, true, true, false, true, true, true, true, false, true, false, false, false] A' w' := by
              intro g1848q A4082 w4082 hsz4082 hdf4082 l7_4082 l55_4082 l60_4082 u2_4082 u3_4082 u6_4082 hS4082
              have l2_4082 := u2_4082.trans l2_42
              have l3_4082 := u3_4082.trans l3_42
              have l6_4082 := u6_4082.trans l6_42
              obtain ⟨ce0_4082, c3_4082, c2_4082, hce0_4082, hc3_4082, hc2_4082, hS4082⟩ := gen3 hS4082
              refine Zto hZ ?_
              refine AX_3 (i := 4) (j := 9) (m := 11) (by kernel_rfl) rfl rfl rfl ?_ ?_ ?_
              · skip
                refine W_r rfl rfl (VR_ldR (ys := obC y46) rfl l55_4082 (SlN.row obC_len (sl_SlN (hS4082.ro h_ov)) hv46 hy46 rfl) Try.underlying40 rfl (by kernel_rfl)) ?_
                refine W_end ?_
                refine kq _ ?_
                refine AX_cast (l2 := #[true, true, true, true, true, true, true, true, true, false, true, false, false, false]) ?_ (by kernel_rfl)
                exact Zof hZ (hZ4046_24 g1848q _ _ inferInstance (by simp only [df_put]; exact hdf4082) (es rfl l7_4082) (et rfl) (es rfl l60_4082) ((es rfl l2_4082).trans l2_42.symm) ((es rfl l3_4082).trans l3_42.symm) ((es rfl l6_4082).trans l6_42.symm) (by subst hce0_4082 hc3_4082 hc2_4082; exact hS4082))
              · skip
                refine W_r rfl rfl (VR_ldR (ys := obC y49) rfl l60_4082 (SlN.row obC_len (sl_SlN (hS4082.ro h_ov2)) hv49 hy49 rfl) Try.underlying40 rfl (by kernel_rfl)) ?_
                refine W_end ?_
                refine kq _ ?_
                refine AX_cast (l2 := #[true, true, true, true, false, true, true, true, true, true, true, false, false, false]) ?_ (by kernel_rfl)
                exact Zof hZ (hZ4046_27 g1848q _ _ inferInstance (by simp only [df_put]; exact hdf4082) (es rfl l7_4082) (es rfl l55_4082) (et rfl) ((es rfl l2_4082).trans l2_42.symm) ((es rfl l3_4082).trans l3_42.symm) ((es rfl l6_4082).trans l6_42.symm) (by subst hce0_4082 hc3_4082 hc2_4082; exact hS4082))
              · skip
                refine W_allocS (z := .agg #[.slice none 0 0, .slice none 0 0]) (zs := #[.slice none 0 0, .slice none 0 0]) hS4082 rfl rfl rfl (by kernel_rfl) (by rfl) (fun g4083 w4083 c4083 hc4083 hS4083 => ?_)
                replace hS4083 : St w NoX [c4083, ce0_4082, c3_4082, c2_4082] w4083 := hS4083
                refine W_end ?_
                refine kq _ ?_
                refine AX_cast (l2 := #[true, true, true, true, false, true, true, true, true, false, true, true, false, false]) ?_ (by kernel_rfl)
                exact Zof hZ (hZ4046_29 g1848q g4083 _ _ inferInstance (by simp only [df_put]; exact hdf4082) (es rfl l7_4082) (et rfl) (es rfl l55_4082) (es rfl l60_4082) ((es rfl l2_4082).trans l2_42.symm) ((es rfl l3_4082).trans l3_42.symm) ((es rfl l6_4082).trans l6_42.symm) (by subst hc4083 hce0_4082 hc3_4082 hc2_4082; exact hS4083))
            have hZ4046_18 : ∀ (g1948q : Nat) (A' : Act) (w' : World), SzN A' 114 → A'.defers = [] → EV A' (.tmp 8) = .pointer (some ⟨g1948q, 0, none⟩) → EV A' (.tmp 55) = .pointer (some ⟨B46, O46 + k * 2, none⟩) → EV A' (.tmp 60) = .pointer (some ⟨B49, O49 + k * 2, none⟩) → EV A' (.tmp 2) = EV A42 (.tmp 2) → EV A' (.tmp 3) = EV A42 (.tmp 3) → EV A' (.tmp 6) = EV A42 (.tmp 6) → St w NoX [bx g1948q 40 #[.slice none 0 0, .slice none 0 0], bx g3 25 #[ov2, rv2], bx g2 25 #[ov, rv]] w' → Z 5 #[true, true, true, true, false, true, true, true, true, false, false, true, false, false] A' w' := by
              intro g1948q A4084 w4084 hsz4084 hdf4084 l8_4084 l55_4084 l60_4084 u2_4084 u3_4084 u6_4084 hS4084
              have l2_4084 := u2_4084.trans l2_42
              have l3_4084 := u3_4084.trans l3_42
              have l6_4084 := u6_4084.trans l6_42
              obtain ⟨ce0_4084, c3_4084, c2_4084, hce0_4084, hc3_4084, hc2_4084, hS4084⟩ := gen3 hS4084
              refine Zto hZ ?_
              refine AX_3 (i := 4) (j := 9) (m := 10) (by kernel_rfl) rfl rfl rfl ?_ ?_ ?_
              · skip
                refine W_r rfl rfl (VR_ldR (ys := obC y46) rfl l55_4084 (SlN.row obC_len (sl_SlN (hS4084.ro h_ov)) hv46 hy46 rfl) Try.underlying40 rfl (by kernel_rfl)) ?_
                refine W_end ?_
                refine kq _ ?_
                refine AX_cast (l2 := #[true, true, true, true, true, true, true, true, true, false, false, true, false, false]) ?_ (by kernel_rfl)
                exact Zof hZ (hZ4046_25 g1948q _ _ inferInstance (by simp only [df_put]; exact hdf4084) (es rfl l8_4084) (et rfl) (es rfl l60_4084) ((es rfl l2_4084).trans l2_42.symm) ((es rfl l3_4084).trans l3_42.symm) ((es rfl l6_4084).trans l6_42.symm) (by subst hce0_4084 hc3_4084 hc2_4084; exact hS4084))
              · skip
                refine W_r rfl rfl (VR_ldR (ys := obC y49) rfl l60_4084 (SlN.row obC_len (sl_SlN (hS4084.ro h_ov2)) hv49 hy49 rfl) Try.underlying40 rfl (by kernel_rfl)) ?_
                refine W_end ?_
                refine kq _ ?_
                refine AX_cast (l2 := #[true, true, true, true, false, true, true, true, true, true, false, true, false, false]) ?_ (by kernel_rfl)
                exact Zof hZ (hZ4046_28 g1948q _ _ inferInstance (by simp only [df_put]; exact hdf4084) (es rfl l8_4084) (es rfl l55_4084) (et rfl) ((es rfl l2_4084).trans l2_42.symm) ((es rfl l3_4084).trans l3_42.symm) ((es rfl l6_4084).trans l6_42.symm) (by subst hce0_4084 hc3_4084 hc2_4084; exact hS4084))
              · skip
                refine W_allocS (z := .agg #[.slice none 0 0, .slice none 0 0]) (zs := #[.slice none 0 0, .slice none 0 0]) hS4084 rfl rfl rfl (by kernel_rfl) (by rfl) (fun g4085 w4085 c4085 hc4085 hS4085 => ?_)
                replace hS4085 : St w NoX [c4085, ce0_4084, c3_4084, c2_4084] w4085 := hS4085
                refine W_end ?_
                refine kq _ ?_
                refine AX_cast (l2 := #[true, true, true, true, false, true, true, true, true, false, true, true, false, false]) ?_ (by kernel_rfl)
                have hS4086 : St w NoX [ce0_4084, c4085, c3_4084, c2_4084] w4085 := hS4085.sel [1, 0, 2, 3] (by decide) rfl
                exact Zof hZ (hZ4046_29 g4085 g1948q _ _ inferInstance (by simp only [df_put]; exact hdf4084) (et rfl) (es rfl l8_4084) (es rfl l55_4084) (es rfl l60_4084) ((es rfl l2_4084).trans l2_42.symm) ((es rfl l3_4084).trans l3_42.symm) ((es rfl l6_4084).trans l6_42.symm) (by subst hce0_4084 hc4085 hc3_4084 hc2_4084; exact hS4086))
            have hZ4046_26 : ∀ (g2747q : Nat) (g2748q : Nat) (A' : Act) (w' : World), SzN A' 114 → A'.defers = [] → EV A' (.tmp 7) = .pointer (some ⟨g2747q, 0, none⟩) → EV A' (.tmp 8) = .pointer (some ⟨g2748q, 0, none⟩) → EV A' (.tmp 56) = .agg #[y46.1.1, y46.2.1] → EV A' (.tmp 57) = .pointer (some ⟨g3, 0, none⟩) → EV A' (.tmp 59) = .int .i64 ((k : Int)) → EV A' (.tmp 2) = EV A42 (.tmp 2) → EV A' (.tmp 3) = EV A42 (.tmp 3) → EV A' (.tmp 6) = EV A42 (.tmp 6) → St w NoX [bx g2748q 40 #[.slice none 0 0, .slice none 0 0], bx g2747q 40 #[.slice none 0 0, .slice none 0 0], bx g3 25 #[ov2, rv2], bx g2 25 #[ov, rv]] w' → Z 5 #[true, true, true, true, true, true, false, true, false, false, true, true, false, false] A' w' := by
              intro g2747q g2748q A4087 w4087 hsz4087 hdf4087 l7_4087 l8_4087 l56_4087 l57_4087 l59_4087 u2_4087 u3_4087 u6_4087 hS4087
              have l2_4087 := u2_4087.trans l2_42
              have l3_4087 := u3_4087.trans l3_42
              have l6_4087 := u6_4087.trans l6_42
              obtain ⟨ce0_4087, ce1_4087, c3_4087, c2_4087, hce0_4087, hce1_4087, hc3_4087, hc2_4087, hS4087⟩ := gen4 hS4087
              refine Zto hZ ?_
              refine AX_2 (i := 6) (j := 12) (by kernel_rfl) rfl rfl ?_ ?_
              · skip
                refine W_r rfl rfl (VR_ldC rfl l57_4087 (cell_box (v := ov2) (hS4087.obj 2 rfl hc3_4087) rfl) Try.underlying22 rfl) ?_
                refine W_end ?_
                refine kq _ ?_
                refine AX_cast (l2 := #[true, true, true, true, true, true, true, true, false, false, true, true, false, false]) ?_ (by kernel_rfl)
                refine AX_first (i := 8) (by kernel_rfl) (by kernel_rfl) (by kernel_rfl) rfl rfl rfl (V_ixS (off := O49 + k * 2) 2 (k) rfl (et rfl) (es rfl l59_4087) hv49 (by omega) k49 Try.underlying22 (by kernel_rfl) rfl) ?_
                refine AX_cast (l2 := #[true, true, true, true, true, true, true, true, true, false, true, true, false, false]) ?_ (by kernel_rfl)
                exact Zof hZ (hZ4046_33 g2747q g2748q _ _ inferInstance (by simp only [df_put]; exact hdf4087) (es rfl (es rfl l7_4087)) (es rfl (es rfl l8_4087)) (es rfl (es rfl l56_4087)) (et rfl) ((es rfl (es rfl l2_4087)).trans l2_42.symm) ((es rfl (es rfl l3_4087)).trans l3_42.symm) ((es rfl (es rfl l6_4087)).trans l6_42.symm) (by subst hce0_4087 hce1_4087 hc3_4087 hc2_4087; exact hS4087))
              · skip
                refine W_stAS 1 hS4087 rfl hce1_4087 rfl rfl rfl l7_4087 l56_4087 (by simp only [List.all_toArray, List.all_cons, List.all_nil, obC, SlN_one (sl_SlN fn47.at), SlN_one (sl_SlN fn48.at)] <;> rfl) (by rfl) (by kernel_rfl) (fun w4089 c4089 hc4089 hS4089 => ?_)
                replace hS4089 : St w NoX [ce0_4087, c4089, c3_4087, c2_4087] w4089 := hS4089
                refine W_end ?_
                refine kq _ ?_
                refine AX_cast (l2 := #[true, true, true, true, true, true, false, true, false, false, true, true, true, false]) ?_ (by kernel_rfl)
                exact Zof hZ (hZ4046_34 g2747q g2748q _ _ inferInstance hdf4087 l7_4087 l8_4087 l57_4087 l59_4087 (l2_4087.trans l2_42.symm) (l3_4087.trans l3_42.symm) (l6_4087.trans l6_42.symm) (by subst hce0_4087 hc4089 hc3_4087 hc2_4087; exact hS4089))
            have hZ4046_30 : ∀ (g3147q : Nat) (g3148q : Nat) (A' : Act) (w' : World), SzN A' 114 → A'.defers = [] → EV A' (.tmp 7) = .pointer (some ⟨g3147q, 0, none⟩) → EV A' (.tmp 8) = .pointer (some ⟨g3148q, 0, none⟩) → EV A' (.tmp 52) = .pointer (some ⟨g2, 0, none⟩) → EV A' (.tmp 54) = .int .i64 ((k : Int)) → EV A' (.tmp 61) = .agg #[y49.1.1, y49.2.1] → EV A' (.tmp 2) = EV A42 (.tmp 2) → EV A' (.tmp 3) = EV A42 (.tmp 3) → EV A' (.tmp 6) = EV A42 (.tmp 6) → St w NoX [bx g3148q 40 #[.slice none 0 0, .slice none 0 0], bx g3147q 40 #[.slice none 0 0, .slice none 0 0], bx g3 25 #[ov2, rv2], bx g2 25 #[ov, rv]] w' → Z 5 #[true, false, true, false, false, true, true, true, true, true, true, true, false, false] A' w' := by
              intro g3147q g3148q A4090 w4090 hsz4090 hdf4090 l7_4090 l8_4090 l52_4090 l54_4090 l61_4090 u2_4090 u3_4090 u6_4090 hS4090
              have l2_4090 := u2_4090.trans l2_42
              have l3_4090 := u3_4090.trans l3_42
              have l6_4090 := u6_4090.trans l6_42
              obtain ⟨ce0_4090, ce1_4090, c3_4090, c2_4090, hce0_4090, hce1_4090, hc3_4090, hc2_4090, hS4090⟩ := gen4 hS4090
              refine Zto hZ ?_
              refine AX_1 (i := 1) (by kernel_rfl) rfl ?_
              refine W_r rfl rfl (VR_ldC rfl l52_4090 (cell_box (v := ov) (hS4090.obj 3 rfl hc2_4090) rfl) Try.underlying22 rfl) ?_
              refine W_end ?_
              refine kq _ ?_
              refine AX_cast (l2 := #[true, true, true, false, false, true, true, true, true, true, true, true, false, false]) ?_ (by kernel_rfl)
              refine AX_first (i := 3) (by kernel_rfl) (by kernel_rfl) (by kernel_rfl) rfl rfl rfl (V_ixS (off := O46 + k * 2) 2 (k) rfl (et rfl) (es rfl l54_4090) hv46 (by omega) k46 Try.underlying22 (by kernel_rfl) rfl) ?_
              refine AX_cast (l2 := #[true, true, true, true, false, true, true, true, true, true, true, true, false, false]) ?_ (by kernel_rfl)
              exact Zof hZ (hZ4046_35 g3147q g3148q _ _ inferInstance (by simp only [df_put]; exact hdf4090) (es rfl (es rfl l7_4090)) (es rfl (es rfl l8_4090)) (et rfl) (es rfl (es rfl l61_4090)) ((es rfl (es rfl l2_4090)).trans l2_42.symm) ((es rfl (es rfl l3_4090)).trans l3_42.symm) ((es rfl (es rfl l6_4090)).trans l6_42.symm) (by subst hce0_4090 hce1_4090 hc3_4090 hc2_4090; exact hS4090))
            have hZ4046_6 : ∀ (A' : Act) (w' : World), SzN A' 114 → A'.defers = [] → EV A' (.tmp 55) = .pointer (some ⟨B46, O46 + k * 2, none⟩) → EV A' (.tmp 60) = .pointer (some ⟨B49, O49 + k * 2, none⟩) → EV A' (.tmp 2) = EV A42 (.tmp 2) → EV A' (.tmp 3) = EV A42 (.tmp 3) → EV A' (.tmp 6) = EV A42 (.tmp 6) → St w NoX [bx g3 25 #[ov2, rv2], bx g2 25 #[ov, rv]] w' → Z 6 #[true, true, true, true, false, true, true, true, true, false, false, false, false, false] A' w' := by
              intro A4092 w4092 hsz4092 hdf4092 l55_4092 l60_4092 u2_4092 u3_4092 u6_4092 hS4092
              have l2_4092 := u2_4092.trans l2_42
              have l3_4092 := u3_4092.trans l3_42
              have l6_4092 := u6_4092.trans l6_42
              obtain ⟨c3_4092, c2_4092, hc3_4092, hc2_4092, hS4092⟩ := gen2 hS4092
              refine Zto hZ ?_
              refine AX_4 (i := 4) (j := 9) (m := 10) (q := 11) (by kernel_rfl) rfl rfl rfl rfl ?_ ?_ ?_ ?_
              · skip
                refine W_r rfl rfl (VR_ldR (ys := obC y46) rfl l55_4092 (SlN.row obC_len (sl_SlN (hS4092.ro h_ov)) hv46 hy46 rfl) Try.underlying40 rfl (by kernel_rfl)) ?_
                refine W_end ?_
                refine kq _ ?_
                refine AX_cast (l2 := #[true, true, true, true, true, true, true, true, true, false, false, false, false, false]) ?_ (by kernel_rfl)
                exact Zof hZ (hZ4046_13 _ _ inferInstance (by simp only [df_put]; exact hdf4092) (et rfl) (es rfl l60_4092) ((es rfl l2_4092).trans l2_42.symm) ((es rfl l3_4092).trans l3_42.symm) ((es rfl l6_4092).trans l6_42.symm) (by subst hc3_4092 hc2_4092; exact hS4092))
              · skip
                refine W_r rfl rfl (VR_ldR (ys := obC y49) rfl l60_4092 (SlN.row obC_len (sl_SlN (hS4092.ro h_ov2)) hv49 hy49 rfl) Try.underlying40 rfl (by kernel_rfl)) ?_
                refine W_end ?_
                refine kq _ ?_
                refine AX_cast (l2 := #[true, true, true, true, false, true, true, true, true, true, false, false, false, false]) ?_ (by kernel_rfl)
                exact Zof hZ (hZ4046_16 _ _ inferInstance (by simp only [df_put]; exact hdf4092) (es rfl l55_4092) (et rfl) ((es rfl l2_4092).trans l2_42.symm) ((es rfl l3_4092).trans l3_42.symm) ((es rfl l6_4092).trans l6_42.symm) (by subst hc3_4092 hc2_4092; exact hS4092))
              · skip
                refine W_allocS (z := .agg #[.slice none 0 0, .slice none 0 0]) (zs := #[.slice none 0 0, .slice none 0 0]) hS4092 rfl rfl rfl (by kernel_rfl) (by rfl) (fun g4093 w4093 c4093 hc4093 hS4093 => ?_)
                replace hS4093 : St w NoX [c4093, c3_4092, c2_4092] w4093 := hS4093
                refine W_end ?_
                refine kq _ ?_
                refine AX_cast (l2 := #[true, true, true, true, false, true, true, true, true, false, true, false, false, false]) ?_ (by kernel_rfl)
                exact Zof hZ (hZ4046_17 g4093 _ _ inferInstance (by simp only [df_put]; exact hdf4092) (et rfl) (es rfl l55_4092) (es rfl l60_4092) ((es rfl l2_4092).trans l2_42.symm) ((es rfl l3_4092).trans l3_42.symm) ((es rfl l6_4092).trans l6_42.symm) (by subst hc4093 hc3_4092 hc2_4092; exact hS4093))
              · skip
                refine W_allocS (z := .agg #[.slice none 0 0, .slice none 0 0]) (zs := #[.slice none 0 0, .slice none 0 0]) hS4092 rfl rfl rfl (by kernel_rfl) (by rfl) (fun g4094 w4094 c4094 hc4094 hS4094 => ?_)
                replace hS4094 : St w NoX [c4094, c3_4092, c2_4092] w4094 := hS4094
                refine W_end ?_
                refine kq _ ?_
                refine AX_cast (l2 := #[true, true, true, true, false, true, true, true, true, false, false, true, false, false]) ?_ (by kernel_rfl)
                exact Zof hZ (hZ4046_18 g4094 _ _ inferInstance (by simp only [df_put]; exact hdf4092) (et rfl) (es rfl l55_4092) (es rfl l60_4092) ((es rfl l2_4092).trans l2_42.symm) ((es rfl l3_4092).trans l3_42.symm) ((es rfl l6_4092).trans l6_42.symm) (by subst hc4094 hc3_4092 hc2_4092; exact hS4094))
            have hZ4046_14 : ∀ (g1547q : Nat) (A' : Act) (w' : World), SzN A' 114 → A'.defers = [] → EV A' (.tmp 7) = .pointer (some ⟨g1547q, 0, none⟩) → EV A' (.tmp 56) = .agg #[y46.1.1, y46.2.1] → EV A' (.tmp 57) = .pointer (some ⟨g3, 0, none⟩) → EV A' (.tmp 59) = .int .i64 ((k : Int)) → EV A' (.tmp 2) = EV A42 (.tmp 2) → EV A' (.tmp 3) = EV A42 (.tmp 3) → EV A' (.tmp 6) = EV A42 (.tmp 6) → St w NoX [bx g1547q 40 #[.slice none 0 0, .slice none 0 0], bx g3 25 #[ov2, rv2], bx g2 25 #[ov, rv]] w' → Z 6 #[true, true, true, true, true, true, false, true, false, false, true, false, false, false] A' w' := by
              intro g1547q A4095 w4095 hsz4095 hdf4095 l7_4095 l56_4095 l57_4095 l59_4095 u2_4095 u3_4095 u6_4095 hS4095
              have l2_4095 := u2_4095.trans l2_42
              have l3_4095 := u3_4095.trans l3_42
              have l6_4095 := u6_4095.trans l6_42
              obtain ⟨ce0_4095, c3_4095, c2_4095, hce0_4095, hc3_4095, hc2_4095, hS4095⟩ := gen3 hS4095
              refine Zto hZ ?_
              refine AX_2 (i := 6) (j := 11) (by kernel_rfl) rfl rfl ?_ ?_
              · skip
                refine W_r rfl rfl (VR_ldC rfl l57_4095 (cell_box (v := ov2) (hS4095.obj 1 rfl hc3_4095) rfl) Try.underlying22 rfl) ?_
                refine W_end ?_
                refine kq _ ?_
                refine AX_cast (l2 := #[true, true, true, true, true, true, true, true, false, false, true, false, false, false]) ?_ (by kernel_rfl)
                refine AX_first (i := 8) (by kernel_rfl) (by kernel_rfl) (by kernel_rfl) rfl rfl rfl (V_ixS (off := O49 + k * 2) 2 (k) rfl (et rfl) (es rfl l59_4095) hv49 (by omega) k49 Try.underlying22 (by kernel_rfl) rfl) ?_
                refine AX_cast (l2 := #[true, true, true, true, true, true, true, true, true, false, true, false, false, false]) ?_ (by kernel_rfl)
                exact Zof hZ (hZ4046_24 g1547q _ _ inferInstance (by simp only [df_put]; exact hdf4095) (es rfl (es rfl l7_4095)) (es rfl (es rfl l56_4095)) (et rfl) ((es rfl (es rfl l2_4095)).trans l2_42.symm) ((es rfl (es rfl l3_4095)).trans l3_42.symm) ((es rfl (es rfl l6_4095)).trans l6_42.symm) (by subst hce0_4095 hc3_4095 hc2_4095; exact hS4095))
              · skip
                refine W_allocS (z := .agg #[.slice none 0 0, .slice none 0 0]) (zs := #[.slice none 0 0, .slice none 0 0]) hS4095 rfl rfl rfl (by kernel_rfl) (by rfl) (fun g4097 w4097 c4097 hc4097 hS4097 => ?_)
                replace hS4097 : St w NoX [c4097, ce0_4095, c3_4095, c2_4095] w4097 := hS4097
                refine W_end ?_
                refine kq _ ?_
                refine AX_cast (l2 := #[true, true, true, true, true, true, false, true, false, false, true, true, false, false]) ?_ (by kernel_rfl)
                exact Zof hZ (hZ4046_26 g1547q g4097 _ _ inferInstance (by simp only [df_put]; exact hdf4095) (es rfl l7_4095) (et rfl) (es rfl l56_4095) (es rfl l57_4095) (es rfl l59_4095) ((es rfl l2_4095).trans l2_42.symm) ((es rfl l3_4095).trans l3_42.symm) ((es rfl l6_4095).trans l6_42.symm) (by subst hc4097 hce0_4095 hc3_4095 hc2_4095; exact hS4097))
            have hZ4046_15 : ∀ (g1647q : Nat) (A' : Act) (w' : World), SzN A' 114 → A'.defers = [] → EV A' (.tmp 8) = .pointer (some ⟨g1647q, 0, none⟩) → EV A' (.tmp 56) = .agg #[y46.1.1, y46.2.1] → EV A' (.tmp 57) = .pointer (some ⟨g3, 0, none⟩) → EV A' (.tmp 59) = .int .i64 ((k : Int)) → EV A' (.tmp 2) = EV A42 (.tmp 2) → EV A' (.tmp 3) = EV A42 (.tmp 3) → EV A' (.tmp 6) = EV A42 (.tmp 6) → St w NoX [bx g1647q 40 #[.slice none 0 0, .slice none 0 0], bx g3 25 #[ov2, rv2], bx g2 25 #[ov, rv]] w' → Z 6 #[true, true, true, true, true, true, false, true, false, false, false, true, false, false] A' w' := by
              intro g1647q A4098 w4098 hsz4098 hdf4098 l8_4098 l56_4098 l57_4098 l59_4098 u2_4098 u3_4098 u6_4098 hS4098
              have l2_4098 := u2_4098.trans l2_42
              have l3_4098 := u3_4098.trans l3_42
              have l6_4098 := u6_4098.trans l6_42
              obtain ⟨ce0_4098, c3_4098, c2_4098, hce0_4098, hc3_4098, hc2_4098, hS4098⟩ := gen3 hS4098
              refine Zto hZ ?_
              refine AX_2 (i := 6) (j := 10) (by kernel_rfl) rfl rfl ?_ ?_
              · skip
                refine W_r rfl rfl (VR_ldC rfl l57_4098 (cell_box (v := ov2) (hS4098.obj 1 rfl hc3_4098) rfl) Try.underlying22 rfl) ?_
                refine W_end ?_
                refine kq _ ?_
                refine AX_cast (l2 := #[true, true, true, true, true, true, true, true, false, false, false, true, false, false]) ?_ (by kernel_rfl)
                refine AX_first (i := 8) (by kernel_rfl) (by kernel_rfl) (by kernel_rfl) rfl rfl rfl (V_ixS (off := O49 + k * 2) 2 (k) rfl (et rfl) (es rfl l59_4098) hv49 (by omega) k49 Try.underlying22 (by kernel_rfl) rfl) ?_
                refine AX_cast (l2 := #[true, true, true, true, true, true, true, true, true, false, false, true, false, false]) ?_ (by kernel_rfl)
                exact Zof hZ (hZ4046_25 g1647q _ _ inferInstance (by simp only [df_put]; exact hdf4098) (es rfl (es rfl l8_4098)) (es rfl (es rfl l56_4098)) (et rfl) ((es rfl (es rfl l2_4098)).trans l2_42.symm) ((es rfl (es rfl l3_4098)).trans l3_42.symm) ((es rfl (es rfl l6_4098)).trans l6_42.symm) (by subst hce0_4098 hc3_4098 hc2_4098; exact hS4098))
              · skip
                refine W_allocS (z := .agg #[.slice none 0 0, .slice none 0 0]) (zs := #[.slice none 0 0, .slice none 0 0]) hS4098 rfl rfl rfl (by kernel_rfl) (by rfl) (fun g4100 w4100 c4100 hc4100 hS4100 => ?_)
                replace hS4100 : St w NoX [c4100, ce0_4098, c3_4098, c2_4098] w4100 := hS4100
                refine W_end ?_
                refine kq _ ?_
                refine AX_cast (l2 := #[true, true, true, true, true, true, false, true, false, false, true, true, false, false]) ?_ (by kernel_rfl)
                have hS4101 : St w NoX [ce0_4098, c4100, c3_4098, c2_4098] w4100 := hS4100.sel [1, 0, 2, 3] (by decide) rfl
                exact Zof hZ (hZ4046_26 g4100 g1647q _ _ inferInstance (by simp only [df_put]; exact hdf4098) (et rfl) (es rfl l8_4098) (es rfl l56_4098) (es rfl l57_4098) (es rfl l59_4098) ((es rfl l2_4098).trans l2_42.symm) ((es rfl l3_4098).trans l3_42.symm) ((es rfl l6_4098).trans l6_42.symm) (by subst hce0_4098 hc4100 hc3_4098 hc2_4098; exact hS4101))
            have hZ4046_19 : ∀ (g2047q : Nat) (g2048q : Nat) (A' : Act) (w' : World), SzN A' 114 → A'.defers = [] → EV A' (.tmp 7) = .pointer (some ⟨g2047q, 0, none⟩) → EV A' (.tmp 8) = .pointer (some ⟨g2048q, 0, none⟩) → EV A' (.tmp 55) = .pointer (some ⟨B46, O46 + k * 2, none⟩) → EV A' (.tmp 57) = .pointer (some ⟨g3, 0, none⟩) → EV A' (.tmp 59) = .int .i64 ((k : Int)) → EV A' (.tmp 2) = EV A42 (.tmp 2) → EV A' (.tmp 3) = EV A42 (.tmp 3) → EV A' (.tmp 6) = EV A42 (.tmp 6) → St w NoX [bx g2048q 40 #[.slice none 0 0, .slice none 0 0], bx g2047q 40 #[.slice none 0 0, .slice none 0 0], bx g3 25 #[ov2, rv2], bx g2 25 #[ov, rv]] w' → Z 6 #[true, true, true, true, false, true, false, true, false, false, true, true, false, false] A' w' := by
              intro g2047q g2048q A4102 w4102 hsz4102 hdf4102 l7_4102 l8_4102 l55_4102 l57_4102 l59_4102 u2_4102 u3_4102 u6_4102 hS4102
              have l2_4102 := u2_4102.trans l2_42
              have l3_4102 := u3_4102.trans l3_42
              have l6_4102 := u6_4102.trans l6_42
              obtain ⟨ce0_4102, ce1_4102, c3_4102, c2_4102, hce0_4102, hce1_4102, hc3_4102, hc2_4102, hS4102⟩ := gen4 hS4102
              refine Zto hZ ?_
              refine AX_2 (i := 4) (j := 6) (by kernel_rfl) rfl rfl ?_ ?_
              · skip
                refine W_r rfl rfl (VR_ldR (ys := obC y46) rfl l55_4102 (SlN.row obC_len (sl_SlN (hS4102.ro h_ov)) hv46 hy46 rfl) Try.underlying40 rfl (by kernel_rfl)) ?_
                refine W_end ?_
                refine kq _ ?_
                refine AX_cast (l2 := #[true, true, true, true, true, true, false, true, false, false, true, true, false, false]) ?_ (by kernel_rfl)
                exact Zof hZ (hZ4046_26 g2047q g2048q _ _ inferInstance (by simp only [df_put]; exact hdf4102) (es rfl l7_4102) (es rfl l8_4102) (et rfl) (es rfl l57_4102) (es rfl l59_4102) ((es rfl l2_4102).trans l2_42.symm) ((es rfl l3_4102).trans l3_42.symm) ((es rfl l6_4102).trans l6_42.symm) (by subst hce0_4102 hce1_4102 hc3_4102 hc2_4102; exact hS4102))
              · skip
                refine W_r rfl rfl (VR_ldC rfl l57_4102 (cell_box (v := ov2) (hS4102.obj 2 rfl hc3_4102) rfl) Try.underlying22 rfl) ?_
                refine W_end ?_
                refine kq _ ?_
                refine AX_cast (l2 := #[true, true, true, true, false, true, true, true, false, false, true, true, false, false]) ?_ (by kernel_rfl)
                refine AX_first (i := 8) (by kernel_rfl) (by kernel_rfl) (by kernel_rfl) rfl rfl rfl (V_ixS (off := O49 + k * 2) 2 (k) rfl (et rfl) (es rfl l59_4102) hv49 (by omega) k49 Try.underlying22 (by kernel_rfl) rfl) ?_
                refine AX_cast (l2 := #[true, true, true, true, false, true, true, true, true, false, true, true, false, false]) ?_ (by kernel_rfl)
                exact Zof hZ (hZ4046_29 g2047q g2048q _ _ inferInstance (by simp only [df_put]; exact hdf4102) (es rfl (es rfl l7_4102)) (es rfl (es rfl l8_4102)) (es rfl (es rfl l55_4102)) (et rfl) ((es rfl (es rfl l2_4102)).trans l2_42.symm) ((es rfl (es rfl l3_4102)).trans l3_42.symm) ((es rfl (es rfl l6_4102)).trans l6_42.symm) (by subst hce0_4102 hce1_4102 hc3_4102 hc2_4102; exact hS4102))
            have hZ4046_20 : ∀ (g2147q : Nat) (A' : Act) (w' : World), SzN A' 114 → A'.defers = [] → EV A' (.tmp 7) = .pointer (some ⟨g2147q, 0, none⟩) → EV A' (.tmp 52) = .pointer (some ⟨g2, 0, none⟩) → EV A' (.tmp 54) = .int .i64 ((k : Int)) → EV A' (.tmp 61) = .agg #[y49.1.1, y49.2.1] → EV A' (.tmp 2) = EV A42 (.tmp 2) → EV A' (.tmp 3) = EV A42 (.tmp 3) → EV A' (.tmp 6) = EV A42 (.tmp 6) → St w NoX [bx g2147q 40 #[.slice none 0 0, .slice none 0 0], bx g3 25 #[ov2, rv2], bx g2 25 #[ov, rv]] w' → Z 6 #[true, false, true, false, false, true, true, true, true, true, true, false, false, false] A' w' := by
              intro g2147q A4104 w4104 hsz4104 hdf4104 l7_4104 l52_4104 l54_4104 l61_4104 u2_4104 u3_4104 u6_4104 hS4104
              have l2_4104 := u2_4104.trans l2_42
              have l3_4104 := u3_4104.trans l3_42
              have l6_4104 := u6_4104.trans l6_42
              obtain ⟨ce0_4104, c3_4104, c2_4104, hce0_4104, hc3_4104, hc2_4104, hS4104⟩ := gen3 hS4104
              refine Zto hZ ?_
              refine AX_2 (i := 1) (j := 11) (by kernel_rfl) rfl rfl ?_ ?_
              · skip
                refine W_r rfl rfl (VR_ldC rfl l52_4104 (cell_box (v := ov) (hS4104.obj 2 rfl hc2_4104) rfl) Try.underlying22 rfl) ?_
                refine W_end ?_
                refine kq _ ?_
                refine AX_cast (l2 := #[true, true, true, false, false, true, true, true, true, true, true, false, false, false]) ?_ (by kernel_rfl)
                refine AX_first (i := 3) (by kernel_rfl) (by kernel_rfl) (by kernel_rfl) rfl rfl rfl (V_ixS (off := O46 + k * 2) 2 (k) rfl (et rfl) (es rfl l54_4104) hv46 (by omega) k46 Try.underlying22 (by kernel_rfl) rfl) ?_
                refine AX_cast (l2 := #[true, true, true, true, false, true, true, true, true, true, true, false, false, false]) ?_ (by kernel_rfl)
                exact Zof hZ (hZ4046_27 g2147q _ _ inferInstance (by simp only [df_put]; exact hdf4104) (es rfl (es rfl l7_4104)) (et rfl) (es rfl (es rfl l61_4104)) ((es rfl (es rfl l2_4104)).trans l2_42.symm) ((es rfl (es rfl l3_4104)).trans l3_42.symm) ((es rfl (es rfl l6_4104)).trans l6_42.symm) (by subst hce0_4104 hc3_4104 hc2_4104; exact hS4104))
              · skip
                refine W_allocS (z := .agg #[.slice none 0 0, .slice none 0 0]) (zs := #[.slice none 0 0, .slice none 0 0]) hS4104 rfl rfl rfl (by kernel_rfl) (by rfl) (fun g4106 w4106 c4106 hc4106 hS4106 => ?_)
                replace hS4106 : St w NoX [c4106, ce0_4104, c3_4104, c2_4104] w4106 := hS4106
                refine W_end ?_
                refine kq _ ?_
                refine AX_cast (l2 := #[true, false, true, false, false, true, true, true, true, true, true, true, false, false]) ?_ (by kernel_rfl)
                exact Zof hZ (hZ4046_30 g2147q g4106 _ _ inferInstance (by simp only [df_put]; exact hdf4104) (es rfl l7_4104) (et rfl) (es rfl l52_4104) (es rfl l54_4104) (es rfl l61_4104) ((es rfl l2_4104).trans l2_42.symm) ((es rfl l3_4104).trans l3_42.symm) ((es rfl l6_4104).trans l6_42.symm) (by subst hc4106 hce0_4104 hc3_4104 hc2_4104; exact hS4106))
            have hZ4046_21 : ∀ (g2247q : Nat) (A' : Act) (w' : World), SzN A' 114 → A'.defers = [] → EV A' (.tmp 8) = .pointer (some ⟨g2247q, 0, none⟩) → EV A' (.tmp 52) = .pointer (some ⟨g2, 0, none⟩) → EV A' (.tmp 54) = .int .i64 ((k : Int)) → EV A' (.tmp 61) = .agg #[y49.1.1, y49.2.1] → EV A' (.tmp 2) = EV A42 (.tmp 2) → EV A' (.tmp 3) = EV A42 (.tmp 3) → EV A' (.tmp 6) = EV A42 (.tmp 6) → St w NoX [bx g2247q 40 #[.slice none 0 0, .slice none 0 0], bx g3 25 #[ov2, rv2], bx g2 25 #[ov, rv]] w' → Z 6 #[true, false, true, false, false, true, true, true, true, true, false, true, false, false] A' w' := by
              intro g2247q A4107 w4107 hsz4107 hdf4107 l8_4107 l52_4107 l54_4107 l61_4107 u2_4107 u3_4107 u6_4107 hS4107
              have l2_4107 := u2_4107.trans l2_42
              have l3_4107 := u3_4107.trans l3_42
              have l6_4107 := u6_4107.trans l6_42
              obtain ⟨ce0_4107, c3_4107, c2_4107, hce0_4107, hc3_4107, hc2_4107, hS4107⟩ := gen3 hS4107
              refine Zto hZ ?_
              refine AX_2 (i := 1) (j := 10) (by kernel_rfl) rfl rfl ?_ ?_
              · skip
                refine W_r rfl rfl (VR_ldC rfl l52_4107 (cell_box (v := ov) (hS4107.obj 2 rfl hc2_4107) rfl) Try.underlying22 rfl) ?_
                refine W_end ?_
                refine kq _ ?_
                refine AX_cast (l2 := #[true, true, true, false, false, true, true, true, true, true, false, true, false, false]) ?_ (by kernel_rfl)
                refine AX_first (i := 3) (by kernel_rfl) (by kernel_rfl) (by kernel_rfl) rfl rfl rfl (V_ixS (off := O46 + k * 2) 2 (k) rfl (et rfl) (es rfl l54_4107) hv46 (by omega) k46 Try.underlying22 (by kernel_rfl) rfl) ?_
                refine AX_cast (l2 := #[true, true, true, true, false, true, true, true, true, true, false, true, false, false]) ?_ (by kernel_rfl)
                exact Zof hZ (hZ4046_28 g2247q _ _ inferInstance (by simp only [df_put]; exact hdf4107) (es rfl (es rfl l8_4107)) (et rfl) (es rfl (es rfl l61_4107)) ((es rfl (es rfl l2_4107)).trans l2_42.symm) ((es rfl (es rfl l3_4107)).trans l3_42.symm) ((es rfl (es rfl l6_4107)).trans l6_42.symm) (by subst hce0_4107 hc3_4107 hc2_4107; exact hS4107))
              · skip
                refine W_allocS (z := .agg #[.slice none 0 0, .slice none 0 0]) (zs := #[.slice none 0 0, .slice none 0 0]) hS4107 rfl rfl rfl (by kernel_rfl) (by rfl) (fun g4109 w4109 c4109 hc4109 hS4109 => ?_)
                replace hS4109 : St w NoX [c4109, ce0_4107, c3_4107, c2_4107] w4109 := hS4109
                refine W_end ?_
                refine kq _ ?_
                refine AX_cast (l2 := #[true, false, true, false, false, true, true, true, true, true, true, true, false, false]) ?_ (by kernel_rfl)
                have hS4110 : St w NoX [ce0_4107, c4109, c3_4107, c2_4107] w4109 := hS4109.sel [1, 0, 2, 3] (by decide) rfl
                exact Zof hZ (hZ4046_30 g4109 g2247q _ _ inferInstance (by simp only [df_put]; exact hdf4107) (et rfl) (es rfl l8_4107) (es rfl l52_4107) (es rfl l54_4107) (es rfl l61_4107) ((es rfl l2_4107).trans l2_42.symm) ((es rfl l3_4107).trans l3_42.symm) ((es rfl l6_4107).trans l6_42.symm) (by subst hce0_4107 hc4109 hc3_4107 hc2_4107; exact hS4110))
            have hZ4046_22 : ∀ (g2347q : Nat) (g2348q : Nat) (A' : Act) (w' : World), SzN A' 114 → A'.defers = [] → EV A' (.tmp 7) = .pointer (some ⟨g2347q, 0, none⟩) → EV A' (.tmp 8) = .pointer (some ⟨g2348q, 0, none⟩) → EV A' (.tmp 52) = .pointer (some ⟨g2, 0, none⟩) → EV A' (.tmp 54) = .int .i64 ((k : Int)) → EV A' (.tmp 60) = .pointer (some ⟨B49, O49 + k * 2, none⟩) → EV A' (.tmp 2) = EV A42 (.tmp 2) → EV A' (.tmp 3) = EV A42 (.tmp 3) → EV A' (.tmp 6) = EV A42 (.tmp 6) → St w NoX [bx g2348q 40 #[.slice none 0 0, .slice none 0 0], bx g2347q 40 #[.slice none 0 0, .slice none 0 0], bx g3 25 #[ov2, rv2], bx g2 25 #[ov, rv]] w' → Z 6 #[true, false, true, false, false, true, true, true, true, false, true, true, false, false] A' w' := by
              intro g2347q g2348q A4111 w4111 hsz4111 hdf4111 l7_4111 l8_4111 l52_4111 l54_4111 l60_4111 u2_4111 u3_4111 u6_4111 hS4111
              have l2_4111 := u2_4111.trans l2_42
              have l3_4111 := u3_4111.trans l3_42
              have l6_4111 := u6_4111.trans l6_42
              obtain ⟨ce0_4111, ce1_4111, c3_4111, c2_4111, hce0_4111, hce1_4111, hc3_4111, hc2_4111, hS4111⟩ := gen4 hS4111
              refine Zto hZ ?_
              refine AX_2 (i := 1) (j := 9) (by kernel_rfl) rfl rfl ?_ ?_
              · skip
                refine W_r rfl rfl (VR_ldC rfl l52_4111 (cell_box (v := ov) (hS4111.obj 3 rfl hc2_4111) rfl) Try.underlying22 rfl) ?_
                refine W_end ?_
                refine kq _ ?_
                refine AX_cast (l2 := #[true, true, true, false, false, true, true, true, true, false, true, true, false, false]) ?_ (by kernel_rfl)
                refine AX_first (i := 3) (by kernel_rfl) (by kernel_rfl) (by kernel_rfl) rfl rfl rfl (V_ixS (off := O46 + k * 2) 2 (k) rfl (et rfl) (es rfl l54_4111) hv46 (by omega) k46 Try.underlying22 (by kernel_rfl) rfl) ?_
                refine AX_cast (l2 := #[true, true, true, true, false, true, true, true, true, false, true, true, false, false]) ?_ (by kernel_rfl)
                exact Zof hZ (hZ4046_29 g2347q g2348q _ _ inferInstance (by simp only [df_put]; exact hdf4111) (es rfl (es rfl l7_4111)) (es rfl (es rfl l8_4111)) (et rfl) (es rfl (es rfl l60_4111)) ((es rfl (es rfl l2_4111)).trans l2_42.symm) ((es rfl (es rfl l3_4111)).trans l3_42.symm) ((es rfl (es rfl l6_4111)).trans l6_42.symm) (by subst hce0_4111 hce1_4111 hc3_4111 hc2_4111; exact hS4111))
              · skip
                refine W_r rfl rfl (VR_ldR (ys := obC y49) rfl l60_4111 (SlN.row obC_len (sl_SlN (hS4111.ro h_ov2)) hv49 hy49 rfl) Try.underlying40 rfl (by kernel_rfl)) ?_
                refine W_end ?_
                refine kq _ ?_
                refine AX_cast (l2 := #[true, false, true, false, false, true, true, true, true, true, true, true, false, false]) ?_ (by kernel_rfl)
                exact Zof hZ (hZ4046_30 g2347q g2348q _ _ inferInstance (by simp only [df_put]; exact hdf4111) (es rfl l7_4111) (es rfl l8_4111) (es rfl l52_4111) (es rfl l54_4111) (et rfl) ((es rfl l2_4111).trans l2_42.symm) ((es rfl l3_4111).trans l3_42.symm) ((es rfl l6_4111).trans l6_42.symm) (by subst hce0_4111 hce1_4111 hc3_4111 hc2_4111; exact hS4111))
            have hZ4046_5 : ∀ (A' : Act) (w' : World), SzN A' 114 → A'.defers = [] → EV A' (.tmp 56) = .agg #[y46.1.1, y46.2.1] → EV A' (.tmp 57) = .pointer (some ⟨g3, 0, none⟩) → EV A' (.tmp 59) = .int .i64 ((k : Int)) → EV A' (.tmp 2) = EV A42 (.tmp 2) → EV A' (.tmp 3) = EV A42 (.tmp 3) → EV A' (.tmp 6) = EV A42 (.tmp 6) → St w NoX [bx g3 25 #[ov2, rv2], bx g2 25 #[ov, rv]] w' → Z 7 #[true, true, true, true, true, true, false, true, false, false, false, false, false, false] A' w' := by
              intro A4113 w4113 hsz4113 hdf4113 l56_4113 l57_4113 l59_4113 u2_4113 u3_4113 u6_4113 hS4113
              have l2_4113 := u2_4113.trans l2_42
              have l3_4113 := u3_4113.trans l3_42
              have l6_4113 := u6_4113.trans l6_42
              obtain ⟨c3_4113, c2_4113, hc3_4113, hc2_4113, hS4113⟩ := gen2 hS4113
              refine Zto hZ ?_
              refine AX_3 (i := 6) (j := 10) (m := 11) (by kernel_rfl) rfl rfl rfl ?_ ?_ ?_
              · skip
                refine W_r rfl rfl (VR_ldC rfl l57_4113 (cell_box (v := ov2) (hS4113.obj 0 rfl hc3_4113) rfl) Try.underlying22 rfl) ?_
                refine W_end ?_
                refine kq _ ?_
                refine AX_cast (l2 := #[true, true, true, true, true, true, true, true, false, false, false, false, false, false]) ?_ (by kernel_rfl)
                refine AX_first (i := 8) (by kernel_rfl) (by kernel_rfl) (by kernel_rfl) rfl rfl rfl (V_ixS (off := O49 + k * 2) 2 (k) rfl (et rfl) (es rfl l59_4113) hv49 (by omega) k49 Try.underlying22 (by kernel_rfl) rfl) ?_
                refine AX_cast (l2 := #[true, true, true, true, true, true, true, true, true, false, false, false, false, false]) ?_ (by kernel_rfl)
                exact Zof hZ (hZ4046_13 _ _ inferInstance (by simp only [df_put]; exact hdf4113) (es rfl (es rfl l56_4113)) (et rfl) ((es rfl (es rfl l2_4113)).trans l2_42.symm) ((es rfl (es rfl l3_4113)).trans l3_42.symm) ((es rfl (es rfl l6_4113)).trans l6_42.symm) (by subst hc3_4113 hc2_4113; exact hS4113))
              · skip
                refine W_allocS (z := .agg #[.slice none 0 0, .slice none 0 0]) (zs := #[.slice none 0 0, .slice none 0 0]) hS4113 rfl rfl rfl (by kernel_rfl) (by rfl) (fun g4115 w4115 c4115 hc4115 hS4115 => ?_)
                replace hS4115 : St w NoX [c4115, c3_4113, c2_4113] w4115 := hS4115
                refine W_end ?_
                refine kq _ ?_
                refine AX_cast (l2 := #[true, true, true, true, true, true, false, true, false, false, true, false, false, false]) ?_ (by kernel_rfl)
                exact Zof hZ (hZ4046_14 g4115 _ _ inferInstance (by simp only [df_put]; exact hdf4113) (et rfl) (es rfl l56_4113) (es rfl l57_4113) (es rfl l59_4113) ((es rfl l2_4113).trans l2_42.symm) ((es rfl l3_4113).trans l3_42.symm) ((es rfl l6_4113).trans l6_42.symm) (by subst hc4115 hc3_4113 hc2_4113; exact hS4115))
              · skip
                refine W_allocS (z := .agg #[.slice none 0 0, .slice none 0 0]) (zs := #[.slice none 0 0, .slice none 0 0]) hS4113 rfl rfl rfl (by kernel_rfl) (by rfl) (fun g4116 w4116 c4116 hc4116 hS4116 => ?_)
                replace hS4116 : St w NoX [c4116, c3_4113, c2_4113] w4116 := hS4116
                refine W_end ?_
                refine kq _ ?_
                refine AX_cast (l2 := #[true, true, true, true, true, true, false, true, false, false, false, true, false, false]) ?_ (by kernel_rfl)
                exact Zof hZ (hZ4046_15 g4116 _ _ inferInstance (by simp only [df_put]; exact hdf4113) (et rfl) (es rfl l56_4113) (es rfl l57_4113) (es rfl l59_4113) ((es rfl l2_4113).trans l2_42.symm) ((es rfl l3_4113).trans l3_42.symm) ((es rfl l6_4113).trans l6_42.symm) (by subst hc4116 hc3_4113 hc2_4113; exact hS4116))
            have hZ4046_7 : ∀ (g847q : Nat) (A' : Act) (w' : World), SzN A' 114 → A'.defers = [] → EV A' (.tmp 7) = .pointer (some ⟨g847q, 0, none⟩) → EV A' (.tmp 55) = .pointer (some ⟨B46, O46 + k * 2, none⟩) → EV A' (.tmp 57) = .pointer (some ⟨g3, 0, none⟩) → EV A' (.tmp 59) = .int .i64 ((k : Int)) → EV A' (.tmp 2) = EV A42 (.tmp 2) → EV A' (.tmp 3) = EV A42 (.tmp 3) → EV A' (.tmp 6) = EV A42 (.tmp 6) → St w NoX [bx g847q 40 #[.slice none 0 0, .slice none 0 0], bx g3 25 #[ov2, rv2], bx g2 25 #[ov, rv]] w' → Z 7 #[true, true, true, true, false, true, false, true, false, false, true, false, false, false] A' w' := by
              intro g847q A4117 w4117 hsz4117 hdf4117 l7_4117 l55_4117 l57_4117 l59_4117 u2_4117 u3_4117 u6_4117 hS4117
              have l2_4117 := u2_4117.trans l2_42
              have l3_4117 := u3_4117.trans l3_42
              have l6_4117 := u6_4117.trans l6_42
              obtain ⟨ce0_4117, c3_4117, c2_4117, hce0_4117, hc3_4117, hc2_4117, hS4117⟩ := gen3 hS4117
              refine Zto hZ ?_
              refine AX_3 (i := 4) (j := 6) (m := 11) (by kernel_rfl) rfl rfl rfl ?_ ?_ ?_
              · skip
                refine W_r rfl rfl (VR_ldR (ys := obC y46) rfl l55_4117 (SlN.row obC_len (sl_SlN (hS4117.ro h_ov)) hv46 hy46 rfl) Try.underlying40 rfl (by kernel_rfl)) ?_
                refine W_end ?_
                refine kq _ ?_
                refine AX_cast (l2 := #[true, true, true, true, true, true, false, true, false, false, true, false, false, false]) ?_ (by kernel_rfl)
                exact Zof hZ (hZ4046_14 g847q _ _ inferInstance (by simp only [df_put]; exact hdf4117) (es rfl l7_4117) (et rfl) (es rfl l57_4117) (es rfl l59_4117) ((es rfl l2_4117).trans l2_42.symm) ((es rfl l3_4117).trans l3_42.symm) ((es rfl l6_4117).trans l6_42.symm) (by subst hce0_4117 hc3_4117 hc2_4117; exact hS4117))
              · skip
                refine W_r rfl rfl (VR_ldC rfl l57_4117 (cell_box (v := ov2) (hS4117.obj 1 rfl hc3_4117) rfl) Try.underlying22 rfl) ?_
                refine W_end ?_
                refine kq _ ?_
                refine AX_cast (l2 := #[true, true, true, true, false, true, true, true, false, false, true, false, false, false]) ?_ (by kernel_rfl)
                refine AX_first (i := 8) (by kernel_rfl) (by kernel_rfl) (by kernel_rfl) rfl rfl rfl (V_ixS (off := O49 + k * 2) 2 (k) rfl (et rfl) (es rfl l59_4117) hv49 (by omega) k49 Try.underlying22 (by kernel_rfl) rfl) ?_
                refine AX_cast (l2 := #[true, true, true, true, false, true, true, true, true, false, true, false, false, false]) ?_ (by kernel_rfl)
                exact Zof hZ (hZ4046_17 g847q _ _ inferInstance (by simp only [df_put]; exact hdf4117) (es rfl (es rfl l7_4117)) (es rfl (es rfl l55_4117)) (et rfl) ((es rfl (es rfl l2_4117)).trans l2_42.symm) ((es rfl (es rfl l3_4117)).trans l3_42.symm) ((es rfl (es rfl l6_4117)).trans l6_42.symm) (by subst hce0_4117 hc3_4117 hc2_4117; exact hS4117))
              · skip
                refine W_allocS (z := .agg #[.slice none 0 0, .slice none 0 0]) (zs := #[.slice none 0 0, .slice none 0 0]) hS4117 rfl rfl rfl (by kernel_rfl) (by rfl) (fun g4119 w4119 c4119 hc4119 hS4119 => ?_)
                replace hS4119 : St w NoX [c4119, ce0_4117, c3_4117, c2_4117] w4119 := hS4119
                refine W_end ?_
                refine kq _ ?_
                refine AX_cast (l2 := #[true, true, true, true, false, true, false, true, false, false, true, true, false, false]) ?_ (by kernel_rfl)
                exact Zof hZ (hZ4046_19 g847q g4119 _ _ inferInstance (by simp only [df_put]; exact hdf4117) (es rfl l7_4117) (et rfl) (es rfl l55_4117) (es rfl l57_4117) (es rfl l59_4117) ((es rfl l2_4117).trans l2_42.symm) ((es rfl l3_4117).trans l3_42.symm) ((es rfl l6_4117).trans l6_42.symm) (by subst hc4119 hce0_4117 hc3_4117 hc2_4117; exact hS4119))
            have hZ4046_8 : ∀ (g947q : Nat) (A' : Act) (w' : World), SzN A' 114 → A'.defers = [] → EV A' (.tmp 8) = .pointer (some ⟨g947q, 0, none⟩) → EV A' (.tmp 55) = .pointer (some ⟨B46, O46 + k * 2, none⟩) → EV A' (.tmp 57) = .pointer (some ⟨g3, 0, none⟩) → EV A' (.tmp 59) = .int .i64 ((k : Int)) → EV A' (.tmp 2) = EV A42 (.tmp 2) → EV A' (.tmp 3) = EV A42 (.tmp 3) → EV A' (.tmp 6) = EV A42 (.tmp 6) → St w NoX [bx g947q 40 #[.slice none 0 0, .slice none 0 0], bx g3 25 #[ov2, rv2], bx g2 25 #[ov, rv]] w' → Z 7 #[true, true, true, true, false, true, false, true, false, false, false, true, false, false] A' w' := by
              intro g947q A4120 w4120 hsz4120 hdf4120 l8_4120 l55_4120 l57_4120 l59_4120 u2_4120 u3_4120 u6_4120 hS4120
              have l2_4120 := u2_4120.trans l2_42
              have l3_4120 := u3_4120.trans l3_42
              have l6_4120 := u6_4120.trans l6_42
              obtain ⟨ce0_4120, c3_4120, c2_4120, hce0_4120, hc3_4120, hc2_4120, hS4120⟩ := gen3 hS4120
              refine Zto hZ ?_
              refine AX_3 (i := 4) (j := 6) (m := 10) (by kernel_rfl) rfl rfl rfl ?_ ?_ ?_
              · skip
                refine W_r rfl rfl (VR_ldR (ys := obC y46) rfl l55_4120 (SlN.row obC_len (sl_SlN (hS4120.ro h_ov)) hv46 hy46 rfl) Try.underlying40 rfl (by kernel_rfl)) ?_
                refine W_end ?_
                refine kq _ ?_
                refine AX_cast (l2 := #[true, true, true, true, true, true, false, true, false, false, false, true, false, false]) ?_ (by kernel_rfl)
                exact Zof hZ (hZ4046_15 g947q _ _ inferInstance (by simp only [df_put]; exact hdf4120) (es rfl l8_4120) (et rfl) (es rfl l57_4120) (es rfl l59_4120) ((es rfl l2_4120).trans l2_42.symm) ((es rfl l3_4120).trans l3_42.symm) ((es rfl l6_4120).trans l6_42.symm) (by subst hce0_4120 hc3_4120 hc2_4120; exact hS4120))
              · skip
                refine W_r rfl rfl (VR_ldC rfl l57_4120 (cell_box (v := ov2) (hS4120.obj 1 rfl hc3_4120) rfl) Try.underlying22 rfl) ?_
                refine W_end ?_
                refine kq _ ?_
                refine AX_cast (l2 := #[true, true, true, true, false, true, true, true, false, false, false, true, false, false]) ?_ (by kernel_rfl)
                refine AX_first (i := 8) (by kernel_rfl) (by kernel_rfl) (by kernel_rfl) rfl rfl rfl (V_ixS (off := O49 + k * 2) 2 (k) rfl (et rfl) (es rfl l59_4120) hv49 (by omega) k49 Try.underlying22 (by kernel_rfl) rfl) ?_
                refine AX_cast (l2 := #[true, true, true, true, false, true, true, true, true, false, false, true, false, false]) ?_ (by kernel_rfl)
                exact Zof hZ (hZ4046_18 g947q _ _ inferInstance (by simp only [df_put]; exact hdf4120) (es rfl (es rfl l8_4120)) (es rfl (es rfl l55_4120)) (et rfl) ((es rfl (es rfl l2_4120)).trans l2_42.symm) ((es rfl (es rfl l3_4120)).trans l3_42.symm) ((es rfl (es rfl l6_4120)).trans l6_42.symm) (by subst hce0_4120 hc3_4120 hc2_4120; exact hS4120))
              · skip
                refine W_allocS (z := .agg #[.slice none 0 0, .slice none 0 0]) (zs := #[.slice none 0 0, .slice none 0 0]) hS4120 rfl rfl rfl (by kernel_rfl) (by rfl) (fun g4122 w4122 c4122 hc4122 hS4122 => ?_)
                replace hS4122 : St w NoX [c4122, ce0_4120, c3_4120, c2_4120] w4122 := hS4122
                refine W_end ?_
                refine kq _ ?_
                refine AX_cast (l2 := #[true, true, true, true, false, true, false, true, false, false, true, true, false, false]) ?_ (by kernel_rfl)
                have hS4123 : St w NoX [ce0_4120, c4122, c3_4120, c2_4120] w4122 := hS4122.sel [1, 0, 2, 3] (by decide) rfl
                exact Zof hZ (hZ4046_19 g4122 g947q _ _ inferInstance (by simp only [df_put]; exact hdf4120) (et rfl) (es rfl l8_4120) (es rfl l55_4120) (es rfl l57_4120) (es rfl l59_4120) ((es rfl l2_4120).trans l2_42.symm) ((es rfl l3_4120).trans l3_42.symm) ((es rfl l6_4120).trans l6_42.symm) (by subst hce0_4120 hc4122 hc3_4120 hc2_4120; exact hS4123))
            have hZ4046_9 : ∀ (A' : Act) (w' : World), SzN A' 114 → A'.defers = [] → EV A' (.tmp 52) = .pointer (some ⟨g2, 0, none⟩) → EV A' (.tmp 54) = .int .i64 ((k : Int)) → EV A' (.tmp 61) = .agg #[y49.1.1, y49.2.1] → EV A' (.tmp 2) = EV A42 (.tmp 2) → EV A' (.tmp 3) = EV A42 (.tmp 3) → EV A' (.tmp 6) = EV A42 (.tmp 6) → St w NoX [bx g3 25 #[ov2, rv2], bx g2 25 #[ov, rv]] w' → Z 7 #[true, false, true, false, false, true, true, true, true, true, false, false, false, false] A' w' := by
              intro A4124 w4124 hsz4124 hdf4124 l52_4124 l54_4124 l61_4124 u2_4124 u3_4124 u6_4124 hS4124
              have l2_4124 := u2_4124.trans l2_42
              have l3_4124 := u3_4124.trans l3_42
              have l6_4124 := u6_4124.trans l6_42
              obtain ⟨c3_4124, c2_4124, hc3_4124, hc2_4124, hS4124⟩ := gen2 hS4124
              refine Zto hZ ?_
              refine AX_3 (i := 1) (j := 10) (m := 11) (by kernel_rfl) rfl rfl rfl ?_ ?_ ?_
              · skip
                refine W_r rfl rfl (VR_ldC rfl l52_4124 (cell_box (v := ov) (hS4124.obj 1 rfl hc2_4124) rfl) Try.underlying22 rfl) ?_
                refine W_end ?_
                refine kq _ ?_
                refine AX_cast (l2 := #[true, true, true, false, false, true, true, true, true, true, false, false, false, false]) ?_ (by kernel_rfl)
                refine AX_first (i := 3) (by kernel_rfl) (by kernel_rfl) (by kernel_rfl) rfl rfl rfl (V_ixS (off := O46 + k * 2) 2 (k) rfl (et rfl) (es rfl l54_4124) hv46 (by omega) k46 Try.underlying22 (by kernel_rfl) rfl) ?_
                refine AX_cast (l2 := #[true, true, true, true, false, true, true, true, true, true, false, false, false, false]) ?_ (by kernel_rfl)
                exact Zof hZ (hZ4046_16 _ _ inferInstance (by simp only [df_put]; exact hdf4124) (et rfl) (es rfl (es rfl l61_4124)) ((es rfl (es rfl l2_4124)).trans l2_42.symm) ((es rfl (es rfl l3_4124)).trans l3_42.symm) ((es rfl (es rfl l6_4124)).trans l6_42.symm) (by subst hc3_4124 hc2_4124; exact hS4124))
              · skip
                refine W_allocS (z := .agg #[.slice none 0 0, .slice none 0 0]) (zs := #[.slice none 0 0, .slice none 0 0]) hS4124 rfl rfl rfl (by kernel_rfl) (by rfl) (fun g4126 w4126 c4126 hc4126 hS4126 => ?_)
                replace hS4126 : St w NoX [c4126, c3_4124, c2_4124] w4126 := hS4126
                refine W_end ?_
                refine kq _ ?_
                refine AX_cast (l2 := #[true, false, true, false, false, true, true, true, true, true, true, false, false, false]) ?_ (by kernel_rfl)
                exact Zof hZ (hZ4046_20 g4126 _ _ inferInstance (by simp only [df_put]; exact hdf4124) (et rfl) (es rfl l52_4124) (es rfl l54_4124) (es rfl l61_4124) ((es rfl l2_4124).trans l2_42.symm) ((es rfl l3_4124).trans l3_42.symm) ((es rfl l6_4124).trans l6_42.symm) (by subst hc4126 hc3_4124 hc2_4124; exact hS4126))
              · skip
                refine W_allocS (z := .agg #[.slice none 0 0, .slice none 0 0]) (zs := #[.slice none 0 0, .slice none 0 0]) hS4124 rfl rfl rfl (by kernel_rfl) (by rfl) (fun g4127 w4127 c4127 hc4127 hS4127 => ?_)
                replace hS4127 : St w NoX [c4127, c3_4124, c2_4124] w4127 := hS4127
                refine W_end ?_
                refine kq _ ?_
                refine AX_cast (l2 := #[true, false, true, false, false, true, true, true, true, true, false, true, false, false]) ?_ (by kernel_rfl)
                exact Zof hZ (hZ4046_21 g4127 _ _ inferInstance (by simp only [df_put]; exact hdf4124) (et rfl) (es rfl l52_4124) (es rfl l54_4124) (es rfl l61_4124) ((es rfl l2_4124).trans l2_42.symm) ((es rfl l3_4124).trans l3_42.symm) ((es rfl l6_4124).trans l6_42.symm) (by subst hc4127 hc3_4124 hc2_4124; exact hS4127))
            have hZ4046_10 : ∀ (g1147q : Nat) (A' : Act) (w' : World), SzN A' 114 → A'.defers = [] → EV A' (.tmp 7) = .pointer (some ⟨g1147q, 0, none⟩) → EV A' (.tmp 52) = .pointer (some ⟨g2, 0, none⟩) → EV A' (.tmp 54) = .int .i64 ((k : Int)) → EV A' (.tmp 60) = .pointer (some ⟨B49, O49 + k * 2, none⟩) → EV A' (.tmp 2) = EV A42 (.tmp 2) → EV A' (.tmp 3) = EV A42 (.tmp 3) → EV A' (.tmp 6) = EV A42 (.tmp 6) → St w NoX [bx g1147q 40 #[.slice none 0 0, .slice none 0 0], bx g3 25 #[ov2, rv2], bx g2 25 #[ov, rv]] w' → Z 7 #[true, false, true, false, false, true, true, true, true, false, true, false, false, false] A' w' := by
              intro g1147q A4128 w4128 hsz4128 hdf4128 l7_4128 l52_4128 l54_4128 l60_4128 u2_4128 u3_4128 u6_4128 hS4128
              have l2_4128 := u2_4128.trans l2_42
              have l3_4128 := u3_4128.trans l3_42
              have l6_4128 := u6_4128.trans l6_42
              obtain ⟨ce0_4128, c3_4128, c2_4128, hce0_4128, hc3_4128, hc2_4128, hS4128⟩ := gen3 hS4128
              refine Zto hZ ?_
              refine AX_3 (i := 1) (j := 9) (m := 11) (by kernel_rfl) rfl rfl rfl ?_ ?_ ?_
              · skip
                refine W_r rfl rfl (VR_ldC rfl l52_4128 (cell_box (v := ov) (hS4128.obj 2 rfl hc2_4128) rfl) Try.underlying22 rfl) ?_
                refine W_end ?_
                refine kq _ ?_
                refine AX_cast (l2 := #[true, true, true, false, false, true, true, true, true, false, true, false, false, false]) ?_ (by kernel_rfl)
                refine AX_first (i := 3) (by kernel_rfl) (by kernel_rfl) (by kernel_rfl) rfl rfl rfl (V_ixS (off := O46 + k * 2) 2 (k) rfl (et rfl) (es rfl l54_4128) hv46 (by omega) k46 Try.underlying22 (by kernel_rfl) rfl) ?_
                refine AX_cast (l2 := #[true, true, true, true, false, true, true, true, true, false, true, false, false, false]) ?_ (by kernel_rfl)
                exact Zof hZ (hZ4046_17 g1147q _ _ inferInstance (by simp only [df_put]; exact hdf4128) (es rfl (es rfl l7_4128)) (et rfl) (es rfl (es rfl l60_4128)) ((es rfl (es rfl l2_4128)).trans l2_42.symm) ((es rfl (es rfl l3_4128)).trans l3_42.symm) ((es rfl (es rfl l6_4128)).trans l6_42.symm) (by subst hce0_4128 hc3_4128 hc2_4128; exact hS4128))
              · skip
                refine W_r rfl rfl (VR_ldR (ys := obC y49) rfl l60_4128 (SlN.row obC_len (sl_SlN (hS4128.ro h_ov2)) hv49 hy49 rfl) Try.underlying40 rfl (by kernel_rfl)) ?_
                refine W_end ?_
                refine kq _ ?_
                refine AX_cast (l2 := #[true, false, true, false, false, true, true, true, true, true, true, false, false, false]) ?_ (by kernel_rfl)
                exact Zof hZ (hZ4046_20 g1147q _ _ inferInstance (by simp only [df_put]; exact hdf4128) (es rfl l7_4128) (es rfl l52_4128) (es rfl l54_4128) (et rfl) ((es rfl l2_4128).trans l2_42.symm) ((es rfl l3_4128).trans l3_42.symm) ((es rfl l6_4128).trans l6_42.symm) (by subst hce0_4128 hc3_4128 hc2_4128; exact hS4128))
              · skip
                refine W_allocS (z := .agg #[.slice none 0 0, .slice none 0 0]) (zs := #[.slice none 0 0, .slice none 0 0]) hS4128 rfl rfl rfl (by kernel_rfl) (by rfl) (fun g4130 w4130 c4130 hc4130 hS4130 => ?_)
                replace hS4130 : St w NoX [c4130, ce0_4128, c3_4128, c2_4128] w4130 := hS4130
                refine W_end ?_
                refine kq _ ?_
                refine AX_cast (l2 := #[true, false, true, false, false, true, true, true, true, false, true, true, false, false]) ?_ (by kernel_rfl)
                exact Zof hZ (hZ4046_22 g1147q g4130 _ _ inferInstance (by simp only [df_put]; exact hdf4128) (es rfl l7_4128) (et rfl) (es rfl l52_4128) (es rfl l54_4128) (es rfl l60_4128) ((es rfl l2_4128).trans l2_42.symm) ((es rfl l3_4128).trans l3_42.symm) ((es rfl l6_4128).trans l6_42.symm) (by subst hc4130 hce0_4128 hc3_4128 hc2_4128; exact hS4130))
            have hZ4046_11 : ∀ (g1247q : Nat) (A' : Act) (w' : World), SzN A' 114 → A'.defers = [] → EV A' (.tmp 8) = .pointer (some ⟨g1247q, 0, none⟩) → EV A' (.tmp 52) = .pointer (some ⟨g2, 0, none⟩) → EV A' (.tmp 54) = .int .i64 ((k : Int)) → EV A' (.tmp 60) = .pointer (some ⟨B49, O49 + k * 2, none⟩) → EV A' (.tmp 2) = EV A42 (.tmp 2) → EV A' (.tmp 3) = EV A42 (.tmp 3) → EV A' (.tmp 6) = EV A42 (.tmp 6) → St w NoX [bx g1247q 40 #[.slice none 0 0, .slice none 0 0], bx g3 25 #[ov2, rv2], bx g2 25 #[ov, rv]] w' → Z 7 #[true, false, true, false, false, true, true, true, true, false, false, true, false, false] A' w' := by
              intro g1247q A4131 w4131 hsz4131 hdf4131 l8_4131 l52_4131 l54_4131 l60_4131 u2_4131 u3_4131 u6_4131 hS4131
              have l2_4131 := u2_4131.trans l2_42
              have l3_4131 := u3_4131.trans l3_42
              have l6_4131 := u6_4131.trans l6_42
              obtain ⟨ce0_4131, c3_4131, c2_4131, hce0_4131, hc3_4131, hc2_4131, hS4131⟩ := gen3 hS4131
              refine Zto hZ ?_
              refine AX_3 (i := 1) (j := 9) (m := 10) (by kernel_rfl) rfl rfl rfl ?_ ?_ ?_
              · skip
                refine W_r rfl rfl (VR_ldC rfl l52_4131 (cell_box (v := ov) (hS4131.obj 2 rfl hc2_4131) rfl) Try.underlying22 rfl) ?_
                refine W_end ?_
                refine kq _ ?_
                refine AX_cast (l2 := #[true, true, true, false, false, true, true, true, true, false, false, true, false, false]) ?_ (by kernel_rfl)
                refine AX_first (i := 3) (by kernel_rfl) (by kernel_rfl) (by kernel_rfl) rfl rfl rfl (V_ixS (off := O46 + k * 2) 2 (k) rfl (et rfl) (es rfl l54_4131) hv46 (by omega) k46 Try.underlying22 (by kernel_rfl) rfl) ?_
                refine AX_cast (l2 := #[true, true, true, true, false, true, true, true, true, false, false, true, false, false]) ?_ (by kernel_rfl)
                exact Zof hZ (hZ4046_18 g1247q _ _ inferInstance (by simp only [df_put]; exact hdf4131) (es rfl (es rfl l8_4131)) (et rfl) (es rfl (es rfl l60_4131)) ((es rfl (es rfl l2_4131)).trans l2_42.symm) ((es rfl (es rfl l3_4131)).trans l3_42.symm) ((es rfl (es rfl l6_4131)).trans l6_42.symm) (by subst hce0_4131 hc3_4131 hc2_4131; exact hS4131))
              · skip
                refine W_r rfl rfl (VR_ldR (ys := obC y49) rfl l60_4131 (SlN.row obC_len (sl_SlN (hS4131.ro h_ov2)) hv49 hy49 rfl) Try.underlying40 rfl (by kernel_rfl)) ?_
                refine W_end ?_
                refine kq _ ?_
                refine AX_cast (l2 := #[true, false, true, false, false, true, true, true, true, true, false, true, false, false]) ?_ (by kernel_rfl)
                exact Zof hZ (hZ4046_21 g1247q _ _ inferInstance (by simp only [df_put]; exact hdf4131) (es rfl l8_4131) (es rfl l52_4131) (es rfl l54_4131) (et rfl) ((es rfl l2_4131).trans l2_42.symm) ((es rfl l3_4131).trans l3_42.symm) ((es rfl l6_4131).trans l6_42.symm) (by subst hce0_4131 hc3_4131 hc2_4131; exact hS4131))
              · skip
                refine W_allocS (z := .agg #[.slice none 0 0, .slice none 0 0]) (zs := #[.slice none 0 0, .slice none 0 0]) hS4131 rfl rfl rfl (by kernel_rfl) (by rfl) (fun g4133 w4133 c4133 hc4133 hS4133 => ?_)
                replace hS4133 : St w NoX [c4133, ce0_4131, c3_4131, c2_4131] w4133 := hS4133
                refine W_end ?_
                refine kq _ ?_
                refine AX_cast (l2 := #[true, false, true, false, false, true, true, true, true, false, true, true, false, false]) ?_ (by kernel_rfl)
                have hS4134 : St w NoX [ce0_4131, c4133, c3_4131, c2_4131] w4133 := hS4133.sel [1, 0, 2, 3] (by decide) rfl
                exact Zof hZ (hZ4046_22 g4133 g1247q _ _ inferInstance (by simp only [df_put]; exact hdf4131) (et rfl) (es rfl l8_4131) (es rfl l52_4131) (es rfl l54_4131) (es rfl l60_4131) ((es rfl l2_4131).trans l2_42.symm) ((es rfl l3_4131).trans l3_42.symm) ((es rfl l6_4131).trans l6_42.symm) (by subst hce0_4131 hc4133 hc3_4131 hc2_4131; exact hS4134))
            have hZ4046_1 : ∀ (A' : Act) (w' : World), SzN A' 114 → A'.defers = [] → EV A' (.tmp 55) = .pointer (some ⟨B46, O46 + k * 2, none⟩) → EV A' (.tmp 57) = .pointer (some ⟨g3, 0, none⟩) → EV A' (.tmp 59) = .int .i64 ((k : Int)) → EV A' (.tmp 2) = EV A42 (.tmp 2) → EV A' (.tmp 3) = EV A42 (.tmp 3) → EV A' (.tmp 6) = EV A42 (.tmp 6) → St w NoX [bx g3 25 #[ov2, rv2], bx g2 25 #[ov, rv]] w' → Z 8 #[true, true, true, true, false, true, false, true, false, false, false, false, false, false] A' w' := by
              intro A4135 w4135 hsz4135 hdf4135 l55_4135 l57_4135 l59_4135 u2_4135 u3_4135 u6_4135 hS4135
              have l2_4135 := u2_4135.trans l2_42
              have l3_4135 := u3_4135.trans l3_42
              have l6_4135 := u6_4135.trans l6_42
              obtain ⟨c3_4135, c2_4135, hc3_4135, hc2_4135, hS4135⟩ := gen2 hS4135
              refine Zto hZ ?_
              refine AX_4 (i := 4) (j := 6) (m := 10) (q := 11) (by kernel_rfl) rfl rfl rfl rfl ?_ ?_ ?_ ?_
              · skip
                refine W_r rfl rfl (VR_ldR (ys := obC y46) rfl l55_4135 (SlN.row obC_len (sl_SlN (hS4135.ro h_ov)) hv46 hy46 rfl) Try.underlying40 rfl (by kernel_rfl)) ?_
                refine W_end ?_
                refine kq _ ?_
                refine AX_cast (l2 := #[true, true, true, true, true, true, false, true, false, false, false, false, false, false]) ?_ (by kernel_rfl)
                exact Zof hZ (hZ4046_5 _ _ inferInstance (by simp only [df_put]; exact hdf4135) (et rfl) (es rfl l57_4135) (es rfl l59_4135) ((es rfl l2_4135).trans l2_42.symm) ((es rfl l3_4135).trans l3_42.symm) ((es rfl l6_4135).trans l6_42.symm) (by subst hc3_4135 hc2_4135; exact hS4135))
              · skip
                refine W_r rfl rfl (VR_ldC rfl l57_4135 (cell_box (v := ov2) (hS4135.obj 0 rfl hc3_4135) rfl) Try.underlying22 rfl) ?_
                refine W_end ?_
                refine kq _ ?_
                refine AX_cast (l2 := #[true, true, true, true, false, true, true, true, false, false, false, false, false, false]) ?_ (by kernel_rfl)
                refine AX_first (i := 8) (by kernel_rfl) (by kernel_rfl) (by kernel_rfl) rfl rfl rfl (V_ixS (off := O49 + k * 2) 2 (k) rfl (et rfl) (es rfl l59_4135) hv49 (by omega) k49 Try.underlying22 (by kernel_rfl) rfl) ?_
                refine AX_cast (l2 := #[true, true, true, true, false, true, true, true, true, false, false, false, false, false]) ?_ (by kernel_rfl)
                exact Zof hZ (hZ4046_6 _ _ inferInstance (by simp only [df_put]; exact hdf4135) (es rfl (es rfl l55_4135)) (et rfl) ((es rfl (es rfl l2_4135)).trans l2_42.symm) ((es rfl (es rfl l3_4135)).trans l3_42.symm) ((es rfl (es rfl l6_4135)).trans l6_42.symm) (by subst hc3_4135 hc2_4135; exact hS4135))
              · skip
                refine W_allocS (z := .agg #[.slice none 0 0, .slice none 0 0]) (zs := #[.slice none 0 0, .slice none 0 0]) hS4135 rfl rfl rfl (by kernel_rfl) (by rfl) (fun g4137 w4137 c4137 hc4137 hS4137 => ?_)
                replace hS4137 : St w NoX [c4137, c3_4135, c2_4135] w4137 := hS4137
                refine W_end ?_
                refine kq _ ?_
                refine AX_cast (l2 := #[true, true, true, true, false, true, false, true, false, false, true, false, false, false]) ?_ (by kernel_rfl)
                exact Zof hZ (hZ4046_7 g4137 _ _ inferInstance (by simp only [df_put]; exact hdf4135) (et rfl) (es rfl l55_4135) (es rfl l57_4135) (es rfl l59_4135) ((es rfl l2_4135).trans l2_42.symm) ((es rfl l3_4135).trans l3_42.symm) ((es rfl l6_4135).trans l6_42.symm) (by subst hc4137 hc3_4135 hc2_4135; exact hS4137))
              · skip
                refine W_allocS (z := .agg #[.slice none 0 0, .slice none 0 0]) (zs := #[.slice none 0 0, .slice none 0 0]) hS4135 rfl rfl rfl (by kernel_rfl) (by rfl) (fun g4138 w4138 c4138 hc4138 hS4138 => ?_)
                replace hS4138 : St w NoX [c4138, c3_4135, c2_4135] w4138 := hS4138
                refine W_end ?_
                refine kq _ ?_
                refine AX_cast (l2 := #[true, true, true, true, false, true, false, true, false, false, false, true, false, false]) ?_ (by kernel_rfl)
                exact Zof hZ (hZ4046_8 g4138 _ _ inferInstance (by simp only [df_put]; exact hdf4135) (et rfl) (es rfl l55_4135) (es rfl l57_4135) (es rfl l59_4135) ((es rfl l2_4135).trans l2_42.symm) ((es rfl l3_4135).trans l3_42.symm) ((es rfl l6_4135).trans l6_42.symm) (by subst hc4138 hc3_4135 hc2_4135; exact hS4138))
            have hZ4046_2 : ∀ (A' : Act) (w' : World), SzN A' 114 → A'.defers = [] → EV A' (.tmp 52) = .pointer (some ⟨g2, 0, none⟩) → EV A' (.tmp 54) = .int .i64 ((k : Int)) → EV A' (.tmp 60) = .pointer (some ⟨B49, O49 + k * 2, none⟩) → EV A' (.tmp 2) = EV A42 (.tmp 2) → EV A' (.tmp 3) = EV A42 (.tmp 3) → EV A' (.tmp 6) = EV A42 (.tmp 6) → St w NoX [bx g3 25 #[ov2, rv2], bx g2 25 #[ov, rv]] w' → Z 8 #[true, false, true, false, false, true, true, true, true, false, false, false, false, false] A' w' := by
              intro A4139 w4139 hsz4139 hdf4139 l52_4139 l54_4139 l60_4139 u2_4139 u3_4139 u6_4139 hS4139
              have l2_4139 := u2_4139.trans l2_42
              have l3_4139 := u3_4139.trans l3_42
              have l6_4139 := u6_4139.trans l6_42
              obtain ⟨c3_4139, c2_4139, hc3_4139, hc2_4139, hS4139⟩ := gen2 hS4139
              refine Zto hZ ?_
              refine AX_4 (i := 1) (j := 9) (m := 10) (q := 11) (by kernel_rfl) rfl rfl rfl rfl ?_ ?_ ?_ ?_
              · skip
                refine W_r rfl rfl (VR_ldC rfl l52_4139 (cell_box (v := ov) (hS4139.obj 1 rfl hc2_4139) rfl) Try.underlying22 rfl) ?_
                refine W_end ?_
                refine kq _ ?_
                refine AX_cast (l2 := #[true, true, true, false, false, true, true, true, true, false, false, false, false, false]) ?_ (by kernel_rfl)
                refine AX_first (i := 3) (by kernel_rfl) (by kernel_rfl) (by kernel_rfl) rfl rfl rfl (V_ixS (off := O46 + k * 2) 2 (k) rfl (et rfl) (es rfl l54_4139) hv46 (by omega) k46 Try.underlying22 (by kernel_rfl) rfl) ?_
                refine AX_cast (l2 := #[true, true, true, true, false, true, true, true, true, false, false, false, false, false]) ?_ (by kernel_rfl)
                exact Zof hZ (hZ4046_6 _ _ inferInstance (by simp only [df_put]; exact hdf4139) (et rfl) (es rfl (es rfl l60_4139)) ((es rfl (es rfl l2_4139)).trans l2_42.symm) ((es rfl (es rfl l3_4139)).trans l3_42.symm) ((es rfl (es rfl l6_4139)).trans l6_42.symm) (by subst hc3_4139 hc2_4139; exact hS4139))
              · skip
                refine W_r rfl rfl (VR_ldR (ys := obC y49) rfl l60_4139 (SlN.row obC_len (sl_SlN (hS4139.ro h_ov2)) hv49 hy49 rfl) Try.underlying40 rfl (by kernel_rfl)) ?_
                refine W_end ?_
                refine kq _ ?_
                refine AX_cast (l2 := #[true, false, true, false, false, true, true, true, true, true, false, false, false, false]) ?_ (by kernel_rfl)
                exact Zof hZ (hZ4046_9 _ _ inferInstance (by simp only [df_put]; exact hdf4139) (es rfl l52_4139) (es rfl l54_4139) (et rfl) ((es rfl l2_4139).trans l2_42.symm) ((es rfl l3_4139).trans l3_42.symm) ((es rfl l6_4139).trans l6_42.symm) (by subst hc3_4139 hc2_4139; exact hS4139))
              · skip
                refine W_allocS (z := .agg #[.slice none 0 0, .slice none 0 0]) (zs := #[.slice none 0 0, .slice none 0 0]) hS4139 rfl rfl rfl (by kernel_rfl) (by rfl) (fun g4141 w4141 c4141 hc4141 hS4141 => ?_)
                replace hS4141 : St w NoX [c4141, c3_4139, c2_4139] w4141 := hS4141
                refine W_end ?_
                refine kq _ ?_
                refine AX_cast (l2 := #[true, false, true, false, false, true, true, true, true, false, true, false, false, false]) ?_ (by kernel_rfl)
                exact Zof hZ (hZ4046_10 g4141 _ _ inferInstance (by simp only [df_put]; exact hdf4139) (et rfl) (es rfl l52_4139) (es rfl l54_4139) (es rfl l60_4139) ((es rfl l2_4139).trans l2_42.symm) ((es rfl l3_4139).trans l3_42.symm) ((es rfl l6_4139).trans l6_42.symm) (by subst hc4141 hc3_4139 hc2_4139; exact hS4141))
              · skip
                refine W_allocS (z := .agg #[.slice none 0 0, .slice none 0 0]) (zs := #[.slice none 0 0, .slice none 0 0]) hS4139 rfl rfl rfl (by kernel_rfl) (by rfl) (fun g4142 w4142 c4142 hc4142 hS4142 => ?_)
                replace hS4142 : St w NoX [c4142, c3_4139, c2_4139] w4142 := hS4142
                refine W_end ?_
                refine kq _ ?_
                refine AX_cast (l2 := #[true, false, true, false, false, true, true, true, true, false, false, true, false, false]) ?_ (by kernel_rfl)
                exact Zof hZ (hZ4046_11 g4142 _ _ inferInstance (by simp only [df_put]; exact hdf4139) (et rfl) (es rfl l52_4139) (es rfl l54_4139) (es rfl l60_4139) ((es rfl l2_4139).trans l2_42.symm) ((es rfl l3_4139).trans l3_42.symm) ((es rfl l6_4139).trans l6_42.symm) (by subst hc4142 hc3_4139 hc2_4139; exact hS4142))
            have hZ4046_12 : ∀ (g1346q : Nat) (g1347q : Nat) (A' : Act) (w' : World), SzN A' 114 → A'.defers = [] → EV A' (.tmp 7) = .pointer (some ⟨g1346q, 0, none⟩) → EV A' (.tmp 8) = .pointer (some ⟨g1347q, 0, none⟩) → EV A' (.tmp 52) = .pointer (some ⟨g2, 0, none⟩) → EV A' (.tmp 54) = .int .i64 ((k : Int)) → EV A' (.tmp 57) = .pointer (some ⟨g3, 0, none⟩) → EV A' (.tmp 59) = .int .i64 ((k : Int)) → EV A' (.tmp 2) = EV A42 (.tmp 2) → EV A' (.tmp 3) = EV A42 (.tmp 3) → EV A' (.tmp 6) = EV A42 (.tmp 6) → St w NoX [bx g1347q 40 #[.slice none 0 0, .slice none 0 0], bx g1346q 40 #[.slice none 0 0, .slice none 0 0], bx g3 25 #[ov2, rv2], bx g2 25 #[ov, rv]] w' → Z 8 #[true, false, true, false, false, true, false, true, false, false, true, true, false, false] A' w' := by
              intro g1346q g1347q A4143 w4143 hsz4143 hdf4143 l7_4143 l8_4143 l52_4143 l54_4143 l57_4143 l59_4143 u2_4143 u3_4143 u6_4143 hS4143
              have l2_4143 := u2_4143.trans l2_42
              have l3_4143 := u3_4143.trans l3_42
              have l6_4143 := u6_4143.trans l6_42
              obtain ⟨ce0_4143, ce1_4143, c3_4143, c2_4143, hce0_4143, hce1_4143, hc3_4143, hc2_4143, hS4143⟩ := gen4 hS4143
              refine Zto hZ ?_
              refine AX_2 (i := 1) (j := 6) (by kernel_rfl) rfl rfl ?_ ?_
              · skip
                refine W_r rfl rfl (VR_ldC rfl l52_4143 (cell_box (v := ov) (hS4143.obj 3 rfl hc2_4143) rfl) Try.underlying22 rfl) ?_
                refine W_end ?_
                refine kq _ ?_
                refine AX_cast (l2 := #[true, true, true, false, false, true, false, true, false, false, true, true, false, false]) ?_ (by kernel_rfl)
                refine AX_first (i := 3) (by kernel_rfl) (by kernel_rfl) (by kernel_rfl) rfl rfl rfl (V_ixS (off := O46 + k * 2) 2 (k) rfl (et rfl) (es rfl l54_4143) hv46 (by omega) k46 Try.underlying22 (by kernel_rfl) rfl) ?_
                refine AX_cast (l2 := #[true, true, true, true, false, true, false, true, false, false, true, true, false, false]) ?_ (by kernel_rfl)
                exact Zof hZ (hZ4046_19 g1346q g1347q _ _ inferInstance (by simp only [df_put]; exact hdf4143) (es rfl (es rfl l7_4143)) (es rfl (es rfl l8_4143)) (et rfl) (es rfl (es rfl l57_4143)) (es rfl (es rfl l59_4143)) ((es rfl (es rfl l2_4143)).trans l2_42.symm) ((es rfl (es rfl l3_4143)).trans l3_42.symm) ((es rfl (es rfl l6_4143)).trans l6_42.symm) (by subst hce0_4143 hce1_4143 hc3_4143 hc2_4143; exact hS4143))
              · skip
                refine W_r rfl rfl (VR_ldC rfl l57_4143 (cell_box (v := ov2) (hS4143.obj 2 rfl hc3_4143) rfl) Try.underlying22 rfl) ?_
                refine W_end ?_
                refine kq _ ?_
                refine AX_cast (l2 := #[true, false, true, false, false, true, true, true, false, false, true, true, false, false]) ?_ (by kernel_rfl)
                refine AX_first (i := 8) (by kernel_rfl) (by kernel_rfl) (by kernel_rfl) rfl rfl rfl (V_ixS (off := O49 + k * 2) 2 (k) rfl (et rfl) (es rfl l59_4143) hv49 (by omega) k49 Try.underlying22 (by kernel_rfl) rfl) ?_
                refine AX_cast (l2 := #[true, false, true, false, false, true, true, true, true, false, true, true, false, false]) ?_ (by kernel_rfl)
                exact Zof hZ (hZ4046_22 g1346q g1347q _ _ inferInstance (by simp only [df_put]; exact hdf4143) (es rfl (es rfl l7_4143)) (es rfl (es rfl l8_4143)) (es rfl (es rfl l52_4143)) (es rfl (es rfl l54_4143)) (et rfl) ((es rfl (es rfl l2_4143)).trans l2_42.symm) ((es rfl (es rfl l3_4143)).trans l3_42.symm) ((es rfl (es rfl l6_4143)).trans l6_42.symm) (by subst hce0_4143 hce1_4143 hc3_4143 hc2_4143; exact hS4143))
            have hZ4046_3 : ∀ (g446q : Nat) (A' : Act) (w' : World), SzN A' 114 → A'.defers = [] → EV A' (.tmp 7) = .pointer (some ⟨g446q, 0, none⟩) → EV A' (.tmp 52) = .pointer (some ⟨g2, 0, none⟩) → EV A' (.tmp 54) = .int .i64 ((k : Int)) → EV A' (.tmp 57) = .pointer (some ⟨g3, 0, none⟩) → EV A' (.tmp 59) = .int .i64 ((k : Int)) → EV A' (.tmp 2) = EV A42 (.tmp 2) → EV A' (.tmp 3) = EV A42 (.tmp 3) → EV A' (.tmp 6) = EV A42 (.tmp 6) → St w NoX [bx g446q 40 #[.slice none 0 0, .slice none 0 0], bx g3 25 #[ov2, rv2], bx g2 25 #[ov, rv]] w' → Z 9 #[true, false, true, false, false, true, false, true, false, false, true, false, false, false] A' w' := by
              intro g446q A4146 w4146 hsz4146 hdf4146 l7_4146 l52_4146 l54_4146 l57_4146 l59_4146 u2_4146 u3_4146 u6_4146 hS4146
              have l2_4146 := u2_4146.trans l2_42
              have l3_4146 := u3_4146.trans l3_42
              have l6_4146 := u6_4146.trans l6_42
              obtain ⟨ce0_4146, c3_4146, c2_4146, hce0_4146, hc3_4146, hc2_4146, hS4146⟩ := gen3 hS4146
              refine Zto hZ ?_
              refine AX_3 (i := 1) (j := 6) (m := 11) (by kernel_rfl) rfl rfl rfl ?_ ?_ ?_
              · skip
                refine W_r rfl rfl (VR_ldC rfl l52_4146 (cell_box (v := ov) (hS4146.obj 2 rfl hc2_4146) rfl) Try.underlying22 rfl) ?_
                refine W_end ?_
                refine kq _ ?_
                refine AX_cast (l2 := #[true, true, true, false, false, true, false, true, false, false, true, false, false, false]) ?_ (by kernel_rfl)
                refine AX_first (i := 3) (by kernel_rfl) (by kernel_rfl) (by kernel_rfl) rfl rfl rfl (V_ixS (off := O46 + k * 2) 2 (k) rfl (et rfl) (es rfl l54_4146) hv46 (by omega) k46 Try.underlying22 (by kernel_rfl) rfl) ?_
                refine AX_cast (l2 := #[true, true, true, true, false, true, false, true, false, false, true, false, false, false]) ?_ (by kernel_rfl)
                exact Zof hZ (hZ4046_7 g446q _ _ inferInstance (by simp only [df_put]; exact hdf4146) (es rfl (es rfl l7_4146)) (et rfl) (es rfl (es rfl l57_4146)) (es rfl (es rfl l59_4146)) ((es rfl (es rfl l2_4146)).trans l2_42.symm) ((es rfl (es rfl l3_4146)).trans l3_42.symm) ((es rfl (es rfl l6_4146)).trans l6_42.symm) (by subst hce0_4146 hc3_4146 hc2_4146; exact hS4146))
              · skip
                refine W_r rfl rfl (VR_ldC rfl l57_4146 (cell_box (v := ov2) (hS4146.obj 1 rfl hc3_4146) rfl) Try.underlying22 rfl) ?_
                refine W_end ?_
                refine kq _ ?_
                refine AX_cast (l2 := #[true, false, true, false, false, true, true, true, false, false, true, false, false, false]) ?_ (by kernel_rfl)
                refine AX_first (i := 8) (by kernel_rfl) (by kernel_rfl) (by kernel_rfl) rfl rfl rfl (V_ixS (off := O49 + k * 2) 2 (k) rfl (et rfl) (es rfl l59_4146) hv49 (by omega) k49 Try.underlying22 (by kernel_rfl) rfl) ?_
                refine AX_cast (l2 := #[true, false, true, false, false, true, true, true, true, false, true, false, false, false]) ?_ (by kernel_rfl)
                exact Zof hZ (hZ4046_10 g446q _ _ inferInstance (by simp only [df_put]; exact hdf4146) (es rfl (es rfl l7_4146)) (es rfl (es rfl l52_4146)) (es rfl (es rfl l54_4146)) (et rfl) ((es rfl (es rfl l2_4146)).trans l2_42.symm) ((es rfl (es rfl l3_4146)).trans l3_42.symm) ((es rfl (es rfl l6_4146)).trans l6_42.symm) (by subst hce0_4146 hc3_4146 hc2_4146; exact hS4146))
              · skip
                refine W_allocS (z := .agg #[.slice none 0 0, .slice none 0 0]) (zs := #[.slice none 0 0, .slice none 0 0]) hS4146 rfl rfl rfl (by kernel_rfl) (by rfl) (fun g4149 w4149 c4149 hc4149 hS4149 => ?_)
                replace hS4149 : St w NoX [c4149, ce0_4146, c3_4146, c2_4146] w4149 := hS4149
                refine W_end ?_
                refine kq _ ?_
                refine AX_cast (l2 := #[true, false, true, false, false, true, false, true, false, false, true, true, false, false]) ?_ (by kernel_rfl)
                exact Zof hZ (hZ4046_12 g446q g4149 _ _ inferInstance (by simp only [df_put]; exact hdf4146) (es rfl l7_4146) (et rfl) (es rfl l52_4146) (es rfl l54_4146) (es rfl l57_4146) (es rfl l59_4146) ((es rfl l2_4146).trans l2_42.symm) ((es rfl l3_4146).trans l3_42.symm) ((es rfl l6_4146).trans l6_42.symm) (by subst hc4149 hce0_4146 hc3_4146 hc2_4146; exact hS4149))
            have hZ4046_4 : ∀ (g546q : Nat) (A' : Act) (w' : World), SzN A' 114 → A'.defers = [] → EV A' (.tmp 8) = .pointer (some ⟨g546q, 0, none⟩) → EV A' (.tmp 52) = .pointer (some ⟨g2, 0, none⟩) → EV A' (.tmp 54) = .int .i64 ((k : Int)) → EV A' (.tmp 57) = .pointer (some ⟨g3, 0, none⟩) → EV A' (.tmp 59) = .int .i64 ((k : Int)) → EV A' (.tmp 2) = EV A42 (.tmp 2) → EV A' (.tmp 3) = EV A42 (.tmp 3) → EV A' (.tmp 6) = EV A42 (.tmp 6) → St w NoX [bx g546q 40 #[.slice none 0 0, .slice none 0 0], bx g3 25 #[ov2, rv2], bx g2 25 #[ov, rv]] w' → Z 9 #[true, false, true, false, false, true, false, true, false, false, false, true, false, false] A' w' := by
              intro g546q A4150 w4150 hsz4150 hdf4150 l8_4150 l52_4150 l54_4150 l57_4150 l59_4150 u2_4150 u3_4150 u6_4150 hS4150
              have l2_4150 := u2_4150.trans l2_42
              have l3_4150 := u3_4150.trans l3_42
              have l6_4150 := u6_4150.trans l6_42
              obtain ⟨ce0_4150, c3_4150, c2_4150, hce0_4150, hc3_4150, hc2_4150, hS4150⟩ := gen3 hS4150
              refine Zto hZ ?_
              refine AX_3 (i := 1) (j := 6) (m := 10) (by kernel_rfl) rfl rfl rfl ?_ ?_ ?_
              · skip
                refine W_r rfl rfl (VR_ldC rfl l52_4150 (cell_box (v := ov) (hS4150.obj 2 rfl hc2_4150) rfl) Try.underlying22 rfl) ?_
                refine W_end ?_
                refine kq _ ?_
                refine AX_cast (l2 := #[true, true, true, false, false, true, false, true, false, false, false, true, false, false]) ?_ (by kernel_rfl)
                refine AX_first (i := 3) (by kernel_rfl) (by kernel_rfl) (by kernel_rfl) rfl rfl rfl (V_ixS (off := O46 + k * 2) 2 (k) rfl (et rfl) (es rfl l54_4150) hv46 (by omega) k46 Try.underlying22 (by kernel_rfl) rfl) ?_
                refine AX_cast (l2 := #[true, true, true, true, false, true, false, true, false, false, false, true, false, false]) ?_ (by kernel_rfl)
                exact Zof hZ (hZ4046_8 g546q _ _ inferInstance (by simp only [df_put]; exact hdf4150) (es rfl (es rfl l8_4150)) (et rfl) (es rfl (es rfl l57_4150)) (es rfl (es rfl l59_4150)) ((es rfl (es rfl l2_4150)).trans l2_42.symm) ((es rfl (es rfl l3_4150)).trans l3_42.symm) ((es rfl (es rfl l6_4150)).trans l6_42.symm) (by subst hce0_4150 hc3_4150 hc2_4150; exact hS4150))
              · skip
                refine W_r rfl rfl (VR_ldC rfl l57_4150 (cell_box (v := ov2) (hS4150.obj 1 rfl hc3_4150) rfl) Try.underlying22 rfl) ?_
                refine W_end ?_
                refine kq _ ?_
                refine AX_cast (l2 := #[true, false, true, false, false, true, true, true, false, false, false, true, false, false]) ?_ (by kernel_rfl)
                refine AX_first (i := 8) (by kernel_rfl) (by kernel_rfl) (by kernel_rfl) rfl rfl rfl (V_ixS (off := O49 + k * 2) 2 (k) rfl (et rfl) (es rfl l59_4150) hv49 (by omega) k49 Try.underlying22 (by kernel_rfl) rfl) ?_
                refine AX_cast (l2 := #[true, false, true, false, false, true, true, true, true, false, false, true, false, false]) ?_ (by kernel_rfl)
                exact Zof hZ (hZ4046_11 g546q _ _ inferInstance (by simp only [df_put]; exact hdf4150) (es rfl (es rfl l8_4150)) (es rfl (es rfl l52_4150)) (es rfl (es rfl l54_4150)) (et rfl) ((es rfl (es rfl l2_4150)).trans l2_42.symm) ((es rfl (es rfl l3_4150)).trans l3_42.symm) ((es rfl (es rfl l6_4150)).trans l6_42.symm) (by subst hce0_4150 hc3_4150 hc2_4150; exact hS4150))
              · skip
                refine W_allocS (z := .agg #[.slice none 0 0, .slice none 0 0]) (zs := #[.slice none 0 0, .slice none 0 0]) hS4150 rfl rfl rfl (by kernel_rfl) (by rfl) (fun g4153 w4153 c4153 hc4153 hS4153 => ?_)
                replace hS4153 : St w NoX [c4153, ce0_4150, c3_4150, c2_4150] w4153 := hS4153
                refine W_end ?_
                refine kq _ ?_
                refine AX_cast (l2 := #[true, false, true, false, false, true, false, true, false, false, true, true, false, false]) ?_ (by kernel_rfl)
                have hS4154 : St w NoX [ce0_4150, c4153, c3_4150, c2_4150] w4153 := hS4153.sel [1, 0, 2, 3] (by decide) rfl
                exact Zof hZ (hZ4046_12 g4153 g546q _ _ inferInstance (by simp only [df_put]; exact hdf4150) (et rfl) (es rfl l8_4150) (es rfl l52_4150) (es rfl l54_4150) (es rfl l57_4150) (es rfl l59_4150) ((es rfl l2_4150).trans l2_42.symm) ((es rfl l3_4150).trans l3_42.symm) ((es rfl l6_4150).trans l6_42.symm) (by subst hce0_4150 hc4153 hc3_4150 hc2_4150; exact hS4154))
            have hZ4046_0 : ∀ (A' : Act) (w' : World), SzN A' 114 → A'.defers = [] → EV A' (.tmp 52) = .pointer (some ⟨g2, 0, none⟩) → EV A' (.tmp 54) = .int .i64 ((k : Int)) → EV A' (.tmp 57) = .pointer (some ⟨g3, 0, none⟩) → EV A' (.tmp 59) = .int .i64 ((k : Int)) → EV A' (.tmp 2) = EV A42 (.tmp 2) → EV A' (.tmp 3) = EV A42 (.tmp 3) → EV A' (.tmp 6) = EV A42 (.tmp 6) → St w NoX [bx g3 25 #[ov2, rv2], bx g2 25 #[ov, rv]] w' → Z 10 #[true, false, true, false, false, true, false, true, false, false, false, false, false, false] A' w' := by
              intro A4155 w4155 hsz4155 hdf4155 l52_4155 l54_4155 l57_4155 l59_4155 u2_4155 u3_4155 u6_4155 hS4155
              have l2_4155 := u2_4155.trans l2_42
              have l3_4155 := u3_4155.trans l3_42
              have l6_4155 := u6_4155.trans l6_42
              obtain ⟨c3_4155, c2_4155, hc3_4155, hc2_4155, hS4155⟩ := gen2 hS4155
              refine Zto hZ ?_
              refine AX_4 (i := 1) (j := 6) (m := 10) (q := 11) (by kernel_rfl) rfl rfl rfl rfl ?_ ?_ ?_ ?_
              · skip
                refine W_r rfl rfl (VR_ldC rfl l52_4155 (cell_box (v := ov) (hS4155.obj 1 rfl hc2_4155) rfl) Try.underlying22 rfl) ?_
                refine W_end ?_
                refine kq _ ?_
                refine AX_cast (l2 := #[true, true, true, false, false, true, false, true, false, false, false, false, false, false]) ?_ (by kernel_rfl)
                refine AX_first (i := 3) (by kernel_rfl) (by kernel_rfl) (by kernel_rfl) rfl rfl rfl (V_ixS (off := O46 + k * 2) 2 (k) rfl (et rfl) (es rfl l54_4155) hv46 (by omega) k46 Try.underlying22 (by kernel_rfl) rfl) ?_
                refine AX_cast (l2 := #[true, true, true, true, false, true, false, true, false, false, false, false, false, false]) ?_ (by kernel_rfl)
                exact Zof hZ (hZ4046_1 _ _ inferInstance (by simp only [df_put]; exact hdf4155) (et rfl) (es rfl (es rfl l57_4155)) (es rfl (es rfl l59_4155)) ((es rfl (es rfl l2_4155)).trans l2_42.symm) ((es rfl (es rfl l3_4155)).trans l3_42.symm) ((es rfl (es rfl l6_4155)).trans l6_42.symm) (by subst hc3_4155 hc2_4155; exact hS4155))
              · skip
                refine W_r rfl rfl (VR_ldC rfl l57_4155 (cell_box (v := ov2) (hS4155.obj 0 rfl hc3_4155) rfl) Try.underlying22 rfl) ?_
                refine W_end ?_
                refine kq _ ?_
                refine AX_cast (l2 := #[true, false, true, false, false, true, true, true, false, false, false, false, false, false]) ?_ (by kernel_rfl)
                refine AX_first (i := 8) (by kernel_rfl) (by kernel_rfl) (by kernel_rfl) rfl rfl rfl (V_ixS (off := O49 + k * 2) 2 (k) rfl (et rfl) (es rfl l59_4155) hv49 (by omega) k49 Try.underlying22 (by kernel_rfl) rfl) ?_
                refine AX_cast (l2 := #[true, false, true, false, false, true, true, true, true, false, false, false, false, false]) ?_ (by kernel_rfl)
                exact Zof hZ (hZ4046_2 _ _ inferInstance (by simp only [df_put]; exact hdf4155) (es rfl (es rfl l52_4155)) (es rfl (es rfl l54_4155)) (et rfl) ((es rfl (es rfl l2_4155)).trans l2_42.symm) ((es rfl (es rfl l3_4155)).trans l3_42.symm) ((es rfl (es rfl l6_4155)).trans l6_42.symm) (by subst hc3_4155 hc2_4155; exact hS4155))
              · skip
                refine W_allocS (z := .agg #[.slice none 0 0, .slice none 0 0]) (zs := #[.slice none 0 0, .slice none 0 0]) hS4155 rfl rfl rfl (by kernel_rfl) (by rfl) (fun g4158 w4158 c4158 hc4158 hS4158 => ?_)
                replace hS4158 : St w NoX [c4158, c3_4155, c2_4155] w4158 := hS4158
                refine W_end ?_
                refine kq _ ?_
                refine AX_cast (l2 := #[true, false, true, false, false, true, false, true, false, false, true, false, false, false]) ?_ (by kernel_rfl)
                exact Zof hZ (hZ4046_3 g4158 _ _ inferInstance (by simp only [df_put]; exact hdf4155) (et rfl) (es rfl l52_4155) (es rfl l54_4155) (es rfl l57_4155) (es rfl l59_4155) ((es rfl l2_4155).trans l2_42.symm) ((es rfl l3_4155).trans l3_42.symm) ((es rfl l6_4155).trans l6_42.symm) (by subst hc4158 hc3_4155 hc2_4155; exact hS4158))
              · skip
                refine W_allocS (z := .agg #[.slice none 0 0, .slice none 0 0]) (zs := #[.slice none 0 0, .slice none 0 0]) hS4155 rfl rfl rfl (by kernel_rfl) (by rfl) (fun g4159 w4159 c4159 hc4159 hS4159 => ?_)
                replace hS4159 : St w NoX [c4159, c3_4155, c2_4155] w4159 := hS4159
                refine W_end ?_
                refine kq _ ?_
                refine AX_cast (l2 := #[true, false, true, false, false, true, false, true, false, false, false, true, false, false]) ?_ (by kernel_rfl)
                exact Zof hZ (hZ4046_4 g4159 _ _ inferInstance (by simp only [df_put]; exact hdf4155) (et rfl) (es rfl l52_4155) (es rfl l54_4155) (es rfl l57_4155) (es rfl l59_4155) ((es rfl l2_4155).trans l2_42.symm) ((es rfl l3_4155).trans l3_42.symm) ((es rfl l6_4155).trans l6_42.symm) (by subst hc4159 hc3_4155 hc2_4155; exact hS4159))
            refine AX_cast (l2 := #[false, false, false, false, false, false, false, false, false, false, false, false, false, false]) ?_ (by kernel_rfl)
            refine AX_first (i := 0) (by kernel_rfl) (by kernel_rfl) (by kernel_rfl) rfl rfl rfl (V_fa (off' := 0) rfl l2_42 Try.underlying25 rfl (by decide +kernel) rfl) ?_
            refine AX_cast (l2 := #[true, false, false, false, false, false, false, false, false, false, false, false, false, false]) ?_ (by kernel_rfl)
            refine AX_first (i := 2) (by kernel_rfl) (by kernel_rfl) (by kernel_rfl) rfl rfl rfl (V_mov rfl (es rfl l6_42)) ?_
            refine AX_cast (l2 := #[true, false, true, false, false, false, false, false, false, false, false, false, false, false]) ?_ (by kernel_rfl)
            refine AX_first (i := 5) (by kernel_rfl) (by kernel_rfl) (by kernel_rfl) rfl rfl rfl (V_fa (off' := 0) rfl (es rfl (es rfl l3_42)) Try.underlying25 rfl (by decide +kernel) rfl) ?_
            refine AX_cast (l2 := #[true, false, true, false, false, true, false, false, false, false, false, false, false, false]) ?_ (by kernel_rfl)
            refine AX_first (i := 7) (by kernel_rfl) (by kernel_rfl) (by kernel_rfl) rfl rfl rfl (V_mov rfl (e2 rfl (es rfl l6_42))) ?_
            refine AX_cast (l2 := #[true, false, true, false, false, true, false, true, false, false, false, false, false, false]) ?_ (by kernel_rfl)
            exact Zof hZ (hZ4046_0 _ _ inferInstance (by simp only [df_put]; exact hdf42) (e3 rfl (et rfl)) (e2 rfl (et rfl)) (es rfl (et rfl)) (et rfl) ((e3 rfl (es rfl l2_42)).trans l2_42.symm) ((e3 rfl (es rfl l3_42)).trans l3_42.symm) ((e3 rfl (es rfl l6_42)).trans l6_42.symm) (by subst hc3_39 hc2_39; exact hS4046))
          · rintro A4160 w4160 ⟨g3948q, g3949q, hsz4160, hdf4160, l7_4160, l8_4160, u2_4160, u3_4160, u6_4160, hS4160⟩
            have l2_4160 := u2_4160.trans l2_42
            have l3_4160 := u3_4160.trans l3_42
            have l6_4160 := u6_4160.trans l6_42
            clear hsz42 hdf42 hS39 l2_42 l3_42 l6_42 l49_42
            obtain ⟨ce0_4160, ce1_4160, c3_4160, c2_4160, hce0_4160, hce1_4160, hc3_4160, hc2_4160, hS4160⟩ := gen4 hS4160
            refine then_n (hK45 _ _ ?_)
            clear hK45
            refine wp_seq_k (fun K4161 hK4161 => ?_)
            refine wp_seq_k (fun K4162 hK4162 => ?_)
            refine region_in ?_
            refine W_v rfl rfl (V_fa (off' := 0) rfl l7_4160 Try.underlying40 rfl (by decide +kernel) rfl) ?_
            refine W_r rfl rfl (VR_ldC rfl (et rfl) (cell_box (v := y46.1.1) (hS4160.obj 1 rfl hce1_4160) rfl) Try.underlying23 rfl) ?_
            refine W_v rfl rfl (V_lenS rfl (et rfl) (sl_SlN fn47.at) Try.underlying23) ?_
            refine W_v rfl rfl (V_fa (off' := 0) rfl (e2 rfl (es rfl l8_4160)) Try.underlying40 rfl (by decide +kernel) rfl) ?_
            refine W_r rfl rfl (VR_ldC rfl (et rfl) (cell_box (v := y49.1.1) (hS4160.obj 0 rfl hce0_4160) rfl) Try.underlying23 rfl) ?_
            refine W_v rfl rfl (V_lenS rfl (et rfl) (sl_SlN fn50.at) Try.underlying23) ?_
            refine W_v rfl rfl (V_neq rfl (e3 rfl (et rfl)) (et rfl)) ?_
            refine W_split rfl rfl (V_mov rfl (et rfl)) (fun c4163 => ?_) (fun c4163 => ?_)
            · skip
              refine W_off rfl (wanted_f rfl rfl (et rfl) (ez rfl) rfl) ?_
              refine W_off rfl (wanted_f rfl rfl (es rfl (et rfl)) (ez rfl) rfl) ?_
              refine W_off rfl (wanted_f rfl rfl (e2 rfl (et rfl)) (ez rfl) rfl) ?_
              refine W_off rfl (wanted_f rfl rfl (e3 rfl (et rfl)) (ez rfl) rfl) ?_
              refine W_off rfl (wanted_f rfl rfl (e4 rfl (et rfl)) (ez rfl) rfl) ?_
              refine W_off rfl (wanted_f rfl rfl (e5 rfl (et rfl)) (ez rfl) rfl) ?_
              refine W_off rfl (wanted_f rfl rfl (e6 rfl (et rfl)) (ez rfl) rfl) ?_
              refine W_v rfl rfl (V_pickT rfl (e7 rfl (et rfl)) rfl) ?_
              refine W_end ?_
              refine gen_Q (fun A4164 hA4164 => ?_)
              have hsz4164 := szq hA4164
              have hdf4164 : A4164.defers = [] := by rw [hA4164]; simp only [df_put]; exact hdf4160
              have l2_4164 := lookE hA4164 2 (e15 rfl (es rfl l2_4160))
              have l3_4164 := lookE hA4164 3 (e15 rfl (es rfl l3_4160))
              have l6_4164 := lookE hA4164 6 (e15 rfl (es rfl l6_4160))
              have l7_4164 := lookE hA4164 7 (e15 rfl (es rfl l7_4160))
              have l8_4164 := lookE hA4164 8 (e15 rfl (es rfl l8_4160))
              have l70_4164 := lookE hA4164 70 (e7 rfl (et rfl))
              have l71_4164 := lookE hA4164 71 (e6 rfl (et rfl))
              have l72_4164 := lookE hA4164 72 (e5 rfl (et rfl))
              have l73_4164 := lookE hA4164 73 (e4 rfl (et rfl))
              have l74_4164 := lookE hA4164 74 (e3 rfl (et rfl))
              have l75_4164 := lookE hA4164 75 (e2 rfl (et rfl))
              have l76_4164 := lookE hA4164 76 (es rfl (et rfl))
              have l77_4164 := lookE hA4164 77 (et rfl)
              clear hA4164 hsz4160 hdf4160 l7_4160 l8_4160 l2_4160 l3_4160 l6_4160
              refine then_n (hK4162 _ _ ?_)
              clear hK4162
              refine cond_t l77_4164 ?_
              refine wp_seq_k (fun K4165 hK4165 => ?_)
              refine region_in ?_
              refine W_v rfl rfl (V_asg rfl rfl) ?_
              refine W_end ?_
              refine gen_Q (fun A4166 hA4166 => ?_)
              have hsz4166 := szq hA4166
              have hdf4166 : A4166.defers = [] := by rw [hA4166]; simp only [df_put]; exact hdf4164
              have l4_4166 := lookE hA4166 4 (et rfl)
              clear hA4166 hsz4164 hdf4164 l2_4164 l3_4164 l6_4164 l7_4164 l8_4164 l70_4164 l71_4164 l72_4164 l73_4164 l74_4164 l75_4164 l76_4164 l77_4164
              have hS4167 : St w NoX [] w4160 := hS4160.sel [] (by decide) rfl
              refine then_n (hK4165 _ _ ?_)
              clear hK4165
              refine wp_ret ?_
              refine then_ret ?_
              refine inb_ret ?_
              refine then_ret ?_
              refine then_ret ?_
              refine inb_ret ?_
              refine then_ret ?_
              refine ret_in (results_1 Try.results16 (rv_tmp l4_4166)) hdf4166 ?_
              -- leaf FFFTT
              rw [show smG (O.map ab) rs (O2.map ab) rs2 = false from decide_eq_false (fun q => by have h1 := congrArg List.length (mp_get q.1 hy46 hy49).1; have h2 := congrArg List.length (mp_get q.1 hy46 hy49).2; have hc := c4163; omega)]
              exact ⟨rfl, hS4167.fin0⟩
            · skip
              refine W_v rfl (wanted_t rfl rfl (et rfl) (ez rfl)) (V_fa (off' := 1) rfl (e7 rfl (es rfl l7_4160)) Try.underlying40 rfl (by decide +kernel) rfl) ?_
              refine W_r rfl (wanted_t rfl rfl (es rfl (et rfl)) (ez rfl)) (VR_ldC rfl (et rfl) (cell_box (v := y46.2.1) (hS4160.obj 1 rfl hce1_4160) rfl) Try.underlying38 rfl) ?_
              refine W_v rfl (wanted_t rfl rfl (e2 rfl (et rfl)) (ez rfl)) (V_lenS rfl (et rfl) (sl_SlN fn48.at) Try.underlying38) ?_
              refine W_v rfl (wanted_t rfl rfl (e3 rfl (et rfl)) (ez rfl)) (V_fa (off' := 1) rfl (e10 rfl (es rfl l8_4160)) Try.underlying40 rfl (by decide +kernel) rfl) ?_
              refine W_r rfl (wanted_t rfl rfl (e4 rfl (et rfl)) (ez rfl)) (VR_ldC rfl (et rfl) (cell_box (v := y49.2.1) (hS4160.obj 0 rfl hce0_4160) rfl) Try.underlying38 rfl) ?_
              refine W_v rfl (wanted_t rfl rfl (e5 rfl (et rfl)) (ez rfl)) (V_lenS rfl (et rfl) (sl_SlN fn51.at) Try.underlying38) ?_
              refine W_v rfl (wanted_t rfl rfl (e6 rfl (et rfl)) (ez rfl)) (V_neq rfl (e3 rfl (et rfl)) (et rfl)) ?_
              refine W_v rfl rfl (V_pickF rfl (e7 rfl (et rfl)) (et rfl)) ?_
              refine W_end ?_
              refine gen_Q (fun A4168 hA4168 => ?_)
              have hsz4168 := szq hA4168
              have hdf4168 : A4168.defers = [] := by rw [hA4168]; simp only [df_put]; exact hdf4160
              have l2_4168 := lookE hA4168 2 (e15 rfl (es rfl l2_4160))
              have l3_4168 := lookE hA4168 3 (e15 rfl (es rfl l3_4160))
              have l6_4168 := lookE hA4168 6 (e15 rfl (es rfl l6_4160))
              have l7_4168 := lookE hA4168 7 (e15 rfl (es rfl l7_4160))
              have l8_4168 := lookE hA4168 8 (e15 rfl (es rfl l8_4160))
              have l70_4168 := lookE hA4168 70 (e7 rfl (et rfl))
              have l71_4168 := lookE hA4168 71 (e6 rfl (et rfl))
              have l72_4168 := lookE hA4168 72 (e5 rfl (et rfl))
              have l73_4168 := lookE hA4168 73 (e4 rfl (et rfl))
              have l74_4168 := lookE hA4168 74 (e3 rfl (et rfl))
              have l75_4168 := lookE hA4168 75 (e2 rfl (et rfl))
              have l76_4168 := lookE hA4168 76 (es rfl (et rfl))
              have l77_4168 := lookE hA4168 77 (et rfl)
              clear hA4168 hsz4160 hdf4160 l7_4160 l8_4160 l2_4160 l3_4160 l6_4160
              refine then_n (hK4162 _ _ ?_)
              clear hK4162
              refine cond_dec l77_4168 (fun c4169 => ?_) (fun c4169 => ?_)
              · skip
                refine wp_seq_k (fun K4170 hK4170 => ?_)
                refine region_in ?_
                refine W_v rfl rfl (V_asg rfl rfl) ?_
                refine W_end ?_
                refine gen_Q (fun A4171 hA4171 => ?_)
                have hsz4171 := szq hA4171
                have hdf4171 : A4171.defers = [] := by rw [hA4171]; simp only [df_put]; exact hdf4168
                have l4_4171 := lookE hA4171 4 (et rfl)
                clear hA4171 hsz4168 hdf4168 l2_4168 l3_4168 l6_4168 l7_4168 l8_4168 l70_4168 l71_4168 l72_4168 l73_4168 l74_4168 l75_4168 l76_4168 l77_4168
                have hS4172 : St w NoX [] w4160 := hS4160.sel [] (by decide) rfl
                refine then_n (hK4170 _ _ ?_)
                clear hK4170
                refine wp_ret ?_
                refine then_ret ?_
                refine inb_ret ?_
                refine then_ret ?_
                refine then_ret ?_
                refine inb_ret ?_
                refine then_ret ?_
                refine ret_in (results_1 Try.results16 (rv_tmp l4_4171)) hdf4171 ?_
                -- leaf FFFTFT
                rw [show smG (O.map ab) rs (O2.map ab) rs2 = false from decide_eq_false (fun q => by have h1 := congrArg List.length (mp_get q.1 hy46 hy49).1; have h2 := congrArg List.length (mp_get q.1 hy46 hy49).2; have hc := c4169; omega)]
                exact ⟨rfl, hS4172.fin0⟩
              · skip
                refine wp_skip ?_
                refine then_n (hK4161 _ _ ?_)
                clear hK4161
                refine wp_seq_k (fun K4173 hK4173 => ?_)
                refine wp_seq_k (fun K4174 hK4174 => ?_)
                refine region_in ?_
                refine W_v rfl rfl (V_asg rfl rfl) ?_
                refine W_end ?_
                refine gen_Q (fun A4175 hA4175 => ?_)
                have hsz4175 := szq hA4175
                have hdf4175 : A4175.defers = [] := by rw [hA4175]; simp only [df_put]; exact hdf4168
                have l2_4175 := lookE hA4175 2 (es rfl l2_4168)
                have l3_4175 := lookE hA4175 3 (es rfl l3_4168)
                have l6_4175 := lookE hA4175 6 (es rfl l6_4168)
                have l7_4175 := lookE hA4175 7 (es rfl l7_4168)
                have l8_4175 := lookE hA4175 8 (es rfl l8_4168)
                have l9_4175 := lookE hA4175 9 (et rfl)
                have l70_4175 := lookE hA4175 70 (es rfl l70_4168)
                have l71_4175 := lookE hA4175 71 (es rfl l71_4168)
                have l72_4175 := lookE hA4175 72 (es rfl l72_4168)
                have l73_4175 := lookE hA4175 73 (es rfl l73_4168)
                have l74_4175 := lookE hA4175 74 (es rfl l74_4168)
                have l75_4175 := lookE hA4175 75 (es rfl l75_4168)
                have l76_4175 := lookE hA4175 76 (es rfl l76_4168)
                clear hA4175 hsz4168 hdf4168 l2_4168 l3_4168 l6_4168 l7_4168 l8_4168 l70_4168 l71_4168 l72_4168 l73_4168 l74_4168 l75_4168 l76_4168 l77_4168
                refine then_n (hK4174 _ _ ?_)
                clear hK4174
                refine wp_block ?_
                -- loop 15
                refine loopX (fun mz A' w' => SzN A' 114 ∧ A'.defers = [] ∧ (∃ (m : Nat), (mz = y46.1.2.length - m) ∧ (m ≤ y46.1.2.length) ∧ (y46.1.2.take m = y49.1.2.take m) ∧ (EV A' (.tmp 9) = .int .i64 (m : Int)) ∧ (EV A' (.tmp 2) = EV A4175 (.tmp 2)) ∧ (EV A' (.tmp 3) = EV A4175 (.tmp 3)) ∧ (EV A' (.tmp 6) = EV A4175 (.tmp 6)) ∧ (EV A' (.tmp 7) = EV A4175 (.tmp 7)) ∧ (EV A' (.tmp 8) = EV A4175 (.tmp 8)) ∧ (EV A' (.tmp 70) = EV A4175 (.tmp 70)) ∧ (EV A' (.tmp 71) = EV A4175 (.tmp 71)) ∧ (EV A' (.tmp 72) = EV A4175 (.tmp 72)) ∧ (EV A' (.tmp 73) = EV A4175 (.tmp 73)) ∧ (EV A' (.tmp 74) = EV A4175 (.tmp 74)) ∧ (EV A' (.tmp 75) = EV A4175 (.tmp 75)) ∧ (EV A' (.tmp 76) = EV A4175 (.tmp 76)) ∧ (St w NoX [bx g3949q 40 #[y49.1.1, y49.2.1], bx g3948q 40 #[y46.1.1, y46.2.1], bx g3 25 #[ov2, rv2], bx g2 25 #[ov, rv]] w'))) (y46.1.2.length - 0) ⟨hsz4175, hdf4175, 0, rfl, (by omega), rfl, ((l9_4175).trans (by first | rfl | (simp; done) | (congr 1; omega))), rfl, rfl, rfl, rfl, rfl, rfl, rfl, rfl, rfl, rfl, rfl, rfl, (by subst hce0_4160 hce1_4160 hc3_4160 hc2_4160; exact hS4160)⟩ ?_
                clear hS4160 hce0_4160 hce1_4160 hc3_4160 hc2_4160
                rintro n4176 A4176 w4176 ⟨hsz4176, hdf4176, m, hm4176, hm, hzi, l9_4176, u2_4176, u3_4176, u6_4176, u7_4176, u8_4176, u70_4176, u71_4176, u72_4176, u73_4176, u74_4176, u75_4176, u76_4176, hS4176⟩
                have l2_4176 := u2_4176.trans l2_4175
                have l3_4176 := u3_4176.trans l3_4175
                have l6_4176 := u6_4176.trans l6_4175
                have l7_4176 := u7_4176.trans l7_4175
                have l8_4176 := u8_4176.trans l8_4175
                have l70_4176 := u70_4176.trans l70_4175
                have l71_4176 := u71_4176.trans l71_4175
                have l72_4176 := u72_4176.trans l72_4175
                have l73_4176 := u73_4176.trans l73_4175
                have l74_4176 := u74_4176.trans l74_4175
                have l75_4176 := u75_4176.trans l75_4175
                have l76_4176 := u76_4176.trans l76_4175
                obtain ⟨ce0_4176, ce1_4176, c3_4176, c2_4176, hce0_4176, hce1_4176, hc3_4176, hc2_4176, hS4176⟩ := gen4 hS4176
                refine wp_seq_k (fun K4177 hK4177 => ?_)
                refine wp_seq_k (fun K4178 hK4178 => ?_)
                refine region_in ?_
                refine W_v rfl rfl (V_mov rfl l9_4176) ?_
                refine W_v rfl rfl (V_fa (off' := 0) rfl (es rfl l7_4176) Try.underlying40 rfl (by decide +kernel) rfl) ?_
                refine W_r rfl rfl (VR_ldC rfl (et rfl) (cell_box (v := y46.1.1) (hS4176.obj 1 rfl hce1_4176) rfl) Try.underlying23 rfl) ?_
                refine W_v rfl rfl (V_lenS rfl (et rfl) (sl_SlN fn47.at) Try.underlying23) ?_
                refine W_v rfl rfl (V_lss rfl (e3 rfl (et rfl)) (et rfl)) ?_
                refine W_end ?_
                refine gen_Q (fun A4179 hA4179 => ?_)
                have hsz4179 := szq hA4179
                have hdf4179 : A4179.defers = [] := by rw [hA4179]; simp only [df_put]; exact hdf4176
                have l2_4179 := lookE hA4179 2 (e4 rfl (es rfl l2_4176))
                have l3_4179 := lookE hA4179 3 (e4 rfl (es rfl l3_4176))
                have l6_4179 := lookE hA4179 6 (e4 rfl (es rfl l6_4176))
                have l7_4179 := lookE hA4179 7 (e4 rfl (es rfl l7_4176))
                have l8_4179 := lookE hA4179 8 (e4 rfl (es rfl l8_4176))
                have l9_4179 := lookE hA4179 9 (e4 rfl (es rfl l9_4176))
                have l70_4179 := lookE hA4179 70 (e4 rfl (es rfl l70_4176))
                have l71_4179 := lookE hA4179 71 (e4 rfl (es rfl l71_4176))
                have l72_4179 := lookE hA4179 72 (e4 rfl (es rfl l72_4176))
                have l73_4179 := lookE hA4179 73 (e4 rfl (es rfl l73_4176))
                have l74_4179 := lookE hA4179 74 (e4 rfl (es rfl l74_4176))
                have l75_4179 := lookE hA4179 75 (e4 rfl (es rfl l75_4176))
                have l76_4179 := lookE hA4179 76 (e4 rfl (es rfl l76_4176))
                have l82_4179 := lookE hA4179 82 (et rfl)
                clear hA4179 hsz4176 hdf4176 l9_4176 l2_4176 l3_4176 l6_4176 l7_4176 l8_4176 l70_4176 l71_4176 l72_4176 l73_4176 l74_4176 l75_4176 l76_4176
                refine then_n (hK4178 _ _ ?_)
                clear hK4178
                refine cond_dec l82_4179 (fun c4180 => ?_) (fun c4180 => ?_)
                · skip
                  refine wp_skip ?_
                  refine then_n (hK4177 _ _ ?_)
                  clear hK4177
                  refine wp_seq_k (fun K4181 hK4181 => ?_)
                  refine wp_block ?_
                  refine wp_seq_k (fun K4182 hK4182 => ?_)
                  refine region_monoS 11 11 [] (by kernel_rfl) (by kernel_rfl) ?_
                  refine D_v rfl rfl (V_fa (off' := 0) rfl l7_4179 Try.underlying40 rfl (by decide +kernel) rfl) rfl rfl ?_
                  refine D_r rfl rfl (by kernel_rfl) (fun sx hx hF => (VR_ldC rfl (et rfl) (cell_box (v := y46.1.1) ((hS4176.grow hx).obj 1 rfl hce1_4176) rfl) Try.underlying23 rfl)) rfl rfl ?_
                  refine D_v rfl rfl (V_mov rfl (es rfl (es rfl l9_4179))) rfl rfl ?_
                  have k4183 : m < y46.1.2.length := by first | omega | (simp only [List.length_cons, List.length_nil]; omega) | (simp only [List.length_set]; omega)
                  obtain ⟨y4183, hy4183⟩ := get_some (xs := y46.1.2) (k := m) k4183
                  obtain ⟨B4183, O4183, C4183, hv4183⟩ := (SlN.blk (sl_SlN fn47.at) (by first | omega | (simp only [List.length_cons, List.length_nil]; omega) | (simp only [List.length_set]; omega)))
                  refine D_v rfl rfl (V_ixS (off := O4183 + m) 1 (m) rfl (es rfl (et rfl)) (et rfl) hv4183 (by omega) k4183 Try.underlying23 (by kernel_rfl) (congrArg _ (Nat.mul_one _))) rfl rfl ?_
                  refine D_r rfl rfl (by kernel_rfl) (fun sx hx hF => (VR_ldC rfl (et rfl) ((sl_SlN ((hS4176.grow hx).ro fn47)).cell hv4183 (map_get hy4183)) Try.underlying3 rfl)) rfl rfl ?_
                  refine D_v rfl rfl (V_fa (off' := 0) rfl (e4 rfl (es rfl l8_4179)) Try.underlying40 rfl (by decide +kernel) rfl) rfl rfl ?_
                  refine D_r rfl rfl (by kernel_rfl) (fun sx hx hF => (VR_ldC rfl (et rfl) (cell_box (v := y49.1.1) ((hS4176.grow hx).obj 0 rfl hce0_4176) rfl) Try.underlying23 rfl)) rfl rfl ?_
                  refine D_v rfl rfl (V_mov rfl (e6 rfl (es rfl l9_4179))) rfl rfl ?_
                  have k4184 : m < y49.1.2.length := by first | omega | (simp only [List.length_cons, List.length_nil]; omega) | (simp only [List.length_set]; omega)
                  obtain ⟨y4184, hy4184⟩ := get_some (xs := y49.1.2) (k := m) k4184
                  obtain ⟨B4184, O4184, C4184, hv4184⟩ := (SlN.blk (sl_SlN fn50.at) (by first | omega | (simp only [List.length_cons, List.length_nil]; omega) | (simp only [List.length_set]; omega)))
                  refine D_v rfl rfl (V_ixS (off := O4184 + m) 1 (m) rfl (es rfl (et rfl)) (et rfl) hv4184 (by omega) k4184 Try.underlying23 (by kernel_rfl) (congrArg _ (Nat.mul_one _))) rfl rfl ?_
                  refine D_r rfl rfl (by kernel_rfl) (fun sx hx hF => (VR_ldC rfl (et rfl) ((sl_SlN ((hS4176.grow hx).ro fn50)).cell hv4184 (map_get hy4184)) Try.underlying3 rfl)) rfl rfl ?_
                  refine D_v rfl rfl (V_neq rfl (e5 rfl (et rfl)) (et rfl)) rfl rfl ?_
                  refine ZS_none hS4176 (Nat.le_refl _) (Nat.le_refl _) (fun s4185 hJ4185 hL4185 hF4185 => ?_)
                  have hS4185 := hJ4185.st; clear hF4185 hJ4185 hL4185
                  generalize s4185.1 = w4185 at *
                  replace hS4185 : St w NoX [ce0_4176, ce1_4176, c3_4176, c2_4176] w4185 := hS4185
                  refine gen_Q (fun A4186 hA4186 => ?_)
                  have hsz4186 := szq hA4186
                  have hdf4186 : A4186.defers = [] := by rw [hA4186]; simp only [df_put]; exact hdf4179
                  have l2_4186 := lookE hA4186 2 (e10 rfl (es rfl l2_4179))
                  have l3_4186 := lookE hA4186 3 (e10 rfl (es rfl l3_4179))
                  have l6_4186 := lookE hA4186 6 (e10 rfl (es rfl l6_4179))
                  have l7_4186 := lookE hA4186 7 (e10 rfl (es rfl l7_4179))
                  have l8_4186 := lookE hA4186 8 (e10 rfl (es rfl l8_4179))
                  have l9_4186 := lookE hA4186 9 (e10 rfl (es rfl l9_4179))
                  have l70_4186 := lookE hA4186 70 (e10 rfl (es rfl l70_4179))
                  have l71_4186 := lookE hA4186 71 (e10 rfl (es rfl l71_4179))
                  have l72_4186 := lookE hA4186 72 (e10 rfl (es rfl l72_4179))
                  have l73_4186 := lookE hA4186 73 (e10 rfl (es rfl l73_4179))
                  have l74_4186 := lookE hA4186 74 (e10 rfl (es rfl l74_4179))
                  have l75_4186 := lookE hA4186 75 (e10 rfl (es rfl l75_4179))
                  have l76_4186 := lookE hA4186 76 (e10 rfl (es rfl l76_4179))
                  have l95_4186 := lookE hA4186 95 (et rfl)
                  clear hA4186 hsz4179 hdf4179 l2_4179 l3_4179 l6_4179 l7_4179 l8_4179 l9_4179 l70_4179 l71_4179 l72_4179 l73_4179 l74_4179 l75_4179 l76_4179 l82_4179
                  refine then_n (hK4182 _ _ ?_)
                  clear hK4182
                  refine cond_dec l95_4186 (fun c4187 => ?_) (fun c4187 => ?_)
                  · skip
                    refine wp_seq_k (fun K4188 hK4188 => ?_)
                    refine region_in ?_
                    refine W_v rfl rfl (V_asg rfl rfl) ?_
                    refine W_end ?_
                    refine gen_Q (fun A4189 hA4189 => ?_)
                    have hsz4189 := szq hA4189
                    have hdf4189 : A4189.defers = [] := by rw [hA4189]; simp only [df_put]; exact hdf4186
                    have l4_4189 := lookE hA4189 4 (et rfl)
                    clear hA4189 hsz4186 hdf4186 l2_4186 l3_4186 l6_4186 l7_4186 l8_4186 l9_4186 l70_4186 l71_4186 l72_4186 l73_4186 l74_4186 l75_4186 l76_4186 l95_4186
                    have hS4190 : St w NoX [] w4185 := hS4185.sel [] (by decide) rfl
                    refine then_n (hK4188 _ _ ?_)
                    clear hK4188
                    refine wp_ret ?_
                    refine inb_ret ?_
                    refine then_ret ?_
                    refine then_ret ?_
                    refine inb_ret ?_
                    refine then_ret ?_
                    refine inb_ret ?_
                    refine then_ret ?_
                    refine then_ret ?_
                    refine inb_ret ?_
                    refine then_ret ?_
                    refine ret_in (results_1 Try.results16 (rv_tmp l4_4189)) hdf4189 ?_
                    -- leaf FFFTFFTT
                    rw [show smG (O.map ab) rs (O2.map ab) rs2 = false from decide_eq_false (fun q => tk_ne hy4183 hy4184 (by have hc := c4187; omega) (mp_get q.1 hy46 hy49).1)]
                    exact ⟨rfl, hS4190.fin0⟩
                  · skip
                    refine wp_skip ?_
                    refine inb_n ?_
                    refine then_n (hK4181 _ _ ?_)
                    clear hK4181
                    refine region_in ?_
                    refine W_v rfl rfl (V_mov rfl l9_4186) ?_
                    refine W_v rfl rfl (V_add rfl (et rfl) rfl (by omega) (by omega)) ?_
                    refine W_v rfl rfl (V_asg rfl (et rfl)) ?_
                    refine W_end ?_
                    refine gen_Q (fun A4191 hA4191 => ?_)
                    have hsz4191 := szq hA4191
                    have hdf4191 : A4191.defers = [] := by rw [hA4191]; simp only [df_put]; exact hdf4186
                    have l2_4191 := lookE hA4191 2 (e2 rfl (es rfl l2_4186))
                    have l3_4191 := lookE hA4191 3 (e2 rfl (es rfl l3_4186))
                    have l6_4191 := lookE hA4191 6 (e2 rfl (es rfl l6_4186))
                    have l7_4191 := lookE hA4191 7 (e2 rfl (es rfl l7_4186))
                    have l8_4191 := lookE hA4191 8 (e2 rfl (es rfl l8_4186))
                    have l9_4191 := lookE hA4191 9 (et rfl)
                    have l70_4191 := lookE hA4191 70 (e2 rfl (es rfl l70_4186))
                    have l71_4191 := lookE hA4191 71 (e2 rfl (es rfl l71_4186))
                    have l72_4191 := lookE hA4191 72 (e2 rfl (es rfl l72_4186))
                    have l73_4191 := lookE hA4191 73 (e2 rfl (es rfl l73_4186))
                    have l74_4191 := lookE hA4191 74 (e2 rfl (es rfl l74_4186))
                    have l75_4191 := lookE hA4191 75 (e2 rfl (es rfl l75_4186))
                    have l76_4191 := lookE hA4191 76 (e2 rfl (es rfl l76_4186))
                    clear hA4191 hsz4186 hdf4186 l2_4186 l3_4186 l6_4186 l7_4186 l8_4186 l9_4186 l70_4186 l71_4186 l72_4186 l73_4186 l74_4186 l75_4186 l76_4186 l95_4186
                    refine then_n ⟨y46.1.2.length - (m + 1), by simp only [hm4176]; omega, hsz4191, hdf4191, (m + 1), rfl, (by omega), (tk_step hzi hy4183 hy4184 (by have hc := c4187; omega)), ((l9_4191).trans (by first | rfl | (simp; done) | (congr 1; omega))), ((l2_4191).trans l2_4175.symm), ((l3_4191).trans l3_4175.symm), ((l6_4191).trans l6_4175.symm), ((l7_4191).trans l7_4175.symm), ((l8_4191).trans l8_4175.symm), ((l70_4191).trans l70_4175.symm), ((l71_4191).trans l71_4175.symm), ((l72_4191).trans l72_4175.symm), ((l73_4191).trans l73_4175.symm), ((l74_4191).trans l74_4175.symm), ((l75_4191).trans l75_4175.symm), ((l76_4191).trans l76_4175.symm), (by subst hce0_4176 hce1_4176 hc3_4176 hc2_4176; exact hS4185)⟩
                · skip
                  refine wp_exit ?_
                  refine then_exit ?_
                  refine then_exit ?_
                  refine inb_hit ?_
                  refine then_n (hK4173 _ _ ?_)
                  clear hK4173
                  refine wp_seq_k (fun K4192 hK4192 => ?_)
                  refine region_in ?_
                  refine W_v rfl rfl (V_asg rfl rfl) ?_
                  refine W_end ?_
                  refine gen_Q (fun A4193 hA4193 => ?_)
                  have hsz4193 := szq hA4193
                  have hdf4193 : A4193.defers = [] := by rw [hA4193]; simp only [df_put]; exact hdf4179
                  have l2_4193 := lookE hA4193 2 (es rfl l2_4179)
                  have l3_4193 := lookE hA4193 3 (es rfl l3_4179)
                  have l6_4193 := lookE hA4193 6 (es rfl l6_4179)
                  have l7_4193 := lookE hA4193 7 (es rfl l7_4179)
                  have l8_4193 := lookE hA4193 8 (es rfl l8_4179)
                  have l10_4193 := lookE hA4193 10 (et rfl)
                  have l70_4193 := lookE hA4193 70 (es rfl l70_4179)
                  have l71_4193 := lookE hA4193 71 (es rfl l71_4179)
                  have l72_4193 := lookE hA4193 72 (es rfl l72_4179)
                  have l73_4193 := lookE hA4193 73 (es rfl l73_4179)
                  have l74_4193 := lookE hA4193 74 (es rfl l74_4179)
                  have l75_4193 := lookE hA4193 75 (es rfl l75_4179)
                  have l76_4193 := lookE hA4193 76 (es rfl l76_4179)
                  clear hA4193 hsz4179 hdf4179 l2_4179 l3_4179 l6_4179 l7_4179 l8_4179 l9_4179 l70_4179 l71_4179 l72_4179 l73_4179 l74_4179 l75_4179 l76_4179 l82_4179
                  refine then_n (hK4192 _ _ ?_)
                  clear hK4192
                  refine wp_block ?_
                  -- loop 20
                  have hps : y46.1.2 = y49.1.2 := tk_all hzi (by omega) (by omega)
                  refine loopX (fun mz A' w' => SzN A' 114 ∧ A'.defers = [] ∧ (∃ (m : Nat), (mz = y46.2.2.length - m) ∧ (m ≤ y46.2.2.length) ∧ (y46.2.2.take m = y49.2.2.take m) ∧ (EV A' (.tmp 10) = .int .i64 (m : Int)) ∧ (EV A' (.tmp 2) = EV A4193 (.tmp 2)) ∧ (EV A' (.tmp 3) = EV A4193 (.tmp 3)) ∧ (EV A' (.tmp 6) = EV A4193 (.tmp 6)) ∧ (EV A' (.tmp 7) = EV A4193 (.tmp 7)) ∧ (EV A' (.tmp 8) = EV A4193 (.tmp 8)) ∧ (EV A' (.tmp 70) = EV A4193 (.tmp 70)) ∧ (EV A' (.tmp 71) = EV A4193 (.tmp 71)) ∧ (EV A' (.tmp 72) = EV A4193 (.tmp 72)) ∧ (EV A' (.tmp 73) = EV A4193 (.tmp 73)) ∧ (EV A' (.tmp 74) = EV A4193 (.tmp 74)) ∧ (EV A' (.tmp 75) = EV A4193 (.tmp 75)) ∧ (EV A' (.tmp 76) = EV A4193 (.tmp 76)) ∧ (St w NoX [bx g3949q 40 #[y49.1.1, y49.2.1], bx g3948q 40 #[y46.1.1, y46.2.1], bx g3 25 #[ov2, rv2], bx g2 25 #[ov, rv]] w'))) (y46.2.2.length - 0) ⟨hsz4193, hdf4193, 0, rfl, (by omega), rfl, ((l10_4193).trans (by first | rfl | (simp; done) | (congr 1; omega))), rfl, rfl, rfl, rfl, rfl, rfl, rfl, rfl, rfl, rfl, rfl, rfl, (by subst hce0_4176 hce1_4176 hc3_4176 hc2_4176; exact hS4176)⟩ ?_
                  clear hS4176 hce0_4176 hce1_4176 hc3_4176 hc2_4176
                  rintro n4194 A4194 w4194 ⟨hsz4194, hdf4194, m, hm4194, hm, hzi, l10_4194, u2_4194, u3_4194, u6_4194, u7_4194, u8_4194, u70_4194, u71_4194, u72_4194, u73_4194, u74_4194, u75_4194, u76_4194, hS4194⟩
                  have l2_4194 := u2_4194.trans l2_4193
                  have l3_4194 := u3_4194.trans l3_4193
                  have l6_4194 := u6_4194.trans l6_4193
                  have l7_4194 := u7_4194.trans l7_4193
                  have l8_4194 := u8_4194.trans l8_4193
                  have l70_4194 := u70_4194.trans l70_4193
                  have l71_4194 := u71_4194.trans l71_4193
                  have l72_4194 := u72_4194.trans l72_4193
                  have l73_4194 := u73_4194.trans l73_4193
                  have l74_4194 := u74_4194.trans l74_4193
                  have l75_4194 := u75_4194.trans l75_4193
                  have l76_4194 := u76_4194.trans l76_4193
                  obtain ⟨ce0_4194, ce1_4194, c3_4194, c2_4194, hce0_4194, hce1_4194, hc3_4194, hc2_4194, hS4194⟩ := gen4 hS4194
                  refine wp_seq_k (fun K4195 hK4195 => ?_)
                  refine wp_seq_k (fun K4196 hK4196 => ?_)
                  refine region_in ?_
                  refine W_v rfl rfl (V_mov rfl l10_4194) ?_
                  refine W_v rfl rfl (V_fa (off' := 1) rfl (es rfl l7_4194) Try.underlying40 rfl (by decide +kernel) rfl) ?_
                  refine W_r rfl rfl (VR_ldC rfl (et rfl) (cell_box (v := y46.2.1) (hS4194.obj 1 rfl hce1_4194) rfl) Try.underlying38 rfl) ?_
                  refine W_v rfl rfl (V_lenS rfl (et rfl) (sl_SlN fn48.at) Try.underlying38) ?_
                  refine W_v rfl rfl (V_lss rfl (e3 rfl (et rfl)) (et rfl)) ?_
                  refine W_end ?_
                  refine gen_Q (fun A4197 hA4197 => ?_)
                  have hsz4197 := szq hA4197
                  have hdf4197 : A4197.defers = [] := by rw [hA4197]; simp only [df_put]; exact hdf4194
                  have l2_4197 := lookE hA4197 2 (e4 rfl (es rfl l2_4194))
                  have l3_4197 := lookE hA4197 3 (e4 rfl (es rfl l3_4194))
                  have l6_4197 := lookE hA4197 6 (e4 rfl (es rfl l6_4194))
                  have l7_4197 := lookE hA4197 7 (e4 rfl (es rfl l7_4194))
                  have l8_4197 := lookE hA4197 8 (e4 rfl (es rfl l8_4194))
                  have l10_4197 := lookE hA4197 10 (e4 rfl (es rfl l10_4194))
                  have l70_4197 := lookE hA4197 70 (e4 rfl (es rfl l70_4194))
                  have l71_4197 := lookE hA4197 71 (e4 rfl (es rfl l71_4194))
                  have l72_4197 := lookE hA4197 72 (e4 rfl (es rfl l72_4194))
                  have l73_4197 := lookE hA4197 73 (e4 rfl (es rfl l73_4194))
                  have l74_4197 := lookE hA4197 74 (e4 rfl (es rfl l74_4194))
                  have l75_4197 := lookE hA4197 75 (e4 rfl (es rfl l75_4194))
                  have l76_4197 := lookE hA4197 76 (e4 rfl (es rfl l76_4194))
                  have l100_4197 := lookE hA4197 100 (et rfl)
                  clear hA4197 hsz4194 hdf4194 l10_4194 l2_4194 l3_4194 l6_4194 l7_4194 l8_4194 l70_4194 l71_4194 l72_4194 l73_4194 l74_4194 l75_4194 l76_4194
                  refine then_n (hK4196 _ _ ?_)
                  clear hK4196
                  refine cond_dec l100_4197 (fun c4198 => ?_) (fun c4198 => ?_)
                  · skip
                    refine wp_skip ?_
                    refine then_n (hK4195 _ _ ?_)
                    clear hK4195
                    refine wp_seq_k (fun K4199 hK4199 => ?_)
                    refine wp_block ?_
                    refine wp_seq_k (fun K4200 hK4200 => ?_)
                    refine region_monoS 11 11 [] (by kernel_rfl) (by kernel_rfl) ?_
                    refine D_v rfl rfl (V_fa (off' := 1) rfl l7_4197 Try.underlying40 rfl (by decide +kernel) rfl) rfl rfl ?_
                    refine D_r rfl rfl (by kernel_rfl) (fun sx hx hF => (VR_ldC rfl (et rfl) (cell_box (v := y46.2.1) ((hS4194.grow hx).obj 1 rfl hce1_4194) rfl) Try.underlying38 rfl)) rfl rfl ?_
                    refine D_v rfl rfl (V_mov rfl (es rfl (es rfl l10_4197))) rfl rfl ?_
                    have k4201 : m < y46.2.2.length := by first | omega | (simp only [List.length_cons, List.length_nil]; omega) | (simp only [List.length_set]; omega)
                    obtain ⟨y4201, hy4201⟩ := get_some (xs := y46.2.2) (k := m) k4201
                    obtain ⟨B4201, O4201, C4201, hv4201⟩ := (SlN.blk (sl_SlN fn48.at) (by first | omega | (simp only [List.length_cons, List.length_nil]; omega) | (simp only [List.length_set]; omega)))
                    refine D_v rfl rfl (V_ixS (off := O4201 + m) 1 (m) rfl (es rfl (et rfl)) (et rfl) hv4201 (by omega) k4201 Try.underlying38 (by kernel_rfl) (congrArg _ (Nat.mul_one _))) rfl rfl ?_
                    refine D_r rfl rfl (by kernel_rfl) (fun sx hx hF => (VR_ldC rfl (et rfl) ((sl_SlN ((hS4194.grow hx).ro fn48)).cell hv4201 (map_get hy4201)) Try.underlying45 rfl)) rfl rfl ?_
                    refine D_v rfl rfl (V_fa (off' := 1) rfl (e4 rfl (es rfl l8_4197)) Try.underlying40 rfl (by decide +kernel) rfl) rfl rfl ?_
                    refine D_r rfl rfl (by kernel_rfl) (fun sx hx hF => (VR_ldC rfl (et rfl) (cell_box (v := y49.2.1) ((hS4194.grow hx).obj 0 rfl hce0_4194) rfl) Try.underlying38 rfl)) rfl rfl ?_
                    refine D_v rfl rfl (V_mov rfl (e6 rfl (es rfl l10_4197))) rfl rfl ?_
                    have k4202 : m < y49.2.2.length := by first | omega | (simp only [List.length_cons, List.length_nil]; omega) | (simp only [List.length_set]; omega)
                    obtain ⟨y4202, hy4202⟩ := get_some (xs := y49.2.2) (k := m) k4202
                    obtain ⟨B4202, O4202, C4202, hv4202⟩ := (SlN.blk (sl_SlN fn51.at) (by first | omega | (simp only [List.length_cons, List.length_nil]; omega) | (simp only [List.length_set]; omega)))
                    refine D_v rfl rfl (V_ixS (off := O4202 + m) 1 (m) rfl (es rfl (et rfl)) (et rfl) hv4202 (by omega) k4202 Try.underlying38 (by kernel_rfl) (congrArg _ (Nat.mul_one _))) rfl rfl ?_
                    refine D_r rfl rfl (by kernel_rfl) (fun sx hx hF => (VR_ldC rfl (et rfl) ((sl_SlN ((hS4194.grow hx).ro fn51)).cell hv4202 (map_get hy4202)) Try.underlying45 rfl)) rfl rfl ?_
                    refine D_v rfl rfl (V_neq rfl (e5 rfl (et rfl)) (et rfl)) rfl rfl ?_
                    refine ZS_none hS4194 (Nat.le_refl _) (Nat.le_refl _) (fun s4203 hJ4203 hL4203 hF4203 => ?_)
                    have hS4203 := hJ4203.st; clear hF4203 hJ4203 hL4203
                    generalize s4203.1 = w4203 at *
                    replace hS4203 : St w NoX [ce0_4194, ce1_4194, c3_4194, c2_4194] w4203 := hS4203
                    refine gen_Q (fun A4204 hA4204 => ?_)
                    have hsz4204 := szq hA4204
                    have hdf4204 : A4204.defers = [] := by rw [hA4204]; simp only [df_put]; exact hdf4197
                    have l2_4204 := lookE hA4204 2 (e10 rfl (es rfl l2_4197))
                    have l3_4204 := lookE hA4204 3 (e10 rfl (es rfl l3_4197))
                    have l6_4204 := lookE hA4204 6 (e10 rfl (es rfl l6_4197))
                    have l7_4204 := lookE hA4204 7 (e10 rfl (es rfl l7_4197))
                    have l8_4204 := lookE hA4204 8 (e10 rfl (es rfl l8_4197))
                    have l10_4204 := lookE hA4204 10 (e10 rfl (es rfl l10_4197))
                    have l70_4204 := lookE hA4204 70 (e10 rfl (es rfl l70_4197))
                    have l71_4204 := lookE hA4204 71 (e10 rfl (es rfl l71_4197))
                    have l72_4204 := lookE hA4204 72 (e10 rfl (es rfl l72_4197))
                    have l73_4204 := lookE hA4204 73 (e10 rfl (es rfl l73_4197))
                    have l74_4204 := lookE hA4204 74 (e10 rfl (es rfl l74_4197))
                    have l75_4204 := lookE hA4204 75 (e10 rfl (es rfl l75_4197))
                    have l76_4204 := lookE hA4204 76 (e10 rfl (es rfl l76_4197))
                    have l113_4204 := lookE hA4204 113 (et rfl)
                    clear hA4204 hsz4197 hdf4197 l2_4197 l3_4197 l6_4197 l7_4197 l8_4197 l10_4197 l70_4197 l71_4197 l72_4197 l73_4197 l74_4197 l75_4197 l76_4197 l100_4197
                    refine then_n (hK4200 _ _ ?_)
                    clear hK4200
                    refine cond_dec l113_4204 (fun c4205 => ?_) (fun c4205 => ?_)
                    · skip
                      refine wp_seq_k (fun K4206 hK4206 => ?_)
                      refine region_in ?_
                      refine W_v rfl rfl (V_asg rfl rfl) ?_
                      refine W_end ?_
                      refine gen_Q (fun A4207 hA4207 => ?_)
                      have hsz4207 := szq hA4207
                      have hdf4207 : A4207.defers = [] := by rw [hA4207]; simp only [df_put]; exact hdf4204
                      have l4_4207 := lookE hA4207 4 (et rfl)
                      clear hA4207 hsz4204 hdf4204 l2_4204 l3_4204 l6_4204 l7_4204 l8_4204 l10_4204 l70_4204 l71_4204 l72_4204 l73_4204 l74_4204 l75_4204 l76_4204 l113_4204
                      have hS4208 : St w NoX [] w4203 := hS4203.sel [] (by decide) rfl
                      refine then_n (hK4206 _ _ ?_)
                      clear hK4206
                      refine wp_ret ?_
                      refine inb_ret ?_
                      refine then_ret ?_
                      refine then_ret ?_
                      refine inb_ret ?_
                      refine inb_ret ?_
                      refine then_ret ?_
                      refine then_ret ?_
                      refine inb_ret ?_
                      refine then_ret ?_
                      refine ret_in (results_1 Try.results16 (rv_tmp l4_4207)) hdf4207 ?_
                      -- leaf FFFTFFFTT
                      rw [show smG (O.map ab) rs (O2.map ab) rs2 = false from decide_eq_false (fun q => tk_ne hy4201 hy4202 (by have hc := c4205; omega) (mp_get q.1 hy46 hy49).2)]
                      exact ⟨rfl, hS4208.fin0⟩
                    · skip
                      refine wp_skip ?_
                      refine inb_n ?_
                      refine then_n (hK4199 _ _ ?_)
                      clear hK4199
                      refine region_in ?_
                      refine W_v rfl rfl (V_mov rfl l10_4204) ?_
                      refine W_v rfl rfl (V_add rfl (et rfl) rfl (by omega) (by omega)) ?_
                      refine W_v rfl rfl (V_asg rfl (et rfl)) ?_
                      refine W_end ?_
                      refine gen_Q (fun A4209 hA4209 => ?_)
                      have hsz4209 := szq hA4209
                      have hdf4209 : A4209.defers = [] := by rw [hA4209]; simp only [df_put]; exact hdf4204
                      have l2_4209 := lookE hA4209 2 (e2 rfl (es rfl l2_4204))
                      have l3_4209 := lookE hA4209 3 (e2 rfl (es rfl l3_4204))
                      have l6_4209 := lookE hA4209 6 (e2 rfl (es rfl l6_4204))
                      have l7_4209 := lookE hA4209 7 (e2 rfl (es rfl l7_4204))
                      have l8_4209 := lookE hA4209 8 (e2 rfl (es rfl l8_4204))
                      have l10_4209 := lookE hA4209 10 (et rfl)
                      have l70_4209 := lookE hA4209 70 (e2 rfl (es rfl l70_4204))
                      have l71_4209 := lookE hA4209 71 (e2 rfl (es rfl l71_4204))
                      have l72_4209 := lookE hA4209 72 (e2 rfl (es rfl l72_4204))
                      have l73_4209 := lookE hA4209 73 (e2 rfl (es rfl l73_4204))
                      have l74_4209 := lookE hA4209 74 (e2 rfl (es rfl l74_4204))
                      have l75_4209 := lookE hA4209 75 (e2 rfl (es rfl l75_4204))
                      have l76_4209 := lookE hA4209 76 (e2 rfl (es rfl l76_4204))
                      clear hA4209 hsz4204 hdf4204 l2_4204 l3_4204 l6_4204 l7_4204 l8_4204 l10_4204 l70_4204 l71_4204 l72_4204 l73_4204 l74_4204 l75_4204 l76_4204 l113_4204
                      refine then_n ⟨y46.2.2.length - (m + 1), by simp only [hm4194]; omega, hsz4209, hdf4209, (m + 1), rfl, (by omega), (tk_step hzi hy4201 hy4202 (by have hc := c4205; omega)), ((l10_4209).trans (by first | rfl | (simp; done) | (congr 1; omega))), ((l2_4209).trans l2_4193.symm), ((l3_4209).trans l3_4193.symm), ((l6_4209).trans l6_4193.symm), ((l7_4209).trans l7_4193.symm), ((l8_4209).trans l8_4193.symm), ((l70_4209).trans l70_4193.symm), ((l71_4209).trans l71_4193.symm), ((l72_4209).trans l72_4193.symm), ((l73_4209).trans l73_4193.symm), ((l74_4209).trans l74_4193.symm), ((l75_4209).trans l75_4193.symm), ((l76_4209).trans l76_4193.symm), (by subst hce0_4194 hce1_4194 hc3_4194 hc2_4194; exact hS4203)⟩
                  · skip
                    refine wp_exit ?_
                    refine then_exit ?_
                    refine then_exit ?_
                    refine inb_hit ?_
                    refine inb_n ?_
                    refine then_n (hK44 _ _ ?_)
                    clear hK44
                    refine region_in ?_
                    refine W_v rfl rfl (V_mov rfl l6_4197) ?_
                    refine W_v rfl rfl (V_add rfl (et rfl) rfl (by omega) (by omega)) ?_
                    refine W_v rfl rfl (V_asg rfl (et rfl)) ?_
                    refine W_end ?_
                    refine gen_Q (fun A4210 hA4210 => ?_)
                    have hsz4210 := szq hA4210
                    have hdf4210 : A4210.defers = [] := by rw [hA4210]; simp only [df_put]; exact hdf4197
                    have l2_4210 := lookE hA4210 2 (e2 rfl (es rfl l2_4197))
                    have l3_4210 := lookE hA4210 3 (e2 rfl (es rfl l3_4197))
                    have l6_4210 := lookE hA4210 6 (et rfl)
                    have l70_4210 := lookE hA4210 70 (e2 rfl (es rfl l70_4197))
                    have l71_4210 := lookE hA4210 71 (e2 rfl (es rfl l71_4197))
                    have l72_4210 := lookE hA4210 72 (e2 rfl (es rfl l72_4197))
                    have l73_4210 := lookE hA4210 73 (e2 rfl (es rfl l73_4197))
                    have l74_4210 := lookE hA4210 74 (e2 rfl (es rfl l74_4197))
                    have l75_4210 := lookE hA4210 75 (e2 rfl (es rfl l75_4197))
                    have l76_4210 := lookE hA4210 76 (e2 rfl (es rfl l76_4197))
                    clear hA4210 hsz4197 hdf4197 l2_4197 l3_4197 l6_4197 l7_4197 l8_4197 l10_4197 l70_4197 l71_4197 l72_4197 l73_4197 l74_4197 l75_4197 l76_4197 l100_4197
                    have hS4211 : St w NoX [c3_4194, c2_4194] w4194 := hS4194.sel [2, 3] (by decide) rfl
                    refine then_n ⟨O.length - (k + 1), by simp only [hm39]; omega, hsz4210, hdf4210, (k + 1), rfl, (by omega), (mp_step hz hy46 hy49 hps (tk_all hzi (by omega) (by omega))), ((l6_4210).trans (by first | rfl | (simp; done) | (congr 1; omega))), ((l2_4210).trans l2_38.symm), ((l3_4210).trans l3_38.symm), (by subst hc3_4194 hc2_4194; exact hS4211)⟩
        · skip
          refine wp_exit ?_
          refine then_exit ?_
          refine then_exit ?_
          refine inb_hit ?_
          refine then_n (hK36 _ _ ?_)
          clear hK36
          refine wp_seq_k (fun K4212 hK4212 => ?_)
          refine region_in ?_
          refine W_v rfl rfl (V_asg rfl rfl) ?_
          refine W_end ?_
          refine gen_Q (fun A4213 hA4213 => ?_)
          have hsz4213 := szq hA4213
          have hdf4213 : A4213.defers = [] := by rw [hA4213]; simp only [df_put]; exact hdf42
          have l4_4213 := lookE hA4213 4 (et rfl)
          clear hA4213 hsz42 hdf42 l2_42 l3_42 l6_42 l49_42
          have hS4214 : St w NoX [] w39 := hS39.sel [] (by decide) rfl
          refine then_n (hK4212 _ _ ?_)
          clear hK4212
          refine wp_ret ?_
          refine ret_in (results_1 Try.results16 (rv_tmp l4_4213)) hdf4213 ?_
          -- leaf FFFF
          rw [show smG (O.map ab) rs (O2.map ab) rs2 = true from decide_eq_true ⟨tk_all hz (by simp only [List.length_map]; omega) (by simp only [List.length_map]; omega), hrs⟩]
          exact ⟨rfl, hS4214.fin0⟩

end Go.Proofs.Ytdilbnmaihmgnaa