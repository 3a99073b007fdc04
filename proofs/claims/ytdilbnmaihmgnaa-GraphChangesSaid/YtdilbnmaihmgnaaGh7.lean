import Derived.Test.YtdilbnmaihmgnaaProg
import Derived.Test.YtdilbnmaihmgnaaGh6
import Derived.Test.YtdilbnmaihmgnaaPl15h
namespace Go.Proofs.Ytdilbnmaihmgnaa
open Go.RowKit Go.Own Go.Own.R Go.Own.G Go.Own.Gr


set_option maxHeartbeats 4000000 in
theorem kNw_c {n : Int} {w : World}   :
    Calls Try.prog 12 #[.int .i64 n] w fun e w' => ∃ hv H qv, e = .returned (.tuple #[.agg #[hv, qv], .int .i64 (nwE n)]) ∧ (H.map ab = []) ∧ St w NoX [ro 2 obC hv H, owl .i64 (H.map (·.1)), owl .u64 (H.map (·.2)), io .i64 (qv) (nwR n)] w' := by
  refine calls_in 14 Try.func12 rfl rfl (by simp) (fun A0 hsz0 hdf0 hargs => ?_)
  have l0_0 := hargs 0 (.int .i64 n) rfl
  clear hargs; replace hsz0 : SzN A0 14 := ⟨hsz0⟩
  have hS := St.nil w
  refine wp_seq_k (fun K1 hK1 => ?_)
  refine region_in ?_
  refine W_allocS (z := .agg #[.slice none 0 0, .slice none 0 0]) (zs := #[.slice none 0 0, .slice none 0 0]) hS rfl rfl rfl (by kernel_rfl) (by rfl) (fun g2 w2 c2 hc2 hS2 => ?_)
  replace hS2 : St w NoX [c2] w2 := hS2
  refine W_v rfl rfl (V_asg rfl rfl) ?_
  refine W_end ?_
  refine gen_Q (fun A3 hA3 => ?_)
  have hsz3 := szq hA3
  have hdf3 : A3.defers = [] := by rw [hA3]; simp only [df_put]; exact hdf0
  have l0_3 := lookE hA3 0 (es rfl (es rfl l0_0))
  have l2_3 := lookE hA3 2 (es rfl (et rfl))
  clear hA3 hsz0 hdf0 l0_0
  refine then_n (hK1 _ _ ?_)
  clear hK1
  refine wp_seq_k (fun K4 hK4 => ?_)
  refine wp_seq_k (fun K5 hK5 => ?_)
  refine region_in ?_
  refine W_v rfl rfl (V_mov rfl l0_3) ?_
  refine W_v rfl rfl (V_lss rfl (et rfl) rfl) ?_
  refine W_split rfl rfl (V_mov rfl (et rfl)) (fun c6 => ?_) (fun c6 => ?_)
  · skip
    refine W_off rfl (wanted_f rfl rfl (et rfl) (ez rfl) rfl) ?_
    refine W_off rfl (wanted_f rfl rfl (es rfl (et rfl)) (ez rfl) rfl) ?_
    refine W_v rfl rfl (V_pickT rfl (e2 rfl (et rfl)) rfl) ?_
    refine W_end ?_
    refine gen_Q (fun A7 hA7 => ?_)
    have hsz7 := szq hA7
    have hdf7 : A7.defers = [] := by rw [hA7]; simp only [df_put]; exact hdf3
    have l0_7 := lookE hA7 0 (e5 rfl (es rfl l0_3))
    have l2_7 := lookE hA7 2 (e5 rfl (es rfl l2_3))
    have l9_7 := lookE hA7 9 (et rfl)
    clear hA7 hsz3 hdf3 l0_3 l2_3
    refine then_n (hK5 _ _ ?_)
    clear hK5
    refine cond_t l9_7 ?_
    refine wp_seq_k (fun K8 hK8 => ?_)
    refine region_in ?_
    refine W_v rfl rfl (V_bldS (n := 2) (z := .agg #[.slice none 0 0, .slice none 0 0]) rfl (parts0) (by kernel_rfl) (by simp only [List.all_cons, List.all_nil, Bool.and_true] <;> rfl) (by kernel_rfl) (by simp only [List.foldl_cons, List.foldl_nil, Value.cells, List.setIfInBounds_toArray, List.set_cons_succ, List.set_cons_zero] <;> rfl)) ?_
    refine W_stAS 0 hS2 rfl hc2 rfl rfl rfl (es rfl l2_7) (et rfl) (by first | (rw [List.all_toArray] <;> rfl) | (simp only [List.all_toArray, List.all_cons, List.all_nil] <;> rfl)) (by rfl) (by kernel_rfl) (fun w9 c9 hc9 hS9 => ?_)
    replace hS9 : St w NoX [c9] w9 := hS9
    refine W_v rfl rfl (V_asg rfl rfl) ?_
    refine W_end ?_
    refine gen_Q (fun A10 hA10 => ?_)
    have hsz10 := szq hA10
    have hdf10 : A10.defers = [] := by rw [hA10]; simp only [df_put]; exact hdf7
    have l2_10 := lookE hA10 2 (es rfl (es rfl l2_7))
    have l3_10 := lookE hA10 3 (et rfl)
    clear hA10 hsz7 hdf7 l0_7 l2_7 l9_7
    refine then_n (hK8 _ _ ?_)
    clear hK8
    refine wp_ret ?_
    refine then_ret ?_
    refine ret_in (results_2 Try.results12 (rv_cellA l2_10 (hS9.obj 0 rfl hc9) Try.underlying25 rfl (by kernel_rfl)) (rv_tmp l3_10)) hdf10 ?_
    -- leaf T
    obtain ⟨c11, hc11, hS11⟩ := hS9.pnil (s := 2)
    replace hc11 : c11 = ro 2 obC (.slice none 0 0) ([] : List Ob) := hc11
    obtain ⟨c12, cb12, hc12, hcb12, hS12⟩ := gen2 (nst_nils hS11)
    replace hS12 : St w NoX [c12, cb12, c11, c9] w9 := hS12
    obtain ⟨c13, hc13, hS13⟩ := hS12.pnil (s := 1)
    have h := nw_e (n := n) (by omega)
    rw [h.1, h.2]
    exact ⟨_, ([] : List Ob), _, rfl, rfl, (hS13.fin4 3 rfl (hc11) 1 rfl (hc12) 2 rfl (hcb12) 0 rfl (hc13) (by decide))⟩
  · skip
    refine W_v rfl (wanted_t rfl rfl (et rfl) (ez rfl)) (V_mov rfl (e2 rfl (es rfl l0_3))) ?_
    refine W_v rfl (wanted_t rfl rfl (es rfl (et rfl)) (ez rfl)) (V_gtr rfl (et rfl) rfl) ?_
    refine W_v rfl rfl (V_pickF rfl (e2 rfl (et rfl)) (et rfl)) ?_
    refine W_end ?_
    refine gen_Q (fun A14 hA14 => ?_)
    have hsz14 := szq hA14
    have hdf14 : A14.defers = [] := by rw [hA14]; simp only [df_put]; exact hdf3
    have l0_14 := lookE hA14 0 (e5 rfl (es rfl l0_3))
    have l2_14 := lookE hA14 2 (e5 rfl (es rfl l2_3))
    have l9_14 := lookE hA14 9 (et rfl)
    clear hA14 hsz3 hdf3 l0_3 l2_3
    refine then_n (hK5 _ _ ?_)
    clear hK5
    refine cond_dec l9_14 (fun c15 => ?_) (fun c15 => ?_)
    · skip
      refine wp_seq_k (fun K16 hK16 => ?_)
      refine region_in ?_
      refine W_v rfl rfl (V_bldS (n := 2) (z := .agg #[.slice none 0 0, .slice none 0 0]) rfl (parts0) (by kernel_rfl) (by simp only [List.all_cons, List.all_nil, Bool.and_true] <;> rfl) (by kernel_rfl) (by simp only [List.foldl_cons, List.foldl_nil, Value.cells, List.setIfInBounds_toArray, List.set_cons_succ, List.set_cons_zero] <;> rfl)) ?_
      refine W_stAS 0 hS2 rfl hc2 rfl rfl rfl (es rfl l2_14) (et rfl) (by first | (rw [List.all_toArray] <;> rfl) | (simp only [List.all_toArray, List.all_cons, List.all_nil] <;> rfl)) (by rfl) (by kernel_rfl) (fun w17 c17 hc17 hS17 => ?_)
      replace hS17 : St w NoX [c17] w17 := hS17
      refine W_v rfl rfl (V_asg rfl rfl) ?_
      refine W_end ?_
      refine gen_Q (fun A18 hA18 => ?_)
      have hsz18 := szq hA18
      have hdf18 : A18.defers = [] := by rw [hA18]; simp only [df_put]; exact hdf14
      have l2_18 := lookE hA18 2 (es rfl (es rfl l2_14))
      have l3_18 := lookE hA18 3 (et rfl)
      clear hA18 hsz14 hdf14 l0_14 l2_14 l9_14
      refine then_n (hK16 _ _ ?_)
      clear hK16
      refine wp_ret ?_
      refine then_ret ?_
      refine ret_in (results_2 Try.results12 (rv_cellA l2_18 (hS17.obj 0 rfl hc17) Try.underlying25 rfl (by kernel_rfl)) (rv_tmp l3_18)) hdf18 ?_
      -- leaf FT
      obtain ⟨c19, hc19, hS19⟩ := hS17.pnil (s := 2)
      replace hc19 : c19 = ro 2 obC (.slice none 0 0) ([] : List Ob) := hc19
      obtain ⟨c20, cb20, hc20, hcb20, hS20⟩ := gen2 (nst_nils hS19)
      replace hS20 : St w NoX [c20, cb20, c19, c17] w17 := hS20
      obtain ⟨c21, hc21, hS21⟩ := hS20.pnil (s := 1)
      have h := nw_e (n := n) (by omega)
      rw [h.1, h.2]
      exact ⟨_, ([] : List Ob), _, rfl, rfl, (hS21.fin4 3 rfl (hc19) 1 rfl (hc20) 2 rfl (hcb20) 0 rfl (hc21) (by decide))⟩
    · skip
      refine wp_skip ?_
      refine then_n (hK4 _ _ ?_)
      clear hK4
      refine wp_seq_k (fun K22 hK22 => ?_)
      refine region_in ?_
      refine W_v rfl rfl (V_mov rfl l0_14) ?_
      refine W_mkS (z := .int .i64 0) (bytes := 8) n.toNat hS2 rfl rfl rfl (et rfl) (et rfl) (by omega) Try.underlying23 (by kernel_rfl) (by omega) rfl (fun v23 w23 c23 hc23 hS23 => ?_)
      replace hc23 : c23 = io .i64 v23 (List.replicate n.toNat (0 : Int)) := hc23.trans (by simp only [io, bo, List.map_replicate, List.length_replicate])
      replace hS23 : St w NoX [c23, c2] w23 := hS23
      refine W_v rfl rfl (V_bldS (n := 2) (z := .agg #[.slice none 0 0, .slice none 0 0]) rfl (parts1 (et rfl)) (by kernel_rfl) (by simp only [List.all_cons, List.all_nil, SlN_one (ow_at (hS23.chq 0 rfl hc23)), Bool.and_true] <;> rfl) (by kernel_rfl) (by simp only [List.foldl_cons, List.foldl_nil, Value.cells, List.setIfInBounds_toArray, List.set_cons_succ, List.set_cons_zero] <;> rfl)) ?_
      refine W_stAS 1 hS23 rfl hc2 rfl rfl rfl (e2 rfl (es rfl l2_14)) (et rfl) (by simp only [List.all_toArray, List.all_cons, List.all_nil, SlN_one (ow_at (hS23.chq 0 rfl hc23))] <;> rfl) (by rfl) (by kernel_rfl) (fun w24 c24 hc24 hS24 => ?_)
      replace hS24 : St w NoX [c23, c24] w24 := hS24
      refine W_v rfl rfl (V_asg rfl rfl) ?_
      refine W_end ?_
      refine gen_Q (fun A25 hA25 => ?_)
      have hsz25 := szq hA25
      have hdf25 : A25.defers = [] := by rw [hA25]; simp only [df_put]; exact hdf14
      have l2_25 := lookE hA25 2 (e3 rfl (es rfl l2_14))
      have l3_25 := lookE hA25 3 (et rfl)
      clear hA25 hsz14 hdf14 l0_14 l2_14 l9_14
      refine then_n (hK22 _ _ ?_)
      clear hK22
      refine wp_ret ?_
      refine ret_in (results_2 Try.results12 (rv_cellA l2_25 (hS24.obj 1 rfl hc24) Try.underlying25 rfl (by kernel_rfl)) (rv_tmp l3_25)) hdf25 ?_
      -- leaf FF
      obtain ⟨c26, hc26, hS26⟩ := hS24.pnil (s := 2)
      replace hc26 : c26 = ro 2 obC (.slice none 0 0) ([] : List Ob) := hc26
      obtain ⟨c27, cb27, hc27, hcb27, hS27⟩ := gen2 (nst_nils hS26)
      replace hS27 : St w NoX [c27, cb27, c26, c23, c24] w24 := hS27
      have h := nw_k (n := n) (by omega)
      rw [h.1, h.2]
      exact ⟨_, ([] : List Ob), _, rfl, rfl, (hS27.fin4 2 rfl (hc26) 0 rfl (hc27) 1 rfl (hcb27) 3 rfl (hc23) (by decide))⟩

set_option maxHeartbeats 4000000 in
theorem qCn_c {ov : Value} {O : List Ob} {rv : Value} {rs : List Int} {w : World} (h_ov : Ro w NoX (rl 2 obC ov O)) (n_ov : Ro w NoX (nst O)) (h_rv : Ro w NoX (il .i64 rv rs)) (hsm : SM (O.map ab)) (hrl : rs.length ≤ 1048576) (hol : O.length ≤ 1048576) :
    Calls Try.prog 35 #[.agg #[ov, rv]] w fun e w' => ∃ hv H qv, e = .returned (.agg #[hv, qv]) ∧ (H.map ab = (O.map ab)) ∧ St w NoX [ro 2 obC hv H, owl .i64 (H.map (·.1)), owl .u64 (H.map (·.2)), io .i64 (qv) rs] w' := by
  refine calls_in 40 Try.func35 rfl rfl (by simp) (fun A0 hsz0 hdf0 hargs => ?_)
  have l0_0 := hargs 0 (.agg #[ov, rv]) rfl
  clear hargs; replace hsz0 : SzN A0 40 := ⟨hsz0⟩
  have hS := St.nil w
  have bh_ov := SlN.le (sl_SlN h_ov.at)
  have bh_rv := SlN.le (sl_SlN h_rv.at)
  refine wp_seq_k (fun K1 hK1 => ?_)
  refine region_in ?_
  refine W_boxS (zs := #[ov, rv]) hS rfl rfl rfl l0_0 (by rfl) (fun g2 w2 c2 hc2 hS2 => ?_)
  replace hS2 : St w NoX [c2] w2 := hS2
  refine W_allocS (z := .agg #[.slice none 0 0, .slice none 0 0]) (zs := #[.slice none 0 0, .slice none 0 0]) hS2 rfl rfl rfl (by kernel_rfl) (by rfl) (fun g3 w3 c3 hc3 hS3 => ?_)
  replace hS3 : St w NoX [c3, c2] w3 := hS3
  refine W_end ?_
  refine gen_Q (fun A4 hA4 => ?_)
  have hsz4 := szq hA4
  have hdf4 : A4.defers = [] := by rw [hA4]; simp only [df_put]; exact hdf0
  have l1_4 := lookE hA4 1 (es rfl (et rfl))
  have l2_4 := lookE hA4 2 (et rfl)
  clear hA4 hsz0 hdf0 l0_0
  refine then_n (hK1 _ _ ?_)
  clear hK1
  refine wp_seq_k (fun K5 hK5 => ?_)
  refine region_in ?_
  refine W_litS (vs := []) (xs := []) 1 hS3 rfl rfl rfl (parts0) rfl Try.underlying23 (by kernel_rfl) (by decide) (by intro v hv; cases hv) (by rfl) (fun g6 w6 c6 hc6 hS6 => ?_)
  replace hc6 : c6 = io .i64 (.slice (some ⟨g6, 0, none⟩) 0 0) [] := hc6
  replace hS6 : St w NoX [c6, c3, c2] w6 := hS6
  refine W_v rfl rfl (V_fa (off' := 1) rfl (es rfl l1_4) Try.underlying25 rfl (by decide +kernel) rfl) ?_
  refine W_r rfl rfl (VR_ldC rfl (et rfl) (cell_box (v := rv) (hS6.obj 2 rfl hc2) rfl) Try.underlying23 rfl) ?_
  refine W_appS 1 0 hS6 rfl hc6 rfl rfl rfl (e2 rfl (et rfl)) (et rfl) Try.underlying23 Try.underlying23 (z := .int .i64 0) (bytes := 8) (by kernel_rfl) rfl (by decide) (sl_SlN (hS6.ro h_rv)) ones_i (by first | omega | (simp; done) | (simp; omega)) (by first | omega | (simp; done) | (simp; omega)) (fun v7 w7 c7 hc7 hS7 => ?_)
  replace hc7 : c7 = io .i64 v7 rs := hc7.trans (app_eq (by simp))
  replace hS7 : St w NoX [c7, c3, c2] w7 := hS7
  refine W_v rfl rfl (V_bldS (n := 2) (z := .agg #[.slice none 0 0, .slice none 0 0]) rfl (parts1 (et rfl)) (by kernel_rfl) (by simp only [List.all_cons, List.all_nil, SlN_one (ow_at (hS7.chq 0 rfl hc7)), Bool.and_true] <;> rfl) (by kernel_rfl) (by simp only [List.foldl_cons, List.foldl_nil, Value.cells, List.setIfInBounds_toArray, List.set_cons_succ, List.set_cons_zero] <;> rfl)) ?_
  refine W_allocS (z := .agg #[.slice none 0 0, .slice none 0 0]) (zs := #[.slice none 0 0, .slice none 0 0]) hS7 rfl rfl rfl (by kernel_rfl) (by rfl) (fun g8 w8 c8 hc8 hS8 => ?_)
  replace hS8 : St w NoX [c8, c7, c3, c2] w8 := hS8
  refine W_stAS 0 hS8 rfl hc8 rfl rfl rfl (et rfl) (es rfl (et rfl)) (by simp only [List.all_toArray, List.all_cons, List.all_nil, obC, SlN_one (ow_at (hS8.chq 1 rfl hc7))] <;> rfl) (by rfl) (by kernel_rfl) (fun w9 c9 hc9 hS9 => ?_)
  replace hS9 : St w NoX [c9, c7, c3, c2] w9 := hS9
  refine W_end ?_
  refine gen_Q (fun A10 hA10 => ?_)
  have hsz10 := szq hA10
  have hdf10 : A10.defers = [] := by rw [hA10]; simp only [df_put]; exact hdf4
  have l1_10 := lookE hA10 1 (e5 rfl (es rfl l1_4))
  have l2_10 := lookE hA10 2 (e5 rfl (es rfl l2_4))
  have l3_10 := lookE hA10 3 (et rfl)
  clear hA10 hsz4 hdf4 l1_4 l2_4
  refine then_n (hK5 _ _ ?_)
  clear hK5
  refine wp_seq_k (fun K11 hK11 => ?_)
  refine wp_seq_k (fun K12 hK12 => ?_)
  refine region_in ?_
  refine W_v rfl rfl (V_asg rfl rfl) ?_
  refine W_end ?_
  refine gen_Q (fun A13 hA13 => ?_)
  have hsz13 := szq hA13
  have hdf13 : A13.defers = [] := by rw [hA13]; simp only [df_put]; exact hdf10
  have l1_13 := lookE hA13 1 (es rfl l1_10)
  have l2_13 := lookE hA13 2 (es rfl l2_10)
  have l3_13 := lookE hA13 3 (es rfl l3_10)
  have l4_13 := lookE hA13 4 (et rfl)
  clear hA13 hsz10 hdf10 l1_10 l2_10 l3_10
  refine then_n (hK12 _ _ ?_)
  clear hK12
  refine wp_block ?_
  obtain ⟨c14, hc14, hS14⟩ := hS9.pnil (s := 2)
  replace hc14 : c14 = ro 2 obC (.slice none 0 0) ([] : List Ob) := hc14
  obtain ⟨c15, cb15, hc15, hcb15, hS15⟩ := gen2 (nst_nils hS14)
  replace hS15 : St w NoX [c15, cb15, c14, c9, c7, c3, c2] w9 := hS15
  -- loop 3
  refine loopX (fun mz A' w' => SzN A' 40 ∧ A'.defers = [] ∧ (∃ (k : Nat) (hv : Value) (H : List Ob), (mz = O.length - k) ∧ (k ≤ O.length) ∧ (H.map ab = (O.map ab).take k) ∧ (EV A' (.tmp 4) = .int .i64 (k : Int)) ∧ (EV A' (.tmp 1) = EV A13 (.tmp 1)) ∧ (EV A' (.tmp 2) = EV A13 (.tmp 2)) ∧ (EV A' (.tmp 3) = EV A13 (.tmp 3)) ∧ (St w NoX [owl .i64 (H.map (·.1)), owl .u64 (H.map (·.2)), ro 2 obC hv H, bx g8 25 #[hv, v7], io .i64 v7 rs, bx g3 25 #[.slice none 0 0, .slice none 0 0], bx g2 25 #[ov, rv]] w'))) (O.length - 0) ⟨hsz13, hdf13, 0, (.slice none 0 0), [], rfl, (by omega), rfl, ((l4_13).trans (by first | rfl | (simp; done) | (congr 1; omega))), rfl, rfl, rfl, (by subst hc15 hcb15 hc14 hc9 hc7 hc3 hc2; exact hS15)⟩ ?_
  clear hS15 hc15 hcb15 hc14 hc9 hc7 hc3 hc2
  rintro n16 A16 w16 ⟨hsz16, hdf16, k, hv, H, hm16, hk, hH, l4_16, u1_16, u2_16, u3_16, hS16⟩
  have l1_16 := u1_16.trans l1_13
  have l2_16 := u2_16.trans l2_13
  have l3_16 := u3_16.trans l3_13
  obtain ⟨c15_16, cb15_16, c14_16, c9_16, c7_16, c3_16, c2_16, hc15_16, hcb15_16, hc14_16, hc9_16, hc7_16, hc3_16, hc2_16, hS16⟩ := gen7 hS16
  refine wp_seq_k (fun K17 hK17 => ?_)
  refine wp_seq_k (fun K18 hK18 => ?_)
  refine region_in ?_
  refine W_v rfl rfl (V_mov rfl l4_16) ?_
  refine W_v rfl rfl (V_fa (off' := 0) rfl (es rfl l1_16) Try.underlying25 rfl (by decide +kernel) rfl) ?_
  refine W_r rfl rfl (VR_ldC rfl (et rfl) (cell_box (v := ov) (hS16.obj 6 rfl hc2_16) rfl) Try.underlying22 rfl) ?_
  refine W_v rfl rfl (V_lenS rfl (et rfl) (sl_SlN h_ov.at) Try.underlying22) ?_
  refine W_v rfl rfl (V_lss rfl (e3 rfl (et rfl)) (et rfl)) ?_
  refine W_end ?_
  refine gen_Q (fun A19 hA19 => ?_)
  have hsz19 := szq hA19
  have hdf19 : A19.defers = [] := by rw [hA19]; simp only [df_put]; exact hdf16
  have l1_19 := lookE hA19 1 (e4 rfl (es rfl l1_16))
  have l2_19 := lookE hA19 2 (e4 rfl (es rfl l2_16))
  have l3_19 := lookE hA19 3 (e4 rfl (es rfl l3_16))
  have l4_19 := lookE hA19 4 (e4 rfl (es rfl l4_16))
  have l14_19 := lookE hA19 14 (et rfl)
  clear hA19 hsz16 hdf16 l4_16 l1_16 l2_16 l3_16
  refine then_n (hK18 _ _ ?_)
  clear hK18
  refine cond_dec l14_19 (fun c20 => ?_) (fun c20 => ?_)
  · skip
    have hHl := mp_len hH hk
    refine wp_skip ?_
    refine then_n (hK17 _ _ ?_)
    clear hK17
    refine wp_seq_k (fun K21 hK21 => ?_)
    refine wp_block ?_
    have k23 : k < O.length := by first | omega | (simp only [List.length_cons, List.length_nil]; omega) | (simp only [List.length_set]; omega)
    obtain ⟨y23, hy23⟩ := get_some (xs := O) (k := k) k23
    have hsy := hsm.at hy23
    refine region_monoS 20 21 [none, none, some (SPv [] (fun _ => fun u l' => ∃ g_, u = .slice (some ⟨g_, 0, none⟩) 0 0 ∧ ∃ c_, c_ = io .i64 (.slice (some ⟨g_, 0, none⟩) 0 0) [] ∧ l' = [c_]) 2), none, none, none, none, none, none, some (SPv [] (fun _ => fun u l' => ∃ v_, u = v_ ∧ ∃ c_, c_ = io .i64 v_ y23.1.2 ∧ l' = [c_]) 9), some (SPv [] (fun _ => fun u l' => ∃ g_, u = .slice (some ⟨g_, 0, none⟩) 0 0 ∧ ∃ c_, c_ = io .u64 (.slice (some ⟨g_, 0, none⟩) 0 0) [] ∧ l' = [c_]) 10), none, none, none, none, none, none, some (SPv [] (fun _ => fun u l' => ∃ v_, u = v_ ∧ ∃ c_, c_ = io .u64 v_ y23.2.2 ∧ l' = [c_]) 17), none, some (SPv [26, 34] (fun vs => fun u l' => ∃ g_, u = .slice (some ⟨g_, 0, none⟩) 1 1 ∧ ∃ c_, c_ = ro 2 obC (.slice (some ⟨g_, 0, none⟩) 1 1) [(((vs.getD 0 undef), y23.1.2), ((vs.getD 1 undef), y23.2.2))] ∧ l' = [c_]) 19)] (by kernel_rfl) (by kernel_rfl) ?_
    refine D_v rfl rfl (V_fa (off' := 0) rfl l3_19 Try.underlying25 rfl (by decide +kernel) rfl) rfl rfl ?_
    refine D_r rfl rfl (by kernel_rfl) (fun sx hx hF => (VR_ldC rfl (et rfl) (cell_box (v := hv) ((hS16.grow hx).obj 3 rfl hc9_16) rfl) Try.underlying22 rfl)) rfl rfl ?_
    refine D_lay (ts := []) (vs := []) (C0 := fun _ => fun u l' => ∃ g_, u = .slice (some ⟨g_, 0, none⟩) 0 0 ∧ ∃ c_, c_ = io .i64 (.slice (some ⟨g_, 0, none⟩) 0 0) [] ∧ l' = [c_]) (C := fun u l' => ∃ g_, u = .slice (some ⟨g_, 0, none⟩) 0 0 ∧ ∃ c_, c_ = io .i64 (.slice (some ⟨g_, 0, none⟩) 0 0) [] ∧ l' = [c_]) rfl rfl rfl rfl rfl rfl (fun sx hx hF => lay_lit (vs := []) 1 rfl (parts0) rfl Try.underlying23 (by kernel_rfl) (by decide) (by intro v hv; cases hv) (by rfl)) (fun u22 l22 hu22 => ?_)
    obtain ⟨g22, rfl, c22, hc22, hl22⟩ := hu22
    refine D_v rfl rfl (V_fa (off' := 0) rfl (e2 rfl (es rfl l1_19)) Try.underlying25 rfl (by decide +kernel) rfl) rfl rfl ?_
    refine D_r rfl rfl (by kernel_rfl) (fun sx hx hF => (VR_ldC rfl (et rfl) (cell_box (v := ov) ((hS16.grow hx).obj 6 rfl hc2_16) rfl) Try.underlying22 rfl)) rfl rfl ?_
    refine D_v rfl rfl (V_mov rfl (e4 rfl (es rfl l4_19))) rfl rfl ?_
    obtain ⟨B23, O23, C23, hv23⟩ := (SlN.blk (sl_SlN h_ov.at) (by first | omega | (simp only [List.length_cons, List.length_nil]; omega) | (simp only [List.length_set]; omega)))
    refine D_v rfl rfl (V_ixS (off := O23 + k * 2) 2 (k) rfl (es rfl (et rfl)) (et rfl) hv23 (by omega) k23 Try.underlying22 (by kernel_rfl) rfl) rfl rfl ?_
    refine D_v rfl rfl (V_fa (off' := O23 + k * 2 + 0) rfl (et rfl) Try.underlying40 rfl (by decide +kernel) rfl) rfl rfl ?_
    have fn24 : Ro w NoX (il .i64 y23.1.1 y23.1.2) := nst_ro1 n_ov hy23
    have bfn24 := SlN.le (sl_SlN (hS16.ro fn24))
    have fn25 : Ro w NoX (il .u64 y23.2.1 y23.2.2) := nst_ro2 n_ov hy23
    have bfn25 := SlN.le (sl_SlN (hS16.ro fn25))
    refine D_r rfl rfl (by kernel_rfl) (fun sx hx hF => (VR_ldC (v := y23.1.1) rfl (et rfl) (SlN.row obC_len (sl_SlN ((hS16.grow hx).ro h_ov)) hv23 hy23 rfl 0 _ rfl) Try.underlying23 rfl)) rfl rfl ?_
    refine D_lay (ts := []) (vs := []) (C0 := fun _ => fun u l' => ∃ v_, u = v_ ∧ ∃ c_, c_ = io .i64 v_ y23.1.2 ∧ l' = [c_]) (C := fun u l' => ∃ v_, u = v_ ∧ ∃ c_, c_ = io .i64 v_ y23.1.2 ∧ l' = [c_]) rfl rfl rfl rfl rfl rfl (fun sx hx hF => lay_app0 (a := (some ⟨g22, 0, none⟩)) 1 rfl (e6 rfl (et rfl)) trivial (et rfl) Try.underlying23 Try.underlying23 (z := .int .i64 0) (bytes := 8) (by kernel_rfl) rfl (by decide) (sl_SlN ((hS16.grow hx).ro fn24)) ones_i (by first | omega | (simp; done) | (simp; omega)) (by first | omega | (simp; done) | (simp; omega))) (fun u26 l26 hu26 => ?_)
    obtain ⟨v26, rfl, c26, hc26, hl26⟩ := hu26
    refine D_lay (ts := []) (vs := []) (C0 := fun _ => fun u l' => ∃ g_, u = .slice (some ⟨g_, 0, none⟩) 0 0 ∧ ∃ c_, c_ = io .u64 (.slice (some ⟨g_, 0, none⟩) 0 0) [] ∧ l' = [c_]) (C := fun u l' => ∃ g_, u = .slice (some ⟨g_, 0, none⟩) 0 0 ∧ ∃ c_, c_ = io .u64 (.slice (some ⟨g_, 0, none⟩) 0 0) [] ∧ l' = [c_]) rfl rfl rfl rfl rfl rfl (fun sx hx hF => lay_lit (vs := []) 1 rfl (parts0) rfl Try.underlying38 (by kernel_rfl) (by decide) (by intro v hv; cases hv) (by rfl)) (fun u27 l27 hu27 => ?_)
    obtain ⟨g27, rfl, c27, hc27, hl27⟩ := hu27
    refine D_v rfl rfl (V_fa (off' := 0) rfl (e10 rfl (es rfl l1_19)) Try.underlying25 rfl (by decide +kernel) rfl) rfl rfl ?_
    refine D_r rfl rfl (by kernel_rfl) (fun sx hx hF => (VR_ldC rfl (et rfl) (cell_box (v := ov) ((hS16.grow hx).obj 6 rfl hc2_16) rfl) Try.underlying22 rfl)) rfl rfl ?_
    refine D_v rfl rfl (V_mov rfl (e12 rfl (es rfl l4_19))) rfl rfl ?_
    refine D_v rfl rfl (V_ixS (off := O23 + k * 2) 2 (k) rfl (es rfl (et rfl)) (et rfl) hv23 (by omega) k23 Try.underlying22 (by kernel_rfl) rfl) rfl rfl ?_
    refine D_v rfl rfl (V_fa (off' := O23 + k * 2 + 1) rfl (et rfl) Try.underlying40 rfl (by decide +kernel) rfl) rfl rfl ?_
    refine D_r rfl rfl (by kernel_rfl) (fun sx hx hF => (VR_ldC (v := y23.2.1) rfl (et rfl) (SlN.row obC_len (sl_SlN ((hS16.grow hx).ro h_ov)) hv23 hy23 rfl 1 _ rfl) Try.underlying38 rfl)) rfl rfl ?_
    refine D_lay (ts := []) (vs := []) (C0 := fun _ => fun u l' => ∃ v_, u = v_ ∧ ∃ c_, c_ = io .u64 v_ y23.2.2 ∧ l' = [c_]) (C := fun u l' => ∃ v_, u = v_ ∧ ∃ c_, c_ = io .u64 v_ y23.2.2 ∧ l' = [c_]) rfl rfl rfl rfl rfl rfl (fun sx hx hF => lay_app0 (a := (some ⟨g27, 0, none⟩)) 1 rfl (e6 rfl (et rfl)) trivial (et rfl) Try.underlying38 Try.underlying38 (z := .int .u64 0) (bytes := 8) (by kernel_rfl) rfl (by decide) (sl_SlN ((hS16.grow hx).ro fn25)) ones_i (by first | omega | (simp; done) | (simp; omega)) (by first | omega | (simp; done) | (simp; omega))) (fun u29 l29 hu29 => ?_)
    obtain ⟨v29, rfl, c29, hc29, hl29⟩ := hu29
    refine D_r rfl rfl (by kernel_rfl) (fun sx hx hF => by obtain ⟨ll26, ws26, we26, ⟨v26q, hq26, c26_, hc26_, hl26_⟩, hm26, k26, e26⟩ := L.ancF_get (L.ancF_rest (L.ancF_rest hF)) (by kernel_rfl); cases hq26; subst hl26_; obtain ⟨ll29, ws29, we29, ⟨v29q, hq29, c29_, hc29_, hl29_⟩, hm29, k29, e29⟩ := L.ancF_get hF (by kernel_rfl); cases hq29; subst hl29_; exact ((V_bldS (n := 2) (z := .agg #[.slice none 0 0, .slice none 0 0]) rfl (parts2 (e8 rfl (et rfl)) (et rfl)) (by kernel_rfl) (by simp only [List.all_cons, List.all_nil, SlN_one (ow_at ((k26.grow e26).chq 0 rfl hc26_)), SlN_one (ow_at ((k29.grow e29).chq 0 rfl hc29_)), Bool.and_true] <;> rfl) (by kernel_rfl) (by simp only [List.foldl_cons, List.foldl_nil, Value.cells, List.setIfInBounds_toArray, List.set_cons_succ, List.set_cons_zero] <;> rfl) : Val _ _ _ _) _)) rfl rfl ?_
    have hll30 : [((u26, y23.1.2), (u29, y23.2.2))].length = 1 := rfl
    refine D_lay (ts := [26, 34]) (vs := [u26, u29]) (C0 := fun vs => fun u l' => ∃ g_, u = .slice (some ⟨g_, 0, none⟩) 1 1 ∧ ∃ c_, c_ = ro 2 obC (.slice (some ⟨g_, 0, none⟩) 1 1) [(((vs.getD 0 undef), y23.1.2), ((vs.getD 1 undef), y23.2.2))] ∧ l' = [c_]) (C := fun u l' => ∃ g_, u = .slice (some ⟨g_, 0, none⟩) 1 1 ∧ ∃ c_, c_ = ro 2 obC (.slice (some ⟨g_, 0, none⟩) 1 1) [((u26, y23.1.2), (u29, y23.2.2))] ∧ l' = [c_]) rfl rfl rfl rfl (ts2 (e9 rfl (et rfl)) (es rfl (et rfl))) rfl (fun sx hx hF => lay_lit (vs := [.agg #[u26, u29]]) 2 rfl (parts1 (et rfl)) rfl Try.underlying22 (by kernel_rfl) (by decide) (by intro v hv; simp only [List.mem_cons, List.not_mem_nil, or_false] at hv; rcases hv with rfl <;> rfl) (by rfl)) (fun u30 l30 hu30 => ?_)
    obtain ⟨g30, rfl, c30, hc30, hl30⟩ := hu30
    refine D_eff rfl ?_
    refine ZS_eff hS16 rfl rfl (fun s31 hJ31 hL31 hF31 => ?_)
    obtain ⟨ll22, ws22, we22, ⟨g22q, hq22, c22r, hc22r, hl22r⟩, hm22, k22, e22⟩ := L.all_get (L.all_rest (L.all_rest (L.all_rest (L.all_rest hF31)))); cases hq22; subst hl22r
    replace hJ31 := hJ31.add hL31 (i := 2) rfl hm22 k22 e22
    obtain ⟨ll26, ws26, we26, ⟨v26q, hq26, c26r, hc26r, hl26r⟩, hm26, k26, e26⟩ := L.all_get (L.all_rest (L.all_rest (L.all_rest hF31))); cases hq26; subst hl26r
    replace hJ31 := hJ31.add hL31 (i := 9) rfl hm26 k26 e26
    obtain ⟨ll27, ws27, we27, ⟨g27q, hq27, c27r, hc27r, hl27r⟩, hm27, k27, e27⟩ := L.all_get (L.all_rest (L.all_rest hF31)); cases hq27; subst hl27r
    replace hJ31 := hJ31.add hL31 (i := 10) rfl hm27 k27 e27
    obtain ⟨ll29, ws29, we29, ⟨v29q, hq29, c29r, hc29r, hl29r⟩, hm29, k29, e29⟩ := L.all_get (L.all_rest hF31); cases hq29; subst hl29r
    replace hJ31 := hJ31.add hL31 (i := 17) rfl hm29 k29 e29
    obtain ⟨ll30, ws30, we30, ⟨g30q, hq30, c30r, hc30r, hl30r⟩, hm30, k30, e30⟩ := L.all_get hF31; cases hq30; subst hl30r
    replace hJ31 := hJ31.add hL31 (i := 19) rfl hm30 k30 e30
    have hS31 := hJ31.st; clear hF31 hJ31 hL31
    generalize s31.1 = w31 at *
    replace hS31 : St w NoX [c30r, c29r, c27r, c26r, c22r, c15_16, cb15_16, c14_16, c9_16, c7_16, c3_16, c2_16] w31 := hS31
    refine W_appS 2 7 hS31 rfl hc14_16 rfl rfl rfl (e18 rfl (et rfl)) (et rfl) Try.underlying22 Try.underlying22 (z := .agg #[.slice none 0 0, .slice none 0 0]) (bytes := 48) (by kernel_rfl) rfl (by decide) (ow_at (hS31.chq 0 rfl hc30r)) (by intro u hu; simp only [List.flatMap_cons, List.flatMap_nil, obC, List.append_nil, List.cons_append, List.nil_append, List.mem_cons, List.not_mem_nil, or_false] at hu; rcases hu with rfl | rfl <;> first | exact SlN_one (ow_at (hS31.chq 3 rfl hc26r)) | exact SlN_one (ow_at (hS31.chq 1 rfl hc29r))) (by first | omega | (simp; done) | (simp; omega)) (by first | omega | (simp; done) | (simp; omega)) (fun v32 w32 c32 hc32 hS32 => ?_)
    replace hc32 : c32 = ro 2 obC v32 (H ++ [((u26, y23.1.2), (u29, y23.2.2))]) := hc32.trans (app_eqR (by simp))
    replace hS32 : St w NoX [c30r, c29r, c27r, c26r, c22r, c15_16, cb15_16, c32, c9_16, c7_16, c3_16, c2_16] w32 := hS32
    have hS33 := hS32.sel [3, 5, 1, 6, 0, 2, 4, 7, 8, 9, 10, 11] (by decide) (l' := [c26r, c15_16, c29r, cb15_16, c30r, c27r, c22r, c32, c9_16, c7_16, c3_16, c2_16]) rfl
    replace hS33 : St w NoX [c26r, c15_16, c29r, cb15_16, c30r, c27r, c22r, c32, c9_16, c7_16, c3_16, c2_16] w32 := hS33
    rw [hc26r, hc15_16, hc29r, hcb15_16] at hS33
    obtain ⟨c34, cb34, hc34, hcb34, hS34⟩ := gen2 (nst_push (pv := u26) (ps := y23.1.2) (qv := u29) (qs := y23.2.2) (O := H) hS33)
    replace hS34 : St w NoX [c34, cb34, c30r, c27r, c22r, c32, c9_16, c7_16, c3_16, c2_16] w32 := hS34
    replace hc34 : c34 = owl .i64 ((H ++ [((u26, y23.1.2), (u29, y23.2.2))]).map (·.1)) := hc34
    replace hcb34 : cb34 = owl .u64 ((H ++ [((u26, y23.1.2), (u29, y23.2.2))]).map (·.2)) := hcb34
    refine W_v rfl rfl (V_fa (off' := 0) rfl (e20 rfl (es rfl l3_19)) Try.underlying25 rfl (by decide +kernel) rfl) ?_
    refine W_stCS (zs' := #[v32, v7]) 6 hS34 rfl hc9_16 rfl rfl rfl (et rfl) (es rfl (et rfl)) (SlN_one (ow_at (hS34.chq 5 rfl hc32))) (by rfl) (by kernel_rfl) (by first | rfl | (simp only [List.setIfInBounds_toArray, List.set_cons_succ, List.set_cons_zero] <;> rfl)) (fun w35 c35 hc35 hS35 => ?_)
    replace hS35 : St w NoX [c34, cb34, c30r, c27r, c22r, c32, c35, c7_16, c3_16, c2_16] w35 := hS35
    refine W_end ?_
    refine Qo_normal ?_
    refine gen_Q (fun A36 hA36 => ?_)
    have hsz36 := szq hA36
    have hdf36 : A36.defers = [] := by rw [hA36]; simp only [df_put]; exact hdf19
    have l1_36 := lookE hA36 1 (e21 rfl (es rfl l1_19))
    have l2_36 := lookE hA36 2 (e21 rfl (es rfl l2_19))
    have l3_36 := lookE hA36 3 (e21 rfl (es rfl l3_19))
    have l4_36 := lookE hA36 4 (e21 rfl (es rfl l4_19))
    clear hA36 hsz19 hdf19 l1_19 l2_19 l3_19 l4_19 l14_19
    have hS37 : St w NoX [c34, cb34, c32, c35, c7_16, c3_16, c2_16] w35 := hS35.sel [0, 1, 5, 6, 7, 8, 9] (by decide) rfl
    refine inb_n ?_
    refine then_n (hK21 _ _ ?_)
    clear hK21
    refine region_in ?_
    refine W_v rfl rfl (V_mov rfl l4_36) ?_
    refine W_v rfl rfl (V_add rfl (et rfl) rfl (by omega) (by omega)) ?_
    refine W_v rfl rfl (V_asg rfl (et rfl)) ?_
    refine W_end ?_
    refine gen_Q (fun A38 hA38 => ?_)
    have hsz38 := szq hA38
    have hdf38 : A38.defers = [] := by rw [hA38]; simp only [df_put]; exact hdf36
    have l1_38 := lookE hA38 1 (e2 rfl (es rfl l1_36))
    have l2_38 := lookE hA38 2 (e2 rfl (es rfl l2_36))
    have l3_38 := lookE hA38 3 (e2 rfl (es rfl l3_36))
    have l4_38 := lookE hA38 4 (et rfl)
    clear hA38 hsz36 hdf36 l1_36 l2_36 l3_36 l4_36
    refine then_n ⟨O.length - (k + 1), by simp only [hm16]; omega, hsz38, hdf38, (k + 1), v32, (H ++ [((u26, y23.1.2), (u29, y23.2.2))]), rfl, (by omega), (mp_snoc hH hy23 rfl), ((l4_38).trans (by first | rfl | (simp; done) | (congr 1; omega))), ((l1_38).trans l1_13.symm), ((l2_38).trans l2_13.symm), ((l3_38).trans l3_13.symm), (by subst hc34 hcb34 hc32 hc35 hc7_16 hc3_16 hc2_16; exact hS37)⟩
  · skip
    refine wp_exit ?_
    refine then_exit ?_
    refine then_exit ?_
    refine inb_hit ?_
    refine then_n (hK11 _ _ ?_)
    clear hK11
    refine wp_seq_k (fun K39 hK39 => ?_)
    refine region_in ?_
    refine W_r rfl rfl (VR_ldA rfl l3_19 (hS16.obj 3 rfl hc9_16) Try.underlying25 rfl (by kernel_rfl)) ?_
    refine W_stAS 5 hS16 rfl hc3_16 rfl rfl rfl (es rfl l2_19) (et rfl) (by simp only [List.all_toArray, List.all_cons, List.all_nil, obC, SlN_one (ow_at (hS16.chq 2 rfl hc14_16)), SlN_one (ow_at (hS16.chq 4 rfl hc7_16))] <;> rfl) (by rfl) (by kernel_rfl) (fun w40 c40 hc40 hS40 => ?_)
    replace hS40 : St w NoX [c15_16, cb15_16, c14_16, c9_16, c7_16, c40, c2_16] w40 := hS40
    refine W_end ?_
    refine gen_Q (fun A41 hA41 => ?_)
    have hsz41 := szq hA41
    have hdf41 : A41.defers = [] := by rw [hA41]; simp only [df_put]; exact hdf19
    have l2_41 := lookE hA41 2 (es rfl l2_19)
    clear hA41 hsz19 hdf19 l1_19 l2_19 l3_19 l4_19 l14_19
    have hS42 : St w NoX [c15_16, cb15_16, c14_16, c7_16, c40] w40 := hS40.sel [0, 1, 2, 4, 5] (by decide) rfl
    refine then_n (hK39 _ _ ?_)
    clear hK39
    refine wp_ret ?_
    refine ret_in (results_1 Try.results35 (rv_cellA l2_41 (hS42.obj 4 rfl hc40) Try.underlying25 rfl (by kernel_rfl))) hdf41 ?_
    -- leaf F
    exact ⟨_, _, _, rfl, mp_done hH (by omega), (hS42.fin4 2 rfl (hc14_16) 0 rfl (hc15_16) 1 rfl (hcb15_16) 3 rfl (hc7_16) (by decide))⟩

end Go.Proofs.Ytdilbnmaihmgnaa