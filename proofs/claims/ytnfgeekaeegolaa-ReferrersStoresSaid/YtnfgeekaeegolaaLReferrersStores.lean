import Derived.Test.YtnfgeekaeegolaaProg
import Derived.Test.YtnfgeekaeegolaaRd4
import Derived.Test.YtnfgeekaeegolaaRe6
import Derived.Test.YtnfgeekaeegolaaPl9m
namespace Go.Proofs.Ytnfgeekaeegolaa
open Go.RowKit Go.Own Go.Own.R Go.Own.S Go.Own.F


set_option maxHeartbeats 4000000 in
theorem ReferrersStores_c {wv : Value} {ws : List Int} {cv : Value} {c : List Int} {p : Int} {r : Int} {w : World} (h_wv : Ro w NoX (il .u64 wv ws)) (h_cv : Ro w NoX (il .i64 cv c)) (hu : ∀ x ∈ ws, 0 ≤ x ∧ x ≤ 18446744073709551615) (hp : 0 ≤ p ∧ p ≤ 65535) (hr : 0 ≤ r ∧ r ≤ 65535) :
    Calls Try.prog 5 #[wv, .agg #[cv], .agg #[.int .u16 p, .int .u16 r]] w fun e w' => e = .returned (.bool true) ∧ St w NoX [] w' := by
  have hll := Go.Own.F.lsT_len c
  refine calls_in 123 Try.func5 rfl rfl (by simp) (fun A0 hsz0 hdf0 hargs => ?_)
  have l0_0 := hargs 0 (wv) rfl
  have l1_0 := hargs 1 (.agg #[cv]) rfl
  have l2_0 := hargs 2 (.agg #[.int .u16 p, .int .u16 r]) rfl
  clear hargs; replace hsz0 : SzN A0 123 := ⟨hsz0⟩
  have hS := St.nil w
  have bh_wv := SlN.le (sl_SlN h_wv.at)
  have bh_cv := SlN.le (sl_SlN h_cv.at)
  refine wp_seq_k (fun K1 hK1 => ?_)
  refine region_in ?_
  refine W_boxS (zs := #[cv]) hS rfl rfl rfl l1_0 (by rfl) (fun g2 w2 c2 hc2 hS2 => ?_)
  replace hS2 : St w NoX [c2] w2 := hS2
  refine W_boxS (zs := #[.int .u16 (p), .int .u16 (r)]) hS2 rfl rfl rfl (es rfl l2_0) (by rfl) (fun g3 w3 c3 hc3 hS3 => ?_)
  replace hS3 : St w NoX [c3, c2] w3 := hS3
  refine W_v rfl rfl (V_asg rfl rfl) ?_
  refine W_end ?_
  refine gen_Q (fun A4 hA4 => ?_)
  have hsz4 := szq hA4
  have hdf4 : A4.defers = [] := by rw [hA4]; simp only [df_put]; exact hdf0
  have l0_4 := lookE hA4 0 (e2 rfl (es rfl l0_0))
  have l4_4 := lookE hA4 4 (e2 rfl (et rfl))
  have l5_4 := lookE hA4 5 (es rfl (et rfl))
  clear hA4 hsz0 hdf0 l0_0 l1_0 l2_0
  refine then_n (hK1 _ _ ?_)
  clear hK1
  refine wp_seq_k (fun K5 hK5 => ?_)
  refine wp_seq_k (fun K6 hK6 => ?_)
  refine region_in ?_
  refine W_v rfl rfl (V_mov rfl l0_4) ?_
  refine W_r rfl rfl (VR_ldA rfl (es rfl l4_4) (hS3.obj 1 rfl hc2) Try.underlying25 rfl (by kernel_rfl)) ?_
  refine W_call rfl rfl rfl Try.func11 (by kernel_rfl) rfl (args2 (es rfl (et rfl)) (et rfl)) (far9_c (hS3.roC h_wv) (hS3.roC h_cv) ) ?_
  rintro _ w7 ⟨rfl, hP7⟩
  refine ⟨_, rfl, ?_⟩
  have hS7 := hS3.join hP7
  replace hS7 : St w NoX [c3, c2] w7 := hS7
  refine W_end ?_
  refine gen_Q (fun A8 hA8 => ?_)
  have hsz8 := szq hA8
  have hdf8 : A8.defers = [] := by rw [hA8]; simp only [df_put]; exact hdf4
  have l0_8 := lookE hA8 0 (e2 rfl (es rfl l0_4))
  have l4_8 := lookE hA8 4 (e2 rfl (es rfl l4_4))
  have l5_8 := lookE hA8 5 (e2 rfl (es rfl l5_4))
  have l24_8 := lookE hA8 24 (et rfl)
  clear hA8 hsz4 hdf4 l0_4 l4_4 l5_4
  refine then_n (hK6 _ _ ?_)
  clear hK6
  refine cond_dec l24_8 (fun c9 => ?_) (fun c9 => ?_)
  · skip
    refine wp_seq_k (fun K10 hK10 => ?_)
    refine region_in ?_
    refine W_call rfl rfl rfl Try.func12 (by kernel_rfl) rfl (args0) (awk_c  ) ?_
    rintro _ w11 ⟨rfl, hP11⟩
    refine ⟨_, rfl, ?_⟩
    have hS11 := hS7.join hP11
    replace hS11 : St w NoX [c3, c2] w11 := hS11
    refine W_v rfl rfl (V_asg rfl (et rfl)) ?_
    refine W_end ?_
    refine gen_Q (fun A12 hA12 => ?_)
    have hsz12 := szq hA12
    have hdf12 : A12.defers = [] := by rw [hA12]; simp only [df_put]; exact hdf8
    have l6_12 := lookE hA12 6 (et rfl)
    clear hA12 hsz8 hdf8 l0_8 l4_8 l5_8 l24_8
    have hS13 : St w NoX [] w11 := hS11.sel [] (by decide) rfl
    refine then_n (hK10 _ _ ?_)
    clear hK10
    refine wp_ret ?_
    refine then_ret ?_
    refine ret_in (results_1 Try.results5 (rv_tmp l6_12)) hdf12 ?_
    -- leaf T
    exact ⟨rfl, hS13.fin0⟩
  · skip
    refine wp_skip ?_
    refine then_n (hK5 _ _ ?_)
    clear hK5
    refine wp_seq_k (fun K14 hK14 => ?_)
    refine region_in ?_
    refine W_v rfl rfl (V_mov rfl l0_8) ?_
    refine W_r rfl rfl (VR_ldA rfl (es rfl l4_8) (hS7.obj 1 rfl hc2) Try.underlying25 rfl (by kernel_rfl)) ?_
    refine W_call rfl rfl rfl Try.func13 (by kernel_rfl) rfl (args2 (es rfl (et rfl)) (et rfl)) (kct_c (hS7.roC h_wv) (hS7.roC h_cv) (by with_reducible assumption)) ?_
    rintro _ w15 ⟨v_15, rfl, hP15⟩
    refine ⟨_, rfl, ?_⟩
    obtain ⟨c_15, hc_15, hP15⟩ := gen1 hP15
    have hS15 := hS7.join hP15
    replace hS15 : St w NoX [c_15, c3, c2] w15 := hS15
    refine W_v rfl rfl (V_mov rfl (et rfl)) ?_
    refine W_v rfl rfl (V_ext (v := v_15) rfl (et rfl) rfl) ?_
    refine W_v rfl rfl (V_ext (v := .int .i64 ((slE ws c))) rfl (es rfl (et rfl)) rfl) ?_
    refine W_v rfl rfl (V_asg rfl (es rfl (et rfl))) ?_
    refine W_v rfl rfl (V_asg rfl (es rfl (et rfl))) ?_
    refine W_end ?_
    refine gen_Q (fun A16 hA16 => ?_)
    have hsz16 := szq hA16
    have hdf16 : A16.defers = [] := by rw [hA16]; simp only [df_put]; exact hdf8
    have l0_16 := lookE hA16 0 (e7 rfl (es rfl l0_8))
    have l4_16 := lookE hA16 4 (e7 rfl (es rfl l4_8))
    have l5_16 := lookE hA16 5 (e7 rfl (es rfl l5_8))
    have l7_16 := lookE hA16 7 (es rfl (et rfl))
    have l8_16 := lookE hA16 8 (et rfl)
    clear hA16 hsz8 hdf8 l0_8 l4_8 l5_8 l24_8
    refine then_n (hK14 _ _ ?_)
    clear hK14
    refine wp_seq_k (fun K17 hK17 => ?_)
    refine region_in ?_
    refine W_r rfl rfl (VR_ldA rfl l4_16 (hS15.obj 2 rfl hc2) Try.underlying25 rfl (by kernel_rfl)) ?_
    refine W_call rfl rfl rfl Try.func21 (by kernel_rfl) rfl (args1 (et rfl)) (qList_c (hS15.roC h_cv) ) ?_
    rintro _ w18 ⟨v_18, rfl, hP18⟩
    refine ⟨_, rfl, ?_⟩
    obtain ⟨c_18, hc_18, hP18⟩ := gen1 hP18
    have hS18 := hS15.join hP18
    replace hS18 : St w NoX [c_18, c_15, c3, c2] w18 := hS18
    refine W_v rfl rfl (V_mov rfl (et rfl)) ?_
    refine W_v rfl rfl (V_ext (v := v_18) rfl (et rfl) rfl) ?_
    refine W_v rfl rfl (V_ext (v := .int .i64 ((ckS c).2)) rfl (es rfl (et rfl)) rfl) ?_
    refine W_v rfl rfl (V_asg rfl (es rfl (et rfl))) ?_
    refine W_v rfl rfl (V_asg rfl (es rfl (et rfl))) ?_
    refine W_end ?_
    refine gen_Q (fun A19 hA19 => ?_)
    have hsz19 := szq hA19
    have hdf19 : A19.defers = [] := by rw [hA19]; simp only [df_put]; exact hdf16
    have l0_19 := lookE hA19 0 (e6 rfl (es rfl l0_16))
    have l4_19 := lookE hA19 4 (e6 rfl (es rfl l4_16))
    have l5_19 := lookE hA19 5 (e6 rfl (es rfl l5_16))
    have l7_19 := lookE hA19 7 (e6 rfl (es rfl l7_16))
    have l8_19 := lookE hA19 8 (e6 rfl (es rfl l8_16))
    have l9_19 := lookE hA19 9 (es rfl (et rfl))
    clear hA19 hsz16 hdf16 l0_16 l4_16 l5_16 l7_16 l8_16
    refine then_n (hK17 _ _ ?_)
    clear hK17
    refine wp_seq_k (fun K20 hK20 => ?_)
    refine wp_seq_k (fun K21 hK21 => ?_)
    refine region_in ?_
    refine W_v rfl rfl (V_mov rfl l8_19) ?_
    refine W_v rfl rfl (V_neq rfl (et rfl) rfl) ?_
    refine W_split rfl rfl (V_mov rfl (et rfl)) (fun c22 => ?_) (fun c22 => ?_)
    · skip
      refine W_off rfl (wanted_f rfl rfl (et rfl) (ez rfl) rfl) ?_
      refine W_off rfl (wanted_f rfl rfl (es rfl (et rfl)) (ez rfl) rfl) ?_
      refine W_off rfl (wanted_f rfl rfl (e2 rfl (et rfl)) (ez rfl) rfl) ?_
      refine W_v rfl rfl (V_pickT rfl (e3 rfl (et rfl)) rfl) ?_
      refine W_end ?_
      refine gen_Q (fun A23 hA23 => ?_)
      have hsz23 := szq hA23
      have hdf23 : A23.defers = [] := by rw [hA23]; simp only [df_put]; exact hdf19
      have l0_23 := lookE hA23 0 (e6 rfl (es rfl l0_19))
      have l4_23 := lookE hA23 4 (e6 rfl (es rfl l4_19))
      have l5_23 := lookE hA23 5 (e6 rfl (es rfl l5_19))
      have l7_23 := lookE hA23 7 (e6 rfl (es rfl l7_19))
      have l9_23 := lookE hA23 9 (e6 rfl (es rfl l9_19))
      have l43_23 := lookE hA23 43 (et rfl)
      clear hA23 hsz19 hdf19 l0_19 l4_19 l5_19 l7_19 l8_19 l9_19
      refine then_n (hK21 _ _ ?_)
      clear hK21
      refine cond_t l43_23 ?_
      refine wp_seq_k (fun K24 hK24 => ?_)
      refine region_in ?_
      refine W_call rfl rfl rfl Try.func12 (by kernel_rfl) rfl (args0) (awk_c  ) ?_
      rintro _ w25 ⟨rfl, hP25⟩
      refine ⟨_, rfl, ?_⟩
      have hS25 := hS18.join hP25
      replace hS25 : St w NoX [c_18, c_15, c3, c2] w25 := hS25
      refine W_v rfl rfl (V_asg rfl (et rfl)) ?_
      refine W_end ?_
      refine gen_Q (fun A26 hA26 => ?_)
      have hsz26 := szq hA26
      have hdf26 : A26.defers = [] := by rw [hA26]; simp only [df_put]; exact hdf23
      have l6_26 := lookE hA26 6 (et rfl)
      clear hA26 hsz23 hdf23 l0_23 l4_23 l5_23 l7_23 l9_23 l43_23
      have hS27 : St w NoX [] w25 := hS25.sel [] (by decide) rfl
      refine then_n (hK24 _ _ ?_)
      clear hK24
      refine wp_ret ?_
      refine then_ret ?_
      refine ret_in (results_1 Try.results5 (rv_tmp l6_26)) hdf26 ?_
      -- leaf FT
      exact ⟨rfl, hS27.fin0⟩
    · skip
      have hsl : slE ws c = 0 := by omega
      refine W_v rfl (wanted_t rfl rfl (et rfl) (ez rfl)) (V_mov rfl (e2 rfl (es rfl l9_19))) ?_
      refine W_v rfl (wanted_t rfl rfl (es rfl (et rfl)) (ez rfl)) (V_lenS rfl (et rfl) (ow_at (hS18.chq 0 rfl hc_18)) Try.underlying23) ?_
      refine W_v rfl (wanted_t rfl rfl (e2 rfl (et rfl)) (ez rfl)) (V_eql rfl (et rfl) rfl) ?_
      refine W_v rfl rfl (V_pickF rfl (e3 rfl (et rfl)) (et rfl)) ?_
      refine W_end ?_
      refine gen_Q (fun A28 hA28 => ?_)
      have hsz28 := szq hA28
      have hdf28 : A28.defers = [] := by rw [hA28]; simp only [df_put]; exact hdf19
      have l0_28 := lookE hA28 0 (e6 rfl (es rfl l0_19))
      have l4_28 := lookE hA28 4 (e6 rfl (es rfl l4_19))
      have l5_28 := lookE hA28 5 (e6 rfl (es rfl l5_19))
      have l7_28 := lookE hA28 7 (e6 rfl (es rfl l7_19))
      have l9_28 := lookE hA28 9 (e6 rfl (es rfl l9_19))
      have l43_28 := lookE hA28 43 (et rfl)
      clear hA28 hsz19 hdf19 l0_19 l4_19 l5_19 l7_19 l8_19 l9_19
      refine then_n (hK21 _ _ ?_)
      clear hK21
      refine cond_dec l43_28 (fun c29 => ?_) (fun c29 => ?_)
      · skip
        refine wp_seq_k (fun K30 hK30 => ?_)
        refine region_in ?_
        refine W_call rfl rfl rfl Try.func12 (by kernel_rfl) rfl (args0) (awk_c  ) ?_
        rintro _ w31 ⟨rfl, hP31⟩
        refine ⟨_, rfl, ?_⟩
        have hS31 := hS18.join hP31
        replace hS31 : St w NoX [c_18, c_15, c3, c2] w31 := hS31
        refine W_v rfl rfl (V_asg rfl (et rfl)) ?_
        refine W_end ?_
        refine gen_Q (fun A32 hA32 => ?_)
        have hsz32 := szq hA32
        have hdf32 : A32.defers = [] := by rw [hA32]; simp only [df_put]; exact hdf28
        have l6_32 := lookE hA32 6 (et rfl)
        clear hA32 hsz28 hdf28 l0_28 l4_28 l5_28 l7_28 l9_28 l43_28
        have hS33 : St w NoX [] w31 := hS31.sel [] (by decide) rfl
        refine then_n (hK30 _ _ ?_)
        clear hK30
        refine wp_ret ?_
        refine then_ret ?_
        refine ret_in (results_1 Try.results5 (rv_tmp l6_32)) hdf32 ?_
        -- leaf FFT
        exact ⟨rfl, hS33.fin0⟩
      · skip
        have hpm := Int.emod_nonneg p (show ((lsT c).length : Int) ≠ 0 by omega)
        have hpl := Int.emod_lt_of_pos p (show 0 < ((lsT c).length : Int) by omega)
        refine wp_skip ?_
        refine then_n (hK20 _ _ ?_)
        clear hK20
        refine wp_seq_k (fun K34 hK34 => ?_)
        refine region_in ?_
        refine W_v rfl rfl (V_mov rfl l9_28) ?_
        refine W_v rfl rfl (V_ixA (sz := 1) (off' := 0) 0 rfl (es rfl l5_28) rfl (by rfl) Try.underlying44 (by decide) (by kernel_rfl) rfl) ?_
        refine W_r rfl rfl (VR_ldC rfl (et rfl) (cell_box (v := .int .u16 (p)) (hS18.obj 2 rfl hc3) rfl) Try.underlying43 rfl) ?_
        refine W_v rfl rfl (V_cvt rfl (et rfl) Try.underlying43 Try.underlying3 (wrap_i64 (by omega) (by omega))) ?_
        refine W_v rfl rfl (V_mov rfl (e3 rfl (es rfl l9_28))) ?_
        refine W_v rfl rfl (V_lenS rfl (et rfl) (ow_at (hS18.chq 0 rfl hc_18)) Try.underlying23) ?_
        refine W_v rfl rfl (V_rem rfl (e2 rfl (et rfl)) (et rfl) (by omega) (by omega) (wrap_mod (by omega) (by omega))) ?_
        have k36 : ((p % ((lsT c).length : Int))).toNat < (lsT c).length := by first | omega | (simp only [List.length_cons, List.length_nil]; omega) | (simp only [List.length_set]; omega) | decide
        obtain ⟨y36, hy36⟩ := get_some (xs := (lsT c)) (k := ((p % ((lsT c).length : Int))).toNat) k36
        have ham := List.mem_of_getElem? hy36
        have hA := (slE_zero hsl).2.2.2 _ (by rw [(slE_zero hsl).1]; exact ham)
        have hso := store_ok hsl ham (v := (r % 1601)) (by omega)
        have hml := mgT_len ws (ws.set y36.toNat (r % 1601)) c
        have hus := set_rng hu y36.toNat (v := (r % 1601)) (by omega)
        obtain ⟨B36, O36, C36, hv36⟩ := (SlN.blk (ow_at (hS18.chq 0 rfl hc_18)) (by first | omega | (simp only [List.length_cons, List.length_nil]; omega) | (simp only [List.length_set]; omega) | decide))
        refine W_v rfl rfl (V_ixS (off := O36 + (((p % ((lsT c).length : Int))).toNat)) 1 (((p % ((lsT c).length : Int))).toNat) rfl (e6 rfl (et rfl)) (et rfl) hv36 (by omega) k36 Try.underlying23 (by kernel_rfl) (congrArg _ (Nat.mul_one _))) ?_
        refine W_r rfl rfl (VR_ldC rfl (et rfl) ((ow_at (hS18.chq 0 rfl hc_18)).cell hv36 (map_get hy36)) Try.underlying3 rfl) ?_
        refine W_v rfl rfl (V_asg rfl (et rfl)) ?_
        refine W_end ?_
        refine gen_Q (fun A37 hA37 => ?_)
        have hsz37 := szq hA37
        have hdf37 : A37.defers = [] := by rw [hA37]; simp only [df_put]; exact hdf28
        have l0_37 := lookE hA37 0 (e9 rfl (es rfl l0_28))
        have l4_37 := lookE hA37 4 (e9 rfl (es rfl l4_28))
        have l5_37 := lookE hA37 5 (e9 rfl (es rfl l5_28))
        have l7_37 := lookE hA37 7 (e9 rfl (es rfl l7_28))
        have l11_37 := lookE hA37 11 (et rfl)
        clear hA37 hsz28 hdf28 l0_28 l4_28 l5_28 l7_28 l9_28 l43_28
        have hS38 : St w NoX [c_15, c3, c2] w18 := hS18.sel [1, 2, 3] (by decide) rfl
        refine then_n (hK34 _ _ ?_)
        clear hK34
        refine wp_seq_k (fun K39 hK39 => ?_)
        refine wp_seq_k (fun K40 hK40 => ?_)
        refine region_in ?_
        refine W_v rfl rfl (V_mov rfl l11_37) ?_
        refine W_v rfl rfl (V_mov rfl (es rfl l0_37)) ?_
        refine W_v rfl rfl (V_lenS rfl (et rfl) (sl_SlN h_wv.at) Try.underlying22) ?_
        refine W_v rfl rfl (V_geq rfl (e2 rfl (et rfl)) (et rfl)) ?_
        refine W_end ?_
        refine gen_Q (fun A41 hA41 => ?_)
        have hsz41 := szq hA41
        have hdf41 : A41.defers = [] := by rw [hA41]; simp only [df_put]; exact hdf37
        have l0_41 := lookE hA41 0 (e3 rfl (es rfl l0_37))
        have l4_41 := lookE hA41 4 (e3 rfl (es rfl l4_37))
        have l5_41 := lookE hA41 5 (e3 rfl (es rfl l5_37))
        have l7_41 := lookE hA41 7 (e3 rfl (es rfl l7_37))
        have l11_41 := lookE hA41 11 (e3 rfl (es rfl l11_37))
        have l57_41 := lookE hA41 57 (et rfl)
        clear hA41 hsz37 hdf37 l0_37 l4_37 l5_37 l7_37 l11_37
        refine then_n (hK40 _ _ ?_)
        clear hK40
        refine cond_not l57_41 (by rw [decide_eq_false_iff_not]; omega) ?_
        refine wp_skip ?_
        refine then_n (hK39 _ _ ?_)
        clear hK39
        refine wp_seq_k (fun K42 hK42 => ?_)
        refine region_monoS 11 11 [] (by kernel_rfl) (by kernel_rfl) ?_
        refine D_v rfl rfl (V_mov rfl l0_41) rfl rfl ?_
        refine D_v rfl rfl (V_mov rfl (es rfl l11_41)) rfl rfl ?_
        have k43 : y36.toNat < ws.length := by first | omega | (simp only [List.length_cons, List.length_nil]; omega) | (simp only [List.length_set]; omega) | decide
        obtain ⟨y43, hy43⟩ := get_some (xs := ws) (k := y36.toNat) k43
        have hwa43 := wA_at hy43
        have hwu43 := hu _ (List.mem_of_getElem? hy43)
        obtain ⟨B43, O43, C43, hv43⟩ := (SlN.blk (sl_SlN h_wv.at) (by first | omega | (simp only [List.length_cons, List.length_nil]; omega) | (simp only [List.length_set]; omega) | decide))
        refine D_v rfl rfl (V_ixS (off := O43 + y36.toNat) 1 (y36.toNat) rfl (es rfl (et rfl)) (et rfl) hv43 (by omega) k43 Try.underlying22 (by kernel_rfl) (congrArg _ (Nat.mul_one _))) rfl rfl ?_
        refine D_r rfl rfl (by kernel_rfl) (fun sx hx hF => (VR_ldC rfl (et rfl) ((sl_SlN ((hS38.grow hx).ro h_wv)).cell hv43 (map_get hy43)) Try.underlying40 rfl)) rfl rfl ?_
        refine D_v rfl rfl (V_cvt rfl (et rfl) Try.underlying40 Try.underlying3 (wrap_i64 (by omega) (by omega))) rfl rfl ?_
        refine D_v rfl rfl (V_ixA (sz := 1) (off' := 1) 1 rfl (e4 rfl (es rfl l5_41)) rfl (by rfl) Try.underlying44 (by decide) (by kernel_rfl) rfl) rfl rfl ?_
        refine D_r rfl rfl (by kernel_rfl) (fun sx hx hF => (VR_ldC rfl (et rfl) (cell_box (v := .int .u16 (r)) ((hS38.grow hx).obj 1 rfl hc3) rfl) Try.underlying43 rfl)) rfl rfl ?_
        refine D_v rfl rfl (V_cvt rfl (et rfl) Try.underlying43 Try.underlying3 (wrap_i64 (by omega) (by omega))) rfl rfl ?_
        refine D_v rfl rfl (V_rem rfl (et rfl) rfl (by omega) (by omega) (wrap_i64 (by omega) (by omega))) rfl rfl ?_
        refine D_v rfl rfl (V_asg rfl (e4 rfl (et rfl))) rfl rfl ?_
        refine D_v rfl rfl (V_asg rfl (es rfl (et rfl))) rfl rfl ?_
        refine ZS_none hS38 (Nat.le_refl _) (Nat.le_refl _) (fun s45 hJ45 hL45 hF45 => ?_)
        have hS45 := hJ45.st; clear hF45 hJ45 hL45
        generalize s45.1 = w45 at *
        replace hS45 : St w NoX [c_15, c3, c2] w45 := hS45
        refine gen_Q (fun A46 hA46 => ?_)
        have hsz46 := szq hA46
        have hdf46 : A46.defers = [] := by rw [hA46]; simp only [df_put]; exact hdf41
        have l0_46 := lookE hA46 0 (e10 rfl (es rfl l0_41))
        have l4_46 := lookE hA46 4 (e10 rfl (es rfl l4_41))
        have l7_46 := lookE hA46 7 (e10 rfl (es rfl l7_41))
        have l11_46 := lookE hA46 11 (e10 rfl (es rfl l11_41))
        have l12_46 := lookE hA46 12 (es rfl (et rfl))
        have l13_46 := lookE hA46 13 (et rfl)
        clear hA46 hsz41 hdf41 l0_41 l4_41 l5_41 l7_41 l11_41 l57_41
        have hS47 : St w NoX [c_15, c2] w45 := hS45.sel [0, 2] (by decide) rfl
        refine then_n (hK42 _ _ ?_)
        clear hK42
        refine wp_seq_k (fun K48 hK48 => ?_)
        refine region_in ?_
        refine W_litS (vs := []) (xs := []) 1 hS47 rfl rfl rfl (parts0) rfl Try.underlying22 (by kernel_rfl) (by decide) (by intro v hv; cases hv) (by rfl) (fun g49 w49 c49 hc49 hS49 => ?_)
        replace hc49 : c49 = io .u64 (.slice (some ⟨g49, 0, none⟩) 0 0) [] := hc49
        replace hS49 : St w NoX [c49, c_15, c2] w49 := hS49
        refine W_v rfl rfl (V_mov rfl (es rfl l0_46)) ?_
        refine W_appS 1 0 hS49 rfl hc49 rfl rfl rfl (es rfl (et rfl)) (et rfl) Try.underlying22 Try.underlying22 (z := .int .u64 0) (bytes := 8) (by kernel_rfl) rfl (by decide) (sl_SlN (hS49.ro h_wv)) ones_i (by first | omega | (simp; done) | (simp; omega)) (by first | omega | (simp; done) | (simp; omega)) (fun v50 w50 c50 hc50 hS50 => ?_)
        replace hc50 : c50 = io .u64 v50 ws := hc50.trans (app_eq (by simp))
        replace hS50 : St w NoX [c50, c_15, c2] w50 := hS50
        refine W_v rfl rfl (V_asg rfl (et rfl)) ?_
        refine W_end ?_
        refine gen_Q (fun A51 hA51 => ?_)
        have hsz51 := szq hA51
        have hdf51 : A51.defers = [] := by rw [hA51]; simp only [df_put]; exact hdf46
        have l4_51 := lookE hA51 4 (e3 rfl (es rfl l4_46))
        have l7_51 := lookE hA51 7 (e3 rfl (es rfl l7_46))
        have l11_51 := lookE hA51 11 (e3 rfl (es rfl l11_46))
        have l12_51 := lookE hA51 12 (e3 rfl (es rfl l12_46))
        have l13_51 := lookE hA51 13 (e3 rfl (es rfl l13_46))
        have l14_51 := lookE hA51 14 (et rfl)
        clear hA51 hsz46 hdf46 l0_46 l4_46 l7_46 l11_46 l12_46 l13_46
        refine then_n (hK48 _ _ ?_)
        clear hK48
        refine wp_seq_k (fun K52 hK52 => ?_)
        refine region_in ?_
        refine W_v rfl rfl (V_mov rfl l14_51) ?_
        refine W_v rfl rfl (V_mov rfl (es rfl l11_51)) ?_
        refine W_v rfl rfl (V_mov rfl (es rfl (es rfl l13_51))) ?_
        refine W_v rfl rfl (V_cvt rfl (et rfl) Try.underlying3 Try.underlying40 (wrap_u64 (by omega) (by omega))) ?_
        have k53 : y36.toNat < ws.length := by first | omega | (simp only [List.length_cons, List.length_nil]; omega) | (simp only [List.length_set]; omega) | decide
        obtain ⟨y53, hy53⟩ := get_some (xs := ws) (k := y36.toNat) k53
        have hwa53 := wA_at hy53
        have hwu53 := hu _ (List.mem_of_getElem? hy53)
        obtain ⟨B53, O53, C53, hv53⟩ := (SlN.blk (ow_at (hS50.chq 0 rfl hc50)) (by first | omega | (simp only [List.length_cons, List.length_nil]; omega) | (simp only [List.length_set]; omega) | decide))
        refine W_v rfl rfl (V_ixS (off := O53 + y36.toNat) 1 (y36.toNat) rfl (e3 rfl (et rfl)) (e2 rfl (et rfl)) hv53 (by omega) k53 Try.underlying22 (by kernel_rfl) (congrArg _ (Nat.mul_one _))) ?_
        refine W_stE 0 hS50 rfl hc50 hv53 rfl rfl rfl (et rfl) (es rfl (et rfl)) (by rfl) rfl (by first | (simp only [List.length_map]; omega) | omega) (by kernel_rfl) (fun w54 c54 hc54 hS54 => ?_)
        replace hc54 : c54 = io .u64 v50 (ws.set y36.toNat (r % 1601)) := hc54.trans (by simp [io, bo, List.map_set] <;> rfl)
        replace hS54 : St w NoX [c54, c_15, c2] w54 := hS54
        refine W_end ?_
        refine gen_Q (fun A55 hA55 => ?_)
        have hsz55 := szq hA55
        have hdf55 : A55.defers = [] := by rw [hA55]; simp only [df_put]; exact hdf51
        have l4_55 := lookE hA55 4 (e4 rfl (es rfl l4_51))
        have l7_55 := lookE hA55 7 (e4 rfl (es rfl l7_51))
        have l12_55 := lookE hA55 12 (e4 rfl (es rfl l12_51))
        have l13_55 := lookE hA55 13 (e4 rfl (es rfl l13_51))
        have l14_55 := lookE hA55 14 (e4 rfl (es rfl l14_51))
        clear hA55 hsz51 hdf51 l4_51 l7_51 l11_51 l12_51 l13_51 l14_51
        refine then_n (hK52 _ _ ?_)
        clear hK52
        refine wp_seq_k (fun K56 hK56 => ?_)
        refine region_in ?_
        refine W_v rfl rfl (V_mov rfl l14_55) ?_
        refine W_r rfl rfl (VR_ldA rfl (es rfl l4_55) (hS54.obj 2 rfl hc2) Try.underlying25 rfl (by kernel_rfl)) ?_
        refine W_call rfl rfl rfl Try.func13 (by kernel_rfl) rfl (args2 (es rfl (et rfl)) (et rfl)) (kct_c (hS54.chC 0 rfl hc54).own (hS54.roC h_cv) (by with_reducible assumption)) ?_
        rintro _ w57 ⟨v_57, rfl, hP57⟩
        refine ⟨_, rfl, ?_⟩
        obtain ⟨c_57, hc_57, hP57⟩ := gen1 hP57
        have hS57 := hS54.join hP57
        replace hS57 : St w NoX [c_57, c54, c_15, c2] w57 := hS57
        refine W_v rfl rfl (V_mov rfl (et rfl)) ?_
        refine W_v rfl rfl (V_ext (v := v_57) rfl (et rfl) rfl) ?_
        refine W_v rfl rfl (V_ext (v := .int .i64 ((slE (ws.set y36.toNat (r % 1601)) c))) rfl (es rfl (et rfl)) rfl) ?_
        refine W_v rfl rfl (V_asg rfl (es rfl (et rfl))) ?_
        refine W_v rfl rfl (V_asg rfl (es rfl (et rfl))) ?_
        refine W_end ?_
        refine gen_Q (fun A58 hA58 => ?_)
        have hsz58 := szq hA58
        have hdf58 : A58.defers = [] := by rw [hA58]; simp only [df_put]; exact hdf55
        have l7_58 := lookE hA58 7 (e7 rfl (es rfl l7_55))
        have l12_58 := lookE hA58 12 (e7 rfl (es rfl l12_55))
        have l13_58 := lookE hA58 13 (e7 rfl (es rfl l13_55))
        have l15_58 := lookE hA58 15 (es rfl (et rfl))
        have l16_58 := lookE hA58 16 (et rfl)
        clear hA58 hsz55 hdf55 l4_55 l7_55 l12_55 l13_55 l14_55
        have hS59 : St w NoX [c_57, c_15] w57 := hS57.sel [0, 2] (by decide) rfl
        refine then_n (hK56 _ _ ?_)
        clear hK56
        refine wp_seq_k (fun K60 hK60 => ?_)
        refine wp_seq_k (fun K61 hK61 => ?_)
        refine region_in ?_
        refine W_v rfl rfl (V_mov rfl l16_58) ?_
        refine W_v rfl rfl (V_neq rfl (et rfl) rfl) ?_
        refine W_end ?_
        refine gen_Q (fun A62 hA62 => ?_)
        have hsz62 := szq hA62
        have hdf62 : A62.defers = [] := by rw [hA62]; simp only [df_put]; exact hdf58
        have l7_62 := lookE hA62 7 (es rfl (es rfl l7_58))
        have l12_62 := lookE hA62 12 (es rfl (es rfl l12_58))
        have l13_62 := lookE hA62 13 (es rfl (es rfl l13_58))
        have l15_62 := lookE hA62 15 (es rfl (es rfl l15_58))
        have l82_62 := lookE hA62 82 (et rfl)
        clear hA62 hsz58 hdf58 l7_58 l12_58 l13_58 l15_58 l16_58
        refine then_n (hK61 _ _ ?_)
        clear hK61
        refine cond_not l82_62 (by rw [decide_eq_false_iff_not]; rw [hso]; simp) ?_
        refine wp_skip ?_
        refine then_n (hK60 _ _ ?_)
        clear hK60
        refine wp_seq_k (fun K63 hK63 => ?_)
        refine region_in ?_
        refine W_v rfl rfl (V_mov rfl l7_62) ?_
        refine W_v rfl rfl (V_mov rfl (es rfl l15_62)) ?_
        refine W_call rfl rfl rfl Try.func22 (by kernel_rfl) rfl (args2 (es rfl (et rfl)) (et rfl)) (qmg_c (hS59.chC 1 rfl hc_15).own (hS59.chC 0 rfl hc_57).own ) ?_
        rintro _ w64 ⟨v_64, rfl, hP64⟩
        refine ⟨_, rfl, ?_⟩
        obtain ⟨c_64, hc_64, hP64⟩ := gen1 hP64
        have hS64 := hS59.join hP64
        replace hS64 : St w NoX [c_64, c_57, c_15] w64 := hS64
        refine W_v rfl rfl (V_mov rfl (et rfl)) ?_
        refine W_v rfl rfl (V_ext (v := v_64) rfl (et rfl) rfl) ?_
        refine W_v rfl rfl (V_ext (v := .int .i64 ((mgE (coT ws c) (coT (ws.set y36.toNat (r % 1601)) c)))) rfl (es rfl (et rfl)) rfl) ?_
        refine W_v rfl rfl (V_asg rfl (es rfl (et rfl))) ?_
        refine W_v rfl rfl (V_asg rfl (es rfl (et rfl))) ?_
        refine W_end ?_
        refine gen_Q (fun A65 hA65 => ?_)
        have hsz65 := szq hA65
        have hdf65 : A65.defers = [] := by rw [hA65]; simp only [df_put]; exact hdf62
        have l7_65 := lookE hA65 7 (e7 rfl (es rfl l7_62))
        have l12_65 := lookE hA65 12 (e7 rfl (es rfl l12_62))
        have l13_65 := lookE hA65 13 (e7 rfl (es rfl l13_62))
        have l15_65 := lookE hA65 15 (e7 rfl (es rfl l15_62))
        have l17_65 := lookE hA65 17 (es rfl (et rfl))
        have l18_65 := lookE hA65 18 (et rfl)
        clear hA65 hsz62 hdf62 l7_62 l12_62 l13_62 l15_62 l82_62
        refine then_n (hK63 _ _ ?_)
        clear hK63
        refine wp_seq_k (fun K66 hK66 => ?_)
        refine wp_seq_k (fun K67 hK67 => ?_)
        refine region_in ?_
        refine W_v rfl rfl (V_asg rfl rfl) ?_
        refine W_end ?_
        refine gen_Q (fun A68 hA68 => ?_)
        have hsz68 := szq hA68
        have hdf68 : A68.defers = [] := by rw [hA68]; simp only [df_put]; exact hdf65
        have l7_68 := lookE hA68 7 (es rfl l7_65)
        have l12_68 := lookE hA68 12 (es rfl l12_65)
        have l13_68 := lookE hA68 13 (es rfl l13_65)
        have l15_68 := lookE hA68 15 (es rfl l15_65)
        have l17_68 := lookE hA68 17 (es rfl l17_65)
        have l18_68 := lookE hA68 18 (es rfl l18_65)
        have l19_68 := lookE hA68 19 (et rfl)
        clear hA68 hsz65 hdf65 l7_65 l12_65 l13_65 l15_65 l17_65 l18_65
        refine then_n (hK67 _ _ ?_)
        clear hK67
        refine wp_block ?_
        -- loop 18
        refine loopX (fun mz A' w' => SzN A' 123 ∧ A'.defers = [] ∧ (∃ (k : Nat), (mz = (mgT (coT ws c) (coT (ws.set y36.toNat (r % 1601)) c)).length - k) ∧ (k ≤ (mgT (coT ws c) (coT (ws.set y36.toNat (r % 1601)) c)).length) ∧ (EV A' (.tmp 19) = .int .i64 (k : Int)) ∧ (EV A' (.tmp 7) = EV A68 (.tmp 7)) ∧ (EV A' (.tmp 12) = EV A68 (.tmp 12)) ∧ (EV A' (.tmp 13) = EV A68 (.tmp 13)) ∧ (EV A' (.tmp 15) = EV A68 (.tmp 15)) ∧ (EV A' (.tmp 17) = EV A68 (.tmp 17)) ∧ (EV A' (.tmp 18) = EV A68 (.tmp 18)) ∧ (St w NoX [ro 2 rcC v_64 (mgT (coT ws c) (coT (ws.set y36.toNat (r % 1601)) c)), ro 2 rcC v_57 (coT (ws.set y36.toNat (r % 1601)) c), ro 2 rcC v_15 (coT ws c)] w'))) ((mgT (coT ws c) (coT (ws.set y36.toNat (r % 1601)) c)).length - 0) ⟨hsz68, hdf68, 0, rfl, (by omega), ((l19_68).trans (by first | rfl | (simp; done) | (congr 1; omega))), rfl, rfl, rfl, rfl, rfl, rfl, (by subst hc_64 hc_57 hc_15; exact hS64)⟩ ?_
        clear hS64 hc_64 hc_57 hc_15
        rintro n69 A69 w69 ⟨hsz69, hdf69, k, hm69, hk, l19_69, u7_69, u12_69, u13_69, u15_69, u17_69, u18_69, hS69⟩
        have l7_69 := u7_69.trans l7_68
        have l12_69 := u12_69.trans l12_68
        have l13_69 := u13_69.trans l13_68
        have l15_69 := u15_69.trans l15_68
        have l17_69 := u17_69.trans l17_68
        have l18_69 := u18_69.trans l18_68
        obtain ⟨c_69, c_69b, c_69bb, hc_69, hc_69b, hc_69bb, hS69⟩ := gen3 hS69
        refine wp_seq_k (fun K70 hK70 => ?_)
        refine wp_seq_k (fun K71 hK71 => ?_)
        refine region_in ?_
        refine W_v rfl rfl (V_mov rfl l19_69) ?_
        refine W_v rfl rfl (V_mov rfl (es rfl l17_69)) ?_
        refine W_v rfl rfl (V_lenS rfl (et rfl) (ow_at (hS69.chq 0 rfl hc_69)) Try.underlying28) ?_
        refine W_v rfl rfl (V_lss rfl (e2 rfl (et rfl)) (et rfl)) ?_
        refine W_split rfl rfl (V_mov rfl (et rfl)) (fun c72 => ?_) (fun c72 => ?_)
        · skip
          refine W_v rfl (wanted_t rfl rfl (et rfl) (ez rfl)) (V_mov rfl (e4 rfl (es rfl l18_69))) ?_
          refine W_v rfl (wanted_t rfl rfl (es rfl (et rfl)) (ez rfl)) (V_eql rfl (et rfl) rfl) ?_
          refine W_v rfl rfl (V_pickT rfl (e2 rfl (et rfl)) (et rfl)) ?_
          refine W_end ?_
          refine gen_Q (fun A73 hA73 => ?_)
          have hsz73 := szq hA73
          have hdf73 : A73.defers = [] := by rw [hA73]; simp only [df_put]; exact hdf69
          have l7_73 := lookE hA73 7 (e7 rfl (es rfl l7_69))
          have l12_73 := lookE hA73 12 (e7 rfl (es rfl l12_69))
          have l13_73 := lookE hA73 13 (e7 rfl (es rfl l13_69))
          have l15_73 := lookE hA73 15 (e7 rfl (es rfl l15_69))
          have l17_73 := lookE hA73 17 (e7 rfl (es rfl l17_69))
          have l18_73 := lookE hA73 18 (e7 rfl (es rfl l18_69))
          have l19_73 := lookE hA73 19 (e7 rfl (es rfl l19_69))
          have l94_73 := lookE hA73 94 (e2 rfl (et rfl))
          have l95_73 := lookE hA73 95 (es rfl (et rfl))
          have l96_73 := lookE hA73 96 (et rfl)
          clear hA73 hsz69 hdf69 l19_69 l7_69 l12_69 l13_69 l15_69 l17_69 l18_69
          refine then_n (hK71 _ _ ?_)
          clear hK71
          refine cond_dec l96_73 (fun c74 => ?_) (fun c74 => ?_)
          · skip
            refine wp_skip ?_
            refine then_n (hK70 _ _ ?_)
            clear hK70
            refine wp_seq_k (fun K75 hK75 => ?_)
            refine wp_block ?_
            refine wp_seq_k (fun K76 hK76 => ?_)
            refine region_in ?_
            refine W_v rfl rfl (V_mov rfl l17_73) ?_
            refine W_v rfl rfl (V_mov rfl (es rfl l19_73)) ?_
            have k77 : k < (mgT (coT ws c) (coT (ws.set y36.toNat (r % 1601)) c)).length := by first | omega | (simp only [List.length_cons, List.length_nil]; omega) | (simp only [List.length_set]; omega) | decide
            obtain ⟨y77, hy77⟩ := get_some (xs := (mgT (coT ws c) (coT (ws.set y36.toNat (r % 1601)) c))) (k := k) k77
            have hne77 := mgT_ne (List.mem_of_getElem? hy77)
            have hst77 := store_n hsl ham (v := (r % 1601)) (by omega) hne77
            have hnb77 := coT_bd hsl y77.1
            obtain ⟨B77, O77, C77, hv77⟩ := (SlN.blk (ow_at (hS69.chq 0 rfl hc_69)) (by first | omega | (simp only [List.length_cons, List.length_nil]; omega) | (simp only [List.length_set]; omega) | decide))
            refine W_v rfl rfl (V_ixS (off := O77 + k * 2) 2 (k) rfl (es rfl (et rfl)) (et rfl) hv77 (by omega) k77 Try.underlying28 (by kernel_rfl) rfl) ?_
            refine W_v rfl rfl (V_fa (off' := O77 + k * 2 + 0) rfl (et rfl) Try.underlying42 rfl (by decide +kernel) rfl) ?_
            refine W_r rfl rfl (VR_ldC (v := .int .i64 (y77.1)) rfl (et rfl) (SlN.row rcC_len (ow_at (hS69.chq 0 rfl hc_69)) hv77 hy77 rfl 0 _ rfl) Try.underlying3 rfl) ?_
            refine W_v rfl rfl (V_asg rfl (et rfl)) ?_
            refine W_end ?_
            refine gen_Q (fun A78 hA78 => ?_)
            have hsz78 := szq hA78
            have hdf78 : A78.defers = [] := by rw [hA78]; simp only [df_put]; exact hdf73
            have l7_78 := lookE hA78 7 (e5 rfl (es rfl l7_73))
            have l12_78 := lookE hA78 12 (e5 rfl (es rfl l12_73))
            have l13_78 := lookE hA78 13 (e5 rfl (es rfl l13_73))
            have l15_78 := lookE hA78 15 (e5 rfl (es rfl l15_73))
            have l17_78 := lookE hA78 17 (e5 rfl (es rfl l17_73))
            have l18_78 := lookE hA78 18 (e5 rfl (es rfl l18_73))
            have l19_78 := lookE hA78 19 (e5 rfl (es rfl l19_73))
            have l20_78 := lookE hA78 20 (et rfl)
            have l94_78 := lookE hA78 94 (e5 rfl (es rfl l94_73))
            have l95_78 := lookE hA78 95 (e5 rfl (es rfl l95_73))
            clear hA78 hsz73 hdf73 l7_73 l12_73 l13_73 l15_73 l17_73 l18_73 l19_73 l94_73 l95_73 l96_73
            refine then_n (hK76 _ _ ?_)
            clear hK76
            refine wp_seq_k (fun K79 hK79 => ?_)
            refine region_in ?_
            refine W_v rfl rfl (V_mov rfl l7_78) ?_
            refine W_v rfl rfl (V_mov rfl (es rfl l20_78)) ?_
            refine W_call rfl rfl rfl Try.func23 (by kernel_rfl) rfl (args2 (es rfl (et rfl)) (et rfl)) (qcount_c (t := y77.1) (hS69.chC 2 rfl hc_69bb).own ) ?_
            rintro _ w80 ⟨rfl, hP80⟩
            refine ⟨_, rfl, ?_⟩
            have hS80 := hS69.join hP80
            replace hS80 : St w NoX [c_69, c_69b, c_69bb] w80 := hS80
            refine W_v rfl rfl (V_asg rfl (et rfl)) ?_
            refine W_end ?_
            refine gen_Q (fun A81 hA81 => ?_)
            have hsz81 := szq hA81
            have hdf81 : A81.defers = [] := by rw [hA81]; simp only [df_put]; exact hdf78
            have l7_81 := lookE hA81 7 (e3 rfl (es rfl l7_78))
            have l12_81 := lookE hA81 12 (e3 rfl (es rfl l12_78))
            have l13_81 := lookE hA81 13 (e3 rfl (es rfl l13_78))
            have l15_81 := lookE hA81 15 (e3 rfl (es rfl l15_78))
            have l17_81 := lookE hA81 17 (e3 rfl (es rfl l17_78))
            have l18_81 := lookE hA81 18 (e3 rfl (es rfl l18_78))
            have l19_81 := lookE hA81 19 (e3 rfl (es rfl l19_78))
            have l20_81 := lookE hA81 20 (e3 rfl (es rfl l20_78))
            have l21_81 := lookE hA81 21 (et rfl)
            have l94_81 := lookE hA81 94 (e3 rfl (es rfl l94_78))
            have l95_81 := lookE hA81 95 (e3 rfl (es rfl l95_78))
            clear hA81 hsz78 hdf78 l7_78 l12_78 l13_78 l15_78 l17_78 l18_78 l19_78 l20_78 l94_78 l95_78
            refine then_n (hK79 _ _ ?_)
            clear hK79
            refine wp_seq_k (fun K82 hK82 => ?_)
            refine wp_seq_k (fun K83 hK83 => ?_)
            refine region_in ?_
            refine W_v rfl rfl (V_mov rfl l20_81) ?_
            refine W_v rfl rfl (V_mov rfl (es rfl l12_81)) ?_
            refine W_v rfl rfl (V_eql rfl (es rfl (et rfl)) (et rfl)) ?_
            refine W_end ?_
            refine gen_Q (fun A84 hA84 => ?_)
            have hsz84 := szq hA84
            have hdf84 : A84.defers = [] := by rw [hA84]; simp only [df_put]; exact hdf81
            have l7_84 := lookE hA84 7 (e2 rfl (es rfl l7_81))
            have l12_84 := lookE hA84 12 (e2 rfl (es rfl l12_81))
            have l13_84 := lookE hA84 13 (e2 rfl (es rfl l13_81))
            have l15_84 := lookE hA84 15 (e2 rfl (es rfl l15_81))
            have l17_84 := lookE hA84 17 (e2 rfl (es rfl l17_81))
            have l18_84 := lookE hA84 18 (e2 rfl (es rfl l18_81))
            have l19_84 := lookE hA84 19 (e2 rfl (es rfl l19_81))
            have l20_84 := lookE hA84 20 (e2 rfl (es rfl l20_81))
            have l21_84 := lookE hA84 21 (e2 rfl (es rfl l21_81))
            have l94_84 := lookE hA84 94 (e2 rfl (es rfl l94_81))
            have l95_84 := lookE hA84 95 (e2 rfl (es rfl l95_81))
            have l109_84 := lookE hA84 109 (et rfl)
            clear hA84 hsz81 hdf81 l7_81 l12_81 l13_81 l15_81 l17_81 l18_81 l19_81 l20_81 l21_81 l94_81 l95_81
            refine then_n (hK83 _ _ ?_)
            clear hK83
            refine cond_dec l109_84 (fun c85 => ?_) (fun c85 => ?_)
            · skip
              refine region_in ?_
              refine W_v rfl rfl (V_mov rfl l21_84) ?_
              refine W_v rfl rfl (V_sb rfl (et rfl) rfl (by omega) (by omega)) ?_
              refine W_v rfl rfl (V_asg rfl (et rfl)) ?_
              refine W_end ?_
              refine gen_Q (fun A86 hA86 => ?_)
              have hsz86 := szq hA86
              have hdf86 : A86.defers = [] := by rw [hA86]; simp only [df_put]; exact hdf84
              have l7_86 := lookE hA86 7 (e2 rfl (es rfl l7_84))
              have l12_86 := lookE hA86 12 (e2 rfl (es rfl l12_84))
              have l13_86 := lookE hA86 13 (e2 rfl (es rfl l13_84))
              have l15_86 := lookE hA86 15 (e2 rfl (es rfl l15_84))
              have l17_86 := lookE hA86 17 (e2 rfl (es rfl l17_84))
              have l18_86 := lookE hA86 18 (e2 rfl (es rfl l18_84))
              have l19_86 := lookE hA86 19 (e2 rfl (es rfl l19_84))
              have l20_86 := lookE hA86 20 (e2 rfl (es rfl l20_84))
              have l21_86 := lookE hA86 21 (et rfl)
              have l94_86 := lookE hA86 94 (e2 rfl (es rfl l94_84))
              have l95_86 := lookE hA86 95 (e2 rfl (es rfl l95_84))
              clear hA86 hsz84 hdf84 l7_84 l12_84 l13_84 l15_84 l17_84 l18_84 l19_84 l20_84 l21_84 l94_84 l95_84 l109_84
              refine then_n (hK82 _ _ ?_)
              clear hK82
              refine wp_seq_k (fun K87 hK87 => ?_)
              refine wp_seq_k (fun K88 hK88 => ?_)
              refine region_in ?_
              refine W_v rfl rfl (V_mov rfl l20_86) ?_
              refine W_v rfl rfl (V_mov rfl (es rfl l13_86)) ?_
              refine W_v rfl rfl (V_eql rfl (es rfl (et rfl)) (et rfl)) ?_
              refine W_end ?_
              refine gen_Q (fun A89 hA89 => ?_)
              have hsz89 := szq hA89
              have hdf89 : A89.defers = [] := by rw [hA89]; simp only [df_put]; exact hdf86
              have l7_89 := lookE hA89 7 (e2 rfl (es rfl l7_86))
              have l12_89 := lookE hA89 12 (e2 rfl (es rfl l12_86))
              have l13_89 := lookE hA89 13 (e2 rfl (es rfl l13_86))
              have l15_89 := lookE hA89 15 (e2 rfl (es rfl l15_86))
              have l17_89 := lookE hA89 17 (e2 rfl (es rfl l17_86))
              have l18_89 := lookE hA89 18 (e2 rfl (es rfl l18_86))
              have l19_89 := lookE hA89 19 (e2 rfl (es rfl l19_86))
              have l20_89 := lookE hA89 20 (e2 rfl (es rfl l20_86))
              have l21_89 := lookE hA89 21 (e2 rfl (es rfl l21_86))
              have l94_89 := lookE hA89 94 (e2 rfl (es rfl l94_86))
              have l95_89 := lookE hA89 95 (e2 rfl (es rfl l95_86))
              have l114_89 := lookE hA89 114 (et rfl)
              clear hA89 hsz86 hdf86 l7_86 l12_86 l13_86 l15_86 l17_86 l18_86 l19_86 l20_86 l21_86 l94_86 l95_86
              refine then_n (hK88 _ _ ?_)
              clear hK88
              refine cond_dec l114_89 (fun c90 => ?_) (fun c90 => ?_)
              · skip
                refine region_in ?_
                refine W_v rfl rfl (V_mov rfl l21_89) ?_
                refine W_v rfl rfl (V_add rfl (et rfl) rfl (by omega) (by omega)) ?_
                refine W_v rfl rfl (V_asg rfl (et rfl)) ?_
                refine W_end ?_
                refine gen_Q (fun A91 hA91 => ?_)
                have hsz91 := szq hA91
                have hdf91 : A91.defers = [] := by rw [hA91]; simp only [df_put]; exact hdf89
                have l7_91 := lookE hA91 7 (e2 rfl (es rfl l7_89))
                have l12_91 := lookE hA91 12 (e2 rfl (es rfl l12_89))
                have l13_91 := lookE hA91 13 (e2 rfl (es rfl l13_89))
                have l15_91 := lookE hA91 15 (e2 rfl (es rfl l15_89))
                have l17_91 := lookE hA91 17 (e2 rfl (es rfl l17_89))
                have l18_91 := lookE hA91 18 (e2 rfl (es rfl l18_89))
                have l19_91 := lookE hA91 19 (e2 rfl (es rfl l19_89))
                have l20_91 := lookE hA91 20 (e2 rfl (es rfl l20_89))
                have l21_91 := lookE hA91 21 (et rfl)
                have l94_91 := lookE hA91 94 (e2 rfl (es rfl l94_89))
                have l95_91 := lookE hA91 95 (e2 rfl (es rfl l95_89))
                clear hA91 hsz89 hdf89 l7_89 l12_89 l13_89 l15_89 l17_89 l18_89 l19_89 l20_89 l21_89 l94_89 l95_89 l114_89
                refine then_n (hK87 _ _ ?_)
                clear hK87
                refine wp_seq_k (fun K92 hK92 => ?_)
                refine region_in ?_
                refine W_v rfl rfl (V_mov rfl l15_91) ?_
                refine W_v rfl rfl (V_mov rfl (es rfl l20_91)) ?_
                refine W_call rfl rfl rfl Try.func23 (by kernel_rfl) rfl (args2 (es rfl (et rfl)) (et rfl)) (qcount_c (t := y77.1) (hS80.chC 1 rfl hc_69b).own ) ?_
                rintro _ w93 ⟨rfl, hP93⟩
                refine ⟨_, rfl, ?_⟩
                have hS93 := hS80.join hP93
                replace hS93 : St w NoX [c_69, c_69b, c_69bb] w93 := hS93
                refine W_v rfl rfl (V_mov rfl (e2 rfl (es rfl l21_91))) ?_
                refine W_v rfl rfl (V_neq rfl (es rfl (et rfl)) (et rfl)) ?_
                refine W_end ?_
                refine gen_Q (fun A94 hA94 => ?_)
                have hsz94 := szq hA94
                have hdf94 : A94.defers = [] := by rw [hA94]; simp only [df_put]; exact hdf91
                have l7_94 := lookE hA94 7 (e4 rfl (es rfl l7_91))
                have l12_94 := lookE hA94 12 (e4 rfl (es rfl l12_91))
                have l13_94 := lookE hA94 13 (e4 rfl (es rfl l13_91))
                have l15_94 := lookE hA94 15 (e4 rfl (es rfl l15_91))
                have l17_94 := lookE hA94 17 (e4 rfl (es rfl l17_91))
                have l18_94 := lookE hA94 18 (e4 rfl (es rfl l18_91))
                have l19_94 := lookE hA94 19 (e4 rfl (es rfl l19_91))
                have l94_94 := lookE hA94 94 (e4 rfl (es rfl l94_91))
                have l95_94 := lookE hA94 95 (e4 rfl (es rfl l95_91))
                have l121_94 := lookE hA94 121 (et rfl)
                clear hA94 hsz91 hdf91 l7_91 l12_91 l13_91 l15_91 l17_91 l18_91 l19_91 l20_91 l21_91 l94_91 l95_91
                refine then_n (hK92 _ _ ?_)
                clear hK92
                refine cond_not l121_94 (by rw [decide_eq_false_iff_not]; have q := hst77; (repeat' split at q) <;> omega) ?_
                refine wp_skip ?_
                refine inb_n ?_
                refine then_n (hK75 _ _ ?_)
                clear hK75
                refine region_in ?_
                refine W_v rfl rfl (V_mov rfl l19_94) ?_
                refine W_v rfl rfl (V_add rfl (et rfl) rfl (by omega) (by omega)) ?_
                refine W_v rfl rfl (V_asg rfl (et rfl)) ?_
                refine W_end ?_
                refine gen_Q (fun A95 hA95 => ?_)
                have hsz95 := szq hA95
                have hdf95 : A95.defers = [] := by rw [hA95]; simp only [df_put]; exact hdf94
                have l7_95 := lookE hA95 7 (e2 rfl (es rfl l7_94))
                have l12_95 := lookE hA95 12 (e2 rfl (es rfl l12_94))
                have l13_95 := lookE hA95 13 (e2 rfl (es rfl l13_94))
                have l15_95 := lookE hA95 15 (e2 rfl (es rfl l15_94))
                have l17_95 := lookE hA95 17 (e2 rfl (es rfl l17_94))
                have l18_95 := lookE hA95 18 (e2 rfl (es rfl l18_94))
                have l19_95 := lookE hA95 19 (et rfl)
                have l94_95 := lookE hA95 94 (e2 rfl (es rfl l94_94))
                have l95_95 := lookE hA95 95 (e2 rfl (es rfl l95_94))
                clear hA95 hsz94 hdf94 l7_94 l12_94 l13_94 l15_94 l17_94 l18_94 l19_94 l94_94 l95_94 l121_94
                refine then_n ⟨(mgT (coT ws c) (coT (ws.set y36.toNat (r % 1601)) c)).length - (k + 1), by simp only [hm69]; omega, hsz95, hdf95, (k + 1), rfl, (by omega), ((l19_95).trans (by first | rfl | (simp; done) | (congr 1; omega))), ((l7_95).trans l7_68.symm), ((l12_95).trans l12_68.symm), ((l13_95).trans l13_68.symm), ((l15_95).trans l15_68.symm), ((l17_95).trans l17_68.symm), ((l18_95).trans l18_68.symm), (by subst hc_69 hc_69b hc_69bb; exact hS93)⟩
              · skip
                refine wp_skip ?_
                refine then_n (hK87 _ _ ?_)
                clear hK87
                refine wp_seq_k (fun K96 hK96 => ?_)
                refine region_in ?_
                refine W_v rfl rfl (V_mov rfl l15_89) ?_
                refine W_v rfl rfl (V_mov rfl (es rfl l20_89)) ?_
                refine W_call rfl rfl rfl Try.func23 (by kernel_rfl) rfl (args2 (es rfl (et rfl)) (et rfl)) (qcount_c (t := y77.1) (hS80.chC 1 rfl hc_69b).own ) ?_
                rintro _ w97 ⟨rfl, hP97⟩
                refine ⟨_, rfl, ?_⟩
                have hS97 := hS80.join hP97
                replace hS97 : St w NoX [c_69, c_69b, c_69bb] w97 := hS97
                refine W_v rfl rfl (V_mov rfl (e2 rfl (es rfl l21_89))) ?_
                refine W_v rfl rfl (V_neq rfl (es rfl (et rfl)) (et rfl)) ?_
                refine W_end ?_
                refine gen_Q (fun A98 hA98 => ?_)
                have hsz98 := szq hA98
                have hdf98 : A98.defers = [] := by rw [hA98]; simp only [df_put]; exact hdf89
                have l7_98 := lookE hA98 7 (e4 rfl (es rfl l7_89))
                have l12_98 := lookE hA98 12 (e4 rfl (es rfl l12_89))
                have l13_98 := lookE hA98 13 (e4 rfl (es rfl l13_89))
                have l15_98 := lookE hA98 15 (e4 rfl (es rfl l15_89))
                have l17_98 := lookE hA98 17 (e4 rfl (es rfl l17_89))
                have l18_98 := lookE hA98 18 (e4 rfl (es rfl l18_89))
                have l19_98 := lookE hA98 19 (e4 rfl (es rfl l19_89))
                have l94_98 := lookE hA98 94 (e4 rfl (es rfl l94_89))
                have l95_98 := lookE hA98 95 (e4 rfl (es rfl l95_89))
                have l121_98 := lookE hA98 121 (et rfl)
                clear hA98 hsz89 hdf89 l7_89 l12_89 l13_89 l15_89 l17_89 l18_89 l19_89 l20_89 l21_89 l94_89 l95_89 l114_89
                refine then_n (hK96 _ _ ?_)
                clear hK96
                refine cond_not l121_98 (by rw [decide_eq_false_iff_not]; have q := hst77; (repeat' split at q) <;> omega) ?_
                refine wp_skip ?_
                refine inb_n ?_
                refine then_n (hK75 _ _ ?_)
                clear hK75
                refine region_in ?_
                refine W_v rfl rfl (V_mov rfl l19_98) ?_
                refine W_v rfl rfl (V_add rfl (et rfl) rfl (by omega) (by omega)) ?_
                refine W_v rfl rfl (V_asg rfl (et rfl)) ?_
                refine W_end ?_
                refine gen_Q (fun A99 hA99 => ?_)
                have hsz99 := szq hA99
                have hdf99 : A99.defers = [] := by rw [hA99]; simp only [df_put]; exact hdf98
                have l7_99 := lookE hA99 7 (e2 rfl (es rfl l7_98))
                have l12_99 := lookE hA99 12 (e2 rfl (es rfl l12_98))
                have l13_99 := lookE hA99 13 (e2 rfl (es rfl l13_98))
                have l15_99 := lookE hA99 15 (e2 rfl (es rfl l15_98))
                have l17_99 := lookE hA99 17 (e2 rfl (es rfl l17_98))
                have l18_99 := lookE hA99 18 (e2 rfl (es rfl l18_98))
                have l19_99 := lookE hA99 19 (et rfl)
                have l94_99 := lookE hA99 94 (e2 rfl (es rfl l94_98))
                have l95_99 := lookE hA99 95 (e2 rfl (es rfl l95_98))
                clear hA99 hsz98 hdf98 l7_98 l12_98 l13_98 l15_98 l17_98 l18_98 l19_98 l94_98 l95_98 l121_98
                refine then_n ⟨(mgT (coT ws c) (coT (ws.set y36.toNat (r % 1601)) c)).length - (k + 1), by simp only [hm69]; omega, hsz99, hdf99, (k + 1), rfl, (by omega), ((l19_99).trans (by first | rfl | (simp; done) | (congr 1; omega))), ((l7_99).trans l7_68.symm), ((l12_99).trans l12_68.symm), ((l13_99).trans l13_68.symm), ((l15_99).trans l15_68.symm), ((l17_99).trans l17_68.symm), ((l18_99).trans l18_68.symm), (by subst hc_69 hc_69b hc_69bb; exact hS97)⟩
            · skip
              refine wp_skip ?_
              refine then_n (hK82 _ _ ?_)
              clear hK82
              refine wp_seq_k (fun K100 hK100 => ?_)
              refine wp_seq_k (fun K101 hK101 => ?_)
              refine region_in ?_
              refine W_v rfl rfl (V_mov rfl l20_84) ?_
              refine W_v rfl rfl (V_mov rfl (es rfl l13_84)) ?_
              refine W_v rfl rfl (V_eql rfl (es rfl (et rfl)) (et rfl)) ?_
              refine W_end ?_
              refine gen_Q (fun A102 hA102 => ?_)
              have hsz102 := szq hA102
              have hdf102 : A102.defers = [] := by rw [hA102]; simp only [df_put]; exact hdf84
              have l7_102 := lookE hA102 7 (e2 rfl (es rfl l7_84))
              have l12_102 := lookE hA102 12 (e2 rfl (es rfl l12_84))
              have l13_102 := lookE hA102 13 (e2 rfl (es rfl l13_84))
              have l15_102 := lookE hA102 15 (e2 rfl (es rfl l15_84))
              have l17_102 := lookE hA102 17 (e2 rfl (es rfl l17_84))
              have l18_102 := lookE hA102 18 (e2 rfl (es rfl l18_84))
              have l19_102 := lookE hA102 19 (e2 rfl (es rfl l19_84))
              have l20_102 := lookE hA102 20 (e2 rfl (es rfl l20_84))
              have l21_102 := lookE hA102 21 (e2 rfl (es rfl l21_84))
              have l94_102 := lookE hA102 94 (e2 rfl (es rfl l94_84))
              have l95_102 := lookE hA102 95 (e2 rfl (es rfl l95_84))
              have l114_102 := lookE hA102 114 (et rfl)
              clear hA102 hsz84 hdf84 l7_84 l12_84 l13_84 l15_84 l17_84 l18_84 l19_84 l20_84 l21_84 l94_84 l95_84 l109_84
              refine then_n (hK101 _ _ ?_)
              clear hK101
              refine cond_dec l114_102 (fun c103 => ?_) (fun c103 => ?_)
              · skip
                refine region_in ?_
                refine W_v rfl rfl (V_mov rfl l21_102) ?_
                refine W_v rfl rfl (V_add rfl (et rfl) rfl (by omega) (by omega)) ?_
                refine W_v rfl rfl (V_asg rfl (et rfl)) ?_
                refine W_end ?_
                refine gen_Q (fun A104 hA104 => ?_)
                have hsz104 := szq hA104
                have hdf104 : A104.defers = [] := by rw [hA104]; simp only [df_put]; exact hdf102
                have l7_104 := lookE hA104 7 (e2 rfl (es rfl l7_102))
                have l12_104 := lookE hA104 12 (e2 rfl (es rfl l12_102))
                have l13_104 := lookE hA104 13 (e2 rfl (es rfl l13_102))
                have l15_104 := lookE hA104 15 (e2 rfl (es rfl l15_102))
                have l17_104 := lookE hA104 17 (e2 rfl (es rfl l17_102))
                have l18_104 := lookE hA104 18 (e2 rfl (es rfl l18_102))
                have l19_104 := lookE hA104 19 (e2 rfl (es rfl l19_102))
                have l20_104 := lookE hA104 20 (e2 rfl (es rfl l20_102))
                have l21_104 := lookE hA104 21 (et rfl)
                have l94_104 := lookE hA104 94 (e2 rfl (es rfl l94_102))
                have l95_104 := lookE hA104 95 (e2 rfl (es rfl l95_102))
                clear hA104 hsz102 hdf102 l7_102 l12_102 l13_102 l15_102 l17_102 l18_102 l19_102 l20_102 l21_102 l94_102 l95_102 l114_102
                refine then_n (hK100 _ _ ?_)
                clear hK100
                refine wp_seq_k (fun K105 hK105 => ?_)
                refine region_in ?_
                refine W_v rfl rfl (V_mov rfl l15_104) ?_
                refine W_v rfl rfl (V_mov rfl (es rfl l20_104)) ?_
                refine W_call rfl rfl rfl Try.func23 (by kernel_rfl) rfl (args2 (es rfl (et rfl)) (et rfl)) (qcount_c (t := y77.1) (hS80.chC 1 rfl hc_69b).own ) ?_
                rintro _ w106 ⟨rfl, hP106⟩
                refine ⟨_, rfl, ?_⟩
                have hS106 := hS80.join hP106
                replace hS106 : St w NoX [c_69, c_69b, c_69bb] w106 := hS106
                refine W_v rfl rfl (V_mov rfl (e2 rfl (es rfl l21_104))) ?_
                refine W_v rfl rfl (V_neq rfl (es rfl (et rfl)) (et rfl)) ?_
                refine W_end ?_
                refine gen_Q (fun A107 hA107 => ?_)
                have hsz107 := szq hA107
                have hdf107 : A107.defers = [] := by rw [hA107]; simp only [df_put]; exact hdf104
                have l7_107 := lookE hA107 7 (e4 rfl (es rfl l7_104))
                have l12_107 := lookE hA107 12 (e4 rfl (es rfl l12_104))
                have l13_107 := lookE hA107 13 (e4 rfl (es rfl l13_104))
                have l15_107 := lookE hA107 15 (e4 rfl (es rfl l15_104))
                have l17_107 := lookE hA107 17 (e4 rfl (es rfl l17_104))
                have l18_107 := lookE hA107 18 (e4 rfl (es rfl l18_104))
                have l19_107 := lookE hA107 19 (e4 rfl (es rfl l19_104))
                have l94_107 := lookE hA107 94 (e4 rfl (es rfl l94_104))
                have l95_107 := lookE hA107 95 (e4 rfl (es rfl l95_104))
                have l121_107 := lookE hA107 121 (et rfl)
                clear hA107 hsz104 hdf104 l7_104 l12_104 l13_104 l15_104 l17_104 l18_104 l19_104 l20_104 l21_104 l94_104 l95_104
                refine then_n (hK105 _ _ ?_)
                clear hK105
                refine cond_not l121_107 (by rw [decide_eq_false_iff_not]; have q := hst77; (repeat' split at q) <;> omega) ?_
                refine wp_skip ?_
                refine inb_n ?_
                refine then_n (hK75 _ _ ?_)
                clear hK75
                refine region_in ?_
                refine W_v rfl rfl (V_mov rfl l19_107) ?_
                refine W_v rfl rfl (V_add rfl (et rfl) rfl (by omega) (by omega)) ?_
                refine W_v rfl rfl (V_asg rfl (et rfl)) ?_
                refine W_end ?_
                refine gen_Q (fun A108 hA108 => ?_)
                have hsz108 := szq hA108
                have hdf108 : A108.defers = [] := by rw [hA108]; simp only [df_put]; exact hdf107
                have l7_108 := lookE hA108 7 (e2 rfl (es rfl l7_107))
                have l12_108 := lookE hA108 12 (e2 rfl (es rfl l12_107))
                have l13_108 := lookE hA108 13 (e2 rfl (es rfl l13_107))
                have l15_108 := lookE hA108 15 (e2 rfl (es rfl l15_107))
                have l17_108 := lookE hA108 17 (e2 rfl (es rfl l17_107))
                have l18_108 := lookE hA108 18 (e2 rfl (es rfl l18_107))
                have l19_108 := lookE hA108 19 (et rfl)
                have l94_108 := lookE hA108 94 (e2 rfl (es rfl l94_107))
                have l95_108 := lookE hA108 95 (e2 rfl (es rfl l95_107))
                clear hA108 hsz107 hdf107 l7_107 l12_107 l13_107 l15_107 l17_107 l18_107 l19_107 l94_107 l95_107 l121_107
                refine then_n ⟨(mgT (coT ws c) (coT (ws.set y36.toNat (r % 1601)) c)).length - (k + 1), by simp only [hm69]; omega, hsz108, hdf108, (k + 1), rfl, (by omega), ((l19_108).trans (by first | rfl | (simp; done) | (congr 1; omega))), ((l7_108).trans l7_68.symm), ((l12_108).trans l12_68.symm), ((l13_108).trans l13_68.symm), ((l15_108).trans l15_68.symm), ((l17_108).trans l17_68.symm), ((l18_108).trans l18_68.symm), (by subst hc_69 hc_69b hc_69bb; exact hS106)⟩
              · skip
                refine wp_skip ?_
                refine then_n (hK100 _ _ ?_)
                clear hK100
                refine wp_seq_k (fun K109 hK109 => ?_)
                refine region_in ?_
                refine W_v rfl rfl (V_mov rfl l15_102) ?_
                refine W_v rfl rfl (V_mov rfl (es rfl l20_102)) ?_
                refine W_call rfl rfl rfl Try.func23 (by kernel_rfl) rfl (args2 (es rfl (et rfl)) (et rfl)) (qcount_c (t := y77.1) (hS80.chC 1 rfl hc_69b).own ) ?_
                rintro _ w110 ⟨rfl, hP110⟩
                refine ⟨_, rfl, ?_⟩
                have hS110 := hS80.join hP110
                replace hS110 : St w NoX [c_69, c_69b, c_69bb] w110 := hS110
                refine W_v rfl rfl (V_mov rfl (e2 rfl (es rfl l21_102))) ?_
                refine W_v rfl rfl (V_neq rfl (es rfl (et rfl)) (et rfl)) ?_
                refine W_end ?_
                refine gen_Q (fun A111 hA111 => ?_)
                have hsz111 := szq hA111
                have hdf111 : A111.defers = [] := by rw [hA111]; simp only [df_put]; exact hdf102
                have l7_111 := lookE hA111 7 (e4 rfl (es rfl l7_102))
                have l12_111 := lookE hA111 12 (e4 rfl (es rfl l12_102))
                have l13_111 := lookE hA111 13 (e4 rfl (es rfl l13_102))
                have l15_111 := lookE hA111 15 (e4 rfl (es rfl l15_102))
                have l17_111 := lookE hA111 17 (e4 rfl (es rfl l17_102))
                have l18_111 := lookE hA111 18 (e4 rfl (es rfl l18_102))
                have l19_111 := lookE hA111 19 (e4 rfl (es rfl l19_102))
                have l94_111 := lookE hA111 94 (e4 rfl (es rfl l94_102))
                have l95_111 := lookE hA111 95 (e4 rfl (es rfl l95_102))
                have l121_111 := lookE hA111 121 (et rfl)
                clear hA111 hsz102 hdf102 l7_102 l12_102 l13_102 l15_102 l17_102 l18_102 l19_102 l20_102 l21_102 l94_102 l95_102 l114_102
                refine then_n (hK109 _ _ ?_)
                clear hK109
                refine cond_not l121_111 (by rw [decide_eq_false_iff_not]; have q := hst77; (repeat' split at q) <;> omega) ?_
                refine wp_skip ?_
                refine inb_n ?_
                refine then_n (hK75 _ _ ?_)
                clear hK75
                refine region_in ?_
                refine W_v rfl rfl (V_mov rfl l19_111) ?_
                refine W_v rfl rfl (V_add rfl (et rfl) rfl (by omega) (by omega)) ?_
                refine W_v rfl rfl (V_asg rfl (et rfl)) ?_
                refine W_end ?_
                refine gen_Q (fun A112 hA112 => ?_)
                have hsz112 := szq hA112
                have hdf112 : A112.defers = [] := by rw [hA112]; simp only [df_put]; exact hdf111
                have l7_112 := lookE hA112 7 (e2 rfl (es rfl l7_111))
                have l12_112 := lookE hA112 12 (e2 rfl (es rfl l12_111))
                have l13_112 := lookE hA112 13 (e2 rfl (es rfl l13_111))
                have l15_112 := lookE hA112 15 (e2 rfl (es rfl l15_111))
                have l17_112 := lookE hA112 17 (e2 rfl (es rfl l17_111))
                have l18_112 := lookE hA112 18 (e2 rfl (es rfl l18_111))
                have l19_112 := lookE hA112 19 (et rfl)
                have l94_112 := lookE hA112 94 (e2 rfl (es rfl l94_111))
                have l95_112 := lookE hA112 95 (e2 rfl (es rfl l95_111))
                clear hA112 hsz111 hdf111 l7_111 l12_111 l13_111 l15_111 l17_111 l18_111 l19_111 l94_111 l95_111 l121_111
                refine then_n ⟨(mgT (coT ws c) (coT (ws.set y36.toNat (r % 1601)) c)).length - (k + 1), by simp only [hm69]; omega, hsz112, hdf112, (k + 1), rfl, (by omega), ((l19_112).trans (by first | rfl | (simp; done) | (congr 1; omega))), ((l7_112).trans l7_68.symm), ((l12_112).trans l12_68.symm), ((l13_112).trans l13_68.symm), ((l15_112).trans l15_68.symm), ((l17_112).trans l17_68.symm), ((l18_112).trans l18_68.symm), (by subst hc_69 hc_69b hc_69bb; exact hS110)⟩
          · skip
            refine wp_exit ?_
            refine then_exit ?_
            refine then_exit ?_
            refine inb_hit ?_
            refine then_n (hK66 _ _ ?_)
            clear hK66
            refine wp_seq_k (fun K113 hK113 => ?_)
            refine region_in ?_
            refine W_call rfl rfl rfl Try.func12 (by kernel_rfl) rfl (args0) (awk_c  ) ?_
            rintro _ w114 ⟨rfl, hP114⟩
            refine ⟨_, rfl, ?_⟩
            have hS114 := hS69.join hP114
            replace hS114 : St w NoX [c_69, c_69b, c_69bb] w114 := hS114
            refine W_v rfl rfl (V_asg rfl (et rfl)) ?_
            refine W_end ?_
            refine gen_Q (fun A115 hA115 => ?_)
            have hsz115 := szq hA115
            have hdf115 : A115.defers = [] := by rw [hA115]; simp only [df_put]; exact hdf73
            have l6_115 := lookE hA115 6 (et rfl)
            clear hA115 hsz73 hdf73 l7_73 l12_73 l13_73 l15_73 l17_73 l18_73 l19_73 l94_73 l95_73 l96_73
            have hS116 : St w NoX [] w114 := hS114.sel [] (by decide) rfl
            refine then_n (hK113 _ _ ?_)
            clear hK113
            refine wp_ret ?_
            refine ret_in (results_1 Try.results5 (rv_tmp l6_115)) hdf115 ?_
            -- leaf FFFTF
            exact ⟨rfl, hS116.fin0⟩
        · skip
          refine W_off rfl (wanted_f rfl rfl (et rfl) (ez rfl) rfl) ?_
          refine W_off rfl (wanted_f rfl rfl (es rfl (et rfl)) (ez rfl) rfl) ?_
          refine W_v rfl rfl (V_pickF rfl (e2 rfl (et rfl)) rfl) ?_
          refine W_end ?_
          refine gen_Q (fun A117 hA117 => ?_)
          have hsz117 := szq hA117
          have hdf117 : A117.defers = [] := by rw [hA117]; simp only [df_put]; exact hdf69
          have l7_117 := lookE hA117 7 (e7 rfl (es rfl l7_69))
          have l12_117 := lookE hA117 12 (e7 rfl (es rfl l12_69))
          have l13_117 := lookE hA117 13 (e7 rfl (es rfl l13_69))
          have l15_117 := lookE hA117 15 (e7 rfl (es rfl l15_69))
          have l17_117 := lookE hA117 17 (e7 rfl (es rfl l17_69))
          have l18_117 := lookE hA117 18 (e7 rfl (es rfl l18_69))
          have l19_117 := lookE hA117 19 (e7 rfl (es rfl l19_69))
          have l94_117 := lookE hA117 94 (e2 rfl (et rfl))
          have l95_117 := lookE hA117 95 (es rfl (et rfl))
          have l96_117 := lookE hA117 96 (et rfl)
          clear hA117 hsz69 hdf69 l19_69 l7_69 l12_69 l13_69 l15_69 l17_69 l18_69
          refine then_n (hK71 _ _ ?_)
          clear hK71
          refine cond_f l96_117 ?_
          refine wp_exit ?_
          refine then_exit ?_
          refine then_exit ?_
          refine inb_hit ?_
          refine then_n (hK66 _ _ ?_)
          clear hK66
          refine wp_seq_k (fun K118 hK118 => ?_)
          refine region_in ?_
          refine W_call rfl rfl rfl Try.func12 (by kernel_rfl) rfl (args0) (awk_c  ) ?_
          rintro _ w119 ⟨rfl, hP119⟩
          refine ⟨_, rfl, ?_⟩
          have hS119 := hS69.join hP119
          replace hS119 : St w NoX [c_69, c_69b, c_69bb] w119 := hS119
          refine W_v rfl rfl (V_asg rfl (et rfl)) ?_
          refine W_end ?_
          refine gen_Q (fun A120 hA120 => ?_)
          have hsz120 := szq hA120
          have hdf120 : A120.defers = [] := by rw [hA120]; simp only [df_put]; exact hdf117
          have l6_120 := lookE hA120 6 (et rfl)
          clear hA120 hsz117 hdf117 l7_117 l12_117 l13_117 l15_117 l17_117 l18_117 l19_117 l94_117 l95_117 l96_117
          have hS121 : St w NoX [] w119 := hS119.sel [] (by decide) rfl
          refine then_n (hK118 _ _ ?_)
          clear hK118
          refine wp_ret ?_
          refine ret_in (results_1 Try.results5 (rv_tmp l6_120)) hdf120 ?_
          -- leaf FFFF
          exact ⟨rfl, hS121.fin0⟩

end Go.Proofs.Ytnfgeekaeegolaa