import Derived.Test.YtoandfgkkmfobaaProg
import Derived.Test.YtoandfgkkmfobaaSl6
import Derived.Test.YtoandfgkkmfobaaPl7f
namespace Go.Proofs.Ytoandfgkkmfobaa
open Go.RowKit Go.Own Go.Own.R Go.Own.S


set_option maxHeartbeats 4000000 in
theorem SlotsSets_c {av : Value} {acts : List (Int × Bool)} {w : World} (h_av : Ro w NoX (rl 2 acC av acts)) (hac : ∀ y ∈ acts, 0 ≤ y.1 ∧ y.1 ≤ 65535) :
    Calls Try.prog 7 #[av] w fun e w' => e = .returned (.bool true) ∧ St w NoX [] w' := by
  refine calls_in 179 Try.func7 rfl rfl (by simp) (fun A0 hsz0 hdf0 hargs => ?_)
  have l0_0 := hargs 0 (av) rfl
  clear hargs; replace hsz0 : SzN A0 179 := ⟨hsz0⟩
  have hS := St.nil w
  have bh_av := SlN.le (sl_SlN h_av.at)
  refine wp_seq_k (fun K1 hK1 => ?_)
  -- region 0
  refine region_in ?_
  refine W_v rfl rfl (V_asg rfl rfl) ?_
  refine W_end ?_
  refine gen_Q (fun A2 hA2 => ?_)
  have hsz2 : SzN A2 179 := by rw [hA2]; infer_instance
  have hdf2 : A2.defers = [] := by rw [hA2]; simp only [df_put]; exact hdf0
  have l0_2 := lookE hA2 0 (es rfl l0_0)
  clear hA2 hsz0 hdf0 l0_0
  refine then_n (hK1 _ _ ?_)
  clear hK1
  refine wp_seq_k (fun K3 hK3 => ?_)
  refine wp_seq_k (fun K4 hK4 => ?_)
  -- region 1
  refine region_in ?_
  refine W_v rfl rfl (V_mov rfl l0_2) ?_
  refine W_v rfl rfl (V_lenS rfl (et rfl) (sl_SlN h_av.at) Try.underlying48) ?_
  refine W_v rfl rfl (V_gtr rfl (et rfl) rfl) ?_
  refine W_end ?_
  refine gen_Q (fun A5 hA5 => ?_)
  have hsz5 : SzN A5 179 := by rw [hA5]; infer_instance
  have hdf5 : A5.defers = [] := by rw [hA5]; simp only [df_put]; exact hdf2
  have l0_5 := lookE hA5 0 (es rfl (es rfl (es rfl l0_2)))
  have l23_5 := lookE hA5 23 (et rfl)
  clear hA5 hsz2 hdf2 l0_2
  refine then_n (hK4 _ _ ?_)
  clear hK4
  refine cond_dec l23_5 (fun c6 => ?_) (fun c6 => ?_)
  · skip
    refine wp_seq_k (fun K7 hK7 => ?_)
    -- region 2
    refine region_in ?_
    refine W_call rfl rfl rfl Try.func12 (by kernel_rfl) rfl (args0) (awake_c  ) ?_
    rintro _ w8 ⟨rfl, hP8⟩
    refine ⟨_, rfl, ?_⟩
    have hS8 := hS.join hP8
    replace hS8 : St w NoX [] w8 := hS8
    refine W_v rfl rfl (V_asg rfl (et rfl)) ?_
    refine W_end ?_
    refine gen_Q (fun A9 hA9 => ?_)
    have hsz9 : SzN A9 179 := by rw [hA9]; infer_instance
    have hdf9 : A9.defers = [] := by rw [hA9]; simp only [df_put]; exact hdf5
    have l2_9 := lookE hA9 2 (et rfl)
    clear hA9 hsz5 hdf5 l0_5 l23_5
    refine then_n (hK7 _ _ ?_)
    clear hK7
    refine wp_ret ?_
    refine then_ret ?_
    refine ret_in (results_1 Try.results7 (rv_tmp l2_9)) hdf9 ?_
    -- leaf T
    exact ⟨rfl, hS8.fin0⟩
  · skip
    refine wp_skip ?_
    refine then_n (hK3 _ _ ?_)
    clear hK3
    refine wp_seq_k (fun K10 hK10 => ?_)
    -- region 3
    refine region_in ?_
    refine W_call rfl rfl rfl Try.func30 (by kernel_rfl) rfl (args0) (knew_c  ) ?_
    rintro _ w11 ⟨v_11, rfl, hP11⟩
    refine ⟨_, rfl, ?_⟩
    obtain ⟨c_11, hc_11, hP11⟩ := gen1 hP11
    have hS11 := hS.join hP11
    replace hS11 : St w NoX [c_11] w11 := hS11
    refine W_allocS (z := .agg #[.slice none 0 0]) (zs := #[.slice none 0 0]) hS11 rfl rfl rfl (by kernel_rfl) (by rfl) (fun g12 w12 c12 hc12 hS12 => ?_)
    replace hS12 : St w NoX [c12, c_11] w12 := hS12
    refine W_stAS 0 hS12 rfl hc12 rfl rfl rfl (et rfl) (es rfl (et rfl)) (by simp only [List.all_toArray, List.all_cons, List.all_nil, SlN_one (ow_at (hS12.chq 1 rfl hc_11))] <;> rfl) (by rfl) (by kernel_rfl) (fun w13 c13 hc13 hS13 => ?_)
    replace hS13 : St w NoX [c13, c_11] w13 := hS13
    refine W_end ?_
    refine gen_Q (fun A14 hA14 => ?_)
    have hsz14 : SzN A14 179 := by rw [hA14]; infer_instance
    have hdf14 : A14.defers = [] := by rw [hA14]; simp only [df_put]; exact hdf5
    have l0_14 := lookE hA14 0 (es rfl (es rfl l0_5))
    have l3_14 := lookE hA14 3 (et rfl)
    clear hA14 hsz5 hdf5 l0_5 l23_5
    refine then_n (hK10 _ _ ?_)
    clear hK10
    refine wp_seq_k (fun K15 hK15 => ?_)
    -- region 4
    refine region_in ?_
    refine W_mkS (z := .bool false) (bytes := 1) 61 hS13 rfl rfl rfl rfl rfl (by omega) Try.underlying49 (by kernel_rfl) (by omega) rfl (fun v16 w16 c16 hc16 hS16 => ?_)
    replace hc16 : c16 = bo v16 (List.replicate 61 false) := hc16.trans (by simp only [io, bo, List.map_replicate, List.length_replicate])
    replace hS16 : St w NoX [c16, c13, c_11] w16 := hS16
    refine W_v rfl rfl (V_asg rfl (et rfl)) ?_
    refine W_end ?_
    refine gen_Q (fun A17 hA17 => ?_)
    have hsz17 : SzN A17 179 := by rw [hA17]; infer_instance
    have hdf17 : A17.defers = [] := by rw [hA17]; simp only [df_put]; exact hdf14
    have l0_17 := lookE hA17 0 (es rfl (es rfl l0_14))
    have l3_17 := lookE hA17 3 (es rfl (es rfl l3_14))
    have l4_17 := lookE hA17 4 (et rfl)
    clear hA17 hsz14 hdf14 l0_14 l3_14
    refine then_n (hK15 _ _ ?_)
    clear hK15
    refine wp_seq_k (fun K18 hK18 => ?_)
    -- region 5
    refine region_in ?_
    refine W_v rfl rfl (V_asg rfl rfl) ?_
    refine W_end ?_
    refine gen_Q (fun A19 hA19 => ?_)
    have hsz19 : SzN A19 179 := by rw [hA19]; infer_instance
    have hdf19 : A19.defers = [] := by rw [hA19]; simp only [df_put]; exact hdf17
    have l0_19 := lookE hA19 0 (es rfl l0_17)
    have l3_19 := lookE hA19 3 (es rfl l3_17)
    have l4_19 := lookE hA19 4 (es rfl l4_17)
    have l5_19 := lookE hA19 5 (et rfl)
    clear hA19 hsz17 hdf17 l0_17 l3_17 l4_17
    refine then_n (hK18 _ _ ?_)
    clear hK18
    refine wp_seq_k (fun K20 hK20 => ?_)
    refine wp_seq_k (fun K21 hK21 => ?_)
    -- region 6
    refine region_in ?_
    refine W_v rfl rfl (V_asg rfl rfl) ?_
    refine W_end ?_
    refine gen_Q (fun A22 hA22 => ?_)
    have hsz22 : SzN A22 179 := by rw [hA22]; infer_instance
    have hdf22 : A22.defers = [] := by rw [hA22]; simp only [df_put]; exact hdf19
    have l0_22 := lookE hA22 0 (es rfl l0_19)
    have l3_22 := lookE hA22 3 (es rfl l3_19)
    have l4_22 := lookE hA22 4 (es rfl l4_19)
    have l5_22 := lookE hA22 5 (es rfl l5_19)
    have l6_22 := lookE hA22 6 (et rfl)
    clear hA22 hsz19 hdf19 l0_19 l3_19 l4_19 l5_19
    refine then_n (hK21 _ _ ?_)
    clear hK21
    refine wp_block ?_
    -- loop 7
    refine loopX (fun mz A' w' => SzN A' 179 ∧ A'.defers = [] ∧ (∃ (i : Nat) (x : List Int) (tv : Value) (b : List Bool) (n : Int), (mz = acts.length - i) ∧ (i ≤ acts.length) ∧ (SR x b n) ∧ (b.length = 61) ∧ (0 ≤ n ∧ n ≤ 1600) ∧ (EV A' (.tmp 6) = .int .i64 (i : Int)) ∧ (EV A' (.tmp 5) = .int .i64 n) ∧ (EV A' (.tmp 0) = EV A22 (.tmp 0)) ∧ (EV A' (.tmp 3) = EV A22 (.tmp 3)) ∧ (EV A' (.tmp 4) = EV A22 (.tmp 4)) ∧ (St w NoX [bo v16 b, bx g12 24 #[tv], io .i64 tv x] w'))) (acts.length - 0) ⟨hsz22, hdf22, 0, (List.replicate 8 (0 : Int)), v_11, (List.replicate 61 false), 0, rfl, (by omega), sr_new, (by simp), (by omega), ((l6_22).trans (by first | rfl | (simp; done) | (congr 1; omega))), ((l5_22).trans (by first | rfl | (simp; done) | (congr 1; omega))), rfl, rfl, rfl, (by subst hc16 hc13 hc_11; exact hS16)⟩ ?_
    clear hS16 hc16 hc13 hc_11
    rintro n23 A23 w23 ⟨hsz23, hdf23, i, x, tv, b, n, hm23, hi, hsr, hbl, hnb, l6_23, l5_23, u0_23, u3_23, u4_23, hS23⟩
    have l0_23 := u0_23.trans l0_22
    have l3_23 := u3_23.trans l3_22
    have l4_23 := u4_23.trans l4_22
    obtain ⟨c16_23, c13_23, c_23, hc16_23, hc13_23, hc_23, hS23⟩ := gen3 hS23
    refine wp_seq_k (fun K24 hK24 => ?_)
    refine wp_seq_k (fun K25 hK25 => ?_)
    -- region 7
    refine region_in ?_
    refine W_v rfl rfl (V_mov rfl l6_23) ?_
    refine W_v rfl rfl (V_mov rfl (es rfl l0_23)) ?_
    refine W_v rfl rfl (V_lenS rfl (et rfl) (sl_SlN h_av.at) Try.underlying48) ?_
    refine W_v rfl rfl (V_lss rfl (es rfl (es rfl (et rfl))) (et rfl)) ?_
    refine W_end ?_
    refine gen_Q (fun A26 hA26 => ?_)
    have hsz26 : SzN A26 179 := by rw [hA26]; infer_instance
    have hdf26 : A26.defers = [] := by rw [hA26]; simp only [df_put]; exact hdf23
    have l0_26 := lookE hA26 0 (es rfl (es rfl (es rfl (es rfl l0_23))))
    have l3_26 := lookE hA26 3 (es rfl (es rfl (es rfl (es rfl l3_23))))
    have l4_26 := lookE hA26 4 (es rfl (es rfl (es rfl (es rfl l4_23))))
    have l5_26 := lookE hA26 5 (es rfl (es rfl (es rfl (es rfl l5_23))))
    have l6_26 := lookE hA26 6 (es rfl (es rfl (es rfl (es rfl l6_23))))
    have l30_26 := lookE hA26 30 (et rfl)
    clear hA26 hsz23 hdf23 l6_23 l5_23 l0_23 l3_23 l4_23
    refine then_n (hK25 _ _ ?_)
    clear hK25
    refine cond_dec l30_26 (fun c27 => ?_) (fun c27 => ?_)
    · skip
      refine wp_skip ?_
      refine then_n (hK24 _ _ ?_)
      clear hK24
      refine wp_seq_k (fun K28 hK28 => ?_)
      refine wp_block ?_
      refine wp_seq_k (fun K29 hK29 => ?_)
      -- region 9
      refine region_in ?_
      refine W_v rfl rfl (V_mov rfl l0_26) ?_
      refine W_v rfl rfl (V_mov rfl (es rfl l6_26)) ?_
      have k30 : i < acts.length := by first | omega | (simp only [List.length_cons, List.length_nil]; omega) | (simp only [List.length_set]; omega)
      obtain ⟨y30, hy30⟩ := get_some (xs := acts) (k := i) k30
      have hry30 := hac y30 (List.mem_of_getElem? hy30)
      obtain ⟨B30, O30, C30, hv30⟩ := (SlN.blk (sl_SlN h_av.at) (by first | omega | (simp only [List.length_cons, List.length_nil]; omega) | (simp only [List.length_set]; omega)))
      refine W_v rfl rfl (V_ixS (off := O30 + i * 2) 2 (i) rfl (es rfl (et rfl)) (et rfl) hv30 (by omega) k30 Try.underlying48 (by kernel_rfl) rfl) ?_
      refine W_v rfl rfl (V_fa (off' := O30 + i * 2 + 0) rfl (et rfl) Try.underlying52 rfl (by decide +kernel) rfl) ?_
      refine W_r rfl rfl (VR_ldC (v := .int .u16 (y30.1)) rfl (et rfl) (SlN.row acC_len (sl_SlN (hS23.ro h_av)) hv30 hy30 rfl 0 _ rfl) Try.underlying50 rfl) ?_
      refine W_v rfl rfl (V_cvt rfl (et rfl) Try.underlying50 Try.underlying3 (wrap_i64 (by omega) (by omega))) ?_
      refine W_v rfl rfl (V_rem rfl (et rfl) rfl (by omega) (by omega) (wrap_i64 (by omega) (by omega))) ?_
      refine W_v rfl rfl (V_add rfl (et rfl) rfl (by omega) (by omega)) ?_
      refine W_v rfl rfl (V_asg rfl (et rfl)) ?_
      refine W_end ?_
      refine gen_Q (fun A31 hA31 => ?_)
      have hsz31 : SzN A31 179 := by rw [hA31]; infer_instance
      have hdf31 : A31.defers = [] := by rw [hA31]; simp only [df_put]; exact hdf26
      have l0_31 := lookE hA31 0 (es rfl (es rfl (es rfl (es rfl (es rfl (es rfl (es rfl (es rfl (es rfl l0_26)))))))))
      have l3_31 := lookE hA31 3 (es rfl (es rfl (es rfl (es rfl (es rfl (es rfl (es rfl (es rfl (es rfl l3_26)))))))))
      have l4_31 := lookE hA31 4 (es rfl (es rfl (es rfl (es rfl (es rfl (es rfl (es rfl (es rfl (es rfl l4_26)))))))))
      have l5_31 := lookE hA31 5 (es rfl (es rfl (es rfl (es rfl (es rfl (es rfl (es rfl (es rfl (es rfl l5_26)))))))))
      have l6_31 := lookE hA31 6 (es rfl (es rfl (es rfl (es rfl (es rfl (es rfl (es rfl (es rfl (es rfl l6_26)))))))))
      have l7_31 := lookE hA31 7 (et rfl)
      clear hA31 hsz26 hdf26 l0_26 l3_26 l4_26 l5_26 l6_26 l30_26
      refine then_n (hK29 _ _ ?_)
      clear hK29
      refine wp_seq_k (fun K32 hK32 => ?_)
      -- region 10
      refine region_in ?_
      refine W_v rfl rfl (V_mov rfl l4_31) ?_
      refine W_v rfl rfl (V_mov rfl (es rfl l7_31)) ?_
      have k33 : (((y30.1 % 60) + 1)).toNat < b.length := by first | omega | (simp only [List.length_cons, List.length_nil]; omega) | (simp only [List.length_set]; omega)
      obtain ⟨y33, hy33⟩ := get_some (xs := b) (k := (((y30.1 % 60) + 1)).toNat) k33
      obtain ⟨B33, O33, C33, hv33⟩ := (SlN.blk (ow_at (hS23.chq 0 rfl hc16_23)) (by first | omega | (simp only [List.length_cons, List.length_nil]; omega) | (simp only [List.length_set]; omega)))
      refine W_v rfl rfl (V_ixS (off := O33 + ((((y30.1 % 60) + 1)).toNat)) 1 ((((y30.1 % 60) + 1)).toNat) rfl (es rfl (et rfl)) (et rfl) hv33 (by omega) k33 Try.underlying49 (by kernel_rfl) (congrArg _ (Nat.mul_one _))) ?_
      refine W_r rfl rfl (VR_ldC rfl (et rfl) ((ow_at (hS23.chq 0 rfl hc16_23)).cell hv33 (map_get hy33)) Try.underlying4 rfl) ?_
      refine W_v rfl rfl (V_asg rfl (et rfl)) ?_
      refine W_end ?_
      refine gen_Q (fun A34 hA34 => ?_)
      have hsz34 : SzN A34 179 := by rw [hA34]; infer_instance
      have hdf34 : A34.defers = [] := by rw [hA34]; simp only [df_put]; exact hdf31
      have l0_34 := lookE hA34 0 (es rfl (es rfl (es rfl (es rfl (es rfl l0_31)))))
      have l3_34 := lookE hA34 3 (es rfl (es rfl (es rfl (es rfl (es rfl l3_31)))))
      have l4_34 := lookE hA34 4 (es rfl (es rfl (es rfl (es rfl (es rfl l4_31)))))
      have l5_34 := lookE hA34 5 (es rfl (es rfl (es rfl (es rfl (es rfl l5_31)))))
      have l6_34 := lookE hA34 6 (es rfl (es rfl (es rfl (es rfl (es rfl l6_31)))))
      have l7_34 := lookE hA34 7 (es rfl (es rfl (es rfl (es rfl (es rfl l7_31)))))
      have l8_34 := lookE hA34 8 (et rfl)
      clear hA34 hsz31 hdf31 l0_31 l3_31 l4_31 l5_31 l6_31 l7_31
      refine then_n (hK32 _ _ ?_)
      clear hK32
      refine wp_seq_k (fun K35 hK35 => ?_)
      -- region 11
      refine region_in ?_
      refine W_v rfl rfl (V_asg rfl rfl) ?_
      refine W_end ?_
      refine gen_Q (fun A36 hA36 => ?_)
      have hsz36 : SzN A36 179 := by rw [hA36]; infer_instance
      have hdf36 : A36.defers = [] := by rw [hA36]; simp only [df_put]; exact hdf34
      have l0_36 := lookE hA36 0 (es rfl l0_34)
      have l3_36 := lookE hA36 3 (es rfl l3_34)
      have l4_36 := lookE hA36 4 (es rfl l4_34)
      have l5_36 := lookE hA36 5 (es rfl l5_34)
      have l6_36 := lookE hA36 6 (es rfl l6_34)
      have l7_36 := lookE hA36 7 (es rfl l7_34)
      have l8_36 := lookE hA36 8 (es rfl l8_34)
      clear hA36 hsz34 hdf34 l0_34 l3_34 l4_34 l5_34 l6_34 l7_34 l8_34
      refine then_n (hK35 _ _ ?_)
      clear hK35
      refine wp_seq_k (fun K37 hK37 => ?_)
      -- region 12
      refine region_in ?_
      refine W_v rfl rfl (V_asg rfl rfl) ?_
      refine W_end ?_
      refine gen_Q (fun A38 hA38 => ?_)
      have hsz38 : SzN A38 179 := by rw [hA38]; infer_instance
      have hdf38 : A38.defers = [] := by rw [hA38]; simp only [df_put]; exact hdf36
      have l0_38 := lookE hA38 0 (es rfl l0_36)
      have l3_38 := lookE hA38 3 (es rfl l3_36)
      have l4_38 := lookE hA38 4 (es rfl l4_36)
      have l5_38 := lookE hA38 5 (es rfl l5_36)
      have l6_38 := lookE hA38 6 (es rfl l6_36)
      have l7_38 := lookE hA38 7 (es rfl l7_36)
      have l8_38 := lookE hA38 8 (es rfl l8_36)
      clear hA38 hsz36 hdf36 l0_36 l3_36 l4_36 l5_36 l6_36 l7_36 l8_36
      refine then_n (hK37 _ _ ?_)
      clear hK37
      refine wp_seq_k (fun K39 hK39 => ?_)
      refine wp_seq_k (fun K40 hK40 => ?_)
      -- region 13
      refine region_in ?_
      refine W_v rfl rfl (V_mov rfl l0_38) ?_
      refine W_v rfl rfl (V_mov rfl (es rfl l6_38)) ?_
      refine W_v rfl rfl (V_ixS (off := O30 + i * 2) 2 (i) rfl (es rfl (et rfl)) (et rfl) hv30 (by omega) k30 Try.underlying48 (by kernel_rfl) rfl) ?_
      refine W_v rfl rfl (V_fa (off' := O30 + i * 2 + 1) rfl (et rfl) Try.underlying52 rfl (by decide +kernel) rfl) ?_
      refine W_r rfl rfl (VR_ldC (v := .bool (y30.2)) rfl (et rfl) (SlN.row acC_len (sl_SlN (hS23.ro h_av)) hv30 hy30 rfl 1 _ rfl) Try.underlying4 rfl) ?_
      refine W_end ?_
      refine gen_Q (fun A42 hA42 => ?_)
      have hsz42 : SzN A42 179 := by rw [hA42]; infer_instance
      have hdf42 : A42.defers = [] := by rw [hA42]; simp only [df_put]; exact hdf38
      have l0_42 := lookE hA42 0 (es rfl (es rfl (es rfl (es rfl (es rfl l0_38)))))
      have l3_42 := lookE hA42 3 (es rfl (es rfl (es rfl (es rfl (es rfl l3_38)))))
      have l4_42 := lookE hA42 4 (es rfl (es rfl (es rfl (es rfl (es rfl l4_38)))))
      have l5_42 := lookE hA42 5 (es rfl (es rfl (es rfl (es rfl (es rfl l5_38)))))
      have l6_42 := lookE hA42 6 (es rfl (es rfl (es rfl (es rfl (es rfl l6_38)))))
      have l7_42 := lookE hA42 7 (es rfl (es rfl (es rfl (es rfl (es rfl l7_38)))))
      have l8_42 := lookE hA42 8 (es rfl (es rfl (es rfl (es rfl (es rfl l8_38)))))
      have l49_42 := lookE hA42 49 (et rfl)
      clear hA42 hsz38 hdf38 l0_38 l3_38 l4_38 l5_38 l6_38 l7_38 l8_38
      refine then_n (hK40 _ _ ?_)
      clear hK40
      refine cond_b l49_42 (fun c43 => ?_) (fun c43 => ?_)
      · skip
        have hd := sr_drop hsr (a := ((y30.1 % 60) + 1)) (by omega) hy33
        -- region 14
        refine region_in ?_
        refine W_r rfl rfl (VR_ldA rfl l3_42 (hS23.obj 1 rfl hc13_23) Try.underlying24 rfl (by kernel_rfl)) ?_
        refine W_v rfl rfl (V_mov rfl (es rfl l7_42)) ?_
        refine W_call rfl rfl rfl Try.func18 (by kernel_rfl) rfl (args2 (es rfl (et rfl)) (et rfl)) (kDrop_c (a := ((y30.1 % 60) + 1)) (hS23.chC 2 rfl hc_23).own ) ?_
        rintro _ w44 ⟨v_44, rfl, hP44⟩
        refine ⟨_, rfl, ?_⟩
        obtain ⟨c_44, hc_44, hP44⟩ := gen1 hP44
        have hS44 := hS23.join hP44
        replace hS44 : St w NoX [c_44, c16_23, c13_23, c_23] w44 := hS44
        refine W_v rfl rfl (V_mov rfl (et rfl)) ?_
        refine W_v rfl rfl (V_ext (v := .agg #[v_44]) rfl (et rfl) rfl) ?_
        refine W_v rfl rfl (V_ext (v := .bool ((hsB x ((y30.1 % 60) + 1)))) rfl (es rfl (et rfl)) rfl) ?_
        refine W_v rfl rfl (V_ext (v := .int .i64 ((chE x ((y30.1 % 60) + 1)))) rfl (es rfl (es rfl (et rfl))) rfl) ?_
        refine W_stAS 2 hS44 rfl hc13_23 rfl rfl rfl (es rfl (es rfl (es rfl (es rfl (es rfl (es rfl (es rfl l3_42))))))) (es rfl (es rfl (et rfl))) (by simp only [List.all_toArray, List.all_cons, List.all_nil, SlN_one (ow_at (hS44.chq 0 rfl hc_44))] <;> rfl) (by rfl) (by kernel_rfl) (fun w45 c45 hc45 hS45 => ?_)
        replace hS45 : St w NoX [c_44, c16_23, c45, c_23] w45 := hS45
        refine W_v rfl rfl (V_asg rfl (es rfl (et rfl))) ?_
        refine W_v rfl rfl (V_asg rfl (es rfl (et rfl))) ?_
        refine W_end ?_
        refine gen_Q (fun A46 hA46 => ?_)
        have hsz46 : SzN A46 179 := by rw [hA46]; infer_instance
        have hdf46 : A46.defers = [] := by rw [hA46]; simp only [df_put]; exact hdf42
        have l0_46 := lookE hA46 0 (es rfl (es rfl (es rfl (es rfl (es rfl (es rfl (es rfl (es rfl (es rfl l0_42)))))))))
        have l3_46 := lookE hA46 3 (es rfl (es rfl (es rfl (es rfl (es rfl (es rfl (es rfl (es rfl (es rfl l3_42)))))))))
        have l4_46 := lookE hA46 4 (es rfl (es rfl (es rfl (es rfl (es rfl (es rfl (es rfl (es rfl (es rfl l4_42)))))))))
        have l5_46 := lookE hA46 5 (es rfl (es rfl (es rfl (es rfl (es rfl (es rfl (es rfl (es rfl (es rfl l5_42)))))))))
        have l6_46 := lookE hA46 6 (es rfl (es rfl (es rfl (es rfl (es rfl (es rfl (es rfl (es rfl (es rfl l6_42)))))))))
        have l7_46 := lookE hA46 7 (es rfl (es rfl (es rfl (es rfl (es rfl (es rfl (es rfl (es rfl (es rfl l7_42)))))))))
        have l8_46 := lookE hA46 8 (es rfl (es rfl (es rfl (es rfl (es rfl (es rfl (es rfl (es rfl (es rfl l8_42)))))))))
        have l9_46 := lookE hA46 9 (es rfl (et rfl))
        have l10_46 := lookE hA46 10 (et rfl)
        clear hA46 hsz42 hdf42 l0_42 l3_42 l4_42 l5_42 l6_42 l7_42 l8_42 l49_42
        have hS47 : St w NoX [c_44, c16_23, c45] w45 := hS45.sel [0, 1, 2] (by decide) rfl
        refine then_n (hK39 _ _ ?_)
        clear hK39
        refine wp_seq_k (fun K48 hK48 => ?_)
        refine wp_seq_k (fun K49 hK49 => ?_)
        -- region 16
        refine region_in ?_
        refine W_v rfl rfl (V_mov rfl l10_46) ?_
        refine W_v rfl rfl (V_neq rfl (et rfl) rfl) ?_
        refine W_sure (c' := false) rfl rfl (V_mov rfl (et rfl)) (by rw [decide_eq_false_iff_not]; rw [hd.1]; simp) ?_
        refine W_v rfl (wanted_t rfl rfl (et rfl) (ez rfl)) (V_mov rfl (es rfl (es rfl (es rfl l9_46)))) ?_
        refine W_v rfl (wanted_t rfl rfl (es rfl (et rfl)) (ez rfl)) (V_mov rfl (es rfl (es rfl (es rfl (es rfl l8_46))))) ?_
        refine W_v rfl (wanted_t rfl rfl (es rfl (es rfl (et rfl))) (ez rfl)) (V_mov rfl (es rfl (es rfl (es rfl (es rfl (es rfl l0_46)))))) ?_
        refine W_v rfl (wanted_t rfl rfl (es rfl (es rfl (es rfl (et rfl)))) (ez rfl)) (V_mov rfl (es rfl (es rfl (es rfl (es rfl (es rfl (es rfl l6_46))))))) ?_
        refine W_v rfl (wanted_t rfl rfl (es rfl (es rfl (es rfl (es rfl (et rfl))))) (ez rfl)) (V_ixS (off := O30 + i * 2) 2 (i) rfl (es rfl (et rfl)) (et rfl) hv30 (by omega) k30 Try.underlying48 (by kernel_rfl) rfl) ?_
        refine W_v rfl (wanted_t rfl rfl (es rfl (es rfl (es rfl (es rfl (es rfl (et rfl)))))) (ez rfl)) (V_fa (off' := O30 + i * 2 + 1) rfl (et rfl) Try.underlying52 rfl (by decide +kernel) rfl) ?_
        refine W_r rfl (wanted_t rfl rfl (es rfl (es rfl (es rfl (es rfl (es rfl (es rfl (et rfl))))))) (ez rfl)) (VR_ldC (v := .bool (y30.2)) rfl (et rfl) (SlN.row acC_len (sl_SlN (hS47.ro h_av)) hv30 hy30 rfl 1 _ rfl) Try.underlying4 rfl) ?_
        refine W_v rfl (wanted_t rfl rfl (es rfl (es rfl (es rfl (es rfl (es rfl (es rfl (es rfl (et rfl)))))))) (ez rfl)) (V_eqB rfl (es rfl (es rfl (es rfl (es rfl (es rfl (et rfl)))))) (et rfl) Try.underlying4) ?_
        refine W_v rfl (wanted_t rfl rfl (es rfl (es rfl (es rfl (es rfl (es rfl (es rfl (es rfl (es rfl (et rfl))))))))) (ez rfl)) (V_neB rfl (es rfl (es rfl (es rfl (es rfl (es rfl (es rfl (es rfl (et rfl)))))))) (et rfl) Try.underlying4) ?_
        refine W_v rfl rfl (V_pickF rfl (es rfl (es rfl (es rfl (es rfl (es rfl (es rfl (es rfl (es rfl (es rfl (et rfl)))))))))) (et rfl)) ?_
        refine W_end ?_
        refine gen_Q (fun A51 hA51 => ?_)
        have hsz51 : SzN A51 179 := by rw [hA51]; infer_instance
        have hdf51 : A51.defers = [] := by rw [hA51]; simp only [df_put]; exact hdf46
        have l0_51 := lookE hA51 0 (es rfl (es rfl (es rfl (es rfl (es rfl (es rfl (es rfl (es rfl (es rfl (es rfl (es rfl (es rfl (es rfl l0_46)))))))))))))
        have l3_51 := lookE hA51 3 (es rfl (es rfl (es rfl (es rfl (es rfl (es rfl (es rfl (es rfl (es rfl (es rfl (es rfl (es rfl (es rfl l3_46)))))))))))))
        have l4_51 := lookE hA51 4 (es rfl (es rfl (es rfl (es rfl (es rfl (es rfl (es rfl (es rfl (es rfl (es rfl (es rfl (es rfl (es rfl l4_46)))))))))))))
        have l5_51 := lookE hA51 5 (es rfl (es rfl (es rfl (es rfl (es rfl (es rfl (es rfl (es rfl (es rfl (es rfl (es rfl (es rfl (es rfl l5_46)))))))))))))
        have l6_51 := lookE hA51 6 (es rfl (es rfl (es rfl (es rfl (es rfl (es rfl (es rfl (es rfl (es rfl (es rfl (es rfl (es rfl (es rfl l6_46)))))))))))))
        have l7_51 := lookE hA51 7 (es rfl (es rfl (es rfl (es rfl (es rfl (es rfl (es rfl (es rfl (es rfl (es rfl (es rfl (es rfl (es rfl l7_46)))))))))))))
        have l8_51 := lookE hA51 8 (es rfl (es rfl (es rfl (es rfl (es rfl (es rfl (es rfl (es rfl (es rfl (es rfl (es rfl (es rfl (es rfl l8_46)))))))))))))
        have l67_51 := lookE hA51 67 (es rfl (es rfl (es rfl (es rfl (es rfl (es rfl (es rfl (es rfl (es rfl (et rfl))))))))))
        have l68_51 := lookE hA51 68 (es rfl (es rfl (es rfl (es rfl (es rfl (es rfl (es rfl (es rfl (et rfl)))))))))
        have l69_51 := lookE hA51 69 (es rfl (es rfl (es rfl (es rfl (es rfl (es rfl (es rfl (et rfl))))))))
        have l70_51 := lookE hA51 70 (es rfl (es rfl (es rfl (es rfl (es rfl (es rfl (et rfl)))))))
        have l71_51 := lookE hA51 71 (es rfl (es rfl (es rfl (es rfl (es rfl (et rfl))))))
        have l72_51 := lookE hA51 72 (es rfl (es rfl (es rfl (es rfl (et rfl)))))
        have l73_51 := lookE hA51 73 (es rfl (es rfl (es rfl (et rfl))))
        have l74_51 := lookE hA51 74 (es rfl (es rfl (et rfl)))
        have l75_51 := lookE hA51 75 (es rfl (et rfl))
        have l76_51 := lookE hA51 76 (et rfl)
        clear hA51 hsz46 hdf46 l0_46 l3_46 l4_46 l5_46 l6_46 l7_46 l8_46 l9_46 l10_46
        refine then_n (hK49 _ _ ?_)
        clear hK49
        refine cond_not l76_51 (by rw [decide_eq_false_iff_not]; rw [hd.2.1, c43]; cases y33 <;> simp) ?_
        refine wp_skip ?_
        refine then_n (hK48 _ _ ?_)
        clear hK48
        refine wp_seq_k (fun K52 hK52 => ?_)
        -- region 18
        refine region_in ?_
        refine W_v rfl rfl (V_mov rfl l4_51) ?_
        refine W_v rfl rfl (V_mov rfl (es rfl l7_51)) ?_
        refine W_v rfl rfl (V_mov rfl (es rfl (es rfl l0_51))) ?_
        refine W_v rfl rfl (V_mov rfl (es rfl (es rfl (es rfl l6_51)))) ?_
        refine W_v rfl rfl (V_ixS (off := O30 + i * 2) 2 (i) rfl (es rfl (et rfl)) (et rfl) hv30 (by omega) k30 Try.underlying48 (by kernel_rfl) rfl) ?_
        refine W_v rfl rfl (V_fa (off' := O30 + i * 2 + 1) rfl (et rfl) Try.underlying52 rfl (by decide +kernel) rfl) ?_
        refine W_r rfl rfl (VR_ldC (v := .bool (y30.2)) rfl (et rfl) (SlN.row acC_len (sl_SlN (hS47.ro h_av)) hv30 hy30 rfl 1 _ rfl) Try.underlying4 rfl) ?_
        refine W_v rfl rfl (V_not rfl (et rfl)) ?_
        refine W_v rfl rfl (V_ixS (off := O33 + ((((y30.1 % 60) + 1)).toNat)) 1 ((((y30.1 % 60) + 1)).toNat) rfl (es rfl (es rfl (es rfl (es rfl (es rfl (es rfl (es rfl (et rfl)))))))) (es rfl (es rfl (es rfl (es rfl (es rfl (es rfl (et rfl))))))) hv33 (by omega) k33 Try.underlying49 (by kernel_rfl) (congrArg _ (Nat.mul_one _))) ?_
        refine W_stE 1 hS47 rfl hc16_23 hv33 rfl rfl rfl (et rfl) (es rfl (et rfl)) (by rfl) rfl (by first | (simp only [List.length_map]; omega) | omega) (by kernel_rfl) (fun w55 c55 hc55 hS55 => ?_)
        replace hc55 : c55 = bo v16 (b.set ((((y30.1 % 60) + 1)).toNat) (!y30.2)) := hc55.trans (by simp [io, bo, List.map_set] <;> rfl)
        replace hS55 : St w NoX [c_44, c55, c45] w55 := hS55
        refine W_end ?_
        refine gen_Q (fun A56 hA56 => ?_)
        have hsz56 : SzN A56 179 := by rw [hA56]; infer_instance
        have hdf56 : A56.defers = [] := by rw [hA56]; simp only [df_put]; exact hdf51
        have l0_56 := lookE hA56 0 (es rfl (es rfl (es rfl (es rfl (es rfl (es rfl (es rfl (es rfl (es rfl l0_51)))))))))
        have l3_56 := lookE hA56 3 (es rfl (es rfl (es rfl (es rfl (es rfl (es rfl (es rfl (es rfl (es rfl l3_51)))))))))
        have l4_56 := lookE hA56 4 (es rfl (es rfl (es rfl (es rfl (es rfl (es rfl (es rfl (es rfl (es rfl l4_51)))))))))
        have l5_56 := lookE hA56 5 (es rfl (es rfl (es rfl (es rfl (es rfl (es rfl (es rfl (es rfl (es rfl l5_51)))))))))
        have l6_56 := lookE hA56 6 (es rfl (es rfl (es rfl (es rfl (es rfl (es rfl (es rfl (es rfl (es rfl l6_51)))))))))
        have l7_56 := lookE hA56 7 (es rfl (es rfl (es rfl (es rfl (es rfl (es rfl (es rfl (es rfl (es rfl l7_51)))))))))
        have l8_56 := lookE hA56 8 (es rfl (es rfl (es rfl (es rfl (es rfl (es rfl (es rfl (es rfl (es rfl l8_51)))))))))
        have l67_56 := lookE hA56 67 (es rfl (es rfl (es rfl (es rfl (es rfl (es rfl (es rfl (es rfl (es rfl l67_51)))))))))
        have l68_56 := lookE hA56 68 (es rfl (es rfl (es rfl (es rfl (es rfl (es rfl (es rfl (es rfl (es rfl l68_51)))))))))
        have l69_56 := lookE hA56 69 (es rfl (es rfl (es rfl (es rfl (es rfl (es rfl (es rfl (es rfl (es rfl l69_51)))))))))
        have l70_56 := lookE hA56 70 (es rfl (es rfl (es rfl (es rfl (es rfl (es rfl (es rfl (es rfl (es rfl l70_51)))))))))
        have l71_56 := lookE hA56 71 (es rfl (es rfl (es rfl (es rfl (es rfl (es rfl (es rfl (es rfl (es rfl l71_51)))))))))
        have l72_56 := lookE hA56 72 (es rfl (es rfl (es rfl (es rfl (es rfl (es rfl (es rfl (es rfl (es rfl l72_51)))))))))
        have l73_56 := lookE hA56 73 (es rfl (es rfl (es rfl (es rfl (es rfl (es rfl (es rfl (es rfl (es rfl l73_51)))))))))
        have l74_56 := lookE hA56 74 (es rfl (es rfl (es rfl (es rfl (es rfl (es rfl (es rfl (es rfl (es rfl l74_51)))))))))
        have l75_56 := lookE hA56 75 (es rfl (es rfl (es rfl (es rfl (es rfl (es rfl (es rfl (es rfl (es rfl l75_51)))))))))
        clear hA56 hsz51 hdf51 l0_51 l3_51 l4_51 l5_51 l6_51 l7_51 l8_51 l67_51 l68_51 l69_51 l70_51 l71_51 l72_51 l73_51 l74_51 l75_51 l76_51
        refine then_n (hK52 _ _ ?_)
        clear hK52
        refine wp_seq_k (fun K57 hK57 => ?_)
        refine wp_seq_k (fun K58 hK58 => ?_)
        -- region 19
        refine region_in ?_
        refine W_v rfl rfl (V_mov rfl l4_56) ?_
        refine W_v rfl rfl (V_mov rfl (es rfl l7_56)) ?_
        have k59 : (((y30.1 % 60) + 1)).toNat < (b.set ((((y30.1 % 60) + 1)).toNat) (!y30.2)).length := by first | omega | (simp only [List.length_cons, List.length_nil]; omega) | (simp only [List.length_set]; omega)
        obtain ⟨y59, hy59⟩ := get_some (xs := (b.set ((((y30.1 % 60) + 1)).toNat) (!y30.2))) (k := (((y30.1 % 60) + 1)).toNat) k59
        have hs59 := setB_at hy59
        obtain ⟨B59, O59, C59, hv59⟩ := (SlN.blk (ow_at (hS55.chq 1 rfl hc55)) (by first | omega | (simp only [List.length_cons, List.length_nil]; omega) | (simp only [List.length_set]; omega)))
        refine W_v rfl rfl (V_ixS (off := O59 + ((((y30.1 % 60) + 1)).toNat)) 1 ((((y30.1 % 60) + 1)).toNat) rfl (es rfl (et rfl)) (et rfl) hv59 (by omega) k59 Try.underlying49 (by kernel_rfl) (congrArg _ (Nat.mul_one _))) ?_
        refine W_r rfl rfl (VR_ldC rfl (et rfl) ((ow_at (hS55.chq 1 rfl hc55)).cell hv59 (map_get hy59)) Try.underlying4 rfl) ?_
        refine W_sure (c' := false) rfl rfl (V_mov rfl (et rfl)) (by rw [hs59, c43]; rfl) ?_
        refine W_off rfl (wanted_f rfl rfl (et rfl) (ez rfl) rfl) ?_
        refine W_off rfl (wanted_f rfl rfl (es rfl (et rfl)) (ez rfl) rfl) ?_
        refine W_v rfl rfl (V_pickF rfl (es rfl (es rfl (et rfl))) rfl) ?_
        refine W_end ?_
        refine gen_Q (fun A60 hA60 => ?_)
        have hsz60 : SzN A60 179 := by rw [hA60]; infer_instance
        have hdf60 : A60.defers = [] := by rw [hA60]; simp only [df_put]; exact hdf56
        have l0_60 := lookE hA60 0 (es rfl (es rfl (es rfl (es rfl (es rfl (es rfl (es rfl (es rfl l0_56))))))))
        have l3_60 := lookE hA60 3 (es rfl (es rfl (es rfl (es rfl (es rfl (es rfl (es rfl (es rfl l3_56))))))))
        have l4_60 := lookE hA60 4 (es rfl (es rfl (es rfl (es rfl (es rfl (es rfl (es rfl (es rfl l4_56))))))))
        have l5_60 := lookE hA60 5 (es rfl (es rfl (es rfl (es rfl (es rfl (es rfl (es rfl (es rfl l5_56))))))))
        have l6_60 := lookE hA60 6 (es rfl (es rfl (es rfl (es rfl (es rfl (es rfl (es rfl (es rfl l6_56))))))))
        have l7_60 := lookE hA60 7 (es rfl (es rfl (es rfl (es rfl (es rfl (es rfl (es rfl (es rfl l7_56))))))))
        have l8_60 := lookE hA60 8 (es rfl (es rfl (es rfl (es rfl (es rfl (es rfl (es rfl (es rfl l8_56))))))))
        have l67_60 := lookE hA60 67 (es rfl (es rfl (es rfl (es rfl (es rfl (es rfl (es rfl (es rfl l67_56))))))))
        have l68_60 := lookE hA60 68 (es rfl (es rfl (es rfl (es rfl (es rfl (es rfl (es rfl (es rfl l68_56))))))))
        have l69_60 := lookE hA60 69 (es rfl (es rfl (es rfl (es rfl (es rfl (es rfl (es rfl (es rfl l69_56))))))))
        have l70_60 := lookE hA60 70 (es rfl (es rfl (es rfl (es rfl (es rfl (es rfl (es rfl (es rfl l70_56))))))))
        have l71_60 := lookE hA60 71 (es rfl (es rfl (es rfl (es rfl (es rfl (es rfl (es rfl (es rfl l71_56))))))))
        have l72_60 := lookE hA60 72 (es rfl (es rfl (es rfl (es rfl (es rfl (es rfl (es rfl (es rfl l72_56))))))))
        have l73_60 := lookE hA60 73 (es rfl (es rfl (es rfl (es rfl (es rfl (es rfl (es rfl (es rfl l73_56))))))))
        have l74_60 := lookE hA60 74 (es rfl (es rfl (es rfl (es rfl (es rfl (es rfl (es rfl (es rfl l74_56))))))))
        have l75_60 := lookE hA60 75 (es rfl (es rfl (es rfl (es rfl (es rfl (es rfl (es rfl (es rfl l75_56))))))))
        have l91_60 := lookE hA60 91 (es rfl (es rfl (et rfl)))
        have l92_60 := lookE hA60 92 (es rfl (et rfl))
        have l93_60 := lookE hA60 93 (et rfl)
        clear hA60 hsz56 hdf56 l0_56 l3_56 l4_56 l5_56 l6_56 l7_56 l8_56 l67_56 l68_56 l69_56 l70_56 l71_56 l72_56 l73_56 l74_56 l75_56
        refine then_n (hK58 _ _ ?_)
        clear hK58
        refine cond_f l93_60 ?_
        refine wp_skip ?_
        refine then_n (hK57 _ _ ?_)
        clear hK57
        refine wp_seq_k (fun K61 hK61 => ?_)
        refine wp_seq_k (fun K62 hK62 => ?_)
        -- region 21
        refine region_in ?_
        refine W_v rfl rfl (V_mov rfl l8_60) ?_
        refine W_splitB rfl rfl (V_mov rfl (et rfl)) (fun c63 => ?_) (fun c63 => ?_)
        · skip
          refine W_v rfl (wanted_t rfl rfl (et rfl) (ez rfl)) (V_mov rfl (es rfl (es rfl l4_60))) ?_
          refine W_v rfl (wanted_t rfl rfl (es rfl (et rfl)) (ez rfl)) (V_mov rfl (es rfl (es rfl (es rfl l7_60)))) ?_
          refine W_v rfl (wanted_t rfl rfl (es rfl (es rfl (et rfl))) (ez rfl)) (V_ixS (off := O59 + ((((y30.1 % 60) + 1)).toNat)) 1 ((((y30.1 % 60) + 1)).toNat) rfl (es rfl (et rfl)) (et rfl) hv59 (by omega) k59 Try.underlying49 (by kernel_rfl) (congrArg _ (Nat.mul_one _))) ?_
          refine W_r rfl (wanted_t rfl rfl (es rfl (es rfl (es rfl (et rfl)))) (ez rfl)) (VR_ldC rfl (et rfl) ((ow_at (hS55.chq 1 rfl hc55)).cell hv59 (map_get hy59)) Try.underlying4 rfl) ?_
          refine W_v rfl (wanted_t rfl rfl (es rfl (es rfl (es rfl (es rfl (et rfl))))) (ez rfl)) (V_not rfl (et rfl)) ?_
          refine W_v rfl rfl (V_pickT rfl (es rfl (es rfl (es rfl (es rfl (es rfl (et rfl)))))) (et rfl)) ?_
          refine W_end ?_
          refine gen_Q (fun A65 hA65 => ?_)
          have hsz65 : SzN A65 179 := by rw [hA65]; infer_instance
          have hdf65 : A65.defers = [] := by rw [hA65]; simp only [df_put]; exact hdf60
          have l0_65 := lookE hA65 0 (es rfl (es rfl (es rfl (es rfl (es rfl (es rfl (es rfl (es rfl l0_60))))))))
          have l3_65 := lookE hA65 3 (es rfl (es rfl (es rfl (es rfl (es rfl (es rfl (es rfl (es rfl l3_60))))))))
          have l4_65 := lookE hA65 4 (es rfl (es rfl (es rfl (es rfl (es rfl (es rfl (es rfl (es rfl l4_60))))))))
          have l5_65 := lookE hA65 5 (es rfl (es rfl (es rfl (es rfl (es rfl (es rfl (es rfl (es rfl l5_60))))))))
          have l6_65 := lookE hA65 6 (es rfl (es rfl (es rfl (es rfl (es rfl (es rfl (es rfl (es rfl l6_60))))))))
          have l67_65 := lookE hA65 67 (es rfl (es rfl (es rfl (es rfl (es rfl (es rfl (es rfl (es rfl l67_60))))))))
          have l68_65 := lookE hA65 68 (es rfl (es rfl (es rfl (es rfl (es rfl (es rfl (es rfl (es rfl l68_60))))))))
          have l69_65 := lookE hA65 69 (es rfl (es rfl (es rfl (es rfl (es rfl (es rfl (es rfl (es rfl l69_60))))))))
          have l70_65 := lookE hA65 70 (es rfl (es rfl (es rfl (es rfl (es rfl (es rfl (es rfl (es rfl l70_60))))))))
          have l71_65 := lookE hA65 71 (es rfl (es rfl (es rfl (es rfl (es rfl (es rfl (es rfl (es rfl l71_60))))))))
          have l72_65 := lookE hA65 72 (es rfl (es rfl (es rfl (es rfl (es rfl (es rfl (es rfl (es rfl l72_60))))))))
          have l73_65 := lookE hA65 73 (es rfl (es rfl (es rfl (es rfl (es rfl (es rfl (es rfl (es rfl l73_60))))))))
          have l74_65 := lookE hA65 74 (es rfl (es rfl (es rfl (es rfl (es rfl (es rfl (es rfl (es rfl l74_60))))))))
          have l75_65 := lookE hA65 75 (es rfl (es rfl (es rfl (es rfl (es rfl (es rfl (es rfl (es rfl l75_60))))))))
          have l91_65 := lookE hA65 91 (es rfl (es rfl (es rfl (es rfl (es rfl (es rfl (es rfl (es rfl l91_60))))))))
          have l92_65 := lookE hA65 92 (es rfl (es rfl (es rfl (es rfl (es rfl (es rfl (es rfl (es rfl l92_60))))))))
          have l98_65 := lookE hA65 98 (es rfl (es rfl (es rfl (es rfl (es rfl (et rfl))))))
          have l99_65 := lookE hA65 99 (es rfl (es rfl (es rfl (es rfl (et rfl)))))
          have l100_65 := lookE hA65 100 (es rfl (es rfl (es rfl (et rfl))))
          have l101_65 := lookE hA65 101 (es rfl (es rfl (et rfl)))
          have l102_65 := lookE hA65 102 (es rfl (et rfl))
          have l103_65 := lookE hA65 103 (et rfl)
          clear hA65 hsz60 hdf60 l0_60 l3_60 l4_60 l5_60 l6_60 l7_60 l8_60 l67_60 l68_60 l69_60 l70_60 l71_60 l72_60 l73_60 l74_60 l75_60 l91_60 l92_60 l93_60
          refine then_n (hK62 _ _ ?_)
          clear hK62
          refine cond_sure l103_65 (by rw [hs59, c43]; rfl) ?_
          -- region 22
          refine region_in ?_
          refine W_v rfl rfl (V_mov rfl l5_65) ?_
          refine W_v rfl rfl (V_sb rfl (et rfl) rfl (by omega) (by omega)) ?_
          refine W_v rfl rfl (V_asg rfl (et rfl)) ?_
          refine W_end ?_
          refine gen_Q (fun A66 hA66 => ?_)
          have hsz66 : SzN A66 179 := by rw [hA66]; infer_instance
          have hdf66 : A66.defers = [] := by rw [hA66]; simp only [df_put]; exact hdf65
          have l0_66 := lookE hA66 0 (es rfl (es rfl (es rfl l0_65)))
          have l3_66 := lookE hA66 3 (es rfl (es rfl (es rfl l3_65)))
          have l4_66 := lookE hA66 4 (es rfl (es rfl (es rfl l4_65)))
          have l5_66 := lookE hA66 5 (et rfl)
          have l6_66 := lookE hA66 6 (es rfl (es rfl (es rfl l6_65)))
          have l67_66 := lookE hA66 67 (es rfl (es rfl (es rfl l67_65)))
          have l68_66 := lookE hA66 68 (es rfl (es rfl (es rfl l68_65)))
          have l69_66 := lookE hA66 69 (es rfl (es rfl (es rfl l69_65)))
          have l70_66 := lookE hA66 70 (es rfl (es rfl (es rfl l70_65)))
          have l71_66 := lookE hA66 71 (es rfl (es rfl (es rfl l71_65)))
          have l72_66 := lookE hA66 72 (es rfl (es rfl (es rfl l72_65)))
          have l73_66 := lookE hA66 73 (es rfl (es rfl (es rfl l73_65)))
          have l74_66 := lookE hA66 74 (es rfl (es rfl (es rfl l74_65)))
          have l75_66 := lookE hA66 75 (es rfl (es rfl (es rfl l75_65)))
          have l91_66 := lookE hA66 91 (es rfl (es rfl (es rfl l91_65)))
          have l92_66 := lookE hA66 92 (es rfl (es rfl (es rfl l92_65)))
          have l98_66 := lookE hA66 98 (es rfl (es rfl (es rfl l98_65)))
          have l99_66 := lookE hA66 99 (es rfl (es rfl (es rfl l99_65)))
          have l100_66 := lookE hA66 100 (es rfl (es rfl (es rfl l100_65)))
          have l101_66 := lookE hA66 101 (es rfl (es rfl (es rfl l101_65)))
          have l102_66 := lookE hA66 102 (es rfl (es rfl (es rfl l102_65)))
          clear hA66 hsz65 hdf65 l0_65 l3_65 l4_65 l5_65 l6_65 l67_65 l68_65 l69_65 l70_65 l71_65 l72_65 l73_65 l74_65 l75_65 l91_65 l92_65 l98_65 l99_65 l100_65 l101_65 l102_65 l103_65
          refine then_n (hK61 _ _ ?_)
          clear hK61
          refine wp_seq_k (fun K67 hK67 => ?_)
          -- region 23
          refine region_in ?_
          refine W_r rfl rfl (VR_ldA rfl l3_66 (hS55.obj 2 rfl hc45) Try.underlying24 rfl (by kernel_rfl)) ?_
          refine W_call rfl rfl rfl Try.func27 (by kernel_rfl) rfl (args1 (et rfl)) (qCk_c (hS55.chC 0 rfl hc_44).own ) ?_
          rintro _ w68 ⟨rfl, hP68⟩
          refine ⟨_, rfl, ?_⟩
          have hS68 := hS55.join hP68
          replace hS68 : St w NoX [c_44, c55, c45] w68 := hS68
          refine W_v rfl rfl (V_mov rfl (et rfl)) ?_
          refine W_v rfl rfl (V_ext (v := .int .i64 ((ckS (drT x ((y30.1 % 60) + 1))).1)) rfl (et rfl) rfl) ?_
          refine W_v rfl rfl (V_ext (v := .int .i64 ((ckS (drT x ((y30.1 % 60) + 1))).2)) rfl (es rfl (et rfl)) rfl) ?_
          refine W_v rfl rfl (V_asg rfl (es rfl (et rfl))) ?_
          refine W_v rfl rfl (V_asg rfl (es rfl (et rfl))) ?_
          refine W_end ?_
          refine gen_Q (fun A69 hA69 => ?_)
          have hsz69 : SzN A69 179 := by rw [hA69]; infer_instance
          have hdf69 : A69.defers = [] := by rw [hA69]; simp only [df_put]; exact hdf66
          have l0_69 := lookE hA69 0 (es rfl (es rfl (es rfl (es rfl (es rfl (es rfl (es rfl l0_66)))))))
          have l3_69 := lookE hA69 3 (es rfl (es rfl (es rfl (es rfl (es rfl (es rfl (es rfl l3_66)))))))
          have l4_69 := lookE hA69 4 (es rfl (es rfl (es rfl (es rfl (es rfl (es rfl (es rfl l4_66)))))))
          have l5_69 := lookE hA69 5 (es rfl (es rfl (es rfl (es rfl (es rfl (es rfl (es rfl l5_66)))))))
          have l6_69 := lookE hA69 6 (es rfl (es rfl (es rfl (es rfl (es rfl (es rfl (es rfl l6_66)))))))
          have l12_69 := lookE hA69 12 (et rfl)
          have l67_69 := lookE hA69 67 (es rfl (es rfl (es rfl (es rfl (es rfl (es rfl (es rfl l67_66)))))))
          have l68_69 := lookE hA69 68 (es rfl (es rfl (es rfl (es rfl (es rfl (es rfl (es rfl l68_66)))))))
          have l69_69 := lookE hA69 69 (es rfl (es rfl (es rfl (es rfl (es rfl (es rfl (es rfl l69_66)))))))
          have l70_69 := lookE hA69 70 (es rfl (es rfl (es rfl (es rfl (es rfl (es rfl (es rfl l70_66)))))))
          have l71_69 := lookE hA69 71 (es rfl (es rfl (es rfl (es rfl (es rfl (es rfl (es rfl l71_66)))))))
          have l72_69 := lookE hA69 72 (es rfl (es rfl (es rfl (es rfl (es rfl (es rfl (es rfl l72_66)))))))
          have l73_69 := lookE hA69 73 (es rfl (es rfl (es rfl (es rfl (es rfl (es rfl (es rfl l73_66)))))))
          have l74_69 := lookE hA69 74 (es rfl (es rfl (es rfl (es rfl (es rfl (es rfl (es rfl l74_66)))))))
          have l75_69 := lookE hA69 75 (es rfl (es rfl (es rfl (es rfl (es rfl (es rfl (es rfl l75_66)))))))
          have l91_69 := lookE hA69 91 (es rfl (es rfl (es rfl (es rfl (es rfl (es rfl (es rfl l91_66)))))))
          have l92_69 := lookE hA69 92 (es rfl (es rfl (es rfl (es rfl (es rfl (es rfl (es rfl l92_66)))))))
          have l98_69 := lookE hA69 98 (es rfl (es rfl (es rfl (es rfl (es rfl (es rfl (es rfl l98_66)))))))
          have l99_69 := lookE hA69 99 (es rfl (es rfl (es rfl (es rfl (es rfl (es rfl (es rfl l99_66)))))))
          have l100_69 := lookE hA69 100 (es rfl (es rfl (es rfl (es rfl (es rfl (es rfl (es rfl l100_66)))))))
          have l101_69 := lookE hA69 101 (es rfl (es rfl (es rfl (es rfl (es rfl (es rfl (es rfl l101_66)))))))
          have l102_69 := lookE hA69 102 (es rfl (es rfl (es rfl (es rfl (es rfl (es rfl (es rfl l102_66)))))))
          clear hA69 hsz66 hdf66 l0_66 l3_66 l4_66 l5_66 l6_66 l67_66 l68_66 l69_66 l70_66 l71_66 l72_66 l73_66 l74_66 l75_66 l91_66 l92_66 l98_66 l99_66 l100_66 l101_66 l102_66
          refine then_n (hK67 _ _ ?_)
          clear hK67
          refine wp_seq_k (fun K70 hK70 => ?_)
          -- region 24
          refine region_in ?_
          refine W_v rfl rfl (V_mov rfl l12_69) ?_
          refine W_v rfl rfl (V_neq rfl (et rfl) rfl) ?_
          refine W_end ?_
          refine gen_Q (fun A71 hA71 => ?_)
          have hsz71 : SzN A71 179 := by rw [hA71]; infer_instance
          have hdf71 : A71.defers = [] := by rw [hA71]; simp only [df_put]; exact hdf69
          have l0_71 := lookE hA71 0 (es rfl (es rfl l0_69))
          have l3_71 := lookE hA71 3 (es rfl (es rfl l3_69))
          have l4_71 := lookE hA71 4 (es rfl (es rfl l4_69))
          have l5_71 := lookE hA71 5 (es rfl (es rfl l5_69))
          have l6_71 := lookE hA71 6 (es rfl (es rfl l6_69))
          have l67_71 := lookE hA71 67 (es rfl (es rfl l67_69))
          have l68_71 := lookE hA71 68 (es rfl (es rfl l68_69))
          have l69_71 := lookE hA71 69 (es rfl (es rfl l69_69))
          have l70_71 := lookE hA71 70 (es rfl (es rfl l70_69))
          have l71_71 := lookE hA71 71 (es rfl (es rfl l71_69))
          have l72_71 := lookE hA71 72 (es rfl (es rfl l72_69))
          have l73_71 := lookE hA71 73 (es rfl (es rfl l73_69))
          have l74_71 := lookE hA71 74 (es rfl (es rfl l74_69))
          have l75_71 := lookE hA71 75 (es rfl (es rfl l75_69))
          have l91_71 := lookE hA71 91 (es rfl (es rfl l91_69))
          have l92_71 := lookE hA71 92 (es rfl (es rfl l92_69))
          have l98_71 := lookE hA71 98 (es rfl (es rfl l98_69))
          have l99_71 := lookE hA71 99 (es rfl (es rfl l99_69))
          have l100_71 := lookE hA71 100 (es rfl (es rfl l100_69))
          have l101_71 := lookE hA71 101 (es rfl (es rfl l101_69))
          have l102_71 := lookE hA71 102 (es rfl (es rfl l102_69))
          have l112_71 := lookE hA71 112 (et rfl)
          clear hA71 hsz69 hdf69 l0_69 l3_69 l4_69 l5_69 l6_69 l12_69 l67_69 l68_69 l69_69 l70_69 l71_69 l72_69 l73_69 l74_69 l75_69 l91_69 l92_69 l98_69 l99_69 l100_69 l101_69 l102_69
          refine then_n (hK70 _ _ ?_)
          clear hK70
          refine cond_not l112_71 (by rw [decide_eq_false_iff_not]; rw [(sr_bd hd.2.2).2.2.1]; simp) ?_
          refine wp_skip ?_
          refine inb_n ?_
          refine then_n (hK28 _ _ ?_)
          clear hK28
          -- region 8
          refine region_in ?_
          refine W_v rfl rfl (V_mov rfl l6_71) ?_
          refine W_v rfl rfl (V_add rfl (et rfl) rfl (by omega) (by omega)) ?_
          refine W_v rfl rfl (V_asg rfl (et rfl)) ?_
          refine W_end ?_
          refine gen_Q (fun A72 hA72 => ?_)
          have hsz72 : SzN A72 179 := by rw [hA72]; infer_instance
          have hdf72 : A72.defers = [] := by rw [hA72]; simp only [df_put]; exact hdf71
          have l0_72 := lookE hA72 0 (es rfl (es rfl (es rfl l0_71)))
          have l3_72 := lookE hA72 3 (es rfl (es rfl (es rfl l3_71)))
          have l4_72 := lookE hA72 4 (es rfl (es rfl (es rfl l4_71)))
          have l5_72 := lookE hA72 5 (es rfl (es rfl (es rfl l5_71)))
          have l6_72 := lookE hA72 6 (et rfl)
          have l67_72 := lookE hA72 67 (es rfl (es rfl (es rfl l67_71)))
          have l68_72 := lookE hA72 68 (es rfl (es rfl (es rfl l68_71)))
          have l69_72 := lookE hA72 69 (es rfl (es rfl (es rfl l69_71)))
          have l70_72 := lookE hA72 70 (es rfl (es rfl (es rfl l70_71)))
          have l71_72 := lookE hA72 71 (es rfl (es rfl (es rfl l71_71)))
          have l72_72 := lookE hA72 72 (es rfl (es rfl (es rfl l72_71)))
          have l73_72 := lookE hA72 73 (es rfl (es rfl (es rfl l73_71)))
          have l74_72 := lookE hA72 74 (es rfl (es rfl (es rfl l74_71)))
          have l75_72 := lookE hA72 75 (es rfl (es rfl (es rfl l75_71)))
          have l91_72 := lookE hA72 91 (es rfl (es rfl (es rfl l91_71)))
          have l92_72 := lookE hA72 92 (es rfl (es rfl (es rfl l92_71)))
          have l98_72 := lookE hA72 98 (es rfl (es rfl (es rfl l98_71)))
          have l99_72 := lookE hA72 99 (es rfl (es rfl (es rfl l99_71)))
          have l100_72 := lookE hA72 100 (es rfl (es rfl (es rfl l100_71)))
          have l101_72 := lookE hA72 101 (es rfl (es rfl (es rfl l101_71)))
          have l102_72 := lookE hA72 102 (es rfl (es rfl (es rfl l102_71)))
          clear hA72 hsz71 hdf71 l0_71 l3_71 l4_71 l5_71 l6_71 l67_71 l68_71 l69_71 l70_71 l71_71 l72_71 l73_71 l74_71 l75_71 l91_71 l92_71 l98_71 l99_71 l100_71 l101_71 l102_71 l112_71
          have hS73 : St w NoX [c55, c45, c_44] w68 := hS68.sel [1, 2, 0] (by decide) rfl
          refine then_n ⟨acts.length - (i + 1), by simp only [hm23]; omega, hsz72, hdf72, (i + 1), (drT x ((y30.1 % 60) + 1)), v_44, (b.set ((((y30.1 % 60) + 1)).toNat) (!y30.2)), (n - 1), rfl, (by omega), (sr_cast hd.2.2 (by rw [c43]; rfl) (by rw [show y33 = true from by simpa using c63]; rfl)), (by rw [List.length_set]; exact hbl), (sr_nb (b := (b.set ((((y30.1 % 60) + 1)).toNat) (!y30.2))) (sr_cast hd.2.2 (by rw [c43]; rfl) (by rw [show y33 = true from by simpa using c63]; rfl))), ((l6_72).trans (by first | rfl | (simp; done) | (congr 1; omega))), ((l5_72).trans (by first | rfl | (simp; done) | (congr 1; omega))), ((l0_72).trans l0_22.symm), ((l3_72).trans l3_22.symm), ((l4_72).trans l4_22.symm), (by subst hc55 hc45 hc_44; exact hS73)⟩
        · skip
          refine W_off rfl (wanted_f rfl rfl (et rfl) (ez rfl) rfl) ?_
          refine W_off rfl (wanted_f rfl rfl (es rfl (et rfl)) (ez rfl) rfl) ?_
          refine W_off rfl (wanted_f rfl rfl (es rfl (es rfl (et rfl))) (ez rfl) rfl) ?_
          refine W_off rfl (wanted_f rfl rfl (es rfl (es rfl (es rfl (et rfl)))) (ez rfl) rfl) ?_
          refine W_off rfl (wanted_f rfl rfl (es rfl (es rfl (es rfl (es rfl (et rfl))))) (ez rfl) rfl) ?_
          refine W_v rfl rfl (V_pickF rfl (es rfl (es rfl (es rfl (es rfl (es rfl (et rfl)))))) rfl) ?_
          refine W_end ?_
          refine gen_Q (fun A74 hA74 => ?_)
          have hsz74 : SzN A74 179 := by rw [hA74]; infer_instance
          have hdf74 : A74.defers = [] := by rw [hA74]; simp only [df_put]; exact hdf60
          have l0_74 := lookE hA74 0 (es rfl (es rfl (es rfl (es rfl (es rfl (es rfl (es rfl (es rfl l0_60))))))))
          have l3_74 := lookE hA74 3 (es rfl (es rfl (es rfl (es rfl (es rfl (es rfl (es rfl (es rfl l3_60))))))))
          have l4_74 := lookE hA74 4 (es rfl (es rfl (es rfl (es rfl (es rfl (es rfl (es rfl (es rfl l4_60))))))))
          have l5_74 := lookE hA74 5 (es rfl (es rfl (es rfl (es rfl (es rfl (es rfl (es rfl (es rfl l5_60))))))))
          have l6_74 := lookE hA74 6 (es rfl (es rfl (es rfl (es rfl (es rfl (es rfl (es rfl (es rfl l6_60))))))))
          have l67_74 := lookE hA74 67 (es rfl (es rfl (es rfl (es rfl (es rfl (es rfl (es rfl (es rfl l67_60))))))))
          have l68_74 := lookE hA74 68 (es rfl (es rfl (es rfl (es rfl (es rfl (es rfl (es rfl (es rfl l68_60))))))))
          have l69_74 := lookE hA74 69 (es rfl (es rfl (es rfl (es rfl (es rfl (es rfl (es rfl (es rfl l69_60))))))))
          have l70_74 := lookE hA74 70 (es rfl (es rfl (es rfl (es rfl (es rfl (es rfl (es rfl (es rfl l70_60))))))))
          have l71_74 := lookE hA74 71 (es rfl (es rfl (es rfl (es rfl (es rfl (es rfl (es rfl (es rfl l71_60))))))))
          have l72_74 := lookE hA74 72 (es rfl (es rfl (es rfl (es rfl (es rfl (es rfl (es rfl (es rfl l72_60))))))))
          have l73_74 := lookE hA74 73 (es rfl (es rfl (es rfl (es rfl (es rfl (es rfl (es rfl (es rfl l73_60))))))))
          have l74_74 := lookE hA74 74 (es rfl (es rfl (es rfl (es rfl (es rfl (es rfl (es rfl (es rfl l74_60))))))))
          have l75_74 := lookE hA74 75 (es rfl (es rfl (es rfl (es rfl (es rfl (es rfl (es rfl (es rfl l75_60))))))))
          have l91_74 := lookE hA74 91 (es rfl (es rfl (es rfl (es rfl (es rfl (es rfl (es rfl (es rfl l91_60))))))))
          have l92_74 := lookE hA74 92 (es rfl (es rfl (es rfl (es rfl (es rfl (es rfl (es rfl (es rfl l92_60))))))))
          have l98_74 := lookE hA74 98 (es rfl (es rfl (es rfl (es rfl (es rfl (et rfl))))))
          have l99_74 := lookE hA74 99 (es rfl (es rfl (es rfl (es rfl (et rfl)))))
          have l100_74 := lookE hA74 100 (es rfl (es rfl (es rfl (et rfl))))
          have l101_74 := lookE hA74 101 (es rfl (es rfl (et rfl)))
          have l102_74 := lookE hA74 102 (es rfl (et rfl))
          have l103_74 := lookE hA74 103 (et rfl)
          clear hA74 hsz60 hdf60 l0_60 l3_60 l4_60 l5_60 l6_60 l7_60 l8_60 l67_60 l68_60 l69_60 l70_60 l71_60 l72_60 l73_60 l74_60 l75_60 l91_60 l92_60 l93_60
          refine then_n (hK62 _ _ ?_)
          clear hK62
          refine cond_f l103_74 ?_
          refine wp_skip ?_
          refine then_n (hK61 _ _ ?_)
          clear hK61
          refine wp_seq_k (fun K75 hK75 => ?_)
          -- region 23
          refine region_in ?_
          refine W_r rfl rfl (VR_ldA rfl l3_74 (hS55.obj 2 rfl hc45) Try.underlying24 rfl (by kernel_rfl)) ?_
          refine W_call rfl rfl rfl Try.func27 (by kernel_rfl) rfl (args1 (et rfl)) (qCk_c (hS55.chC 0 rfl hc_44).own ) ?_
          rintro _ w76 ⟨rfl, hP76⟩
          refine ⟨_, rfl, ?_⟩
          have hS76 := hS55.join hP76
          replace hS76 : St w NoX [c_44, c55, c45] w76 := hS76
          refine W_v rfl rfl (V_mov rfl (et rfl)) ?_
          refine W_v rfl rfl (V_ext (v := .int .i64 ((ckS (drT x ((y30.1 % 60) + 1))).1)) rfl (et rfl) rfl) ?_
          refine W_v rfl rfl (V_ext (v := .int .i64 ((ckS (drT x ((y30.1 % 60) + 1))).2)) rfl (es rfl (et rfl)) rfl) ?_
          refine W_v rfl rfl (V_asg rfl (es rfl (et rfl))) ?_
          refine W_v rfl rfl (V_asg rfl (es rfl (et rfl))) ?_
          refine W_end ?_
          refine gen_Q (fun A77 hA77 => ?_)
          have hsz77 : SzN A77 179 := by rw [hA77]; infer_instance
          have hdf77 : A77.defers = [] := by rw [hA77]; simp only [df_put]; exact hdf74
          have l0_77 := lookE hA77 0 (es rfl (es rfl (es rfl (es rfl (es rfl (es rfl (es rfl l0_74)))))))
          have l3_77 := lookE hA77 3 (es rfl (es rfl (es rfl (es rfl (es rfl (es rfl (es rfl l3_74)))))))
          have l4_77 := lookE hA77 4 (es rfl (es rfl (es rfl (es rfl (es rfl (es rfl (es rfl l4_74)))))))
          have l5_77 := lookE hA77 5 (es rfl (es rfl (es rfl (es rfl (es rfl (es rfl (es rfl l5_74)))))))
          have l6_77 := lookE hA77 6 (es rfl (es rfl (es rfl (es rfl (es rfl (es rfl (es rfl l6_74)))))))
          have l12_77 := lookE hA77 12 (et rfl)
          have l67_77 := lookE hA77 67 (es rfl (es rfl (es rfl (es rfl (es rfl (es rfl (es rfl l67_74)))))))
          have l68_77 := lookE hA77 68 (es rfl (es rfl (es rfl (es rfl (es rfl (es rfl (es rfl l68_74)))))))
          have l69_77 := lookE hA77 69 (es rfl (es rfl (es rfl (es rfl (es rfl (es rfl (es rfl l69_74)))))))
          have l70_77 := lookE hA77 70 (es rfl (es rfl (es rfl (es rfl (es rfl (es rfl (es rfl l70_74)))))))
          have l71_77 := lookE hA77 71 (es rfl (es rfl (es rfl (es rfl (es rfl (es rfl (es rfl l71_74)))))))
          have l72_77 := lookE hA77 72 (es rfl (es rfl (es rfl (es rfl (es rfl (es rfl (es rfl l72_74)))))))
          have l73_77 := lookE hA77 73 (es rfl (es rfl (es rfl (es rfl (es rfl (es rfl (es rfl l73_74)))))))
          have l74_77 := lookE hA77 74 (es rfl (es rfl (es rfl (es rfl (es rfl (es rfl (es rfl l74_74)))))))
          have l75_77 := lookE hA77 75 (es rfl (es rfl (es rfl (es rfl (es rfl (es rfl (es rfl l75_74)))))))
          have l91_77 := lookE hA77 91 (es rfl (es rfl (es rfl (es rfl (es rfl (es rfl (es rfl l91_74)))))))
          have l92_77 := lookE hA77 92 (es rfl (es rfl (es rfl (es rfl (es rfl (es rfl (es rfl l92_74)))))))
          have l98_77 := lookE hA77 98 (es rfl (es rfl (es rfl (es rfl (es rfl (es rfl (es rfl l98_74)))))))
          have l99_77 := lookE hA77 99 (es rfl (es rfl (es rfl (es rfl (es rfl (es rfl (es rfl l99_74)))))))
          have l100_77 := lookE hA77 100 (es rfl (es rfl (es rfl (es rfl (es rfl (es rfl (es rfl l100_74)))))))
          have l101_77 := lookE hA77 101 (es rfl (es rfl (es rfl (es rfl (es rfl (es rfl (es rfl l101_74)))))))
          have l102_77 := lookE hA77 102 (es rfl (es rfl (es rfl (es rfl (es rfl (es rfl (es rfl l102_74)))))))
          clear hA77 hsz74 hdf74 l0_74 l3_74 l4_74 l5_74 l6_74 l67_74 l68_74 l69_74 l70_74 l71_74 l72_74 l73_74 l74_74 l75_74 l91_74 l92_74 l98_74 l99_74 l100_74 l101_74 l102_74 l103_74
          refine then_n (hK75 _ _ ?_)
          clear hK75
          refine wp_seq_k (fun K78 hK78 => ?_)
          -- region 24
          refine region_in ?_
          refine W_v rfl rfl (V_mov rfl l12_77) ?_
          refine W_v rfl rfl (V_neq rfl (et rfl) rfl) ?_
          refine W_end ?_
          refine gen_Q (fun A79 hA79 => ?_)
          have hsz79 : SzN A79 179 := by rw [hA79]; infer_instance
          have hdf79 : A79.defers = [] := by rw [hA79]; simp only [df_put]; exact hdf77
          have l0_79 := lookE hA79 0 (es rfl (es rfl l0_77))
          have l3_79 := lookE hA79 3 (es rfl (es rfl l3_77))
          have l4_79 := lookE hA79 4 (es rfl (es rfl l4_77))
          have l5_79 := lookE hA79 5 (es rfl (es rfl l5_77))
          have l6_79 := lookE hA79 6 (es rfl (es rfl l6_77))
          have l67_79 := lookE hA79 67 (es rfl (es rfl l67_77))
          have l68_79 := lookE hA79 68 (es rfl (es rfl l68_77))
          have l69_79 := lookE hA79 69 (es rfl (es rfl l69_77))
          have l70_79 := lookE hA79 70 (es rfl (es rfl l70_77))
          have l71_79 := lookE hA79 71 (es rfl (es rfl l71_77))
          have l72_79 := lookE hA79 72 (es rfl (es rfl l72_77))
          have l73_79 := lookE hA79 73 (es rfl (es rfl l73_77))
          have l74_79 := lookE hA79 74 (es rfl (es rfl l74_77))
          have l75_79 := lookE hA79 75 (es rfl (es rfl l75_77))
          have l91_79 := lookE hA79 91 (es rfl (es rfl l91_77))
          have l92_79 := lookE hA79 92 (es rfl (es rfl l92_77))
          have l98_79 := lookE hA79 98 (es rfl (es rfl l98_77))
          have l99_79 := lookE hA79 99 (es rfl (es rfl l99_77))
          have l100_79 := lookE hA79 100 (es rfl (es rfl l100_77))
          have l101_79 := lookE hA79 101 (es rfl (es rfl l101_77))
          have l102_79 := lookE hA79 102 (es rfl (es rfl l102_77))
          have l112_79 := lookE hA79 112 (et rfl)
          clear hA79 hsz77 hdf77 l0_77 l3_77 l4_77 l5_77 l6_77 l12_77 l67_77 l68_77 l69_77 l70_77 l71_77 l72_77 l73_77 l74_77 l75_77 l91_77 l92_77 l98_77 l99_77 l100_77 l101_77 l102_77
          refine then_n (hK78 _ _ ?_)
          clear hK78
          refine cond_not l112_79 (by rw [decide_eq_false_iff_not]; rw [(sr_bd hd.2.2).2.2.1]; simp) ?_
          refine wp_skip ?_
          refine inb_n ?_
          refine then_n (hK28 _ _ ?_)
          clear hK28
          -- region 8
          refine region_in ?_
          refine W_v rfl rfl (V_mov rfl l6_79) ?_
          refine W_v rfl rfl (V_add rfl (et rfl) rfl (by omega) (by omega)) ?_
          refine W_v rfl rfl (V_asg rfl (et rfl)) ?_
          refine W_end ?_
          refine gen_Q (fun A80 hA80 => ?_)
          have hsz80 : SzN A80 179 := by rw [hA80]; infer_instance
          have hdf80 : A80.defers = [] := by rw [hA80]; simp only [df_put]; exact hdf79
          have l0_80 := lookE hA80 0 (es rfl (es rfl (es rfl l0_79)))
          have l3_80 := lookE hA80 3 (es rfl (es rfl (es rfl l3_79)))
          have l4_80 := lookE hA80 4 (es rfl (es rfl (es rfl l4_79)))
          have l5_80 := lookE hA80 5 (es rfl (es rfl (es rfl l5_79)))
          have l6_80 := lookE hA80 6 (et rfl)
          have l67_80 := lookE hA80 67 (es rfl (es rfl (es rfl l67_79)))
          have l68_80 := lookE hA80 68 (es rfl (es rfl (es rfl l68_79)))
          have l69_80 := lookE hA80 69 (es rfl (es rfl (es rfl l69_79)))
          have l70_80 := lookE hA80 70 (es rfl (es rfl (es rfl l70_79)))
          have l71_80 := lookE hA80 71 (es rfl (es rfl (es rfl l71_79)))
          have l72_80 := lookE hA80 72 (es rfl (es rfl (es rfl l72_79)))
          have l73_80 := lookE hA80 73 (es rfl (es rfl (es rfl l73_79)))
          have l74_80 := lookE hA80 74 (es rfl (es rfl (es rfl l74_79)))
          have l75_80 := lookE hA80 75 (es rfl (es rfl (es rfl l75_79)))
          have l91_80 := lookE hA80 91 (es rfl (es rfl (es rfl l91_79)))
          have l92_80 := lookE hA80 92 (es rfl (es rfl (es rfl l92_79)))
          have l98_80 := lookE hA80 98 (es rfl (es rfl (es rfl l98_79)))
          have l99_80 := lookE hA80 99 (es rfl (es rfl (es rfl l99_79)))
          have l100_80 := lookE hA80 100 (es rfl (es rfl (es rfl l100_79)))
          have l101_80 := lookE hA80 101 (es rfl (es rfl (es rfl l101_79)))
          have l102_80 := lookE hA80 102 (es rfl (es rfl (es rfl l102_79)))
          clear hA80 hsz79 hdf79 l0_79 l3_79 l4_79 l5_79 l6_79 l67_79 l68_79 l69_79 l70_79 l71_79 l72_79 l73_79 l74_79 l75_79 l91_79 l92_79 l98_79 l99_79 l100_79 l101_79 l102_79 l112_79
          have hS81 : St w NoX [c55, c45, c_44] w76 := hS76.sel [1, 2, 0] (by decide) rfl
          refine then_n ⟨acts.length - (i + 1), by simp only [hm23]; omega, hsz80, hdf80, (i + 1), (drT x ((y30.1 % 60) + 1)), v_44, (b.set ((((y30.1 % 60) + 1)).toNat) (!y30.2)), n, rfl, (by omega), (sr_cast hd.2.2 (by rw [c43]; rfl) (by rw [show y33 = false from by simpa using c63]; rfl)), (by rw [List.length_set]; exact hbl), (sr_nb (b := (b.set ((((y30.1 % 60) + 1)).toNat) (!y30.2))) (sr_cast hd.2.2 (by rw [c43]; rfl) (by rw [show y33 = false from by simpa using c63]; rfl))), ((l6_80).trans (by first | rfl | (simp; done) | (congr 1; omega))), ((l5_80).trans (by first | rfl | (simp; done) | (congr 1; omega))), ((l0_80).trans l0_22.symm), ((l3_80).trans l3_22.symm), ((l4_80).trans l4_22.symm), (by subst hc55 hc45 hc_44; exact hS81)⟩
      · skip
        have hd := sr_add hsr (a := ((y30.1 % 60) + 1)) (by omega) hy33
        -- region 15
        refine region_in ?_
        refine W_r rfl rfl (VR_ldA rfl l3_42 (hS23.obj 1 rfl hc13_23) Try.underlying24 rfl (by kernel_rfl)) ?_
        refine W_v rfl rfl (V_mov rfl (es rfl l7_42)) ?_
        refine W_call rfl rfl rfl Try.func15 (by kernel_rfl) rfl (args2 (es rfl (et rfl)) (et rfl)) (kAdd_c (a := ((y30.1 % 60) + 1)) (hS23.chC 2 rfl hc_23).own ) ?_
        rintro _ w82 ⟨v_82, rfl, hP82⟩
        refine ⟨_, rfl, ?_⟩
        obtain ⟨c_82, hc_82, hP82⟩ := gen1 hP82
        have hS82 := hS23.join hP82
        replace hS82 : St w NoX [c_82, c16_23, c13_23, c_23] w82 := hS82
        refine W_v rfl rfl (V_mov rfl (et rfl)) ?_
        refine W_v rfl rfl (V_ext (v := .agg #[v_82]) rfl (et rfl) rfl) ?_
        refine W_v rfl rfl (V_ext (v := .bool ((adB x ((y30.1 % 60) + 1)))) rfl (es rfl (et rfl)) rfl) ?_
        refine W_v rfl rfl (V_ext (v := .int .i64 ((chE x ((y30.1 % 60) + 1)))) rfl (es rfl (es rfl (et rfl))) rfl) ?_
        refine W_stAS 2 hS82 rfl hc13_23 rfl rfl rfl (es rfl (es rfl (es rfl (es rfl (es rfl (es rfl (es rfl l3_42))))))) (es rfl (es rfl (et rfl))) (by simp only [List.all_toArray, List.all_cons, List.all_nil, SlN_one (ow_at (hS82.chq 0 rfl hc_82))] <;> rfl) (by rfl) (by kernel_rfl) (fun w83 c83 hc83 hS83 => ?_)
        replace hS83 : St w NoX [c_82, c16_23, c83, c_23] w83 := hS83
        refine W_v rfl rfl (V_asg rfl (es rfl (et rfl))) ?_
        refine W_v rfl rfl (V_asg rfl (es rfl (et rfl))) ?_
        refine W_end ?_
        refine gen_Q (fun A84 hA84 => ?_)
        have hsz84 : SzN A84 179 := by rw [hA84]; infer_instance
        have hdf84 : A84.defers = [] := by rw [hA84]; simp only [df_put]; exact hdf42
        have l0_84 := lookE hA84 0 (es rfl (es rfl (es rfl (es rfl (es rfl (es rfl (es rfl (es rfl (es rfl l0_42)))))))))
        have l3_84 := lookE hA84 3 (es rfl (es rfl (es rfl (es rfl (es rfl (es rfl (es rfl (es rfl (es rfl l3_42)))))))))
        have l4_84 := lookE hA84 4 (es rfl (es rfl (es rfl (es rfl (es rfl (es rfl (es rfl (es rfl (es rfl l4_42)))))))))
        have l5_84 := lookE hA84 5 (es rfl (es rfl (es rfl (es rfl (es rfl (es rfl (es rfl (es rfl (es rfl l5_42)))))))))
        have l6_84 := lookE hA84 6 (es rfl (es rfl (es rfl (es rfl (es rfl (es rfl (es rfl (es rfl (es rfl l6_42)))))))))
        have l7_84 := lookE hA84 7 (es rfl (es rfl (es rfl (es rfl (es rfl (es rfl (es rfl (es rfl (es rfl l7_42)))))))))
        have l8_84 := lookE hA84 8 (es rfl (es rfl (es rfl (es rfl (es rfl (es rfl (es rfl (es rfl (es rfl l8_42)))))))))
        have l9_84 := lookE hA84 9 (es rfl (et rfl))
        have l10_84 := lookE hA84 10 (et rfl)
        clear hA84 hsz42 hdf42 l0_42 l3_42 l4_42 l5_42 l6_42 l7_42 l8_42 l49_42
        have hS85 : St w NoX [c_82, c16_23, c83] w83 := hS83.sel [0, 1, 2] (by decide) rfl
        refine then_n (hK39 _ _ ?_)
        clear hK39
        refine wp_seq_k (fun K86 hK86 => ?_)
        refine wp_seq_k (fun K87 hK87 => ?_)
        -- region 16
        refine region_in ?_
        refine W_v rfl rfl (V_mov rfl l10_84) ?_
        refine W_v rfl rfl (V_neq rfl (et rfl) rfl) ?_
        refine W_sure (c' := false) rfl rfl (V_mov rfl (et rfl)) (by rw [decide_eq_false_iff_not]; rw [hd.1]; simp) ?_
        refine W_v rfl (wanted_t rfl rfl (et rfl) (ez rfl)) (V_mov rfl (es rfl (es rfl (es rfl l9_84)))) ?_
        refine W_v rfl (wanted_t rfl rfl (es rfl (et rfl)) (ez rfl)) (V_mov rfl (es rfl (es rfl (es rfl (es rfl l8_84))))) ?_
        refine W_v rfl (wanted_t rfl rfl (es rfl (es rfl (et rfl))) (ez rfl)) (V_mov rfl (es rfl (es rfl (es rfl (es rfl (es rfl l0_84)))))) ?_
        refine W_v rfl (wanted_t rfl rfl (es rfl (es rfl (es rfl (et rfl)))) (ez rfl)) (V_mov rfl (es rfl (es rfl (es rfl (es rfl (es rfl (es rfl l6_84))))))) ?_
        refine W_v rfl (wanted_t rfl rfl (es rfl (es rfl (es rfl (es rfl (et rfl))))) (ez rfl)) (V_ixS (off := O30 + i * 2) 2 (i) rfl (es rfl (et rfl)) (et rfl) hv30 (by omega) k30 Try.underlying48 (by kernel_rfl) rfl) ?_
        refine W_v rfl (wanted_t rfl rfl (es rfl (es rfl (es rfl (es rfl (es rfl (et rfl)))))) (ez rfl)) (V_fa (off' := O30 + i * 2 + 1) rfl (et rfl) Try.underlying52 rfl (by decide +kernel) rfl) ?_
        refine W_r rfl (wanted_t rfl rfl (es rfl (es rfl (es rfl (es rfl (es rfl (es rfl (et rfl))))))) (ez rfl)) (VR_ldC (v := .bool (y30.2)) rfl (et rfl) (SlN.row acC_len (sl_SlN (hS85.ro h_av)) hv30 hy30 rfl 1 _ rfl) Try.underlying4 rfl) ?_
        refine W_v rfl (wanted_t rfl rfl (es rfl (es rfl (es rfl (es rfl (es rfl (es rfl (es rfl (et rfl)))))))) (ez rfl)) (V_eqB rfl (es rfl (es rfl (es rfl (es rfl (es rfl (et rfl)))))) (et rfl) Try.underlying4) ?_
        refine W_v rfl (wanted_t rfl rfl (es rfl (es rfl (es rfl (es rfl (es rfl (es rfl (es rfl (es rfl (et rfl))))))))) (ez rfl)) (V_neB rfl (es rfl (es rfl (es rfl (es rfl (es rfl (es rfl (es rfl (et rfl)))))))) (et rfl) Try.underlying4) ?_
        refine W_v rfl rfl (V_pickF rfl (es rfl (es rfl (es rfl (es rfl (es rfl (es rfl (es rfl (es rfl (es rfl (et rfl)))))))))) (et rfl)) ?_
        refine W_end ?_
        refine gen_Q (fun A89 hA89 => ?_)
        have hsz89 : SzN A89 179 := by rw [hA89]; infer_instance
        have hdf89 : A89.defers = [] := by rw [hA89]; simp only [df_put]; exact hdf84
        have l0_89 := lookE hA89 0 (es rfl (es rfl (es rfl (es rfl (es rfl (es rfl (es rfl (es rfl (es rfl (es rfl (es rfl (es rfl (es rfl l0_84)))))))))))))
        have l3_89 := lookE hA89 3 (es rfl (es rfl (es rfl (es rfl (es rfl (es rfl (es rfl (es rfl (es rfl (es rfl (es rfl (es rfl (es rfl l3_84)))))))))))))
        have l4_89 := lookE hA89 4 (es rfl (es rfl (es rfl (es rfl (es rfl (es rfl (es rfl (es rfl (es rfl (es rfl (es rfl (es rfl (es rfl l4_84)))))))))))))
        have l5_89 := lookE hA89 5 (es rfl (es rfl (es rfl (es rfl (es rfl (es rfl (es rfl (es rfl (es rfl (es rfl (es rfl (es rfl (es rfl l5_84)))))))))))))
        have l6_89 := lookE hA89 6 (es rfl (es rfl (es rfl (es rfl (es rfl (es rfl (es rfl (es rfl (es rfl (es rfl (es rfl (es rfl (es rfl l6_84)))))))))))))
        have l7_89 := lookE hA89 7 (es rfl (es rfl (es rfl (es rfl (es rfl (es rfl (es rfl (es rfl (es rfl (es rfl (es rfl (es rfl (es rfl l7_84)))))))))))))
        have l8_89 := lookE hA89 8 (es rfl (es rfl (es rfl (es rfl (es rfl (es rfl (es rfl (es rfl (es rfl (es rfl (es rfl (es rfl (es rfl l8_84)))))))))))))
        have l67_89 := lookE hA89 67 (es rfl (es rfl (es rfl (es rfl (es rfl (es rfl (es rfl (es rfl (es rfl (et rfl))))))))))
        have l68_89 := lookE hA89 68 (es rfl (es rfl (es rfl (es rfl (es rfl (es rfl (es rfl (es rfl (et rfl)))))))))
        have l69_89 := lookE hA89 69 (es rfl (es rfl (es rfl (es rfl (es rfl (es rfl (es rfl (et rfl))))))))
        have l70_89 := lookE hA89 70 (es rfl (es rfl (es rfl (es rfl (es rfl (es rfl (et rfl)))))))
        have l71_89 := lookE hA89 71 (es rfl (es rfl (es rfl (es rfl (es rfl (et rfl))))))
        have l72_89 := lookE hA89 72 (es rfl (es rfl (es rfl (es rfl (et rfl)))))
        have l73_89 := lookE hA89 73 (es rfl (es rfl (es rfl (et rfl))))
        have l74_89 := lookE hA89 74 (es rfl (es rfl (et rfl)))
        have l75_89 := lookE hA89 75 (es rfl (et rfl))
        have l76_89 := lookE hA89 76 (et rfl)
        clear hA89 hsz84 hdf84 l0_84 l3_84 l4_84 l5_84 l6_84 l7_84 l8_84 l9_84 l10_84
        refine then_n (hK87 _ _ ?_)
        clear hK87
        refine cond_not l76_89 (by rw [decide_eq_false_iff_not]; rw [hd.2.1, c43]; cases y33 <;> simp) ?_
        refine wp_skip ?_
        refine then_n (hK86 _ _ ?_)
        clear hK86
        refine wp_seq_k (fun K90 hK90 => ?_)
        -- region 18
        refine region_in ?_
        refine W_v rfl rfl (V_mov rfl l4_89) ?_
        refine W_v rfl rfl (V_mov rfl (es rfl l7_89)) ?_
        refine W_v rfl rfl (V_mov rfl (es rfl (es rfl l0_89))) ?_
        refine W_v rfl rfl (V_mov rfl (es rfl (es rfl (es rfl l6_89)))) ?_
        refine W_v rfl rfl (V_ixS (off := O30 + i * 2) 2 (i) rfl (es rfl (et rfl)) (et rfl) hv30 (by omega) k30 Try.underlying48 (by kernel_rfl) rfl) ?_
        refine W_v rfl rfl (V_fa (off' := O30 + i * 2 + 1) rfl (et rfl) Try.underlying52 rfl (by decide +kernel) rfl) ?_
        refine W_r rfl rfl (VR_ldC (v := .bool (y30.2)) rfl (et rfl) (SlN.row acC_len (sl_SlN (hS85.ro h_av)) hv30 hy30 rfl 1 _ rfl) Try.underlying4 rfl) ?_
        refine W_v rfl rfl (V_not rfl (et rfl)) ?_
        refine W_v rfl rfl (V_ixS (off := O33 + ((((y30.1 % 60) + 1)).toNat)) 1 ((((y30.1 % 60) + 1)).toNat) rfl (es rfl (es rfl (es rfl (es rfl (es rfl (es rfl (es rfl (et rfl)))))))) (es rfl (es rfl (es rfl (es rfl (es rfl (es rfl (et rfl))))))) hv33 (by omega) k33 Try.underlying49 (by kernel_rfl) (congrArg _ (Nat.mul_one _))) ?_
        refine W_stE 1 hS85 rfl hc16_23 hv33 rfl rfl rfl (et rfl) (es rfl (et rfl)) (by rfl) rfl (by first | (simp only [List.length_map]; omega) | omega) (by kernel_rfl) (fun w93 c93 hc93 hS93 => ?_)
        replace hc93 : c93 = bo v16 (b.set ((((y30.1 % 60) + 1)).toNat) (!y30.2)) := hc93.trans (by simp [io, bo, List.map_set] <;> rfl)
        replace hS93 : St w NoX [c_82, c93, c83] w93 := hS93
        refine W_end ?_
        refine gen_Q (fun A94 hA94 => ?_)
        have hsz94 : SzN A94 179 := by rw [hA94]; infer_instance
        have hdf94 : A94.defers = [] := by rw [hA94]; simp only [df_put]; exact hdf89
        have l0_94 := lookE hA94 0 (es rfl (es rfl (es rfl (es rfl (es rfl (es rfl (es rfl (es rfl (es rfl l0_89)))))))))
        have l3_94 := lookE hA94 3 (es rfl (es rfl (es rfl (es rfl (es rfl (es rfl (es rfl (es rfl (es rfl l3_89)))))))))
        have l4_94 := lookE hA94 4 (es rfl (es rfl (es rfl (es rfl (es rfl (es rfl (es rfl (es rfl (es rfl l4_89)))))))))
        have l5_94 := lookE hA94 5 (es rfl (es rfl (es rfl (es rfl (es rfl (es rfl (es rfl (es rfl (es rfl l5_89)))))))))
        have l6_94 := lookE hA94 6 (es rfl (es rfl (es rfl (es rfl (es rfl (es rfl (es rfl (es rfl (es rfl l6_89)))))))))
        have l7_94 := lookE hA94 7 (es rfl (es rfl (es rfl (es rfl (es rfl (es rfl (es rfl (es rfl (es rfl l7_89)))))))))
        have l8_94 := lookE hA94 8 (es rfl (es rfl (es rfl (es rfl (es rfl (es rfl (es rfl (es rfl (es rfl l8_89)))))))))
        have l67_94 := lookE hA94 67 (es rfl (es rfl (es rfl (es rfl (es rfl (es rfl (es rfl (es rfl (es rfl l67_89)))))))))
        have l68_94 := lookE hA94 68 (es rfl (es rfl (es rfl (es rfl (es rfl (es rfl (es rfl (es rfl (es rfl l68_89)))))))))
        have l69_94 := lookE hA94 69 (es rfl (es rfl (es rfl (es rfl (es rfl (es rfl (es rfl (es rfl (es rfl l69_89)))))))))
        have l70_94 := lookE hA94 70 (es rfl (es rfl (es rfl (es rfl (es rfl (es rfl (es rfl (es rfl (es rfl l70_89)))))))))
        have l71_94 := lookE hA94 71 (es rfl (es rfl (es rfl (es rfl (es rfl (es rfl (es rfl (es rfl (es rfl l71_89)))))))))
        have l72_94 := lookE hA94 72 (es rfl (es rfl (es rfl (es rfl (es rfl (es rfl (es rfl (es rfl (es rfl l72_89)))))))))
        have l73_94 := lookE hA94 73 (es rfl (es rfl (es rfl (es rfl (es rfl (es rfl (es rfl (es rfl (es rfl l73_89)))))))))
        have l74_94 := lookE hA94 74 (es rfl (es rfl (es rfl (es rfl (es rfl (es rfl (es rfl (es rfl (es rfl l74_89)))))))))
        have l75_94 := lookE hA94 75 (es rfl (es rfl (es rfl (es rfl (es rfl (es rfl (es rfl (es rfl (es rfl l75_89)))))))))
        clear hA94 hsz89 hdf89 l0_89 l3_89 l4_89 l5_89 l6_89 l7_89 l8_89 l67_89 l68_89 l69_89 l70_89 l71_89 l72_89 l73_89 l74_89 l75_89 l76_89
        refine then_n (hK90 _ _ ?_)
        clear hK90
        refine wp_seq_k (fun K95 hK95 => ?_)
        refine wp_seq_k (fun K96 hK96 => ?_)
        -- region 19
        refine region_in ?_
        refine W_v rfl rfl (V_mov rfl l4_94) ?_
        refine W_v rfl rfl (V_mov rfl (es rfl l7_94)) ?_
        have k97 : (((y30.1 % 60) + 1)).toNat < (b.set ((((y30.1 % 60) + 1)).toNat) (!y30.2)).length := by first | omega | (simp only [List.length_cons, List.length_nil]; omega) | (simp only [List.length_set]; omega)
        obtain ⟨y97, hy97⟩ := get_some (xs := (b.set ((((y30.1 % 60) + 1)).toNat) (!y30.2))) (k := (((y30.1 % 60) + 1)).toNat) k97
        have hs97 := setB_at hy97
        obtain ⟨B97, O97, C97, hv97⟩ := (SlN.blk (ow_at (hS93.chq 1 rfl hc93)) (by first | omega | (simp only [List.length_cons, List.length_nil]; omega) | (simp only [List.length_set]; omega)))
        refine W_v rfl rfl (V_ixS (off := O97 + ((((y30.1 % 60) + 1)).toNat)) 1 ((((y30.1 % 60) + 1)).toNat) rfl (es rfl (et rfl)) (et rfl) hv97 (by omega) k97 Try.underlying49 (by kernel_rfl) (congrArg _ (Nat.mul_one _))) ?_
        refine W_r rfl rfl (VR_ldC rfl (et rfl) ((ow_at (hS93.chq 1 rfl hc93)).cell hv97 (map_get hy97)) Try.underlying4 rfl) ?_
        refine W_sure (c' := true) rfl rfl (V_mov rfl (et rfl)) (by rw [hs97, c43]; rfl) ?_
        refine W_v rfl (wanted_t rfl rfl (et rfl) (ez rfl)) (V_mov rfl (es rfl (es rfl (es rfl (es rfl (es rfl l8_94)))))) ?_
        refine W_v rfl (wanted_t rfl rfl (es rfl (et rfl)) (ez rfl)) (V_not rfl (et rfl)) ?_
        refine W_v rfl rfl (V_pickT rfl (es rfl (es rfl (et rfl))) (et rfl)) ?_
        refine W_end ?_
        refine gen_Q (fun A98 hA98 => ?_)
        have hsz98 : SzN A98 179 := by rw [hA98]; infer_instance
        have hdf98 : A98.defers = [] := by rw [hA98]; simp only [df_put]; exact hdf94
        have l0_98 := lookE hA98 0 (es rfl (es rfl (es rfl (es rfl (es rfl (es rfl (es rfl (es rfl l0_94))))))))
        have l3_98 := lookE hA98 3 (es rfl (es rfl (es rfl (es rfl (es rfl (es rfl (es rfl (es rfl l3_94))))))))
        have l4_98 := lookE hA98 4 (es rfl (es rfl (es rfl (es rfl (es rfl (es rfl (es rfl (es rfl l4_94))))))))
        have l5_98 := lookE hA98 5 (es rfl (es rfl (es rfl (es rfl (es rfl (es rfl (es rfl (es rfl l5_94))))))))
        have l6_98 := lookE hA98 6 (es rfl (es rfl (es rfl (es rfl (es rfl (es rfl (es rfl (es rfl l6_94))))))))
        have l7_98 := lookE hA98 7 (es rfl (es rfl (es rfl (es rfl (es rfl (es rfl (es rfl (es rfl l7_94))))))))
        have l8_98 := lookE hA98 8 (es rfl (es rfl (es rfl (es rfl (es rfl (es rfl (es rfl (es rfl l8_94))))))))
        have l67_98 := lookE hA98 67 (es rfl (es rfl (es rfl (es rfl (es rfl (es rfl (es rfl (es rfl l67_94))))))))
        have l68_98 := lookE hA98 68 (es rfl (es rfl (es rfl (es rfl (es rfl (es rfl (es rfl (es rfl l68_94))))))))
        have l69_98 := lookE hA98 69 (es rfl (es rfl (es rfl (es rfl (es rfl (es rfl (es rfl (es rfl l69_94))))))))
        have l70_98 := lookE hA98 70 (es rfl (es rfl (es rfl (es rfl (es rfl (es rfl (es rfl (es rfl l70_94))))))))
        have l71_98 := lookE hA98 71 (es rfl (es rfl (es rfl (es rfl (es rfl (es rfl (es rfl (es rfl l71_94))))))))
        have l72_98 := lookE hA98 72 (es rfl (es rfl (es rfl (es rfl (es rfl (es rfl (es rfl (es rfl l72_94))))))))
        have l73_98 := lookE hA98 73 (es rfl (es rfl (es rfl (es rfl (es rfl (es rfl (es rfl (es rfl l73_94))))))))
        have l74_98 := lookE hA98 74 (es rfl (es rfl (es rfl (es rfl (es rfl (es rfl (es rfl (es rfl l74_94))))))))
        have l75_98 := lookE hA98 75 (es rfl (es rfl (es rfl (es rfl (es rfl (es rfl (es rfl (es rfl l75_94))))))))
        have l91_98 := lookE hA98 91 (es rfl (es rfl (et rfl)))
        have l92_98 := lookE hA98 92 (es rfl (et rfl))
        have l93_98 := lookE hA98 93 (et rfl)
        clear hA98 hsz94 hdf94 l0_94 l3_94 l4_94 l5_94 l6_94 l7_94 l8_94 l67_94 l68_94 l69_94 l70_94 l71_94 l72_94 l73_94 l74_94 l75_94
        refine then_n (hK96 _ _ ?_)
        clear hK96
        refine cond_b l93_98 (fun c99 => ?_) (fun c99 => ?_)
        · skip
          -- region 20
          refine region_in ?_
          refine W_v rfl rfl (V_mov rfl l5_98) ?_
          refine W_v rfl rfl (V_add rfl (et rfl) rfl (by omega) (by omega)) ?_
          refine W_v rfl rfl (V_asg rfl (et rfl)) ?_
          refine W_end ?_
          refine gen_Q (fun A100 hA100 => ?_)
          have hsz100 : SzN A100 179 := by rw [hA100]; infer_instance
          have hdf100 : A100.defers = [] := by rw [hA100]; simp only [df_put]; exact hdf98
          have l0_100 := lookE hA100 0 (es rfl (es rfl (es rfl l0_98)))
          have l3_100 := lookE hA100 3 (es rfl (es rfl (es rfl l3_98)))
          have l4_100 := lookE hA100 4 (es rfl (es rfl (es rfl l4_98)))
          have l5_100 := lookE hA100 5 (et rfl)
          have l6_100 := lookE hA100 6 (es rfl (es rfl (es rfl l6_98)))
          have l7_100 := lookE hA100 7 (es rfl (es rfl (es rfl l7_98)))
          have l8_100 := lookE hA100 8 (es rfl (es rfl (es rfl l8_98)))
          have l67_100 := lookE hA100 67 (es rfl (es rfl (es rfl l67_98)))
          have l68_100 := lookE hA100 68 (es rfl (es rfl (es rfl l68_98)))
          have l69_100 := lookE hA100 69 (es rfl (es rfl (es rfl l69_98)))
          have l70_100 := lookE hA100 70 (es rfl (es rfl (es rfl l70_98)))
          have l71_100 := lookE hA100 71 (es rfl (es rfl (es rfl l71_98)))
          have l72_100 := lookE hA100 72 (es rfl (es rfl (es rfl l72_98)))
          have l73_100 := lookE hA100 73 (es rfl (es rfl (es rfl l73_98)))
          have l74_100 := lookE hA100 74 (es rfl (es rfl (es rfl l74_98)))
          have l75_100 := lookE hA100 75 (es rfl (es rfl (es rfl l75_98)))
          have l91_100 := lookE hA100 91 (es rfl (es rfl (es rfl l91_98)))
          have l92_100 := lookE hA100 92 (es rfl (es rfl (es rfl l92_98)))
          clear hA100 hsz98 hdf98 l0_98 l3_98 l4_98 l5_98 l6_98 l7_98 l8_98 l67_98 l68_98 l69_98 l70_98 l71_98 l72_98 l73_98 l74_98 l75_98 l91_98 l92_98 l93_98
          refine then_n (hK95 _ _ ?_)
          clear hK95
          refine wp_seq_k (fun K101 hK101 => ?_)
          refine wp_seq_k (fun K102 hK102 => ?_)
          -- region 21
          refine region_in ?_
          refine W_v rfl rfl (V_mov rfl l8_100) ?_
          refine W_sure (c' := false) rfl rfl (V_mov rfl (et rfl)) (by simpa using c99) ?_
          refine W_off rfl (wanted_f rfl rfl (et rfl) (ez rfl) rfl) ?_
          refine W_off rfl (wanted_f rfl rfl (es rfl (et rfl)) (ez rfl) rfl) ?_
          refine W_off rfl (wanted_f rfl rfl (es rfl (es rfl (et rfl))) (ez rfl) rfl) ?_
          refine W_off rfl (wanted_f rfl rfl (es rfl (es rfl (es rfl (et rfl)))) (ez rfl) rfl) ?_
          refine W_off rfl (wanted_f rfl rfl (es rfl (es rfl (es rfl (es rfl (et rfl))))) (ez rfl) rfl) ?_
          refine W_v rfl rfl (V_pickF rfl (es rfl (es rfl (es rfl (es rfl (es rfl (et rfl)))))) rfl) ?_
          refine W_end ?_
          refine gen_Q (fun A103 hA103 => ?_)
          have hsz103 : SzN A103 179 := by rw [hA103]; infer_instance
          have hdf103 : A103.defers = [] := by rw [hA103]; simp only [df_put]; exact hdf100
          have l0_103 := lookE hA103 0 (es rfl (es rfl (es rfl (es rfl (es rfl (es rfl (es rfl (es rfl l0_100))))))))
          have l3_103 := lookE hA103 3 (es rfl (es rfl (es rfl (es rfl (es rfl (es rfl (es rfl (es rfl l3_100))))))))
          have l4_103 := lookE hA103 4 (es rfl (es rfl (es rfl (es rfl (es rfl (es rfl (es rfl (es rfl l4_100))))))))
          have l5_103 := lookE hA103 5 (es rfl (es rfl (es rfl (es rfl (es rfl (es rfl (es rfl (es rfl l5_100))))))))
          have l6_103 := lookE hA103 6 (es rfl (es rfl (es rfl (es rfl (es rfl (es rfl (es rfl (es rfl l6_100))))))))
          have l67_103 := lookE hA103 67 (es rfl (es rfl (es rfl (es rfl (es rfl (es rfl (es rfl (es rfl l67_100))))))))
          have l68_103 := lookE hA103 68 (es rfl (es rfl (es rfl (es rfl (es rfl (es rfl (es rfl (es rfl l68_100))))))))
          have l69_103 := lookE hA103 69 (es rfl (es rfl (es rfl (es rfl (es rfl (es rfl (es rfl (es rfl l69_100))))))))
          have l70_103 := lookE hA103 70 (es rfl (es rfl (es rfl (es rfl (es rfl (es rfl (es rfl (es rfl l70_100))))))))
          have l71_103 := lookE hA103 71 (es rfl (es rfl (es rfl (es rfl (es rfl (es rfl (es rfl (es rfl l71_100))))))))
          have l72_103 := lookE hA103 72 (es rfl (es rfl (es rfl (es rfl (es rfl (es rfl (es rfl (es rfl l72_100))))))))
          have l73_103 := lookE hA103 73 (es rfl (es rfl (es rfl (es rfl (es rfl (es rfl (es rfl (es rfl l73_100))))))))
          have l74_103 := lookE hA103 74 (es rfl (es rfl (es rfl (es rfl (es rfl (es rfl (es rfl (es rfl l74_100))))))))
          have l75_103 := lookE hA103 75 (es rfl (es rfl (es rfl (es rfl (es rfl (es rfl (es rfl (es rfl l75_100))))))))
          have l91_103 := lookE hA103 91 (es rfl (es rfl (es rfl (es rfl (es rfl (es rfl (es rfl (es rfl l91_100))))))))
          have l92_103 := lookE hA103 92 (es rfl (es rfl (es rfl (es rfl (es rfl (es rfl (es rfl (es rfl l92_100))))))))
          have l98_103 := lookE hA103 98 (es rfl (es rfl (es rfl (es rfl (es rfl (et rfl))))))
          have l99_103 := lookE hA103 99 (es rfl (es rfl (es rfl (es rfl (et rfl)))))
          have l100_103 := lookE hA103 100 (es rfl (es rfl (es rfl (et rfl))))
          have l101_103 := lookE hA103 101 (es rfl (es rfl (et rfl)))
          have l102_103 := lookE hA103 102 (es rfl (et rfl))
          have l103_103 := lookE hA103 103 (et rfl)
          clear hA103 hsz100 hdf100 l0_100 l3_100 l4_100 l5_100 l6_100 l7_100 l8_100 l67_100 l68_100 l69_100 l70_100 l71_100 l72_100 l73_100 l74_100 l75_100 l91_100 l92_100
          refine then_n (hK102 _ _ ?_)
          clear hK102
          refine cond_f l103_103 ?_
          refine wp_skip ?_
          refine then_n (hK101 _ _ ?_)
          clear hK101
          refine wp_seq_k (fun K104 hK104 => ?_)
          -- region 23
          refine region_in ?_
          refine W_r rfl rfl (VR_ldA rfl l3_103 (hS93.obj 2 rfl hc83) Try.underlying24 rfl (by kernel_rfl)) ?_
          refine W_call rfl rfl rfl Try.func27 (by kernel_rfl) rfl (args1 (et rfl)) (qCk_c (hS93.chC 0 rfl hc_82).own ) ?_
          rintro _ w105 ⟨rfl, hP105⟩
          refine ⟨_, rfl, ?_⟩
          have hS105 := hS93.join hP105
          replace hS105 : St w NoX [c_82, c93, c83] w105 := hS105
          refine W_v rfl rfl (V_mov rfl (et rfl)) ?_
          refine W_v rfl rfl (V_ext (v := .int .i64 ((ckS (adT x ((y30.1 % 60) + 1))).1)) rfl (et rfl) rfl) ?_
          refine W_v rfl rfl (V_ext (v := .int .i64 ((ckS (adT x ((y30.1 % 60) + 1))).2)) rfl (es rfl (et rfl)) rfl) ?_
          refine W_v rfl rfl (V_asg rfl (es rfl (et rfl))) ?_
          refine W_v rfl rfl (V_asg rfl (es rfl (et rfl))) ?_
          refine W_end ?_
          refine gen_Q (fun A106 hA106 => ?_)
          have hsz106 : SzN A106 179 := by rw [hA106]; infer_instance
          have hdf106 : A106.defers = [] := by rw [hA106]; simp only [df_put]; exact hdf103
          have l0_106 := lookE hA106 0 (es rfl (es rfl (es rfl (es rfl (es rfl (es rfl (es rfl l0_103)))))))
          have l3_106 := lookE hA106 3 (es rfl (es rfl (es rfl (es rfl (es rfl (es rfl (es rfl l3_103)))))))
          have l4_106 := lookE hA106 4 (es rfl (es rfl (es rfl (es rfl (es rfl (es rfl (es rfl l4_103)))))))
          have l5_106 := lookE hA106 5 (es rfl (es rfl (es rfl (es rfl (es rfl (es rfl (es rfl l5_103)))))))
          have l6_106 := lookE hA106 6 (es rfl (es rfl (es rfl (es rfl (es rfl (es rfl (es rfl l6_103)))))))
          have l12_106 := lookE hA106 12 (et rfl)
          have l67_106 := lookE hA106 67 (es rfl (es rfl (es rfl (es rfl (es rfl (es rfl (es rfl l67_103)))))))
          have l68_106 := lookE hA106 68 (es rfl (es rfl (es rfl (es rfl (es rfl (es rfl (es rfl l68_103)))))))
          have l69_106 := lookE hA106 69 (es rfl (es rfl (es rfl (es rfl (es rfl (es rfl (es rfl l69_103)))))))
          have l70_106 := lookE hA106 70 (es rfl (es rfl (es rfl (es rfl (es rfl (es rfl (es rfl l70_103)))))))
          have l71_106 := lookE hA106 71 (es rfl (es rfl (es rfl (es rfl (es rfl (es rfl (es rfl l71_103)))))))
          have l72_106 := lookE hA106 72 (es rfl (es rfl (es rfl (es rfl (es rfl (es rfl (es rfl l72_103)))))))
          have l73_106 := lookE hA106 73 (es rfl (es rfl (es rfl (es rfl (es rfl (es rfl (es rfl l73_103)))))))
          have l74_106 := lookE hA106 74 (es rfl (es rfl (es rfl (es rfl (es rfl (es rfl (es rfl l74_103)))))))
          have l75_106 := lookE hA106 75 (es rfl (es rfl (es rfl (es rfl (es rfl (es rfl (es rfl l75_103)))))))
          have l91_106 := lookE hA106 91 (es rfl (es rfl (es rfl (es rfl (es rfl (es rfl (es rfl l91_103)))))))
          have l92_106 := lookE hA106 92 (es rfl (es rfl (es rfl (es rfl (es rfl (es rfl (es rfl l92_103)))))))
          have l98_106 := lookE hA106 98 (es rfl (es rfl (es rfl (es rfl (es rfl (es rfl (es rfl l98_103)))))))
          have l99_106 := lookE hA106 99 (es rfl (es rfl (es rfl (es rfl (es rfl (es rfl (es rfl l99_103)))))))
          have l100_106 := lookE hA106 100 (es rfl (es rfl (es rfl (es rfl (es rfl (es rfl (es rfl l100_103)))))))
          have l101_106 := lookE hA106 101 (es rfl (es rfl (es rfl (es rfl (es rfl (es rfl (es rfl l101_103)))))))
          have l102_106 := lookE hA106 102 (es rfl (es rfl (es rfl (es rfl (es rfl (es rfl (es rfl l102_103)))))))
          clear hA106 hsz103 hdf103 l0_103 l3_103 l4_103 l5_103 l6_103 l67_103 l68_103 l69_103 l70_103 l71_103 l72_103 l73_103 l74_103 l75_103 l91_103 l92_103 l98_103 l99_103 l100_103 l101_103 l102_103 l103_103
          refine then_n (hK104 _ _ ?_)
          clear hK104
          refine wp_seq_k (fun K107 hK107 => ?_)
          -- region 24
          refine region_in ?_
          refine W_v rfl rfl (V_mov rfl l12_106) ?_
          refine W_v rfl rfl (V_neq rfl (et rfl) rfl) ?_
          refine W_end ?_
          refine gen_Q (fun A108 hA108 => ?_)
          have hsz108 : SzN A108 179 := by rw [hA108]; infer_instance
          have hdf108 : A108.defers = [] := by rw [hA108]; simp only [df_put]; exact hdf106
          have l0_108 := lookE hA108 0 (es rfl (es rfl l0_106))
          have l3_108 := lookE hA108 3 (es rfl (es rfl l3_106))
          have l4_108 := lookE hA108 4 (es rfl (es rfl l4_106))
          have l5_108 := lookE hA108 5 (es rfl (es rfl l5_106))
          have l6_108 := lookE hA108 6 (es rfl (es rfl l6_106))
          have l67_108 := lookE hA108 67 (es rfl (es rfl l67_106))
          have l68_108 := lookE hA108 68 (es rfl (es rfl l68_106))
          have l69_108 := lookE hA108 69 (es rfl (es rfl l69_106))
          have l70_108 := lookE hA108 70 (es rfl (es rfl l70_106))
          have l71_108 := lookE hA108 71 (es rfl (es rfl l71_106))
          have l72_108 := lookE hA108 72 (es rfl (es rfl l72_106))
          have l73_108 := lookE hA108 73 (es rfl (es rfl l73_106))
          have l74_108 := lookE hA108 74 (es rfl (es rfl l74_106))
          have l75_108 := lookE hA108 75 (es rfl (es rfl l75_106))
          have l91_108 := lookE hA108 91 (es rfl (es rfl l91_106))
          have l92_108 := lookE hA108 92 (es rfl (es rfl l92_106))
          have l98_108 := lookE hA108 98 (es rfl (es rfl l98_106))
          have l99_108 := lookE hA108 99 (es rfl (es rfl l99_106))
          have l100_108 := lookE hA108 100 (es rfl (es rfl l100_106))
          have l101_108 := lookE hA108 101 (es rfl (es rfl l101_106))
          have l102_108 := lookE hA108 102 (es rfl (es rfl l102_106))
          have l112_108 := lookE hA108 112 (et rfl)
          clear hA108 hsz106 hdf106 l0_106 l3_106 l4_106 l5_106 l6_106 l12_106 l67_106 l68_106 l69_106 l70_106 l71_106 l72_106 l73_106 l74_106 l75_106 l91_106 l92_106 l98_106 l99_106 l100_106 l101_106 l102_106
          refine then_n (hK107 _ _ ?_)
          clear hK107
          refine cond_not l112_108 (by rw [decide_eq_false_iff_not]; rw [(sr_bd hd.2.2).2.2.1]; simp) ?_
          refine wp_skip ?_
          refine inb_n ?_
          refine then_n (hK28 _ _ ?_)
          clear hK28
          -- region 8
          refine region_in ?_
          refine W_v rfl rfl (V_mov rfl l6_108) ?_
          refine W_v rfl rfl (V_add rfl (et rfl) rfl (by omega) (by omega)) ?_
          refine W_v rfl rfl (V_asg rfl (et rfl)) ?_
          refine W_end ?_
          refine gen_Q (fun A109 hA109 => ?_)
          have hsz109 : SzN A109 179 := by rw [hA109]; infer_instance
          have hdf109 : A109.defers = [] := by rw [hA109]; simp only [df_put]; exact hdf108
          have l0_109 := lookE hA109 0 (es rfl (es rfl (es rfl l0_108)))
          have l3_109 := lookE hA109 3 (es rfl (es rfl (es rfl l3_108)))
          have l4_109 := lookE hA109 4 (es rfl (es rfl (es rfl l4_108)))
          have l5_109 := lookE hA109 5 (es rfl (es rfl (es rfl l5_108)))
          have l6_109 := lookE hA109 6 (et rfl)
          have l67_109 := lookE hA109 67 (es rfl (es rfl (es rfl l67_108)))
          have l68_109 := lookE hA109 68 (es rfl (es rfl (es rfl l68_108)))
          have l69_109 := lookE hA109 69 (es rfl (es rfl (es rfl l69_108)))
          have l70_109 := lookE hA109 70 (es rfl (es rfl (es rfl l70_108)))
          have l71_109 := lookE hA109 71 (es rfl (es rfl (es rfl l71_108)))
          have l72_109 := lookE hA109 72 (es rfl (es rfl (es rfl l72_108)))
          have l73_109 := lookE hA109 73 (es rfl (es rfl (es rfl l73_108)))
          have l74_109 := lookE hA109 74 (es rfl (es rfl (es rfl l74_108)))
          have l75_109 := lookE hA109 75 (es rfl (es rfl (es rfl l75_108)))
          have l91_109 := lookE hA109 91 (es rfl (es rfl (es rfl l91_108)))
          have l92_109 := lookE hA109 92 (es rfl (es rfl (es rfl l92_108)))
          have l98_109 := lookE hA109 98 (es rfl (es rfl (es rfl l98_108)))
          have l99_109 := lookE hA109 99 (es rfl (es rfl (es rfl l99_108)))
          have l100_109 := lookE hA109 100 (es rfl (es rfl (es rfl l100_108)))
          have l101_109 := lookE hA109 101 (es rfl (es rfl (es rfl l101_108)))
          have l102_109 := lookE hA109 102 (es rfl (es rfl (es rfl l102_108)))
          clear hA109 hsz108 hdf108 l0_108 l3_108 l4_108 l5_108 l6_108 l67_108 l68_108 l69_108 l70_108 l71_108 l72_108 l73_108 l74_108 l75_108 l91_108 l92_108 l98_108 l99_108 l100_108 l101_108 l102_108 l112_108
          have hS110 : St w NoX [c93, c83, c_82] w105 := hS105.sel [1, 2, 0] (by decide) rfl
          refine then_n ⟨acts.length - (i + 1), by simp only [hm23]; omega, hsz109, hdf109, (i + 1), (adT x ((y30.1 % 60) + 1)), v_82, (b.set ((((y30.1 % 60) + 1)).toNat) (!y30.2)), (n + 1), rfl, (by omega), (sr_cast hd.2.2 (by rw [c43]; rfl) (by rw [show y33 = false from by simpa using c99]; rfl)), (by rw [List.length_set]; exact hbl), (sr_nb (b := (b.set ((((y30.1 % 60) + 1)).toNat) (!y30.2))) (sr_cast hd.2.2 (by rw [c43]; rfl) (by rw [show y33 = false from by simpa using c99]; rfl))), ((l6_109).trans (by first | rfl | (simp; done) | (congr 1; omega))), ((l5_109).trans (by first | rfl | (simp; done) | (congr 1; omega))), ((l0_109).trans l0_22.symm), ((l3_109).trans l3_22.symm), ((l4_109).trans l4_22.symm), (by subst hc93 hc83 hc_82; exact hS110)⟩
        · skip
          refine wp_skip ?_
          refine then_n (hK95 _ _ ?_)
          clear hK95
          refine wp_seq_k (fun K111 hK111 => ?_)
          refine wp_seq_k (fun K112 hK112 => ?_)
          -- region 21
          refine region_in ?_
          refine W_v rfl rfl (V_mov rfl l8_98) ?_
          refine W_sure (c' := true) rfl rfl (V_mov rfl (et rfl)) (by simpa using c99) ?_
          refine W_v rfl (wanted_t rfl rfl (et rfl) (ez rfl)) (V_mov rfl (es rfl (es rfl l4_98))) ?_
          refine W_v rfl (wanted_t rfl rfl (es rfl (et rfl)) (ez rfl)) (V_mov rfl (es rfl (es rfl (es rfl l7_98)))) ?_
          refine W_v rfl (wanted_t rfl rfl (es rfl (es rfl (et rfl))) (ez rfl)) (V_ixS (off := O97 + ((((y30.1 % 60) + 1)).toNat)) 1 ((((y30.1 % 60) + 1)).toNat) rfl (es rfl (et rfl)) (et rfl) hv97 (by omega) k97 Try.underlying49 (by kernel_rfl) (congrArg _ (Nat.mul_one _))) ?_
          refine W_r rfl (wanted_t rfl rfl (es rfl (es rfl (es rfl (et rfl)))) (ez rfl)) (VR_ldC rfl (et rfl) ((ow_at (hS93.chq 1 rfl hc93)).cell hv97 (map_get hy97)) Try.underlying4 rfl) ?_
          refine W_v rfl (wanted_t rfl rfl (es rfl (es rfl (es rfl (es rfl (et rfl))))) (ez rfl)) (V_not rfl (et rfl)) ?_
          refine W_v rfl rfl (V_pickT rfl (es rfl (es rfl (es rfl (es rfl (es rfl (et rfl)))))) (et rfl)) ?_
          refine W_end ?_
          refine gen_Q (fun A114 hA114 => ?_)
          have hsz114 : SzN A114 179 := by rw [hA114]; infer_instance
          have hdf114 : A114.defers = [] := by rw [hA114]; simp only [df_put]; exact hdf98
          have l0_114 := lookE hA114 0 (es rfl (es rfl (es rfl (es rfl (es rfl (es rfl (es rfl (es rfl l0_98))))))))
          have l3_114 := lookE hA114 3 (es rfl (es rfl (es rfl (es rfl (es rfl (es rfl (es rfl (es rfl l3_98))))))))
          have l4_114 := lookE hA114 4 (es rfl (es rfl (es rfl (es rfl (es rfl (es rfl (es rfl (es rfl l4_98))))))))
          have l5_114 := lookE hA114 5 (es rfl (es rfl (es rfl (es rfl (es rfl (es rfl (es rfl (es rfl l5_98))))))))
          have l6_114 := lookE hA114 6 (es rfl (es rfl (es rfl (es rfl (es rfl (es rfl (es rfl (es rfl l6_98))))))))
          have l67_114 := lookE hA114 67 (es rfl (es rfl (es rfl (es rfl (es rfl (es rfl (es rfl (es rfl l67_98))))))))
          have l68_114 := lookE hA114 68 (es rfl (es rfl (es rfl (es rfl (es rfl (es rfl (es rfl (es rfl l68_98))))))))
          have l69_114 := lookE hA114 69 (es rfl (es rfl (es rfl (es rfl (es rfl (es rfl (es rfl (es rfl l69_98))))))))
          have l70_114 := lookE hA114 70 (es rfl (es rfl (es rfl (es rfl (es rfl (es rfl (es rfl (es rfl l70_98))))))))
          have l71_114 := lookE hA114 71 (es rfl (es rfl (es rfl (es rfl (es rfl (es rfl (es rfl (es rfl l71_98))))))))
          have l72_114 := lookE hA114 72 (es rfl (es rfl (es rfl (es rfl (es rfl (es rfl (es rfl (es rfl l72_98))))))))
          have l73_114 := lookE hA114 73 (es rfl (es rfl (es rfl (es rfl (es rfl (es rfl (es rfl (es rfl l73_98))))))))
          have l74_114 := lookE hA114 74 (es rfl (es rfl (es rfl (es rfl (es rfl (es rfl (es rfl (es rfl l74_98))))))))
          have l75_114 := lookE hA114 75 (es rfl (es rfl (es rfl (es rfl (es rfl (es rfl (es rfl (es rfl l75_98))))))))
          have l91_114 := lookE hA114 91 (es rfl (es rfl (es rfl (es rfl (es rfl (es rfl (es rfl (es rfl l91_98))))))))
          have l92_114 := lookE hA114 92 (es rfl (es rfl (es rfl (es rfl (es rfl (es rfl (es rfl (es rfl l92_98))))))))
          have l98_114 := lookE hA114 98 (es rfl (es rfl (es rfl (es rfl (es rfl (et rfl))))))
          have l99_114 := lookE hA114 99 (es rfl (es rfl (es rfl (es rfl (et rfl)))))
          have l100_114 := lookE hA114 100 (es rfl (es rfl (es rfl (et rfl))))
          have l101_114 := lookE hA114 101 (es rfl (es rfl (et rfl)))
          have l102_114 := lookE hA114 102 (es rfl (et rfl))
          have l103_114 := lookE hA114 103 (et rfl)
          clear hA114 hsz98 hdf98 l0_98 l3_98 l4_98 l5_98 l6_98 l7_98 l8_98 l67_98 l68_98 l69_98 l70_98 l71_98 l72_98 l73_98 l74_98 l75_98 l91_98 l92_98 l93_98
          refine then_n (hK112 _ _ ?_)
          clear hK112
          refine cond_not l103_114 (by rw [hs97, c43]; rfl) ?_
          refine wp_skip ?_
          refine then_n (hK111 _ _ ?_)
          clear hK111
          refine wp_seq_k (fun K115 hK115 => ?_)
          -- region 23
          refine region_in ?_
          refine W_r rfl rfl (VR_ldA rfl l3_114 (hS93.obj 2 rfl hc83) Try.underlying24 rfl (by kernel_rfl)) ?_
          refine W_call rfl rfl rfl Try.func27 (by kernel_rfl) rfl (args1 (et rfl)) (qCk_c (hS93.chC 0 rfl hc_82).own ) ?_
          rintro _ w116 ⟨rfl, hP116⟩
          refine ⟨_, rfl, ?_⟩
          have hS116 := hS93.join hP116
          replace hS116 : St w NoX [c_82, c93, c83] w116 := hS116
          refine W_v rfl rfl (V_mov rfl (et rfl)) ?_
          refine W_v rfl rfl (V_ext (v := .int .i64 ((ckS (adT x ((y30.1 % 60) + 1))).1)) rfl (et rfl) rfl) ?_
          refine W_v rfl rfl (V_ext (v := .int .i64 ((ckS (adT x ((y30.1 % 60) + 1))).2)) rfl (es rfl (et rfl)) rfl) ?_
          refine W_v rfl rfl (V_asg rfl (es rfl (et rfl))) ?_
          refine W_v rfl rfl (V_asg rfl (es rfl (et rfl))) ?_
          refine W_end ?_
          refine gen_Q (fun A117 hA117 => ?_)
          have hsz117 : SzN A117 179 := by rw [hA117]; infer_instance
          have hdf117 : A117.defers = [] := by rw [hA117]; simp only [df_put]; exact hdf114
          have l0_117 := lookE hA117 0 (es rfl (es rfl (es rfl (es rfl (es rfl (es rfl (es rfl l0_114)))))))
          have l3_117 := lookE hA117 3 (es rfl (es rfl (es rfl (es rfl (es rfl (es rfl (es rfl l3_114)))))))
          have l4_117 := lookE hA117 4 (es rfl (es rfl (es rfl (es rfl (es rfl (es rfl (es rfl l4_114)))))))
          have l5_117 := lookE hA117 5 (es rfl (es rfl (es rfl (es rfl (es rfl (es rfl (es rfl l5_114)))))))
          have l6_117 := lookE hA117 6 (es rfl (es rfl (es rfl (es rfl (es rfl (es rfl (es rfl l6_114)))))))
          have l12_117 := lookE hA117 12 (et rfl)
          have l67_117 := lookE hA117 67 (es rfl (es rfl (es rfl (es rfl (es rfl (es rfl (es rfl l67_114)))))))
          have l68_117 := lookE hA117 68 (es rfl (es rfl (es rfl (es rfl (es rfl (es rfl (es rfl l68_114)))))))
          have l69_117 := lookE hA117 69 (es rfl (es rfl (es rfl (es rfl (es rfl (es rfl (es rfl l69_114)))))))
          have l70_117 := lookE hA117 70 (es rfl (es rfl (es rfl (es rfl (es rfl (es rfl (es rfl l70_114)))))))
          have l71_117 := lookE hA117 71 (es rfl (es rfl (es rfl (es rfl (es rfl (es rfl (es rfl l71_114)))))))
          have l72_117 := lookE hA117 72 (es rfl (es rfl (es rfl (es rfl (es rfl (es rfl (es rfl l72_114)))))))
          have l73_117 := lookE hA117 73 (es rfl (es rfl (es rfl (es rfl (es rfl (es rfl (es rfl l73_114)))))))
          have l74_117 := lookE hA117 74 (es rfl (es rfl (es rfl (es rfl (es rfl (es rfl (es rfl l74_114)))))))
          have l75_117 := lookE hA117 75 (es rfl (es rfl (es rfl (es rfl (es rfl (es rfl (es rfl l75_114)))))))
          have l91_117 := lookE hA117 91 (es rfl (es rfl (es rfl (es rfl (es rfl (es rfl (es rfl l91_114)))))))
          have l92_117 := lookE hA117 92 (es rfl (es rfl (es rfl (es rfl (es rfl (es rfl (es rfl l92_114)))))))
          have l98_117 := lookE hA117 98 (es rfl (es rfl (es rfl (es rfl (es rfl (es rfl (es rfl l98_114)))))))
          have l99_117 := lookE hA117 99 (es rfl (es rfl (es rfl (es rfl (es rfl (es rfl (es rfl l99_114)))))))
          have l100_117 := lookE hA117 100 (es rfl (es rfl (es rfl (es rfl (es rfl (es rfl (es rfl l100_114)))))))
          have l101_117 := lookE hA117 101 (es rfl (es rfl (es rfl (es rfl (es rfl (es rfl (es rfl l101_114)))))))
          have l102_117 := lookE hA117 102 (es rfl (es rfl (es rfl (es rfl (es rfl (es rfl (es rfl l102_114)))))))
          clear hA117 hsz114 hdf114 l0_114 l3_114 l4_114 l5_114 l6_114 l67_114 l68_114 l69_114 l70_114 l71_114 l72_114 l73_114 l74_114 l75_114 l91_114 l92_114 l98_114 l99_114 l100_114 l101_114 l102_114 l103_114
          refine then_n (hK115 _ _ ?_)
          clear hK115
          refine wp_seq_k (fun K118 hK118 => ?_)
          -- region 24
          refine region_in ?_
          refine W_v rfl rfl (V_mov rfl l12_117) ?_
          refine W_v rfl rfl (V_neq rfl (et rfl) rfl) ?_
          refine W_end ?_
          refine gen_Q (fun A119 hA119 => ?_)
          have hsz119 : SzN A119 179 := by rw [hA119]; infer_instance
          have hdf119 : A119.defers = [] := by rw [hA119]; simp only [df_put]; exact hdf117
          have l0_119 := lookE hA119 0 (es rfl (es rfl l0_117))
          have l3_119 := lookE hA119 3 (es rfl (es rfl l3_117))
          have l4_119 := lookE hA119 4 (es rfl (es rfl l4_117))
          have l5_119 := lookE hA119 5 (es rfl (es rfl l5_117))
          have l6_119 := lookE hA119 6 (es rfl (es rfl l6_117))
          have l67_119 := lookE hA119 67 (es rfl (es rfl l67_117))
          have l68_119 := lookE hA119 68 (es rfl (es rfl l68_117))
          have l69_119 := lookE hA119 69 (es rfl (es rfl l69_117))
          have l70_119 := lookE hA119 70 (es rfl (es rfl l70_117))
          have l71_119 := lookE hA119 71 (es rfl (es rfl l71_117))
          have l72_119 := lookE hA119 72 (es rfl (es rfl l72_117))
          have l73_119 := lookE hA119 73 (es rfl (es rfl l73_117))
          have l74_119 := lookE hA119 74 (es rfl (es rfl l74_117))
          have l75_119 := lookE hA119 75 (es rfl (es rfl l75_117))
          have l91_119 := lookE hA119 91 (es rfl (es rfl l91_117))
          have l92_119 := lookE hA119 92 (es rfl (es rfl l92_117))
          have l98_119 := lookE hA119 98 (es rfl (es rfl l98_117))
          have l99_119 := lookE hA119 99 (es rfl (es rfl l99_117))
          have l100_119 := lookE hA119 100 (es rfl (es rfl l100_117))
          have l101_119 := lookE hA119 101 (es rfl (es rfl l101_117))
          have l102_119 := lookE hA119 102 (es rfl (es rfl l102_117))
          have l112_119 := lookE hA119 112 (et rfl)
          clear hA119 hsz117 hdf117 l0_117 l3_117 l4_117 l5_117 l6_117 l12_117 l67_117 l68_117 l69_117 l70_117 l71_117 l72_117 l73_117 l74_117 l75_117 l91_117 l92_117 l98_117 l99_117 l100_117 l101_117 l102_117
          refine then_n (hK118 _ _ ?_)
          clear hK118
          refine cond_not l112_119 (by rw [decide_eq_false_iff_not]; rw [(sr_bd hd.2.2).2.2.1]; simp) ?_
          refine wp_skip ?_
          refine inb_n ?_
          refine then_n (hK28 _ _ ?_)
          clear hK28
          -- region 8
          refine region_in ?_
          refine W_v rfl rfl (V_mov rfl l6_119) ?_
          refine W_v rfl rfl (V_add rfl (et rfl) rfl (by omega) (by omega)) ?_
          refine W_v rfl rfl (V_asg rfl (et rfl)) ?_
          refine W_end ?_
          refine gen_Q (fun A120 hA120 => ?_)
          have hsz120 : SzN A120 179 := by rw [hA120]; infer_instance
          have hdf120 : A120.defers = [] := by rw [hA120]; simp only [df_put]; exact hdf119
          have l0_120 := lookE hA120 0 (es rfl (es rfl (es rfl l0_119)))
          have l3_120 := lookE hA120 3 (es rfl (es rfl (es rfl l3_119)))
          have l4_120 := lookE hA120 4 (es rfl (es rfl (es rfl l4_119)))
          have l5_120 := lookE hA120 5 (es rfl (es rfl (es rfl l5_119)))
          have l6_120 := lookE hA120 6 (et rfl)
          have l67_120 := lookE hA120 67 (es rfl (es rfl (es rfl l67_119)))
          have l68_120 := lookE hA120 68 (es rfl (es rfl (es rfl l68_119)))
          have l69_120 := lookE hA120 69 (es rfl (es rfl (es rfl l69_119)))
          have l70_120 := lookE hA120 70 (es rfl (es rfl (es rfl l70_119)))
          have l71_120 := lookE hA120 71 (es rfl (es rfl (es rfl l71_119)))
          have l72_120 := lookE hA120 72 (es rfl (es rfl (es rfl l72_119)))
          have l73_120 := lookE hA120 73 (es rfl (es rfl (es rfl l73_119)))
          have l74_120 := lookE hA120 74 (es rfl (es rfl (es rfl l74_119)))
          have l75_120 := lookE hA120 75 (es rfl (es rfl (es rfl l75_119)))
          have l91_120 := lookE hA120 91 (es rfl (es rfl (es rfl l91_119)))
          have l92_120 := lookE hA120 92 (es rfl (es rfl (es rfl l92_119)))
          have l98_120 := lookE hA120 98 (es rfl (es rfl (es rfl l98_119)))
          have l99_120 := lookE hA120 99 (es rfl (es rfl (es rfl l99_119)))
          have l100_120 := lookE hA120 100 (es rfl (es rfl (es rfl l100_119)))
          have l101_120 := lookE hA120 101 (es rfl (es rfl (es rfl l101_119)))
          have l102_120 := lookE hA120 102 (es rfl (es rfl (es rfl l102_119)))
          clear hA120 hsz119 hdf119 l0_119 l3_119 l4_119 l5_119 l6_119 l67_119 l68_119 l69_119 l70_119 l71_119 l72_119 l73_119 l74_119 l75_119 l91_119 l92_119 l98_119 l99_119 l100_119 l101_119 l102_119 l112_119
          have hS121 : St w NoX [c93, c83, c_82] w116 := hS116.sel [1, 2, 0] (by decide) rfl
          refine then_n ⟨acts.length - (i + 1), by simp only [hm23]; omega, hsz120, hdf120, (i + 1), (adT x ((y30.1 % 60) + 1)), v_82, (b.set ((((y30.1 % 60) + 1)).toNat) (!y30.2)), n, rfl, (by omega), (sr_cast hd.2.2 (by rw [c43]; rfl) (by rw [show y33 = true from by simpa using c99]; rfl)), (by rw [List.length_set]; exact hbl), (sr_nb (b := (b.set ((((y30.1 % 60) + 1)).toNat) (!y30.2))) (sr_cast hd.2.2 (by rw [c43]; rfl) (by rw [show y33 = true from by simpa using c99]; rfl))), ((l6_120).trans (by first | rfl | (simp; done) | (congr 1; omega))), ((l5_120).trans (by first | rfl | (simp; done) | (congr 1; omega))), ((l0_120).trans l0_22.symm), ((l3_120).trans l3_22.symm), ((l4_120).trans l4_22.symm), (by subst hc93 hc83 hc_82; exact hS121)⟩
    · skip
      have hsb := sr_bd hsr
      refine wp_exit ?_
      refine then_exit ?_
      refine then_exit ?_
      refine inb_hit ?_
      refine then_n (hK20 _ _ ?_)
      clear hK20
      refine wp_seq_k (fun K122 hK122 => ?_)
      -- region 26
      refine region_in ?_
      refine W_r rfl rfl (VR_ldA rfl l3_26 (hS23.obj 1 rfl hc13_23) Try.underlying24 rfl (by kernel_rfl)) ?_
      refine W_call rfl rfl rfl Try.func32 (by kernel_rfl) rfl (args1 (et rfl)) (kList_c (hS23.chC 2 rfl hc_23).own ) ?_
      rintro _ w123 ⟨v_123, rfl, hP123⟩
      refine ⟨_, rfl, ?_⟩
      obtain ⟨c_123, hc_123, hP123⟩ := gen1 hP123
      have hS123 := hS23.join hP123
      replace hS123 : St w NoX [c_123, c16_23, c13_23, c_23] w123 := hS123
      refine W_v rfl rfl (V_mov rfl (et rfl)) ?_
      refine W_v rfl rfl (V_ext (v := v_123) rfl (et rfl) rfl) ?_
      refine W_v rfl rfl (V_ext (v := .int .i64 ((ckS x).2)) rfl (es rfl (et rfl)) rfl) ?_
      refine W_v rfl rfl (V_asg rfl (es rfl (et rfl))) ?_
      refine W_v rfl rfl (V_asg rfl (es rfl (et rfl))) ?_
      refine W_end ?_
      refine gen_Q (fun A124 hA124 => ?_)
      have hsz124 : SzN A124 179 := by rw [hA124]; infer_instance
      have hdf124 : A124.defers = [] := by rw [hA124]; simp only [df_put]; exact hdf26
      have l3_124 := lookE hA124 3 (es rfl (es rfl (es rfl (es rfl (es rfl (es rfl (es rfl l3_26)))))))
      have l4_124 := lookE hA124 4 (es rfl (es rfl (es rfl (es rfl (es rfl (es rfl (es rfl l4_26)))))))
      have l5_124 := lookE hA124 5 (es rfl (es rfl (es rfl (es rfl (es rfl (es rfl (es rfl l5_26)))))))
      have l13_124 := lookE hA124 13 (es rfl (et rfl))
      have l14_124 := lookE hA124 14 (et rfl)
      clear hA124 hsz26 hdf26 l0_26 l3_26 l4_26 l5_26 l6_26 l30_26
      refine then_n (hK122 _ _ ?_)
      clear hK122
      refine wp_seq_k (fun K125 hK125 => ?_)
      -- region 27
      refine region_in ?_
      refine W_r rfl rfl (VR_ldA rfl l3_124 (hS123.obj 2 rfl hc13_23) Try.underlying24 rfl (by kernel_rfl)) ?_
      refine W_call rfl rfl rfl Try.func28 (by kernel_rfl) rfl (args1 (et rfl)) (kLen_c (hS123.chC 3 rfl hc_23).own ) ?_
      rintro _ w126 ⟨rfl, hP126⟩
      refine ⟨_, rfl, ?_⟩
      have hS126 := hS123.join hP126
      replace hS126 : St w NoX [c_123, c16_23, c13_23, c_23] w126 := hS126
      refine W_v rfl rfl (V_mov rfl (et rfl)) ?_
      refine W_v rfl rfl (V_ext (v := .int .i64 ((lnN x))) rfl (et rfl) rfl) ?_
      refine W_v rfl rfl (V_ext (v := .int .i64 ((ckS x).2)) rfl (es rfl (et rfl)) rfl) ?_
      refine W_v rfl rfl (V_asg rfl (es rfl (et rfl))) ?_
      refine W_v rfl rfl (V_asg rfl (es rfl (et rfl))) ?_
      refine W_end ?_
      refine gen_Q (fun A127 hA127 => ?_)
      have hsz127 : SzN A127 179 := by rw [hA127]; infer_instance
      have hdf127 : A127.defers = [] := by rw [hA127]; simp only [df_put]; exact hdf124
      have l3_127 := lookE hA127 3 (es rfl (es rfl (es rfl (es rfl (es rfl (es rfl (es rfl l3_124)))))))
      have l4_127 := lookE hA127 4 (es rfl (es rfl (es rfl (es rfl (es rfl (es rfl (es rfl l4_124)))))))
      have l5_127 := lookE hA127 5 (es rfl (es rfl (es rfl (es rfl (es rfl (es rfl (es rfl l5_124)))))))
      have l13_127 := lookE hA127 13 (es rfl (es rfl (es rfl (es rfl (es rfl (es rfl (es rfl l13_124)))))))
      have l14_127 := lookE hA127 14 (es rfl (es rfl (es rfl (es rfl (es rfl (es rfl (es rfl l14_124)))))))
      have l15_127 := lookE hA127 15 (es rfl (et rfl))
      have l16_127 := lookE hA127 16 (et rfl)
      clear hA127 hsz124 hdf124 l3_124 l4_124 l5_124 l13_124 l14_124
      refine then_n (hK125 _ _ ?_)
      clear hK125
      refine wp_seq_k (fun K128 hK128 => ?_)
      refine wp_seq_k (fun K129 hK129 => ?_)
      -- region 28
      refine region_in ?_
      refine W_v rfl rfl (V_mov rfl l14_127) ?_
      refine W_v rfl rfl (V_neq rfl (et rfl) rfl) ?_
      refine W_sure (c' := false) rfl rfl (V_mov rfl (et rfl)) (by rw [decide_eq_false_iff_not]; rw [hsb.2.2.1]; simp) ?_
      refine W_v rfl (wanted_t rfl rfl (et rfl) (ez rfl)) (V_mov rfl (es rfl (es rfl (es rfl l16_127)))) ?_
      refine W_v rfl (wanted_t rfl rfl (es rfl (et rfl)) (ez rfl)) (V_neq rfl (et rfl) rfl) ?_
      refine W_v rfl rfl (V_pickF rfl (es rfl (es rfl (et rfl))) (et rfl)) ?_
      refine W_sure (c' := false) rfl rfl (V_mov rfl (et rfl)) (by rw [decide_eq_false_iff_not]; rw [hsb.2.2.1]; simp) ?_
      refine W_v rfl (wanted_t rfl rfl (et rfl) (ez rfl)) (V_mov rfl (es rfl (es rfl (es rfl (es rfl (es rfl (es rfl (es rfl l15_127)))))))) ?_
      refine W_v rfl (wanted_t rfl rfl (es rfl (et rfl)) (ez rfl)) (V_mov rfl (es rfl (es rfl (es rfl (es rfl (es rfl (es rfl (es rfl (es rfl l5_127))))))))) ?_
      refine W_v rfl (wanted_t rfl rfl (es rfl (es rfl (et rfl))) (ez rfl)) (V_neq rfl (es rfl (et rfl)) (et rfl)) ?_
      refine W_v rfl rfl (V_pickF rfl (es rfl (es rfl (es rfl (et rfl)))) (et rfl)) ?_
      refine W_sure (c' := false) rfl rfl (V_mov rfl (et rfl)) (by rw [decide_eq_false_iff_not]; rw [hsb.2.2.2.1]; simp) ?_
      refine W_v rfl (wanted_t rfl rfl (et rfl) (ez rfl)) (V_mov rfl (es rfl (es rfl (es rfl (es rfl (es rfl (es rfl (es rfl (es rfl (es rfl (es rfl (es rfl (es rfl l13_127))))))))))))) ?_
      refine W_v rfl (wanted_t rfl rfl (es rfl (et rfl)) (ez rfl)) (V_lenS rfl (et rfl) (ow_at (hS126.chq 0 rfl hc_123)) Try.underlying22) ?_
      refine W_v rfl (wanted_t rfl rfl (es rfl (es rfl (et rfl))) (ez rfl)) (V_mov rfl (es rfl (es rfl (es rfl (es rfl (es rfl (es rfl (es rfl (es rfl (es rfl (es rfl (es rfl (es rfl (es rfl (es rfl l5_127))))))))))))))) ?_
      refine W_v rfl (wanted_t rfl rfl (es rfl (es rfl (es rfl (et rfl)))) (ez rfl)) (V_neq rfl (es rfl (et rfl)) (et rfl)) ?_
      refine W_v rfl rfl (V_pickF rfl (es rfl (es rfl (es rfl (es rfl (et rfl))))) (et rfl)) ?_
      refine W_end ?_
      refine gen_Q (fun A130 hA130 => ?_)
      have hsz130 : SzN A130 179 := by rw [hA130]; infer_instance
      have hdf130 : A130.defers = [] := by rw [hA130]; simp only [df_put]; exact hdf127
      have l3_130 := lookE hA130 3 (es rfl (es rfl (es rfl (es rfl (es rfl (es rfl (es rfl (es rfl (es rfl (es rfl (es rfl (es rfl (es rfl (es rfl (es rfl (es rfl (es rfl l3_127)))))))))))))))))
      have l4_130 := lookE hA130 4 (es rfl (es rfl (es rfl (es rfl (es rfl (es rfl (es rfl (es rfl (es rfl (es rfl (es rfl (es rfl (es rfl (es rfl (es rfl (es rfl (es rfl l4_127)))))))))))))))))
      have l13_130 := lookE hA130 13 (es rfl (es rfl (es rfl (es rfl (es rfl (es rfl (es rfl (es rfl (es rfl (es rfl (es rfl (es rfl (es rfl (es rfl (es rfl (es rfl (es rfl l13_127)))))))))))))))))
      have l139_130 := lookE hA130 139 (et rfl)
      clear hA130 hsz127 hdf127 l3_127 l4_127 l5_127 l13_127 l14_127 l15_127 l16_127
      refine then_n (hK129 _ _ ?_)
      clear hK129
      refine cond_not l139_130 (by rw [decide_eq_false_iff_not]; rw [hsb.2.2.2.2.1, hsb.2.2.2.2.2]; simp) ?_
      refine wp_skip ?_
      refine then_n (hK128 _ _ ?_)
      clear hK128
      refine wp_seq_k (fun K131 hK131 => ?_)
      -- region 30
      refine region_in ?_
      refine W_v rfl rfl (V_asg rfl rfl) ?_
      refine W_end ?_
      refine gen_Q (fun A132 hA132 => ?_)
      have hsz132 : SzN A132 179 := by rw [hA132]; infer_instance
      have hdf132 : A132.defers = [] := by rw [hA132]; simp only [df_put]; exact hdf130
      have l3_132 := lookE hA132 3 (es rfl l3_130)
      have l4_132 := lookE hA132 4 (es rfl l4_130)
      have l13_132 := lookE hA132 13 (es rfl l13_130)
      have l17_132 := lookE hA132 17 (et rfl)
      clear hA132 hsz130 hdf130 l3_130 l4_130 l13_130 l139_130
      refine then_n (hK131 _ _ ?_)
      clear hK131
      refine wp_seq_k (fun K133 hK133 => ?_)
      refine wp_seq_k (fun K134 hK134 => ?_)
      -- region 31
      refine region_in ?_
      refine W_v rfl rfl (V_asg rfl rfl) ?_
      refine W_end ?_
      refine gen_Q (fun A135 hA135 => ?_)
      have hsz135 : SzN A135 179 := by rw [hA135]; infer_instance
      have hdf135 : A135.defers = [] := by rw [hA135]; simp only [df_put]; exact hdf132
      have l3_135 := lookE hA135 3 (es rfl l3_132)
      have l4_135 := lookE hA135 4 (es rfl l4_132)
      have l13_135 := lookE hA135 13 (es rfl l13_132)
      have l17_135 := lookE hA135 17 (es rfl l17_132)
      have l18_135 := lookE hA135 18 (et rfl)
      clear hA135 hsz132 hdf132 l3_132 l4_132 l13_132 l17_132
      refine then_n (hK134 _ _ ?_)
      clear hK134
      refine wp_block ?_
      -- loop 32
      refine loopX (fun mz A' w' => SzN A' 179 ∧ A'.defers = [] ∧ (∃ (k : Nat), (mz = 60 - k) ∧ (k ≤ 60) ∧ ((tgK x k).length ≤ k) ∧ (EV A' (.tmp 18) = .int .i64 ((k : Int) + 1)) ∧ (EV A' (.tmp 17) = .int .i64 ((tgK x k).length : Int)) ∧ (EV A' (.tmp 3) = EV A135 (.tmp 3)) ∧ (EV A' (.tmp 4) = EV A135 (.tmp 4)) ∧ (EV A' (.tmp 13) = EV A135 (.tmp 13)) ∧ (St w NoX [io .i64 v_123 (lsT x), bo v16 b, bx g12 24 #[tv], io .i64 tv x] w'))) (60 - 0) ⟨hsz135, hdf135, 0, rfl, (by omega), (tgK_len _ _), ((l18_135).trans (by first | rfl | (simp; done) | (congr 1; omega))), ((l17_135).trans (by first | rfl | (simp; done) | (congr 1; omega))), rfl, rfl, rfl, (by subst hc_123 hc16_23 hc13_23 hc_23; exact hS126)⟩ ?_
      clear hS126 hc_123 hc16_23 hc13_23 hc_23
      rintro n136 A136 w136 ⟨hsz136, hdf136, k, hm136, hk, hkl, l18_136, l17_136, u3_136, u4_136, u13_136, hS136⟩
      have l3_136 := u3_136.trans l3_135
      have l4_136 := u4_136.trans l4_135
      have l13_136 := u13_136.trans l13_135
      obtain ⟨c_136, c16_136, c13_136, c_136b, hc_136, hc16_136, hc13_136, hc_136b, hS136⟩ := gen4 hS136
      refine wp_seq_k (fun K137 hK137 => ?_)
      refine wp_seq_k (fun K138 hK138 => ?_)
      -- region 32
      refine region_in ?_
      refine W_v rfl rfl (V_mov rfl l18_136) ?_
      refine W_v rfl rfl (V_leq rfl (et rfl) rfl) ?_
      refine W_end ?_
      refine gen_Q (fun A139 hA139 => ?_)
      have hsz139 : SzN A139 179 := by rw [hA139]; infer_instance
      have hdf139 : A139.defers = [] := by rw [hA139]; simp only [df_put]; exact hdf136
      have l3_139 := lookE hA139 3 (es rfl (es rfl l3_136))
      have l4_139 := lookE hA139 4 (es rfl (es rfl l4_136))
      have l13_139 := lookE hA139 13 (es rfl (es rfl l13_136))
      have l17_139 := lookE hA139 17 (es rfl (es rfl l17_136))
      have l18_139 := lookE hA139 18 (es rfl (es rfl l18_136))
      have l141_139 := lookE hA139 141 (et rfl)
      clear hA139 hsz136 hdf136 l18_136 l17_136 l3_136 l4_136 l13_136
      refine then_n (hK138 _ _ ?_)
      clear hK138
      refine cond_dec l141_139 (fun c140 => ?_) (fun c140 => ?_)
      · skip
        refine wp_skip ?_
        refine then_n (hK137 _ _ ?_)
        clear hK137
        refine wp_seq_k (fun K141 hK141 => ?_)
        refine wp_block ?_
        refine wp_seq_k (fun K142 hK142 => ?_)
        -- region 34
        refine region_in ?_
        refine W_r rfl rfl (VR_ldA rfl l3_139 (hS136.obj 2 rfl hc13_136) Try.underlying24 rfl (by kernel_rfl)) ?_
        refine W_v rfl rfl (V_mov rfl (es rfl l18_139)) ?_
        refine W_call rfl rfl rfl Try.func13 (by kernel_rfl) rfl (args2 (es rfl (et rfl)) (et rfl)) (kHas_c (a := ((k : Int) + 1)) (hS136.chC 3 rfl hc_136b).own ) ?_
        rintro _ w143 ⟨rfl, hP143⟩
        refine ⟨_, rfl, ?_⟩
        have hS143 := hS136.join hP143
        replace hS143 : St w NoX [c_136, c16_136, c13_136, c_136b] w143 := hS143
        refine W_v rfl rfl (V_mov rfl (et rfl)) ?_
        refine W_v rfl rfl (V_ext (v := .bool ((hsB x ((k : Int) + 1)))) rfl (et rfl) rfl) ?_
        refine W_v rfl rfl (V_ext (v := .int .i64 ((chE x ((k : Int) + 1)))) rfl (es rfl (et rfl)) rfl) ?_
        refine W_v rfl rfl (V_asg rfl (es rfl (et rfl))) ?_
        refine W_v rfl rfl (V_asg rfl (es rfl (et rfl))) ?_
        refine W_end ?_
        refine gen_Q (fun A144 hA144 => ?_)
        have hsz144 : SzN A144 179 := by rw [hA144]; infer_instance
        have hdf144 : A144.defers = [] := by rw [hA144]; simp only [df_put]; exact hdf139
        have l3_144 := lookE hA144 3 (es rfl (es rfl (es rfl (es rfl (es rfl (es rfl (es rfl (es rfl l3_139))))))))
        have l4_144 := lookE hA144 4 (es rfl (es rfl (es rfl (es rfl (es rfl (es rfl (es rfl (es rfl l4_139))))))))
        have l13_144 := lookE hA144 13 (es rfl (es rfl (es rfl (es rfl (es rfl (es rfl (es rfl (es rfl l13_139))))))))
        have l17_144 := lookE hA144 17 (es rfl (es rfl (es rfl (es rfl (es rfl (es rfl (es rfl (es rfl l17_139))))))))
        have l18_144 := lookE hA144 18 (es rfl (es rfl (es rfl (es rfl (es rfl (es rfl (es rfl (es rfl l18_139))))))))
        have l19_144 := lookE hA144 19 (es rfl (et rfl))
        have l20_144 := lookE hA144 20 (et rfl)
        clear hA144 hsz139 hdf139 l3_139 l4_139 l13_139 l17_139 l18_139 l141_139
        refine then_n (hK142 _ _ ?_)
        clear hK142
        refine wp_seq_k (fun K145 hK145 => ?_)
        refine wp_seq_k (fun K146 hK146 => ?_)
        -- region 35
        refine region_in ?_
        refine W_v rfl rfl (V_mov rfl l20_144) ?_
        refine W_v rfl rfl (V_neq rfl (et rfl) rfl) ?_
        refine W_sure (c' := false) rfl rfl (V_mov rfl (et rfl)) (by rw [decide_eq_false_iff_not]; rw [ch_iff.2 ⟨hsr.gd, by omega⟩]; simp) ?_
        refine W_v rfl (wanted_t rfl rfl (et rfl) (ez rfl)) (V_mov rfl (es rfl (es rfl (es rfl l19_144)))) ?_
        refine W_v rfl (wanted_t rfl rfl (es rfl (et rfl)) (ez rfl)) (V_mov rfl (es rfl (es rfl (es rfl (es rfl l4_144))))) ?_
        refine W_v rfl (wanted_t rfl rfl (es rfl (es rfl (et rfl))) (ez rfl)) (V_mov rfl (es rfl (es rfl (es rfl (es rfl (es rfl l18_144)))))) ?_
        have k147 : (((k : Int) + 1)).toNat < b.length := by first | omega | (simp only [List.length_cons, List.length_nil]; omega) | (simp only [List.length_set]; omega)
        obtain ⟨y147, hy147⟩ := get_some (xs := b) (k := (((k : Int) + 1)).toNat) k147
        obtain ⟨B147, O147, C147, hv147⟩ := (SlN.blk (ow_at (hS143.chq 1 rfl hc16_136)) (by first | omega | (simp only [List.length_cons, List.length_nil]; omega) | (simp only [List.length_set]; omega)))
        refine W_v rfl (wanted_t rfl rfl (es rfl (es rfl (es rfl (et rfl)))) (ez rfl)) (V_ixS (off := O147 + ((((k : Int) + 1)).toNat)) 1 ((((k : Int) + 1)).toNat) rfl (es rfl (et rfl)) (et rfl) hv147 (by omega) k147 Try.underlying49 (by kernel_rfl) (congrArg _ (Nat.mul_one _))) ?_
        refine W_r rfl (wanted_t rfl rfl (es rfl (es rfl (es rfl (es rfl (et rfl))))) (ez rfl)) (VR_ldC rfl (et rfl) ((ow_at (hS143.chq 1 rfl hc16_136)).cell hv147 (map_get hy147)) Try.underlying4 rfl) ?_
        refine W_v rfl (wanted_t rfl rfl (es rfl (es rfl (es rfl (es rfl (es rfl (et rfl)))))) (ez rfl)) (V_neB rfl (es rfl (es rfl (es rfl (es rfl (et rfl))))) (et rfl) Try.underlying4) ?_
        refine W_v rfl rfl (V_pickF rfl (es rfl (es rfl (es rfl (es rfl (es rfl (es rfl (et rfl))))))) (et rfl)) ?_
        refine W_end ?_
        refine gen_Q (fun A148 hA148 => ?_)
        have hsz148 : SzN A148 179 := by rw [hA148]; infer_instance
        have hdf148 : A148.defers = [] := by rw [hA148]; simp only [df_put]; exact hdf144
        have l3_148 := lookE hA148 3 (es rfl (es rfl (es rfl (es rfl (es rfl (es rfl (es rfl (es rfl (es rfl (es rfl l3_144))))))))))
        have l4_148 := lookE hA148 4 (es rfl (es rfl (es rfl (es rfl (es rfl (es rfl (es rfl (es rfl (es rfl (es rfl l4_144))))))))))
        have l13_148 := lookE hA148 13 (es rfl (es rfl (es rfl (es rfl (es rfl (es rfl (es rfl (es rfl (es rfl (es rfl l13_144))))))))))
        have l17_148 := lookE hA148 17 (es rfl (es rfl (es rfl (es rfl (es rfl (es rfl (es rfl (es rfl (es rfl (es rfl l17_144))))))))))
        have l18_148 := lookE hA148 18 (es rfl (es rfl (es rfl (es rfl (es rfl (es rfl (es rfl (es rfl (es rfl (es rfl l18_144))))))))))
        have l153_148 := lookE hA148 153 (es rfl (es rfl (es rfl (es rfl (es rfl (es rfl (et rfl)))))))
        have l154_148 := lookE hA148 154 (es rfl (es rfl (es rfl (es rfl (es rfl (et rfl))))))
        have l155_148 := lookE hA148 155 (es rfl (es rfl (es rfl (es rfl (et rfl)))))
        have l156_148 := lookE hA148 156 (es rfl (es rfl (es rfl (et rfl))))
        have l157_148 := lookE hA148 157 (es rfl (es rfl (et rfl)))
        have l158_148 := lookE hA148 158 (es rfl (et rfl))
        have l159_148 := lookE hA148 159 (et rfl)
        clear hA148 hsz144 hdf144 l3_144 l4_144 l13_144 l17_144 l18_144 l19_144 l20_144
        refine then_n (hK146 _ _ ?_)
        clear hK146
        refine cond_not l159_148 (by rw [decide_eq_false_iff_not]; rw [hs_is hsr.gd (by omega), sr_at hsr (a := (k : Int) + 1) (by omega) hy147]; simp) ?_
        refine wp_skip ?_
        refine then_n (hK145 _ _ ?_)
        clear hK145
        refine wp_seq_k (fun K149 hK149 => ?_)
        -- region 37
        refine region_in ?_
        refine W_v rfl rfl (V_mov rfl l4_148) ?_
        refine W_v rfl rfl (V_mov rfl (es rfl l18_148)) ?_
        refine W_v rfl rfl (V_ixS (off := O147 + ((((k : Int) + 1)).toNat)) 1 ((((k : Int) + 1)).toNat) rfl (es rfl (et rfl)) (et rfl) hv147 (by omega) k147 Try.underlying49 (by kernel_rfl) (congrArg _ (Nat.mul_one _))) ?_
        refine W_r rfl rfl (VR_ldC rfl (et rfl) ((ow_at (hS143.chq 1 rfl hc16_136)).cell hv147 (map_get hy147)) Try.underlying4 rfl) ?_
        refine W_end ?_
        refine gen_Q (fun A151 hA151 => ?_)
        have hsz151 : SzN A151 179 := by rw [hA151]; infer_instance
        have hdf151 : A151.defers = [] := by rw [hA151]; simp only [df_put]; exact hdf148
        have l3_151 := lookE hA151 3 (es rfl (es rfl (es rfl (es rfl l3_148))))
        have l4_151 := lookE hA151 4 (es rfl (es rfl (es rfl (es rfl l4_148))))
        have l13_151 := lookE hA151 13 (es rfl (es rfl (es rfl (es rfl l13_148))))
        have l17_151 := lookE hA151 17 (es rfl (es rfl (es rfl (es rfl l17_148))))
        have l18_151 := lookE hA151 18 (es rfl (es rfl (es rfl (es rfl l18_148))))
        have l153_151 := lookE hA151 153 (es rfl (es rfl (es rfl (es rfl l153_148))))
        have l154_151 := lookE hA151 154 (es rfl (es rfl (es rfl (es rfl l154_148))))
        have l155_151 := lookE hA151 155 (es rfl (es rfl (es rfl (es rfl l155_148))))
        have l156_151 := lookE hA151 156 (es rfl (es rfl (es rfl (es rfl l156_148))))
        have l157_151 := lookE hA151 157 (es rfl (es rfl (es rfl (es rfl l157_148))))
        have l158_151 := lookE hA151 158 (es rfl (es rfl (es rfl (es rfl l158_148))))
        have l163_151 := lookE hA151 163 (et rfl)
        clear hA151 hsz148 hdf148 l3_148 l4_148 l13_148 l17_148 l18_148 l153_148 l154_148 l155_148 l156_148 l157_148 l158_148 l159_148
        refine then_n (hK149 _ _ ?_)
        clear hK149
        refine cond_b l163_151 (fun c152 => ?_) (fun c152 => ?_)
        · skip
          have hin : ((k : Int) + 1) ∈ x := by have q := sr_at hsr (a := (k : Int) + 1) (by omega) hy147; rw [c152] at q; simpa using q.symm
          have hta := tg_at (k := k) (by omega) hin
          have htl := (List.getElem?_eq_some_iff.1 hta).1
          have hle := congrArg List.length hsb.2.2.2.2.1
          refine wp_seq_k (fun K153 hK153 => ?_)
          refine wp_seq_k (fun K154 hK154 => ?_)
          -- region 38
          refine region_in ?_
          refine W_v rfl rfl (V_mov rfl l17_151) ?_
          refine W_v rfl rfl (V_mov rfl (es rfl l13_151)) ?_
          refine W_v rfl rfl (V_lenS rfl (et rfl) (ow_at (hS143.chq 0 rfl hc_136)) Try.underlying22) ?_
          refine W_v rfl rfl (V_geq rfl (es rfl (es rfl (et rfl))) (et rfl)) ?_
          refine W_sure (c' := false) rfl rfl (V_mov rfl (et rfl)) (by rw [decide_eq_false_iff_not]; omega) ?_
          refine W_v rfl (wanted_t rfl rfl (et rfl) (ez rfl)) (V_mov rfl (es rfl (es rfl (es rfl (es rfl (es rfl l13_151)))))) ?_
          refine W_v rfl (wanted_t rfl rfl (es rfl (et rfl)) (ez rfl)) (V_mov rfl (es rfl (es rfl (es rfl (es rfl (es rfl (es rfl l17_151))))))) ?_
          have k155 : (tgK x k).length < (lsT x).length := by first | omega | (simp only [List.length_cons, List.length_nil]; omega) | (simp only [List.length_set]; omega)
          obtain ⟨y155, hy155⟩ := get_some (xs := (lsT x)) (k := (tgK x k).length) k155
          obtain ⟨B155, O155, C155, hv155⟩ := (SlN.blk (ow_at (hS143.chq 0 rfl hc_136)) (by first | omega | (simp only [List.length_cons, List.length_nil]; omega) | (simp only [List.length_set]; omega)))
          refine W_v rfl (wanted_t rfl rfl (es rfl (es rfl (et rfl))) (ez rfl)) (V_ixS (off := O155 + ((tgK x k).length)) 1 ((tgK x k).length) rfl (es rfl (et rfl)) (et rfl) hv155 (by omega) k155 Try.underlying22 (by kernel_rfl) (congrArg _ (Nat.mul_one _))) ?_
          refine W_r rfl (wanted_t rfl rfl (es rfl (es rfl (es rfl (et rfl)))) (ez rfl)) (VR_ldC rfl (et rfl) ((ow_at (hS143.chq 0 rfl hc_136)).cell hv155 (map_get hy155)) Try.underlying3 rfl) ?_
          refine W_v rfl (wanted_t rfl rfl (es rfl (es rfl (es rfl (es rfl (et rfl))))) (ez rfl)) (V_mov rfl (es rfl (es rfl (es rfl (es rfl (es rfl (es rfl (es rfl (es rfl (es rfl l18_151)))))))))) ?_
          refine W_v rfl (wanted_t rfl rfl (es rfl (es rfl (es rfl (es rfl (es rfl (et rfl)))))) (ez rfl)) (V_neq rfl (es rfl (et rfl)) (et rfl)) ?_
          refine W_v rfl rfl (V_pickF rfl (es rfl (es rfl (es rfl (es rfl (es rfl (es rfl (et rfl))))))) (et rfl)) ?_
          refine W_end ?_
          refine gen_Q (fun A156 hA156 => ?_)
          have hsz156 : SzN A156 179 := by rw [hA156]; infer_instance
          have hdf156 : A156.defers = [] := by rw [hA156]; simp only [df_put]; exact hdf151
          have l3_156 := lookE hA156 3 (es rfl (es rfl (es rfl (es rfl (es rfl (es rfl (es rfl (es rfl (es rfl (es rfl (es rfl (es rfl l3_151))))))))))))
          have l4_156 := lookE hA156 4 (es rfl (es rfl (es rfl (es rfl (es rfl (es rfl (es rfl (es rfl (es rfl (es rfl (es rfl (es rfl l4_151))))))))))))
          have l13_156 := lookE hA156 13 (es rfl (es rfl (es rfl (es rfl (es rfl (es rfl (es rfl (es rfl (es rfl (es rfl (es rfl (es rfl l13_151))))))))))))
          have l17_156 := lookE hA156 17 (es rfl (es rfl (es rfl (es rfl (es rfl (es rfl (es rfl (es rfl (es rfl (es rfl (es rfl (es rfl l17_151))))))))))))
          have l18_156 := lookE hA156 18 (es rfl (es rfl (es rfl (es rfl (es rfl (es rfl (es rfl (es rfl (es rfl (es rfl (es rfl (es rfl l18_151))))))))))))
          have l153_156 := lookE hA156 153 (es rfl (es rfl (es rfl (es rfl (es rfl (es rfl (es rfl (es rfl (es rfl (es rfl (es rfl (es rfl l153_151))))))))))))
          have l154_156 := lookE hA156 154 (es rfl (es rfl (es rfl (es rfl (es rfl (es rfl (es rfl (es rfl (es rfl (es rfl (es rfl (es rfl l154_151))))))))))))
          have l155_156 := lookE hA156 155 (es rfl (es rfl (es rfl (es rfl (es rfl (es rfl (es rfl (es rfl (es rfl (es rfl (es rfl (es rfl l155_151))))))))))))
          have l156_156 := lookE hA156 156 (es rfl (es rfl (es rfl (es rfl (es rfl (es rfl (es rfl (es rfl (es rfl (es rfl (es rfl (es rfl l156_151))))))))))))
          have l157_156 := lookE hA156 157 (es rfl (es rfl (es rfl (es rfl (es rfl (es rfl (es rfl (es rfl (es rfl (es rfl (es rfl (es rfl l157_151))))))))))))
          have l158_156 := lookE hA156 158 (es rfl (es rfl (es rfl (es rfl (es rfl (es rfl (es rfl (es rfl (es rfl (es rfl (es rfl (es rfl l158_151))))))))))))
          have l169_156 := lookE hA156 169 (es rfl (es rfl (es rfl (es rfl (es rfl (es rfl (et rfl)))))))
          have l170_156 := lookE hA156 170 (es rfl (es rfl (es rfl (es rfl (es rfl (et rfl))))))
          have l171_156 := lookE hA156 171 (es rfl (es rfl (es rfl (es rfl (et rfl)))))
          have l172_156 := lookE hA156 172 (es rfl (es rfl (es rfl (et rfl))))
          have l173_156 := lookE hA156 173 (es rfl (es rfl (et rfl)))
          have l174_156 := lookE hA156 174 (es rfl (et rfl))
          have l175_156 := lookE hA156 175 (et rfl)
          clear hA156 hsz151 hdf151 l3_151 l4_151 l13_151 l17_151 l18_151 l153_151 l154_151 l155_151 l156_151 l157_151 l158_151 l163_151
          refine then_n (hK154 _ _ ?_)
          clear hK154
          refine cond_not l175_156 (by rw [decide_eq_false_iff_not]; have q := hy155; rw [hsb.2.2.2.2.1, hta] at q; exact fun h => h (Option.some.inj q).symm) ?_
          refine wp_skip ?_
          refine then_n (hK153 _ _ ?_)
          clear hK153
          -- region 40
          refine region_in ?_
          refine W_v rfl rfl (V_mov rfl l17_156) ?_
          refine W_v rfl rfl (V_add rfl (et rfl) rfl (by omega) (by omega)) ?_
          refine W_v rfl rfl (V_asg rfl (et rfl)) ?_
          refine W_end ?_
          refine gen_Q (fun A157 hA157 => ?_)
          have hsz157 : SzN A157 179 := by rw [hA157]; infer_instance
          have hdf157 : A157.defers = [] := by rw [hA157]; simp only [df_put]; exact hdf156
          have l3_157 := lookE hA157 3 (es rfl (es rfl (es rfl l3_156)))
          have l4_157 := lookE hA157 4 (es rfl (es rfl (es rfl l4_156)))
          have l13_157 := lookE hA157 13 (es rfl (es rfl (es rfl l13_156)))
          have l17_157 := lookE hA157 17 (et rfl)
          have l18_157 := lookE hA157 18 (es rfl (es rfl (es rfl l18_156)))
          have l153_157 := lookE hA157 153 (es rfl (es rfl (es rfl l153_156)))
          have l154_157 := lookE hA157 154 (es rfl (es rfl (es rfl l154_156)))
          have l155_157 := lookE hA157 155 (es rfl (es rfl (es rfl l155_156)))
          have l156_157 := lookE hA157 156 (es rfl (es rfl (es rfl l156_156)))
          have l157_157 := lookE hA157 157 (es rfl (es rfl (es rfl l157_156)))
          have l158_157 := lookE hA157 158 (es rfl (es rfl (es rfl l158_156)))
          have l169_157 := lookE hA157 169 (es rfl (es rfl (es rfl l169_156)))
          have l170_157 := lookE hA157 170 (es rfl (es rfl (es rfl l170_156)))
          have l171_157 := lookE hA157 171 (es rfl (es rfl (es rfl l171_156)))
          have l172_157 := lookE hA157 172 (es rfl (es rfl (es rfl l172_156)))
          have l173_157 := lookE hA157 173 (es rfl (es rfl (es rfl l173_156)))
          have l174_157 := lookE hA157 174 (es rfl (es rfl (es rfl l174_156)))
          clear hA157 hsz156 hdf156 l3_156 l4_156 l13_156 l17_156 l18_156 l153_156 l154_156 l155_156 l156_156 l157_156 l158_156 l169_156 l170_156 l171_156 l172_156 l173_156 l174_156 l175_156
          refine inb_n ?_
          refine then_n (hK141 _ _ ?_)
          clear hK141
          -- region 33
          refine region_in ?_
          refine W_v rfl rfl (V_mov rfl l18_157) ?_
          refine W_v rfl rfl (V_add rfl (et rfl) rfl (by omega) (by omega)) ?_
          refine W_v rfl rfl (V_asg rfl (et rfl)) ?_
          refine W_end ?_
          refine gen_Q (fun A158 hA158 => ?_)
          have hsz158 : SzN A158 179 := by rw [hA158]; infer_instance
          have hdf158 : A158.defers = [] := by rw [hA158]; simp only [df_put]; exact hdf157
          have l3_158 := lookE hA158 3 (es rfl (es rfl (es rfl l3_157)))
          have l4_158 := lookE hA158 4 (es rfl (es rfl (es rfl l4_157)))
          have l13_158 := lookE hA158 13 (es rfl (es rfl (es rfl l13_157)))
          have l17_158 := lookE hA158 17 (es rfl (es rfl (es rfl l17_157)))
          have l18_158 := lookE hA158 18 (et rfl)
          have l153_158 := lookE hA158 153 (es rfl (es rfl (es rfl l153_157)))
          have l154_158 := lookE hA158 154 (es rfl (es rfl (es rfl l154_157)))
          have l155_158 := lookE hA158 155 (es rfl (es rfl (es rfl l155_157)))
          have l156_158 := lookE hA158 156 (es rfl (es rfl (es rfl l156_157)))
          have l157_158 := lookE hA158 157 (es rfl (es rfl (es rfl l157_157)))
          have l158_158 := lookE hA158 158 (es rfl (es rfl (es rfl l158_157)))
          have l169_158 := lookE hA158 169 (es rfl (es rfl (es rfl l169_157)))
          have l170_158 := lookE hA158 170 (es rfl (es rfl (es rfl l170_157)))
          have l171_158 := lookE hA158 171 (es rfl (es rfl (es rfl l171_157)))
          have l172_158 := lookE hA158 172 (es rfl (es rfl (es rfl l172_157)))
          have l173_158 := lookE hA158 173 (es rfl (es rfl (es rfl l173_157)))
          have l174_158 := lookE hA158 174 (es rfl (es rfl (es rfl l174_157)))
          clear hA158 hsz157 hdf157 l3_157 l4_157 l13_157 l17_157 l18_157 l153_157 l154_157 l155_157 l156_157 l157_157 l158_157 l169_157 l170_157 l171_157 l172_157 l173_157 l174_157
          refine then_n ⟨60 - (k + 1), by simp only [hm136]; omega, hsz158, hdf158, (k + 1), rfl, (by omega), (tgK_len _ _), ((l18_158).trans (by first | rfl | (simp; done) | (congr 1; omega))), ((l17_158).trans ((by rw [← tgK_in hin, List.length_append]; rfl))), ((l3_158).trans l3_135.symm), ((l4_158).trans l4_135.symm), ((l13_158).trans l13_135.symm), (by subst hc_136 hc16_136 hc13_136 hc_136b; exact hS143)⟩
        · skip
          have hnin : ((k : Int) + 1) ∉ x := by have q := sr_at hsr (a := (k : Int) + 1) (by omega) hy147; rw [c152] at q; simpa using q.symm
          refine wp_skip ?_
          refine inb_n ?_
          refine then_n (hK141 _ _ ?_)
          clear hK141
          -- region 33
          refine region_in ?_
          refine W_v rfl rfl (V_mov rfl l18_151) ?_
          refine W_v rfl rfl (V_add rfl (et rfl) rfl (by omega) (by omega)) ?_
          refine W_v rfl rfl (V_asg rfl (et rfl)) ?_
          refine W_end ?_
          refine gen_Q (fun A159 hA159 => ?_)
          have hsz159 : SzN A159 179 := by rw [hA159]; infer_instance
          have hdf159 : A159.defers = [] := by rw [hA159]; simp only [df_put]; exact hdf151
          have l3_159 := lookE hA159 3 (es rfl (es rfl (es rfl l3_151)))
          have l4_159 := lookE hA159 4 (es rfl (es rfl (es rfl l4_151)))
          have l13_159 := lookE hA159 13 (es rfl (es rfl (es rfl l13_151)))
          have l17_159 := lookE hA159 17 (es rfl (es rfl (es rfl l17_151)))
          have l18_159 := lookE hA159 18 (et rfl)
          have l153_159 := lookE hA159 153 (es rfl (es rfl (es rfl l153_151)))
          have l154_159 := lookE hA159 154 (es rfl (es rfl (es rfl l154_151)))
          have l155_159 := lookE hA159 155 (es rfl (es rfl (es rfl l155_151)))
          have l156_159 := lookE hA159 156 (es rfl (es rfl (es rfl l156_151)))
          have l157_159 := lookE hA159 157 (es rfl (es rfl (es rfl l157_151)))
          have l158_159 := lookE hA159 158 (es rfl (es rfl (es rfl l158_151)))
          clear hA159 hsz151 hdf151 l3_151 l4_151 l13_151 l17_151 l18_151 l153_151 l154_151 l155_151 l156_151 l157_151 l158_151 l163_151
          refine then_n ⟨60 - (k + 1), by simp only [hm136]; omega, hsz159, hdf159, (k + 1), rfl, (by omega), (tgK_len _ _), ((l18_159).trans (by first | rfl | (simp; done) | (congr 1; omega))), ((l17_159).trans ((by rw [← tgK_out hnin]))), ((l3_159).trans l3_135.symm), ((l4_159).trans l4_135.symm), ((l13_159).trans l13_135.symm), (by subst hc_136 hc16_136 hc13_136 hc_136b; exact hS143)⟩
      · skip
        refine wp_exit ?_
        refine then_exit ?_
        refine then_exit ?_
        refine inb_hit ?_
        refine then_n (hK133 _ _ ?_)
        clear hK133
        refine wp_seq_k (fun K160 hK160 => ?_)
        -- region 41
        refine region_in ?_
        refine W_call rfl rfl rfl Try.func12 (by kernel_rfl) rfl (args0) (awake_c  ) ?_
        rintro _ w161 ⟨rfl, hP161⟩
        refine ⟨_, rfl, ?_⟩
        have hS161 := hS136.join hP161
        replace hS161 : St w NoX [c_136, c16_136, c13_136, c_136b] w161 := hS161
        refine W_v rfl rfl (V_asg rfl (et rfl)) ?_
        refine W_end ?_
        refine gen_Q (fun A162 hA162 => ?_)
        have hsz162 : SzN A162 179 := by rw [hA162]; infer_instance
        have hdf162 : A162.defers = [] := by rw [hA162]; simp only [df_put]; exact hdf139
        have l2_162 := lookE hA162 2 (et rfl)
        clear hA162 hsz139 hdf139 l3_139 l4_139 l13_139 l17_139 l18_139 l141_139
        have hS163 : St w NoX [] w161 := hS161.sel [] (by decide) rfl
        refine then_n (hK160 _ _ ?_)
        clear hK160
        refine wp_ret ?_
        refine ret_in (results_1 Try.results7 (rv_tmp l2_162)) hdf162 ?_
        -- leaf FFF
        exact ⟨rfl, hS163.fin0⟩

end Go.Proofs.Ytoandfgkkmfobaa