import Derived.Test.YtdilbnmaihmgnaaProg
import Derived.Test.YtdilbnmaihmgnaaGh10
import Derived.Test.YtdilbnmaihmgnaaPl15l
namespace Go.Proofs.Ytdilbnmaihmgnaa
open Go.RowKit Go.Own Go.Own.R Go.Own.G Go.Own.Gr


set_option maxHeartbeats 4000000 in
theorem GraphLive_c {ov : Value} {O : List Ob} {rv : Value} {rs : List Int} {w : World} (h_ov : Ro w NoX (rl 2 obC ov O)) (n_ov : Ro w NoX (nst O)) (h_rv : Ro w NoX (il .i64 rv rs)) (hbulk : ∀ o ∈ (O.map ab), o.1.length ≤ 17592186044416 ∧ o.2.length ≤ 17592186044416) :
    Calls Try.prog 4 #[.agg #[ov, rv]] w fun e w' => e = .returned (.bool true) ∧ St w NoX [] w' := by
  refine calls_in 219 Try.func4 rfl rfl (by simp) (fun A0 hsz0 hdf0 hargs => ?_)
  have l0_0 := hargs 0 (.agg #[ov, rv]) rfl
  clear hargs; replace hsz0 : SzN A0 219 := ⟨hsz0⟩
  have hS := St.nil w
  have bh_ov := SlN.le (sl_SlN h_ov.at)
  have bh_rv := SlN.le (sl_SlN h_rv.at)
  refine wp_seq_k (fun K1 hK1 => ?_)
  refine region_in ?_
  refine W_boxS (zs := #[ov, rv]) hS rfl rfl rfl l0_0 (by rfl) (fun g2 w2 c2 hc2 hS2 => ?_)
  replace hS2 : St w NoX [c2] w2 := hS2
  refine W_v rfl rfl (V_asg rfl rfl) ?_
  refine W_end ?_
  refine gen_Q (fun A3 hA3 => ?_)
  have hsz3 := szq hA3
  have hdf3 : A3.defers = [] := by rw [hA3]; simp only [df_put]; exact hdf0
  have l1_3 := lookE hA3 1 (es rfl (et rfl))
  clear hA3 hsz0 hdf0 l0_0
  refine then_n (hK1 _ _ ?_)
  clear hK1
  refine wp_seq_k (fun K4 hK4 => ?_)
  refine wp_seq_k (fun K5 hK5 => ?_)
  refine region_in ?_
  refine W_r rfl rfl (VR_ldA rfl l1_3 (hS2.obj 0 rfl hc2) Try.underlying25 rfl (by kernel_rfl)) ?_
  refine W_call rfl rfl rfl Try.func10 (by kernel_rfl) rfl (args1 (et rfl)) (far_c (hS2.roC h_ov) (hS2.roC n_ov) (hS2.roC h_rv) (by first | with_reducible assumption)) ?_
  rintro _ w6 ⟨rfl, hP6⟩
  refine ⟨_, rfl, ?_⟩
  have hS6 := hS2.join hP6
  replace hS6 : St w NoX [c2] w6 := hS6
  refine W_splitB rfl rfl (V_mov rfl (et rfl)) (fun c7 => ?_) (fun c7 => ?_)
  · skip
    refine W_off rfl (wanted_f rfl rfl (et rfl) (ez rfl) rfl) ?_
    refine W_off rfl (wanted_f rfl rfl (es rfl (et rfl)) (ez rfl) rfl) ?_
    refine W_off rfl (wanted_f rfl rfl (e2 rfl (et rfl)) (ez rfl) rfl) ?_
    refine W_off rfl (wanted_f rfl rfl (e3 rfl (et rfl)) (ez rfl) rfl) ?_
    refine W_v rfl rfl (V_pickT rfl (e4 rfl (et rfl)) rfl) ?_
    refine W_end ?_
    refine gen_Q (fun A8 hA8 => ?_)
    have hsz8 := szq hA8
    have hdf8 : A8.defers = [] := by rw [hA8]; simp only [df_put]; exact hdf3
    have l1_8 := lookE hA8 1 (e7 rfl (es rfl l1_3))
    have l22_8 := lookE hA8 22 (et rfl)
    clear hA8 hsz3 hdf3 l1_3
    refine then_n (hK5 _ _ ?_)
    clear hK5
    refine cond_t l22_8 ?_
    refine wp_seq_k (fun K9 hK9 => ?_)
    refine region_in ?_
    refine W_call rfl rfl rfl Try.func11 (by kernel_rfl) rfl (args0) (shown_c  ) ?_
    rintro _ w10 ⟨rfl, hP10⟩
    refine ⟨_, rfl, ?_⟩
    have hS10 := hS6.join hP10
    replace hS10 : St w NoX [c2] w10 := hS10
    refine W_v rfl rfl (V_asg rfl (et rfl)) ?_
    refine W_end ?_
    refine gen_Q (fun A11 hA11 => ?_)
    have hsz11 := szq hA11
    have hdf11 : A11.defers = [] := by rw [hA11]; simp only [df_put]; exact hdf8
    have l2_11 := lookE hA11 2 (et rfl)
    clear hA11 hsz8 hdf8 l1_8 l22_8
    have hS12 : St w NoX [] w10 := hS10.sel [] (by decide) rfl
    refine then_n (hK9 _ _ ?_)
    clear hK9
    refine wp_ret ?_
    refine then_ret ?_
    refine ret_in (results_1 Try.results4 (rv_tmp l2_11)) hdf11 ?_
    -- leaf T
    exact ⟨rfl, hS12.fin0⟩
  · skip
    have hfar := far_no c7
    have hsm := hfar.2.2.2.1
    have hfr := hfar.1
    have hfo := hfar.2.1
    rw [List.length_map] at hfo
    refine W_v rfl (wanted_t rfl rfl (et rfl) (ez rfl)) (V_fa (off' := 0) rfl (e2 rfl (es rfl l1_3)) Try.underlying25 rfl (by decide +kernel) rfl) ?_
    refine W_r rfl (wanted_t rfl rfl (es rfl (et rfl)) (ez rfl)) (VR_ldC rfl (et rfl) (cell_box (v := ov) (hS6.obj 0 rfl hc2) rfl) Try.underlying22 rfl) ?_
    refine W_v rfl (wanted_t rfl rfl (e2 rfl (et rfl)) (ez rfl)) (V_lenS rfl (et rfl) (sl_SlN h_ov.at) Try.underlying22) ?_
    refine W_v rfl (wanted_t rfl rfl (e3 rfl (et rfl)) (ez rfl)) (V_gtr rfl (et rfl) rfl) ?_
    refine W_v rfl rfl (V_pickF rfl (e4 rfl (et rfl)) (et rfl)) ?_
    refine W_end ?_
    refine gen_Q (fun A13 hA13 => ?_)
    have hsz13 := szq hA13
    have hdf13 : A13.defers = [] := by rw [hA13]; simp only [df_put]; exact hdf3
    have l1_13 := lookE hA13 1 (e7 rfl (es rfl l1_3))
    have l22_13 := lookE hA13 22 (et rfl)
    clear hA13 hsz3 hdf3 l1_3
    refine then_n (hK5 _ _ ?_)
    clear hK5
    refine cond_dec l22_13 (fun c14 => ?_) (fun c14 => ?_)
    · skip
      refine wp_seq_k (fun K15 hK15 => ?_)
      refine region_in ?_
      refine W_call rfl rfl rfl Try.func11 (by kernel_rfl) rfl (args0) (shown_c  ) ?_
      rintro _ w16 ⟨rfl, hP16⟩
      refine ⟨_, rfl, ?_⟩
      have hS16 := hS6.join hP16
      replace hS16 : St w NoX [c2] w16 := hS16
      refine W_v rfl rfl (V_asg rfl (et rfl)) ?_
      refine W_end ?_
      refine gen_Q (fun A17 hA17 => ?_)
      have hsz17 := szq hA17
      have hdf17 : A17.defers = [] := by rw [hA17]; simp only [df_put]; exact hdf13
      have l2_17 := lookE hA17 2 (et rfl)
      clear hA17 hsz13 hdf13 l1_13 l22_13
      have hS18 : St w NoX [] w16 := hS16.sel [] (by decide) rfl
      refine then_n (hK15 _ _ ?_)
      clear hK15
      refine wp_ret ?_
      refine then_ret ?_
      refine ret_in (results_1 Try.results4 (rv_tmp l2_17)) hdf17 ?_
      -- leaf FT
      exact ⟨rfl, hS18.fin0⟩
    · skip
      refine wp_skip ?_
      refine then_n (hK4 _ _ ?_)
      clear hK4
      refine wp_seq_k (fun K19 hK19 => ?_)
      refine region_in ?_
      refine W_r rfl rfl (VR_ldA rfl l1_13 (hS6.obj 0 rfl hc2) Try.underlying25 rfl (by kernel_rfl)) ?_
      refine W_call rfl rfl rfl Try.func17 (by kernel_rfl) rfl (args1 (et rfl)) (kLv_c (hS6.roC h_ov) (hS6.roC n_ov) (hS6.roC h_rv) (by first | with_reducible assumption)) ?_
      rintro _ w20 ⟨v_20, rfl, hP20⟩
      refine ⟨_, rfl, ?_⟩
      obtain ⟨c_20, hc_20, hP20⟩ := gen1 hP20
      have hS20 := hS6.join hP20
      replace hS20 : St w NoX [c_20, c2] w20 := hS20
      refine W_v rfl rfl (V_mov rfl (et rfl)) ?_
      refine W_v rfl rfl (V_ext (v := v_20) rfl (et rfl) rfl) ?_
      refine W_v rfl rfl (V_ext (v := .int .i64 ((ckG (O.map ab) rs).2)) rfl (es rfl (et rfl)) rfl) ?_
      refine W_v rfl rfl (V_asg rfl (es rfl (et rfl))) ?_
      refine W_v rfl rfl (V_asg rfl (es rfl (et rfl))) ?_
      refine W_end ?_
      refine gen_Q (fun A21 hA21 => ?_)
      have hsz21 := szq hA21
      have hdf21 : A21.defers = [] := by rw [hA21]; simp only [df_put]; exact hdf13
      have l1_21 := lookE hA21 1 (e6 rfl (es rfl l1_13))
      have l3_21 := lookE hA21 3 (es rfl (et rfl))
      have l4_21 := lookE hA21 4 (et rfl)
      clear hA21 hsz13 hdf13 l1_13 l22_13
      refine then_n (hK19 _ _ ?_)
      clear hK19
      refine wp_seq_k (fun K22 hK22 => ?_)
      refine wp_seq_k (fun K23 hK23 => ?_)
      refine region_in ?_
      refine W_v rfl rfl (V_mov rfl l4_21) ?_
      refine W_v rfl rfl (V_neq rfl (et rfl) rfl) ?_
      refine W_end ?_
      refine gen_Q (fun A24 hA24 => ?_)
      have hsz24 := szq hA24
      have hdf24 : A24.defers = [] := by rw [hA24]; simp only [df_put]; exact hdf21
      have l1_24 := lookE hA24 1 (es rfl (es rfl l1_21))
      have l3_24 := lookE hA24 3 (es rfl (es rfl l3_21))
      have l30_24 := lookE hA24 30 (et rfl)
      clear hA24 hsz21 hdf21 l1_21 l3_21 l4_21
      refine then_n (hK23 _ _ ?_)
      clear hK23
      refine cond_dec l30_24 (fun c25 => ?_) (fun c25 => ?_)
      · skip
        refine wp_seq_k (fun K26 hK26 => ?_)
        refine region_in ?_
        refine W_v rfl rfl (V_mov rfl l3_24) ?_
        refine W_v rfl rfl (V_lenS rfl (et rfl) (ow_at (hS20.chq 0 rfl hc_20)) Try.underlying23) ?_
        refine W_v rfl rfl (V_eql rfl (et rfl) rfl) ?_
        refine W_sure (c' := true) rfl rfl (V_mov rfl (et rfl)) (by rw [decide_eq_true_eq]; rw [lvT_e c25]; rfl) ?_
        refine W_call rfl (wanted_t rfl rfl (et rfl) (ez rfl)) rfl Try.func11 (by kernel_rfl) rfl (args0) (shown_c  ) ?_
        rintro _ w27 ⟨rfl, hP27⟩
        refine ⟨_, rfl, ?_⟩
        have hS27 := hS20.join hP27
        replace hS27 : St w NoX [c_20, c2] w27 := hS27
        refine W_v rfl rfl (V_pickT rfl (es rfl (et rfl)) (et rfl)) ?_
        refine W_v rfl rfl (V_asg rfl (et rfl)) ?_
        refine W_end ?_
        refine gen_Q (fun A28 hA28 => ?_)
        have hsz28 := szq hA28
        have hdf28 : A28.defers = [] := by rw [hA28]; simp only [df_put]; exact hdf24
        have l2_28 := lookE hA28 2 (et rfl)
        clear hA28 hsz24 hdf24 l1_24 l3_24 l30_24
        have hS29 : St w NoX [] w27 := hS27.sel [] (by decide) rfl
        refine then_n (hK26 _ _ ?_)
        clear hK26
        refine wp_ret ?_
        refine then_ret ?_
        refine ret_in (results_1 Try.results4 (rv_tmp l2_28)) hdf28 ?_
        -- leaf FFT
        exact ⟨rfl, hS29.fin0⟩
      · skip
        have hg := ckG_iff.1 (show (ckG (O.map ab) rs).2 = 0 by simpa using c25)
        have hll := lvT_len (O.map ab) rs
        refine wp_skip ?_
        refine then_n (hK22 _ _ ?_)
        clear hK22
        refine wp_seq_k (fun K30 hK30 => ?_)
        refine wp_seq_k (fun K31 hK31 => ?_)
        refine region_in ?_
        refine W_v rfl rfl (V_asg rfl rfl) ?_
        refine W_end ?_
        refine gen_Q (fun A32 hA32 => ?_)
        have hsz32 := szq hA32
        have hdf32 : A32.defers = [] := by rw [hA32]; simp only [df_put]; exact hdf24
        have l1_32 := lookE hA32 1 (es rfl l1_24)
        have l3_32 := lookE hA32 3 (es rfl l3_24)
        have l5_32 := lookE hA32 5 (et rfl)
        clear hA32 hsz24 hdf24 l1_24 l3_24 l30_24
        refine then_n (hK31 _ _ ?_)
        clear hK31
        refine wp_block ?_
        -- loop 7
        refine loopX (fun mz A' w' => SzN A' 219 ∧ A'.defers = [] ∧ (∃ (k : Nat), (mz = (lvT (O.map ab) rs).length - k) ∧ (k ≤ (lvT (O.map ab) rs).length) ∧ (EV A' (.tmp 5) = .int .i64 (k : Int)) ∧ (EV A' (.tmp 1) = EV A32 (.tmp 1)) ∧ (EV A' (.tmp 3) = EV A32 (.tmp 3)) ∧ (St w NoX [io .i64 v_20 (lvT (O.map ab) rs), bx g2 25 #[ov, rv]] w'))) ((lvT (O.map ab) rs).length - 0) ⟨hsz32, hdf32, 0, rfl, (by omega), ((l5_32).trans (by first | rfl | (simp; done) | (congr 1; omega))), rfl, rfl, (by subst hc_20 hc2; exact hS20)⟩ ?_
        clear hS20 hc_20 hc2
        rintro n33 A33 w33 ⟨hsz33, hdf33, k, hm33, hk, l5_33, u1_33, u3_33, hS33⟩
        have l1_33 := u1_33.trans l1_32
        have l3_33 := u3_33.trans l3_32
        obtain ⟨c_33, c2_33, hc_33, hc2_33, hS33⟩ := gen2 hS33
        refine wp_seq_k (fun K34 hK34 => ?_)
        refine wp_seq_k (fun K35 hK35 => ?_)
        refine region_in ?_
        refine W_v rfl rfl (V_mov rfl l5_33) ?_
        refine W_v rfl rfl (V_mov rfl (es rfl l3_33)) ?_
        refine W_v rfl rfl (V_lenS rfl (et rfl) (ow_at (hS33.chq 0 rfl hc_33)) Try.underlying23) ?_
        refine W_v rfl rfl (V_lss rfl (e2 rfl (et rfl)) (et rfl)) ?_
        refine W_end ?_
        refine gen_Q (fun A36 hA36 => ?_)
        have hsz36 := szq hA36
        have hdf36 : A36.defers = [] := by rw [hA36]; simp only [df_put]; exact hdf33
        have l1_36 := lookE hA36 1 (e3 rfl (es rfl l1_33))
        have l3_36 := lookE hA36 3 (e3 rfl (es rfl l3_33))
        have l5_36 := lookE hA36 5 (e3 rfl (es rfl l5_33))
        have l40_36 := lookE hA36 40 (et rfl)
        clear hA36 hsz33 hdf33 l5_33 l1_33 l3_33
        refine then_n (hK35 _ _ ?_)
        clear hK35
        refine cond_dec l40_36 (fun c37 => ?_) (fun c37 => ?_)
        · skip
          refine wp_skip ?_
          refine then_n (hK34 _ _ ?_)
          clear hK34
          refine wp_seq_k (fun K38 hK38 => ?_)
          refine wp_block ?_
          refine wp_seq_k (fun K39 hK39 => ?_)
          refine wp_seq_k (fun K40 hK40 => ?_)
          refine region_monoS 31 31 [] (by kernel_rfl) (by kernel_rfl) ?_
          refine D_v rfl rfl (V_mov rfl l3_36) rfl rfl ?_
          refine D_v rfl rfl (V_mov rfl (es rfl l5_36)) rfl rfl ?_
          have k41 : k < (lvT (O.map ab) rs).length := by first | omega | (simp only [List.length_cons, List.length_nil]; omega) | (simp only [List.length_set]; omega)
          obtain ⟨y41, hy41⟩ := get_some (xs := (lvT (O.map ab) rs)) (k := k) k41
          have hlr41 := lvT_rng (List.mem_of_getElem? hy41)
          rw [List.length_map] at hlr41
          have hlv41 := (lvT_mem hg).1 (List.mem_of_getElem? hy41)
          obtain ⟨B41, O41, C41, hv41⟩ := (SlN.blk (ow_at (hS33.chq 0 rfl hc_33)) (by first | omega | (simp only [List.length_cons, List.length_nil]; omega) | (simp only [List.length_set]; omega)))
          refine D_v rfl rfl (V_ixS (off := O41 + k) 1 (k) rfl (es rfl (et rfl)) (et rfl) hv41 (by omega) k41 Try.underlying23 (by kernel_rfl) (congrArg _ (Nat.mul_one _))) rfl rfl ?_
          refine D_r rfl rfl (by kernel_rfl) (fun sx hx hF => (VR_ldC rfl (et rfl) ((ow_at ((hS33.grow hx).chq 0 rfl hc_33)).cell hv41 (map_get hy41)) Try.underlying3 rfl)) rfl rfl ?_
          refine D_v rfl rfl (V_lss rfl (et rfl) rfl) rfl rfl ?_
          refine D_sure (c' := false) rfl rfl (V_mov rfl (et rfl)) (by rw [decide_eq_false_iff_not]; omega) rfl rfl ?_
          refine D_v rfl (wanted_t rfl rfl (et rfl) (ez rfl)) (V_mov rfl (e5 rfl (es rfl l3_36))) rfl rfl ?_
          refine D_v rfl (wanted_t rfl rfl (es rfl (et rfl)) (ez rfl)) (V_mov rfl (e6 rfl (es rfl l5_36))) rfl rfl ?_
          refine D_v rfl (wanted_t rfl rfl (e2 rfl (et rfl)) (ez rfl)) (V_ixS (off := O41 + k) 1 (k) rfl (es rfl (et rfl)) (et rfl) hv41 (by omega) k41 Try.underlying23 (by kernel_rfl) (congrArg _ (Nat.mul_one _))) rfl rfl ?_
          refine D_r rfl (wanted_t rfl rfl (e3 rfl (et rfl)) (ez rfl)) (by kernel_rfl) (fun sx hx hF => (VR_ldC rfl (et rfl) ((ow_at ((hS33.grow hx).chq 0 rfl hc_33)).cell hv41 (map_get hy41)) Try.underlying3 rfl)) rfl rfl ?_
          refine D_v rfl (wanted_t rfl rfl (e4 rfl (et rfl)) (ez rfl)) (V_fa (off' := 0) rfl (e9 rfl (es rfl l1_36)) Try.underlying25 rfl (by decide +kernel) rfl) rfl rfl ?_
          refine D_r rfl (wanted_t rfl rfl (e5 rfl (et rfl)) (ez rfl)) (by kernel_rfl) (fun sx hx hF => (VR_ldC rfl (et rfl) (cell_box (v := ov) ((hS33.grow hx).obj 1 rfl hc2_33) rfl) Try.underlying22 rfl)) rfl rfl ?_
          refine D_v rfl (wanted_t rfl rfl (e6 rfl (et rfl)) (ez rfl)) (V_lenS rfl (et rfl) (sl_SlN h_ov.at) Try.underlying22) rfl rfl ?_
          refine D_v rfl (wanted_t rfl rfl (e7 rfl (et rfl)) (ez rfl)) (V_gtr rfl (e3 rfl (et rfl)) (et rfl)) rfl rfl ?_
          refine D_v rfl rfl (V_pickF rfl (e8 rfl (et rfl)) (et rfl)) rfl rfl ?_
          refine D_sure (c' := false) rfl rfl (V_mov rfl (et rfl)) (by rw [decide_eq_false_iff_not]; omega) rfl rfl ?_
          refine D_v rfl (wanted_t rfl rfl (et rfl) (ez rfl)) (V_mov rfl (e15 rfl (es rfl l5_36))) rfl rfl ?_
          refine D_v rfl (wanted_t rfl rfl (es rfl (et rfl)) (ez rfl)) (V_gtr rfl (et rfl) rfl) rfl rfl ?_
          refine D_split rfl (wanted_t rfl rfl (e2 rfl (et rfl)) (ez rfl)) (V_mov rfl (et rfl)) rfl rfl (fun c43 => ?_) (fun c43 => ?_)
          · skip
            refine D_v rfl (wanted_t rfl rfl (et rfl) (ez rfl)) (V_mov rfl (e18 rfl (es rfl l3_36))) rfl rfl ?_
            refine D_v rfl (wanted_t rfl rfl (es rfl (et rfl)) (ez rfl)) (V_mov rfl (e19 rfl (es rfl l5_36))) rfl rfl ?_
            refine D_v rfl (wanted_t rfl rfl (e2 rfl (et rfl)) (ez rfl)) (V_ixS (off := O41 + k) 1 (k) rfl (es rfl (et rfl)) (et rfl) hv41 (by omega) k41 Try.underlying23 (by kernel_rfl) (congrArg _ (Nat.mul_one _))) rfl rfl ?_
            refine D_r rfl (wanted_t rfl rfl (e3 rfl (et rfl)) (ez rfl)) (by kernel_rfl) (fun sx hx hF => (VR_ldC rfl (et rfl) ((ow_at ((hS33.grow hx).chq 0 rfl hc_33)).cell hv41 (map_get hy41)) Try.underlying3 rfl)) rfl rfl ?_
            refine D_v rfl (wanted_t rfl rfl (e4 rfl (et rfl)) (ez rfl)) (V_mov rfl (e22 rfl (es rfl l3_36))) rfl rfl ?_
            refine D_v rfl (wanted_t rfl rfl (e5 rfl (et rfl)) (ez rfl)) (V_mov rfl (e23 rfl (es rfl l5_36))) rfl rfl ?_
            refine D_v rfl (wanted_t rfl rfl (e6 rfl (et rfl)) (ez rfl)) (V_sb rfl (et rfl) rfl (by omega) (by omega)) rfl rfl ?_
            have k45 : (k - 1) < (lvT (O.map ab) rs).length := by first | omega | (simp only [List.length_cons, List.length_nil]; omega) | (simp only [List.length_set]; omega)
            obtain ⟨y45, hy45⟩ := get_some (xs := (lvT (O.map ab) rs)) (k := (k - 1)) k45
            refine D_v rfl (wanted_t rfl rfl (e7 rfl (et rfl)) (ez rfl)) (V_ixS (off := O41 + (k - 1)) 1 ((k - 1)) rfl (e2 rfl (et rfl)) (et rfl) hv41 (by omega) k45 Try.underlying23 (by kernel_rfl) (congrArg _ (Nat.mul_one _))) rfl rfl ?_
            refine D_r rfl (wanted_t rfl rfl (e8 rfl (et rfl)) (ez rfl)) (by kernel_rfl) (fun sx hx hF => (VR_ldC rfl (et rfl) ((ow_at ((hS33.grow hx).chq 0 rfl hc_33)).cell hv41 (map_get hy45)) Try.underlying3 rfl)) rfl rfl ?_
            refine D_v rfl (wanted_t rfl rfl (e9 rfl (et rfl)) (ez rfl)) (V_leq rfl (e5 rfl (et rfl)) (et rfl)) rfl rfl ?_
            refine D_v rfl (wanted_t rfl rfl (e13 rfl (et rfl)) (ez rfl)) (V_pickT rfl (e10 rfl (et rfl)) (et rfl)) rfl rfl ?_
            refine D_v rfl rfl (V_pickF rfl (e14 rfl (et rfl)) (et rfl)) rfl rfl ?_
            refine ZS_none hS33 (Nat.le_refl _) (Nat.le_refl _) (fun s46 hJ46 hL46 hF46 => ?_)
            have hS46 := hJ46.st; clear hF46 hJ46 hL46
            generalize s46.1 = w46 at *
            replace hS46 : St w NoX [c_33, c2_33] w46 := hS46
            refine gen_Q (fun A47 hA47 => ?_)
            have hsz47 := szq hA47
            have hdf47 : A47.defers = [] := by rw [hA47]; simp only [df_put]; exact hdf36
            have l1_47 := lookE hA47 1 (e25 rfl (es rfl (es rfl (es rfl (es rfl (es rfl (es rfl l1_36)))))))
            have l3_47 := lookE hA47 3 (e25 rfl (es rfl (es rfl (es rfl (es rfl (es rfl (es rfl l3_36)))))))
            have l5_47 := lookE hA47 5 (e25 rfl (es rfl (es rfl (es rfl (es rfl (es rfl (es rfl l5_36)))))))
            have l49_47 := lookE hA47 49 (e24 rfl (et rfl))
            have l50_47 := lookE hA47 50 (e23 rfl (et rfl))
            have l51_47 := lookE hA47 51 (e22 rfl (et rfl))
            have l52_47 := lookE hA47 52 (e21 rfl (et rfl))
            have l53_47 := lookE hA47 53 (e20 rfl (et rfl))
            have l54_47 := lookE hA47 54 (e19 rfl (et rfl))
            have l55_47 := lookE hA47 55 (e18 rfl (et rfl))
            have l56_47 := lookE hA47 56 (e17 rfl (et rfl))
            have l59_47 := lookE hA47 59 (e14 rfl (et rfl))
            have l60_47 := lookE hA47 60 (e13 rfl (et rfl))
            have l61_47 := lookE hA47 61 (e12 rfl (et rfl))
            have l62_47 := lookE hA47 62 (e11 rfl (et rfl))
            have l63_47 := lookE hA47 63 (e10 rfl (et rfl))
            have l64_47 := lookE hA47 64 (e9 rfl (et rfl))
            have l65_47 := lookE hA47 65 (e8 rfl (et rfl))
            have l66_47 := lookE hA47 66 (e7 rfl (et rfl))
            have l67_47 := lookE hA47 67 (e6 rfl (et rfl))
            have l68_47 := lookE hA47 68 (e5 rfl (et rfl))
            have l69_47 := lookE hA47 69 (e4 rfl (et rfl))
            have l70_47 := lookE hA47 70 (e3 rfl (et rfl))
            have l71_47 := lookE hA47 71 (e2 rfl (et rfl))
            have l72_47 := lookE hA47 72 (es rfl (et rfl))
            have l73_47 := lookE hA47 73 (et rfl)
            clear hA47 hsz36 hdf36 l1_36 l3_36 l5_36 l40_36
            refine then_n (hK40 _ _ ?_)
            clear hK40
            refine cond_not l73_47 (by rw [decide_eq_false_iff_not]; have q := lvT_up hg (by omega) hy41 hy45; omega) ?_
            refine wp_skip ?_
            refine then_n (hK39 _ _ ?_)
            clear hK39
            refine wp_seq_k (fun K48 hK48 => ?_)
            refine region_monoS 11 11 [] (by kernel_rfl) (by kernel_rfl) ?_
            refine D_v rfl rfl (V_fa (off' := 0) rfl l1_47 Try.underlying25 rfl (by decide +kernel) rfl) rfl rfl ?_
            refine D_r rfl rfl (by kernel_rfl) (fun sx hx hF => (VR_ldC rfl (et rfl) (cell_box (v := ov) ((hS46.grow hx).obj 1 rfl hc2_33) rfl) Try.underlying22 rfl)) rfl rfl ?_
            refine D_v rfl rfl (V_mov rfl (es rfl (es rfl l3_47))) rfl rfl ?_
            refine D_v rfl rfl (V_mov rfl (e2 rfl (es rfl l5_47))) rfl rfl ?_
            refine D_v rfl rfl (V_ixS (off := O41 + k) 1 (k) rfl (es rfl (et rfl)) (et rfl) hv41 (by omega) k41 Try.underlying23 (by kernel_rfl) (congrArg _ (Nat.mul_one _))) rfl rfl ?_
            refine D_r rfl rfl (by kernel_rfl) (fun sx hx hF => (VR_ldC rfl (et rfl) ((ow_at ((hS46.grow hx).chq 0 rfl hc_33)).cell hv41 (map_get hy41)) Try.underlying3 rfl)) rfl rfl ?_
            refine D_v rfl rfl (V_sb rfl (et rfl) rfl (by omega) (by omega)) rfl rfl ?_
            have k50 : (y41 - 1).toNat < O.length := by first | omega | (simp only [List.length_cons, List.length_nil]; omega) | (simp only [List.length_set]; omega)
            obtain ⟨y50, hy50⟩ := get_some (xs := O) (k := (y41 - 1).toNat) k50
            have hpt50 := pt_at hy50
            obtain ⟨B50, O50, C50, hv50⟩ := (SlN.blk (sl_SlN h_ov.at) (by first | omega | (simp only [List.length_cons, List.length_nil]; omega) | (simp only [List.length_set]; omega)))
            refine D_v rfl rfl (V_ixS (off := O50 + ((y41 - 1).toNat) * 2) 2 ((y41 - 1).toNat) rfl (e5 rfl (et rfl)) (et rfl) hv50 (by omega) k50 Try.underlying22 (by kernel_rfl) rfl) rfl rfl ?_
            refine D_v rfl rfl (V_fa (off' := O50 + ((y41 - 1).toNat) * 2 + 0) rfl (et rfl) Try.underlying40 rfl (by decide +kernel) rfl) rfl rfl ?_
            have fn51 : Ro w NoX (il .i64 y50.1.1 y50.1.2) := nst_ro1 n_ov hy50
            have bfn51 := SlN.le (sl_SlN (hS46.ro fn51))
            have fn52 : Ro w NoX (il .u64 y50.2.1 y50.2.2) := nst_ro2 n_ov hy50
            have bfn52 := SlN.le (sl_SlN (hS46.ro fn52))
            refine D_r rfl rfl (by kernel_rfl) (fun sx hx hF => (VR_ldC (v := y50.1.1) rfl (et rfl) (SlN.row obC_len (sl_SlN ((hS46.grow hx).ro h_ov)) hv50 hy50 rfl 0 _ rfl) Try.underlying23 rfl)) rfl rfl ?_
            refine D_v rfl rfl (V_asg rfl (et rfl)) rfl rfl ?_
            refine ZS_none hS46 (Nat.le_refl _) (Nat.le_refl _) (fun s53 hJ53 hL53 hF53 => ?_)
            have hS53 := hJ53.st; clear hF53 hJ53 hL53
            generalize s53.1 = w53 at *
            replace hS53 : St w NoX [c_33, c2_33] w53 := hS53
            refine gen_Q (fun A54 hA54 => ?_)
            have hsz54 := szq hA54
            have hdf54 : A54.defers = [] := by rw [hA54]; simp only [df_put]; exact hdf47
            have l1_54 := lookE hA54 1 (e10 rfl (es rfl l1_47))
            have l3_54 := lookE hA54 3 (e10 rfl (es rfl l3_47))
            have l5_54 := lookE hA54 5 (e10 rfl (es rfl l5_47))
            have l6_54 := lookE hA54 6 (et rfl)
            have l49_54 := lookE hA54 49 (e10 rfl (es rfl l49_47))
            have l50_54 := lookE hA54 50 (e10 rfl (es rfl l50_47))
            have l51_54 := lookE hA54 51 (e10 rfl (es rfl l51_47))
            have l52_54 := lookE hA54 52 (e10 rfl (es rfl l52_47))
            have l53_54 := lookE hA54 53 (e10 rfl (es rfl l53_47))
            have l54_54 := lookE hA54 54 (e10 rfl (es rfl l54_47))
            have l55_54 := lookE hA54 55 (e10 rfl (es rfl l55_47))
            have l56_54 := lookE hA54 56 (e10 rfl (es rfl l56_47))
            have l59_54 := lookE hA54 59 (e10 rfl (es rfl l59_47))
            have l60_54 := lookE hA54 60 (e10 rfl (es rfl l60_47))
            have l61_54 := lookE hA54 61 (e10 rfl (es rfl l61_47))
            have l62_54 := lookE hA54 62 (e10 rfl (es rfl l62_47))
            have l63_54 := lookE hA54 63 (e10 rfl (es rfl l63_47))
            have l64_54 := lookE hA54 64 (e10 rfl (es rfl l64_47))
            have l65_54 := lookE hA54 65 (e10 rfl (es rfl l65_47))
            have l66_54 := lookE hA54 66 (e10 rfl (es rfl l66_47))
            have l67_54 := lookE hA54 67 (e10 rfl (es rfl l67_47))
            have l68_54 := lookE hA54 68 (e10 rfl (es rfl l68_47))
            have l69_54 := lookE hA54 69 (e10 rfl (es rfl l69_47))
            have l70_54 := lookE hA54 70 (e10 rfl (es rfl l70_47))
            have l71_54 := lookE hA54 71 (e10 rfl (es rfl l71_47))
            have l72_54 := lookE hA54 72 (e10 rfl (es rfl l72_47))
            clear hA54 hsz47 hdf47 l1_47 l3_47 l5_47 l49_47 l50_47 l51_47 l52_47 l53_47 l54_47 l55_47 l56_47 l59_47 l60_47 l61_47 l62_47 l63_47 l64_47 l65_47 l66_47 l67_47 l68_47 l69_47 l70_47 l71_47 l72_47 l73_47
            refine then_n (hK48 _ _ ?_)
            clear hK48
            refine wp_seq_k (fun K55 hK55 => ?_)
            refine region_in ?_
            refine W_v rfl rfl (V_asg rfl rfl) ?_
            refine W_end ?_
            refine gen_Q (fun A56 hA56 => ?_)
            have hsz56 := szq hA56
            have hdf56 : A56.defers = [] := by rw [hA56]; simp only [df_put]; exact hdf54
            have l1_56 := lookE hA56 1 (es rfl l1_54)
            have l3_56 := lookE hA56 3 (es rfl l3_54)
            have l5_56 := lookE hA56 5 (es rfl l5_54)
            have l6_56 := lookE hA56 6 (es rfl l6_54)
            have l7_56 := lookE hA56 7 (et rfl)
            have l49_56 := lookE hA56 49 (es rfl l49_54)
            have l50_56 := lookE hA56 50 (es rfl l50_54)
            have l51_56 := lookE hA56 51 (es rfl l51_54)
            have l52_56 := lookE hA56 52 (es rfl l52_54)
            have l53_56 := lookE hA56 53 (es rfl l53_54)
            have l54_56 := lookE hA56 54 (es rfl l54_54)
            have l55_56 := lookE hA56 55 (es rfl l55_54)
            have l56_56 := lookE hA56 56 (es rfl l56_54)
            have l59_56 := lookE hA56 59 (es rfl l59_54)
            have l60_56 := lookE hA56 60 (es rfl l60_54)
            have l61_56 := lookE hA56 61 (es rfl l61_54)
            have l62_56 := lookE hA56 62 (es rfl l62_54)
            have l63_56 := lookE hA56 63 (es rfl l63_54)
            have l64_56 := lookE hA56 64 (es rfl l64_54)
            have l65_56 := lookE hA56 65 (es rfl l65_54)
            have l66_56 := lookE hA56 66 (es rfl l66_54)
            have l67_56 := lookE hA56 67 (es rfl l67_54)
            have l68_56 := lookE hA56 68 (es rfl l68_54)
            have l69_56 := lookE hA56 69 (es rfl l69_54)
            have l70_56 := lookE hA56 70 (es rfl l70_54)
            have l71_56 := lookE hA56 71 (es rfl l71_54)
            have l72_56 := lookE hA56 72 (es rfl l72_54)
            clear hA56 hsz54 hdf54 l1_54 l3_54 l5_54 l6_54 l49_54 l50_54 l51_54 l52_54 l53_54 l54_54 l55_54 l56_54 l59_54 l60_54 l61_54 l62_54 l63_54 l64_54 l65_54 l66_54 l67_54 l68_54 l69_54 l70_54 l71_54 l72_54
            refine then_n (hK55 _ _ ?_)
            clear hK55
            refine wp_block ?_
            -- loop 13
            refine loopX (fun mz A' w' => SzN A' 219 ∧ A'.defers = [] ∧ (∃ (m : Nat), (mz = y50.1.2.length - m) ∧ (m ≤ y50.1.2.length) ∧ (EV A' (.tmp 7) = .int .i64 (m : Int)) ∧ (EV A' (.tmp 1) = EV A56 (.tmp 1)) ∧ (EV A' (.tmp 3) = EV A56 (.tmp 3)) ∧ (EV A' (.tmp 5) = EV A56 (.tmp 5)) ∧ (EV A' (.tmp 6) = EV A56 (.tmp 6)) ∧ (EV A' (.tmp 49) = EV A56 (.tmp 49)) ∧ (EV A' (.tmp 50) = EV A56 (.tmp 50)) ∧ (EV A' (.tmp 51) = EV A56 (.tmp 51)) ∧ (EV A' (.tmp 52) = EV A56 (.tmp 52)) ∧ (EV A' (.tmp 53) = EV A56 (.tmp 53)) ∧ (EV A' (.tmp 54) = EV A56 (.tmp 54)) ∧ (EV A' (.tmp 55) = EV A56 (.tmp 55)) ∧ (EV A' (.tmp 56) = EV A56 (.tmp 56)) ∧ (EV A' (.tmp 59) = EV A56 (.tmp 59)) ∧ (EV A' (.tmp 60) = EV A56 (.tmp 60)) ∧ (EV A' (.tmp 61) = EV A56 (.tmp 61)) ∧ (EV A' (.tmp 62) = EV A56 (.tmp 62)) ∧ (EV A' (.tmp 63) = EV A56 (.tmp 63)) ∧ (EV A' (.tmp 64) = EV A56 (.tmp 64)) ∧ (EV A' (.tmp 65) = EV A56 (.tmp 65)) ∧ (EV A' (.tmp 66) = EV A56 (.tmp 66)) ∧ (EV A' (.tmp 67) = EV A56 (.tmp 67)) ∧ (EV A' (.tmp 68) = EV A56 (.tmp 68)) ∧ (EV A' (.tmp 69) = EV A56 (.tmp 69)) ∧ (EV A' (.tmp 70) = EV A56 (.tmp 70)) ∧ (EV A' (.tmp 71) = EV A56 (.tmp 71)) ∧ (EV A' (.tmp 72) = EV A56 (.tmp 72)) ∧ (St w NoX [io .i64 v_20 (lvT (O.map ab) rs), bx g2 25 #[ov, rv]] w'))) (y50.1.2.length - 0) ⟨hsz56, hdf56, 0, rfl, (by omega), ((l7_56).trans (by first | rfl | (simp; done) | (congr 1; omega))), rfl, rfl, rfl, rfl, rfl, rfl, rfl, rfl, rfl, rfl, rfl, rfl, rfl, rfl, rfl, rfl, rfl, rfl, rfl, rfl, rfl, rfl, rfl, rfl, rfl, rfl, (by subst hc_33 hc2_33; exact hS53)⟩ ?_
            clear hS53 hc_33 hc2_33
            rintro n57 A57 w57 ⟨hsz57, hdf57, m, hm57, hm, l7_57, u1_57, u3_57, u5_57, u6_57, u49_57, u50_57, u51_57, u52_57, u53_57, u54_57, u55_57, u56_57, u59_57, u60_57, u61_57, u62_57, u63_57, u64_57, u65_57, u66_57, u67_57, u68_57, u69_57, u70_57, u71_57, u72_57, hS57⟩
            have l1_57 := u1_57.trans l1_56
            have l3_57 := u3_57.trans l3_56
            have l5_57 := u5_57.trans l5_56
            have l6_57 := u6_57.trans l6_56
            have l49_57 := u49_57.trans l49_56
            have l50_57 := u50_57.trans l50_56
            have l51_57 := u51_57.trans l51_56
            have l52_57 := u52_57.trans l52_56
            have l53_57 := u53_57.trans l53_56
            have l54_57 := u54_57.trans l54_56
            have l55_57 := u55_57.trans l55_56
            have l56_57 := u56_57.trans l56_56
            have l59_57 := u59_57.trans l59_56
            have l60_57 := u60_57.trans l60_56
            have l61_57 := u61_57.trans l61_56
            have l62_57 := u62_57.trans l62_56
            have l63_57 := u63_57.trans l63_56
            have l64_57 := u64_57.trans l64_56
            have l65_57 := u65_57.trans l65_56
            have l66_57 := u66_57.trans l66_56
            have l67_57 := u67_57.trans l67_56
            have l68_57 := u68_57.trans l68_56
            have l69_57 := u69_57.trans l69_56
            have l70_57 := u70_57.trans l70_56
            have l71_57 := u71_57.trans l71_56
            have l72_57 := u72_57.trans l72_56
            obtain ⟨c_57, c2_57, hc_57, hc2_57, hS57⟩ := gen2 hS57
            refine wp_seq_k (fun K58 hK58 => ?_)
            refine wp_seq_k (fun K59 hK59 => ?_)
            refine region_in ?_
            refine W_v rfl rfl (V_mov rfl l7_57) ?_
            refine W_v rfl rfl (V_mov rfl (es rfl l6_57)) ?_
            refine W_v rfl rfl (V_lenS rfl (et rfl) (sl_SlN fn51.at) Try.underlying23) ?_
            refine W_v rfl rfl (V_lss rfl (e2 rfl (et rfl)) (et rfl)) ?_
            refine W_end ?_
            refine gen_Q (fun A60 hA60 => ?_)
            have hsz60 := szq hA60
            have hdf60 : A60.defers = [] := by rw [hA60]; simp only [df_put]; exact hdf57
            have l1_60 := lookE hA60 1 (e3 rfl (es rfl l1_57))
            have l3_60 := lookE hA60 3 (e3 rfl (es rfl l3_57))
            have l5_60 := lookE hA60 5 (e3 rfl (es rfl l5_57))
            have l6_60 := lookE hA60 6 (e3 rfl (es rfl l6_57))
            have l7_60 := lookE hA60 7 (e3 rfl (es rfl l7_57))
            have l49_60 := lookE hA60 49 (e3 rfl (es rfl l49_57))
            have l50_60 := lookE hA60 50 (e3 rfl (es rfl l50_57))
            have l51_60 := lookE hA60 51 (e3 rfl (es rfl l51_57))
            have l52_60 := lookE hA60 52 (e3 rfl (es rfl l52_57))
            have l53_60 := lookE hA60 53 (e3 rfl (es rfl l53_57))
            have l54_60 := lookE hA60 54 (e3 rfl (es rfl l54_57))
            have l55_60 := lookE hA60 55 (e3 rfl (es rfl l55_57))
            have l56_60 := lookE hA60 56 (e3 rfl (es rfl l56_57))
            have l59_60 := lookE hA60 59 (e3 rfl (es rfl l59_57))
            have l60_60 := lookE hA60 60 (e3 rfl (es rfl l60_57))
            have l61_60 := lookE hA60 61 (e3 rfl (es rfl l61_57))
            have l62_60 := lookE hA60 62 (e3 rfl (es rfl l62_57))
            have l63_60 := lookE hA60 63 (e3 rfl (es rfl l63_57))
            have l64_60 := lookE hA60 64 (e3 rfl (es rfl l64_57))
            have l65_60 := lookE hA60 65 (e3 rfl (es rfl l65_57))
            have l66_60 := lookE hA60 66 (e3 rfl (es rfl l66_57))
            have l67_60 := lookE hA60 67 (e3 rfl (es rfl l67_57))
            have l68_60 := lookE hA60 68 (e3 rfl (es rfl l68_57))
            have l69_60 := lookE hA60 69 (e3 rfl (es rfl l69_57))
            have l70_60 := lookE hA60 70 (e3 rfl (es rfl l70_57))
            have l71_60 := lookE hA60 71 (e3 rfl (es rfl l71_57))
            have l72_60 := lookE hA60 72 (e3 rfl (es rfl l72_57))
            have l87_60 := lookE hA60 87 (et rfl)
            clear hA60 hsz57 hdf57 l7_57 l1_57 l3_57 l5_57 l6_57 l49_57 l50_57 l51_57 l52_57 l53_57 l54_57 l55_57 l56_57 l59_57 l60_57 l61_57 l62_57 l63_57 l64_57 l65_57 l66_57 l67_57 l68_57 l69_57 l70_57 l71_57 l72_57
            refine then_n (hK59 _ _ ?_)
            clear hK59
            refine cond_dec l87_60 (fun c61 => ?_) (fun c61 => ?_)
            · skip
              refine wp_skip ?_
              refine then_n (hK58 _ _ ?_)
              clear hK58
              refine wp_seq_k (fun K62 hK62 => ?_)
              refine wp_block ?_
              refine wp_seq_k (fun K63 hK63 => ?_)
              refine region_in ?_
              refine W_v rfl rfl (V_mov rfl l6_60) ?_
              refine W_v rfl rfl (V_mov rfl (es rfl l7_60)) ?_
              have k64 : m < y50.1.2.length := by first | omega | (simp only [List.length_cons, List.length_nil]; omega) | (simp only [List.length_set]; omega)
              obtain ⟨y64, hy64⟩ := get_some (xs := y50.1.2) (k := m) k64
              have hpp64 : y64 ∈ pt (O.map ab) y41 := by rw [hpt50]; exact List.mem_of_getElem? hy64
              obtain ⟨B64, O64, C64, hv64⟩ := (SlN.blk (sl_SlN fn51.at) (by first | omega | (simp only [List.length_cons, List.length_nil]; omega) | (simp only [List.length_set]; omega)))
              refine W_v rfl rfl (V_ixS (off := O64 + m) 1 (m) rfl (es rfl (et rfl)) (et rfl) hv64 (by omega) k64 Try.underlying23 (by kernel_rfl) (congrArg _ (Nat.mul_one _))) ?_
              refine W_r rfl rfl (VR_ldC rfl (et rfl) ((sl_SlN (hS57.ro fn51)).cell hv64 (map_get hy64)) Try.underlying3 rfl) ?_
              refine W_v rfl rfl (V_neq rfl (et rfl) rfl) ?_
              refine W_split rfl rfl (V_mov rfl (et rfl)) (fun c65 => ?_) (fun c65 => ?_)
              · skip
                refine W_v rfl (wanted_t rfl rfl (et rfl) (ez rfl)) (V_mov rfl (e5 rfl (es rfl l3_60))) ?_
                refine W_v rfl (wanted_t rfl rfl (es rfl (et rfl)) (ez rfl)) (V_mov rfl (e6 rfl (es rfl l6_60))) ?_
                refine W_v rfl (wanted_t rfl rfl (e2 rfl (et rfl)) (ez rfl)) (V_mov rfl (e7 rfl (es rfl l7_60))) ?_
                refine W_v rfl (wanted_t rfl rfl (e3 rfl (et rfl)) (ez rfl)) (V_ixS (off := O64 + m) 1 (m) rfl (es rfl (et rfl)) (et rfl) hv64 (by omega) k64 Try.underlying23 (by kernel_rfl) (congrArg _ (Nat.mul_one _))) ?_
                refine W_r rfl (wanted_t rfl rfl (e4 rfl (et rfl)) (ez rfl)) (VR_ldC rfl (et rfl) ((sl_SlN (hS57.ro fn51)).cell hv64 (map_get hy64)) Try.underlying3 rfl) ?_
                refine W_call rfl (wanted_t rfl rfl (e5 rfl (et rfl)) (ez rfl)) rfl Try.func22 (by kernel_rfl) rfl (args2 (e4 rfl (et rfl)) (et rfl)) (has_c (x := y64) (hS57.chC 0 rfl hc_57).own ) ?_
                rintro _ w67 ⟨rfl, hP67⟩
                refine ⟨_, rfl, ?_⟩
                have hS67 := hS57.join hP67
                replace hS67 : St w NoX [c_57, c2_57] w67 := hS67
                refine W_v rfl (wanted_t rfl rfl (e6 rfl (et rfl)) (ez rfl)) (V_notd rfl (et rfl)) ?_
                refine W_v rfl rfl (V_pickT rfl (e7 rfl (et rfl)) (et rfl)) ?_
                refine W_end ?_
                refine gen_Q (fun A68 hA68 => ?_)
                have hsz68 := szq hA68
                have hdf68 : A68.defers = [] := by rw [hA68]; simp only [df_put]; exact hdf60
                have l1_68 := lookE hA68 1 (e13 rfl (es rfl l1_60))
                have l3_68 := lookE hA68 3 (e13 rfl (es rfl l3_60))
                have l5_68 := lookE hA68 5 (e13 rfl (es rfl l5_60))
                have l6_68 := lookE hA68 6 (e13 rfl (es rfl l6_60))
                have l7_68 := lookE hA68 7 (e13 rfl (es rfl l7_60))
                have l49_68 := lookE hA68 49 (e13 rfl (es rfl l49_60))
                have l50_68 := lookE hA68 50 (e13 rfl (es rfl l50_60))
                have l51_68 := lookE hA68 51 (e13 rfl (es rfl l51_60))
                have l52_68 := lookE hA68 52 (e13 rfl (es rfl l52_60))
                have l53_68 := lookE hA68 53 (e13 rfl (es rfl l53_60))
                have l54_68 := lookE hA68 54 (e13 rfl (es rfl l54_60))
                have l55_68 := lookE hA68 55 (e13 rfl (es rfl l55_60))
                have l56_68 := lookE hA68 56 (e13 rfl (es rfl l56_60))
                have l59_68 := lookE hA68 59 (e13 rfl (es rfl l59_60))
                have l60_68 := lookE hA68 60 (e13 rfl (es rfl l60_60))
                have l61_68 := lookE hA68 61 (e13 rfl (es rfl l61_60))
                have l62_68 := lookE hA68 62 (e13 rfl (es rfl l62_60))
                have l63_68 := lookE hA68 63 (e13 rfl (es rfl l63_60))
                have l64_68 := lookE hA68 64 (e13 rfl (es rfl l64_60))
                have l65_68 := lookE hA68 65 (e13 rfl (es rfl l65_60))
                have l66_68 := lookE hA68 66 (e13 rfl (es rfl l66_60))
                have l67_68 := lookE hA68 67 (e13 rfl (es rfl l67_60))
                have l68_68 := lookE hA68 68 (e13 rfl (es rfl l68_60))
                have l69_68 := lookE hA68 69 (e13 rfl (es rfl l69_60))
                have l70_68 := lookE hA68 70 (e13 rfl (es rfl l70_60))
                have l71_68 := lookE hA68 71 (e13 rfl (es rfl l71_60))
                have l72_68 := lookE hA68 72 (e13 rfl (es rfl l72_60))
                have l96_68 := lookE hA68 96 (e7 rfl (et rfl))
                have l97_68 := lookE hA68 97 (e6 rfl (et rfl))
                have l98_68 := lookE hA68 98 (e5 rfl (et rfl))
                have l99_68 := lookE hA68 99 (e4 rfl (et rfl))
                have l100_68 := lookE hA68 100 (e3 rfl (et rfl))
                have l101_68 := lookE hA68 101 (e2 rfl (et rfl))
                have l102_68 := lookE hA68 102 (es rfl (et rfl))
                have l103_68 := lookE hA68 103 (et rfl)
                clear hA68 hsz60 hdf60 l1_60 l3_60 l5_60 l6_60 l7_60 l49_60 l50_60 l51_60 l52_60 l53_60 l54_60 l55_60 l56_60 l59_60 l60_60 l61_60 l62_60 l63_60 l64_60 l65_60 l66_60 l67_60 l68_60 l69_60 l70_60 l71_60 l72_60 l87_60
                refine then_n (hK63 _ _ ?_)
                clear hK63
                refine cond_not l103_68 (by rw [decide_eq_false_iff_not]; exact fun q => q ((lvT_mem hg).2 (.ptr hlv41 hpp64 (fun e => c65 e)))) ?_
                refine wp_skip ?_
                refine inb_n ?_
                refine then_n (hK62 _ _ ?_)
                clear hK62
                refine region_in ?_
                refine W_v rfl rfl (V_mov rfl l7_68) ?_
                refine W_v rfl rfl (V_add rfl (et rfl) rfl (by omega) (by omega)) ?_
                refine W_v rfl rfl (V_asg rfl (et rfl)) ?_
                refine W_end ?_
                refine gen_Q (fun A69 hA69 => ?_)
                have hsz69 := szq hA69
                have hdf69 : A69.defers = [] := by rw [hA69]; simp only [df_put]; exact hdf68
                have l1_69 := lookE hA69 1 (e2 rfl (es rfl l1_68))
                have l3_69 := lookE hA69 3 (e2 rfl (es rfl l3_68))
                have l5_69 := lookE hA69 5 (e2 rfl (es rfl l5_68))
                have l6_69 := lookE hA69 6 (e2 rfl (es rfl l6_68))
                have l7_69 := lookE hA69 7 (et rfl)
                have l49_69 := lookE hA69 49 (e2 rfl (es rfl l49_68))
                have l50_69 := lookE hA69 50 (e2 rfl (es rfl l50_68))
                have l51_69 := lookE hA69 51 (e2 rfl (es rfl l51_68))
                have l52_69 := lookE hA69 52 (e2 rfl (es rfl l52_68))
                have l53_69 := lookE hA69 53 (e2 rfl (es rfl l53_68))
                have l54_69 := lookE hA69 54 (e2 rfl (es rfl l54_68))
                have l55_69 := lookE hA69 55 (e2 rfl (es rfl l55_68))
                have l56_69 := lookE hA69 56 (e2 rfl (es rfl l56_68))
                have l59_69 := lookE hA69 59 (e2 rfl (es rfl l59_68))
                have l60_69 := lookE hA69 60 (e2 rfl (es rfl l60_68))
                have l61_69 := lookE hA69 61 (e2 rfl (es rfl l61_68))
                have l62_69 := lookE hA69 62 (e2 rfl (es rfl l62_68))
                have l63_69 := lookE hA69 63 (e2 rfl (es rfl l63_68))
                have l64_69 := lookE hA69 64 (e2 rfl (es rfl l64_68))
                have l65_69 := lookE hA69 65 (e2 rfl (es rfl l65_68))
                have l66_69 := lookE hA69 66 (e2 rfl (es rfl l66_68))
                have l67_69 := lookE hA69 67 (e2 rfl (es rfl l67_68))
                have l68_69 := lookE hA69 68 (e2 rfl (es rfl l68_68))
                have l69_69 := lookE hA69 69 (e2 rfl (es rfl l69_68))
                have l70_69 := lookE hA69 70 (e2 rfl (es rfl l70_68))
                have l71_69 := lookE hA69 71 (e2 rfl (es rfl l71_68))
                have l72_69 := lookE hA69 72 (e2 rfl (es rfl l72_68))
                have l96_69 := lookE hA69 96 (e2 rfl (es rfl l96_68))
                have l97_69 := lookE hA69 97 (e2 rfl (es rfl l97_68))
                have l98_69 := lookE hA69 98 (e2 rfl (es rfl l98_68))
                have l99_69 := lookE hA69 99 (e2 rfl (es rfl l99_68))
                have l100_69 := lookE hA69 100 (e2 rfl (es rfl l100_68))
                have l101_69 := lookE hA69 101 (e2 rfl (es rfl l101_68))
                have l102_69 := lookE hA69 102 (e2 rfl (es rfl l102_68))
                clear hA69 hsz68 hdf68 l1_68 l3_68 l5_68 l6_68 l7_68 l49_68 l50_68 l51_68 l52_68 l53_68 l54_68 l55_68 l56_68 l59_68 l60_68 l61_68 l62_68 l63_68 l64_68 l65_68 l66_68 l67_68 l68_68 l69_68 l70_68 l71_68 l72_68 l96_68 l97_68 l98_68 l99_68 l100_68 l101_68 l102_68 l103_68
                refine then_n ⟨y50.1.2.length - (m + 1), by simp only [hm57]; omega, hsz69, hdf69, (m + 1), rfl, (by omega), ((l7_69).trans (by first | rfl | (simp; done) | (congr 1; omega))), ((l1_69).trans l1_56.symm), ((l3_69).trans l3_56.symm), ((l5_69).trans l5_56.symm), ((l6_69).trans l6_56.symm), ((l49_69).trans l49_56.symm), ((l50_69).trans l50_56.symm), ((l51_69).trans l51_56.symm), ((l52_69).trans l52_56.symm), ((l53_69).trans l53_56.symm), ((l54_69).trans l54_56.symm), ((l55_69).trans l55_56.symm), ((l56_69).trans l56_56.symm), ((l59_69).trans l59_56.symm), ((l60_69).trans l60_56.symm), ((l61_69).trans l61_56.symm), ((l62_69).trans l62_56.symm), ((l63_69).trans l63_56.symm), ((l64_69).trans l64_56.symm), ((l65_69).trans l65_56.symm), ((l66_69).trans l66_56.symm), ((l67_69).trans l67_56.symm), ((l68_69).trans l68_56.symm), ((l69_69).trans l69_56.symm), ((l70_69).trans l70_56.symm), ((l71_69).trans l71_56.symm), ((l72_69).trans l72_56.symm), (by subst hc_57 hc2_57; exact hS67)⟩
              · skip
                refine W_off rfl (wanted_f rfl rfl (et rfl) (ez rfl) rfl) ?_
                refine W_off rfl (wanted_f rfl rfl (es rfl (et rfl)) (ez rfl) rfl) ?_
                refine W_off rfl (wanted_f rfl rfl (e2 rfl (et rfl)) (ez rfl) rfl) ?_
                refine W_off rfl (wanted_f rfl rfl (e3 rfl (et rfl)) (ez rfl) rfl) ?_
                refine W_off rfl (wanted_f rfl rfl (e4 rfl (et rfl)) (ez rfl) rfl) ?_
                refine W_off rfl (wanted_f rfl rfl (e5 rfl (et rfl)) (ez rfl) rfl) ?_
                refine W_off rfl (wanted_f rfl rfl (e6 rfl (et rfl)) (ez rfl) rfl) ?_
                refine W_v rfl rfl (V_pickF rfl (e7 rfl (et rfl)) rfl) ?_
                refine W_end ?_
                refine gen_Q (fun A70 hA70 => ?_)
                have hsz70 := szq hA70
                have hdf70 : A70.defers = [] := by rw [hA70]; simp only [df_put]; exact hdf60
                have l1_70 := lookE hA70 1 (e13 rfl (es rfl l1_60))
                have l3_70 := lookE hA70 3 (e13 rfl (es rfl l3_60))
                have l5_70 := lookE hA70 5 (e13 rfl (es rfl l5_60))
                have l6_70 := lookE hA70 6 (e13 rfl (es rfl l6_60))
                have l7_70 := lookE hA70 7 (e13 rfl (es rfl l7_60))
                have l49_70 := lookE hA70 49 (e13 rfl (es rfl l49_60))
                have l50_70 := lookE hA70 50 (e13 rfl (es rfl l50_60))
                have l51_70 := lookE hA70 51 (e13 rfl (es rfl l51_60))
                have l52_70 := lookE hA70 52 (e13 rfl (es rfl l52_60))
                have l53_70 := lookE hA70 53 (e13 rfl (es rfl l53_60))
                have l54_70 := lookE hA70 54 (e13 rfl (es rfl l54_60))
                have l55_70 := lookE hA70 55 (e13 rfl (es rfl l55_60))
                have l56_70 := lookE hA70 56 (e13 rfl (es rfl l56_60))
                have l59_70 := lookE hA70 59 (e13 rfl (es rfl l59_60))
                have l60_70 := lookE hA70 60 (e13 rfl (es rfl l60_60))
                have l61_70 := lookE hA70 61 (e13 rfl (es rfl l61_60))
                have l62_70 := lookE hA70 62 (e13 rfl (es rfl l62_60))
                have l63_70 := lookE hA70 63 (e13 rfl (es rfl l63_60))
                have l64_70 := lookE hA70 64 (e13 rfl (es rfl l64_60))
                have l65_70 := lookE hA70 65 (e13 rfl (es rfl l65_60))
                have l66_70 := lookE hA70 66 (e13 rfl (es rfl l66_60))
                have l67_70 := lookE hA70 67 (e13 rfl (es rfl l67_60))
                have l68_70 := lookE hA70 68 (e13 rfl (es rfl l68_60))
                have l69_70 := lookE hA70 69 (e13 rfl (es rfl l69_60))
                have l70_70 := lookE hA70 70 (e13 rfl (es rfl l70_60))
                have l71_70 := lookE hA70 71 (e13 rfl (es rfl l71_60))
                have l72_70 := lookE hA70 72 (e13 rfl (es rfl l72_60))
                have l96_70 := lookE hA70 96 (e7 rfl (et rfl))
                have l97_70 := lookE hA70 97 (e6 rfl (et rfl))
                have l98_70 := lookE hA70 98 (e5 rfl (et rfl))
                have l99_70 := lookE hA70 99 (e4 rfl (et rfl))
                have l100_70 := lookE hA70 100 (e3 rfl (et rfl))
                have l101_70 := lookE hA70 101 (e2 rfl (et rfl))
                have l102_70 := lookE hA70 102 (es rfl (et rfl))
                have l103_70 := lookE hA70 103 (et rfl)
                clear hA70 hsz60 hdf60 l1_60 l3_60 l5_60 l6_60 l7_60 l49_60 l50_60 l51_60 l52_60 l53_60 l54_60 l55_60 l56_60 l59_60 l60_60 l61_60 l62_60 l63_60 l64_60 l65_60 l66_60 l67_60 l68_60 l69_60 l70_60 l71_60 l72_60 l87_60
                refine then_n (hK63 _ _ ?_)
                clear hK63
                refine cond_f l103_70 ?_
                refine wp_skip ?_
                refine inb_n ?_
                refine then_n (hK62 _ _ ?_)
                clear hK62
                refine region_in ?_
                refine W_v rfl rfl (V_mov rfl l7_70) ?_
                refine W_v rfl rfl (V_add rfl (et rfl) rfl (by omega) (by omega)) ?_
                refine W_v rfl rfl (V_asg rfl (et rfl)) ?_
                refine W_end ?_
                refine gen_Q (fun A71 hA71 => ?_)
                have hsz71 := szq hA71
                have hdf71 : A71.defers = [] := by rw [hA71]; simp only [df_put]; exact hdf70
                have l1_71 := lookE hA71 1 (e2 rfl (es rfl l1_70))
                have l3_71 := lookE hA71 3 (e2 rfl (es rfl l3_70))
                have l5_71 := lookE hA71 5 (e2 rfl (es rfl l5_70))
                have l6_71 := lookE hA71 6 (e2 rfl (es rfl l6_70))
                have l7_71 := lookE hA71 7 (et rfl)
                have l49_71 := lookE hA71 49 (e2 rfl (es rfl l49_70))
                have l50_71 := lookE hA71 50 (e2 rfl (es rfl l50_70))
                have l51_71 := lookE hA71 51 (e2 rfl (es rfl l51_70))
                have l52_71 := lookE hA71 52 (e2 rfl (es rfl l52_70))
                have l53_71 := lookE hA71 53 (e2 rfl (es rfl l53_70))
                have l54_71 := lookE hA71 54 (e2 rfl (es rfl l54_70))
                have l55_71 := lookE hA71 55 (e2 rfl (es rfl l55_70))
                have l56_71 := lookE hA71 56 (e2 rfl (es rfl l56_70))
                have l59_71 := lookE hA71 59 (e2 rfl (es rfl l59_70))
                have l60_71 := lookE hA71 60 (e2 rfl (es rfl l60_70))
                have l61_71 := lookE hA71 61 (e2 rfl (es rfl l61_70))
                have l62_71 := lookE hA71 62 (e2 rfl (es rfl l62_70))
                have l63_71 := lookE hA71 63 (e2 rfl (es rfl l63_70))
                have l64_71 := lookE hA71 64 (e2 rfl (es rfl l64_70))
                have l65_71 := lookE hA71 65 (e2 rfl (es rfl l65_70))
                have l66_71 := lookE hA71 66 (e2 rfl (es rfl l66_70))
                have l67_71 := lookE hA71 67 (e2 rfl (es rfl l67_70))
                have l68_71 := lookE hA71 68 (e2 rfl (es rfl l68_70))
                have l69_71 := lookE hA71 69 (e2 rfl (es rfl l69_70))
                have l70_71 := lookE hA71 70 (e2 rfl (es rfl l70_70))
                have l71_71 := lookE hA71 71 (e2 rfl (es rfl l71_70))
                have l72_71 := lookE hA71 72 (e2 rfl (es rfl l72_70))
                have l96_71 := lookE hA71 96 (e2 rfl (es rfl l96_70))
                have l97_71 := lookE hA71 97 (e2 rfl (es rfl l97_70))
                have l98_71 := lookE hA71 98 (e2 rfl (es rfl l98_70))
                have l99_71 := lookE hA71 99 (e2 rfl (es rfl l99_70))
                have l100_71 := lookE hA71 100 (e2 rfl (es rfl l100_70))
                have l101_71 := lookE hA71 101 (e2 rfl (es rfl l101_70))
                have l102_71 := lookE hA71 102 (e2 rfl (es rfl l102_70))
                clear hA71 hsz70 hdf70 l1_70 l3_70 l5_70 l6_70 l7_70 l49_70 l50_70 l51_70 l52_70 l53_70 l54_70 l55_70 l56_70 l59_70 l60_70 l61_70 l62_70 l63_70 l64_70 l65_70 l66_70 l67_70 l68_70 l69_70 l70_70 l71_70 l72_70 l96_70 l97_70 l98_70 l99_70 l100_70 l101_70 l102_70 l103_70
                refine then_n ⟨y50.1.2.length - (m + 1), by simp only [hm57]; omega, hsz71, hdf71, (m + 1), rfl, (by omega), ((l7_71).trans (by first | rfl | (simp; done) | (congr 1; omega))), ((l1_71).trans l1_56.symm), ((l3_71).trans l3_56.symm), ((l5_71).trans l5_56.symm), ((l6_71).trans l6_56.symm), ((l49_71).trans l49_56.symm), ((l50_71).trans l50_56.symm), ((l51_71).trans l51_56.symm), ((l52_71).trans l52_56.symm), ((l53_71).trans l53_56.symm), ((l54_71).trans l54_56.symm), ((l55_71).trans l55_56.symm), ((l56_71).trans l56_56.symm), ((l59_71).trans l59_56.symm), ((l60_71).trans l60_56.symm), ((l61_71).trans l61_56.symm), ((l62_71).trans l62_56.symm), ((l63_71).trans l63_56.symm), ((l64_71).trans l64_56.symm), ((l65_71).trans l65_56.symm), ((l66_71).trans l66_56.symm), ((l67_71).trans l67_56.symm), ((l68_71).trans l68_56.symm), ((l69_71).trans l69_56.symm), ((l70_71).trans l70_56.symm), ((l71_71).trans l71_56.symm), ((l72_71).trans l72_56.symm), (by subst hc_57 hc2_57; exact hS57)⟩
            · skip
              refine wp_exit ?_
              refine then_exit ?_
              refine then_exit ?_
              refine inb_hit ?_
              refine inb_n ?_
              refine then_n (hK38 _ _ ?_)
              clear hK38
              refine region_in ?_
              refine W_v rfl rfl (V_mov rfl l5_60) ?_
              refine W_v rfl rfl (V_add rfl (et rfl) rfl (by omega) (by omega)) ?_
              refine W_v rfl rfl (V_asg rfl (et rfl)) ?_
              refine W_end ?_
              refine gen_Q (fun A72 hA72 => ?_)
              have hsz72 := szq hA72
              have hdf72 : A72.defers = [] := by rw [hA72]; simp only [df_put]; exact hdf60
              have l1_72 := lookE hA72 1 (e2 rfl (es rfl l1_60))
              have l3_72 := lookE hA72 3 (e2 rfl (es rfl l3_60))
              have l5_72 := lookE hA72 5 (et rfl)
              have l49_72 := lookE hA72 49 (e2 rfl (es rfl l49_60))
              have l50_72 := lookE hA72 50 (e2 rfl (es rfl l50_60))
              have l51_72 := lookE hA72 51 (e2 rfl (es rfl l51_60))
              have l52_72 := lookE hA72 52 (e2 rfl (es rfl l52_60))
              have l53_72 := lookE hA72 53 (e2 rfl (es rfl l53_60))
              have l54_72 := lookE hA72 54 (e2 rfl (es rfl l54_60))
              have l55_72 := lookE hA72 55 (e2 rfl (es rfl l55_60))
              have l56_72 := lookE hA72 56 (e2 rfl (es rfl l56_60))
              have l59_72 := lookE hA72 59 (e2 rfl (es rfl l59_60))
              have l60_72 := lookE hA72 60 (e2 rfl (es rfl l60_60))
              have l61_72 := lookE hA72 61 (e2 rfl (es rfl l61_60))
              have l62_72 := lookE hA72 62 (e2 rfl (es rfl l62_60))
              have l63_72 := lookE hA72 63 (e2 rfl (es rfl l63_60))
              have l64_72 := lookE hA72 64 (e2 rfl (es rfl l64_60))
              have l65_72 := lookE hA72 65 (e2 rfl (es rfl l65_60))
              have l66_72 := lookE hA72 66 (e2 rfl (es rfl l66_60))
              have l67_72 := lookE hA72 67 (e2 rfl (es rfl l67_60))
              have l68_72 := lookE hA72 68 (e2 rfl (es rfl l68_60))
              have l69_72 := lookE hA72 69 (e2 rfl (es rfl l69_60))
              have l70_72 := lookE hA72 70 (e2 rfl (es rfl l70_60))
              have l71_72 := lookE hA72 71 (e2 rfl (es rfl l71_60))
              have l72_72 := lookE hA72 72 (e2 rfl (es rfl l72_60))
              clear hA72 hsz60 hdf60 l1_60 l3_60 l5_60 l6_60 l7_60 l49_60 l50_60 l51_60 l52_60 l53_60 l54_60 l55_60 l56_60 l59_60 l60_60 l61_60 l62_60 l63_60 l64_60 l65_60 l66_60 l67_60 l68_60 l69_60 l70_60 l71_60 l72_60 l87_60
              refine then_n ⟨(lvT (O.map ab) rs).length - (k + 1), by simp only [hm33]; omega, hsz72, hdf72, (k + 1), rfl, (by omega), ((l5_72).trans (by first | rfl | (simp; done) | (congr 1; omega))), ((l1_72).trans l1_32.symm), ((l3_72).trans l3_32.symm), (by subst hc_57 hc2_57; exact hS57)⟩
          · skip
            refine D_off rfl (wanted_f rfl rfl (et rfl) (ez rfl) rfl) rfl ?_
            refine D_off rfl (wanted_f rfl rfl (es rfl (et rfl)) (ez rfl) rfl) rfl ?_
            refine D_off rfl (wanted_f rfl rfl (e2 rfl (et rfl)) (ez rfl) rfl) rfl ?_
            refine D_off rfl (wanted_f rfl rfl (e3 rfl (et rfl)) (ez rfl) rfl) rfl ?_
            refine D_off rfl (wanted_f rfl rfl (e4 rfl (et rfl)) (ez rfl) rfl) rfl ?_
            refine D_off rfl (wanted_f rfl rfl (e5 rfl (et rfl)) (ez rfl) rfl) rfl ?_
            refine D_off rfl (wanted_f rfl rfl (e6 rfl (et rfl)) (ez rfl) rfl) rfl ?_
            refine D_off rfl (wanted_f rfl rfl (e7 rfl (et rfl)) (ez rfl) rfl) rfl ?_
            refine D_off rfl (wanted_f rfl rfl (e8 rfl (et rfl)) (ez rfl) rfl) rfl ?_
            refine D_off rfl (wanted_f rfl rfl (e9 rfl (et rfl)) (ez rfl) rfl) rfl ?_
            refine D_v rfl (wanted_t rfl rfl (e13 rfl (et rfl)) (ez rfl)) (V_pickF rfl (e10 rfl (et rfl)) rfl) rfl rfl ?_
            refine D_v rfl rfl (V_pickF rfl (e14 rfl (et rfl)) (et rfl)) rfl rfl ?_
            refine ZS_none hS33 (Nat.le_refl _) (Nat.le_refl _) (fun s73 hJ73 hL73 hF73 => ?_)
            have hS73 := hJ73.st; clear hF73 hJ73 hL73
            generalize s73.1 = w73 at *
            replace hS73 : St w NoX [c_33, c2_33] w73 := hS73
            refine gen_Q (fun A74 hA74 => ?_)
            have hsz74 := szq hA74
            have hdf74 : A74.defers = [] := by rw [hA74]; simp only [df_put]; exact hdf36
            have l1_74 := lookE hA74 1 (e25 rfl (es rfl (es rfl (es rfl (es rfl (es rfl (es rfl l1_36)))))))
            have l3_74 := lookE hA74 3 (e25 rfl (es rfl (es rfl (es rfl (es rfl (es rfl (es rfl l3_36)))))))
            have l5_74 := lookE hA74 5 (e25 rfl (es rfl (es rfl (es rfl (es rfl (es rfl (es rfl l5_36)))))))
            have l49_74 := lookE hA74 49 (e24 rfl (et rfl))
            have l50_74 := lookE hA74 50 (e23 rfl (et rfl))
            have l51_74 := lookE hA74 51 (e22 rfl (et rfl))
            have l52_74 := lookE hA74 52 (e21 rfl (et rfl))
            have l53_74 := lookE hA74 53 (e20 rfl (et rfl))
            have l54_74 := lookE hA74 54 (e19 rfl (et rfl))
            have l55_74 := lookE hA74 55 (e18 rfl (et rfl))
            have l56_74 := lookE hA74 56 (e17 rfl (et rfl))
            have l59_74 := lookE hA74 59 (e14 rfl (et rfl))
            have l60_74 := lookE hA74 60 (e13 rfl (et rfl))
            have l61_74 := lookE hA74 61 (e12 rfl (et rfl))
            have l62_74 := lookE hA74 62 (e11 rfl (et rfl))
            have l63_74 := lookE hA74 63 (e10 rfl (et rfl))
            have l64_74 := lookE hA74 64 (e9 rfl (et rfl))
            have l65_74 := lookE hA74 65 (e8 rfl (et rfl))
            have l66_74 := lookE hA74 66 (e7 rfl (et rfl))
            have l67_74 := lookE hA74 67 (e6 rfl (et rfl))
            have l68_74 := lookE hA74 68 (e5 rfl (et rfl))
            have l69_74 := lookE hA74 69 (e4 rfl (et rfl))
            have l70_74 := lookE hA74 70 (e3 rfl (et rfl))
            have l71_74 := lookE hA74 71 (e2 rfl (et rfl))
            have l72_74 := lookE hA74 72 (es rfl (et rfl))
            have l73_74 := lookE hA74 73 (et rfl)
            clear hA74 hsz36 hdf36 l1_36 l3_36 l5_36 l40_36
            refine then_n (hK40 _ _ ?_)
            clear hK40
            refine cond_f l73_74 ?_
            refine wp_skip ?_
            refine then_n (hK39 _ _ ?_)
            clear hK39
            refine wp_seq_k (fun K75 hK75 => ?_)
            refine region_monoS 11 11 [] (by kernel_rfl) (by kernel_rfl) ?_
            refine D_v rfl rfl (V_fa (off' := 0) rfl l1_74 Try.underlying25 rfl (by decide +kernel) rfl) rfl rfl ?_
            refine D_r rfl rfl (by kernel_rfl) (fun sx hx hF => (VR_ldC rfl (et rfl) (cell_box (v := ov) ((hS73.grow hx).obj 1 rfl hc2_33) rfl) Try.underlying22 rfl)) rfl rfl ?_
            refine D_v rfl rfl (V_mov rfl (es rfl (es rfl l3_74))) rfl rfl ?_
            refine D_v rfl rfl (V_mov rfl (e2 rfl (es rfl l5_74))) rfl rfl ?_
            refine D_v rfl rfl (V_ixS (off := O41 + k) 1 (k) rfl (es rfl (et rfl)) (et rfl) hv41 (by omega) k41 Try.underlying23 (by kernel_rfl) (congrArg _ (Nat.mul_one _))) rfl rfl ?_
            refine D_r rfl rfl (by kernel_rfl) (fun sx hx hF => (VR_ldC rfl (et rfl) ((ow_at ((hS73.grow hx).chq 0 rfl hc_33)).cell hv41 (map_get hy41)) Try.underlying3 rfl)) rfl rfl ?_
            refine D_v rfl rfl (V_sb rfl (et rfl) rfl (by omega) (by omega)) rfl rfl ?_
            have k77 : (y41 - 1).toNat < O.length := by first | omega | (simp only [List.length_cons, List.length_nil]; omega) | (simp only [List.length_set]; omega)
            obtain ⟨y77, hy77⟩ := get_some (xs := O) (k := (y41 - 1).toNat) k77
            have hpt77 := pt_at hy77
            obtain ⟨B77, O77, C77, hv77⟩ := (SlN.blk (sl_SlN h_ov.at) (by first | omega | (simp only [List.length_cons, List.length_nil]; omega) | (simp only [List.length_set]; omega)))
            refine D_v rfl rfl (V_ixS (off := O77 + ((y41 - 1).toNat) * 2) 2 ((y41 - 1).toNat) rfl (e5 rfl (et rfl)) (et rfl) hv77 (by omega) k77 Try.underlying22 (by kernel_rfl) rfl) rfl rfl ?_
            refine D_v rfl rfl (V_fa (off' := O77 + ((y41 - 1).toNat) * 2 + 0) rfl (et rfl) Try.underlying40 rfl (by decide +kernel) rfl) rfl rfl ?_
            have fn78 : Ro w NoX (il .i64 y77.1.1 y77.1.2) := nst_ro1 n_ov hy77
            have bfn78 := SlN.le (sl_SlN (hS73.ro fn78))
            have fn79 : Ro w NoX (il .u64 y77.2.1 y77.2.2) := nst_ro2 n_ov hy77
            have bfn79 := SlN.le (sl_SlN (hS73.ro fn79))
            refine D_r rfl rfl (by kernel_rfl) (fun sx hx hF => (VR_ldC (v := y77.1.1) rfl (et rfl) (SlN.row obC_len (sl_SlN ((hS73.grow hx).ro h_ov)) hv77 hy77 rfl 0 _ rfl) Try.underlying23 rfl)) rfl rfl ?_
            refine D_v rfl rfl (V_asg rfl (et rfl)) rfl rfl ?_
            refine ZS_none hS73 (Nat.le_refl _) (Nat.le_refl _) (fun s80 hJ80 hL80 hF80 => ?_)
            have hS80 := hJ80.st; clear hF80 hJ80 hL80
            generalize s80.1 = w80 at *
            replace hS80 : St w NoX [c_33, c2_33] w80 := hS80
            refine gen_Q (fun A81 hA81 => ?_)
            have hsz81 := szq hA81
            have hdf81 : A81.defers = [] := by rw [hA81]; simp only [df_put]; exact hdf74
            have l1_81 := lookE hA81 1 (e10 rfl (es rfl l1_74))
            have l3_81 := lookE hA81 3 (e10 rfl (es rfl l3_74))
            have l5_81 := lookE hA81 5 (e10 rfl (es rfl l5_74))
            have l6_81 := lookE hA81 6 (et rfl)
            have l49_81 := lookE hA81 49 (e10 rfl (es rfl l49_74))
            have l50_81 := lookE hA81 50 (e10 rfl (es rfl l50_74))
            have l51_81 := lookE hA81 51 (e10 rfl (es rfl l51_74))
            have l52_81 := lookE hA81 52 (e10 rfl (es rfl l52_74))
            have l53_81 := lookE hA81 53 (e10 rfl (es rfl l53_74))
            have l54_81 := lookE hA81 54 (e10 rfl (es rfl l54_74))
            have l55_81 := lookE hA81 55 (e10 rfl (es rfl l55_74))
            have l56_81 := lookE hA81 56 (e10 rfl (es rfl l56_74))
            have l59_81 := lookE hA81 59 (e10 rfl (es rfl l59_74))
            have l60_81 := lookE hA81 60 (e10 rfl (es rfl l60_74))
            have l61_81 := lookE hA81 61 (e10 rfl (es rfl l61_74))
            have l62_81 := lookE hA81 62 (e10 rfl (es rfl l62_74))
            have l63_81 := lookE hA81 63 (e10 rfl (es rfl l63_74))
            have l64_81 := lookE hA81 64 (e10 rfl (es rfl l64_74))
            have l65_81 := lookE hA81 65 (e10 rfl (es rfl l65_74))
            have l66_81 := lookE hA81 66 (e10 rfl (es rfl l66_74))
            have l67_81 := lookE hA81 67 (e10 rfl (es rfl l67_74))
            have l68_81 := lookE hA81 68 (e10 rfl (es rfl l68_74))
            have l69_81 := lookE hA81 69 (e10 rfl (es rfl l69_74))
            have l70_81 := lookE hA81 70 (e10 rfl (es rfl l70_74))
            have l71_81 := lookE hA81 71 (e10 rfl (es rfl l71_74))
            have l72_81 := lookE hA81 72 (e10 rfl (es rfl l72_74))
            clear hA81 hsz74 hdf74 l1_74 l3_74 l5_74 l49_74 l50_74 l51_74 l52_74 l53_74 l54_74 l55_74 l56_74 l59_74 l60_74 l61_74 l62_74 l63_74 l64_74 l65_74 l66_74 l67_74 l68_74 l69_74 l70_74 l71_74 l72_74 l73_74
            refine then_n (hK75 _ _ ?_)
            clear hK75
            refine wp_seq_k (fun K82 hK82 => ?_)
            refine region_in ?_
            refine W_v rfl rfl (V_asg rfl rfl) ?_
            refine W_end ?_
            refine gen_Q (fun A83 hA83 => ?_)
            have hsz83 := szq hA83
            have hdf83 : A83.defers = [] := by rw [hA83]; simp only [df_put]; exact hdf81
            have l1_83 := lookE hA83 1 (es rfl l1_81)
            have l3_83 := lookE hA83 3 (es rfl l3_81)
            have l5_83 := lookE hA83 5 (es rfl l5_81)
            have l6_83 := lookE hA83 6 (es rfl l6_81)
            have l7_83 := lookE hA83 7 (et rfl)
            have l49_83 := lookE hA83 49 (es rfl l49_81)
            have l50_83 := lookE hA83 50 (es rfl l50_81)
            have l51_83 := lookE hA83 51 (es rfl l51_81)
            have l52_83 := lookE hA83 52 (es rfl l52_81)
            have l53_83 := lookE hA83 53 (es rfl l53_81)
            have l54_83 := lookE hA83 54 (es rfl l54_81)
            have l55_83 := lookE hA83 55 (es rfl l55_81)
            have l56_83 := lookE hA83 56 (es rfl l56_81)
            have l59_83 := lookE hA83 59 (es rfl l59_81)
            have l60_83 := lookE hA83 60 (es rfl l60_81)
            have l61_83 := lookE hA83 61 (es rfl l61_81)
            have l62_83 := lookE hA83 62 (es rfl l62_81)
            have l63_83 := lookE hA83 63 (es rfl l63_81)
            have l64_83 := lookE hA83 64 (es rfl l64_81)
            have l65_83 := lookE hA83 65 (es rfl l65_81)
            have l66_83 := lookE hA83 66 (es rfl l66_81)
            have l67_83 := lookE hA83 67 (es rfl l67_81)
            have l68_83 := lookE hA83 68 (es rfl l68_81)
            have l69_83 := lookE hA83 69 (es rfl l69_81)
            have l70_83 := lookE hA83 70 (es rfl l70_81)
            have l71_83 := lookE hA83 71 (es rfl l71_81)
            have l72_83 := lookE hA83 72 (es rfl l72_81)
            clear hA83 hsz81 hdf81 l1_81 l3_81 l5_81 l6_81 l49_81 l50_81 l51_81 l52_81 l53_81 l54_81 l55_81 l56_81 l59_81 l60_81 l61_81 l62_81 l63_81 l64_81 l65_81 l66_81 l67_81 l68_81 l69_81 l70_81 l71_81 l72_81
            refine then_n (hK82 _ _ ?_)
            clear hK82
            refine wp_block ?_
            -- loop 13
            refine loopX (fun mz A' w' => SzN A' 219 ∧ A'.defers = [] ∧ (∃ (m : Nat), (mz = y77.1.2.length - m) ∧ (m ≤ y77.1.2.length) ∧ (EV A' (.tmp 7) = .int .i64 (m : Int)) ∧ (EV A' (.tmp 1) = EV A83 (.tmp 1)) ∧ (EV A' (.tmp 3) = EV A83 (.tmp 3)) ∧ (EV A' (.tmp 5) = EV A83 (.tmp 5)) ∧ (EV A' (.tmp 6) = EV A83 (.tmp 6)) ∧ (EV A' (.tmp 49) = EV A83 (.tmp 49)) ∧ (EV A' (.tmp 50) = EV A83 (.tmp 50)) ∧ (EV A' (.tmp 51) = EV A83 (.tmp 51)) ∧ (EV A' (.tmp 52) = EV A83 (.tmp 52)) ∧ (EV A' (.tmp 53) = EV A83 (.tmp 53)) ∧ (EV A' (.tmp 54) = EV A83 (.tmp 54)) ∧ (EV A' (.tmp 55) = EV A83 (.tmp 55)) ∧ (EV A' (.tmp 56) = EV A83 (.tmp 56)) ∧ (EV A' (.tmp 59) = EV A83 (.tmp 59)) ∧ (EV A' (.tmp 60) = EV A83 (.tmp 60)) ∧ (EV A' (.tmp 61) = EV A83 (.tmp 61)) ∧ (EV A' (.tmp 62) = EV A83 (.tmp 62)) ∧ (EV A' (.tmp 63) = EV A83 (.tmp 63)) ∧ (EV A' (.tmp 64) = EV A83 (.tmp 64)) ∧ (EV A' (.tmp 65) = EV A83 (.tmp 65)) ∧ (EV A' (.tmp 66) = EV A83 (.tmp 66)) ∧ (EV A' (.tmp 67) = EV A83 (.tmp 67)) ∧ (EV A' (.tmp 68) = EV A83 (.tmp 68)) ∧ (EV A' (.tmp 69) = EV A83 (.tmp 69)) ∧ (EV A' (.tmp 70) = EV A83 (.tmp 70)) ∧ (EV A' (.tmp 71) = EV A83 (.tmp 71)) ∧ (EV A' (.tmp 72) = EV A83 (.tmp 72)) ∧ (St w NoX [io .i64 v_20 (lvT (O.map ab) rs), bx g2 25 #[ov, rv]] w'))) (y77.1.2.length - 0) ⟨hsz83, hdf83, 0, rfl, (by omega), ((l7_83).trans (by first | rfl | (simp; done) | (congr 1; omega))), rfl, rfl, rfl, rfl, rfl, rfl, rfl, rfl, rfl, rfl, rfl, rfl, rfl, rfl, rfl, rfl, rfl, rfl, rfl, rfl, rfl, rfl, rfl, rfl, rfl, rfl, (by subst hc_33 hc2_33; exact hS80)⟩ ?_
            clear hS80 hc_33 hc2_33
            rintro n84 A84 w84 ⟨hsz84, hdf84, m, hm84, hm, l7_84, u1_84, u3_84, u5_84, u6_84, u49_84, u50_84, u51_84, u52_84, u53_84, u54_84, u55_84, u56_84, u59_84, u60_84, u61_84, u62_84, u63_84, u64_84, u65_84, u66_84, u67_84, u68_84, u69_84, u70_84, u71_84, u72_84, hS84⟩
            have l1_84 := u1_84.trans l1_83
            have l3_84 := u3_84.trans l3_83
            have l5_84 := u5_84.trans l5_83
            have l6_84 := u6_84.trans l6_83
            have l49_84 := u49_84.trans l49_83
            have l50_84 := u50_84.trans l50_83
            have l51_84 := u51_84.trans l51_83
            have l52_84 := u52_84.trans l52_83
            have l53_84 := u53_84.trans l53_83
            have l54_84 := u54_84.trans l54_83
            have l55_84 := u55_84.trans l55_83
            have l56_84 := u56_84.trans l56_83
            have l59_84 := u59_84.trans l59_83
            have l60_84 := u60_84.trans l60_83
            have l61_84 := u61_84.trans l61_83
            have l62_84 := u62_84.trans l62_83
            have l63_84 := u63_84.trans l63_83
            have l64_84 := u64_84.trans l64_83
            have l65_84 := u65_84.trans l65_83
            have l66_84 := u66_84.trans l66_83
            have l67_84 := u67_84.trans l67_83
            have l68_84 := u68_84.trans l68_83
            have l69_84 := u69_84.trans l69_83
            have l70_84 := u70_84.trans l70_83
            have l71_84 := u71_84.trans l71_83
            have l72_84 := u72_84.trans l72_83
            obtain ⟨c_84, c2_84, hc_84, hc2_84, hS84⟩ := gen2 hS84
            refine wp_seq_k (fun K85 hK85 => ?_)
            refine wp_seq_k (fun K86 hK86 => ?_)
            refine region_in ?_
            refine W_v rfl rfl (V_mov rfl l7_84) ?_
            refine W_v rfl rfl (V_mov rfl (es rfl l6_84)) ?_
            refine W_v rfl rfl (V_lenS rfl (et rfl) (sl_SlN fn78.at) Try.underlying23) ?_
            refine W_v rfl rfl (V_lss rfl (e2 rfl (et rfl)) (et rfl)) ?_
            refine W_end ?_
            refine gen_Q (fun A87 hA87 => ?_)
            have hsz87 := szq hA87
            have hdf87 : A87.defers = [] := by rw [hA87]; simp only [df_put]; exact hdf84
            have l1_87 := lookE hA87 1 (e3 rfl (es rfl l1_84))
            have l3_87 := lookE hA87 3 (e3 rfl (es rfl l3_84))
            have l5_87 := lookE hA87 5 (e3 rfl (es rfl l5_84))
            have l6_87 := lookE hA87 6 (e3 rfl (es rfl l6_84))
            have l7_87 := lookE hA87 7 (e3 rfl (es rfl l7_84))
            have l49_87 := lookE hA87 49 (e3 rfl (es rfl l49_84))
            have l50_87 := lookE hA87 50 (e3 rfl (es rfl l50_84))
            have l51_87 := lookE hA87 51 (e3 rfl (es rfl l51_84))
            have l52_87 := lookE hA87 52 (e3 rfl (es rfl l52_84))
            have l53_87 := lookE hA87 53 (e3 rfl (es rfl l53_84))
            have l54_87 := lookE hA87 54 (e3 rfl (es rfl l54_84))
            have l55_87 := lookE hA87 55 (e3 rfl (es rfl l55_84))
            have l56_87 := lookE hA87 56 (e3 rfl (es rfl l56_84))
            have l59_87 := lookE hA87 59 (e3 rfl (es rfl l59_84))
            have l60_87 := lookE hA87 60 (e3 rfl (es rfl l60_84))
            have l61_87 := lookE hA87 61 (e3 rfl (es rfl l61_84))
            have l62_87 := lookE hA87 62 (e3 rfl (es rfl l62_84))
            have l63_87 := lookE hA87 63 (e3 rfl (es rfl l63_84))
            have l64_87 := lookE hA87 64 (e3 rfl (es rfl l64_84))
            have l65_87 := lookE hA87 65 (e3 rfl (es rfl l65_84))
            have l66_87 := lookE hA87 66 (e3 rfl (es rfl l66_84))
            have l67_87 := lookE hA87 67 (e3 rfl (es rfl l67_84))
            have l68_87 := lookE hA87 68 (e3 rfl (es rfl l68_84))
            have l69_87 := lookE hA87 69 (e3 rfl (es rfl l69_84))
            have l70_87 := lookE hA87 70 (e3 rfl (es rfl l70_84))
            have l71_87 := lookE hA87 71 (e3 rfl (es rfl l71_84))
            have l72_87 := lookE hA87 72 (e3 rfl (es rfl l72_84))
            have l87_87 := lookE hA87 87 (et rfl)
            clear hA87 hsz84 hdf84 l7_84 l1_84 l3_84 l5_84 l6_84 l49_84 l50_84 l51_84 l52_84 l53_84 l54_84 l55_84 l56_84 l59_84 l60_84 l61_84 l62_84 l63_84 l64_84 l65_84 l66_84 l67_84 l68_84 l69_84 l70_84 l71_84 l72_84
            refine then_n (hK86 _ _ ?_)
            clear hK86
            refine cond_dec l87_87 (fun c88 => ?_) (fun c88 => ?_)
            · skip
              refine wp_skip ?_
              refine then_n (hK85 _ _ ?_)
              clear hK85
              refine wp_seq_k (fun K89 hK89 => ?_)
              refine wp_block ?_
              refine wp_seq_k (fun K90 hK90 => ?_)
              refine region_in ?_
              refine W_v rfl rfl (V_mov rfl l6_87) ?_
              refine W_v rfl rfl (V_mov rfl (es rfl l7_87)) ?_
              have k91 : m < y77.1.2.length := by first | omega | (simp only [List.length_cons, List.length_nil]; omega) | (simp only [List.length_set]; omega)
              obtain ⟨y91, hy91⟩ := get_some (xs := y77.1.2) (k := m) k91
              have hpp91 : y91 ∈ pt (O.map ab) y41 := by rw [hpt77]; exact List.mem_of_getElem? hy91
              obtain ⟨B91, O91, C91, hv91⟩ := (SlN.blk (sl_SlN fn78.at) (by first | omega | (simp only [List.length_cons, List.length_nil]; omega) | (simp only [List.length_set]; omega)))
              refine W_v rfl rfl (V_ixS (off := O91 + m) 1 (m) rfl (es rfl (et rfl)) (et rfl) hv91 (by omega) k91 Try.underlying23 (by kernel_rfl) (congrArg _ (Nat.mul_one _))) ?_
              refine W_r rfl rfl (VR_ldC rfl (et rfl) ((sl_SlN (hS84.ro fn78)).cell hv91 (map_get hy91)) Try.underlying3 rfl) ?_
              refine W_v rfl rfl (V_neq rfl (et rfl) rfl) ?_
              refine W_split rfl rfl (V_mov rfl (et rfl)) (fun c92 => ?_) (fun c92 => ?_)
              · skip
                refine W_v rfl (wanted_t rfl rfl (et rfl) (ez rfl)) (V_mov rfl (e5 rfl (es rfl l3_87))) ?_
                refine W_v rfl (wanted_t rfl rfl (es rfl (et rfl)) (ez rfl)) (V_mov rfl (e6 rfl (es rfl l6_87))) ?_
                refine W_v rfl (wanted_t rfl rfl (e2 rfl (et rfl)) (ez rfl)) (V_mov rfl (e7 rfl (es rfl l7_87))) ?_
                refine W_v rfl (wanted_t rfl rfl (e3 rfl (et rfl)) (ez rfl)) (V_ixS (off := O91 + m) 1 (m) rfl (es rfl (et rfl)) (et rfl) hv91 (by omega) k91 Try.underlying23 (by kernel_rfl) (congrArg _ (Nat.mul_one _))) ?_
                refine W_r rfl (wanted_t rfl rfl (e4 rfl (et rfl)) (ez rfl)) (VR_ldC rfl (et rfl) ((sl_SlN (hS84.ro fn78)).cell hv91 (map_get hy91)) Try.underlying3 rfl) ?_
                refine W_call rfl (wanted_t rfl rfl (e5 rfl (et rfl)) (ez rfl)) rfl Try.func22 (by kernel_rfl) rfl (args2 (e4 rfl (et rfl)) (et rfl)) (has_c (x := y91) (hS84.chC 0 rfl hc_84).own ) ?_
                rintro _ w94 ⟨rfl, hP94⟩
                refine ⟨_, rfl, ?_⟩
                have hS94 := hS84.join hP94
                replace hS94 : St w NoX [c_84, c2_84] w94 := hS94
                refine W_v rfl (wanted_t rfl rfl (e6 rfl (et rfl)) (ez rfl)) (V_notd rfl (et rfl)) ?_
                refine W_v rfl rfl (V_pickT rfl (e7 rfl (et rfl)) (et rfl)) ?_
                refine W_end ?_
                refine gen_Q (fun A95 hA95 => ?_)
                have hsz95 := szq hA95
                have hdf95 : A95.defers = [] := by rw [hA95]; simp only [df_put]; exact hdf87
                have l1_95 := lookE hA95 1 (e13 rfl (es rfl l1_87))
                have l3_95 := lookE hA95 3 (e13 rfl (es rfl l3_87))
                have l5_95 := lookE hA95 5 (e13 rfl (es rfl l5_87))
                have l6_95 := lookE hA95 6 (e13 rfl (es rfl l6_87))
                have l7_95 := lookE hA95 7 (e13 rfl (es rfl l7_87))
                have l49_95 := lookE hA95 49 (e13 rfl (es rfl l49_87))
                have l50_95 := lookE hA95 50 (e13 rfl (es rfl l50_87))
                have l51_95 := lookE hA95 51 (e13 rfl (es rfl l51_87))
                have l52_95 := lookE hA95 52 (e13 rfl (es rfl l52_87))
                have l53_95 := lookE hA95 53 (e13 rfl (es rfl l53_87))
                have l54_95 := lookE hA95 54 (e13 rfl (es rfl l54_87))
                have l55_95 := lookE hA95 55 (e13 rfl (es rfl l55_87))
                have l56_95 := lookE hA95 56 (e13 rfl (es rfl l56_87))
                have l59_95 := lookE hA95 59 (e13 rfl (es rfl l59_87))
                have l60_95 := lookE hA95 60 (e13 rfl (es rfl l60_87))
                have l61_95 := lookE hA95 61 (e13 rfl (es rfl l61_87))
                have l62_95 := lookE hA95 62 (e13 rfl (es rfl l62_87))
                have l63_95 := lookE hA95 63 (e13 rfl (es rfl l63_87))
                have l64_95 := lookE hA95 64 (e13 rfl (es rfl l64_87))
                have l65_95 := lookE hA95 65 (e13 rfl (es rfl l65_87))
                have l66_95 := lookE hA95 66 (e13 rfl (es rfl l66_87))
                have l67_95 := lookE hA95 67 (e13 rfl (es rfl l67_87))
                have l68_95 := lookE hA95 68 (e13 rfl (es rfl l68_87))
                have l69_95 := lookE hA95 69 (e13 rfl (es rfl l69_87))
                have l70_95 := lookE hA95 70 (e13 rfl (es rfl l70_87))
                have l71_95 := lookE hA95 71 (e13 rfl (es rfl l71_87))
                have l72_95 := lookE hA95 72 (e13 rfl (es rfl l72_87))
                have l96_95 := lookE hA95 96 (e7 rfl (et rfl))
                have l97_95 := lookE hA95 97 (e6 rfl (et rfl))
                have l98_95 := lookE hA95 98 (e5 rfl (et rfl))
                have l99_95 := lookE hA95 99 (e4 rfl (et rfl))
                have l100_95 := lookE hA95 100 (e3 rfl (et rfl))
                have l101_95 := lookE hA95 101 (e2 rfl (et rfl))
                have l102_95 := lookE hA95 102 (es rfl (et rfl))
                have l103_95 := lookE hA95 103 (et rfl)
                clear hA95 hsz87 hdf87 l1_87 l3_87 l5_87 l6_87 l7_87 l49_87 l50_87 l51_87 l52_87 l53_87 l54_87 l55_87 l56_87 l59_87 l60_87 l61_87 l62_87 l63_87 l64_87 l65_87 l66_87 l67_87 l68_87 l69_87 l70_87 l71_87 l72_87 l87_87
                refine then_n (hK90 _ _ ?_)
                clear hK90
                refine cond_not l103_95 (by rw [decide_eq_false_iff_not]; exact fun q => q ((lvT_mem hg).2 (.ptr hlv41 hpp91 (fun e => c92 e)))) ?_
                refine wp_skip ?_
                refine inb_n ?_
                refine then_n (hK89 _ _ ?_)
                clear hK89
                refine region_in ?_
                refine W_v rfl rfl (V_mov rfl l7_95) ?_
                refine W_v rfl rfl (V_add rfl (et rfl) rfl (by omega) (by omega)) ?_
                refine W_v rfl rfl (V_asg rfl (et rfl)) ?_
                refine W_end ?_
                refine gen_Q (fun A96 hA96 => ?_)
                have hsz96 := szq hA96
                have hdf96 : A96.defers = [] := by rw [hA96]; simp only [df_put]; exact hdf95
                have l1_96 := lookE hA96 1 (e2 rfl (es rfl l1_95))
                have l3_96 := lookE hA96 3 (e2 rfl (es rfl l3_95))
                have l5_96 := lookE hA96 5 (e2 rfl (es rfl l5_95))
                have l6_96 := lookE hA96 6 (e2 rfl (es rfl l6_95))
                have l7_96 := lookE hA96 7 (et rfl)
                have l49_96 := lookE hA96 49 (e2 rfl (es rfl l49_95))
                have l50_96 := lookE hA96 50 (e2 rfl (es rfl l50_95))
                have l51_96 := lookE hA96 51 (e2 rfl (es rfl l51_95))
                have l52_96 := lookE hA96 52 (e2 rfl (es rfl l52_95))
                have l53_96 := lookE hA96 53 (e2 rfl (es rfl l53_95))
                have l54_96 := lookE hA96 54 (e2 rfl (es rfl l54_95))
                have l55_96 := lookE hA96 55 (e2 rfl (es rfl l55_95))
                have l56_96 := lookE hA96 56 (e2 rfl (es rfl l56_95))
                have l59_96 := lookE hA96 59 (e2 rfl (es rfl l59_95))
                have l60_96 := lookE hA96 60 (e2 rfl (es rfl l60_95))
                have l61_96 := lookE hA96 61 (e2 rfl (es rfl l61_95))
                have l62_96 := lookE hA96 62 (e2 rfl (es rfl l62_95))
                have l63_96 := lookE hA96 63 (e2 rfl (es rfl l63_95))
                have l64_96 := lookE hA96 64 (e2 rfl (es rfl l64_95))
                have l65_96 := lookE hA96 65 (e2 rfl (es rfl l65_95))
                have l66_96 := lookE hA96 66 (e2 rfl (es rfl l66_95))
                have l67_96 := lookE hA96 67 (e2 rfl (es rfl l67_95))
                have l68_96 := lookE hA96 68 (e2 rfl (es rfl l68_95))
                have l69_96 := lookE hA96 69 (e2 rfl (es rfl l69_95))
                have l70_96 := lookE hA96 70 (e2 rfl (es rfl l70_95))
                have l71_96 := lookE hA96 71 (e2 rfl (es rfl l71_95))
                have l72_96 := lookE hA96 72 (e2 rfl (es rfl l72_95))
                have l96_96 := lookE hA96 96 (e2 rfl (es rfl l96_95))
                have l97_96 := lookE hA96 97 (e2 rfl (es rfl l97_95))
                have l98_96 := lookE hA96 98 (e2 rfl (es rfl l98_95))
                have l99_96 := lookE hA96 99 (e2 rfl (es rfl l99_95))
                have l100_96 := lookE hA96 100 (e2 rfl (es rfl l100_95))
                have l101_96 := lookE hA96 101 (e2 rfl (es rfl l101_95))
                have l102_96 := lookE hA96 102 (e2 rfl (es rfl l102_95))
                clear hA96 hsz95 hdf95 l1_95 l3_95 l5_95 l6_95 l7_95 l49_95 l50_95 l51_95 l52_95 l53_95 l54_95 l55_95 l56_95 l59_95 l60_95 l61_95 l62_95 l63_95 l64_95 l65_95 l66_95 l67_95 l68_95 l69_95 l70_95 l71_95 l72_95 l96_95 l97_95 l98_95 l99_95 l100_95 l101_95 l102_95 l103_95
                refine then_n ⟨y77.1.2.length - (m + 1), by simp only [hm84]; omega, hsz96, hdf96, (m + 1), rfl, (by omega), ((l7_96).trans (by first | rfl | (simp; done) | (congr 1; omega))), ((l1_96).trans l1_83.symm), ((l3_96).trans l3_83.symm), ((l5_96).trans l5_83.symm), ((l6_96).trans l6_83.symm), ((l49_96).trans l49_83.symm), ((l50_96).trans l50_83.symm), ((l51_96).trans l51_83.symm), ((l52_96).trans l52_83.symm), ((l53_96).trans l53_83.symm), ((l54_96).trans l54_83.symm), ((l55_96).trans l55_83.symm), ((l56_96).trans l56_83.symm), ((l59_96).trans l59_83.symm), ((l60_96).trans l60_83.symm), ((l61_96).trans l61_83.symm), ((l62_96).trans l62_83.symm), ((l63_96).trans l63_83.symm), ((l64_96).trans l64_83.symm), ((l65_96).trans l65_83.symm), ((l66_96).trans l66_83.symm), ((l67_96).trans l67_83.symm), ((l68_96).trans l68_83.symm), ((l69_96).trans l69_83.symm), ((l70_96).trans l70_83.symm), ((l71_96).trans l71_83.symm), ((l72_96).trans l72_83.symm), (by subst hc_84 hc2_84; exact hS94)⟩
              · skip
                refine W_off rfl (wanted_f rfl rfl (et rfl) (ez rfl) rfl) ?_
                refine W_off rfl (wanted_f rfl rfl (es rfl (et rfl)) (ez rfl) rfl) ?_
                refine W_off rfl (wanted_f rfl rfl (e2 rfl (et rfl)) (ez rfl) rfl) ?_
                refine W_off rfl (wanted_f rfl rfl (e3 rfl (et rfl)) (ez rfl) rfl) ?_
                refine W_off rfl (wanted_f rfl rfl (e4 rfl (et rfl)) (ez rfl) rfl) ?_
                refine W_off rfl (wanted_f rfl rfl (e5 rfl (et rfl)) (ez rfl) rfl) ?_
                refine W_off rfl (wanted_f rfl rfl (e6 rfl (et rfl)) (ez rfl) rfl) ?_
                refine W_v rfl rfl (V_pickF rfl (e7 rfl (et rfl)) rfl) ?_
                refine W_end ?_
                refine gen_Q (fun A97 hA97 => ?_)
                have hsz97 := szq hA97
                have hdf97 : A97.defers = [] := by rw [hA97]; simp only [df_put]; exact hdf87
                have l1_97 := lookE hA97 1 (e13 rfl (es rfl l1_87))
                have l3_97 := lookE hA97 3 (e13 rfl (es rfl l3_87))
                have l5_97 := lookE hA97 5 (e13 rfl (es rfl l5_87))
                have l6_97 := lookE hA97 6 (e13 rfl (es rfl l6_87))
                have l7_97 := lookE hA97 7 (e13 rfl (es rfl l7_87))
                have l49_97 := lookE hA97 49 (e13 rfl (es rfl l49_87))
                have l50_97 := lookE hA97 50 (e13 rfl (es rfl l50_87))
                have l51_97 := lookE hA97 51 (e13 rfl (es rfl l51_87))
                have l52_97 := lookE hA97 52 (e13 rfl (es rfl l52_87))
                have l53_97 := lookE hA97 53 (e13 rfl (es rfl l53_87))
                have l54_97 := lookE hA97 54 (e13 rfl (es rfl l54_87))
                have l55_97 := lookE hA97 55 (e13 rfl (es rfl l55_87))
                have l56_97 := lookE hA97 56 (e13 rfl (es rfl l56_87))
                have l59_97 := lookE hA97 59 (e13 rfl (es rfl l59_87))
                have l60_97 := lookE hA97 60 (e13 rfl (es rfl l60_87))
                have l61_97 := lookE hA97 61 (e13 rfl (es rfl l61_87))
                have l62_97 := lookE hA97 62 (e13 rfl (es rfl l62_87))
                have l63_97 := lookE hA97 63 (e13 rfl (es rfl l63_87))
                have l64_97 := lookE hA97 64 (e13 rfl (es rfl l64_87))
                have l65_97 := lookE hA97 65 (e13 rfl (es rfl l65_87))
                have l66_97 := lookE hA97 66 (e13 rfl (es rfl l66_87))
                have l67_97 := lookE hA97 67 (e13 rfl (es rfl l67_87))
                have l68_97 := lookE hA97 68 (e13 rfl (es rfl l68_87))
                have l69_97 := lookE hA97 69 (e13 rfl (es rfl l69_87))
                have l70_97 := lookE hA97 70 (e13 rfl (es rfl l70_87))
                have l71_97 := lookE hA97 71 (e13 rfl (es rfl l71_87))
                have l72_97 := lookE hA97 72 (e13 rfl (es rfl l72_87))
                have l96_97 := lookE hA97 96 (e7 rfl (et rfl))
                have l97_97 := lookE hA97 97 (e6 rfl (et rfl))
                have l98_97 := lookE hA97 98 (e5 rfl (et rfl))
                have l99_97 := lookE hA97 99 (e4 rfl (et rfl))
                have l100_97 := lookE hA97 100 (e3 rfl (et rfl))
                have l101_97 := lookE hA97 101 (e2 rfl (et rfl))
                have l102_97 := lookE hA97 102 (es rfl (et rfl))
                have l103_97 := lookE hA97 103 (et rfl)
                clear hA97 hsz87 hdf87 l1_87 l3_87 l5_87 l6_87 l7_87 l49_87 l50_87 l51_87 l52_87 l53_87 l54_87 l55_87 l56_87 l59_87 l60_87 l61_87 l62_87 l63_87 l64_87 l65_87 l66_87 l67_87 l68_87 l69_87 l70_87 l71_87 l72_87 l87_87
                refine then_n (hK90 _ _ ?_)
                clear hK90
                refine cond_f l103_97 ?_
                refine wp_skip ?_
                refine inb_n ?_
                refine then_n (hK89 _ _ ?_)
                clear hK89
                refine region_in ?_
                refine W_v rfl rfl (V_mov rfl l7_97) ?_
                refine W_v rfl rfl (V_add rfl (et rfl) rfl (by omega) (by omega)) ?_
                refine W_v rfl rfl (V_asg rfl (et rfl)) ?_
                refine W_end ?_
                refine gen_Q (fun A98 hA98 => ?_)
                have hsz98 := szq hA98
                have hdf98 : A98.defers = [] := by rw [hA98]; simp only [df_put]; exact hdf97
                have l1_98 := lookE hA98 1 (e2 rfl (es rfl l1_97))
                have l3_98 := lookE hA98 3 (e2 rfl (es rfl l3_97))
                have l5_98 := lookE hA98 5 (e2 rfl (es rfl l5_97))
                have l6_98 := lookE hA98 6 (e2 rfl (es rfl l6_97))
                have l7_98 := lookE hA98 7 (et rfl)
                have l49_98 := lookE hA98 49 (e2 rfl (es rfl l49_97))
                have l50_98 := lookE hA98 50 (e2 rfl (es rfl l50_97))
                have l51_98 := lookE hA98 51 (e2 rfl (es rfl l51_97))
                have l52_98 := lookE hA98 52 (e2 rfl (es rfl l52_97))
                have l53_98 := lookE hA98 53 (e2 rfl (es rfl l53_97))
                have l54_98 := lookE hA98 54 (e2 rfl (es rfl l54_97))
                have l55_98 := lookE hA98 55 (e2 rfl (es rfl l55_97))
                have l56_98 := lookE hA98 56 (e2 rfl (es rfl l56_97))
                have l59_98 := lookE hA98 59 (e2 rfl (es rfl l59_97))
                have l60_98 := lookE hA98 60 (e2 rfl (es rfl l60_97))
                have l61_98 := lookE hA98 61 (e2 rfl (es rfl l61_97))
                have l62_98 := lookE hA98 62 (e2 rfl (es rfl l62_97))
                have l63_98 := lookE hA98 63 (e2 rfl (es rfl l63_97))
                have l64_98 := lookE hA98 64 (e2 rfl (es rfl l64_97))
                have l65_98 := lookE hA98 65 (e2 rfl (es rfl l65_97))
                have l66_98 := lookE hA98 66 (e2 rfl (es rfl l66_97))
                have l67_98 := lookE hA98 67 (e2 rfl (es rfl l67_97))
                have l68_98 := lookE hA98 68 (e2 rfl (es rfl l68_97))
                have l69_98 := lookE hA98 69 (e2 rfl (es rfl l69_97))
                have l70_98 := lookE hA98 70 (e2 rfl (es rfl l70_97))
                have l71_98 := lookE hA98 71 (e2 rfl (es rfl l71_97))
                have l72_98 := lookE hA98 72 (e2 rfl (es rfl l72_97))
                have l96_98 := lookE hA98 96 (e2 rfl (es rfl l96_97))
                have l97_98 := lookE hA98 97 (e2 rfl (es rfl l97_97))
                have l98_98 := lookE hA98 98 (e2 rfl (es rfl l98_97))
                have l99_98 := lookE hA98 99 (e2 rfl (es rfl l99_97))
                have l100_98 := lookE hA98 100 (e2 rfl (es rfl l100_97))
                have l101_98 := lookE hA98 101 (e2 rfl (es rfl l101_97))
                have l102_98 := lookE hA98 102 (e2 rfl (es rfl l102_97))
                clear hA98 hsz97 hdf97 l1_97 l3_97 l5_97 l6_97 l7_97 l49_97 l50_97 l51_97 l52_97 l53_97 l54_97 l55_97 l56_97 l59_97 l60_97 l61_97 l62_97 l63_97 l64_97 l65_97 l66_97 l67_97 l68_97 l69_97 l70_97 l71_97 l72_97 l96_97 l97_97 l98_97 l99_97 l100_97 l101_97 l102_97 l103_97
                refine then_n ⟨y77.1.2.length - (m + 1), by simp only [hm84]; omega, hsz98, hdf98, (m + 1), rfl, (by omega), ((l7_98).trans (by first | rfl | (simp; done) | (congr 1; omega))), ((l1_98).trans l1_83.symm), ((l3_98).trans l3_83.symm), ((l5_98).trans l5_83.symm), ((l6_98).trans l6_83.symm), ((l49_98).trans l49_83.symm), ((l50_98).trans l50_83.symm), ((l51_98).trans l51_83.symm), ((l52_98).trans l52_83.symm), ((l53_98).trans l53_83.symm), ((l54_98).trans l54_83.symm), ((l55_98).trans l55_83.symm), ((l56_98).trans l56_83.symm), ((l59_98).trans l59_83.symm), ((l60_98).trans l60_83.symm), ((l61_98).trans l61_83.symm), ((l62_98).trans l62_83.symm), ((l63_98).trans l63_83.symm), ((l64_98).trans l64_83.symm), ((l65_98).trans l65_83.symm), ((l66_98).trans l66_83.symm), ((l67_98).trans l67_83.symm), ((l68_98).trans l68_83.symm), ((l69_98).trans l69_83.symm), ((l70_98).trans l70_83.symm), ((l71_98).trans l71_83.symm), ((l72_98).trans l72_83.symm), (by subst hc_84 hc2_84; exact hS84)⟩
            · skip
              refine wp_exit ?_
              refine then_exit ?_
              refine then_exit ?_
              refine inb_hit ?_
              refine inb_n ?_
              refine then_n (hK38 _ _ ?_)
              clear hK38
              refine region_in ?_
              refine W_v rfl rfl (V_mov rfl l5_87) ?_
              refine W_v rfl rfl (V_add rfl (et rfl) rfl (by omega) (by omega)) ?_
              refine W_v rfl rfl (V_asg rfl (et rfl)) ?_
              refine W_end ?_
              refine gen_Q (fun A99 hA99 => ?_)
              have hsz99 := szq hA99
              have hdf99 : A99.defers = [] := by rw [hA99]; simp only [df_put]; exact hdf87
              have l1_99 := lookE hA99 1 (e2 rfl (es rfl l1_87))
              have l3_99 := lookE hA99 3 (e2 rfl (es rfl l3_87))
              have l5_99 := lookE hA99 5 (et rfl)
              have l49_99 := lookE hA99 49 (e2 rfl (es rfl l49_87))
              have l50_99 := lookE hA99 50 (e2 rfl (es rfl l50_87))
              have l51_99 := lookE hA99 51 (e2 rfl (es rfl l51_87))
              have l52_99 := lookE hA99 52 (e2 rfl (es rfl l52_87))
              have l53_99 := lookE hA99 53 (e2 rfl (es rfl l53_87))
              have l54_99 := lookE hA99 54 (e2 rfl (es rfl l54_87))
              have l55_99 := lookE hA99 55 (e2 rfl (es rfl l55_87))
              have l56_99 := lookE hA99 56 (e2 rfl (es rfl l56_87))
              have l59_99 := lookE hA99 59 (e2 rfl (es rfl l59_87))
              have l60_99 := lookE hA99 60 (e2 rfl (es rfl l60_87))
              have l61_99 := lookE hA99 61 (e2 rfl (es rfl l61_87))
              have l62_99 := lookE hA99 62 (e2 rfl (es rfl l62_87))
              have l63_99 := lookE hA99 63 (e2 rfl (es rfl l63_87))
              have l64_99 := lookE hA99 64 (e2 rfl (es rfl l64_87))
              have l65_99 := lookE hA99 65 (e2 rfl (es rfl l65_87))
              have l66_99 := lookE hA99 66 (e2 rfl (es rfl l66_87))
              have l67_99 := lookE hA99 67 (e2 rfl (es rfl l67_87))
              have l68_99 := lookE hA99 68 (e2 rfl (es rfl l68_87))
              have l69_99 := lookE hA99 69 (e2 rfl (es rfl l69_87))
              have l70_99 := lookE hA99 70 (e2 rfl (es rfl l70_87))
              have l71_99 := lookE hA99 71 (e2 rfl (es rfl l71_87))
              have l72_99 := lookE hA99 72 (e2 rfl (es rfl l72_87))
              clear hA99 hsz87 hdf87 l1_87 l3_87 l5_87 l6_87 l7_87 l49_87 l50_87 l51_87 l52_87 l53_87 l54_87 l55_87 l56_87 l59_87 l60_87 l61_87 l62_87 l63_87 l64_87 l65_87 l66_87 l67_87 l68_87 l69_87 l70_87 l71_87 l72_87 l87_87
              refine then_n ⟨(lvT (O.map ab) rs).length - (k + 1), by simp only [hm33]; omega, hsz99, hdf99, (k + 1), rfl, (by omega), ((l5_99).trans (by first | rfl | (simp; done) | (congr 1; omega))), ((l1_99).trans l1_32.symm), ((l3_99).trans l3_32.symm), (by subst hc_84 hc2_84; exact hS84)⟩
        · skip
          refine wp_exit ?_
          refine then_exit ?_
          refine then_exit ?_
          refine inb_hit ?_
          refine then_n (hK30 _ _ ?_)
          clear hK30
          refine wp_seq_k (fun K100 hK100 => ?_)
          refine region_in ?_
          refine W_v rfl rfl (V_asg rfl rfl) ?_
          refine W_end ?_
          refine gen_Q (fun A101 hA101 => ?_)
          have hsz101 := szq hA101
          have hdf101 : A101.defers = [] := by rw [hA101]; simp only [df_put]; exact hdf36
          have l1_101 := lookE hA101 1 (es rfl l1_36)
          have l3_101 := lookE hA101 3 (es rfl l3_36)
          have l8_101 := lookE hA101 8 (et rfl)
          clear hA101 hsz36 hdf36 l1_36 l3_36 l5_36 l40_36
          refine then_n (hK100 _ _ ?_)
          clear hK100
          refine wp_seq_k (fun K102 hK102 => ?_)
          refine wp_seq_k (fun K103 hK103 => ?_)
          refine region_in ?_
          refine W_v rfl rfl (V_asg rfl rfl) ?_
          refine W_end ?_
          refine gen_Q (fun A104 hA104 => ?_)
          have hsz104 := szq hA104
          have hdf104 : A104.defers = [] := by rw [hA104]; simp only [df_put]; exact hdf101
          have l1_104 := lookE hA104 1 (es rfl l1_101)
          have l3_104 := lookE hA104 3 (es rfl l3_101)
          have l8_104 := lookE hA104 8 (es rfl l8_101)
          have l9_104 := lookE hA104 9 (et rfl)
          clear hA104 hsz101 hdf101 l1_101 l3_101 l8_101
          refine then_n (hK103 _ _ ?_)
          clear hK103
          refine wp_block ?_
          obtain ⟨c105, hc105, hS105⟩ := hS33.pnil (s := 1)
          -- loop 19
          refine loopX (fun mz A' w' => SzN A' 219 ∧ A'.defers = [] ∧ (∃ (k : Nat) (N : List Int) (nv : Value), (mz = rs.length - k) ∧ (k ≤ rs.length) ∧ (NrA (O.map ab) rs N) ∧ (RgI rs N k) ∧ (EV A' (.tmp 9) = .int .i64 (k : Int)) ∧ (EV A' (.tmp 8) = nv) ∧ (EV A' (.tmp 1) = EV A104 (.tmp 1)) ∧ (EV A' (.tmp 3) = EV A104 (.tmp 3)) ∧ (St w NoX [io .i64 nv N, io .i64 v_20 (lvT (O.map ab) rs), bx g2 25 #[ov, rv]] w'))) (rs.length - 0) ⟨hsz104, hdf104, 0, [], (.slice none 0 0), rfl, (by omega), (NrA.nil (O.map ab) rs), (RgI.zero rs []), ((l9_104).trans (by first | rfl | (simp; done) | (congr 1; omega))), ((l8_104).trans (by first | rfl | (simp; done) | (congr 1; omega))), rfl, rfl, (by subst hc105 hc_33 hc2_33; exact hS105)⟩ ?_
          clear hS105 hc105 hc_33 hc2_33
          rintro n106 A106 w106 ⟨hsz106, hdf106, k, N, nv, hm106, hk, hN, hR, l9_106, l8_106, u1_106, u3_106, hS106⟩
          have l1_106 := u1_106.trans l1_104
          have l3_106 := u3_106.trans l3_104
          obtain ⟨c105_106, c_106, c2_106, hc105_106, hc_106, hc2_106, hS106⟩ := gen3 hS106
          refine wp_seq_k (fun K107 hK107 => ?_)
          refine wp_seq_k (fun K108 hK108 => ?_)
          refine region_in ?_
          refine W_v rfl rfl (V_mov rfl l9_106) ?_
          refine W_v rfl rfl (V_fa (off' := 1) rfl (es rfl l1_106) Try.underlying25 rfl (by decide +kernel) rfl) ?_
          refine W_r rfl rfl (VR_ldC rfl (et rfl) (cell_box (v := rv) (hS106.obj 2 rfl hc2_106) rfl) Try.underlying23 rfl) ?_
          refine W_v rfl rfl (V_lenS rfl (et rfl) (sl_SlN h_rv.at) Try.underlying23) ?_
          refine W_v rfl rfl (V_lss rfl (e3 rfl (et rfl)) (et rfl)) ?_
          refine W_end ?_
          refine gen_Q (fun A109 hA109 => ?_)
          have hsz109 := szq hA109
          have hdf109 : A109.defers = [] := by rw [hA109]; simp only [df_put]; exact hdf106
          have l1_109 := lookE hA109 1 (e4 rfl (es rfl l1_106))
          have l3_109 := lookE hA109 3 (e4 rfl (es rfl l3_106))
          have l8_109 := lookE hA109 8 (e4 rfl (es rfl l8_106))
          have l9_109 := lookE hA109 9 (e4 rfl (es rfl l9_106))
          have l108_109 := lookE hA109 108 (et rfl)
          clear hA109 hsz106 hdf106 l9_106 l8_106 l1_106 l3_106
          refine then_n (hK108 _ _ ?_)
          clear hK108
          refine cond_dec l108_109 (fun c110 => ?_) (fun c110 => ?_)
          · skip
            refine wp_skip ?_
            refine then_n (hK107 _ _ ?_)
            clear hK107
            refine wp_seq_k (fun K111 hK111 => ?_)
            refine wp_block ?_
            refine wp_seq_k (fun K112 hK112 => ?_)
            refine region_in ?_
            refine W_v rfl rfl (V_fa (off' := 1) rfl l1_109 Try.underlying25 rfl (by decide +kernel) rfl) ?_
            refine W_r rfl rfl (VR_ldC rfl (et rfl) (cell_box (v := rv) (hS106.obj 2 rfl hc2_106) rfl) Try.underlying23 rfl) ?_
            refine W_v rfl rfl (V_mov rfl (es rfl (es rfl l9_109))) ?_
            have k113 : k < rs.length := by first | omega | (simp only [List.length_cons, List.length_nil]; omega) | (simp only [List.length_set]; omega)
            obtain ⟨y113, hy113⟩ := get_some (xs := rs) (k := k) k113
            have hNl113 := hN.len hg
            rw [List.length_map] at hNl113
            obtain ⟨B113, O113, C113, hv113⟩ := (SlN.blk (sl_SlN h_rv.at) (by first | omega | (simp only [List.length_cons, List.length_nil]; omega) | (simp only [List.length_set]; omega)))
            refine W_v rfl rfl (V_ixS (off := O113 + k) 1 (k) rfl (es rfl (et rfl)) (et rfl) hv113 (by omega) k113 Try.underlying23 (by kernel_rfl) (congrArg _ (Nat.mul_one _))) ?_
            refine W_r rfl rfl (VR_ldC rfl (et rfl) ((sl_SlN (hS106.ro h_rv)).cell hv113 (map_get hy113)) Try.underlying3 rfl) ?_
            refine W_v rfl rfl (V_neq rfl (et rfl) rfl) ?_
            refine W_split rfl rfl (V_mov rfl (et rfl)) (fun c114 => ?_) (fun c114 => ?_)
            · skip
              refine W_v rfl (wanted_t rfl rfl (et rfl) (ez rfl)) (V_mov rfl (e6 rfl (es rfl l8_109))) ?_
              refine W_v rfl (wanted_t rfl rfl (es rfl (et rfl)) (ez rfl)) (V_fa (off' := 1) rfl (e7 rfl (es rfl l1_109)) Try.underlying25 rfl (by decide +kernel) rfl) ?_
              refine W_r rfl (wanted_t rfl rfl (e2 rfl (et rfl)) (ez rfl)) (VR_ldC rfl (et rfl) (cell_box (v := rv) (hS106.obj 2 rfl hc2_106) rfl) Try.underlying23 rfl) ?_
              refine W_v rfl (wanted_t rfl rfl (e3 rfl (et rfl)) (ez rfl)) (V_mov rfl (e9 rfl (es rfl l9_109))) ?_
              refine W_v rfl (wanted_t rfl rfl (e4 rfl (et rfl)) (ez rfl)) (V_ixS (off := O113 + k) 1 (k) rfl (es rfl (et rfl)) (et rfl) hv113 (by omega) k113 Try.underlying23 (by kernel_rfl) (congrArg _ (Nat.mul_one _))) ?_
              refine W_r rfl (wanted_t rfl rfl (e5 rfl (et rfl)) (ez rfl)) (VR_ldC rfl (et rfl) ((sl_SlN (hS106.ro h_rv)).cell hv113 (map_get hy113)) Try.underlying3 rfl) ?_
              refine W_call rfl (wanted_t rfl rfl (e6 rfl (et rfl)) (ez rfl)) rfl Try.func22 (by kernel_rfl) rfl (args2 (e5 rfl (et rfl)) (et rfl)) (has_c (x := y113) (hS106.chC 0 rfl hc105_106).own ) ?_
              rintro _ w116 ⟨rfl, hP116⟩
              refine ⟨_, rfl, ?_⟩
              have hS116 := hS106.join hP116
              replace hS116 : St w NoX [c105_106, c_106, c2_106] w116 := hS116
              refine W_v rfl (wanted_t rfl rfl (e7 rfl (et rfl)) (ez rfl)) (V_notd rfl (et rfl)) ?_
              refine W_v rfl rfl (V_pickT rfl (e8 rfl (et rfl)) (et rfl)) ?_
              refine W_end ?_
              refine gen_Q (fun A117 hA117 => ?_)
              have hsz117 := szq hA117
              have hdf117 : A117.defers = [] := by rw [hA117]; simp only [df_put]; exact hdf109
              have l1_117 := lookE hA117 1 (e15 rfl (es rfl l1_109))
              have l3_117 := lookE hA117 3 (e15 rfl (es rfl l3_109))
              have l8_117 := lookE hA117 8 (e15 rfl (es rfl l8_109))
              have l9_117 := lookE hA117 9 (e15 rfl (es rfl l9_109))
              have l118_117 := lookE hA117 118 (e8 rfl (et rfl))
              have l119_117 := lookE hA117 119 (e7 rfl (et rfl))
              have l120_117 := lookE hA117 120 (e6 rfl (et rfl))
              have l121_117 := lookE hA117 121 (e5 rfl (et rfl))
              have l122_117 := lookE hA117 122 (e4 rfl (et rfl))
              have l123_117 := lookE hA117 123 (e3 rfl (et rfl))
              have l124_117 := lookE hA117 124 (e2 rfl (et rfl))
              have l125_117 := lookE hA117 125 (es rfl (et rfl))
              have l126_117 := lookE hA117 126 (et rfl)
              clear hA117 hsz109 hdf109 l1_109 l3_109 l8_109 l9_109 l108_109
              refine then_n (hK112 _ _ ?_)
              clear hK112
              refine cond_dec l126_117 (fun c118 => ?_) (fun c118 => ?_)
              · skip
                refine region_in ?_
                refine W_v rfl rfl (V_mov rfl l8_117) ?_
                refine W_v rfl rfl (V_fa (off' := 1) rfl (es rfl l1_117) Try.underlying25 rfl (by decide +kernel) rfl) ?_
                refine W_r rfl rfl (VR_ldC rfl (et rfl) (cell_box (v := rv) (hS116.obj 2 rfl hc2_106) rfl) Try.underlying23 rfl) ?_
                refine W_v rfl rfl (V_mov rfl (e2 rfl (es rfl l9_117))) ?_
                refine W_v rfl rfl (V_ixS (off := O113 + k) 1 (k) rfl (es rfl (et rfl)) (et rfl) hv113 (by omega) k113 Try.underlying23 (by kernel_rfl) (congrArg _ (Nat.mul_one _))) ?_
                refine W_r rfl rfl (VR_ldC rfl (et rfl) ((sl_SlN (hS116.ro h_rv)).cell hv113 (map_get hy113)) Try.underlying3 rfl) ?_
                have hll120 : [y113].length = 1 := rfl
                refine W_litS (vs := [.int .i64 (y113)]) (xs := ([y113].map (Value.int .i64))) 1 hS116 rfl rfl rfl (parts1 (et rfl)) rfl Try.underlying23 (by kernel_rfl) (by decide) (by intro v hv; simp only [List.mem_cons, List.not_mem_nil, or_false] at hv; rcases hv with rfl <;> rfl) (by rfl) (fun g120 w120 c120 hc120 hS120 => ?_)
                replace hc120 : c120 = io .i64 (.slice (some ⟨g120, 0, none⟩) 1 1) [y113] := hc120
                replace hS120 : St w NoX [c120, c105_106, c_106, c2_106] w120 := hS120
                refine W_appS 1 1 hS120 rfl hc105_106 rfl rfl rfl (e6 rfl (et rfl)) (et rfl) Try.underlying23 Try.underlying23 (z := .int .i64 0) (bytes := 8) (by kernel_rfl) rfl (by decide) (ow_at (hS120.chq 0 rfl hc120)) ones_i (by first | omega | (simp; done) | (simp; omega)) (by first | omega | (simp; done) | (simp; omega)) (fun v121 w121 c121 hc121 hS121 => ?_)
                replace hc121 : c121 = io .i64 v121 (N ++ [y113]) := hc121.trans (app_eq (by simp))
                replace hS121 : St w NoX [c120, c121, c_106, c2_106] w121 := hS121
                refine W_v rfl rfl (V_asg rfl (et rfl)) ?_
                refine W_end ?_
                refine gen_Q (fun A122 hA122 => ?_)
                have hsz122 := szq hA122
                have hdf122 : A122.defers = [] := by rw [hA122]; simp only [df_put]; exact hdf117
                have l1_122 := lookE hA122 1 (e8 rfl (es rfl l1_117))
                have l3_122 := lookE hA122 3 (e8 rfl (es rfl l3_117))
                have l8_122 := lookE hA122 8 (et rfl)
                have l9_122 := lookE hA122 9 (e8 rfl (es rfl l9_117))
                have l118_122 := lookE hA122 118 (e8 rfl (es rfl l118_117))
                have l119_122 := lookE hA122 119 (e8 rfl (es rfl l119_117))
                have l120_122 := lookE hA122 120 (e8 rfl (es rfl l120_117))
                have l121_122 := lookE hA122 121 (e8 rfl (es rfl l121_117))
                have l122_122 := lookE hA122 122 (e8 rfl (es rfl l122_117))
                have l123_122 := lookE hA122 123 (e8 rfl (es rfl l123_117))
                have l124_122 := lookE hA122 124 (e8 rfl (es rfl l124_117))
                have l125_122 := lookE hA122 125 (e8 rfl (es rfl l125_117))
                clear hA122 hsz117 hdf117 l1_117 l3_117 l8_117 l9_117 l118_117 l119_117 l120_117 l121_117 l122_117 l123_117 l124_117 l125_117 l126_117
                have hS123 : St w NoX [c121, c_106, c2_106] w121 := hS121.sel [1, 2, 3] (by decide) rfl
                refine inb_n ?_
                refine then_n (hK111 _ _ ?_)
                clear hK111
                refine region_in ?_
                refine W_v rfl rfl (V_mov rfl l9_122) ?_
                refine W_v rfl rfl (V_add rfl (et rfl) rfl (by omega) (by omega)) ?_
                refine W_v rfl rfl (V_asg rfl (et rfl)) ?_
                refine W_end ?_
                refine gen_Q (fun A124 hA124 => ?_)
                have hsz124 := szq hA124
                have hdf124 : A124.defers = [] := by rw [hA124]; simp only [df_put]; exact hdf122
                have l1_124 := lookE hA124 1 (e2 rfl (es rfl l1_122))
                have l3_124 := lookE hA124 3 (e2 rfl (es rfl l3_122))
                have l8_124 := lookE hA124 8 (e2 rfl (es rfl l8_122))
                have l9_124 := lookE hA124 9 (et rfl)
                have l118_124 := lookE hA124 118 (e2 rfl (es rfl l118_122))
                have l119_124 := lookE hA124 119 (e2 rfl (es rfl l119_122))
                have l120_124 := lookE hA124 120 (e2 rfl (es rfl l120_122))
                have l121_124 := lookE hA124 121 (e2 rfl (es rfl l121_122))
                have l122_124 := lookE hA124 122 (e2 rfl (es rfl l122_122))
                have l123_124 := lookE hA124 123 (e2 rfl (es rfl l123_122))
                have l124_124 := lookE hA124 124 (e2 rfl (es rfl l124_122))
                have l125_124 := lookE hA124 125 (e2 rfl (es rfl l125_122))
                clear hA124 hsz122 hdf122 l1_122 l3_122 l8_122 l9_122 l118_122 l119_122 l120_122 l121_122 l122_122 l123_122 l124_122 l125_122
                refine then_n ⟨rs.length - (k + 1), by simp only [hm106]; omega, hsz124, hdf124, (k + 1), (N ++ [y113]), v121, rfl, (by omega), (hN.push (.reg (List.mem_of_getElem? hy113) c114) c118), (hR.push hy113), ((l9_124).trans (by first | rfl | (simp; done) | (congr 1; omega))), ((l8_124).trans (by first | rfl | (simp; done) | (congr 1; omega))), ((l1_124).trans l1_104.symm), ((l3_124).trans l3_104.symm), (by subst hc121 hc_106 hc2_106; exact hS123)⟩
              · skip
                refine wp_skip ?_
                refine inb_n ?_
                refine then_n (hK111 _ _ ?_)
                clear hK111
                refine region_in ?_
                refine W_v rfl rfl (V_mov rfl l9_117) ?_
                refine W_v rfl rfl (V_add rfl (et rfl) rfl (by omega) (by omega)) ?_
                refine W_v rfl rfl (V_asg rfl (et rfl)) ?_
                refine W_end ?_
                refine gen_Q (fun A125 hA125 => ?_)
                have hsz125 := szq hA125
                have hdf125 : A125.defers = [] := by rw [hA125]; simp only [df_put]; exact hdf117
                have l1_125 := lookE hA125 1 (e2 rfl (es rfl l1_117))
                have l3_125 := lookE hA125 3 (e2 rfl (es rfl l3_117))
                have l8_125 := lookE hA125 8 (e2 rfl (es rfl l8_117))
                have l9_125 := lookE hA125 9 (et rfl)
                have l118_125 := lookE hA125 118 (e2 rfl (es rfl l118_117))
                have l119_125 := lookE hA125 119 (e2 rfl (es rfl l119_117))
                have l120_125 := lookE hA125 120 (e2 rfl (es rfl l120_117))
                have l121_125 := lookE hA125 121 (e2 rfl (es rfl l121_117))
                have l122_125 := lookE hA125 122 (e2 rfl (es rfl l122_117))
                have l123_125 := lookE hA125 123 (e2 rfl (es rfl l123_117))
                have l124_125 := lookE hA125 124 (e2 rfl (es rfl l124_117))
                have l125_125 := lookE hA125 125 (e2 rfl (es rfl l125_117))
                clear hA125 hsz117 hdf117 l1_117 l3_117 l8_117 l9_117 l118_117 l119_117 l120_117 l121_117 l122_117 l123_117 l124_117 l125_117 l126_117
                refine then_n ⟨rs.length - (k + 1), by simp only [hm106]; omega, hsz125, hdf125, (k + 1), N, nv, rfl, (by omega), hN, (hR.step hy113 (.inr (by have q := c118; simpa using q))), ((l9_125).trans (by first | rfl | (simp; done) | (congr 1; omega))), ((l8_125).trans (by first | rfl | (simp; done) | (congr 1; omega))), ((l1_125).trans l1_104.symm), ((l3_125).trans l3_104.symm), (by subst hc105_106 hc_106 hc2_106; exact hS116)⟩
            · skip
              refine W_off rfl (wanted_f rfl rfl (et rfl) (ez rfl) rfl) ?_
              refine W_off rfl (wanted_f rfl rfl (es rfl (et rfl)) (ez rfl) rfl) ?_
              refine W_off rfl (wanted_f rfl rfl (e2 rfl (et rfl)) (ez rfl) rfl) ?_
              refine W_off rfl (wanted_f rfl rfl (e3 rfl (et rfl)) (ez rfl) rfl) ?_
              refine W_off rfl (wanted_f rfl rfl (e4 rfl (et rfl)) (ez rfl) rfl) ?_
              refine W_off rfl (wanted_f rfl rfl (e5 rfl (et rfl)) (ez rfl) rfl) ?_
              refine W_off rfl (wanted_f rfl rfl (e6 rfl (et rfl)) (ez rfl) rfl) ?_
              refine W_off rfl (wanted_f rfl rfl (e7 rfl (et rfl)) (ez rfl) rfl) ?_
              refine W_v rfl rfl (V_pickF rfl (e8 rfl (et rfl)) rfl) ?_
              refine W_end ?_
              refine gen_Q (fun A126 hA126 => ?_)
              have hsz126 := szq hA126
              have hdf126 : A126.defers = [] := by rw [hA126]; simp only [df_put]; exact hdf109
              have l1_126 := lookE hA126 1 (e15 rfl (es rfl l1_109))
              have l3_126 := lookE hA126 3 (e15 rfl (es rfl l3_109))
              have l8_126 := lookE hA126 8 (e15 rfl (es rfl l8_109))
              have l9_126 := lookE hA126 9 (e15 rfl (es rfl l9_109))
              have l118_126 := lookE hA126 118 (e8 rfl (et rfl))
              have l119_126 := lookE hA126 119 (e7 rfl (et rfl))
              have l120_126 := lookE hA126 120 (e6 rfl (et rfl))
              have l121_126 := lookE hA126 121 (e5 rfl (et rfl))
              have l122_126 := lookE hA126 122 (e4 rfl (et rfl))
              have l123_126 := lookE hA126 123 (e3 rfl (et rfl))
              have l124_126 := lookE hA126 124 (e2 rfl (et rfl))
              have l125_126 := lookE hA126 125 (es rfl (et rfl))
              have l126_126 := lookE hA126 126 (et rfl)
              clear hA126 hsz109 hdf109 l1_109 l3_109 l8_109 l9_109 l108_109
              refine then_n (hK112 _ _ ?_)
              clear hK112
              refine cond_f l126_126 ?_
              refine wp_skip ?_
              refine inb_n ?_
              refine then_n (hK111 _ _ ?_)
              clear hK111
              refine region_in ?_
              refine W_v rfl rfl (V_mov rfl l9_126) ?_
              refine W_v rfl rfl (V_add rfl (et rfl) rfl (by omega) (by omega)) ?_
              refine W_v rfl rfl (V_asg rfl (et rfl)) ?_
              refine W_end ?_
              refine gen_Q (fun A127 hA127 => ?_)
              have hsz127 := szq hA127
              have hdf127 : A127.defers = [] := by rw [hA127]; simp only [df_put]; exact hdf126
              have l1_127 := lookE hA127 1 (e2 rfl (es rfl l1_126))
              have l3_127 := lookE hA127 3 (e2 rfl (es rfl l3_126))
              have l8_127 := lookE hA127 8 (e2 rfl (es rfl l8_126))
              have l9_127 := lookE hA127 9 (et rfl)
              have l118_127 := lookE hA127 118 (e2 rfl (es rfl l118_126))
              have l119_127 := lookE hA127 119 (e2 rfl (es rfl l119_126))
              have l120_127 := lookE hA127 120 (e2 rfl (es rfl l120_126))
              have l121_127 := lookE hA127 121 (e2 rfl (es rfl l121_126))
              have l122_127 := lookE hA127 122 (e2 rfl (es rfl l122_126))
              have l123_127 := lookE hA127 123 (e2 rfl (es rfl l123_126))
              have l124_127 := lookE hA127 124 (e2 rfl (es rfl l124_126))
              have l125_127 := lookE hA127 125 (e2 rfl (es rfl l125_126))
              clear hA127 hsz126 hdf126 l1_126 l3_126 l8_126 l9_126 l118_126 l119_126 l120_126 l121_126 l122_126 l123_126 l124_126 l125_126 l126_126
              refine then_n ⟨rs.length - (k + 1), by simp only [hm106]; omega, hsz127, hdf127, (k + 1), N, nv, rfl, (by omega), hN, (hR.step hy113 (.inl (by have q := c114; omega))), ((l9_127).trans (by first | rfl | (simp; done) | (congr 1; omega))), ((l8_127).trans (by first | rfl | (simp; done) | (congr 1; omega))), ((l1_127).trans l1_104.symm), ((l3_127).trans l3_104.symm), (by subst hc105_106 hc_106 hc2_106; exact hS106)⟩
          · skip
            refine wp_exit ?_
            refine then_exit ?_
            refine then_exit ?_
            refine inb_hit ?_
            refine then_n (hK102 _ _ ?_)
            clear hK102
            refine wp_seq_k (fun K128 hK128 => ?_)
            refine wp_seq_k (fun K129 hK129 => ?_)
            refine region_in ?_
            refine W_v rfl rfl (V_asg rfl rfl) ?_
            refine W_end ?_
            refine gen_Q (fun A130 hA130 => ?_)
            have hsz130 := szq hA130
            have hdf130 : A130.defers = [] := by rw [hA130]; simp only [df_put]; exact hdf109
            have l1_130 := lookE hA130 1 (es rfl l1_109)
            have l3_130 := lookE hA130 3 (es rfl l3_109)
            have l8_130 := lookE hA130 8 (es rfl l8_109)
            have l10_130 := lookE hA130 10 (et rfl)
            clear hA130 hsz109 hdf109 l1_109 l3_109 l8_109 l9_109 l108_109
            refine then_n (hK129 _ _ ?_)
            clear hK129
            refine wp_block ?_
            -- loop 24
            refine loopX (fun mz A' w' => SzN A' 219 ∧ A'.defers = [] ∧ (∃ (st : Nat) (N : List Int) (nv : Value), (mz = O.length - st) ∧ (st ≤ O.length) ∧ (NrA (O.map ab) rs N) ∧ (RgI rs N rs.length) ∧ (0 < st → ClI (O.map ab) N N.length) ∧ (EV A' (.tmp 10) = .int .i64 (st : Int)) ∧ (EV A' (.tmp 8) = nv) ∧ (EV A' (.tmp 1) = EV A130 (.tmp 1)) ∧ (EV A' (.tmp 3) = EV A130 (.tmp 3)) ∧ (St w NoX [io .i64 nv N, io .i64 v_20 (lvT (O.map ab) rs), bx g2 25 #[ov, rv]] w'))) (O.length - 0) ⟨hsz130, hdf130, 0, N, nv, rfl, (by omega), hN, (by rw [show rs.length = k by omega]; exact hR), (fun h => by omega), ((l10_130).trans (by first | rfl | (simp; done) | (congr 1; omega))), ((l8_130).trans (by first | rfl | (simp; done) | (congr 1; omega))), rfl, rfl, (by subst hc105_106 hc_106 hc2_106; exact hS106)⟩ ?_
            clear hS106 hc105_106 hc_106 hc2_106
            rintro n131 A131 w131 ⟨hsz131, hdf131, st, N, nv, hm131, hst, hN, hR, hC, l10_131, l8_131, u1_131, u3_131, hS131⟩
            have l1_131 := u1_131.trans l1_130
            have l3_131 := u3_131.trans l3_130
            obtain ⟨c105_131, c_131, c2_131, hc105_131, hc_131, hc2_131, hS131⟩ := gen3 hS131
            refine wp_seq_k (fun K132 hK132 => ?_)
            refine wp_seq_k (fun K133 hK133 => ?_)
            refine region_in ?_
            refine W_v rfl rfl (V_mov rfl l10_131) ?_
            refine W_v rfl rfl (V_fa (off' := 0) rfl (es rfl l1_131) Try.underlying25 rfl (by decide +kernel) rfl) ?_
            refine W_r rfl rfl (VR_ldC rfl (et rfl) (cell_box (v := ov) (hS131.obj 2 rfl hc2_131) rfl) Try.underlying22 rfl) ?_
            refine W_v rfl rfl (V_lenS rfl (et rfl) (sl_SlN h_ov.at) Try.underlying22) ?_
            refine W_v rfl rfl (V_lss rfl (e3 rfl (et rfl)) (et rfl)) ?_
            refine W_end ?_
            refine gen_Q (fun A134 hA134 => ?_)
            have hsz134 := szq hA134
            have hdf134 : A134.defers = [] := by rw [hA134]; simp only [df_put]; exact hdf131
            have l1_134 := lookE hA134 1 (e4 rfl (es rfl l1_131))
            have l3_134 := lookE hA134 3 (e4 rfl (es rfl l3_131))
            have l8_134 := lookE hA134 8 (e4 rfl (es rfl l8_131))
            have l10_134 := lookE hA134 10 (e4 rfl (es rfl l10_131))
            have l139_134 := lookE hA134 139 (et rfl)
            clear hA134 hsz131 hdf131 l10_131 l8_131 l1_131 l3_131
            refine then_n (hK133 _ _ ?_)
            clear hK133
            refine cond_dec l139_134 (fun c135 => ?_) (fun c135 => ?_)
            · skip
              refine wp_skip ?_
              refine then_n (hK132 _ _ ?_)
              clear hK132
              refine wp_seq_k (fun K136 hK136 => ?_)
              refine wp_block ?_
              refine wp_seq_k (fun K137 hK137 => ?_)
              refine region_in ?_
              refine W_v rfl rfl (V_asg rfl rfl) ?_
              refine W_end ?_
              refine gen_Q (fun A138 hA138 => ?_)
              have hsz138 := szq hA138
              have hdf138 : A138.defers = [] := by rw [hA138]; simp only [df_put]; exact hdf134
              have l1_138 := lookE hA138 1 (es rfl l1_134)
              have l3_138 := lookE hA138 3 (es rfl l3_134)
              have l8_138 := lookE hA138 8 (es rfl l8_134)
              have l10_138 := lookE hA138 10 (es rfl l10_134)
              have l11_138 := lookE hA138 11 (et rfl)
              clear hA138 hsz134 hdf134 l1_134 l3_134 l8_134 l10_134 l139_134
              refine then_n (hK137 _ _ ?_)
              clear hK137
              refine wp_block ?_
              -- loop 27
              refine loopX (fun mz A' w' => SzN A' 219 ∧ A'.defers = [] ∧ (∃ (i : Nat) (N : List Int) (nv : Value), (mz = O.length - i) ∧ (i ≤ N.length) ∧ (NrA (O.map ab) rs N) ∧ (RgI rs N rs.length) ∧ (ClI (O.map ab) N i) ∧ (EV A' (.tmp 11) = .int .i64 (i : Int)) ∧ (EV A' (.tmp 8) = nv) ∧ (EV A' (.tmp 1) = EV A138 (.tmp 1)) ∧ (EV A' (.tmp 3) = EV A138 (.tmp 3)) ∧ (EV A' (.tmp 10) = EV A138 (.tmp 10)) ∧ (St w NoX [io .i64 nv N, io .i64 v_20 (lvT (O.map ab) rs), bx g2 25 #[ov, rv]] w'))) (O.length - 0) ⟨hsz138, hdf138, 0, N, nv, rfl, (by omega), hN, hR, (ClI.zero (O.map ab) N), ((l11_138).trans (by first | rfl | (simp; done) | (congr 1; omega))), ((l8_138).trans (by first | rfl | (simp; done) | (congr 1; omega))), rfl, rfl, rfl, (by subst hc105_131 hc_131 hc2_131; exact hS131)⟩ ?_
              clear hS131 hc105_131 hc_131 hc2_131
              rintro n139 A139 w139 ⟨hsz139, hdf139, i, N, nv, hm139, hi, hN, hR, hC, l11_139, l8_139, u1_139, u3_139, u10_139, hS139⟩
              have l1_139 := u1_139.trans l1_138
              have l3_139 := u3_139.trans l3_138
              have l10_139 := u10_139.trans l10_138
              obtain ⟨c105_139, c_139, c2_139, hc105_139, hc_139, hc2_139, hS139⟩ := gen3 hS139
              refine wp_seq_k (fun K140 hK140 => ?_)
              refine wp_seq_k (fun K141 hK141 => ?_)
              refine region_in ?_
              refine W_v rfl rfl (V_mov rfl l11_139) ?_
              refine W_v rfl rfl (V_mov rfl (es rfl l8_139)) ?_
              refine W_v rfl rfl (V_lenS rfl (et rfl) (ow_at (hS139.chq 0 rfl hc105_139)) Try.underlying23) ?_
              refine W_v rfl rfl (V_lss rfl (e2 rfl (et rfl)) (et rfl)) ?_
              refine W_end ?_
              refine gen_Q (fun A142 hA142 => ?_)
              have hsz142 := szq hA142
              have hdf142 : A142.defers = [] := by rw [hA142]; simp only [df_put]; exact hdf139
              have l1_142 := lookE hA142 1 (e3 rfl (es rfl l1_139))
              have l3_142 := lookE hA142 3 (e3 rfl (es rfl l3_139))
              have l8_142 := lookE hA142 8 (e3 rfl (es rfl l8_139))
              have l10_142 := lookE hA142 10 (e3 rfl (es rfl l10_139))
              have l11_142 := lookE hA142 11 (e3 rfl (es rfl l11_139))
              have l145_142 := lookE hA142 145 (et rfl)
              clear hA142 hsz139 hdf139 l11_139 l8_139 l1_139 l3_139 l10_139
              refine then_n (hK141 _ _ ?_)
              clear hK141
              refine cond_dec l145_142 (fun c143 => ?_) (fun c143 => ?_)
              · skip
                refine wp_skip ?_
                refine then_n (hK140 _ _ ?_)
                clear hK140
                refine wp_seq_k (fun K144 hK144 => ?_)
                refine wp_block ?_
                refine wp_seq_k (fun K145 hK145 => ?_)
                refine wp_seq_k (fun K146 hK146 => ?_)
                refine region_monoS 15 15 [] (by kernel_rfl) (by kernel_rfl) ?_
                refine D_v rfl rfl (V_mov rfl l8_142) rfl rfl ?_
                refine D_v rfl rfl (V_mov rfl (es rfl l11_142)) rfl rfl ?_
                have k147 : i < N.length := by first | omega | (simp only [List.length_cons, List.length_nil]; omega) | (simp only [List.length_set]; omega)
                obtain ⟨y147, hy147⟩ := get_some (xs := N) (k := i) k147
                have hlv147 := hN.sound _ (List.mem_of_getElem? hy147)
                have hlr147 := hlv147.rng hg
                rw [List.length_map] at hlr147
                have hNl147 := hN.len hg
                rw [List.length_map] at hNl147
                obtain ⟨B147, O147, C147, hv147⟩ := (SlN.blk (ow_at (hS139.chq 0 rfl hc105_139)) (by first | omega | (simp only [List.length_cons, List.length_nil]; omega) | (simp only [List.length_set]; omega)))
                refine D_v rfl rfl (V_ixS (off := O147 + i) 1 (i) rfl (es rfl (et rfl)) (et rfl) hv147 (by omega) k147 Try.underlying23 (by kernel_rfl) (congrArg _ (Nat.mul_one _))) rfl rfl ?_
                refine D_r rfl rfl (by kernel_rfl) (fun sx hx hF => (VR_ldC rfl (et rfl) ((ow_at ((hS139.grow hx).chq 0 rfl hc105_139)).cell hv147 (map_get hy147)) Try.underlying3 rfl)) rfl rfl ?_
                refine D_v rfl rfl (V_lss rfl (et rfl) rfl) rfl rfl ?_
                refine D_sure (c' := false) rfl rfl (V_mov rfl (et rfl)) (by rw [decide_eq_false_iff_not]; omega) rfl rfl ?_
                refine D_v rfl (wanted_t rfl rfl (et rfl) (ez rfl)) (V_mov rfl (e5 rfl (es rfl l8_142))) rfl rfl ?_
                refine D_v rfl (wanted_t rfl rfl (es rfl (et rfl)) (ez rfl)) (V_mov rfl (e6 rfl (es rfl l11_142))) rfl rfl ?_
                refine D_v rfl (wanted_t rfl rfl (e2 rfl (et rfl)) (ez rfl)) (V_ixS (off := O147 + i) 1 (i) rfl (es rfl (et rfl)) (et rfl) hv147 (by omega) k147 Try.underlying23 (by kernel_rfl) (congrArg _ (Nat.mul_one _))) rfl rfl ?_
                refine D_r rfl (wanted_t rfl rfl (e3 rfl (et rfl)) (ez rfl)) (by kernel_rfl) (fun sx hx hF => (VR_ldC rfl (et rfl) ((ow_at ((hS139.grow hx).chq 0 rfl hc105_139)).cell hv147 (map_get hy147)) Try.underlying3 rfl)) rfl rfl ?_
                refine D_v rfl (wanted_t rfl rfl (e4 rfl (et rfl)) (ez rfl)) (V_fa (off' := 0) rfl (e9 rfl (es rfl l1_142)) Try.underlying25 rfl (by decide +kernel) rfl) rfl rfl ?_
                refine D_r rfl (wanted_t rfl rfl (e5 rfl (et rfl)) (ez rfl)) (by kernel_rfl) (fun sx hx hF => (VR_ldC rfl (et rfl) (cell_box (v := ov) ((hS139.grow hx).obj 2 rfl hc2_139) rfl) Try.underlying22 rfl)) rfl rfl ?_
                refine D_v rfl (wanted_t rfl rfl (e6 rfl (et rfl)) (ez rfl)) (V_lenS rfl (et rfl) (sl_SlN h_ov.at) Try.underlying22) rfl rfl ?_
                refine D_v rfl (wanted_t rfl rfl (e7 rfl (et rfl)) (ez rfl)) (V_gtr rfl (e3 rfl (et rfl)) (et rfl)) rfl rfl ?_
                refine D_v rfl rfl (V_pickF rfl (e8 rfl (et rfl)) (et rfl)) rfl rfl ?_
                refine ZS_none hS139 (Nat.le_refl _) (Nat.le_refl _) (fun s149 hJ149 hL149 hF149 => ?_)
                have hS149 := hJ149.st; clear hF149 hJ149 hL149
                generalize s149.1 = w149 at *
                replace hS149 : St w NoX [c105_139, c_139, c2_139] w149 := hS149
                refine gen_Q (fun A150 hA150 => ?_)
                have hsz150 := szq hA150
                have hdf150 : A150.defers = [] := by rw [hA150]; simp only [df_put]; exact hdf142
                have l1_150 := lookE hA150 1 (e14 rfl (es rfl l1_142))
                have l3_150 := lookE hA150 3 (e14 rfl (es rfl l3_142))
                have l8_150 := lookE hA150 8 (e14 rfl (es rfl l8_142))
                have l10_150 := lookE hA150 10 (e14 rfl (es rfl l10_142))
                have l11_150 := lookE hA150 11 (e14 rfl (es rfl l11_142))
                have l154_150 := lookE hA150 154 (e8 rfl (et rfl))
                have l155_150 := lookE hA150 155 (e7 rfl (et rfl))
                have l156_150 := lookE hA150 156 (e6 rfl (et rfl))
                have l157_150 := lookE hA150 157 (e5 rfl (et rfl))
                have l158_150 := lookE hA150 158 (e4 rfl (et rfl))
                have l159_150 := lookE hA150 159 (e3 rfl (et rfl))
                have l160_150 := lookE hA150 160 (e2 rfl (et rfl))
                have l161_150 := lookE hA150 161 (es rfl (et rfl))
                have l162_150 := lookE hA150 162 (et rfl)
                clear hA150 hsz142 hdf142 l1_142 l3_142 l8_142 l10_142 l11_142 l145_142
                refine then_n (hK146 _ _ ?_)
                clear hK146
                refine cond_not l162_150 (by rw [decide_eq_false_iff_not]; omega) ?_
                refine wp_skip ?_
                refine then_n (hK145 _ _ ?_)
                clear hK145
                refine wp_seq_k (fun K151 hK151 => ?_)
                refine region_monoS 11 11 [] (by kernel_rfl) (by kernel_rfl) ?_
                refine D_v rfl rfl (V_fa (off' := 0) rfl l1_150 Try.underlying25 rfl (by decide +kernel) rfl) rfl rfl ?_
                refine D_r rfl rfl (by kernel_rfl) (fun sx hx hF => (VR_ldC rfl (et rfl) (cell_box (v := ov) ((hS149.grow hx).obj 2 rfl hc2_139) rfl) Try.underlying22 rfl)) rfl rfl ?_
                refine D_v rfl rfl (V_mov rfl (es rfl (es rfl l8_150))) rfl rfl ?_
                refine D_v rfl rfl (V_mov rfl (e2 rfl (es rfl l11_150))) rfl rfl ?_
                refine D_v rfl rfl (V_ixS (off := O147 + i) 1 (i) rfl (es rfl (et rfl)) (et rfl) hv147 (by omega) k147 Try.underlying23 (by kernel_rfl) (congrArg _ (Nat.mul_one _))) rfl rfl ?_
                refine D_r rfl rfl (by kernel_rfl) (fun sx hx hF => (VR_ldC rfl (et rfl) ((ow_at ((hS149.grow hx).chq 0 rfl hc105_139)).cell hv147 (map_get hy147)) Try.underlying3 rfl)) rfl rfl ?_
                refine D_v rfl rfl (V_sb rfl (et rfl) rfl (by omega) (by omega)) rfl rfl ?_
                have k153 : (y147 - 1).toNat < O.length := by first | omega | (simp only [List.length_cons, List.length_nil]; omega) | (simp only [List.length_set]; omega)
                obtain ⟨y153, hy153⟩ := get_some (xs := O) (k := (y147 - 1).toNat) k153
                have hpt153 := pt_at hy153
                obtain ⟨B153, O153, C153, hv153⟩ := (SlN.blk (sl_SlN h_ov.at) (by first | omega | (simp only [List.length_cons, List.length_nil]; omega) | (simp only [List.length_set]; omega)))
                refine D_v rfl rfl (V_ixS (off := O153 + ((y147 - 1).toNat) * 2) 2 ((y147 - 1).toNat) rfl (e5 rfl (et rfl)) (et rfl) hv153 (by omega) k153 Try.underlying22 (by kernel_rfl) rfl) rfl rfl ?_
                refine D_v rfl rfl (V_fa (off' := O153 + ((y147 - 1).toNat) * 2 + 0) rfl (et rfl) Try.underlying40 rfl (by decide +kernel) rfl) rfl rfl ?_
                have fn154 : Ro w NoX (il .i64 y153.1.1 y153.1.2) := nst_ro1 n_ov hy153
                have bfn154 := SlN.le (sl_SlN (hS149.ro fn154))
                have fn155 : Ro w NoX (il .u64 y153.2.1 y153.2.2) := nst_ro2 n_ov hy153
                have bfn155 := SlN.le (sl_SlN (hS149.ro fn155))
                refine D_r rfl rfl (by kernel_rfl) (fun sx hx hF => (VR_ldC (v := y153.1.1) rfl (et rfl) (SlN.row obC_len (sl_SlN ((hS149.grow hx).ro h_ov)) hv153 hy153 rfl 0 _ rfl) Try.underlying23 rfl)) rfl rfl ?_
                refine D_v rfl rfl (V_asg rfl (et rfl)) rfl rfl ?_
                refine ZS_none hS149 (Nat.le_refl _) (Nat.le_refl _) (fun s156 hJ156 hL156 hF156 => ?_)
                have hS156 := hJ156.st; clear hF156 hJ156 hL156
                generalize s156.1 = w156 at *
                replace hS156 : St w NoX [c105_139, c_139, c2_139] w156 := hS156
                refine gen_Q (fun A157 hA157 => ?_)
                have hsz157 := szq hA157
                have hdf157 : A157.defers = [] := by rw [hA157]; simp only [df_put]; exact hdf150
                have l1_157 := lookE hA157 1 (e10 rfl (es rfl l1_150))
                have l3_157 := lookE hA157 3 (e10 rfl (es rfl l3_150))
                have l8_157 := lookE hA157 8 (e10 rfl (es rfl l8_150))
                have l10_157 := lookE hA157 10 (e10 rfl (es rfl l10_150))
                have l11_157 := lookE hA157 11 (e10 rfl (es rfl l11_150))
                have l12_157 := lookE hA157 12 (et rfl)
                have l154_157 := lookE hA157 154 (e10 rfl (es rfl l154_150))
                have l155_157 := lookE hA157 155 (e10 rfl (es rfl l155_150))
                have l156_157 := lookE hA157 156 (e10 rfl (es rfl l156_150))
                have l157_157 := lookE hA157 157 (e10 rfl (es rfl l157_150))
                have l158_157 := lookE hA157 158 (e10 rfl (es rfl l158_150))
                have l159_157 := lookE hA157 159 (e10 rfl (es rfl l159_150))
                have l160_157 := lookE hA157 160 (e10 rfl (es rfl l160_150))
                have l161_157 := lookE hA157 161 (e10 rfl (es rfl l161_150))
                clear hA157 hsz150 hdf150 l1_150 l3_150 l8_150 l10_150 l11_150 l154_150 l155_150 l156_150 l157_150 l158_150 l159_150 l160_150 l161_150 l162_150
                refine then_n (hK151 _ _ ?_)
                clear hK151
                refine wp_seq_k (fun K158 hK158 => ?_)
                refine region_in ?_
                refine W_v rfl rfl (V_asg rfl rfl) ?_
                refine W_end ?_
                refine gen_Q (fun A159 hA159 => ?_)
                have hsz159 := szq hA159
                have hdf159 : A159.defers = [] := by rw [hA159]; simp only [df_put]; exact hdf157
                have l1_159 := lookE hA159 1 (es rfl l1_157)
                have l3_159 := lookE hA159 3 (es rfl l3_157)
                have l8_159 := lookE hA159 8 (es rfl l8_157)
                have l10_159 := lookE hA159 10 (es rfl l10_157)
                have l11_159 := lookE hA159 11 (es rfl l11_157)
                have l12_159 := lookE hA159 12 (es rfl l12_157)
                have l13_159 := lookE hA159 13 (et rfl)
                have l154_159 := lookE hA159 154 (es rfl l154_157)
                have l155_159 := lookE hA159 155 (es rfl l155_157)
                have l156_159 := lookE hA159 156 (es rfl l156_157)
                have l157_159 := lookE hA159 157 (es rfl l157_157)
                have l158_159 := lookE hA159 158 (es rfl l158_157)
                have l159_159 := lookE hA159 159 (es rfl l159_157)
                have l160_159 := lookE hA159 160 (es rfl l160_157)
                have l161_159 := lookE hA159 161 (es rfl l161_157)
                clear hA159 hsz157 hdf157 l1_157 l3_157 l8_157 l10_157 l11_157 l12_157 l154_157 l155_157 l156_157 l157_157 l158_157 l159_157 l160_157 l161_157
                refine then_n (hK158 _ _ ?_)
                clear hK158
                refine wp_block ?_
                -- loop 33
                refine loopX (fun mz A' w' => SzN A' 219 ∧ A'.defers = [] ∧ (∃ (q : Nat) (N2 : List Int) (nv2 : Value), (mz = y153.1.2.length - q) ∧ (q ≤ y153.1.2.length) ∧ (NrA (O.map ab) rs N2) ∧ (RgI rs N2 rs.length) ∧ (ClI (O.map ab) N2 i) ∧ (RgI y153.1.2 N2 q) ∧ (N2[i]? = some y147) ∧ (i < N2.length) ∧ (EV A' (.tmp 13) = .int .i64 (q : Int)) ∧ (EV A' (.tmp 8) = nv2) ∧ (EV A' (.tmp 1) = EV A159 (.tmp 1)) ∧ (EV A' (.tmp 3) = EV A159 (.tmp 3)) ∧ (EV A' (.tmp 10) = EV A159 (.tmp 10)) ∧ (EV A' (.tmp 11) = EV A159 (.tmp 11)) ∧ (EV A' (.tmp 12) = EV A159 (.tmp 12)) ∧ (EV A' (.tmp 154) = EV A159 (.tmp 154)) ∧ (EV A' (.tmp 155) = EV A159 (.tmp 155)) ∧ (EV A' (.tmp 156) = EV A159 (.tmp 156)) ∧ (EV A' (.tmp 157) = EV A159 (.tmp 157)) ∧ (EV A' (.tmp 158) = EV A159 (.tmp 158)) ∧ (EV A' (.tmp 159) = EV A159 (.tmp 159)) ∧ (EV A' (.tmp 160) = EV A159 (.tmp 160)) ∧ (EV A' (.tmp 161) = EV A159 (.tmp 161)) ∧ (St w NoX [io .i64 nv2 N2, io .i64 v_20 (lvT (O.map ab) rs), bx g2 25 #[ov, rv]] w'))) (y153.1.2.length - 0) ⟨hsz159, hdf159, 0, N, nv, rfl, (by omega), hN, hR, hC, (RgI.zero y153.1.2 N), hy147, (by omega), ((l13_159).trans (by first | rfl | (simp; done) | (congr 1; omega))), ((l8_159).trans (by first | rfl | (simp; done) | (congr 1; omega))), rfl, rfl, rfl, rfl, rfl, rfl, rfl, rfl, rfl, rfl, rfl, rfl, rfl, (by subst hc105_139 hc_139 hc2_139; exact hS156)⟩ ?_
                clear hS156 hc105_139 hc_139 hc2_139
                rintro n160 A160 w160 ⟨hsz160, hdf160, q, N2, nv2, hm160, hq, hN2, hR2, hC2, hQ, hx, hi2, l13_160, l8_160, u1_160, u3_160, u10_160, u11_160, u12_160, u154_160, u155_160, u156_160, u157_160, u158_160, u159_160, u160_160, u161_160, hS160⟩
                have l1_160 := u1_160.trans l1_159
                have l3_160 := u3_160.trans l3_159
                have l10_160 := u10_160.trans l10_159
                have l11_160 := u11_160.trans l11_159
                have l12_160 := u12_160.trans l12_159
                have l154_160 := u154_160.trans l154_159
                have l155_160 := u155_160.trans l155_159
                have l156_160 := u156_160.trans l156_159
                have l157_160 := u157_160.trans l157_159
                have l158_160 := u158_160.trans l158_159
                have l159_160 := u159_160.trans l159_159
                have l160_160 := u160_160.trans l160_159
                have l161_160 := u161_160.trans l161_159
                obtain ⟨c105_160, c_160, c2_160, hc105_160, hc_160, hc2_160, hS160⟩ := gen3 hS160
                refine wp_seq_k (fun K161 hK161 => ?_)
                refine wp_seq_k (fun K162 hK162 => ?_)
                refine region_in ?_
                refine W_v rfl rfl (V_mov rfl l13_160) ?_
                refine W_v rfl rfl (V_mov rfl (es rfl l12_160)) ?_
                refine W_v rfl rfl (V_lenS rfl (et rfl) (sl_SlN fn154.at) Try.underlying23) ?_
                refine W_v rfl rfl (V_lss rfl (e2 rfl (et rfl)) (et rfl)) ?_
                refine W_end ?_
                refine gen_Q (fun A163 hA163 => ?_)
                have hsz163 := szq hA163
                have hdf163 : A163.defers = [] := by rw [hA163]; simp only [df_put]; exact hdf160
                have l1_163 := lookE hA163 1 (e3 rfl (es rfl l1_160))
                have l3_163 := lookE hA163 3 (e3 rfl (es rfl l3_160))
                have l8_163 := lookE hA163 8 (e3 rfl (es rfl l8_160))
                have l10_163 := lookE hA163 10 (e3 rfl (es rfl l10_160))
                have l11_163 := lookE hA163 11 (e3 rfl (es rfl l11_160))
                have l12_163 := lookE hA163 12 (e3 rfl (es rfl l12_160))
                have l13_163 := lookE hA163 13 (e3 rfl (es rfl l13_160))
                have l154_163 := lookE hA163 154 (e3 rfl (es rfl l154_160))
                have l155_163 := lookE hA163 155 (e3 rfl (es rfl l155_160))
                have l156_163 := lookE hA163 156 (e3 rfl (es rfl l156_160))
                have l157_163 := lookE hA163 157 (e3 rfl (es rfl l157_160))
                have l158_163 := lookE hA163 158 (e3 rfl (es rfl l158_160))
                have l159_163 := lookE hA163 159 (e3 rfl (es rfl l159_160))
                have l160_163 := lookE hA163 160 (e3 rfl (es rfl l160_160))
                have l161_163 := lookE hA163 161 (e3 rfl (es rfl l161_160))
                have l176_163 := lookE hA163 176 (et rfl)
                clear hA163 hsz160 hdf160 l13_160 l8_160 l1_160 l3_160 l10_160 l11_160 l12_160 l154_160 l155_160 l156_160 l157_160 l158_160 l159_160 l160_160 l161_160
                refine then_n (hK162 _ _ ?_)
                clear hK162
                refine cond_dec l176_163 (fun c164 => ?_) (fun c164 => ?_)
                · skip
                  refine wp_skip ?_
                  refine then_n (hK161 _ _ ?_)
                  clear hK161
                  refine wp_seq_k (fun K165 hK165 => ?_)
                  refine wp_block ?_
                  refine wp_seq_k (fun K166 hK166 => ?_)
                  refine region_in ?_
                  refine W_v rfl rfl (V_mov rfl l12_163) ?_
                  refine W_v rfl rfl (V_mov rfl (es rfl l13_163)) ?_
                  have k167 : q < y153.1.2.length := by first | omega | (simp only [List.length_cons, List.length_nil]; omega) | (simp only [List.length_set]; omega)
                  obtain ⟨y167, hy167⟩ := get_some (xs := y153.1.2) (k := q) k167
                  have hpp167 : y167 ∈ pt (O.map ab) y147 := by rw [hpt153]; exact List.mem_of_getElem? hy167
                  have hNl167 := hN2.len hg
                  rw [List.length_map] at hNl167
                  obtain ⟨B167, O167, C167, hv167⟩ := (SlN.blk (sl_SlN fn154.at) (by first | omega | (simp only [List.length_cons, List.length_nil]; omega) | (simp only [List.length_set]; omega)))
                  refine W_v rfl rfl (V_ixS (off := O167 + q) 1 (q) rfl (es rfl (et rfl)) (et rfl) hv167 (by omega) k167 Try.underlying23 (by kernel_rfl) (congrArg _ (Nat.mul_one _))) ?_
                  refine W_r rfl rfl (VR_ldC rfl (et rfl) ((sl_SlN (hS160.ro fn154)).cell hv167 (map_get hy167)) Try.underlying3 rfl) ?_
                  refine W_v rfl rfl (V_neq rfl (et rfl) rfl) ?_
                  refine W_split rfl rfl (V_mov rfl (et rfl)) (fun c168 => ?_) (fun c168 => ?_)
                  · skip
                    refine W_v rfl (wanted_t rfl rfl (et rfl) (ez rfl)) (V_mov rfl (e5 rfl (es rfl l8_163))) ?_
                    refine W_v rfl (wanted_t rfl rfl (es rfl (et rfl)) (ez rfl)) (V_mov rfl (e6 rfl (es rfl l12_163))) ?_
                    refine W_v rfl (wanted_t rfl rfl (e2 rfl (et rfl)) (ez rfl)) (V_mov rfl (e7 rfl (es rfl l13_163))) ?_
                    refine W_v rfl (wanted_t rfl rfl (e3 rfl (et rfl)) (ez rfl)) (V_ixS (off := O167 + q) 1 (q) rfl (es rfl (et rfl)) (et rfl) hv167 (by omega) k167 Try.underlying23 (by kernel_rfl) (congrArg _ (Nat.mul_one _))) ?_
                    refine W_r rfl (wanted_t rfl rfl (e4 rfl (et rfl)) (ez rfl)) (VR_ldC rfl (et rfl) ((sl_SlN (hS160.ro fn154)).cell hv167 (map_get hy167)) Try.underlying3 rfl) ?_
                    refine W_call rfl (wanted_t rfl rfl (e5 rfl (et rfl)) (ez rfl)) rfl Try.func22 (by kernel_rfl) rfl (args2 (e4 rfl (et rfl)) (et rfl)) (has_c (x := y167) (hS160.chC 0 rfl hc105_160).own ) ?_
                    rintro _ w170 ⟨rfl, hP170⟩
                    refine ⟨_, rfl, ?_⟩
                    have hS170 := hS160.join hP170
                    replace hS170 : St w NoX [c105_160, c_160, c2_160] w170 := hS170
                    refine W_v rfl (wanted_t rfl rfl (e6 rfl (et rfl)) (ez rfl)) (V_notd rfl (et rfl)) ?_
                    refine W_v rfl rfl (V_pickT rfl (e7 rfl (et rfl)) (et rfl)) ?_
                    refine W_end ?_
                    refine gen_Q (fun A171 hA171 => ?_)
                    have hsz171 := szq hA171
                    have hdf171 : A171.defers = [] := by rw [hA171]; simp only [df_put]; exact hdf163
                    have l1_171 := lookE hA171 1 (e13 rfl (es rfl l1_163))
                    have l3_171 := lookE hA171 3 (e13 rfl (es rfl l3_163))
                    have l8_171 := lookE hA171 8 (e13 rfl (es rfl l8_163))
                    have l10_171 := lookE hA171 10 (e13 rfl (es rfl l10_163))
                    have l11_171 := lookE hA171 11 (e13 rfl (es rfl l11_163))
                    have l12_171 := lookE hA171 12 (e13 rfl (es rfl l12_163))
                    have l13_171 := lookE hA171 13 (e13 rfl (es rfl l13_163))
                    have l154_171 := lookE hA171 154 (e13 rfl (es rfl l154_163))
                    have l155_171 := lookE hA171 155 (e13 rfl (es rfl l155_163))
                    have l156_171 := lookE hA171 156 (e13 rfl (es rfl l156_163))
                    have l157_171 := lookE hA171 157 (e13 rfl (es rfl l157_163))
                    have l158_171 := lookE hA171 158 (e13 rfl (es rfl l158_163))
                    have l159_171 := lookE hA171 159 (e13 rfl (es rfl l159_163))
                    have l160_171 := lookE hA171 160 (e13 rfl (es rfl l160_163))
                    have l161_171 := lookE hA171 161 (e13 rfl (es rfl l161_163))
                    have l185_171 := lookE hA171 185 (e7 rfl (et rfl))
                    have l186_171 := lookE hA171 186 (e6 rfl (et rfl))
                    have l187_171 := lookE hA171 187 (e5 rfl (et rfl))
                    have l188_171 := lookE hA171 188 (e4 rfl (et rfl))
                    have l189_171 := lookE hA171 189 (e3 rfl (et rfl))
                    have l190_171 := lookE hA171 190 (e2 rfl (et rfl))
                    have l191_171 := lookE hA171 191 (es rfl (et rfl))
                    have l192_171 := lookE hA171 192 (et rfl)
                    clear hA171 hsz163 hdf163 l1_163 l3_163 l8_163 l10_163 l11_163 l12_163 l13_163 l154_163 l155_163 l156_163 l157_163 l158_163 l159_163 l160_163 l161_163 l176_163
                    refine then_n (hK166 _ _ ?_)
                    clear hK166
                    refine cond_dec l192_171 (fun c172 => ?_) (fun c172 => ?_)
                    · skip
                      refine region_in ?_
                      refine W_v rfl rfl (V_mov rfl l8_171) ?_
                      refine W_v rfl rfl (V_mov rfl (es rfl l12_171)) ?_
                      refine W_v rfl rfl (V_mov rfl (es rfl (es rfl l13_171))) ?_
                      refine W_v rfl rfl (V_ixS (off := O167 + q) 1 (q) rfl (es rfl (et rfl)) (et rfl) hv167 (by omega) k167 Try.underlying23 (by kernel_rfl) (congrArg _ (Nat.mul_one _))) ?_
                      refine W_r rfl rfl (VR_ldC rfl (et rfl) ((sl_SlN (hS170.ro fn154)).cell hv167 (map_get hy167)) Try.underlying3 rfl) ?_
                      have hll174 : [y167].length = 1 := rfl
                      refine W_litS (vs := [.int .i64 (y167)]) (xs := ([y167].map (Value.int .i64))) 1 hS170 rfl rfl rfl (parts1 (et rfl)) rfl Try.underlying23 (by kernel_rfl) (by decide) (by intro v hv; simp only [List.mem_cons, List.not_mem_nil, or_false] at hv; rcases hv with rfl <;> rfl) (by rfl) (fun g174 w174 c174 hc174 hS174 => ?_)
                      replace hc174 : c174 = io .i64 (.slice (some ⟨g174, 0, none⟩) 1 1) [y167] := hc174
                      replace hS174 : St w NoX [c174, c105_160, c_160, c2_160] w174 := hS174
                      refine W_appS 1 1 hS174 rfl hc105_160 rfl rfl rfl (e5 rfl (et rfl)) (et rfl) Try.underlying23 Try.underlying23 (z := .int .i64 0) (bytes := 8) (by kernel_rfl) rfl (by decide) (ow_at (hS174.chq 0 rfl hc174)) ones_i (by first | omega | (simp; done) | (simp; omega)) (by first | omega | (simp; done) | (simp; omega)) (fun v175 w175 c175 hc175 hS175 => ?_)
                      replace hc175 : c175 = io .i64 v175 (N2 ++ [y167]) := hc175.trans (app_eq (by simp))
                      replace hS175 : St w NoX [c174, c175, c_160, c2_160] w175 := hS175
                      refine W_v rfl rfl (V_asg rfl (et rfl)) ?_
                      refine W_end ?_
                      refine gen_Q (fun A176 hA176 => ?_)
                      have hsz176 := szq hA176
                      have hdf176 : A176.defers = [] := by rw [hA176]; simp only [df_put]; exact hdf171
                      have l1_176 := lookE hA176 1 (e7 rfl (es rfl l1_171))
                      have l3_176 := lookE hA176 3 (e7 rfl (es rfl l3_171))
                      have l8_176 := lookE hA176 8 (et rfl)
                      have l10_176 := lookE hA176 10 (e7 rfl (es rfl l10_171))
                      have l11_176 := lookE hA176 11 (e7 rfl (es rfl l11_171))
                      have l12_176 := lookE hA176 12 (e7 rfl (es rfl l12_171))
                      have l13_176 := lookE hA176 13 (e7 rfl (es rfl l13_171))
                      have l154_176 := lookE hA176 154 (e7 rfl (es rfl l154_171))
                      have l155_176 := lookE hA176 155 (e7 rfl (es rfl l155_171))
                      have l156_176 := lookE hA176 156 (e7 rfl (es rfl l156_171))
                      have l157_176 := lookE hA176 157 (e7 rfl (es rfl l157_171))
                      have l158_176 := lookE hA176 158 (e7 rfl (es rfl l158_171))
                      have l159_176 := lookE hA176 159 (e7 rfl (es rfl l159_171))
                      have l160_176 := lookE hA176 160 (e7 rfl (es rfl l160_171))
                      have l161_176 := lookE hA176 161 (e7 rfl (es rfl l161_171))
                      have l185_176 := lookE hA176 185 (e7 rfl (es rfl l185_171))
                      have l186_176 := lookE hA176 186 (e7 rfl (es rfl l186_171))
                      have l187_176 := lookE hA176 187 (e7 rfl (es rfl l187_171))
                      have l188_176 := lookE hA176 188 (e7 rfl (es rfl l188_171))
                      have l189_176 := lookE hA176 189 (e7 rfl (es rfl l189_171))
                      have l190_176 := lookE hA176 190 (e7 rfl (es rfl l190_171))
                      have l191_176 := lookE hA176 191 (e7 rfl (es rfl l191_171))
                      clear hA176 hsz171 hdf171 l1_171 l3_171 l8_171 l10_171 l11_171 l12_171 l13_171 l154_171 l155_171 l156_171 l157_171 l158_171 l159_171 l160_171 l161_171 l185_171 l186_171 l187_171 l188_171 l189_171 l190_171 l191_171 l192_171
                      have hS177 : St w NoX [c175, c_160, c2_160] w175 := hS175.sel [1, 2, 3] (by decide) rfl
                      refine inb_n ?_
                      refine then_n (hK165 _ _ ?_)
                      clear hK165
                      refine region_in ?_
                      refine W_v rfl rfl (V_mov rfl l13_176) ?_
                      refine W_v rfl rfl (V_add rfl (et rfl) rfl (by omega) (by omega)) ?_
                      refine W_v rfl rfl (V_asg rfl (et rfl)) ?_
                      refine W_end ?_
                      refine gen_Q (fun A178 hA178 => ?_)
                      have hsz178 := szq hA178
                      have hdf178 : A178.defers = [] := by rw [hA178]; simp only [df_put]; exact hdf176
                      have l1_178 := lookE hA178 1 (e2 rfl (es rfl l1_176))
                      have l3_178 := lookE hA178 3 (e2 rfl (es rfl l3_176))
                      have l8_178 := lookE hA178 8 (e2 rfl (es rfl l8_176))
                      have l10_178 := lookE hA178 10 (e2 rfl (es rfl l10_176))
                      have l11_178 := lookE hA178 11 (e2 rfl (es rfl l11_176))
                      have l12_178 := lookE hA178 12 (e2 rfl (es rfl l12_176))
                      have l13_178 := lookE hA178 13 (et rfl)
                      have l154_178 := lookE hA178 154 (e2 rfl (es rfl l154_176))
                      have l155_178 := lookE hA178 155 (e2 rfl (es rfl l155_176))
                      have l156_178 := lookE hA178 156 (e2 rfl (es rfl l156_176))
                      have l157_178 := lookE hA178 157 (e2 rfl (es rfl l157_176))
                      have l158_178 := lookE hA178 158 (e2 rfl (es rfl l158_176))
                      have l159_178 := lookE hA178 159 (e2 rfl (es rfl l159_176))
                      have l160_178 := lookE hA178 160 (e2 rfl (es rfl l160_176))
                      have l161_178 := lookE hA178 161 (e2 rfl (es rfl l161_176))
                      have l185_178 := lookE hA178 185 (e2 rfl (es rfl l185_176))
                      have l186_178 := lookE hA178 186 (e2 rfl (es rfl l186_176))
                      have l187_178 := lookE hA178 187 (e2 rfl (es rfl l187_176))
                      have l188_178 := lookE hA178 188 (e2 rfl (es rfl l188_176))
                      have l189_178 := lookE hA178 189 (e2 rfl (es rfl l189_176))
                      have l190_178 := lookE hA178 190 (e2 rfl (es rfl l190_176))
                      have l191_178 := lookE hA178 191 (e2 rfl (es rfl l191_176))
                      clear hA178 hsz176 hdf176 l1_176 l3_176 l8_176 l10_176 l11_176 l12_176 l13_176 l154_176 l155_176 l156_176 l157_176 l158_176 l159_176 l160_176 l161_176 l185_176 l186_176 l187_176 l188_176 l189_176 l190_176 l191_176
                      refine then_n ⟨y153.1.2.length - (q + 1), by simp only [hm160]; omega, hsz178, hdf178, (q + 1), (N2 ++ [y167]), v175, rfl, (by omega), (hN2.push (.ptr hlv147 hpp167 c168) c172), hR2.mono, (hC2.mono (by omega)), (hQ.push hy167), (by rw [List.getElem?_append_left (by omega)]; exact hx), (by rw [List.length_append]; omega), ((l13_178).trans (by first | rfl | (simp; done) | (congr 1; omega))), ((l8_178).trans (by first | rfl | (simp; done) | (congr 1; omega))), ((l1_178).trans l1_159.symm), ((l3_178).trans l3_159.symm), ((l10_178).trans l10_159.symm), ((l11_178).trans l11_159.symm), ((l12_178).trans l12_159.symm), ((l154_178).trans l154_159.symm), ((l155_178).trans l155_159.symm), ((l156_178).trans l156_159.symm), ((l157_178).trans l157_159.symm), ((l158_178).trans l158_159.symm), ((l159_178).trans l159_159.symm), ((l160_178).trans l160_159.symm), ((l161_178).trans l161_159.symm), (by subst hc175 hc_160 hc2_160; exact hS177)⟩
                    · skip
                      refine wp_skip ?_
                      refine inb_n ?_
                      refine then_n (hK165 _ _ ?_)
                      clear hK165
                      refine region_in ?_
                      refine W_v rfl rfl (V_mov rfl l13_171) ?_
                      refine W_v rfl rfl (V_add rfl (et rfl) rfl (by omega) (by omega)) ?_
                      refine W_v rfl rfl (V_asg rfl (et rfl)) ?_
                      refine W_end ?_
                      refine gen_Q (fun A179 hA179 => ?_)
                      have hsz179 := szq hA179
                      have hdf179 : A179.defers = [] := by rw [hA179]; simp only [df_put]; exact hdf171
                      have l1_179 := lookE hA179 1 (e2 rfl (es rfl l1_171))
                      have l3_179 := lookE hA179 3 (e2 rfl (es rfl l3_171))
                      have l8_179 := lookE hA179 8 (e2 rfl (es rfl l8_171))
                      have l10_179 := lookE hA179 10 (e2 rfl (es rfl l10_171))
                      have l11_179 := lookE hA179 11 (e2 rfl (es rfl l11_171))
                      have l12_179 := lookE hA179 12 (e2 rfl (es rfl l12_171))
                      have l13_179 := lookE hA179 13 (et rfl)
                      have l154_179 := lookE hA179 154 (e2 rfl (es rfl l154_171))
                      have l155_179 := lookE hA179 155 (e2 rfl (es rfl l155_171))
                      have l156_179 := lookE hA179 156 (e2 rfl (es rfl l156_171))
                      have l157_179 := lookE hA179 157 (e2 rfl (es rfl l157_171))
                      have l158_179 := lookE hA179 158 (e2 rfl (es rfl l158_171))
                      have l159_179 := lookE hA179 159 (e2 rfl (es rfl l159_171))
                      have l160_179 := lookE hA179 160 (e2 rfl (es rfl l160_171))
                      have l161_179 := lookE hA179 161 (e2 rfl (es rfl l161_171))
                      have l185_179 := lookE hA179 185 (e2 rfl (es rfl l185_171))
                      have l186_179 := lookE hA179 186 (e2 rfl (es rfl l186_171))
                      have l187_179 := lookE hA179 187 (e2 rfl (es rfl l187_171))
                      have l188_179 := lookE hA179 188 (e2 rfl (es rfl l188_171))
                      have l189_179 := lookE hA179 189 (e2 rfl (es rfl l189_171))
                      have l190_179 := lookE hA179 190 (e2 rfl (es rfl l190_171))
                      have l191_179 := lookE hA179 191 (e2 rfl (es rfl l191_171))
                      clear hA179 hsz171 hdf171 l1_171 l3_171 l8_171 l10_171 l11_171 l12_171 l13_171 l154_171 l155_171 l156_171 l157_171 l158_171 l159_171 l160_171 l161_171 l185_171 l186_171 l187_171 l188_171 l189_171 l190_171 l191_171 l192_171
                      refine then_n ⟨y153.1.2.length - (q + 1), by simp only [hm160]; omega, hsz179, hdf179, (q + 1), N2, nv2, rfl, (by omega), hN2, hR2, hC2, (hQ.step hy167 (.inr (by have q := c172; simpa using q))), hx, hi2, ((l13_179).trans (by first | rfl | (simp; done) | (congr 1; omega))), ((l8_179).trans (by first | rfl | (simp; done) | (congr 1; omega))), ((l1_179).trans l1_159.symm), ((l3_179).trans l3_159.symm), ((l10_179).trans l10_159.symm), ((l11_179).trans l11_159.symm), ((l12_179).trans l12_159.symm), ((l154_179).trans l154_159.symm), ((l155_179).trans l155_159.symm), ((l156_179).trans l156_159.symm), ((l157_179).trans l157_159.symm), ((l158_179).trans l158_159.symm), ((l159_179).trans l159_159.symm), ((l160_179).trans l160_159.symm), ((l161_179).trans l161_159.symm), (by subst hc105_160 hc_160 hc2_160; exact hS170)⟩
                  · skip
                    refine W_off rfl (wanted_f rfl rfl (et rfl) (ez rfl) rfl) ?_
                    refine W_off rfl (wanted_f rfl rfl (es rfl (et rfl)) (ez rfl) rfl) ?_
                    refine W_off rfl (wanted_f rfl rfl (e2 rfl (et rfl)) (ez rfl) rfl) ?_
                    refine W_off rfl (wanted_f rfl rfl (e3 rfl (et rfl)) (ez rfl) rfl) ?_
                    refine W_off rfl (wanted_f rfl rfl (e4 rfl (et rfl)) (ez rfl) rfl) ?_
                    refine W_off rfl (wanted_f rfl rfl (e5 rfl (et rfl)) (ez rfl) rfl) ?_
                    refine W_off rfl (wanted_f rfl rfl (e6 rfl (et rfl)) (ez rfl) rfl) ?_
                    refine W_v rfl rfl (V_pickF rfl (e7 rfl (et rfl)) rfl) ?_
                    refine W_end ?_
                    refine gen_Q (fun A180 hA180 => ?_)
                    have hsz180 := szq hA180
                    have hdf180 : A180.defers = [] := by rw [hA180]; simp only [df_put]; exact hdf163
                    have l1_180 := lookE hA180 1 (e13 rfl (es rfl l1_163))
                    have l3_180 := lookE hA180 3 (e13 rfl (es rfl l3_163))
                    have l8_180 := lookE hA180 8 (e13 rfl (es rfl l8_163))
                    have l10_180 := lookE hA180 10 (e13 rfl (es rfl l10_163))
                    have l11_180 := lookE hA180 11 (e13 rfl (es rfl l11_163))
                    have l12_180 := lookE hA180 12 (e13 rfl (es rfl l12_163))
                    have l13_180 := lookE hA180 13 (e13 rfl (es rfl l13_163))
                    have l154_180 := lookE hA180 154 (e13 rfl (es rfl l154_163))
                    have l155_180 := lookE hA180 155 (e13 rfl (es rfl l155_163))
                    have l156_180 := lookE hA180 156 (e13 rfl (es rfl l156_163))
                    have l157_180 := lookE hA180 157 (e13 rfl (es rfl l157_163))
                    have l158_180 := lookE hA180 158 (e13 rfl (es rfl l158_163))
                    have l159_180 := lookE hA180 159 (e13 rfl (es rfl l159_163))
                    have l160_180 := lookE hA180 160 (e13 rfl (es rfl l160_163))
                    have l161_180 := lookE hA180 161 (e13 rfl (es rfl l161_163))
                    have l185_180 := lookE hA180 185 (e7 rfl (et rfl))
                    have l186_180 := lookE hA180 186 (e6 rfl (et rfl))
                    have l187_180 := lookE hA180 187 (e5 rfl (et rfl))
                    have l188_180 := lookE hA180 188 (e4 rfl (et rfl))
                    have l189_180 := lookE hA180 189 (e3 rfl (et rfl))
                    have l190_180 := lookE hA180 190 (e2 rfl (et rfl))
                    have l191_180 := lookE hA180 191 (es rfl (et rfl))
                    have l192_180 := lookE hA180 192 (et rfl)
                    clear hA180 hsz163 hdf163 l1_163 l3_163 l8_163 l10_163 l11_163 l12_163 l13_163 l154_163 l155_163 l156_163 l157_163 l158_163 l159_163 l160_163 l161_163 l176_163
                    refine then_n (hK166 _ _ ?_)
                    clear hK166
                    refine cond_f l192_180 ?_
                    refine wp_skip ?_
                    refine inb_n ?_
                    refine then_n (hK165 _ _ ?_)
                    clear hK165
                    refine region_in ?_
                    refine W_v rfl rfl (V_mov rfl l13_180) ?_
                    refine W_v rfl rfl (V_add rfl (et rfl) rfl (by omega) (by omega)) ?_
                    refine W_v rfl rfl (V_asg rfl (et rfl)) ?_
                    refine W_end ?_
                    refine gen_Q (fun A181 hA181 => ?_)
                    have hsz181 := szq hA181
                    have hdf181 : A181.defers = [] := by rw [hA181]; simp only [df_put]; exact hdf180
                    have l1_181 := lookE hA181 1 (e2 rfl (es rfl l1_180))
                    have l3_181 := lookE hA181 3 (e2 rfl (es rfl l3_180))
                    have l8_181 := lookE hA181 8 (e2 rfl (es rfl l8_180))
                    have l10_181 := lookE hA181 10 (e2 rfl (es rfl l10_180))
                    have l11_181 := lookE hA181 11 (e2 rfl (es rfl l11_180))
                    have l12_181 := lookE hA181 12 (e2 rfl (es rfl l12_180))
                    have l13_181 := lookE hA181 13 (et rfl)
                    have l154_181 := lookE hA181 154 (e2 rfl (es rfl l154_180))
                    have l155_181 := lookE hA181 155 (e2 rfl (es rfl l155_180))
                    have l156_181 := lookE hA181 156 (e2 rfl (es rfl l156_180))
                    have l157_181 := lookE hA181 157 (e2 rfl (es rfl l157_180))
                    have l158_181 := lookE hA181 158 (e2 rfl (es rfl l158_180))
                    have l159_181 := lookE hA181 159 (e2 rfl (es rfl l159_180))
                    have l160_181 := lookE hA181 160 (e2 rfl (es rfl l160_180))
                    have l161_181 := lookE hA181 161 (e2 rfl (es rfl l161_180))
                    have l185_181 := lookE hA181 185 (e2 rfl (es rfl l185_180))
                    have l186_181 := lookE hA181 186 (e2 rfl (es rfl l186_180))
                    have l187_181 := lookE hA181 187 (e2 rfl (es rfl l187_180))
                    have l188_181 := lookE hA181 188 (e2 rfl (es rfl l188_180))
                    have l189_181 := lookE hA181 189 (e2 rfl (es rfl l189_180))
                    have l190_181 := lookE hA181 190 (e2 rfl (es rfl l190_180))
                    have l191_181 := lookE hA181 191 (e2 rfl (es rfl l191_180))
                    clear hA181 hsz180 hdf180 l1_180 l3_180 l8_180 l10_180 l11_180 l12_180 l13_180 l154_180 l155_180 l156_180 l157_180 l158_180 l159_180 l160_180 l161_180 l185_180 l186_180 l187_180 l188_180 l189_180 l190_180 l191_180 l192_180
                    refine then_n ⟨y153.1.2.length - (q + 1), by simp only [hm160]; omega, hsz181, hdf181, (q + 1), N2, nv2, rfl, (by omega), hN2, hR2, hC2, (hQ.step hy167 (.inl (by have q := c168; omega))), hx, hi2, ((l13_181).trans (by first | rfl | (simp; done) | (congr 1; omega))), ((l8_181).trans (by first | rfl | (simp; done) | (congr 1; omega))), ((l1_181).trans l1_159.symm), ((l3_181).trans l3_159.symm), ((l10_181).trans l10_159.symm), ((l11_181).trans l11_159.symm), ((l12_181).trans l12_159.symm), ((l154_181).trans l154_159.symm), ((l155_181).trans l155_159.symm), ((l156_181).trans l156_159.symm), ((l157_181).trans l157_159.symm), ((l158_181).trans l158_159.symm), ((l159_181).trans l159_159.symm), ((l160_181).trans l160_159.symm), ((l161_181).trans l161_159.symm), (by subst hc105_160 hc_160 hc2_160; exact hS160)⟩
                · skip
                  refine wp_exit ?_
                  refine then_exit ?_
                  refine then_exit ?_
                  refine inb_hit ?_
                  refine inb_n ?_
                  refine then_n (hK144 _ _ ?_)
                  clear hK144
                  refine region_in ?_
                  refine W_v rfl rfl (V_mov rfl l11_163) ?_
                  refine W_v rfl rfl (V_add rfl (et rfl) rfl (by omega) (by omega)) ?_
                  refine W_v rfl rfl (V_asg rfl (et rfl)) ?_
                  refine W_end ?_
                  refine gen_Q (fun A182 hA182 => ?_)
                  have hsz182 := szq hA182
                  have hdf182 : A182.defers = [] := by rw [hA182]; simp only [df_put]; exact hdf163
                  have l1_182 := lookE hA182 1 (e2 rfl (es rfl l1_163))
                  have l3_182 := lookE hA182 3 (e2 rfl (es rfl l3_163))
                  have l8_182 := lookE hA182 8 (e2 rfl (es rfl l8_163))
                  have l10_182 := lookE hA182 10 (e2 rfl (es rfl l10_163))
                  have l11_182 := lookE hA182 11 (et rfl)
                  have l154_182 := lookE hA182 154 (e2 rfl (es rfl l154_163))
                  have l155_182 := lookE hA182 155 (e2 rfl (es rfl l155_163))
                  have l156_182 := lookE hA182 156 (e2 rfl (es rfl l156_163))
                  have l157_182 := lookE hA182 157 (e2 rfl (es rfl l157_163))
                  have l158_182 := lookE hA182 158 (e2 rfl (es rfl l158_163))
                  have l159_182 := lookE hA182 159 (e2 rfl (es rfl l159_163))
                  have l160_182 := lookE hA182 160 (e2 rfl (es rfl l160_163))
                  have l161_182 := lookE hA182 161 (e2 rfl (es rfl l161_163))
                  clear hA182 hsz163 hdf163 l1_163 l3_163 l8_163 l10_163 l11_163 l12_163 l13_163 l154_163 l155_163 l156_163 l157_163 l158_163 l159_163 l160_163 l161_163 l176_163
                  refine then_n ⟨O.length - (i + 1), by simp only [hm139]; omega, hsz182, hdf182, (i + 1), N2, nv2, rfl, (by omega), hN2, hR2, (hC2.step hx hpt153 hQ (by omega)), ((l11_182).trans (by first | rfl | (simp; done) | (congr 1; omega))), ((l8_182).trans (by first | rfl | (simp; done) | (congr 1; omega))), ((l1_182).trans l1_138.symm), ((l3_182).trans l3_138.symm), ((l10_182).trans l10_138.symm), (by subst hc105_160 hc_160 hc2_160; exact hS160)⟩
              · skip
                refine wp_exit ?_
                refine then_exit ?_
                refine then_exit ?_
                refine inb_hit ?_
                refine inb_n ?_
                refine then_n (hK136 _ _ ?_)
                clear hK136
                refine region_in ?_
                refine W_v rfl rfl (V_mov rfl l10_142) ?_
                refine W_v rfl rfl (V_add rfl (et rfl) rfl (by omega) (by omega)) ?_
                refine W_v rfl rfl (V_asg rfl (et rfl)) ?_
                refine W_end ?_
                refine gen_Q (fun A183 hA183 => ?_)
                have hsz183 := szq hA183
                have hdf183 : A183.defers = [] := by rw [hA183]; simp only [df_put]; exact hdf142
                have l1_183 := lookE hA183 1 (e2 rfl (es rfl l1_142))
                have l3_183 := lookE hA183 3 (e2 rfl (es rfl l3_142))
                have l8_183 := lookE hA183 8 (e2 rfl (es rfl l8_142))
                have l10_183 := lookE hA183 10 (et rfl)
                clear hA183 hsz142 hdf142 l1_142 l3_142 l8_142 l10_142 l11_142 l145_142
                refine then_n ⟨O.length - (st + 1), by simp only [hm131]; omega, hsz183, hdf183, (st + 1), N, nv, rfl, (by omega), hN, hR, (fun _ => by rw [show N.length = i by omega]; exact hC), ((l10_183).trans (by first | rfl | (simp; done) | (congr 1; omega))), ((l8_183).trans (by first | rfl | (simp; done) | (congr 1; omega))), ((l1_183).trans l1_130.symm), ((l3_183).trans l3_130.symm), (by subst hc105_139 hc_139 hc2_139; exact hS139)⟩
            · skip
              have hAll := hN.done hg hR (Nat.le_refl _) (if h : 0 < st then .inl (hC h) else .inr (by rw [List.length_map]; omega))
              have hLen := hN.lens hg hAll
              refine wp_exit ?_
              refine then_exit ?_
              refine then_exit ?_
              refine inb_hit ?_
              refine then_n (hK128 _ _ ?_)
              clear hK128
              refine wp_seq_k (fun K184 hK184 => ?_)
              refine wp_seq_k (fun K185 hK185 => ?_)
              refine region_in ?_
              refine W_v rfl rfl (V_mov rfl l8_134) ?_
              refine W_v rfl rfl (V_lenS rfl (et rfl) (ow_at (hS131.chq 0 rfl hc105_131)) Try.underlying23) ?_
              refine W_v rfl rfl (V_mov rfl (es rfl (es rfl l3_134))) ?_
              refine W_v rfl rfl (V_lenS rfl (et rfl) (ow_at (hS131.chq 1 rfl hc_131)) Try.underlying23) ?_
              refine W_v rfl rfl (V_neq rfl (e2 rfl (et rfl)) (et rfl)) ?_
              refine W_end ?_
              refine gen_Q (fun A186 hA186 => ?_)
              have hsz186 := szq hA186
              have hdf186 : A186.defers = [] := by rw [hA186]; simp only [df_put]; exact hdf134
              have l3_186 := lookE hA186 3 (e4 rfl (es rfl l3_134))
              have l8_186 := lookE hA186 8 (e4 rfl (es rfl l8_134))
              have l204_186 := lookE hA186 204 (et rfl)
              clear hA186 hsz134 hdf134 l1_134 l3_134 l8_134 l10_134 l139_134
              have hS187 : St w NoX [c105_131, c_131] w131 := hS131.sel [0, 1] (by decide) rfl
              refine then_n (hK185 _ _ ?_)
              clear hK185
              refine cond_not l204_186 (by rw [decide_eq_false_iff_not]; exact fun q => q (by rw [hLen])) ?_
              refine wp_skip ?_
              refine then_n (hK184 _ _ ?_)
              clear hK184
              refine wp_seq_k (fun K188 hK188 => ?_)
              refine wp_seq_k (fun K189 hK189 => ?_)
              refine region_in ?_
              refine W_v rfl rfl (V_asg rfl rfl) ?_
              refine W_end ?_
              refine gen_Q (fun A190 hA190 => ?_)
              have hsz190 := szq hA190
              have hdf190 : A190.defers = [] := by rw [hA190]; simp only [df_put]; exact hdf186
              have l3_190 := lookE hA190 3 (es rfl l3_186)
              have l8_190 := lookE hA190 8 (es rfl l8_186)
              have l14_190 := lookE hA190 14 (et rfl)
              clear hA190 hsz186 hdf186 l3_186 l8_186 l204_186
              refine then_n (hK189 _ _ ?_)
              clear hK189
              refine wp_block ?_
              -- loop 40
              refine loopX (fun mz A' w' => SzN A' 219 ∧ A'.defers = [] ∧ (∃ (j : Nat), (mz = N.length - j) ∧ (j ≤ N.length) ∧ (EV A' (.tmp 14) = .int .i64 (j : Int)) ∧ (EV A' (.tmp 3) = EV A190 (.tmp 3)) ∧ (EV A' (.tmp 8) = EV A190 (.tmp 8)) ∧ (St w NoX [io .i64 nv N, io .i64 v_20 (lvT (O.map ab) rs)] w'))) (N.length - 0) ⟨hsz190, hdf190, 0, rfl, (by omega), ((l14_190).trans (by first | rfl | (simp; done) | (congr 1; omega))), rfl, rfl, (by subst hc105_131 hc_131; exact hS187)⟩ ?_
              clear hS187 hc105_131 hc_131
              rintro n191 A191 w191 ⟨hsz191, hdf191, j, hm191, hj, l14_191, u3_191, u8_191, hS191⟩
              have l3_191 := u3_191.trans l3_190
              have l8_191 := u8_191.trans l8_190
              obtain ⟨c105_191, c_191, hc105_191, hc_191, hS191⟩ := gen2 hS191
              refine wp_seq_k (fun K192 hK192 => ?_)
              refine wp_seq_k (fun K193 hK193 => ?_)
              refine region_in ?_
              refine W_v rfl rfl (V_mov rfl l14_191) ?_
              refine W_v rfl rfl (V_mov rfl (es rfl l8_191)) ?_
              refine W_v rfl rfl (V_lenS rfl (et rfl) (ow_at (hS191.chq 0 rfl hc105_191)) Try.underlying23) ?_
              refine W_v rfl rfl (V_lss rfl (e2 rfl (et rfl)) (et rfl)) ?_
              refine W_end ?_
              refine gen_Q (fun A194 hA194 => ?_)
              have hsz194 := szq hA194
              have hdf194 : A194.defers = [] := by rw [hA194]; simp only [df_put]; exact hdf191
              have l3_194 := lookE hA194 3 (e3 rfl (es rfl l3_191))
              have l8_194 := lookE hA194 8 (e3 rfl (es rfl l8_191))
              have l14_194 := lookE hA194 14 (e3 rfl (es rfl l14_191))
              have l208_194 := lookE hA194 208 (et rfl)
              clear hA194 hsz191 hdf191 l14_191 l3_191 l8_191
              refine then_n (hK193 _ _ ?_)
              clear hK193
              refine cond_dec l208_194 (fun c195 => ?_) (fun c195 => ?_)
              · skip
                refine wp_skip ?_
                refine then_n (hK192 _ _ ?_)
                clear hK192
                refine wp_seq_k (fun K196 hK196 => ?_)
                refine wp_block ?_
                refine wp_seq_k (fun K197 hK197 => ?_)
                refine region_in ?_
                refine W_v rfl rfl (V_mov rfl l3_194) ?_
                refine W_v rfl rfl (V_mov rfl (es rfl l8_194)) ?_
                refine W_v rfl rfl (V_mov rfl (es rfl (es rfl l14_194))) ?_
                have k198 : j < N.length := by first | omega | (simp only [List.length_cons, List.length_nil]; omega) | (simp only [List.length_set]; omega)
                obtain ⟨y198, hy198⟩ := get_some (xs := N) (k := j) k198
                have hlv198 := hN.sound _ (List.mem_of_getElem? hy198)
                have hlr198 := hlv198.rng hg
                rw [List.length_map] at hlr198
                have hNl198 := hN.len hg
                rw [List.length_map] at hNl198
                obtain ⟨B198, O198, C198, hv198⟩ := (SlN.blk (ow_at (hS191.chq 0 rfl hc105_191)) (by first | omega | (simp only [List.length_cons, List.length_nil]; omega) | (simp only [List.length_set]; omega)))
                refine W_v rfl rfl (V_ixS (off := O198 + j) 1 (j) rfl (es rfl (et rfl)) (et rfl) hv198 (by omega) k198 Try.underlying23 (by kernel_rfl) (congrArg _ (Nat.mul_one _))) ?_
                refine W_r rfl rfl (VR_ldC rfl (et rfl) ((ow_at (hS191.chq 0 rfl hc105_191)).cell hv198 (map_get hy198)) Try.underlying3 rfl) ?_
                refine W_call rfl rfl rfl Try.func22 (by kernel_rfl) rfl (args2 (e4 rfl (et rfl)) (et rfl)) (has_c (x := y198) (hS191.chC 1 rfl hc_191).own ) ?_
                rintro _ w199 ⟨rfl, hP199⟩
                refine ⟨_, rfl, ?_⟩
                have hS199 := hS191.join hP199
                replace hS199 : St w NoX [c105_191, c_191] w199 := hS199
                refine W_v rfl rfl (V_notd rfl (et rfl)) ?_
                refine W_end ?_
                refine gen_Q (fun A200 hA200 => ?_)
                have hsz200 := szq hA200
                have hdf200 : A200.defers = [] := by rw [hA200]; simp only [df_put]; exact hdf194
                have l3_200 := lookE hA200 3 (e6 rfl (es rfl l3_194))
                have l8_200 := lookE hA200 8 (e6 rfl (es rfl l8_194))
                have l14_200 := lookE hA200 14 (e6 rfl (es rfl l14_194))
                have l217_200 := lookE hA200 217 (et rfl)
                clear hA200 hsz194 hdf194 l3_194 l8_194 l14_194 l208_194
                refine then_n (hK197 _ _ ?_)
                clear hK197
                refine cond_not l217_200 (by rw [decide_eq_false_iff_not]; exact fun q => q ((lvT_mem hg).2 hlv198)) ?_
                refine wp_skip ?_
                refine inb_n ?_
                refine then_n (hK196 _ _ ?_)
                clear hK196
                refine region_in ?_
                refine W_v rfl rfl (V_mov rfl l14_200) ?_
                refine W_v rfl rfl (V_add rfl (et rfl) rfl (by omega) (by omega)) ?_
                refine W_v rfl rfl (V_asg rfl (et rfl)) ?_
                refine W_end ?_
                refine gen_Q (fun A201 hA201 => ?_)
                have hsz201 := szq hA201
                have hdf201 : A201.defers = [] := by rw [hA201]; simp only [df_put]; exact hdf200
                have l3_201 := lookE hA201 3 (e2 rfl (es rfl l3_200))
                have l8_201 := lookE hA201 8 (e2 rfl (es rfl l8_200))
                have l14_201 := lookE hA201 14 (et rfl)
                clear hA201 hsz200 hdf200 l3_200 l8_200 l14_200 l217_200
                refine then_n ⟨N.length - (j + 1), by simp only [hm191]; omega, hsz201, hdf201, (j + 1), rfl, (by omega), ((l14_201).trans (by first | rfl | (simp; done) | (congr 1; omega))), ((l3_201).trans l3_190.symm), ((l8_201).trans l8_190.symm), (by subst hc105_191 hc_191; exact hS199)⟩
              · skip
                refine wp_exit ?_
                refine then_exit ?_
                refine then_exit ?_
                refine inb_hit ?_
                refine then_n (hK188 _ _ ?_)
                clear hK188
                refine wp_seq_k (fun K202 hK202 => ?_)
                refine region_in ?_
                refine W_call rfl rfl rfl Try.func11 (by kernel_rfl) rfl (args0) (shown_c  ) ?_
                rintro _ w203 ⟨rfl, hP203⟩
                refine ⟨_, rfl, ?_⟩
                have hS203 := hS191.join hP203
                replace hS203 : St w NoX [c105_191, c_191] w203 := hS203
                refine W_v rfl rfl (V_asg rfl (et rfl)) ?_
                refine W_end ?_
                refine gen_Q (fun A204 hA204 => ?_)
                have hsz204 := szq hA204
                have hdf204 : A204.defers = [] := by rw [hA204]; simp only [df_put]; exact hdf194
                have l2_204 := lookE hA204 2 (et rfl)
                clear hA204 hsz194 hdf194 l3_194 l8_194 l14_194 l208_194
                have hS205 : St w NoX [] w203 := hS203.sel [] (by decide) rfl
                refine then_n (hK202 _ _ ?_)
                clear hK202
                refine wp_ret ?_
                refine ret_in (results_1 Try.results4 (rv_tmp l2_204)) hdf204 ?_
                -- leaf FFFFFFF
                exact ⟨rfl, hS205.fin0⟩

end Go.Proofs.Ytdilbnmaihmgnaa