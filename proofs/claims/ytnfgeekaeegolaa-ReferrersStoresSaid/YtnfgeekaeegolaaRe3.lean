import Derived.Test.YtnfgeekaeegolaaProg
import Derived.Test.YtnfgeekaeegolaaRe2
import Derived.Test.YtnfgeekaeegolaaPl9h
namespace Go.Proofs.Ytnfgeekaeegolaa
open Go.RowKit Go.Own Go.Own.R Go.Own.S Go.Own.F Go.Own.G


set_option maxHeartbeats 4000000 in
theorem qmg_c {cv : Value} {l : List (Int × Int)} {dv : Value} {m : List (Int × Int)} {w : World} (h_cv : Ro w NoX (rl 2 rcC cv l)) (h_dv : Ro w NoX (rl 2 rcC dv m))  :
    Calls Try.prog 22 #[cv, dv] w fun e w' => ∃ v, e = .returned (.tuple #[v, .int .i64 (mgE l m)]) ∧ St w NoX [ro 2 rcC (v) (mgT l m)] w' := by
  refine calls_in 60 Try.func22 rfl rfl (by simp) (fun A0 hsz0 hdf0 hargs => ?_)
  have l0_0 := hargs 0 (cv) rfl
  have l1_0 := hargs 1 (dv) rfl
  clear hargs; replace hsz0 : SzN A0 60 := ⟨hsz0⟩
  have hS := St.nil w
  have bh_cv := SlN.le (sl_SlN h_cv.at)
  have bh_dv := SlN.le (sl_SlN h_dv.at)
  refine wp_seq_k (fun K1 hK1 => ?_)
  refine region_in ?_
  refine W_v rfl rfl (V_asg rfl rfl) ?_
  refine W_v rfl rfl (V_asg rfl rfl) ?_
  refine W_end ?_
  refine gen_Q (fun A2 hA2 => ?_)
  have hsz2 := szq hA2
  have hdf2 : A2.defers = [] := by rw [hA2]; simp only [df_put]; exact hdf0
  have l0_2 := lookE hA2 0 (es rfl (es rfl l0_0))
  have l1_2 := lookE hA2 1 (es rfl (es rfl l1_0))
  clear hA2 hsz0 hdf0 l0_0 l1_0
  refine then_n (hK1 _ _ ?_)
  clear hK1
  refine wp_seq_k (fun K3 hK3 => ?_)
  refine region_in ?_
  refine W_v rfl rfl (V_mov rfl l0_2) ?_
  refine W_call rfl rfl rfl Try.func28 (by kernel_rfl) rfl (args1 (et rfl)) (qCk9_c (hS.roC h_cv) ) ?_
  rintro _ w4 ⟨rfl, hP4⟩
  refine ⟨_, rfl, ?_⟩
  have hS4 := hS.join hP4
  replace hS4 : St w NoX [] w4 := hS4
  refine W_v rfl rfl (V_mov rfl (et rfl)) ?_
  refine W_v rfl rfl (V_ext (v := .int .i64 ((ckL l).1)) rfl (et rfl) rfl) ?_
  refine W_v rfl rfl (V_ext (v := .int .i64 ((ckL l).2)) rfl (es rfl (et rfl)) rfl) ?_
  refine W_v rfl rfl (V_asg rfl (es rfl (et rfl))) ?_
  refine W_v rfl rfl (V_asg rfl (es rfl (et rfl))) ?_
  refine W_end ?_
  refine gen_Q (fun A5 hA5 => ?_)
  have hsz5 := szq hA5
  have hdf5 : A5.defers = [] := by rw [hA5]; simp only [df_put]; exact hdf2
  have l0_5 := lookE hA5 0 (e6 rfl (es rfl l0_2))
  have l1_5 := lookE hA5 1 (e6 rfl (es rfl l1_2))
  have l7_5 := lookE hA5 7 (et rfl)
  clear hA5 hsz2 hdf2 l0_2 l1_2
  refine then_n (hK3 _ _ ?_)
  clear hK3
  refine wp_seq_k (fun K6 hK6 => ?_)
  refine wp_seq_k (fun K7 hK7 => ?_)
  refine region_in ?_
  refine W_v rfl rfl (V_mov rfl l7_5) ?_
  refine W_v rfl rfl (V_eql rfl (et rfl) rfl) ?_
  refine W_end ?_
  refine gen_Q (fun A8 hA8 => ?_)
  have hsz8 := szq hA8
  have hdf8 : A8.defers = [] := by rw [hA8]; simp only [df_put]; exact hdf5
  have l0_8 := lookE hA8 0 (es rfl (es rfl l0_5))
  have l1_8 := lookE hA8 1 (es rfl (es rfl l1_5))
  have l7_8 := lookE hA8 7 (es rfl (es rfl l7_5))
  have l17_8 := lookE hA8 17 (et rfl)
  clear hA8 hsz5 hdf5 l0_5 l1_5 l7_5
  refine then_n (hK7 _ _ ?_)
  clear hK7
  refine cond_dec l17_8 (fun c9 => ?_) (fun c9 => ?_)
  · skip
    refine region_in ?_
    refine W_v rfl rfl (V_mov rfl l1_8) ?_
    refine W_call rfl rfl rfl Try.func28 (by kernel_rfl) rfl (args1 (et rfl)) (qCk9_c (hS4.roC h_dv) ) ?_
    rintro _ w10 ⟨rfl, hP10⟩
    refine ⟨_, rfl, ?_⟩
    have hS10 := hS4.join hP10
    replace hS10 : St w NoX [] w10 := hS10
    refine W_v rfl rfl (V_mov rfl (et rfl)) ?_
    refine W_v rfl rfl (V_ext (v := .int .i64 ((ckL m).1)) rfl (et rfl) rfl) ?_
    refine W_v rfl rfl (V_ext (v := .int .i64 ((ckL m).2)) rfl (es rfl (et rfl)) rfl) ?_
    refine W_v rfl rfl (V_asg rfl (et rfl)) ?_
    refine W_end ?_
    refine gen_Q (fun A11 hA11 => ?_)
    have hsz11 := szq hA11
    have hdf11 : A11.defers = [] := by rw [hA11]; simp only [df_put]; exact hdf8
    have l0_11 := lookE hA11 0 (e5 rfl (es rfl l0_8))
    have l1_11 := lookE hA11 1 (e5 rfl (es rfl l1_8))
    have l7_11 := lookE hA11 7 (et rfl)
    clear hA11 hsz8 hdf8 l0_8 l1_8 l7_8 l17_8
    refine then_n (hK6 _ _ ?_)
    clear hK6
    refine wp_seq_k (fun K12 hK12 => ?_)
    refine wp_seq_k (fun K13 hK13 => ?_)
    refine region_in ?_
    refine W_v rfl rfl (V_mov rfl l7_11) ?_
    refine W_v rfl rfl (V_neq rfl (et rfl) rfl) ?_
    refine W_end ?_
    refine gen_Q (fun A14 hA14 => ?_)
    have hsz14 := szq hA14
    have hdf14 : A14.defers = [] := by rw [hA14]; simp only [df_put]; exact hdf11
    have l0_14 := lookE hA14 0 (es rfl (es rfl l0_11))
    have l1_14 := lookE hA14 1 (es rfl (es rfl l1_11))
    have l7_14 := lookE hA14 7 (es rfl (es rfl l7_11))
    have l24_14 := lookE hA14 24 (et rfl)
    clear hA14 hsz11 hdf11 l0_11 l1_11 l7_11
    refine then_n (hK13 _ _ ?_)
    clear hK13
    refine cond_dec l24_14 (fun c15 => ?_) (fun c15 => ?_)
    · skip
      refine wp_seq_k (fun K16 hK16 => ?_)
      refine region_in ?_
      refine W_v rfl rfl (V_mov rfl l7_14) ?_
      refine W_v rfl rfl (V_asg rfl rfl) ?_
      refine W_v rfl rfl (V_asg rfl (es rfl (et rfl))) ?_
      refine W_end ?_
      refine gen_Q (fun A17 hA17 => ?_)
      have hsz17 := szq hA17
      have hdf17 : A17.defers = [] := by rw [hA17]; simp only [df_put]; exact hdf14
      have l4_17 := lookE hA17 4 (es rfl (et rfl))
      have l5_17 := lookE hA17 5 (et rfl)
      clear hA17 hsz14 hdf14 l0_14 l1_14 l7_14 l24_14
      refine then_n (hK16 _ _ ?_)
      clear hK16
      refine wp_ret ?_
      refine then_ret ?_
      refine ret_in (results_2 Try.results22 (rv_tmp l4_17) (rv_tmp l5_17)) hdf17 ?_
      -- leaf TT
      obtain ⟨c18, hc18, hS18⟩ := hS10.pnil (s := 2)
      have he : mgE l m = (ckL m).2 := mgE_2 (by omega) (by omega)
      have ht : mgT l m = [] := by unfold mgT; rw [if_pos (by rw [he]; omega)]
      rw [he]
      exact ⟨_, rfl, (hS18.fin1 0 rfl (hc18.trans (by rw [ht] <;> rfl)))⟩
    · skip
      have hcb := mg_lim (l := l) (m := m) (by omega) (by omega)
      have hlA := (ck_vals (l := l) (by omega)).1
      have hlB := plA_len l m
      have hlC := (ck_vals (l := m) (by omega)).1
      refine wp_skip ?_
      refine then_n (hK12 _ _ ?_)
      clear hK12
      refine wp_seq_k (fun K19 hK19 => ?_)
      refine region_in ?_
      refine W_litS (vs := []) (xs := []) 2 hS10 rfl rfl rfl (parts0) rfl Try.underlying28 (by kernel_rfl) (by decide) (by intro v hv; cases hv) (by rfl) (fun g20 w20 c20 hc20 hS20 => ?_)
      replace hc20 : c20 = ro 2 rcC (.slice (some ⟨g20, 0, none⟩) 0 0) [] := hc20
      replace hS20 : St w NoX [c20] w20 := hS20
      refine W_v rfl rfl (V_mov rfl (es rfl l0_14)) ?_
      refine W_appS 2 0 hS20 rfl hc20 rfl rfl rfl (es rfl (et rfl)) (et rfl) Try.underlying28 Try.underlying28 (z := .agg #[.int .i64 0, .int .i64 0]) (bytes := 16) (by kernel_rfl) rfl (by decide) (sl_SlN (hS20.ro h_cv)) (ones_r rcC_one) (by first | omega | (simp; done) | (simp; omega)) (by first | omega | (simp; done) | (simp; omega)) (fun v21 w21 c21 hc21 hS21 => ?_)
      replace hc21 : c21 = ro 2 rcC v21 l := hc21.trans (app_eqR (by simp))
      replace hS21 : St w NoX [c21] w21 := hS21
      refine W_v rfl rfl (V_asg rfl (et rfl)) ?_
      refine W_end ?_
      refine gen_Q (fun A22 hA22 => ?_)
      have hsz22 := szq hA22
      have hdf22 : A22.defers = [] := by rw [hA22]; simp only [df_put]; exact hdf14
      have l1_22 := lookE hA22 1 (e3 rfl (es rfl l1_14))
      have l8_22 := lookE hA22 8 (et rfl)
      clear hA22 hsz14 hdf14 l0_14 l1_14 l7_14 l24_14
      refine then_n (hK19 _ _ ?_)
      clear hK19
      refine wp_seq_k (fun K23 hK23 => ?_)
      refine wp_seq_k (fun K24 hK24 => ?_)
      refine region_in ?_
      refine W_v rfl rfl (V_asg rfl rfl) ?_
      refine W_end ?_
      refine gen_Q (fun A25 hA25 => ?_)
      have hsz25 := szq hA25
      have hdf25 : A25.defers = [] := by rw [hA25]; simp only [df_put]; exact hdf22
      have l1_25 := lookE hA25 1 (es rfl l1_22)
      have l8_25 := lookE hA25 8 (es rfl l8_22)
      have l9_25 := lookE hA25 9 (et rfl)
      clear hA25 hsz22 hdf22 l1_22 l8_22
      refine then_n (hK24 _ _ ?_)
      clear hK24
      refine wp_block ?_
      -- loop 8
      refine loopX (fun mz A' w' => SzN A' 60 ∧ A'.defers = [] ∧ (∃ (k : Nat) (bv : Value), (mz = m.length - k) ∧ (k ≤ m.length) ∧ (EV A' (.tmp 9) = .int .i64 (k : Int)) ∧ (EV A' (.tmp 8) = bv) ∧ (EV A' (.tmp 1) = EV A25 (.tmp 1)) ∧ (St w NoX [ro 2 rcC bv (plA l (m.take k))] w'))) (m.length - 0) ⟨hsz25, hdf25, 0, v21, rfl, (by omega), ((l9_25).trans (by first | rfl | (simp; done) | (congr 1; omega))), ((l8_25).trans (by first | rfl | (simp; done) | (congr 1; omega))), rfl, (by have q0 : c21 = ro 2 rcC v21 (plA l (m.take 0)) := hc21.trans (rfl); subst q0; exact hS21)⟩ ?_
      clear hS21 hc21
      rintro n26 A26 w26 ⟨hsz26, hdf26, k, bv, hm26, hk, l9_26, l8_26, u1_26, hS26⟩
      have l1_26 := u1_26.trans l1_25
      obtain ⟨c21_26, hc21_26, hS26⟩ := gen1 hS26
      refine wp_seq_k (fun K27 hK27 => ?_)
      refine wp_seq_k (fun K28 hK28 => ?_)
      refine region_in ?_
      refine W_v rfl rfl (V_mov rfl l9_26) ?_
      refine W_v rfl rfl (V_mov rfl (es rfl l1_26)) ?_
      refine W_v rfl rfl (V_lenS rfl (et rfl) (sl_SlN h_dv.at) Try.underlying28) ?_
      refine W_v rfl rfl (V_lss rfl (e2 rfl (et rfl)) (et rfl)) ?_
      refine W_end ?_
      refine gen_Q (fun A29 hA29 => ?_)
      have hsz29 := szq hA29
      have hdf29 : A29.defers = [] := by rw [hA29]; simp only [df_put]; exact hdf26
      have l1_29 := lookE hA29 1 (e3 rfl (es rfl l1_26))
      have l8_29 := lookE hA29 8 (e3 rfl (es rfl l8_26))
      have l9_29 := lookE hA29 9 (e3 rfl (es rfl l9_26))
      have l32_29 := lookE hA29 32 (et rfl)
      clear hA29 hsz26 hdf26 l9_26 l8_26 l1_26
      refine then_n (hK28 _ _ ?_)
      clear hK28
      refine cond_dec l32_29 (fun c30 => ?_) (fun c30 => ?_)
      · skip
        refine wp_skip ?_
        refine then_n (hK27 _ _ ?_)
        clear hK27
        refine wp_seq_k (fun K31 hK31 => ?_)
        refine wp_block ?_
        have k32 : k < m.length := by first | omega | (simp only [List.length_cons, List.length_nil]; omega) | (simp only [List.length_set]; omega) | decide
        obtain ⟨y32, hy32⟩ := get_some (xs := m) (k := k) k32
        have hbn32 := (ck_vals (l := m) (by omega)).2 _ (List.mem_of_getElem? hy32)
        refine region_monoS 13 13 [none, none, none, none, none, none, none, none, none, none, none, some (SPv [] (fun _ => fun u l' => ∃ v_s, u = v_s ∧ ∃ c_s, c_s = ro 2 rcC (v_s) (plF (plA l (m.take k)) y32.1 y32.2) ∧ l' = [c_s]) 11)] (by kernel_rfl) (by kernel_rfl) ?_
        refine D_v rfl rfl (V_mov rfl l8_29) rfl rfl ?_
        refine D_v rfl rfl (V_mov rfl (es rfl l1_29)) rfl rfl ?_
        refine D_v rfl rfl (V_mov rfl (es rfl (es rfl l9_29))) rfl rfl ?_
        obtain ⟨B32, O32, C32, hv32⟩ := (SlN.blk (sl_SlN h_dv.at) (by first | omega | (simp only [List.length_cons, List.length_nil]; omega) | (simp only [List.length_set]; omega) | decide))
        refine D_v rfl rfl (V_ixS (off := O32 + k * 2) 2 (k) rfl (es rfl (et rfl)) (et rfl) hv32 (by omega) k32 Try.underlying28 (by kernel_rfl) rfl) rfl rfl ?_
        refine D_v rfl rfl (V_fa (off' := O32 + k * 2 + 0) rfl (et rfl) Try.underlying42 rfl (by decide +kernel) rfl) rfl rfl ?_
        refine D_r rfl rfl (by kernel_rfl) (fun sx hx hF => (VR_ldC (v := .int .i64 (y32.1)) rfl (et rfl) (SlN.row rcC_len (sl_SlN ((hS26.grow hx).ro h_dv)) hv32 hy32 rfl 0 _ rfl) Try.underlying3 rfl)) rfl rfl ?_
        refine D_v rfl rfl (V_mov rfl (e5 rfl (es rfl l1_29))) rfl rfl ?_
        refine D_v rfl rfl (V_mov rfl (e6 rfl (es rfl l9_29))) rfl rfl ?_
        refine D_v rfl rfl (V_ixS (off := O32 + k * 2) 2 (k) rfl (es rfl (et rfl)) (et rfl) hv32 (by omega) k32 Try.underlying28 (by kernel_rfl) rfl) rfl rfl ?_
        refine D_v rfl rfl (V_fa (off' := O32 + k * 2 + 1) rfl (et rfl) Try.underlying42 rfl (by decide +kernel) rfl) rfl rfl ?_
        refine D_r rfl rfl (by kernel_rfl) (fun sx hx hF => (VR_ldC (v := .int .i64 (y32.2)) rfl (et rfl) (SlN.row rcC_len (sl_SlN ((hS26.grow hx).ro h_dv)) hv32 hy32 rfl 1 _ rfl) Try.underlying3 rfl)) rfl rfl ?_
        refine D_call (ts := []) (vs := []) (C0 := fun _ => fun u l' => ∃ v_s, u = v_s ∧ ∃ c_s, c_s = ro 2 rcC (v_s) (plF (plA l (m.take k)) y32.1 y32.2) ∧ l' = [c_s]) (C := fun u l' => ∃ v_s, u = v_s ∧ ∃ c_s, c_s = ro 2 rcC (v_s) (plF (plA l (m.take k)) y32.1 y32.2) ∧ l' = [c_s]) rfl rfl rfl Try.func40 (by kernel_rfl) rfl (args3 (e10 rfl (et rfl)) (e5 rfl (et rfl)) (et rfl)) rfl rfl rfl rfl (fun sx hx hF => ?_) (fun u34 l34 hu34 => ?_)
        · refine (qpl_c (t := y32.1) (n := y32.2) ((hS26.grow hx).chC 0 rfl hc21_26).own (by first | with_reducible assumption | with_reducible exact (hcb _).2 | omega) (by first | with_reducible assumption | with_reducible exact (hcb _).1) (by first | omega | with_reducible assumption)).mono ?_
          rintro _ _ ⟨v_34, rfl, hz⟩
          exact ⟨_, rfl, _, ⟨_, rfl, _, rfl, rfl⟩, hz⟩
        obtain ⟨v_34, rfl, c_34, hc_34, hl34⟩ := hu34
        refine D_v rfl rfl (V_asg rfl (et rfl)) rfl rfl ?_
        refine ZS_none hS26 (Nat.le_refl _) (Nat.le_refl _) (fun s35 hJ35 hL35 hF35 => ?_)
        obtain ⟨ll34, ws34, we34, ⟨v_34q, hq34, c_34r, hc_34r, hl34r⟩, hm34, k34, e34⟩ := L.all_get hF35; cases hq34; subst hl34r
        replace hJ35 := hJ35.add hL35 (i := 11) rfl hm34 k34 e34
        have hS35 := hJ35.st; clear hF35 hJ35 hL35
        generalize s35.1 = w35 at *
        replace hS35 : St w NoX [c_34r, c21_26] w35 := hS35
        refine gen_Q (fun A36 hA36 => ?_)
        have hsz36 := szq hA36
        have hdf36 : A36.defers = [] := by rw [hA36]; simp only [df_put]; exact hdf29
        have l1_36 := lookE hA36 1 (e12 rfl (es rfl l1_29))
        have l8_36 := lookE hA36 8 (et rfl)
        have l9_36 := lookE hA36 9 (e12 rfl (es rfl l9_29))
        clear hA36 hsz29 hdf29 l1_29 l8_29 l9_29 l32_29
        have hS37 : St w NoX [c_34r] w35 := hS35.sel [0] (by decide) rfl
        refine inb_n ?_
        refine then_n (hK31 _ _ ?_)
        clear hK31
        refine region_in ?_
        refine W_v rfl rfl (V_mov rfl l9_36) ?_
        refine W_v rfl rfl (V_add rfl (et rfl) rfl (by omega) (by omega)) ?_
        refine W_v rfl rfl (V_asg rfl (et rfl)) ?_
        refine W_end ?_
        refine gen_Q (fun A38 hA38 => ?_)
        have hsz38 := szq hA38
        have hdf38 : A38.defers = [] := by rw [hA38]; simp only [df_put]; exact hdf36
        have l1_38 := lookE hA38 1 (e2 rfl (es rfl l1_36))
        have l8_38 := lookE hA38 8 (e2 rfl (es rfl l8_36))
        have l9_38 := lookE hA38 9 (et rfl)
        clear hA38 hsz36 hdf36 l1_36 l8_36 l9_36
        refine then_n ⟨m.length - (k + 1), by simp only [hm26]; omega, hsz38, hdf38, (k + 1), u34, rfl, (by omega), ((l9_38).trans (by first | rfl | (simp; done) | (congr 1; omega))), ((l8_38).trans (by first | rfl | (simp; done) | (congr 1; omega))), ((l1_38).trans l1_25.symm), (by have q0 : c_34r = ro 2 rcC u34 (plA l (m.take (k + 1))) := hc_34r.trans ((congrArg (ro 2 rcC _) (plA_in hy32))); subst q0; exact hS37)⟩
      · skip
        refine wp_exit ?_
        refine then_exit ?_
        refine then_exit ?_
        refine inb_hit ?_
        refine then_n (hK23 _ _ ?_)
        clear hK23
        refine wp_seq_k (fun K39 hK39 => ?_)
        refine wp_seq_k (fun K40 hK40 => ?_)
        refine region_in ?_
        refine W_v rfl rfl (V_asg rfl rfl) ?_
        refine W_end ?_
        refine gen_Q (fun A41 hA41 => ?_)
        have hsz41 := szq hA41
        have hdf41 : A41.defers = [] := by rw [hA41]; simp only [df_put]; exact hdf29
        have l8_41 := lookE hA41 8 (es rfl l8_29)
        have l10_41 := lookE hA41 10 (et rfl)
        clear hA41 hsz29 hdf29 l1_29 l8_29 l9_29 l32_29
        refine then_n (hK40 _ _ ?_)
        clear hK40
        refine wp_block ?_
        -- loop 12
        refine loopX (fun mz A' w' => SzN A' 60 ∧ A'.defers = [] ∧ (∃ (j : Nat), (mz = (plA l m).length - j) ∧ (j ≤ (plA l m).length) ∧ (∀ i, i < j → ∀ x, (plA l m)[i]? = some x → ¬ 1600 < x.2) ∧ (EV A' (.tmp 10) = .int .i64 (j : Int)) ∧ (EV A' (.tmp 8) = EV A41 (.tmp 8)) ∧ (St w NoX [ro 2 rcC bv (plA l m)] w'))) ((plA l m).length - 0) ⟨hsz41, hdf41, 0, rfl, (by omega), (fun i hi => by omega), ((l10_41).trans (by first | rfl | (simp; done) | (congr 1; omega))), rfl, (by have q0 : c21_26 = ro 2 rcC bv (plA l m) := hc21_26.trans ((congrArg (ro 2 rcC _) (by rw [List.take_of_length_le (by omega)]))); subst q0; exact hS26)⟩ ?_
        clear hS26 hc21_26
        rintro n42 A42 w42 ⟨hsz42, hdf42, j, hm42, hj, hnb, l10_42, u8_42, hS42⟩
        have l8_42 := u8_42.trans l8_41
        obtain ⟨c21_42, hc21_42, hS42⟩ := gen1 hS42
        refine wp_seq_k (fun K43 hK43 => ?_)
        refine wp_seq_k (fun K44 hK44 => ?_)
        refine region_in ?_
        refine W_v rfl rfl (V_mov rfl l10_42) ?_
        refine W_v rfl rfl (V_mov rfl (es rfl l8_42)) ?_
        refine W_v rfl rfl (V_lenS rfl (et rfl) (ow_at (hS42.chq 0 rfl hc21_42)) Try.underlying28) ?_
        refine W_v rfl rfl (V_lss rfl (e2 rfl (et rfl)) (et rfl)) ?_
        refine W_end ?_
        refine gen_Q (fun A45 hA45 => ?_)
        have hsz45 := szq hA45
        have hdf45 : A45.defers = [] := by rw [hA45]; simp only [df_put]; exact hdf42
        have l8_45 := lookE hA45 8 (e3 rfl (es rfl l8_42))
        have l10_45 := lookE hA45 10 (e3 rfl (es rfl l10_42))
        have l50_45 := lookE hA45 50 (et rfl)
        clear hA45 hsz42 hdf42 l10_42 l8_42
        refine then_n (hK44 _ _ ?_)
        clear hK44
        refine cond_dec l50_45 (fun c46 => ?_) (fun c46 => ?_)
        · skip
          refine wp_skip ?_
          refine then_n (hK43 _ _ ?_)
          clear hK43
          refine wp_seq_k (fun K47 hK47 => ?_)
          refine wp_block ?_
          refine wp_seq_k (fun K48 hK48 => ?_)
          refine region_in ?_
          refine W_v rfl rfl (V_mov rfl l8_45) ?_
          refine W_v rfl rfl (V_mov rfl (es rfl l10_45)) ?_
          have k49 : j < (plA l m).length := by first | omega | (simp only [List.length_cons, List.length_nil]; omega) | (simp only [List.length_set]; omega) | decide
          obtain ⟨y49, hy49⟩ := get_some (xs := (plA l m)) (k := j) k49
          obtain ⟨B49, O49, C49, hv49⟩ := (SlN.blk (ow_at (hS42.chq 0 rfl hc21_42)) (by first | omega | (simp only [List.length_cons, List.length_nil]; omega) | (simp only [List.length_set]; omega) | decide))
          refine W_v rfl rfl (V_ixS (off := O49 + j * 2) 2 (j) rfl (es rfl (et rfl)) (et rfl) hv49 (by omega) k49 Try.underlying28 (by kernel_rfl) rfl) ?_
          refine W_v rfl rfl (V_fa (off' := O49 + j * 2 + 1) rfl (et rfl) Try.underlying42 rfl (by decide +kernel) rfl) ?_
          refine W_r rfl rfl (VR_ldC (v := .int .i64 (y49.2)) rfl (et rfl) (SlN.row rcC_len (ow_at (hS42.chq 0 rfl hc21_42)) hv49 hy49 rfl 1 _ rfl) Try.underlying3 rfl) ?_
          refine W_v rfl rfl (V_gtr rfl (et rfl) rfl) ?_
          refine W_end ?_
          refine gen_Q (fun A50 hA50 => ?_)
          have hsz50 := szq hA50
          have hdf50 : A50.defers = [] := by rw [hA50]; simp only [df_put]; exact hdf45
          have l8_50 := lookE hA50 8 (e5 rfl (es rfl l8_45))
          have l10_50 := lookE hA50 10 (e5 rfl (es rfl l10_45))
          have l58_50 := lookE hA50 58 (et rfl)
          clear hA50 hsz45 hdf45 l8_45 l10_45 l50_45
          refine then_n (hK48 _ _ ?_)
          clear hK48
          refine cond_dec l58_50 (fun c51 => ?_) (fun c51 => ?_)
          · skip
            refine wp_seq_k (fun K52 hK52 => ?_)
            refine region_in ?_
            refine W_v rfl rfl (V_asg rfl rfl) ?_
            refine W_v rfl rfl (V_asg rfl rfl) ?_
            refine W_end ?_
            refine gen_Q (fun A53 hA53 => ?_)
            have hsz53 := szq hA53
            have hdf53 : A53.defers = [] := by rw [hA53]; simp only [df_put]; exact hdf50
            have l4_53 := lookE hA53 4 (es rfl (et rfl))
            have l5_53 := lookE hA53 5 (et rfl)
            clear hA53 hsz50 hdf50 l8_50 l10_50 l58_50
            have hS54 : St w NoX [] w42 := hS42.sel [] (by decide) rfl
            refine then_n (hK52 _ _ ?_)
            clear hK52
            refine wp_ret ?_
            refine inb_ret ?_
            refine then_ret ?_
            refine then_ret ?_
            refine inb_ret ?_
            refine then_ret ?_
            refine ret_in (results_2 Try.results22 (rv_tmp l4_53) (rv_tmp l5_53)) hdf53 ?_
            -- leaf TFFTT
            obtain ⟨c55, hc55, hS55⟩ := hS54.pnil (s := 2)
            have he : mgE l m = 7 := mgE_7 (by omega) (by omega) hy49 (by omega)
            have ht : mgT l m = [] := by unfold mgT; rw [if_pos (by rw [he]; omega)]
            rw [he]
            exact ⟨_, rfl, (hS55.fin1 0 rfl (hc55.trans (by rw [ht] <;> rfl)))⟩
          · skip
            refine wp_skip ?_
            refine inb_n ?_
            refine then_n (hK47 _ _ ?_)
            clear hK47
            refine region_in ?_
            refine W_v rfl rfl (V_mov rfl l10_50) ?_
            refine W_v rfl rfl (V_add rfl (et rfl) rfl (by omega) (by omega)) ?_
            refine W_v rfl rfl (V_asg rfl (et rfl)) ?_
            refine W_end ?_
            refine gen_Q (fun A56 hA56 => ?_)
            have hsz56 := szq hA56
            have hdf56 : A56.defers = [] := by rw [hA56]; simp only [df_put]; exact hdf50
            have l8_56 := lookE hA56 8 (e2 rfl (es rfl l8_50))
            have l10_56 := lookE hA56 10 (et rfl)
            clear hA56 hsz50 hdf50 l8_50 l10_50 l58_50
            refine then_n ⟨(plA l m).length - (j + 1), by simp only [hm42]; omega, hsz56, hdf56, (j + 1), rfl, (by omega), (big_step hnb hy49 c51), ((l10_56).trans (by first | rfl | (simp; done) | (congr 1; omega))), ((l8_56).trans l8_41.symm), (by have q0 : c21_42 = ro 2 rcC bv (plA l m) := hc21_42.trans (rfl); subst q0; exact hS42)⟩
        · skip
          refine wp_exit ?_
          refine then_exit ?_
          refine then_exit ?_
          refine inb_hit ?_
          refine then_n (hK39 _ _ ?_)
          clear hK39
          refine wp_seq_k (fun K57 hK57 => ?_)
          refine region_in ?_
          refine W_v rfl rfl (V_mov rfl l8_45) ?_
          refine W_v rfl rfl (V_asg rfl (et rfl)) ?_
          refine W_v rfl rfl (V_asg rfl rfl) ?_
          refine W_end ?_
          refine gen_Q (fun A58 hA58 => ?_)
          have hsz58 := szq hA58
          have hdf58 : A58.defers = [] := by rw [hA58]; simp only [df_put]; exact hdf45
          have l4_58 := lookE hA58 4 (es rfl (et rfl))
          have l5_58 := lookE hA58 5 (et rfl)
          clear hA58 hsz45 hdf45 l8_45 l10_45 l50_45
          refine then_n (hK57 _ _ ?_)
          clear hK57
          refine wp_ret ?_
          refine ret_in (results_2 Try.results22 (rv_tmp l4_58) (rv_tmp l5_58)) hdf58 ?_
          -- leaf TFFF
          have he : mgE l m = 0 := mgE_0 (by omega) (by omega) (by omega) hnb
          rw [he]
          exact ⟨_, rfl, (hS42.fin1 0 rfl (hc21_42.trans (congrArg (ro 2 rcC _) (by unfold mgT; rw [if_neg (by omega)]))))⟩
  · skip
    refine wp_skip ?_
    refine then_n (hK6 _ _ ?_)
    clear hK6
    refine wp_seq_k (fun K59 hK59 => ?_)
    refine wp_seq_k (fun K60 hK60 => ?_)
    refine region_in ?_
    refine W_v rfl rfl (V_mov rfl l7_8) ?_
    refine W_v rfl rfl (V_neq rfl (et rfl) rfl) ?_
    refine W_end ?_
    refine gen_Q (fun A61 hA61 => ?_)
    have hsz61 := szq hA61
    have hdf61 : A61.defers = [] := by rw [hA61]; simp only [df_put]; exact hdf8
    have l0_61 := lookE hA61 0 (es rfl (es rfl l0_8))
    have l1_61 := lookE hA61 1 (es rfl (es rfl l1_8))
    have l7_61 := lookE hA61 7 (es rfl (es rfl l7_8))
    have l24_61 := lookE hA61 24 (et rfl)
    clear hA61 hsz8 hdf8 l0_8 l1_8 l7_8 l17_8
    refine then_n (hK60 _ _ ?_)
    clear hK60
    refine cond_sure l24_61 (by first | (simp [c9]; done) | exact decide_eq_true (by omega) | exact decide_eq_false (by omega)) ?_
    refine wp_seq_k (fun K62 hK62 => ?_)
    refine region_in ?_
    refine W_v rfl rfl (V_mov rfl l7_61) ?_
    refine W_v rfl rfl (V_asg rfl rfl) ?_
    refine W_v rfl rfl (V_asg rfl (es rfl (et rfl))) ?_
    refine W_end ?_
    refine gen_Q (fun A63 hA63 => ?_)
    have hsz63 := szq hA63
    have hdf63 : A63.defers = [] := by rw [hA63]; simp only [df_put]; exact hdf61
    have l4_63 := lookE hA63 4 (es rfl (et rfl))
    have l5_63 := lookE hA63 5 (et rfl)
    clear hA63 hsz61 hdf61 l0_61 l1_61 l7_61 l24_61
    refine then_n (hK62 _ _ ?_)
    clear hK62
    refine wp_ret ?_
    refine then_ret ?_
    refine ret_in (results_2 Try.results22 (rv_tmp l4_63) (rv_tmp l5_63)) hdf63 ?_
    -- leaf F
    obtain ⟨c64, hc64, hS64⟩ := hS4.pnil (s := 2)
    have he : mgE l m = (ckL l).2 := mgE_1 (by omega)
    have ht : mgT l m = [] := by unfold mgT; rw [if_pos (by rw [he]; omega)]
    rw [he]
    exact ⟨_, rfl, (hS64.fin1 0 rfl (hc64.trans (by rw [ht] <;> rfl)))⟩

end Go.Proofs.Ytnfgeekaeegolaa