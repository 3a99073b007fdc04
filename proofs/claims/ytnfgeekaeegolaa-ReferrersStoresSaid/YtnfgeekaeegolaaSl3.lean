import Derived.Test.YtnfgeekaeegolaaProg
import Derived.Test.YtnfgeekaeegolaaSl2
namespace Go.Proofs.Ytnfgeekaeegolaa
open Go.RowKit Go.Own Go.Own.R Go.Own.S


set_option maxHeartbeats 4000000 in
theorem qbef_c {cv : Value} {c : List Int} {i : Int} {w : World} (h_cv : Ro w NoX (il .i64 cv c)) (hi : 0 ≤ i ∧ i < (c.length : Int)) :
    Calls Try.prog 64 #[cv, .int .i64 i] w fun e w' => e = .returned (.bool (befB c i)) ∧ St w NoX [] w' := by
  obtain ⟨yi, hyi⟩ := get_some (xs := c) (k := i.toNat) (by omega)
  refine calls_in 20 Try.func64 rfl rfl (by simp) (fun A0 hsz0 hdf0 hargs => ?_)
  have l0_0 := hargs 0 (cv) rfl
  have l1_0 := hargs 1 (.int .i64 i) rfl
  clear hargs; replace hsz0 : SzN A0 20 := ⟨hsz0⟩
  have hS := St.nil w
  have bh_cv := SlN.le (sl_SlN h_cv.at)
  refine wp_seq_k (fun K1 hK1 => ?_)
  refine region_in ?_
  refine W_v rfl rfl (V_asg rfl rfl) ?_
  refine W_end ?_
  refine gen_Q (fun A2 hA2 => ?_)
  have hsz2 := szq hA2
  have hdf2 : A2.defers = [] := by rw [hA2]; simp only [df_put]; exact hdf0
  have l0_2 := lookE hA2 0 (es rfl l0_0)
  have l1_2 := lookE hA2 1 (es rfl l1_0)
  clear hA2 hsz0 hdf0 l0_0 l1_0
  refine then_n (hK1 _ _ ?_)
  clear hK1
  refine wp_seq_k (fun K3 hK3 => ?_)
  refine wp_seq_k (fun K4 hK4 => ?_)
  refine region_in ?_
  refine W_v rfl rfl (V_asg rfl rfl) ?_
  refine W_end ?_
  refine gen_Q (fun A5 hA5 => ?_)
  have hsz5 := szq hA5
  have hdf5 : A5.defers = [] := by rw [hA5]; simp only [df_put]; exact hdf2
  have l0_5 := lookE hA5 0 (es rfl l0_2)
  have l1_5 := lookE hA5 1 (es rfl l1_2)
  have l5_5 := lookE hA5 5 (et rfl)
  clear hA5 hsz2 hdf2 l0_2 l1_2
  refine then_n (hK4 _ _ ?_)
  clear hK4
  refine wp_block ?_
  -- loop 2
  refine loopX (fun mz A' w' => SzN A' 20 ∧ A'.defers = [] ∧ (∃ (j : Nat), (mz = i.toNat - j) ∧ (j ≤ i.toNat) ∧ (∀ q, q < j → ∀ x, c[q]? = some x → ¬ x = yi) ∧ (EV A' (.tmp 5) = .int .i64 (j : Int)) ∧ (EV A' (.tmp 0) = EV A5 (.tmp 0)) ∧ (EV A' (.tmp 1) = EV A5 (.tmp 1)) ∧ (St w NoX [] w'))) (i.toNat - 0) ⟨hsz5, hdf5, 0, rfl, (by omega), (fun q hq => by omega), ((l5_5).trans (by first | rfl | (simp; done) | (congr 1; omega))), rfl, rfl, hS⟩ ?_
  clear hS
  rintro n6 A6 w6 ⟨hsz6, hdf6, j, hm6, hj, hz, l5_6, u0_6, u1_6, hS6⟩
  have l0_6 := u0_6.trans l0_5
  have l1_6 := u1_6.trans l1_5
  refine wp_seq_k (fun K7 hK7 => ?_)
  refine wp_seq_k (fun K8 hK8 => ?_)
  refine region_in ?_
  refine W_v rfl rfl (V_mov rfl l5_6) ?_
  refine W_v rfl rfl (V_mov rfl (es rfl l1_6)) ?_
  refine W_v rfl rfl (V_lss rfl (es rfl (et rfl)) (et rfl)) ?_
  refine W_end ?_
  refine gen_Q (fun A9 hA9 => ?_)
  have hsz9 := szq hA9
  have hdf9 : A9.defers = [] := by rw [hA9]; simp only [df_put]; exact hdf6
  have l0_9 := lookE hA9 0 (e2 rfl (es rfl l0_6))
  have l1_9 := lookE hA9 1 (e2 rfl (es rfl l1_6))
  have l5_9 := lookE hA9 5 (e2 rfl (es rfl l5_6))
  have l8_9 := lookE hA9 8 (et rfl)
  clear hA9 hsz6 hdf6 l5_6 l0_6 l1_6
  refine then_n (hK8 _ _ ?_)
  clear hK8
  refine cond_dec l8_9 (fun c10 => ?_) (fun c10 => ?_)
  · skip
    refine wp_skip ?_
    refine then_n (hK7 _ _ ?_)
    clear hK7
    refine wp_seq_k (fun K11 hK11 => ?_)
    refine wp_block ?_
    refine wp_seq_k (fun K12 hK12 => ?_)
    refine region_monoS 9 9 [] (by kernel_rfl) (by kernel_rfl) ?_
    refine D_v rfl rfl (V_mov rfl l0_9) rfl rfl ?_
    refine D_v rfl rfl (V_mov rfl (es rfl l5_9)) rfl rfl ?_
    have k13 : j < c.length := by first | omega | (simp only [List.length_cons, List.length_nil]; omega) | (simp only [List.length_set]; omega) | decide
    obtain ⟨y13, hy13⟩ := get_some (xs := c) (k := j) k13
    obtain ⟨B13, O13, C13, hv13⟩ := (SlN.blk (sl_SlN h_cv.at) (by first | omega | (simp only [List.length_cons, List.length_nil]; omega) | (simp only [List.length_set]; omega) | decide))
    refine D_v rfl rfl (V_ixS (off := O13 + j) 1 (j) rfl (es rfl (et rfl)) (et rfl) hv13 (by omega) k13 Try.underlying23 (by kernel_rfl) (congrArg _ (Nat.mul_one _))) rfl rfl ?_
    refine D_r rfl rfl (by kernel_rfl) (fun sx hx hF => (VR_ldC rfl (et rfl) ((sl_SlN ((hS6.grow hx).ro h_cv)).cell hv13 (map_get hy13)) Try.underlying3 rfl)) rfl rfl ?_
    refine D_v rfl rfl (V_mov rfl (e3 rfl (es rfl l0_9))) rfl rfl ?_
    refine D_v rfl rfl (V_mov rfl (e4 rfl (es rfl l1_9))) rfl rfl ?_
    have k14 : i.toNat < c.length := by first | omega | (simp only [List.length_cons, List.length_nil]; omega) | (simp only [List.length_set]; omega) | decide
    obtain ⟨y14, hy14⟩ := get_some (xs := c) (k := i.toNat) k14
    have hyy14 : y14 = yi := Option.some.inj (hy14.symm.trans hyi)
    refine D_v rfl rfl (V_ixS (off := O13 + i.toNat) 1 (i.toNat) rfl (es rfl (et rfl)) (et rfl) hv13 (by omega) k14 Try.underlying23 (by kernel_rfl) (congrArg _ (Nat.mul_one _))) rfl rfl ?_
    refine D_r rfl rfl (by kernel_rfl) (fun sx hx hF => (VR_ldC rfl (et rfl) ((sl_SlN ((hS6.grow hx).ro h_cv)).cell hv13 (map_get hy14)) Try.underlying3 rfl)) rfl rfl ?_
    refine D_v rfl rfl (V_eql rfl (e4 rfl (et rfl)) (et rfl)) rfl rfl ?_
    refine ZS_none hS6 (Nat.le_refl _) (Nat.le_refl _) (fun s15 hJ15 hL15 hF15 => ?_)
    have hS15 := hJ15.st; clear hF15 hJ15 hL15
    generalize s15.1 = w15 at *
    replace hS15 : St w NoX [] w15 := hS15
    refine gen_Q (fun A16 hA16 => ?_)
    have hsz16 := szq hA16
    have hdf16 : A16.defers = [] := by rw [hA16]; simp only [df_put]; exact hdf9
    have l0_16 := lookE hA16 0 (e8 rfl (es rfl l0_9))
    have l1_16 := lookE hA16 1 (e8 rfl (es rfl l1_9))
    have l5_16 := lookE hA16 5 (e8 rfl (es rfl l5_9))
    have l19_16 := lookE hA16 19 (et rfl)
    clear hA16 hsz9 hdf9 l0_9 l1_9 l5_9 l8_9
    refine then_n (hK12 _ _ ?_)
    clear hK12
    refine cond_dec l19_16 (fun c17 => ?_) (fun c17 => ?_)
    · skip
      refine wp_seq_k (fun K18 hK18 => ?_)
      refine region_in ?_
      refine W_v rfl rfl (V_asg rfl rfl) ?_
      refine W_end ?_
      refine gen_Q (fun A19 hA19 => ?_)
      have hsz19 := szq hA19
      have hdf19 : A19.defers = [] := by rw [hA19]; simp only [df_put]; exact hdf16
      have l4_19 := lookE hA19 4 (et rfl)
      clear hA19 hsz16 hdf16 l0_16 l1_16 l5_16 l19_16
      refine then_n (hK18 _ _ ?_)
      clear hK18
      refine wp_ret ?_
      refine inb_ret ?_
      refine then_ret ?_
      refine then_ret ?_
      refine inb_ret ?_
      refine then_ret ?_
      refine ret_in (results_1 Try.results64 (rv_tmp l4_19)) hdf19 ?_
      -- leaf TT
      have e0 : befB c i = true := by exact bef_T hyi hy13 (by omega) (by omega)
      rw [e0]
      exact ⟨rfl, hS15.fin0⟩
    · skip
      refine wp_skip ?_
      refine inb_n ?_
      refine then_n (hK11 _ _ ?_)
      clear hK11
      refine region_in ?_
      refine W_v rfl rfl (V_mov rfl l5_16) ?_
      refine W_v rfl rfl (V_add rfl (et rfl) rfl (by omega) (by omega)) ?_
      refine W_v rfl rfl (V_asg rfl (et rfl)) ?_
      refine W_end ?_
      refine gen_Q (fun A20 hA20 => ?_)
      have hsz20 := szq hA20
      have hdf20 : A20.defers = [] := by rw [hA20]; simp only [df_put]; exact hdf16
      have l0_20 := lookE hA20 0 (e2 rfl (es rfl l0_16))
      have l1_20 := lookE hA20 1 (e2 rfl (es rfl l1_16))
      have l5_20 := lookE hA20 5 (et rfl)
      clear hA20 hsz16 hdf16 l0_16 l1_16 l5_16 l19_16
      refine then_n ⟨i.toNat - (j + 1), by simp only [hm6]; omega, hsz20, hdf20, (j + 1), rfl, (by omega), (ne_step hz hy13 (by omega)), ((l5_20).trans (by first | rfl | (simp; done) | (congr 1; omega))), ((l0_20).trans l0_5.symm), ((l1_20).trans l1_5.symm), hS15⟩
  · skip
    refine wp_exit ?_
    refine then_exit ?_
    refine then_exit ?_
    refine inb_hit ?_
    refine then_n (hK3 _ _ ?_)
    clear hK3
    refine wp_seq_k (fun K21 hK21 => ?_)
    refine region_in ?_
    refine W_v rfl rfl (V_asg rfl rfl) ?_
    refine W_end ?_
    refine gen_Q (fun A22 hA22 => ?_)
    have hsz22 := szq hA22
    have hdf22 : A22.defers = [] := by rw [hA22]; simp only [df_put]; exact hdf9
    have l4_22 := lookE hA22 4 (et rfl)
    clear hA22 hsz9 hdf9 l0_9 l1_9 l5_9 l8_9
    refine then_n (hK21 _ _ ?_)
    clear hK21
    refine wp_ret ?_
    refine ret_in (results_1 Try.results64 (rv_tmp l4_22)) hdf22 ?_
    -- leaf F
    have e0 : befB c i = false := by exact bef_F hyi hz (by omega)
    rw [e0]
    exact ⟨rfl, hS6.fin0⟩

set_option maxHeartbeats 4000000 in
theorem qfind_c {cv : Value} {c : List Int} {a : Int} {w : World} (h_cv : Ro w NoX (il .i64 cv c)) (hp : P2 c.length) (ha : 1 ≤ a ∧ a ≤ 1600) (hz : usd c < c.length) :
    Calls Try.prog 56 #[cv, .int .i64 a] w fun e w' => e = .returned (.int .i64 (fnd c a)) ∧ St w NoX [] w' := by
  have hpb := hp.bd
  obtain ⟨j0, hj0, hz0⟩ := zero_on a hz
  refine calls_in 28 Try.func56 rfl rfl (by simp) (fun A0 hsz0 hdf0 hargs => ?_)
  have l0_0 := hargs 0 (cv) rfl
  have l1_0 := hargs 1 (.int .i64 a) rfl
  clear hargs; replace hsz0 : SzN A0 28 := ⟨hsz0⟩
  have hS := St.nil w
  have bh_cv := SlN.le (sl_SlN h_cv.at)
  refine wp_seq_k (fun K1 hK1 => ?_)
  refine region_in ?_
  refine W_v rfl rfl (V_asg rfl rfl) ?_
  refine W_end ?_
  refine gen_Q (fun A2 hA2 => ?_)
  have hsz2 := szq hA2
  have hdf2 : A2.defers = [] := by rw [hA2]; simp only [df_put]; exact hdf0
  have l0_2 := lookE hA2 0 (es rfl l0_0)
  have l1_2 := lookE hA2 1 (es rfl l1_0)
  clear hA2 hsz0 hdf0 l0_0 l1_0
  refine then_n (hK1 _ _ ?_)
  clear hK1
  refine wp_seq_k (fun K3 hK3 => ?_)
  refine region_in ?_
  refine W_v rfl rfl (V_mov rfl l1_2) ?_
  refine W_v rfl rfl (V_mul rfl (et rfl) rfl (by omega) (by omega)) ?_
  refine W_v rfl rfl (V_mov rfl (es rfl (es rfl l0_2))) ?_
  refine W_v rfl rfl (V_lenS rfl (et rfl) (sl_SlN h_cv.at) Try.underlying23) ?_
  refine W_v rfl rfl (V_rem rfl (e2 rfl (et rfl)) (et rfl) (by omega) (by omega) (wrap_mod (by omega) (by omega))) ?_
  refine W_v rfl rfl (V_asg rfl (et rfl)) ?_
  refine W_end ?_
  refine gen_Q (fun A4 hA4 => ?_)
  have hsz4 := szq hA4
  have hdf4 : A4.defers = [] := by rw [hA4]; simp only [df_put]; exact hdf2
  have l0_4 := lookE hA4 0 (e5 rfl (es rfl l0_2))
  have l1_4 := lookE hA4 1 (e5 rfl (es rfl l1_2))
  have l5_4 := lookE hA4 5 (et rfl)
  clear hA4 hsz2 hdf2 l0_2 l1_2
  refine then_n (hK3 _ _ ?_)
  clear hK3
  refine wp_seq_k (fun K5 hK5 => ?_)
  refine wp_block ?_
  -- loop 2
  refine loopX (fun mz A' w' => SzN A' 28 ∧ A'.defers = [] ∧ (∃ (j : Nat), (mz = j0 - j) ∧ (j ≤ j0) ∧ (∀ i, i < j → ¬ cl c a i = a ∧ ¬ cl c a i = 0) ∧ (ps c.length a j < c.length) ∧ (EV A' (.tmp 5) = .int .i64 ((ps c.length a j : Nat) : Int)) ∧ (EV A' (.tmp 0) = EV A4 (.tmp 0)) ∧ (EV A' (.tmp 1) = EV A4 (.tmp 1)) ∧ (St w NoX [] w'))) (j0 - 0) ⟨hsz4, hdf4, 0, rfl, (by omega), (fun i hi => by omega), (ps_lt (by omega) _ _), ((l5_4).trans ((congrArg (Value.int .i64) (mod_ps0 (by omega))))), rfl, rfl, hS⟩ ?_
  clear hS
  rintro n6 A6 w6 ⟨hsz6, hdf6, j, hm6, hj, hnz, hps, l5_6, u0_6, u1_6, hS6⟩
  have l0_6 := u0_6.trans l0_4
  have l1_6 := u1_6.trans l1_4
  refine wp_seq_k (fun K7 hK7 => ?_)
  refine wp_seq_k (fun K8 hK8 => ?_)
  refine region_in ?_
  refine W_v rfl rfl (V_mov rfl l0_6) ?_
  refine W_v rfl rfl (V_mov rfl (es rfl l5_6)) ?_
  have k9 : (ps c.length a j) < c.length := by first | omega | (simp only [List.length_cons, List.length_nil]; omega) | (simp only [List.length_set]; omega) | decide
  obtain ⟨y9, hy9⟩ := get_some (xs := c) (k := (ps c.length a j)) k9
  obtain ⟨B9, O9, C9, hv9⟩ := (SlN.blk (sl_SlN h_cv.at) (by first | omega | (simp only [List.length_cons, List.length_nil]; omega) | (simp only [List.length_set]; omega) | decide))
  refine W_v rfl rfl (V_ixS (off := O9 + (ps c.length a j)) 1 ((ps c.length a j)) rfl (es rfl (et rfl)) (et rfl) hv9 (by omega) k9 Try.underlying23 (by kernel_rfl) (congrArg _ (Nat.mul_one _))) ?_
  refine W_r rfl rfl (VR_ldC rfl (et rfl) ((sl_SlN (hS6.ro h_cv)).cell hv9 (map_get hy9)) Try.underlying3 rfl) ?_
  refine W_v rfl rfl (V_neq rfl (et rfl) rfl) ?_
  refine W_end ?_
  refine gen_Q (fun A10 hA10 => ?_)
  have hsz10 := szq hA10
  have hdf10 : A10.defers = [] := by rw [hA10]; simp only [df_put]; exact hdf6
  have l0_10 := lookE hA10 0 (e4 rfl (es rfl l0_6))
  have l1_10 := lookE hA10 1 (e4 rfl (es rfl l1_6))
  have l5_10 := lookE hA10 5 (e4 rfl (es rfl l5_6))
  have l15_10 := lookE hA10 15 (et rfl)
  clear hA10 hsz6 hdf6 l5_6 l0_6 l1_6
  refine then_n (hK8 _ _ ?_)
  clear hK8
  refine cond_dec l15_10 (fun c11 => ?_) (fun c11 => ?_)
  · skip
    have hlt := lt_zero hj hz0 hy9 c11
    refine wp_skip ?_
    refine then_n (hK7 _ _ ?_)
    clear hK7
    refine wp_block ?_
    refine wp_seq_k (fun K12 hK12 => ?_)
    refine wp_seq_k (fun K13 hK13 => ?_)
    refine region_in ?_
    refine W_v rfl rfl (V_mov rfl l0_10) ?_
    refine W_v rfl rfl (V_mov rfl (es rfl l5_10)) ?_
    refine W_v rfl rfl (V_ixS (off := O9 + (ps c.length a j)) 1 ((ps c.length a j)) rfl (es rfl (et rfl)) (et rfl) hv9 (by omega) k9 Try.underlying23 (by kernel_rfl) (congrArg _ (Nat.mul_one _))) ?_
    refine W_r rfl rfl (VR_ldC rfl (et rfl) ((sl_SlN (hS6.ro h_cv)).cell hv9 (map_get hy9)) Try.underlying3 rfl) ?_
    refine W_v rfl rfl (V_mov rfl (e3 rfl (es rfl l1_10))) ?_
    refine W_v rfl rfl (V_eql rfl (es rfl (et rfl)) (et rfl)) ?_
    refine W_end ?_
    refine gen_Q (fun A15 hA15 => ?_)
    have hsz15 := szq hA15
    have hdf15 : A15.defers = [] := by rw [hA15]; simp only [df_put]; exact hdf10
    have l0_15 := lookE hA15 0 (e5 rfl (es rfl l0_10))
    have l1_15 := lookE hA15 1 (e5 rfl (es rfl l1_10))
    have l5_15 := lookE hA15 5 (e5 rfl (es rfl l5_10))
    have l21_15 := lookE hA15 21 (et rfl)
    clear hA15 hsz10 hdf10 l0_10 l1_10 l5_10 l15_10
    refine then_n (hK13 _ _ ?_)
    clear hK13
    refine cond_dec l21_15 (fun c16 => ?_) (fun c16 => ?_)
    · skip
      refine wp_seq_k (fun K17 hK17 => ?_)
      refine region_in ?_
      refine W_v rfl rfl (V_mov rfl l5_15) ?_
      refine W_v rfl rfl (V_asg rfl (et rfl)) ?_
      refine W_end ?_
      refine gen_Q (fun A18 hA18 => ?_)
      have hsz18 := szq hA18
      have hdf18 : A18.defers = [] := by rw [hA18]; simp only [df_put]; exact hdf15
      have l4_18 := lookE hA18 4 (et rfl)
      clear hA18 hsz15 hdf15 l0_15 l1_15 l5_15 l21_15
      refine then_n (hK17 _ _ ?_)
      clear hK17
      refine wp_ret ?_
      refine then_ret ?_
      refine inb_ret ?_
      refine then_ret ?_
      refine inb_ret ?_
      refine then_ret ?_
      refine ret_in (results_1 Try.results56 (rv_tmp l4_18)) hdf18 ?_
      -- leaf TT
      have e0 : fnd c a = ((ps c.length a j : Nat) : Int) := by exact fnd_y (by omega) hnz hy9 c16
      rw [e0]
      exact ⟨rfl, hS6.fin0⟩
    · skip
      refine wp_skip ?_
      refine then_n (hK12 _ _ ?_)
      clear hK12
      refine region_in ?_
      refine W_v rfl rfl (V_mov rfl l5_15) ?_
      refine W_v rfl rfl (V_add rfl (et rfl) rfl (by omega) (by omega)) ?_
      refine W_v rfl rfl (V_mov rfl (es rfl (es rfl l0_15))) ?_
      refine W_v rfl rfl (V_lenS rfl (et rfl) (sl_SlN h_cv.at) Try.underlying23) ?_
      refine W_v rfl rfl (V_rem rfl (e2 rfl (et rfl)) (et rfl) (by omega) (by omega) (wrap_mod (by omega) (by omega))) ?_
      refine W_v rfl rfl (V_asg rfl (et rfl)) ?_
      refine W_end ?_
      refine gen_Q (fun A19 hA19 => ?_)
      have hsz19 := szq hA19
      have hdf19 : A19.defers = [] := by rw [hA19]; simp only [df_put]; exact hdf15
      have l0_19 := lookE hA19 0 (e5 rfl (es rfl l0_15))
      have l1_19 := lookE hA19 1 (e5 rfl (es rfl l1_15))
      have l5_19 := lookE hA19 5 (et rfl)
      clear hA19 hsz15 hdf15 l0_15 l1_15 l5_15 l21_15
      refine inb_n ?_
      refine then_n ⟨j0 - (j + 1), by simp only [hm6]; omega, hsz19, hdf19, (j + 1), rfl, (by omega), (no2_step hnz hy9 c16 c11), (ps_lt (by omega) _ _), ((l5_19).trans ((congrArg (Value.int .i64) (mod_psS _ _)))), ((l0_19).trans l0_4.symm), ((l1_19).trans l1_4.symm), hS6⟩
  · skip
    refine wp_exit ?_
    refine then_exit ?_
    refine then_exit ?_
    refine inb_hit ?_
    refine then_n (hK5 _ _ ?_)
    clear hK5
    refine wp_seq_k (fun K20 hK20 => ?_)
    refine region_in ?_
    refine W_v rfl rfl (V_asg rfl rfl) ?_
    refine W_end ?_
    refine gen_Q (fun A21 hA21 => ?_)
    have hsz21 := szq hA21
    have hdf21 : A21.defers = [] := by rw [hA21]; simp only [df_put]; exact hdf10
    have l4_21 := lookE hA21 4 (et rfl)
    clear hA21 hsz10 hdf10 l0_10 l1_10 l5_10 l15_10
    refine then_n (hK20 _ _ ?_)
    clear hK20
    refine wp_ret ?_
    refine ret_in (results_1 Try.results56 (rv_tmp l4_21)) hdf21 ?_
    -- leaf F
    have e0 : fnd c a = (-1) := by exact fnd_z ha.1 (by omega) hnz hy9 c11
    rw [e0]
    exact ⟨rfl, hS6.fin0⟩

set_option maxHeartbeats 4000000 in
theorem qput_c {cv : Value} {c : List Int} {a : Int} {w : World} (h_cv : Ro w NoX (il .i64 cv c)) (hp : P2 c.length) (ha : 1 ≤ a ∧ a ≤ 1600) (hf : adr c < c.length) :
    Calls Try.prog 66 #[cv, .int .i64 a] w fun e w' => ∃ v, e = .returned (v) ∧ St w NoX [io .i64 (v) (putT c a)] w' := by
  have hpb := hp.bd
  obtain ⟨j0, hj0, hpos, hp0, hput⟩ := putT_free (a := a) (free_of hf)
  refine calls_in 30 Try.func66 rfl rfl (by simp) (fun A0 hsz0 hdf0 hargs => ?_)
  have l0_0 := hargs 0 (cv) rfl
  have l1_0 := hargs 1 (.int .i64 a) rfl
  clear hargs; replace hsz0 : SzN A0 30 := ⟨hsz0⟩
  have hS := St.nil w
  have bh_cv := SlN.le (sl_SlN h_cv.at)
  refine wp_seq_k (fun K1 hK1 => ?_)
  refine region_in ?_
  refine W_v rfl rfl (V_asg rfl rfl) ?_
  refine W_end ?_
  refine gen_Q (fun A2 hA2 => ?_)
  have hsz2 := szq hA2
  have hdf2 : A2.defers = [] := by rw [hA2]; simp only [df_put]; exact hdf0
  have l0_2 := lookE hA2 0 (es rfl l0_0)
  have l1_2 := lookE hA2 1 (es rfl l1_0)
  clear hA2 hsz0 hdf0 l0_0 l1_0
  refine then_n (hK1 _ _ ?_)
  clear hK1
  refine wp_seq_k (fun K3 hK3 => ?_)
  refine region_in ?_
  refine W_litS (vs := []) (xs := []) 1 hS rfl rfl rfl (parts0) rfl Try.underlying23 (by kernel_rfl) (by decide) (by intro v hv; cases hv) (by rfl) (fun g4 w4 c4 hc4 hS4 => ?_)
  replace hc4 : c4 = io .i64 (.slice (some ⟨g4, 0, none⟩) 0 0) [] := hc4
  replace hS4 : St w NoX [c4] w4 := hS4
  refine W_v rfl rfl (V_mov rfl (es rfl l0_2)) ?_
  refine W_appS 1 0 hS4 rfl hc4 rfl rfl rfl (es rfl (et rfl)) (et rfl) Try.underlying23 Try.underlying23 (z := .int .i64 0) (bytes := 8) (by kernel_rfl) rfl (by decide) (sl_SlN (hS4.ro h_cv)) ones_i (by first | omega | (simp; done) | (simp; omega)) (by first | omega | (simp; done) | (simp; omega)) (fun v5 w5 c5 hc5 hS5 => ?_)
  replace hc5 : c5 = io .i64 v5 c := hc5.trans (app_eq (by simp))
  replace hS5 : St w NoX [c5] w5 := hS5
  refine W_v rfl rfl (V_asg rfl (et rfl)) ?_
  refine W_end ?_
  refine gen_Q (fun A6 hA6 => ?_)
  have hsz6 := szq hA6
  have hdf6 : A6.defers = [] := by rw [hA6]; simp only [df_put]; exact hdf2
  have l1_6 := lookE hA6 1 (e3 rfl (es rfl l1_2))
  have l5_6 := lookE hA6 5 (et rfl)
  clear hA6 hsz2 hdf2 l0_2 l1_2
  refine then_n (hK3 _ _ ?_)
  clear hK3
  refine wp_seq_k (fun K7 hK7 => ?_)
  refine region_in ?_
  refine W_v rfl rfl (V_mov rfl l1_6) ?_
  refine W_v rfl rfl (V_mul rfl (et rfl) rfl (by omega) (by omega)) ?_
  refine W_v rfl rfl (V_mov rfl (es rfl (es rfl l5_6))) ?_
  refine W_v rfl rfl (V_lenS rfl (et rfl) (ow_at (hS5.chq 0 rfl hc5)) Try.underlying23) ?_
  refine W_v rfl rfl (V_rem rfl (e2 rfl (et rfl)) (et rfl) (by omega) (by omega) (wrap_mod (by omega) (by omega))) ?_
  refine W_v rfl rfl (V_asg rfl (et rfl)) ?_
  refine W_end ?_
  refine gen_Q (fun A8 hA8 => ?_)
  have hsz8 := szq hA8
  have hdf8 : A8.defers = [] := by rw [hA8]; simp only [df_put]; exact hdf6
  have l1_8 := lookE hA8 1 (e5 rfl (es rfl l1_6))
  have l5_8 := lookE hA8 5 (e5 rfl (es rfl l5_6))
  have l6_8 := lookE hA8 6 (et rfl)
  clear hA8 hsz6 hdf6 l1_6 l5_6
  refine then_n (hK7 _ _ ?_)
  clear hK7
  refine wp_seq_k (fun K9 hK9 => ?_)
  refine wp_block ?_
  -- loop 3
  refine loopX (fun mz A' w' => SzN A' 30 ∧ A'.defers = [] ∧ (∃ (j : Nat), (mz = j0 - j) ∧ (j ≤ j0) ∧ (ps c.length a j < c.length) ∧ (EV A' (.tmp 6) = .int .i64 ((ps c.length a j : Nat) : Int)) ∧ (EV A' (.tmp 1) = EV A8 (.tmp 1)) ∧ (EV A' (.tmp 5) = EV A8 (.tmp 5)) ∧ (St w NoX [io .i64 v5 c] w'))) (j0 - 0) ⟨hsz8, hdf8, 0, rfl, (by omega), (ps_lt (by omega) _ _), ((l6_8).trans ((congrArg (Value.int .i64) (mod_ps0 (by omega))))), rfl, rfl, (by subst hc5; exact hS5)⟩ ?_
  clear hS5 hc5
  rintro n10 A10 w10 ⟨hsz10, hdf10, j, hm10, hj, hps, l6_10, u1_10, u5_10, hS10⟩
  have l1_10 := u1_10.trans l1_8
  have l5_10 := u5_10.trans l5_8
  obtain ⟨c5_10, hc5_10, hS10⟩ := gen1 hS10
  refine wp_seq_k (fun K11 hK11 => ?_)
  refine wp_seq_k (fun K12 hK12 => ?_)
  refine region_in ?_
  refine W_v rfl rfl (V_mov rfl l5_10) ?_
  refine W_v rfl rfl (V_mov rfl (es rfl l6_10)) ?_
  have k13 : (ps c.length a j) < c.length := by first | omega | (simp only [List.length_cons, List.length_nil]; omega) | (simp only [List.length_set]; omega) | decide
  obtain ⟨y13, hy13⟩ := get_some (xs := c) (k := (ps c.length a j)) k13
  obtain ⟨B13, O13, C13, hv13⟩ := (SlN.blk (ow_at (hS10.chq 0 rfl hc5_10)) (by first | omega | (simp only [List.length_cons, List.length_nil]; omega) | (simp only [List.length_set]; omega) | decide))
  refine W_v rfl rfl (V_ixS (off := O13 + (ps c.length a j)) 1 ((ps c.length a j)) rfl (es rfl (et rfl)) (et rfl) hv13 (by omega) k13 Try.underlying23 (by kernel_rfl) (congrArg _ (Nat.mul_one _))) ?_
  refine W_r rfl rfl (VR_ldC rfl (et rfl) ((ow_at (hS10.chq 0 rfl hc5_10)).cell hv13 (map_get hy13)) Try.underlying3 rfl) ?_
  refine W_v rfl rfl (V_gtr rfl (et rfl) rfl) ?_
  refine W_end ?_
  refine gen_Q (fun A14 hA14 => ?_)
  have hsz14 := szq hA14
  have hdf14 : A14.defers = [] := by rw [hA14]; simp only [df_put]; exact hdf10
  have l1_14 := lookE hA14 1 (e4 rfl (es rfl l1_10))
  have l5_14 := lookE hA14 5 (e4 rfl (es rfl l5_10))
  have l6_14 := lookE hA14 6 (e4 rfl (es rfl l6_10))
  have l19_14 := lookE hA14 19 (et rfl)
  clear hA14 hsz10 hdf10 l6_10 l1_10 l5_10
  refine then_n (hK12 _ _ ?_)
  clear hK12
  refine cond_dec l19_14 (fun c15 => ?_) (fun c15 => ?_)
  · skip
    have hlt := lt_free hj hp0 hy13 c15
    refine wp_skip ?_
    refine then_n (hK11 _ _ ?_)
    clear hK11
    refine wp_block ?_
    refine region_in ?_
    refine W_v rfl rfl (V_mov rfl l6_14) ?_
    refine W_v rfl rfl (V_add rfl (et rfl) rfl (by omega) (by omega)) ?_
    refine W_v rfl rfl (V_mov rfl (es rfl (es rfl l5_14))) ?_
    refine W_v rfl rfl (V_lenS rfl (et rfl) (ow_at (hS10.chq 0 rfl hc5_10)) Try.underlying23) ?_
    refine W_v rfl rfl (V_rem rfl (e2 rfl (et rfl)) (et rfl) (by omega) (by omega) (wrap_mod (by omega) (by omega))) ?_
    refine W_v rfl rfl (V_asg rfl (et rfl)) ?_
    refine W_end ?_
    refine gen_Q (fun A16 hA16 => ?_)
    have hsz16 := szq hA16
    have hdf16 : A16.defers = [] := by rw [hA16]; simp only [df_put]; exact hdf14
    have l1_16 := lookE hA16 1 (e5 rfl (es rfl l1_14))
    have l5_16 := lookE hA16 5 (e5 rfl (es rfl l5_14))
    have l6_16 := lookE hA16 6 (et rfl)
    clear hA16 hsz14 hdf14 l1_14 l5_14 l6_14 l19_14
    refine inb_n ?_
    refine then_n ⟨j0 - (j + 1), by simp only [hm10]; omega, hsz16, hdf16, (j + 1), rfl, (by omega), (ps_lt (by omega) _ _), ((l6_16).trans ((congrArg (Value.int .i64) (mod_psS _ _)))), ((l1_16).trans l1_8.symm), ((l5_16).trans l5_8.symm), (by subst hc5_10; exact hS10)⟩
  · skip
    refine wp_exit ?_
    refine then_exit ?_
    refine then_exit ?_
    refine inb_hit ?_
    refine then_n (hK9 _ _ ?_)
    clear hK9
    refine wp_seq_k (fun K17 hK17 => ?_)
    refine region_in ?_
    refine W_v rfl rfl (V_mov rfl l5_14) ?_
    refine W_v rfl rfl (V_mov rfl (es rfl l6_14)) ?_
    refine W_v rfl rfl (V_mov rfl (es rfl (es rfl l1_14))) ?_
    refine W_v rfl rfl (V_ixS (off := O13 + (ps c.length a j)) 1 ((ps c.length a j)) rfl (e2 rfl (et rfl)) (es rfl (et rfl)) hv13 (by omega) k13 Try.underlying23 (by kernel_rfl) (congrArg _ (Nat.mul_one _))) ?_
    refine W_stE 0 hS10 rfl hc5_10 hv13 rfl rfl rfl (et rfl) (es rfl (et rfl)) (by rfl) rfl (by first | (simp only [List.length_map]; omega) | omega) (by kernel_rfl) (fun w19 c19 hc19 hS19 => ?_)
    replace hc19 : c19 = io .i64 v5 (c.set (ps c.length a j) a) := hc19.trans (by simp [io, bo, List.map_set] <;> rfl)
    replace hS19 : St w NoX [c19] w19 := hS19
    refine W_end ?_
    refine gen_Q (fun A20 hA20 => ?_)
    have hsz20 := szq hA20
    have hdf20 : A20.defers = [] := by rw [hA20]; simp only [df_put]; exact hdf14
    have l5_20 := lookE hA20 5 (e3 rfl (es rfl l5_14))
    clear hA20 hsz14 hdf14 l1_14 l5_14 l6_14 l19_14
    refine then_n (hK17 _ _ ?_)
    clear hK17
    refine wp_seq_k (fun K21 hK21 => ?_)
    refine region_in ?_
    refine W_v rfl rfl (V_mov rfl l5_20) ?_
    refine W_v rfl rfl (V_asg rfl (et rfl)) ?_
    refine W_end ?_
    refine gen_Q (fun A22 hA22 => ?_)
    have hsz22 := szq hA22
    have hdf22 : A22.defers = [] := by rw [hA22]; simp only [df_put]; exact hdf20
    have l4_22 := lookE hA22 4 (et rfl)
    clear hA22 hsz20 hdf20 l5_20
    refine then_n (hK21 _ _ ?_)
    clear hK21
    refine wp_ret ?_
    refine ret_in (results_1 Try.results66 (rv_tmp l4_22)) hdf22 ?_
    -- leaf F
    obtain rfl : j = j0 := eq_free hj hpos hy13 c15
    exact ⟨_, rfl, (hS19.fin1 0 rfl (hc19.trans (congrArg (io .i64 _) hput.symm)))⟩

set_option maxHeartbeats 4000000 in
theorem qsr_c {cv : Value} {c : List Int} {w : World} (h_cv : Ro w NoX (il .i64 cv c)) (hr : Rng c) :
    Calls Try.prog 60 #[cv] w fun e w' => ∃ v, e = .returned (v) ∧ St w NoX [io .i64 (v) (tgK c 1600)] w' := by
  refine calls_in 38 Try.func60 rfl rfl (by simp) (fun A0 hsz0 hdf0 hargs => ?_)
  have l0_0 := hargs 0 (cv) rfl
  clear hargs; replace hsz0 : SzN A0 38 := ⟨hsz0⟩
  have hS := St.nil w
  have bh_cv := SlN.le (sl_SlN h_cv.at)
  refine wp_seq_k (fun K1 hK1 => ?_)
  refine region_in ?_
  refine W_v rfl rfl (V_asg rfl rfl) ?_
  refine W_end ?_
  refine gen_Q (fun A2 hA2 => ?_)
  have hsz2 := szq hA2
  have hdf2 : A2.defers = [] := by rw [hA2]; simp only [df_put]; exact hdf0
  have l0_2 := lookE hA2 0 (es rfl l0_0)
  clear hA2 hsz0 hdf0 l0_0
  refine then_n (hK1 _ _ ?_)
  clear hK1
  refine wp_seq_k (fun K3 hK3 => ?_)
  refine region_in ?_
  refine W_mkS (z := .bool false) (bytes := 1) 1601 hS rfl rfl rfl rfl rfl (by omega) Try.underlying98 (by kernel_rfl) (by omega) rfl (fun v4 w4 c4 hc4 hS4 => ?_)
  replace hc4 : c4 = bo v4 (List.replicate 1601 false) := hc4.trans (by simp only [io, bo, List.map_replicate, List.length_replicate])
  replace hS4 : St w NoX [c4] w4 := hS4
  refine W_v rfl rfl (V_asg rfl (et rfl)) ?_
  refine W_end ?_
  refine gen_Q (fun A5 hA5 => ?_)
  have hsz5 := szq hA5
  have hdf5 : A5.defers = [] := by rw [hA5]; simp only [df_put]; exact hdf2
  have l0_5 := lookE hA5 0 (es rfl (es rfl l0_2))
  have l3_5 := lookE hA5 3 (et rfl)
  clear hA5 hsz2 hdf2 l0_2
  refine then_n (hK3 _ _ ?_)
  clear hK3
  refine wp_seq_k (fun K6 hK6 => ?_)
  refine wp_seq_k (fun K7 hK7 => ?_)
  refine region_in ?_
  refine W_v rfl rfl (V_asg rfl rfl) ?_
  refine W_end ?_
  refine gen_Q (fun A8 hA8 => ?_)
  have hsz8 := szq hA8
  have hdf8 : A8.defers = [] := by rw [hA8]; simp only [df_put]; exact hdf5
  have l0_8 := lookE hA8 0 (es rfl l0_5)
  have l3_8 := lookE hA8 3 (es rfl l3_5)
  have l4_8 := lookE hA8 4 (et rfl)
  clear hA8 hsz5 hdf5 l0_5 l3_5
  refine then_n (hK7 _ _ ?_)
  clear hK7
  refine wp_block ?_
  -- loop 3
  refine loopX (fun mz A' w' => SzN A' 38 ∧ A'.defers = [] ∧ (∃ (k : Nat), (mz = c.length - k) ∧ (k ≤ c.length) ∧ ((mtS (c.take k)).length = 1601) ∧ (EV A' (.tmp 4) = .int .i64 (k : Int)) ∧ (EV A' (.tmp 0) = EV A8 (.tmp 0)) ∧ (EV A' (.tmp 3) = EV A8 (.tmp 3)) ∧ (St w NoX [bo v4 (mtS (c.take k))] w'))) (c.length - 0) ⟨hsz8, hdf8, 0, rfl, (by omega), (mtS_len _), ((l4_8).trans (by first | rfl | (simp; done) | (congr 1; omega))), rfl, rfl, (by have q0 : c4 = bo v4 (mtS (c.take 0)) := hc4.trans ((congrArg (bo _) mtS_nil)); subst q0; exact hS4)⟩ ?_
  clear hS4 hc4
  rintro n9 A9 w9 ⟨hsz9, hdf9, k, hm9, hk, hml, l4_9, u0_9, u3_9, hS9⟩
  have l0_9 := u0_9.trans l0_8
  have l3_9 := u3_9.trans l3_8
  obtain ⟨c4_9, hc4_9, hS9⟩ := gen1 hS9
  refine wp_seq_k (fun K10 hK10 => ?_)
  refine wp_seq_k (fun K11 hK11 => ?_)
  refine region_in ?_
  refine W_v rfl rfl (V_mov rfl l4_9) ?_
  refine W_v rfl rfl (V_mov rfl (es rfl l0_9)) ?_
  refine W_v rfl rfl (V_lenS rfl (et rfl) (sl_SlN h_cv.at) Try.underlying23) ?_
  refine W_v rfl rfl (V_lss rfl (e2 rfl (et rfl)) (et rfl)) ?_
  refine W_end ?_
  refine gen_Q (fun A12 hA12 => ?_)
  have hsz12 := szq hA12
  have hdf12 : A12.defers = [] := by rw [hA12]; simp only [df_put]; exact hdf9
  have l0_12 := lookE hA12 0 (e3 rfl (es rfl l0_9))
  have l3_12 := lookE hA12 3 (e3 rfl (es rfl l3_9))
  have l4_12 := lookE hA12 4 (e3 rfl (es rfl l4_9))
  have l11_12 := lookE hA12 11 (et rfl)
  clear hA12 hsz9 hdf9 l4_9 l0_9 l3_9
  refine then_n (hK11 _ _ ?_)
  clear hK11
  refine cond_dec l11_12 (fun c13 => ?_) (fun c13 => ?_)
  · skip
    refine wp_skip ?_
    refine then_n (hK10 _ _ ?_)
    clear hK10
    refine wp_seq_k (fun K14 hK14 => ?_)
    refine wp_block ?_
    refine wp_seq_k (fun K15 hK15 => ?_)
    refine region_in ?_
    refine W_v rfl rfl (V_mov rfl l0_12) ?_
    refine W_v rfl rfl (V_mov rfl (es rfl l4_12)) ?_
    have k16 : k < c.length := by first | omega | (simp only [List.length_cons, List.length_nil]; omega) | (simp only [List.length_set]; omega) | decide
    obtain ⟨y16, hy16⟩ := get_some (xs := c) (k := k) k16
    have hry16 := hr y16 (List.mem_of_getElem? hy16)
    obtain ⟨B16, O16, C16, hv16⟩ := (SlN.blk (sl_SlN h_cv.at) (by first | omega | (simp only [List.length_cons, List.length_nil]; omega) | (simp only [List.length_set]; omega) | decide))
    refine W_v rfl rfl (V_ixS (off := O16 + k) 1 (k) rfl (es rfl (et rfl)) (et rfl) hv16 (by omega) k16 Try.underlying23 (by kernel_rfl) (congrArg _ (Nat.mul_one _))) ?_
    refine W_r rfl rfl (VR_ldC rfl (et rfl) ((sl_SlN (hS9.ro h_cv)).cell hv16 (map_get hy16)) Try.underlying3 rfl) ?_
    refine W_v rfl rfl (V_gtr rfl (et rfl) rfl) ?_
    refine W_end ?_
    refine gen_Q (fun A17 hA17 => ?_)
    have hsz17 := szq hA17
    have hdf17 : A17.defers = [] := by rw [hA17]; simp only [df_put]; exact hdf12
    have l0_17 := lookE hA17 0 (e4 rfl (es rfl l0_12))
    have l3_17 := lookE hA17 3 (e4 rfl (es rfl l3_12))
    have l4_17 := lookE hA17 4 (e4 rfl (es rfl l4_12))
    have l18_17 := lookE hA17 18 (et rfl)
    clear hA17 hsz12 hdf12 l0_12 l3_12 l4_12 l11_12
    refine then_n (hK15 _ _ ?_)
    clear hK15
    refine cond_dec l18_17 (fun c18 => ?_) (fun c18 => ?_)
    · skip
      refine region_in ?_
      refine W_v rfl rfl (V_mov rfl l3_17) ?_
      refine W_v rfl rfl (V_mov rfl (es rfl l0_17)) ?_
      refine W_v rfl rfl (V_mov rfl (es rfl (es rfl l4_17))) ?_
      refine W_v rfl rfl (V_ixS (off := O16 + k) 1 (k) rfl (es rfl (et rfl)) (et rfl) hv16 (by omega) k16 Try.underlying23 (by kernel_rfl) (congrArg _ (Nat.mul_one _))) ?_
      refine W_r rfl rfl (VR_ldC rfl (et rfl) ((sl_SlN (hS9.ro h_cv)).cell hv16 (map_get hy16)) Try.underlying3 rfl) ?_
      have k20 : y16.toNat < (mtS (c.take k)).length := by first | omega | (simp only [List.length_cons, List.length_nil]; omega) | (simp only [List.length_set]; omega) | decide
      obtain ⟨y20, hy20⟩ := get_some (xs := (mtS (c.take k))) (k := y16.toNat) k20
      obtain ⟨B20, O20, C20, hv20⟩ := (SlN.blk (ow_at (hS9.chq 0 rfl hc4_9)) (by first | omega | (simp only [List.length_cons, List.length_nil]; omega) | (simp only [List.length_set]; omega) | decide))
      refine W_v rfl rfl (V_ixS (off := O20 + y16.toNat) 1 (y16.toNat) rfl (e4 rfl (et rfl)) (et rfl) hv20 (by omega) k20 Try.underlying98 (by kernel_rfl) (congrArg _ (Nat.mul_one _))) ?_
      refine W_stE 0 hS9 rfl hc4_9 hv20 rfl rfl rfl (et rfl) rfl (by rfl) rfl (by first | (simp only [List.length_map]; omega) | omega) (by kernel_rfl) (fun w21 c21 hc21 hS21 => ?_)
      replace hc21 : c21 = bo v4 ((mtS (c.take k)).set y16.toNat true) := hc21.trans (by simp [io, bo, List.map_set] <;> rfl)
      replace hS21 : St w NoX [c21] w21 := hS21
      refine W_end ?_
      refine gen_Q (fun A22 hA22 => ?_)
      have hsz22 := szq hA22
      have hdf22 : A22.defers = [] := by rw [hA22]; simp only [df_put]; exact hdf17
      have l0_22 := lookE hA22 0 (e5 rfl (es rfl l0_17))
      have l3_22 := lookE hA22 3 (e5 rfl (es rfl l3_17))
      have l4_22 := lookE hA22 4 (e5 rfl (es rfl l4_17))
      clear hA22 hsz17 hdf17 l0_17 l3_17 l4_17 l18_17
      refine inb_n ?_
      refine then_n (hK14 _ _ ?_)
      clear hK14
      refine region_in ?_
      refine W_v rfl rfl (V_mov rfl l4_22) ?_
      refine W_v rfl rfl (V_add rfl (et rfl) rfl (by omega) (by omega)) ?_
      refine W_v rfl rfl (V_asg rfl (et rfl)) ?_
      refine W_end ?_
      refine gen_Q (fun A23 hA23 => ?_)
      have hsz23 := szq hA23
      have hdf23 : A23.defers = [] := by rw [hA23]; simp only [df_put]; exact hdf22
      have l0_23 := lookE hA23 0 (e2 rfl (es rfl l0_22))
      have l3_23 := lookE hA23 3 (e2 rfl (es rfl l3_22))
      have l4_23 := lookE hA23 4 (et rfl)
      clear hA23 hsz22 hdf22 l0_22 l3_22 l4_22
      refine then_n ⟨c.length - (k + 1), by simp only [hm9]; omega, hsz23, hdf23, (k + 1), rfl, (by omega), (mtS_len _), ((l4_23).trans (by first | rfl | (simp; done) | (congr 1; omega))), ((l0_23).trans l0_8.symm), ((l3_23).trans l3_8.symm), (by have q0 : c21 = bo v4 (mtS (c.take (k + 1))) := hc21.trans ((congrArg (bo _) (mtS_set hy16 (by omega)))); subst q0; exact hS21)⟩
    · skip
      refine wp_skip ?_
      refine inb_n ?_
      refine then_n (hK14 _ _ ?_)
      clear hK14
      refine region_in ?_
      refine W_v rfl rfl (V_mov rfl l4_17) ?_
      refine W_v rfl rfl (V_add rfl (et rfl) rfl (by omega) (by omega)) ?_
      refine W_v rfl rfl (V_asg rfl (et rfl)) ?_
      refine W_end ?_
      refine gen_Q (fun A24 hA24 => ?_)
      have hsz24 := szq hA24
      have hdf24 : A24.defers = [] := by rw [hA24]; simp only [df_put]; exact hdf17
      have l0_24 := lookE hA24 0 (e2 rfl (es rfl l0_17))
      have l3_24 := lookE hA24 3 (e2 rfl (es rfl l3_17))
      have l4_24 := lookE hA24 4 (et rfl)
      clear hA24 hsz17 hdf17 l0_17 l3_17 l4_17 l18_17
      refine then_n ⟨c.length - (k + 1), by simp only [hm9]; omega, hsz24, hdf24, (k + 1), rfl, (by omega), (mtS_len _), ((l4_24).trans (by first | rfl | (simp; done) | (congr 1; omega))), ((l0_24).trans l0_8.symm), ((l3_24).trans l3_8.symm), (by have q0 : c4_9 = bo v4 (mtS (c.take (k + 1))) := hc4_9.trans ((congrArg (bo _) (mtS_skip hy16 c18))); subst q0; exact hS9)⟩
  · skip
    have hTK : c.take k = c := List.take_of_length_le (by omega)
    refine wp_exit ?_
    refine then_exit ?_
    refine then_exit ?_
    refine inb_hit ?_
    refine then_n (hK6 _ _ ?_)
    clear hK6
    refine wp_seq_k (fun K25 hK25 => ?_)
    refine region_in ?_
    refine W_v rfl rfl (V_asg rfl rfl) ?_
    refine W_end ?_
    refine gen_Q (fun A26 hA26 => ?_)
    have hsz26 := szq hA26
    have hdf26 : A26.defers = [] := by rw [hA26]; simp only [df_put]; exact hdf12
    have l3_26 := lookE hA26 3 (es rfl l3_12)
    have l5_26 := lookE hA26 5 (et rfl)
    clear hA26 hsz12 hdf12 l0_12 l3_12 l4_12 l11_12
    refine then_n (hK25 _ _ ?_)
    clear hK25
    refine wp_seq_k (fun K27 hK27 => ?_)
    refine wp_seq_k (fun K28 hK28 => ?_)
    refine region_in ?_
    refine W_v rfl rfl (V_asg rfl rfl) ?_
    refine W_end ?_
    refine gen_Q (fun A29 hA29 => ?_)
    have hsz29 := szq hA29
    have hdf29 : A29.defers = [] := by rw [hA29]; simp only [df_put]; exact hdf26
    have l3_29 := lookE hA29 3 (es rfl l3_26)
    have l5_29 := lookE hA29 5 (es rfl l5_26)
    have l6_29 := lookE hA29 6 (et rfl)
    clear hA29 hsz26 hdf26 l3_26 l5_26
    refine then_n (hK28 _ _ ?_)
    clear hK28
    refine wp_block ?_
    obtain ⟨c30, hc30, hS30⟩ := hS9.pnil (s := 1)
    -- loop 9
    have htk := tgK_len c
    refine loopX (fun mz A' w' => SzN A' 38 ∧ A'.defers = [] ∧ (∃ (k2 : Nat) (bv : Value), (mz = 1600 - k2) ∧ (k2 ≤ 1600) ∧ (EV A' (.tmp 6) = .int .i64 ((k2 : Int) + 1)) ∧ (EV A' (.tmp 5) = bv) ∧ (EV A' (.tmp 3) = EV A29 (.tmp 3)) ∧ (St w NoX [io .i64 bv (tgK c k2), bo v4 (mtS (c.take k))] w'))) (1600 - 0) ⟨hsz29, hdf29, 0, (.slice none 0 0), rfl, (by omega), ((l6_29).trans (by first | rfl | (simp; done) | (congr 1; omega))), ((l5_29).trans (by first | rfl | (simp; done) | (congr 1; omega))), rfl, (by have q0 : c30 = io .i64 (.slice none 0 0) (tgK c 0) := hc30.trans (rfl); have q1 := hc4_9; subst q0 q1; exact hS30)⟩ ?_
    clear hS30 hc30 hc4_9
    rintro n31 A31 w31 ⟨hsz31, hdf31, k2, bv, hm31, hk2, l6_31, l5_31, u3_31, hS31⟩
    have l3_31 := u3_31.trans l3_29
    obtain ⟨c30_31, c4_31, hc30_31, hc4_31, hS31⟩ := gen2 hS31
    refine wp_seq_k (fun K32 hK32 => ?_)
    refine wp_seq_k (fun K33 hK33 => ?_)
    refine region_in ?_
    refine W_v rfl rfl (V_mov rfl l6_31) ?_
    refine W_v rfl rfl (V_leq rfl (et rfl) rfl) ?_
    refine W_end ?_
    refine gen_Q (fun A34 hA34 => ?_)
    have hsz34 := szq hA34
    have hdf34 : A34.defers = [] := by rw [hA34]; simp only [df_put]; exact hdf31
    have l3_34 := lookE hA34 3 (es rfl (es rfl l3_31))
    have l5_34 := lookE hA34 5 (es rfl (es rfl l5_31))
    have l6_34 := lookE hA34 6 (es rfl (es rfl l6_31))
    have l26_34 := lookE hA34 26 (et rfl)
    clear hA34 hsz31 hdf31 l6_31 l5_31 l3_31
    refine then_n (hK33 _ _ ?_)
    clear hK33
    refine cond_dec l26_34 (fun c35 => ?_) (fun c35 => ?_)
    · skip
      refine wp_skip ?_
      refine then_n (hK32 _ _ ?_)
      clear hK32
      refine wp_seq_k (fun K36 hK36 => ?_)
      refine wp_block ?_
      refine wp_seq_k (fun K37 hK37 => ?_)
      refine region_in ?_
      refine W_v rfl rfl (V_mov rfl l3_34) ?_
      refine W_v rfl rfl (V_mov rfl (es rfl l6_34)) ?_
      have k38 : (((k2 : Int) + 1)).toNat < (mtS (c.take k)).length := by first | omega | (simp only [List.length_cons, List.length_nil]; omega) | (simp only [List.length_set]; omega) | decide
      obtain ⟨y38, hy38⟩ := get_some (xs := (mtS (c.take k))) (k := (((k2 : Int) + 1)).toNat) k38
      obtain ⟨B38, O38, C38, hv38⟩ := (SlN.blk (ow_at (hS31.chq 1 rfl hc4_31)) (by first | omega | (simp only [List.length_cons, List.length_nil]; omega) | (simp only [List.length_set]; omega) | decide))
      refine W_v rfl rfl (V_ixS (off := O38 + ((((k2 : Int) + 1)).toNat)) 1 ((((k2 : Int) + 1)).toNat) rfl (es rfl (et rfl)) (et rfl) hv38 (by omega) k38 Try.underlying98 (by kernel_rfl) (congrArg _ (Nat.mul_one _))) ?_
      refine W_r rfl rfl (VR_ldC rfl (et rfl) ((ow_at (hS31.chq 1 rfl hc4_31)).cell hv38 (map_get hy38)) Try.underlying4 rfl) ?_
      refine W_end ?_
      refine gen_Q (fun A39 hA39 => ?_)
      have hsz39 := szq hA39
      have hdf39 : A39.defers = [] := by rw [hA39]; simp only [df_put]; exact hdf34
      have l3_39 := lookE hA39 3 (e3 rfl (es rfl l3_34))
      have l5_39 := lookE hA39 5 (e3 rfl (es rfl l5_34))
      have l6_39 := lookE hA39 6 (e3 rfl (es rfl l6_34))
      have l32_39 := lookE hA39 32 (et rfl)
      clear hA39 hsz34 hdf34 l3_34 l5_34 l6_34 l26_34
      refine then_n (hK37 _ _ ?_)
      clear hK37
      refine cond_b l32_39 (fun c40 => ?_) (fun c40 => ?_)
      · skip
        refine region_in ?_
        refine W_v rfl rfl (V_mov rfl l5_39) ?_
        refine W_v rfl rfl (V_mov rfl (es rfl l6_39)) ?_
        have hll41 : [((k2 : Int) + 1)].length = 1 := rfl
        refine W_litS (vs := [.int .i64 (((k2 : Int) + 1))]) (xs := ([((k2 : Int) + 1)].map (Value.int .i64))) 1 hS31 rfl rfl rfl (parts1 (et rfl)) rfl Try.underlying23 (by kernel_rfl) (by decide) (by intro v hv; simp only [List.mem_cons, List.not_mem_nil, or_false] at hv; rcases hv with rfl <;> rfl) (by rfl) (fun g41 w41 c41 hc41 hS41 => ?_)
        replace hc41 : c41 = io .i64 (.slice (some ⟨g41, 0, none⟩) 1 1) [((k2 : Int) + 1)] := hc41
        replace hS41 : St w NoX [c41, c30_31, c4_31] w41 := hS41
        refine W_appS 1 1 hS41 rfl hc30_31 rfl rfl rfl (e2 rfl (et rfl)) (et rfl) Try.underlying23 Try.underlying23 (z := .int .i64 0) (bytes := 8) (by kernel_rfl) rfl (by decide) (ow_at (hS41.chq 0 rfl hc41)) ones_i (by have := tgK_len c k2; simp; omega) (by have := tgK_len c k2; simp; omega) (fun v42 w42 c42 hc42 hS42 => ?_)
        replace hc42 : c42 = io .i64 v42 ((tgK c k2) ++ [((k2 : Int) + 1)]) := hc42.trans (app_eq (by simp))
        replace hS42 : St w NoX [c41, c42, c4_31] w42 := hS42
        refine W_v rfl rfl (V_asg rfl (et rfl)) ?_
        refine W_end ?_
        refine gen_Q (fun A43 hA43 => ?_)
        have hsz43 := szq hA43
        have hdf43 : A43.defers = [] := by rw [hA43]; simp only [df_put]; exact hdf39
        have l3_43 := lookE hA43 3 (e4 rfl (es rfl l3_39))
        have l5_43 := lookE hA43 5 (et rfl)
        have l6_43 := lookE hA43 6 (e4 rfl (es rfl l6_39))
        clear hA43 hsz39 hdf39 l3_39 l5_39 l6_39 l32_39
        have hS44 : St w NoX [c42, c4_31] w42 := hS42.sel [1, 2] (by decide) rfl
        refine inb_n ?_
        refine then_n (hK36 _ _ ?_)
        clear hK36
        refine region_in ?_
        refine W_v rfl rfl (V_mov rfl l6_43) ?_
        refine W_v rfl rfl (V_add rfl (et rfl) rfl (by omega) (by omega)) ?_
        refine W_v rfl rfl (V_asg rfl (et rfl)) ?_
        refine W_end ?_
        refine gen_Q (fun A45 hA45 => ?_)
        have hsz45 := szq hA45
        have hdf45 : A45.defers = [] := by rw [hA45]; simp only [df_put]; exact hdf43
        have l3_45 := lookE hA45 3 (e2 rfl (es rfl l3_43))
        have l5_45 := lookE hA45 5 (e2 rfl (es rfl l5_43))
        have l6_45 := lookE hA45 6 (et rfl)
        clear hA45 hsz43 hdf43 l3_43 l5_43 l6_43
        refine then_n ⟨1600 - (k2 + 1), by simp only [hm31]; omega, hsz45, hdf45, (k2 + 1), v42, rfl, (by omega), ((l6_45).trans (by first | rfl | (simp; done) | (congr 1; omega))), ((l5_45).trans (by first | rfl | (simp; done) | (congr 1; omega))), ((l3_45).trans l3_29.symm), (by have q0 : c42 = io .i64 v42 (tgK c (k2 + 1)) := hc42.trans ((congrArg (io .i64 _) (tgK_in (tg_T rfl (by omega) (hTK ▸ hy38) c40)))); have q1 := hc4_31; subst q0 q1; exact hS44)⟩
      · skip
        refine wp_skip ?_
        refine inb_n ?_
        refine then_n (hK36 _ _ ?_)
        clear hK36
        refine region_in ?_
        refine W_v rfl rfl (V_mov rfl l6_39) ?_
        refine W_v rfl rfl (V_add rfl (et rfl) rfl (by omega) (by omega)) ?_
        refine W_v rfl rfl (V_asg rfl (et rfl)) ?_
        refine W_end ?_
        refine gen_Q (fun A46 hA46 => ?_)
        have hsz46 := szq hA46
        have hdf46 : A46.defers = [] := by rw [hA46]; simp only [df_put]; exact hdf39
        have l3_46 := lookE hA46 3 (e2 rfl (es rfl l3_39))
        have l5_46 := lookE hA46 5 (e2 rfl (es rfl l5_39))
        have l6_46 := lookE hA46 6 (et rfl)
        clear hA46 hsz39 hdf39 l3_39 l5_39 l6_39 l32_39
        refine then_n ⟨1600 - (k2 + 1), by simp only [hm31]; omega, hsz46, hdf46, (k2 + 1), bv, rfl, (by omega), ((l6_46).trans (by first | rfl | (simp; done) | (congr 1; omega))), ((l5_46).trans (by first | rfl | (simp; done) | (congr 1; omega))), ((l3_46).trans l3_29.symm), (by have q0 : c30_31 = io .i64 bv (tgK c (k2 + 1)) := hc30_31.trans ((congrArg (io .i64 _) (tgK_out (tg_F rfl (by omega) (hTK ▸ hy38) c40)))); have q1 := hc4_31; subst q0 q1; exact hS31)⟩
    · skip
      refine wp_exit ?_
      refine then_exit ?_
      refine then_exit ?_
      refine inb_hit ?_
      refine then_n (hK27 _ _ ?_)
      clear hK27
      refine wp_seq_k (fun K47 hK47 => ?_)
      refine region_in ?_
      refine W_v rfl rfl (V_mov rfl l5_34) ?_
      refine W_v rfl rfl (V_asg rfl (et rfl)) ?_
      refine W_end ?_
      refine gen_Q (fun A48 hA48 => ?_)
      have hsz48 := szq hA48
      have hdf48 : A48.defers = [] := by rw [hA48]; simp only [df_put]; exact hdf34
      have l2_48 := lookE hA48 2 (et rfl)
      clear hA48 hsz34 hdf34 l3_34 l5_34 l6_34 l26_34
      have hS49 : St w NoX [c30_31] w31 := hS31.sel [0] (by decide) rfl
      refine then_n (hK47 _ _ ?_)
      clear hK47
      refine wp_ret ?_
      refine ret_in (results_1 Try.results60 (rv_tmp l2_48)) hdf48 ?_
      -- leaf FF
      have hk3 : k2 = 1600 := by omega
      exact ⟨_, rfl, (hS49.fin1 0 rfl (hc30_31.trans (congrArg (io .i64 _) (by rw [hk3]))))⟩

set_option maxHeartbeats 4000000 in
theorem qadd_c {cv : Value} {c : List Int} {a : Int} {w : World} (h_cv : Ro w NoX (il .i64 cv c)) (hG : Gd c) (ha : 1 ≤ a ∧ a ≤ 1600) (hn : a ∉ c) :
    Calls Try.prog 57 #[cv, .int .i64 a] w fun e w' => ∃ v, e = .returned (v) ∧ St w NoX [io .i64 (v) (addT c a)] w' := by
  have hpb := hG.bd
  have hpl := putT_len c a
  obtain ⟨p1, p2, p3, p4, p5⟩ := put_good hG.toGw ha hn hpb.2.2.2
  have hfl := hG.full
  have hul := usd_le (putT c a)
  have hau := adr_usd (putT c a)
  obtain ⟨n1, n2, n3, n4⟩ := adN_bd p1 (by rw [hpl]; exact hG.p2) (by omega)
  have n1b := n1.bd
  have hbp := fun k h => bld_part (c := putT c a) (n := adN (putT c a)) (k := k) n2 h
  have htl := tgK_len (putT c a) 1600
  refine calls_in 54 Try.func57 rfl rfl (by simp) (fun A0 hsz0 hdf0 hargs => ?_)
  have l0_0 := hargs 0 (cv) rfl
  have l1_0 := hargs 1 (.int .i64 a) rfl
  clear hargs; replace hsz0 : SzN A0 54 := ⟨hsz0⟩
  have hS := St.nil w
  have bh_cv := SlN.le (sl_SlN h_cv.at)
  refine wp_seq_k (fun K1 hK1 => ?_)
  refine region_in ?_
  refine W_v rfl rfl (V_asg rfl rfl) ?_
  refine W_end ?_
  refine gen_Q (fun A2 hA2 => ?_)
  have hsz2 := szq hA2
  have hdf2 : A2.defers = [] := by rw [hA2]; simp only [df_put]; exact hdf0
  have l0_2 := lookE hA2 0 (es rfl l0_0)
  have l1_2 := lookE hA2 1 (es rfl l1_0)
  clear hA2 hsz0 hdf0 l0_0 l1_0
  refine then_n (hK1 _ _ ?_)
  clear hK1
  refine wp_seq_k (fun K3 hK3 => ?_)
  refine region_in ?_
  refine W_v rfl rfl (V_mov rfl l0_2) ?_
  refine W_v rfl rfl (V_mov rfl (es rfl l1_2)) ?_
  refine W_call rfl rfl rfl Try.func66 (by kernel_rfl) rfl (args2 (es rfl (et rfl)) (et rfl)) (qput_c (a := a) (hS.roC h_cv) (by first | with_reducible assumption | with_reducible exact hG.p2 | with_reducible exact hG2.p2 | (rw [hbl]; exact n1) | (simp only [List.length_set, List.length_replicate] <;> assumption)) (by first | omega | with_reducible assumption) (by first | omega | with_reducible assumption)) ?_
  rintro _ w4 ⟨v_4, rfl, hP4⟩
  refine ⟨_, rfl, ?_⟩
  obtain ⟨c_4, hc_4, hP4⟩ := gen1 hP4
  have hS4 := hS.join hP4
  replace hS4 : St w NoX [c_4] w4 := hS4
  refine W_v rfl rfl (V_asg rfl (et rfl)) ?_
  refine W_end ?_
  refine gen_Q (fun A5 hA5 => ?_)
  have hsz5 := szq hA5
  have hdf5 : A5.defers = [] := by rw [hA5]; simp only [df_put]; exact hdf2
  have l5_5 := lookE hA5 5 (et rfl)
  clear hA5 hsz2 hdf2 l0_2 l1_2
  refine then_n (hK3 _ _ ?_)
  clear hK3
  refine wp_seq_k (fun K6 hK6 => ?_)
  refine region_in ?_
  refine W_v rfl rfl (V_mov rfl l5_5) ?_
  refine W_call rfl rfl rfl Try.func65 (by kernel_rfl) rfl (args1 (et rfl)) (qcnt_c (hS4.chC 0 rfl hc_4).own ) ?_
  rintro _ w7 ⟨rfl, hP7⟩
  refine ⟨_, rfl, ?_⟩
  have hS7 := hS4.join hP7
  replace hS7 : St w NoX [c_4] w7 := hS7
  refine W_v rfl rfl (V_mov rfl (et rfl)) ?_
  refine W_v rfl rfl (V_ext (v := .int .i64 (((usd (putT c a) : Nat) : Int))) rfl (et rfl) rfl) ?_
  refine W_v rfl rfl (V_ext (v := .int .i64 (((adr (putT c a) : Nat) : Int))) rfl (es rfl (et rfl)) rfl) ?_
  refine W_v rfl rfl (V_asg rfl (es rfl (et rfl))) ?_
  refine W_v rfl rfl (V_asg rfl (es rfl (et rfl))) ?_
  refine W_end ?_
  refine gen_Q (fun A8 hA8 => ?_)
  have hsz8 := szq hA8
  have hdf8 : A8.defers = [] := by rw [hA8]; simp only [df_put]; exact hdf5
  have l5_8 := lookE hA8 5 (e6 rfl (es rfl l5_5))
  have l6_8 := lookE hA8 6 (es rfl (et rfl))
  have l7_8 := lookE hA8 7 (et rfl)
  clear hA8 hsz5 hdf5 l5_5
  refine then_n (hK6 _ _ ?_)
  clear hK6
  refine wp_seq_k (fun K9 hK9 => ?_)
  refine wp_seq_k (fun K10 hK10 => ?_)
  refine region_in ?_
  refine W_v rfl rfl (V_mov rfl l6_8) ?_
  refine W_v rfl rfl (V_mul rfl rfl (et rfl) (by omega) (by omega)) ?_
  refine W_v rfl rfl (V_mov rfl (es rfl (es rfl l5_8))) ?_
  refine W_v rfl rfl (V_lenS rfl (et rfl) (ow_at (hS7.chq 0 rfl hc_4)) Try.underlying23) ?_
  refine W_v rfl rfl (V_mul rfl rfl (et rfl) (by omega) (by omega)) ?_
  refine W_v rfl rfl (V_leq rfl (e3 rfl (et rfl)) (et rfl)) ?_
  refine W_end ?_
  refine gen_Q (fun A11 hA11 => ?_)
  have hsz11 := szq hA11
  have hdf11 : A11.defers = [] := by rw [hA11]; simp only [df_put]; exact hdf8
  have l5_11 := lookE hA11 5 (e5 rfl (es rfl l5_8))
  have l7_11 := lookE hA11 7 (e5 rfl (es rfl l7_8))
  have l25_11 := lookE hA11 25 (et rfl)
  clear hA11 hsz8 hdf8 l5_8 l6_8 l7_8
  refine then_n (hK10 _ _ ?_)
  clear hK10
  refine cond_dec l25_11 (fun c12 => ?_) (fun c12 => ?_)
  · skip
    refine wp_seq_k (fun K13 hK13 => ?_)
    refine region_in ?_
    refine W_v rfl rfl (V_mov rfl l5_11) ?_
    refine W_v rfl rfl (V_asg rfl (et rfl)) ?_
    refine W_end ?_
    refine gen_Q (fun A14 hA14 => ?_)
    have hsz14 := szq hA14
    have hdf14 : A14.defers = [] := by rw [hA14]; simp only [df_put]; exact hdf11
    have l4_14 := lookE hA14 4 (et rfl)
    clear hA14 hsz11 hdf11 l5_11 l7_11 l25_11
    refine then_n (hK13 _ _ ?_)
    clear hK13
    refine wp_ret ?_
    refine then_ret ?_
    refine ret_in (results_1 Try.results57 (rv_tmp l4_14)) hdf14 ?_
    -- leaf T
    exact ⟨_, rfl, (hS7.fin1 0 rfl (hc_4.trans (congrArg (io .i64 _) (addT_no c12))))⟩
  · skip
    refine wp_skip ?_
    refine then_n (hK9 _ _ ?_)
    clear hK9
    refine wp_seq_k (fun K15 hK15 => ?_)
    refine region_in ?_
    refine W_v rfl rfl (V_mov rfl l5_11) ?_
    refine W_v rfl rfl (V_lenS rfl (et rfl) (ow_at (hS7.chq 0 rfl hc_4)) Try.underlying23) ?_
    refine W_v rfl rfl (V_asg rfl (et rfl)) ?_
    refine W_end ?_
    refine gen_Q (fun A16 hA16 => ?_)
    have hsz16 := szq hA16
    have hdf16 : A16.defers = [] := by rw [hA16]; simp only [df_put]; exact hdf11
    have l5_16 := lookE hA16 5 (e2 rfl (es rfl l5_11))
    have l7_16 := lookE hA16 7 (e2 rfl (es rfl l7_11))
    have l8_16 := lookE hA16 8 (et rfl)
    clear hA16 hsz11 hdf11 l5_11 l7_11 l25_11
    refine then_n (hK15 _ _ ?_)
    clear hK15
    refine wp_seq_k (fun K17 hK17 => ?_)
    refine wp_seq_k (fun K18 hK18 => ?_)
    refine region_in ?_
    refine W_v rfl rfl (V_mov rfl l7_16) ?_
    refine W_v rfl rfl (V_mul rfl rfl (et rfl) (by omega) (by omega)) ?_
    refine W_v rfl rfl (V_mov rfl (es rfl (es rfl l5_16))) ?_
    refine W_v rfl rfl (V_lenS rfl (et rfl) (ow_at (hS7.chq 0 rfl hc_4)) Try.underlying23) ?_
    refine W_v rfl rfl (V_mul rfl rfl (et rfl) (by omega) (by omega)) ?_
    refine W_v rfl rfl (V_gtr rfl (e3 rfl (et rfl)) (et rfl)) ?_
    refine W_end ?_
    refine gen_Q (fun A19 hA19 => ?_)
    have hsz19 := szq hA19
    have hdf19 : A19.defers = [] := by rw [hA19]; simp only [df_put]; exact hdf16
    have l5_19 := lookE hA19 5 (e5 rfl (es rfl l5_16))
    have l8_19 := lookE hA19 8 (e5 rfl (es rfl l8_16))
    have l34_19 := lookE hA19 34 (et rfl)
    clear hA19 hsz16 hdf16 l5_16 l7_16 l8_16
    refine then_n (hK18 _ _ ?_)
    clear hK18
    refine cond_dec l34_19 (fun c20 => ?_) (fun c20 => ?_)
    · skip
      have hN : adN (putT c a) = 2 * (putT c a).length := if_pos (by omega)
      refine region_in ?_
      refine W_v rfl rfl (V_mov rfl l8_19) ?_
      refine W_v rfl rfl (V_mul rfl rfl (et rfl) (by omega) (by omega)) ?_
      refine W_v rfl rfl (V_asg rfl (et rfl)) ?_
      refine W_end ?_
      refine gen_Q (fun A21 hA21 => ?_)
      have hsz21 := szq hA21
      have hdf21 : A21.defers = [] := by rw [hA21]; simp only [df_put]; exact hdf19
      have l5_21 := lookE hA21 5 (e2 rfl (es rfl l5_19))
      have l8_21 := lookE hA21 8 (et rfl)
      clear hA21 hsz19 hdf19 l5_19 l8_19 l34_19
      refine then_n (hK17 _ _ ?_)
      clear hK17
      refine wp_seq_k (fun K22 hK22 => ?_)
      refine region_in ?_
      refine W_v rfl rfl (V_mov rfl l8_21) ?_
      refine W_mkS (z := .int .i64 0) (bytes := 8) (adN (putT c a)) hS7 rfl rfl rfl (et rfl) (et rfl) (by omega) Try.underlying23 (by kernel_rfl) (by omega) rfl (fun v23 w23 c23 hc23 hS23 => ?_)
      replace hc23 : c23 = io .i64 v23 (List.replicate (adN (putT c a)) (0 : Int)) := hc23.trans (by simp only [io, bo, List.map_replicate, List.length_replicate])
      replace hS23 : St w NoX [c23, c_4] w23 := hS23
      refine W_v rfl rfl (V_asg rfl (et rfl)) ?_
      refine W_end ?_
      refine gen_Q (fun A24 hA24 => ?_)
      have hsz24 := szq hA24
      have hdf24 : A24.defers = [] := by rw [hA24]; simp only [df_put]; exact hdf21
      have l5_24 := lookE hA24 5 (e2 rfl (es rfl l5_21))
      have l9_24 := lookE hA24 9 (et rfl)
      clear hA24 hsz21 hdf21 l5_21 l8_21
      refine then_n (hK22 _ _ ?_)
      clear hK22
      refine wp_seq_k (fun K25 hK25 => ?_)
      refine region_in ?_
      refine W_v rfl rfl (V_mov rfl l5_24) ?_
      refine W_call rfl rfl rfl Try.func60 (by kernel_rfl) rfl (args1 (et rfl)) (qsr_c (hS23.chC 1 rfl hc_4).own (by first | with_reducible assumption | with_reducible exact hG.rng | with_reducible exact p1.rng | with_reducible exact hr2)) ?_
      rintro _ w26 ⟨v_26, rfl, hP26⟩
      refine ⟨_, rfl, ?_⟩
      obtain ⟨c_26, hc_26, hP26⟩ := gen1 hP26
      have hS26 := hS23.join hP26
      replace hS26 : St w NoX [c_26, c23, c_4] w26 := hS26
      refine W_v rfl rfl (V_asg rfl (et rfl)) ?_
      refine W_end ?_
      refine gen_Q (fun A27 hA27 => ?_)
      have hsz27 := szq hA27
      have hdf27 : A27.defers = [] := by rw [hA27]; simp only [df_put]; exact hdf24
      have l9_27 := lookE hA27 9 (e2 rfl (es rfl l9_24))
      have l10_27 := lookE hA27 10 (et rfl)
      clear hA27 hsz24 hdf24 l5_24 l9_24
      have hS28 : St w NoX [c_26, c23] w26 := hS26.sel [0, 1] (by decide) rfl
      refine then_n (hK25 _ _ ?_)
      clear hK25
      refine wp_seq_k (fun K29 hK29 => ?_)
      refine wp_seq_k (fun K30 hK30 => ?_)
      refine region_in ?_
      refine W_v rfl rfl (V_asg rfl rfl) ?_
      refine W_end ?_
      refine gen_Q (fun A31 hA31 => ?_)
      have hsz31 := szq hA31
      have hdf31 : A31.defers = [] := by rw [hA31]; simp only [df_put]; exact hdf27
      have l9_31 := lookE hA31 9 (es rfl l9_27)
      have l10_31 := lookE hA31 10 (es rfl l10_27)
      have l11_31 := lookE hA31 11 (et rfl)
      clear hA31 hsz27 hdf27 l9_27 l10_27
      refine then_n (hK30 _ _ ?_)
      clear hK30
      refine wp_block ?_
      -- loop 11
      refine loopX (fun mz A' w' => SzN A' 54 ∧ A'.defers = [] ∧ (∃ (k : Nat) (bv : Value), (mz = (tgK (putT c a) 1600).length - k) ∧ (k ≤ (tgK (putT c a) 1600).length) ∧ ((bld (adN (putT c a)) ((tgK (putT c a) 1600).take k)).length = (adN (putT c a))) ∧ (adr (bld (adN (putT c a)) ((tgK (putT c a) 1600).take k)) = k) ∧ (EV A' (.tmp 11) = .int .i64 (k : Int)) ∧ (EV A' (.tmp 9) = bv) ∧ (EV A' (.tmp 10) = EV A31 (.tmp 10)) ∧ (St w NoX [io .i64 v_26 (tgK (putT c a) 1600), io .i64 bv (bld (adN (putT c a)) ((tgK (putT c a) 1600).take k))] w'))) ((tgK (putT c a) 1600).length - 0) ⟨hsz31, hdf31, 0, v23, rfl, (by omega), (hbp 0 (by omega)).1, (hbp 0 (by omega)).2.1, ((l11_31).trans (by first | rfl | (simp; done) | (congr 1; omega))), ((l9_31).trans (by first | rfl | (simp; done) | (congr 1; omega))), rfl, (by have q0 := hc_26; have q1 : c23 = io .i64 v23 (bld (adN (putT c a)) ((tgK (putT c a) 1600).take 0)) := hc23.trans (rfl); subst q0 q1; exact hS28)⟩ ?_
      clear hS28 hc_26 hc23
      rintro n32 A32 w32 ⟨hsz32, hdf32, k, bv, hm32, hk, hbl, hba, l11_32, l9_32, u10_32, hS32⟩
      have l10_32 := u10_32.trans l10_31
      obtain ⟨c_32, c23_32, hc_32, hc23_32, hS32⟩ := gen2 hS32
      refine wp_seq_k (fun K33 hK33 => ?_)
      refine wp_seq_k (fun K34 hK34 => ?_)
      refine region_in ?_
      refine W_v rfl rfl (V_mov rfl l11_32) ?_
      refine W_v rfl rfl (V_mov rfl (es rfl l10_32)) ?_
      refine W_v rfl rfl (V_lenS rfl (et rfl) (ow_at (hS32.chq 0 rfl hc_32)) Try.underlying23) ?_
      refine W_v rfl rfl (V_lss rfl (e2 rfl (et rfl)) (et rfl)) ?_
      refine W_end ?_
      refine gen_Q (fun A35 hA35 => ?_)
      have hsz35 := szq hA35
      have hdf35 : A35.defers = [] := by rw [hA35]; simp only [df_put]; exact hdf32
      have l9_35 := lookE hA35 9 (e3 rfl (es rfl l9_32))
      have l10_35 := lookE hA35 10 (e3 rfl (es rfl l10_32))
      have l11_35 := lookE hA35 11 (e3 rfl (es rfl l11_32))
      have l44_35 := lookE hA35 44 (et rfl)
      clear hA35 hsz32 hdf32 l11_32 l9_32 l10_32
      refine then_n (hK34 _ _ ?_)
      clear hK34
      refine cond_dec l44_35 (fun c36 => ?_) (fun c36 => ?_)
      · skip
        refine wp_skip ?_
        refine then_n (hK33 _ _ ?_)
        clear hK33
        refine wp_seq_k (fun K37 hK37 => ?_)
        refine wp_block ?_
        refine region_in ?_
        refine W_v rfl rfl (V_mov rfl l9_35) ?_
        refine W_v rfl rfl (V_mov rfl (es rfl l10_35)) ?_
        refine W_v rfl rfl (V_mov rfl (es rfl (es rfl l11_35))) ?_
        have k38 : k < (tgK (putT c a) 1600).length := by first | omega | (simp only [List.length_cons, List.length_nil]; omega) | (simp only [List.length_set]; omega) | decide
        obtain ⟨y38, hy38⟩ := get_some (xs := (tgK (putT c a) 1600)) (k := k) k38
        have hry38 := tgK_rng y38 (List.mem_of_getElem? hy38)
        obtain ⟨B38, O38, C38, hv38⟩ := (SlN.blk (ow_at (hS32.chq 0 rfl hc_32)) (by first | omega | (simp only [List.length_cons, List.length_nil]; omega) | (simp only [List.length_set]; omega) | decide))
        refine W_v rfl rfl (V_ixS (off := O38 + k) 1 (k) rfl (es rfl (et rfl)) (et rfl) hv38 (by omega) k38 Try.underlying23 (by kernel_rfl) (congrArg _ (Nat.mul_one _))) ?_
        refine W_r rfl rfl (VR_ldC rfl (et rfl) ((ow_at (hS32.chq 0 rfl hc_32)).cell hv38 (map_get hy38)) Try.underlying3 rfl) ?_
        refine W_call rfl rfl rfl Try.func66 (by kernel_rfl) rfl (args2 (e4 rfl (et rfl)) (et rfl)) (qput_c (a := y38) (hS32.chC 1 rfl hc23_32).own (by first | with_reducible assumption | with_reducible exact hG.p2 | with_reducible exact hG2.p2 | (rw [hbl]; exact n1) | (simp only [List.length_set, List.length_replicate] <;> assumption)) (by first | omega | with_reducible assumption) (by first | omega | with_reducible assumption)) ?_
        rintro _ w39 ⟨v_39, rfl, hP39⟩
        refine ⟨_, rfl, ?_⟩
        obtain ⟨c_39, hc_39, hP39⟩ := gen1 hP39
        have hS39 := hS32.join hP39
        replace hS39 : St w NoX [c_39, c_32, c23_32] w39 := hS39
        refine W_v rfl rfl (V_asg rfl (et rfl)) ?_
        refine W_end ?_
        refine gen_Q (fun A40 hA40 => ?_)
        have hsz40 := szq hA40
        have hdf40 : A40.defers = [] := by rw [hA40]; simp only [df_put]; exact hdf35
        have l9_40 := lookE hA40 9 (et rfl)
        have l10_40 := lookE hA40 10 (e6 rfl (es rfl l10_35))
        have l11_40 := lookE hA40 11 (e6 rfl (es rfl l11_35))
        clear hA40 hsz35 hdf35 l9_35 l10_35 l11_35 l44_35
        have hS41 : St w NoX [c_39, c_32] w39 := hS39.sel [0, 1] (by decide) rfl
        refine inb_n ?_
        refine then_n (hK37 _ _ ?_)
        clear hK37
        refine region_in ?_
        refine W_v rfl rfl (V_mov rfl l11_40) ?_
        refine W_v rfl rfl (V_add rfl (et rfl) rfl (by omega) (by omega)) ?_
        refine W_v rfl rfl (V_asg rfl (et rfl)) ?_
        refine W_end ?_
        refine gen_Q (fun A42 hA42 => ?_)
        have hsz42 := szq hA42
        have hdf42 : A42.defers = [] := by rw [hA42]; simp only [df_put]; exact hdf40
        have l9_42 := lookE hA42 9 (e2 rfl (es rfl l9_40))
        have l10_42 := lookE hA42 10 (e2 rfl (es rfl l10_40))
        have l11_42 := lookE hA42 11 (et rfl)
        clear hA42 hsz40 hdf40 l9_40 l10_40 l11_40
        have hS43 : St w NoX [c_32, c_39] w39 := hS41.sel [1, 0] (by decide) rfl
        refine then_n ⟨(tgK (putT c a) 1600).length - (k + 1), by simp only [hm32]; omega, hsz42, hdf42, (k + 1), v_39, rfl, (by omega), (hbp (k + 1) (by omega)).1, (hbp (k + 1) (by omega)).2.1, ((l11_42).trans (by first | rfl | (simp; done) | (congr 1; omega))), ((l9_42).trans (by first | rfl | (simp; done) | (congr 1; omega))), ((l10_42).trans l10_31.symm), (by have q0 := hc_32; have q1 : c_39 = io .i64 v_39 (bld (adN (putT c a)) ((tgK (putT c a) 1600).take (k + 1))) := hc_39.trans ((congrArg (io .i64 _) (bld_take hy38))); subst q0 q1; exact hS43)⟩
      · skip
        refine wp_exit ?_
        refine then_exit ?_
        refine then_exit ?_
        refine inb_hit ?_
        refine then_n (hK29 _ _ ?_)
        clear hK29
        refine wp_seq_k (fun K44 hK44 => ?_)
        refine region_in ?_
        refine W_v rfl rfl (V_mov rfl l9_35) ?_
        refine W_v rfl rfl (V_asg rfl (et rfl)) ?_
        refine W_end ?_
        refine gen_Q (fun A45 hA45 => ?_)
        have hsz45 := szq hA45
        have hdf45 : A45.defers = [] := by rw [hA45]; simp only [df_put]; exact hdf35
        have l4_45 := lookE hA45 4 (et rfl)
        clear hA45 hsz35 hdf35 l9_35 l10_35 l11_35 l44_35
        have hS46 : St w NoX [c23_32] w32 := hS32.sel [1] (by decide) rfl
        refine then_n (hK44 _ _ ?_)
        clear hK44
        refine wp_ret ?_
        refine ret_in (results_1 Try.results57 (rv_tmp l4_45)) hdf45 ?_
        -- leaf FTF
        exact ⟨_, rfl, (hS46.fin1 0 rfl (hc23_32.trans (congrArg (io .i64 _) (addT_yes c12 (by omega)))))⟩
    · skip
      have hN : adN (putT c a) = (putT c a).length := if_neg (by omega)
      refine wp_skip ?_
      refine then_n (hK17 _ _ ?_)
      clear hK17
      refine wp_seq_k (fun K47 hK47 => ?_)
      refine region_in ?_
      refine W_v rfl rfl (V_mov rfl l8_19) ?_
      refine W_mkS (z := .int .i64 0) (bytes := 8) (adN (putT c a)) hS7 rfl rfl rfl (et rfl) (et rfl) (by omega) Try.underlying23 (by kernel_rfl) (by omega) rfl (fun v48 w48 c48 hc48 hS48 => ?_)
      replace hc48 : c48 = io .i64 v48 (List.replicate (adN (putT c a)) (0 : Int)) := hc48.trans (by simp only [io, bo, List.map_replicate, List.length_replicate])
      replace hS48 : St w NoX [c48, c_4] w48 := hS48
      refine W_v rfl rfl (V_asg rfl (et rfl)) ?_
      refine W_end ?_
      refine gen_Q (fun A49 hA49 => ?_)
      have hsz49 := szq hA49
      have hdf49 : A49.defers = [] := by rw [hA49]; simp only [df_put]; exact hdf19
      have l5_49 := lookE hA49 5 (e2 rfl (es rfl l5_19))
      have l9_49 := lookE hA49 9 (et rfl)
      clear hA49 hsz19 hdf19 l5_19 l8_19 l34_19
      refine then_n (hK47 _ _ ?_)
      clear hK47
      refine wp_seq_k (fun K50 hK50 => ?_)
      refine region_in ?_
      refine W_v rfl rfl (V_mov rfl l5_49) ?_
      refine W_call rfl rfl rfl Try.func60 (by kernel_rfl) rfl (args1 (et rfl)) (qsr_c (hS48.chC 1 rfl hc_4).own (by first | with_reducible assumption | with_reducible exact hG.rng | with_reducible exact p1.rng | with_reducible exact hr2)) ?_
      rintro _ w51 ⟨v_51, rfl, hP51⟩
      refine ⟨_, rfl, ?_⟩
      obtain ⟨c_51, hc_51, hP51⟩ := gen1 hP51
      have hS51 := hS48.join hP51
      replace hS51 : St w NoX [c_51, c48, c_4] w51 := hS51
      refine W_v rfl rfl (V_asg rfl (et rfl)) ?_
      refine W_end ?_
      refine gen_Q (fun A52 hA52 => ?_)
      have hsz52 := szq hA52
      have hdf52 : A52.defers = [] := by rw [hA52]; simp only [df_put]; exact hdf49
      have l9_52 := lookE hA52 9 (e2 rfl (es rfl l9_49))
      have l10_52 := lookE hA52 10 (et rfl)
      clear hA52 hsz49 hdf49 l5_49 l9_49
      have hS53 : St w NoX [c_51, c48] w51 := hS51.sel [0, 1] (by decide) rfl
      refine then_n (hK50 _ _ ?_)
      clear hK50
      refine wp_seq_k (fun K54 hK54 => ?_)
      refine wp_seq_k (fun K55 hK55 => ?_)
      refine region_in ?_
      refine W_v rfl rfl (V_asg rfl rfl) ?_
      refine W_end ?_
      refine gen_Q (fun A56 hA56 => ?_)
      have hsz56 := szq hA56
      have hdf56 : A56.defers = [] := by rw [hA56]; simp only [df_put]; exact hdf52
      have l9_56 := lookE hA56 9 (es rfl l9_52)
      have l10_56 := lookE hA56 10 (es rfl l10_52)
      have l11_56 := lookE hA56 11 (et rfl)
      clear hA56 hsz52 hdf52 l9_52 l10_52
      refine then_n (hK55 _ _ ?_)
      clear hK55
      refine wp_block ?_
      -- loop 11
      refine loopX (fun mz A' w' => SzN A' 54 ∧ A'.defers = [] ∧ (∃ (k : Nat) (bv : Value), (mz = (tgK (putT c a) 1600).length - k) ∧ (k ≤ (tgK (putT c a) 1600).length) ∧ ((bld (adN (putT c a)) ((tgK (putT c a) 1600).take k)).length = (adN (putT c a))) ∧ (adr (bld (adN (putT c a)) ((tgK (putT c a) 1600).take k)) = k) ∧ (EV A' (.tmp 11) = .int .i64 (k : Int)) ∧ (EV A' (.tmp 9) = bv) ∧ (EV A' (.tmp 10) = EV A56 (.tmp 10)) ∧ (St w NoX [io .i64 v_51 (tgK (putT c a) 1600), io .i64 bv (bld (adN (putT c a)) ((tgK (putT c a) 1600).take k))] w'))) ((tgK (putT c a) 1600).length - 0) ⟨hsz56, hdf56, 0, v48, rfl, (by omega), (hbp 0 (by omega)).1, (hbp 0 (by omega)).2.1, ((l11_56).trans (by first | rfl | (simp; done) | (congr 1; omega))), ((l9_56).trans (by first | rfl | (simp; done) | (congr 1; omega))), rfl, (by have q0 := hc_51; have q1 : c48 = io .i64 v48 (bld (adN (putT c a)) ((tgK (putT c a) 1600).take 0)) := hc48.trans (rfl); subst q0 q1; exact hS53)⟩ ?_
      clear hS53 hc_51 hc48
      rintro n57 A57 w57 ⟨hsz57, hdf57, k, bv, hm57, hk, hbl, hba, l11_57, l9_57, u10_57, hS57⟩
      have l10_57 := u10_57.trans l10_56
      obtain ⟨c_57, c48_57, hc_57, hc48_57, hS57⟩ := gen2 hS57
      refine wp_seq_k (fun K58 hK58 => ?_)
      refine wp_seq_k (fun K59 hK59 => ?_)
      refine region_in ?_
      refine W_v rfl rfl (V_mov rfl l11_57) ?_
      refine W_v rfl rfl (V_mov rfl (es rfl l10_57)) ?_
      refine W_v rfl rfl (V_lenS rfl (et rfl) (ow_at (hS57.chq 0 rfl hc_57)) Try.underlying23) ?_
      refine W_v rfl rfl (V_lss rfl (e2 rfl (et rfl)) (et rfl)) ?_
      refine W_end ?_
      refine gen_Q (fun A60 hA60 => ?_)
      have hsz60 := szq hA60
      have hdf60 : A60.defers = [] := by rw [hA60]; simp only [df_put]; exact hdf57
      have l9_60 := lookE hA60 9 (e3 rfl (es rfl l9_57))
      have l10_60 := lookE hA60 10 (e3 rfl (es rfl l10_57))
      have l11_60 := lookE hA60 11 (e3 rfl (es rfl l11_57))
      have l44_60 := lookE hA60 44 (et rfl)
      clear hA60 hsz57 hdf57 l11_57 l9_57 l10_57
      refine then_n (hK59 _ _ ?_)
      clear hK59
      refine cond_dec l44_60 (fun c61 => ?_) (fun c61 => ?_)
      · skip
        refine wp_skip ?_
        refine then_n (hK58 _ _ ?_)
        clear hK58
        refine wp_seq_k (fun K62 hK62 => ?_)
        refine wp_block ?_
        refine region_in ?_
        refine W_v rfl rfl (V_mov rfl l9_60) ?_
        refine W_v rfl rfl (V_mov rfl (es rfl l10_60)) ?_
        refine W_v rfl rfl (V_mov rfl (es rfl (es rfl l11_60))) ?_
        have k63 : k < (tgK (putT c a) 1600).length := by first | omega | (simp only [List.length_cons, List.length_nil]; omega) | (simp only [List.length_set]; omega) | decide
        obtain ⟨y63, hy63⟩ := get_some (xs := (tgK (putT c a) 1600)) (k := k) k63
        have hry63 := tgK_rng y63 (List.mem_of_getElem? hy63)
        obtain ⟨B63, O63, C63, hv63⟩ := (SlN.blk (ow_at (hS57.chq 0 rfl hc_57)) (by first | omega | (simp only [List.length_cons, List.length_nil]; omega) | (simp only [List.length_set]; omega) | decide))
        refine W_v rfl rfl (V_ixS (off := O63 + k) 1 (k) rfl (es rfl (et rfl)) (et rfl) hv63 (by omega) k63 Try.underlying23 (by kernel_rfl) (congrArg _ (Nat.mul_one _))) ?_
        refine W_r rfl rfl (VR_ldC rfl (et rfl) ((ow_at (hS57.chq 0 rfl hc_57)).cell hv63 (map_get hy63)) Try.underlying3 rfl) ?_
        refine W_call rfl rfl rfl Try.func66 (by kernel_rfl) rfl (args2 (e4 rfl (et rfl)) (et rfl)) (qput_c (a := y63) (hS57.chC 1 rfl hc48_57).own (by first | with_reducible assumption | with_reducible exact hG.p2 | with_reducible exact hG2.p2 | (rw [hbl]; exact n1) | (simp only [List.length_set, List.length_replicate] <;> assumption)) (by first | omega | with_reducible assumption) (by first | omega | with_reducible assumption)) ?_
        rintro _ w64 ⟨v_64, rfl, hP64⟩
        refine ⟨_, rfl, ?_⟩
        obtain ⟨c_64, hc_64, hP64⟩ := gen1 hP64
        have hS64 := hS57.join hP64
        replace hS64 : St w NoX [c_64, c_57, c48_57] w64 := hS64
        refine W_v rfl rfl (V_asg rfl (et rfl)) ?_
        refine W_end ?_
        refine gen_Q (fun A65 hA65 => ?_)
        have hsz65 := szq hA65
        have hdf65 : A65.defers = [] := by rw [hA65]; simp only [df_put]; exact hdf60
        have l9_65 := lookE hA65 9 (et rfl)
        have l10_65 := lookE hA65 10 (e6 rfl (es rfl l10_60))
        have l11_65 := lookE hA65 11 (e6 rfl (es rfl l11_60))
        clear hA65 hsz60 hdf60 l9_60 l10_60 l11_60 l44_60
        have hS66 : St w NoX [c_64, c_57] w64 := hS64.sel [0, 1] (by decide) rfl
        refine inb_n ?_
        refine then_n (hK62 _ _ ?_)
        clear hK62
        refine region_in ?_
        refine W_v rfl rfl (V_mov rfl l11_65) ?_
        refine W_v rfl rfl (V_add rfl (et rfl) rfl (by omega) (by omega)) ?_
        refine W_v rfl rfl (V_asg rfl (et rfl)) ?_
        refine W_end ?_
        refine gen_Q (fun A67 hA67 => ?_)
        have hsz67 := szq hA67
        have hdf67 : A67.defers = [] := by rw [hA67]; simp only [df_put]; exact hdf65
        have l9_67 := lookE hA67 9 (e2 rfl (es rfl l9_65))
        have l10_67 := lookE hA67 10 (e2 rfl (es rfl l10_65))
        have l11_67 := lookE hA67 11 (et rfl)
        clear hA67 hsz65 hdf65 l9_65 l10_65 l11_65
        have hS68 : St w NoX [c_57, c_64] w64 := hS66.sel [1, 0] (by decide) rfl
        refine then_n ⟨(tgK (putT c a) 1600).length - (k + 1), by simp only [hm57]; omega, hsz67, hdf67, (k + 1), v_64, rfl, (by omega), (hbp (k + 1) (by omega)).1, (hbp (k + 1) (by omega)).2.1, ((l11_67).trans (by first | rfl | (simp; done) | (congr 1; omega))), ((l9_67).trans (by first | rfl | (simp; done) | (congr 1; omega))), ((l10_67).trans l10_56.symm), (by have q0 := hc_57; have q1 : c_64 = io .i64 v_64 (bld (adN (putT c a)) ((tgK (putT c a) 1600).take (k + 1))) := hc_64.trans ((congrArg (io .i64 _) (bld_take hy63))); subst q0 q1; exact hS68)⟩
      · skip
        refine wp_exit ?_
        refine then_exit ?_
        refine then_exit ?_
        refine inb_hit ?_
        refine then_n (hK54 _ _ ?_)
        clear hK54
        refine wp_seq_k (fun K69 hK69 => ?_)
        refine region_in ?_
        refine W_v rfl rfl (V_mov rfl l9_60) ?_
        refine W_v rfl rfl (V_asg rfl (et rfl)) ?_
        refine W_end ?_
        refine gen_Q (fun A70 hA70 => ?_)
        have hsz70 := szq hA70
        have hdf70 : A70.defers = [] := by rw [hA70]; simp only [df_put]; exact hdf60
        have l4_70 := lookE hA70 4 (et rfl)
        clear hA70 hsz60 hdf60 l9_60 l10_60 l11_60 l44_60
        have hS71 : St w NoX [c48_57] w57 := hS57.sel [1] (by decide) rfl
        refine then_n (hK69 _ _ ?_)
        clear hK69
        refine wp_ret ?_
        refine ret_in (results_1 Try.results57 (rv_tmp l4_70)) hdf70 ?_
        -- leaf FFF
        exact ⟨_, rfl, (hS71.fin1 0 rfl (hc48_57.trans (congrArg (io .i64 _) (addT_yes c12 (by omega)))))⟩

end Go.Proofs.Ytnfgeekaeegolaa