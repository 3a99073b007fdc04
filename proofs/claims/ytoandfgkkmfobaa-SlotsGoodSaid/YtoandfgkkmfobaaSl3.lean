import Derived.Test.YtoandfgkkmfobaaProg
import Derived.Test.YtoandfgkkmfobaaSl2
namespace Go.Proofs.Ytoandfgkkmfobaa
open Go.RowKit Go.Own Go.Own.R Go.Own.S


set_option maxHeartbeats 4000000 in
theorem qbef_c {cv : Value} {c : List Int} {i : Int} {w : World} (h_cv : Ro w NoX (il .i64 cv c)) (hi : 0 ≤ i ∧ i < (c.length : Int)) :
    Calls Try.prog 52 #[cv, .int .i64 i] w fun e w' => e = .returned (.bool (befB c i)) ∧ St w NoX [] w' := by
  obtain ⟨yi, hyi⟩ := get_some (xs := c) (k := i.toNat) (by omega)
  refine calls_in 20 Try.func52 rfl rfl (by simp) (fun A0 hsz0 hdf0 hargs => ?_)
  have l0_0 := hargs 0 (cv) rfl
  have l1_0 := hargs 1 (.int .i64 i) rfl
  clear hargs; replace hsz0 : SzN A0 20 := ⟨hsz0⟩
  have hS := St.nil w
  have bh_cv := SlN.le (sl_SlN h_cv.at)
  refine wp_seq_k (fun K1 hK1 => ?_)
  -- region 0
  refine region_in ?_
  refine W_v rfl rfl (V_asg rfl rfl) ?_
  refine W_end ?_
  refine gen_Q (fun A2 hA2 => ?_)
  have hsz2 : SzN A2 20 := by rw [hA2]; infer_instance
  have hdf2 : A2.defers = [] := by rw [hA2]; simp only [df_put]; exact hdf0
  have l0_2 := lookE hA2 0 (es rfl l0_0)
  have l1_2 := lookE hA2 1 (es rfl l1_0)
  clear hA2 hsz0 hdf0 l0_0 l1_0
  refine then_n (hK1 _ _ ?_)
  clear hK1
  refine wp_seq_k (fun K3 hK3 => ?_)
  refine wp_seq_k (fun K4 hK4 => ?_)
  -- region 1
  refine region_in ?_
  refine W_v rfl rfl (V_asg rfl rfl) ?_
  refine W_end ?_
  refine gen_Q (fun A5 hA5 => ?_)
  have hsz5 : SzN A5 20 := by rw [hA5]; infer_instance
  have hdf5 : A5.defers = [] := by rw [hA5]; simp only [df_put]; exact hdf2
  have l0_5 := lookE hA5 0 (es rfl l0_2)
  have l1_5 := lookE hA5 1 (es rfl l1_2)
  have l5_5 := lookE hA5 5 (et rfl)
  clear hA5 hsz2 hdf2 l0_2 l1_2
  refine then_n (hK4 _ _ ?_)
  clear hK4
  refine wp_block ?_
  -- loop 2
  refine loopX (fun mz A' w' => SzN A' 20 ∧ A'.defers = [] ∧ (∃ (j : Nat), (mz = i.toNat - j) ∧ (j ≤ i.toNat) ∧ (∀ q, q < j → ∀ x, c[q]? = some x → ¬ x = yi) ∧ (EV A' (.tmp 5) = .int .i64 (j : Int)) ∧ (EV A' (.tmp 0) = EV A5 (.tmp 0)) ∧ (EV A' (.tmp 1) = EV A5 (.tmp 1)) ∧ (St w NoX [] w'))) (i.toNat - 0) ⟨hsz5, hdf5, 0, rfl, (by omega), (fun q hq => by omega), ((l5_5).trans (by first | rfl | (simp; done) | (congr 1; omega))), rfl, rfl, hS⟩ ?_
  clear hS
  rintro n6 A6 w6 ⟨hsz6, hdf6, j, hm6, hj, hz, l5_6, u0_6, u1_6, hS6⟩
  have l0_6 := u0_6.trans l0_5
  have l1_6 := u1_6.trans l1_5
  refine wp_seq_k (fun K7 hK7 => ?_)
  refine wp_seq_k (fun K8 hK8 => ?_)
  -- region 2
  refine region_in ?_
  refine W_v rfl rfl (V_mov rfl l5_6) ?_
  refine W_v rfl rfl (V_mov rfl (es rfl l1_6)) ?_
  refine W_v rfl rfl (V_lss rfl (es rfl (et rfl)) (et rfl)) ?_
  refine W_end ?_
  refine gen_Q (fun A9 hA9 => ?_)
  have hsz9 : SzN A9 20 := by rw [hA9]; infer_instance
  have hdf9 : A9.defers = [] := by rw [hA9]; simp only [df_put]; exact hdf6
  have l0_9 := lookE hA9 0 (es rfl (es rfl (es rfl l0_6)))
  have l1_9 := lookE hA9 1 (es rfl (es rfl (es rfl l1_6)))
  have l5_9 := lookE hA9 5 (es rfl (es rfl (es rfl l5_6)))
  have l8_9 := lookE hA9 8 (et rfl)
  clear hA9 hsz6 hdf6 l5_6 l0_6 l1_6
  refine then_n (hK8 _ _ ?_)
  clear hK8
  refine cond_dec l8_9 (fun c10 => ?_) (fun c10 => ?_)
  · skip
    refine wp_skip ?_
    refine then_n (hK7 _ _ ?_)
    clear hK7
    refine wp_seq_k (fun K11 hK11 => ?_)
    refine wp_block ?_
    refine wp_seq_k (fun K12 hK12 => ?_)
    -- region 4
    refine region_monoS 9 9 [] (by kernel_rfl) (by kernel_rfl) ?_
    refine D_v rfl rfl (V_mov rfl l0_9) rfl rfl ?_
    refine D_v rfl rfl (V_mov rfl (es rfl l5_9)) rfl rfl ?_
    have k13 : j < c.length := by first | omega | (simp only [List.length_cons, List.length_nil]; omega) | (simp only [List.length_set]; omega)
    obtain ⟨y13, hy13⟩ := get_some (xs := c) (k := j) k13
    obtain ⟨B13, O13, C13, hv13⟩ := (SlN.blk (sl_SlN h_cv.at) (by first | omega | (simp only [List.length_cons, List.length_nil]; omega) | (simp only [List.length_set]; omega)))
    refine D_v rfl rfl (V_ixS (off := O13 + j) 1 (j) rfl (es rfl (et rfl)) (et rfl) hv13 (by omega) k13 Try.underlying22 (by kernel_rfl) (congrArg _ (Nat.mul_one _))) rfl rfl ?_
    refine D_r rfl rfl (by kernel_rfl) (fun sx hx hF => (VR_ldC rfl (et rfl) ((sl_SlN ((hS6.grow hx).ro h_cv)).cell hv13 (map_get hy13)) Try.underlying3 rfl)) rfl rfl ?_
    refine D_v rfl rfl (V_mov rfl (es rfl (es rfl (es rfl (es rfl l0_9))))) rfl rfl ?_
    refine D_v rfl rfl (V_mov rfl (es rfl (es rfl (es rfl (es rfl (es rfl l1_9)))))) rfl rfl ?_
    have k14 : i.toNat < c.length := by first | omega | (simp only [List.length_cons, List.length_nil]; omega) | (simp only [List.length_set]; omega)
    obtain ⟨y14, hy14⟩ := get_some (xs := c) (k := i.toNat) k14
    have hyy14 : y14 = yi := Option.some.inj (hy14.symm.trans hyi)
    refine D_v rfl rfl (V_ixS (off := O13 + i.toNat) 1 (i.toNat) rfl (es rfl (et rfl)) (et rfl) hv13 (by omega) k14 Try.underlying22 (by kernel_rfl) (congrArg _ (Nat.mul_one _))) rfl rfl ?_
    refine D_r rfl rfl (by kernel_rfl) (fun sx hx hF => (VR_ldC rfl (et rfl) ((sl_SlN ((hS6.grow hx).ro h_cv)).cell hv13 (map_get hy14)) Try.underlying3 rfl)) rfl rfl ?_
    refine D_v rfl rfl (V_eql rfl (es rfl (es rfl (es rfl (es rfl (et rfl))))) (et rfl)) rfl rfl ?_
    refine ZS_none hS6 (Nat.le_refl _) (Nat.le_refl _) (fun s15 hJ15 hL15 hF15 => ?_)
    have hS15 := hJ15.st; clear hF15 hJ15 hL15
    generalize s15.1 = w15 at *
    replace hS15 : St w NoX [] w15 := hS15
    refine gen_Q (fun A16 hA16 => ?_)
    have hsz16 : SzN A16 20 := by rw [hA16]; infer_instance
    have hdf16 : A16.defers = [] := by rw [hA16]; simp only [df_put]; exact hdf9
    have l0_16 := lookE hA16 0 (es rfl (es rfl (es rfl (es rfl (es rfl (es rfl (es rfl (es rfl (es rfl l0_9)))))))))
    have l1_16 := lookE hA16 1 (es rfl (es rfl (es rfl (es rfl (es rfl (es rfl (es rfl (es rfl (es rfl l1_9)))))))))
    have l5_16 := lookE hA16 5 (es rfl (es rfl (es rfl (es rfl (es rfl (es rfl (es rfl (es rfl (es rfl l5_9)))))))))
    have l19_16 := lookE hA16 19 (et rfl)
    clear hA16 hsz9 hdf9 l0_9 l1_9 l5_9 l8_9
    refine then_n (hK12 _ _ ?_)
    clear hK12
    refine cond_dec l19_16 (fun c17 => ?_) (fun c17 => ?_)
    · skip
      refine wp_seq_k (fun K18 hK18 => ?_)
      -- region 5
      refine region_in ?_
      refine W_v rfl rfl (V_asg rfl rfl) ?_
      refine W_end ?_
      refine gen_Q (fun A19 hA19 => ?_)
      have hsz19 : SzN A19 20 := by rw [hA19]; infer_instance
      have hdf19 : A19.defers = [] := by rw [hA19]; simp only [df_put]; exact hdf16
      have l4_19 := lookE hA19 4 (et rfl)
      clear hA19 hsz16 hdf16 l0_16 l1_16 l5_16 l19_16
      refine then_n (hK18 _ _ ?_)
      clear hK18
      refine wp_ret ?_
      refine inb_ret ?_
      refine then_ret ?_
      refine then_ret ?_
      refine inb_ret ?_
      refine then_ret ?_
      refine ret_in (results_1 Try.results52 (rv_tmp l4_19)) hdf19 ?_
      -- leaf TT
      have e0 : befB c i = true := by exact bef_T hyi hy13 (by omega) (by omega)
      rw [e0]
      exact ⟨rfl, hS15.fin0⟩
    · skip
      refine wp_skip ?_
      refine inb_n ?_
      refine then_n (hK11 _ _ ?_)
      clear hK11
      -- region 3
      refine region_in ?_
      refine W_v rfl rfl (V_mov rfl l5_16) ?_
      refine W_v rfl rfl (V_add rfl (et rfl) rfl (by omega) (by omega)) ?_
      refine W_v rfl rfl (V_asg rfl (et rfl)) ?_
      refine W_end ?_
      refine gen_Q (fun A20 hA20 => ?_)
      have hsz20 : SzN A20 20 := by rw [hA20]; infer_instance
      have hdf20 : A20.defers = [] := by rw [hA20]; simp only [df_put]; exact hdf16
      have l0_20 := lookE hA20 0 (es rfl (es rfl (es rfl l0_16)))
      have l1_20 := lookE hA20 1 (es rfl (es rfl (es rfl l1_16)))
      have l5_20 := lookE hA20 5 (et rfl)
      clear hA20 hsz16 hdf16 l0_16 l1_16 l5_16 l19_16
      refine then_n ⟨i.toNat - (j + 1), by simp only [hm6]; omega, hsz20, hdf20, (j + 1), rfl, (by omega), (ne_step hz hy13 (by omega)), ((l5_20).trans (by first | rfl | (simp; done) | (congr 1; omega))), ((l0_20).trans l0_5.symm), ((l1_20).trans l1_5.symm), hS15⟩
  · skip
    refine wp_exit ?_
    refine then_exit ?_
    refine then_exit ?_
    refine inb_hit ?_
    refine then_n (hK3 _ _ ?_)
    clear hK3
    refine wp_seq_k (fun K21 hK21 => ?_)
    -- region 6
    refine region_in ?_
    refine W_v rfl rfl (V_asg rfl rfl) ?_
    refine W_end ?_
    refine gen_Q (fun A22 hA22 => ?_)
    have hsz22 : SzN A22 20 := by rw [hA22]; infer_instance
    have hdf22 : A22.defers = [] := by rw [hA22]; simp only [df_put]; exact hdf9
    have l4_22 := lookE hA22 4 (et rfl)
    clear hA22 hsz9 hdf9 l0_9 l1_9 l5_9 l8_9
    refine then_n (hK21 _ _ ?_)
    clear hK21
    refine wp_ret ?_
    refine ret_in (results_1 Try.results52 (rv_tmp l4_22)) hdf22 ?_
    -- leaf F
    have e0 : befB c i = false := by exact bef_F hyi hz (by omega)
    rw [e0]
    exact ⟨rfl, hS6.fin0⟩

set_option maxHeartbeats 4000000 in
theorem qfind_c {cv : Value} {c : List Int} {a : Int} {w : World} (h_cv : Ro w NoX (il .i64 cv c)) (hp : P2 c.length) (ha : 1 ≤ a ∧ a ≤ 1600) (hz : usd c < c.length) :
    Calls Try.prog 40 #[cv, .int .i64 a] w fun e w' => e = .returned (.int .i64 (fnd c a)) ∧ St w NoX [] w' := by
  have hpb := hp.bd
  obtain ⟨j0, hj0, hz0⟩ := zero_on a hz
  refine calls_in 28 Try.func40 rfl rfl (by simp) (fun A0 hsz0 hdf0 hargs => ?_)
  have l0_0 := hargs 0 (cv) rfl
  have l1_0 := hargs 1 (.int .i64 a) rfl
  clear hargs; replace hsz0 : SzN A0 28 := ⟨hsz0⟩
  have hS := St.nil w
  have bh_cv := SlN.le (sl_SlN h_cv.at)
  refine wp_seq_k (fun K1 hK1 => ?_)
  -- region 0
  refine region_in ?_
  refine W_v rfl rfl (V_asg rfl rfl) ?_
  refine W_end ?_
  refine gen_Q (fun A2 hA2 => ?_)
  have hsz2 : SzN A2 28 := by rw [hA2]; infer_instance
  have hdf2 : A2.defers = [] := by rw [hA2]; simp only [df_put]; exact hdf0
  have l0_2 := lookE hA2 0 (es rfl l0_0)
  have l1_2 := lookE hA2 1 (es rfl l1_0)
  clear hA2 hsz0 hdf0 l0_0 l1_0
  refine then_n (hK1 _ _ ?_)
  clear hK1
  refine wp_seq_k (fun K3 hK3 => ?_)
  -- region 1
  refine region_in ?_
  refine W_v rfl rfl (V_mov rfl l1_2) ?_
  refine W_v rfl rfl (V_mul rfl (et rfl) rfl (by omega) (by omega)) ?_
  refine W_v rfl rfl (V_mov rfl (es rfl (es rfl l0_2))) ?_
  refine W_v rfl rfl (V_lenS rfl (et rfl) (sl_SlN h_cv.at) Try.underlying22) ?_
  refine W_v rfl rfl (V_rem rfl (es rfl (es rfl (et rfl))) (et rfl) (by omega) (by omega) (wrap_mod (by omega) (by omega))) ?_
  refine W_v rfl rfl (V_asg rfl (et rfl)) ?_
  refine W_end ?_
  refine gen_Q (fun A4 hA4 => ?_)
  have hsz4 : SzN A4 28 := by rw [hA4]; infer_instance
  have hdf4 : A4.defers = [] := by rw [hA4]; simp only [df_put]; exact hdf2
  have l0_4 := lookE hA4 0 (es rfl (es rfl (es rfl (es rfl (es rfl (es rfl l0_2))))))
  have l1_4 := lookE hA4 1 (es rfl (es rfl (es rfl (es rfl (es rfl (es rfl l1_2))))))
  have l5_4 := lookE hA4 5 (et rfl)
  clear hA4 hsz2 hdf2 l0_2 l1_2
  refine then_n (hK3 _ _ ?_)
  clear hK3
  refine wp_seq_k (fun K5 hK5 => ?_)
  refine wp_block ?_
  -- loop 2
  refine loopX (fun mz A' w' => SzN A' 28 ∧ A'.defers = [] ∧ (∃ (j : Nat), (mz = j0 - j) ∧ (j ≤ j0) ∧ (∀ i, i < j → ¬ cl c a i = a ∧ ¬ cl c a i = 0) ∧ (ps c.length a j < c.length) ∧ (EV A' (.tmp 5) = .int .i64 ((ps c.length a j : Nat) : Int)) ∧ (EV A' (.tmp 0) = EV A4 (.tmp 0)) ∧ (EV A' (.tmp 1) = EV A4 (.tmp 1)) ∧ (St w NoX [] w'))) (j0 - 0) ⟨hsz4, hdf4, 0, rfl, (by omega), (fun i hi => by omega), (ps_lt (by omega) _ _), ((l5_4).trans ((congrArg (Value.int .i64) (mod_ps0 (by omega))))), rfl, rfl, hS⟩ ?_
  clear hS
  rintro n6 A6 w6 ⟨hsz6, hdf6, j, hm6, hj, hnz, hps, l5_6, u0_6, u1_6, hS6⟩
  have l0_6 := u0_6.trans l0_4
  have l1_6 := u1_6.trans l1_4
  refine wp_seq_k (fun K7 hK7 => ?_)
  refine wp_seq_k (fun K8 hK8 => ?_)
  -- region 2
  refine region_in ?_
  refine W_v rfl rfl (V_mov rfl l0_6) ?_
  refine W_v rfl rfl (V_mov rfl (es rfl l5_6)) ?_
  have k9 : (ps c.length a j) < c.length := by first | omega | (simp only [List.length_cons, List.length_nil]; omega) | (simp only [List.length_set]; omega)
  obtain ⟨y9, hy9⟩ := get_some (xs := c) (k := (ps c.length a j)) k9
  obtain ⟨B9, O9, C9, hv9⟩ := (SlN.blk (sl_SlN h_cv.at) (by first | omega | (simp only [List.length_cons, List.length_nil]; omega) | (simp only [List.length_set]; omega)))
  refine W_v rfl rfl (V_ixS (off := O9 + (ps c.length a j)) 1 ((ps c.length a j)) rfl (es rfl (et rfl)) (et rfl) hv9 (by omega) k9 Try.underlying22 (by kernel_rfl) (congrArg _ (Nat.mul_one _))) ?_
  refine W_r rfl rfl (VR_ldC rfl (et rfl) ((sl_SlN (hS6.ro h_cv)).cell hv9 (map_get hy9)) Try.underlying3 rfl) ?_
  refine W_v rfl rfl (V_neq rfl (et rfl) rfl) ?_
  refine W_end ?_
  refine gen_Q (fun A10 hA10 => ?_)
  have hsz10 : SzN A10 28 := by rw [hA10]; infer_instance
  have hdf10 : A10.defers = [] := by rw [hA10]; simp only [df_put]; exact hdf6
  have l0_10 := lookE hA10 0 (es rfl (es rfl (es rfl (es rfl (es rfl l0_6)))))
  have l1_10 := lookE hA10 1 (es rfl (es rfl (es rfl (es rfl (es rfl l1_6)))))
  have l5_10 := lookE hA10 5 (es rfl (es rfl (es rfl (es rfl (es rfl l5_6)))))
  have l15_10 := lookE hA10 15 (et rfl)
  clear hA10 hsz6 hdf6 l5_6 l0_6 l1_6
  refine then_n (hK8 _ _ ?_)
  clear hK8
  refine cond_dec l15_10 (fun c11 => ?_) (fun c11 => ?_)
  · skip
    have hlt := lt_zero hj hz0 hy9 c11
    refine wp_skip ?_
    refine then_n (hK7 _ _ ?_)
    clear hK7
    refine wp_block ?_
    refine wp_seq_k (fun K12 hK12 => ?_)
    refine wp_seq_k (fun K13 hK13 => ?_)
    -- region 3
    refine region_in ?_
    refine W_v rfl rfl (V_mov rfl l0_10) ?_
    refine W_v rfl rfl (V_mov rfl (es rfl l5_10)) ?_
    refine W_v rfl rfl (V_ixS (off := O9 + (ps c.length a j)) 1 ((ps c.length a j)) rfl (es rfl (et rfl)) (et rfl) hv9 (by omega) k9 Try.underlying22 (by kernel_rfl) (congrArg _ (Nat.mul_one _))) ?_
    refine W_r rfl rfl (VR_ldC rfl (et rfl) ((sl_SlN (hS6.ro h_cv)).cell hv9 (map_get hy9)) Try.underlying3 rfl) ?_
    refine W_v rfl rfl (V_mov rfl (es rfl (es rfl (es rfl (es rfl l1_10))))) ?_
    refine W_v rfl rfl (V_eql rfl (es rfl (et rfl)) (et rfl)) ?_
    refine W_end ?_
    refine gen_Q (fun A15 hA15 => ?_)
    have hsz15 : SzN A15 28 := by rw [hA15]; infer_instance
    have hdf15 : A15.defers = [] := by rw [hA15]; simp only [df_put]; exact hdf10
    have l0_15 := lookE hA15 0 (es rfl (es rfl (es rfl (es rfl (es rfl (es rfl l0_10))))))
    have l1_15 := lookE hA15 1 (es rfl (es rfl (es rfl (es rfl (es rfl (es rfl l1_10))))))
    have l5_15 := lookE hA15 5 (es rfl (es rfl (es rfl (es rfl (es rfl (es rfl l5_10))))))
    have l21_15 := lookE hA15 21 (et rfl)
    clear hA15 hsz10 hdf10 l0_10 l1_10 l5_10 l15_10
    refine then_n (hK13 _ _ ?_)
    clear hK13
    refine cond_dec l21_15 (fun c16 => ?_) (fun c16 => ?_)
    · skip
      refine wp_seq_k (fun K17 hK17 => ?_)
      -- region 4
      refine region_in ?_
      refine W_v rfl rfl (V_mov rfl l5_15) ?_
      refine W_v rfl rfl (V_asg rfl (et rfl)) ?_
      refine W_end ?_
      refine gen_Q (fun A18 hA18 => ?_)
      have hsz18 : SzN A18 28 := by rw [hA18]; infer_instance
      have hdf18 : A18.defers = [] := by rw [hA18]; simp only [df_put]; exact hdf15
      have l4_18 := lookE hA18 4 (et rfl)
      clear hA18 hsz15 hdf15 l0_15 l1_15 l5_15 l21_15
      refine then_n (hK17 _ _ ?_)
      clear hK17
      refine wp_ret ?_
      refine then_ret ?_
      refine inb_ret ?_
      refine then_ret ?_
      refine inb_ret ?_
      refine then_ret ?_
      refine ret_in (results_1 Try.results40 (rv_tmp l4_18)) hdf18 ?_
      -- leaf TT
      have e0 : fnd c a = ((ps c.length a j : Nat) : Int) := by exact fnd_y (by omega) hnz hy9 c16
      rw [e0]
      exact ⟨rfl, hS6.fin0⟩
    · skip
      refine wp_skip ?_
      refine then_n (hK12 _ _ ?_)
      clear hK12
      -- region 5
      refine region_in ?_
      refine W_v rfl rfl (V_mov rfl l5_15) ?_
      refine W_v rfl rfl (V_add rfl (et rfl) rfl (by omega) (by omega)) ?_
      refine W_v rfl rfl (V_mov rfl (es rfl (es rfl l0_15))) ?_
      refine W_v rfl rfl (V_lenS rfl (et rfl) (sl_SlN h_cv.at) Try.underlying22) ?_
      refine W_v rfl rfl (V_rem rfl (es rfl (es rfl (et rfl))) (et rfl) (by omega) (by omega) (wrap_mod (by omega) (by omega))) ?_
      refine W_v rfl rfl (V_asg rfl (et rfl)) ?_
      refine W_end ?_
      refine gen_Q (fun A19 hA19 => ?_)
      have hsz19 : SzN A19 28 := by rw [hA19]; infer_instance
      have hdf19 : A19.defers = [] := by rw [hA19]; simp only [df_put]; exact hdf15
      have l0_19 := lookE hA19 0 (es rfl (es rfl (es rfl (es rfl (es rfl (es rfl l0_15))))))
      have l1_19 := lookE hA19 1 (es rfl (es rfl (es rfl (es rfl (es rfl (es rfl l1_15))))))
      have l5_19 := lookE hA19 5 (et rfl)
      clear hA19 hsz15 hdf15 l0_15 l1_15 l5_15 l21_15
      refine inb_n ?_
      refine then_n ⟨j0 - (j + 1), by simp only [hm6]; omega, hsz19, hdf19, (j + 1), rfl, (by omega), (no2_step hnz hy9 c16 c11), (ps_lt (by omega) _ _), ((l5_19).trans ((congrArg (Value.int .i64) (mod_psS _ _)))), ((l0_19).trans l0_4.symm), ((l1_19).trans l1_4.symm), hS6⟩
  · skip
    refine wp_exit ?_
    refine then_exit ?_
    refine then_exit ?_
    refine inb_hit ?_
    refine then_n (hK5 _ _ ?_)
    clear hK5
    refine wp_seq_k (fun K20 hK20 => ?_)
    -- region 6
    refine region_in ?_
    refine W_v rfl rfl (V_asg rfl rfl) ?_
    refine W_end ?_
    refine gen_Q (fun A21 hA21 => ?_)
    have hsz21 : SzN A21 28 := by rw [hA21]; infer_instance
    have hdf21 : A21.defers = [] := by rw [hA21]; simp only [df_put]; exact hdf10
    have l4_21 := lookE hA21 4 (et rfl)
    clear hA21 hsz10 hdf10 l0_10 l1_10 l5_10 l15_10
    refine then_n (hK20 _ _ ?_)
    clear hK20
    refine wp_ret ?_
    refine ret_in (results_1 Try.results40 (rv_tmp l4_21)) hdf21 ?_
    -- leaf F
    have e0 : fnd c a = (-1) := by exact fnd_z ha.1 (by omega) hnz hy9 c11
    rw [e0]
    exact ⟨rfl, hS6.fin0⟩

end Go.Proofs.Ytoandfgkkmfobaa