import Derived.Test.YteppjefmlibmoaaProg
import Derived.Test.YteppjefmlibmoaaSl2
namespace Go.Proofs.Yteppjefmlibmoaa
open Go.RowKit Go.Own Go.Own.R Go.Own.S


set_option maxHeartbeats 4000000 in
theorem qbef_c {cv : Value} {c : List Int} {i : Int} {w : World} (h_cv : Ro w NoX (il .i64 cv c)) (hi : 0 ≤ i ∧ i < (c.length : Int)) :
  Calls Try.prog 113 #[cv, .int .i64 i] w fun e w' => e = .returned (.bool (befB c i)) ∧ St w NoX [] w' := by
 obtain ⟨yi, hyi⟩ := get_some (xs := c) (k := i.toNat) (by omega)
 refine calls_in 20 Try.func113 rfl rfl (by simp) (fun A0 hsz0 hdf0 hargs => ?_)
 have l0_0 := hargs 0 (cv) rfl
 have l1_0 := hargs 1 (.int .i64 i) rfl
 clear hargs; replace hsz0 : SzN A0 20 := ⟨hsz0⟩
 have hS := St.nil w
 have bh_cv := SlN.le (sl_SlN h_cv.at)
 refine wp_seq_k fun K1 hK1 => ?_
 refine region_in ?_
 refine W_v rfl rfl (V_asg rfl rfl) ?_
 refine W_end (gen_Q fun A2 hA2 => ?_)
 have hsz2 := szq hA2
 have hdf2 := dfE hA2 hdf0
 have l0_2 := lookE hA2 0 (es rfl l0_0)
 have l1_2 := lookE hA2 1 (es rfl l1_0)
 clear hA2 hsz0 hdf0 l0_0 l1_0
 refine then_n (hK1 _ _ ?_)
 clear hK1
 refine wp_seq_k fun K3 hK3 => ?_
 refine wp_seq_k fun K4 hK4 => ?_
 refine region_in ?_
 refine W_v rfl rfl (V_asg rfl rfl) ?_
 refine W_end (gen_Q fun A5 hA5 => ?_)
 have hsz5 := szq hA5
 have hdf5 := dfE hA5 hdf2
 have l0_5 := lookE hA5 0 (es rfl l0_2)
 have l1_5 := lookE hA5 1 (es rfl l1_2)
 have l5_5 := lookE hA5 5 (et rfl)
 clear hA5 hsz2 hdf2 l0_2 l1_2
 refine then_n (hK4 _ _ ?_)
 clear hK4
 refine wp_block ?_
 -- loop 2
 refine loopX (fun mz A' w' => SzN A' 20 ∧ A'.defers = [] ∧ (∃ (j : Nat), (mz = i.toNat - j) ∧ (j ≤ i.toNat) ∧ (∀ q, q < j → ∀ x, c[q]? = some x → ¬ x = yi) ∧ (EV A' (.tmp 5) = .int .i64 (j : Int)) ∧ (EV A' (.tmp 0) = EV A5 (.tmp 0)) ∧ (EV A' (.tmp 1) = EV A5 (.tmp 1)) ∧ (St w NoX [] w'))) (i.toNat - 0) ⟨hsz5, hdf5, 0, rfl, (by omega), (fun q hq => by omega), ((l5_5).trans (by first | rfl | (simp; done) | (congr 1; omega))), rfl, rfl, hS⟩ ?_
 clear hS
 rintro n6 A6 w6 ⟨hsz6, hdf6, j, hm6, hj, hz, l5_6, u0_6, u1_6, hS6⟩
 have l0_6 := u0_6.trans l0_5
 have l1_6 := u1_6.trans l1_5
 refine wp_seq_k fun K7 hK7 => ?_
 refine wp_seq_k fun K8 hK8 => ?_
 refine region_in ?_
 refine W_v rfl rfl (V_mov rfl l5_6) ?_
 refine W_v rfl rfl (V_mov rfl (es rfl l1_6)) ?_
 refine W_v rfl rfl (V_lss rfl (es rfl (et rfl)) (et rfl)) ?_
 refine W_end (gen_Q fun A9 hA9 => ?_)
 have hsz9 := szq hA9
 have hdf9 := dfE hA9 hdf6
 have l0_9 := ek3 hA9 0 rfl l0_6
 have l1_9 := ek3 hA9 1 rfl l1_6
 have l5_9 := ek3 hA9 5 rfl l5_6
 have l8_9 := lookE hA9 8 (et rfl)
 clear hA9 hsz6 hdf6 l5_6 l0_6 l1_6
 refine then_n (hK8 _ _ ?_)
 clear hK8
 refine cond_dec l8_9 (fun c10 => ?_) (fun c10 => ?_)
 ·refine wp_skip ?_
  refine then_n (hK7 _ _ ?_)
  clear hK7
  refine wp_seq_k fun K11 hK11 => ?_
  refine wp_block ?_
  refine wp_seq_k fun K12 hK12 => ?_
  refine region_monoS 9 9 [] (by kernel_rfl) (by kernel_rfl) ?_
  refine D_v rfl rfl (V_mov rfl l0_9) rfl rfl ?_
  refine D_v rfl rfl (V_mov rfl (es rfl l5_9)) rfl rfl ?_
  have k13 : j < c.length := by first | omega | (simp only [List.length_cons, List.length_nil]; omega) | (simp only [List.length_set]; omega) | decide
  obtain ⟨y13, hy13⟩ := get_some (xs := c) (k := j) k13
  obtain ⟨B13, O13, C13, hv13⟩ := (SlN.blk (sl_SlN h_cv.at) (by first | omega | (simp only [List.length_cons, List.length_nil]; omega) | (simp only [List.length_set]; omega) | decide))
  refine D_v rfl rfl (V_ixS (off := O13 + j) 1 (j) rfl (es rfl (et rfl)) (et rfl) hv13 (by omega) k13 Try.underlying25 (by kernel_rfl) (congrArg _ (Nat.mul_one _))) rfl rfl ?_
  refine D_r rfl rfl (by kernel_rfl) (fun sx hx hF => (VR_ldC rfl (et rfl) ((sl_SlN ((hS6.grow hx).ro h_cv)).cell hv13 (map_get hy13)) Try.underlying3 rfl)) rfl rfl ?_
  refine D_v rfl rfl (V_mov rfl (e4 rfl l0_9)) rfl rfl ?_
  refine D_v rfl rfl (V_mov rfl (e5 rfl l1_9)) rfl rfl ?_
  have k14 : i.toNat < c.length := by first | omega | (simp only [List.length_cons, List.length_nil]; omega) | (simp only [List.length_set]; omega) | decide
  obtain ⟨y14, hy14⟩ := get_some (xs := c) (k := i.toNat) k14
  have hyy14 : y14 = yi := Option.some.inj (hy14.symm.trans hyi)
  refine D_v rfl rfl (V_ixS (off := O13 + i.toNat) 1 (i.toNat) rfl (es rfl (et rfl)) (et rfl) hv13 (by omega) k14 Try.underlying25 (by kernel_rfl) (congrArg _ (Nat.mul_one _))) rfl rfl ?_
  refine D_r rfl rfl (by kernel_rfl) (fun sx hx hF => (VR_ldC rfl (et rfl) ((sl_SlN ((hS6.grow hx).ro h_cv)).cell hv13 (map_get hy14)) Try.underlying3 rfl)) rfl rfl ?_
  refine D_v rfl rfl (V_eql rfl (e4 rfl (et rfl)) (et rfl)) rfl rfl ?_
  refine ZS_none hS6 (Nat.le_refl _) (Nat.le_refl _) (fun s15 hJ15 hL15 hF15 => ?_)
  have hS15 := hJ15.st; clear hF15 hJ15 hL15
  generalize s15.1 = w15 at *
  replace hS15 : St w NoX [] w15 := hS15
  refine gen_Q (fun A16 hA16 => ?_)
  have hsz16 := szq hA16
  have hdf16 := dfE hA16 hdf9
  have l0_16 := ek9 hA16 0 rfl l0_9
  have l1_16 := ek9 hA16 1 rfl l1_9
  have l5_16 := ek9 hA16 5 rfl l5_9
  have l19_16 := lookE hA16 19 (et rfl)
  clear hA16 hsz9 hdf9 l0_9 l1_9 l5_9 l8_9
  refine then_n (hK12 _ _ ?_)
  clear hK12
  refine cond_dec l19_16 (fun c17 => ?_) (fun c17 => ?_)
  ·refine wp_seq_k fun K18 hK18 => ?_
   refine region_in ?_
   refine W_v rfl rfl (V_asg rfl rfl) ?_
   refine W_end (gen_Q fun A19 hA19 => ?_)
   have hsz19 := szq hA19
   have hdf19 := dfE hA19 hdf16
   have l4_19 := lookE hA19 4 (et rfl)
   clear hA19 hsz16 hdf16 l0_16 l1_16 l5_16 l19_16
   refine then_n (hK18 _ _ ?_)
   clear hK18
   refine wp_ret ?_
   refine inb_ret ?_
   refine then_ret ?_
   refine then_ret ?_
   refine inb_ret ?_
   refine then_ret ?_
   refine ret_in (results_1 Try.results113 (rv_tmp l4_19)) hdf19 ?_
   have e0 : befB c i = true := by exact bef_T hyi hy13 (by omega) (by omega)
   rw [e0]
   exact ⟨rfl, hS15.fin0⟩
  ·refine wp_skip ?_
   refine inb_n ?_
   refine then_n (hK11 _ _ ?_)
   clear hK11
   refine region_in ?_
   refine W_v rfl rfl (V_mov rfl l5_16) ?_
   refine W_v rfl rfl (V_add rfl (et rfl) rfl (by omega) (by omega)) ?_
   refine W_v rfl rfl (V_asg rfl (et rfl)) ?_
   refine W_end (gen_Q fun A20 hA20 => ?_)
   have hsz20 := szq hA20
   have hdf20 := dfE hA20 hdf16
   have l0_20 := ek3 hA20 0 rfl l0_16
   have l1_20 := ek3 hA20 1 rfl l1_16
   have l5_20 := lookE hA20 5 (et rfl)
   clear hA20 hsz16 hdf16 l0_16 l1_16 l5_16 l19_16
   refine then_n ⟨i.toNat - (j + 1), by simp only [hm6]; omega, hsz20, hdf20, (j + 1), rfl, (by omega), (ne_step hz hy13 (by omega)), ((l5_20).trans (by first | rfl | (simp; done) | (congr 1; omega))), ((l0_20).trans l0_5.symm), ((l1_20).trans l1_5.symm), hS15⟩
 ·refine wp_exit ?_
  refine then_exit ?_
  refine then_exit ?_
  refine inb_hit ?_
  refine then_n (hK3 _ _ ?_)
  clear hK3
  refine wp_seq_k fun K21 hK21 => ?_
  refine region_in ?_
  refine W_v rfl rfl (V_asg rfl rfl) ?_
  refine W_end (gen_Q fun A22 hA22 => ?_)
  have hsz22 := szq hA22
  have hdf22 := dfE hA22 hdf9
  have l4_22 := lookE hA22 4 (et rfl)
  clear hA22 hsz9 hdf9 l0_9 l1_9 l5_9 l8_9
  refine then_n (hK21 _ _ ?_)
  clear hK21
  refine wp_ret ?_
  refine ret_in (results_1 Try.results113 (rv_tmp l4_22)) hdf22 ?_
  have e0 : befB c i = false := by exact bef_F hyi hz (by omega)
  rw [e0]
  exact ⟨rfl, hS6.fin0⟩

set_option maxHeartbeats 4000000 in
theorem qfind_c {cv : Value} {c : List Int} {a : Int} {w : World} (h_cv : Ro w NoX (il .i64 cv c)) (hp : P2 c.length) (ha : 1 ≤ a ∧ a ≤ 1600) (hz : usd c < c.length) :
  Calls Try.prog 62 #[cv, .int .i64 a] w fun e w' => e = .returned (.int .i64 (fnd c a)) ∧ St w NoX [] w' := by
 have hpb := hp.bd
 obtain ⟨j0, hj0, hz0⟩ := zero_on a hz
 refine calls_in 28 Try.func62 rfl rfl (by simp) (fun A0 hsz0 hdf0 hargs => ?_)
 have l0_0 := hargs 0 (cv) rfl
 have l1_0 := hargs 1 (.int .i64 a) rfl
 clear hargs; replace hsz0 : SzN A0 28 := ⟨hsz0⟩
 have hS := St.nil w
 have bh_cv := SlN.le (sl_SlN h_cv.at)
 refine wp_seq_k fun K1 hK1 => ?_
 refine region_in ?_
 refine W_v rfl rfl (V_asg rfl rfl) ?_
 refine W_end (gen_Q fun A2 hA2 => ?_)
 have hsz2 := szq hA2
 have hdf2 := dfE hA2 hdf0
 have l0_2 := lookE hA2 0 (es rfl l0_0)
 have l1_2 := lookE hA2 1 (es rfl l1_0)
 clear hA2 hsz0 hdf0 l0_0 l1_0
 refine then_n (hK1 _ _ ?_)
 clear hK1
 refine wp_seq_k fun K3 hK3 => ?_
 refine region_in ?_
 refine W_v rfl rfl (V_mov rfl l1_2) ?_
 refine W_v rfl rfl (V_mul rfl (et rfl) rfl (by omega) (by omega)) ?_
 refine W_v rfl rfl (V_mov rfl (e2 rfl l0_2)) ?_
 refine W_v rfl rfl (V_lenS rfl (et rfl) (sl_SlN h_cv.at) Try.underlying25) ?_
 refine W_v rfl rfl (V_rem rfl (e2 rfl (et rfl)) (et rfl) (by omega) (by omega) (wrap_mod (by omega) (by omega))) ?_
 refine W_v rfl rfl (V_asg rfl (et rfl)) ?_
 refine W_end (gen_Q fun A4 hA4 => ?_)
 have hsz4 := szq hA4
 have hdf4 := dfE hA4 hdf2
 have l0_4 := ek6 hA4 0 rfl l0_2
 have l1_4 := ek6 hA4 1 rfl l1_2
 have l5_4 := lookE hA4 5 (et rfl)
 clear hA4 hsz2 hdf2 l0_2 l1_2
 refine then_n (hK3 _ _ ?_)
 clear hK3
 refine wp_seq_k fun K5 hK5 => ?_
 refine wp_block ?_
 -- loop 2
 refine loopX (fun mz A' w' => SzN A' 28 ∧ A'.defers = [] ∧ (∃ (j : Nat), (mz = j0 - j) ∧ (j ≤ j0) ∧ (∀ i, i < j → ¬ cl c a i = a ∧ ¬ cl c a i = 0) ∧ (ps c.length a j < c.length) ∧ (EV A' (.tmp 5) = .int .i64 ((ps c.length a j : Nat) : Int)) ∧ (EV A' (.tmp 0) = EV A4 (.tmp 0)) ∧ (EV A' (.tmp 1) = EV A4 (.tmp 1)) ∧ (St w NoX [] w'))) (j0 - 0) ⟨hsz4, hdf4, 0, rfl, (by omega), (fun i hi => by omega), (ps_lt (by omega) _ _), ((l5_4).trans ((congrArg (Value.int .i64) (mod_ps0 (by omega))))), rfl, rfl, hS⟩ ?_
 clear hS
 rintro n6 A6 w6 ⟨hsz6, hdf6, j, hm6, hj, hnz, hps, l5_6, u0_6, u1_6, hS6⟩
 have l0_6 := u0_6.trans l0_4
 have l1_6 := u1_6.trans l1_4
 refine wp_seq_k fun K7 hK7 => ?_
 refine wp_seq_k fun K8 hK8 => ?_
 refine region_in ?_
 refine W_v rfl rfl (V_mov rfl l0_6) ?_
 refine W_v rfl rfl (V_mov rfl (es rfl l5_6)) ?_
 have k9 : (ps c.length a j) < c.length := by first | omega | (simp only [List.length_cons, List.length_nil]; omega) | (simp only [List.length_set]; omega) | decide
 obtain ⟨y9, hy9⟩ := get_some (xs := c) (k := (ps c.length a j)) k9
 obtain ⟨B9, O9, C9, hv9⟩ := (SlN.blk (sl_SlN h_cv.at) (by first | omega | (simp only [List.length_cons, List.length_nil]; omega) | (simp only [List.length_set]; omega) | decide))
 refine W_v rfl rfl (V_ixS (off := O9 + (ps c.length a j)) 1 ((ps c.length a j)) rfl (es rfl (et rfl)) (et rfl) hv9 (by omega) k9 Try.underlying25 (by kernel_rfl) (congrArg _ (Nat.mul_one _))) ?_
 refine W_r rfl rfl (VR_ldC rfl (et rfl) ((sl_SlN (hS6.ro h_cv)).cell hv9 (map_get hy9)) Try.underlying3 rfl) ?_
 refine W_v rfl rfl (V_neq rfl (et rfl) rfl) ?_
 refine W_end (gen_Q fun A10 hA10 => ?_)
 have hsz10 := szq hA10
 have hdf10 := dfE hA10 hdf6
 have l0_10 := ek5 hA10 0 rfl l0_6
 have l1_10 := ek5 hA10 1 rfl l1_6
 have l5_10 := ek5 hA10 5 rfl l5_6
 have l15_10 := lookE hA10 15 (et rfl)
 clear hA10 hsz6 hdf6 l5_6 l0_6 l1_6
 refine then_n (hK8 _ _ ?_)
 clear hK8
 refine cond_dec l15_10 (fun c11 => ?_) (fun c11 => ?_)
 ·have hlt := lt_zero hj hz0 hy9 c11
  refine wp_skip ?_
  refine then_n (hK7 _ _ ?_)
  clear hK7
  refine wp_block ?_
  refine wp_seq_k fun K12 hK12 => ?_
  refine wp_seq_k fun K13 hK13 => ?_
  refine region_in ?_
  refine W_v rfl rfl (V_mov rfl l0_10) ?_
  refine W_v rfl rfl (V_mov rfl (es rfl l5_10)) ?_
  refine W_v rfl rfl (V_ixS (off := O9 + (ps c.length a j)) 1 ((ps c.length a j)) rfl (es rfl (et rfl)) (et rfl) hv9 (by omega) k9 Try.underlying25 (by kernel_rfl) (congrArg _ (Nat.mul_one _))) ?_
  refine W_r rfl rfl (VR_ldC rfl (et rfl) ((sl_SlN (hS6.ro h_cv)).cell hv9 (map_get hy9)) Try.underlying3 rfl) ?_
  refine W_v rfl rfl (V_mov rfl (e4 rfl l1_10)) ?_
  refine W_v rfl rfl (V_eql rfl (es rfl (et rfl)) (et rfl)) ?_
  refine W_end (gen_Q fun A15 hA15 => ?_)
  have hsz15 := szq hA15
  have hdf15 := dfE hA15 hdf10
  have l0_15 := ek6 hA15 0 rfl l0_10
  have l1_15 := ek6 hA15 1 rfl l1_10
  have l5_15 := ek6 hA15 5 rfl l5_10
  have l21_15 := lookE hA15 21 (et rfl)
  clear hA15 hsz10 hdf10 l0_10 l1_10 l5_10 l15_10
  refine then_n (hK13 _ _ ?_)
  clear hK13
  refine cond_dec l21_15 (fun c16 => ?_) (fun c16 => ?_)
  ·refine wp_seq_k fun K17 hK17 => ?_
   refine region_in ?_
   refine W_v rfl rfl (V_mov rfl l5_15) ?_
   refine W_v rfl rfl (V_asg rfl (et rfl)) ?_
   refine W_end (gen_Q fun A18 hA18 => ?_)
   have hsz18 := szq hA18
   have hdf18 := dfE hA18 hdf15
   have l4_18 := lookE hA18 4 (et rfl)
   clear hA18 hsz15 hdf15 l0_15 l1_15 l5_15 l21_15
   refine then_n (hK17 _ _ ?_)
   clear hK17
   refine wp_ret ?_
   refine then_ret ?_
   refine inb_ret ?_
   refine then_ret ?_
   refine inb_ret ?_
   refine then_ret ?_
   refine ret_in (results_1 Try.results62 (rv_tmp l4_18)) hdf18 ?_
   have e0 : fnd c a = ((ps c.length a j : Nat) : Int) := by exact fnd_y (by omega) hnz hy9 c16
   rw [e0]
   exact ⟨rfl, hS6.fin0⟩
  ·refine wp_skip ?_
   refine then_n (hK12 _ _ ?_)
   clear hK12
   refine region_in ?_
   refine W_v rfl rfl (V_mov rfl l5_15) ?_
   refine W_v rfl rfl (V_add rfl (et rfl) rfl (by omega) (by omega)) ?_
   refine W_v rfl rfl (V_mov rfl (e2 rfl l0_15)) ?_
   refine W_v rfl rfl (V_lenS rfl (et rfl) (sl_SlN h_cv.at) Try.underlying25) ?_
   refine W_v rfl rfl (V_rem rfl (e2 rfl (et rfl)) (et rfl) (by omega) (by omega) (wrap_mod (by omega) (by omega))) ?_
   refine W_v rfl rfl (V_asg rfl (et rfl)) ?_
   refine W_end (gen_Q fun A19 hA19 => ?_)
   have hsz19 := szq hA19
   have hdf19 := dfE hA19 hdf15
   have l0_19 := ek6 hA19 0 rfl l0_15
   have l1_19 := ek6 hA19 1 rfl l1_15
   have l5_19 := lookE hA19 5 (et rfl)
   clear hA19 hsz15 hdf15 l0_15 l1_15 l5_15 l21_15
   refine inb_n ?_
   refine then_n ⟨j0 - (j + 1), by simp only [hm6]; omega, hsz19, hdf19, (j + 1), rfl, (by omega), (no2_step hnz hy9 c16 c11), (ps_lt (by omega) _ _), ((l5_19).trans ((congrArg (Value.int .i64) (mod_psS _ _)))), ((l0_19).trans l0_4.symm), ((l1_19).trans l1_4.symm), hS6⟩
 ·refine wp_exit ?_
  refine then_exit ?_
  refine then_exit ?_
  refine inb_hit ?_
  refine then_n (hK5 _ _ ?_)
  clear hK5
  refine wp_seq_k fun K20 hK20 => ?_
  refine region_in ?_
  refine W_v rfl rfl (V_asg rfl rfl) ?_
  refine W_end (gen_Q fun A21 hA21 => ?_)
  have hsz21 := szq hA21
  have hdf21 := dfE hA21 hdf10
  have l4_21 := lookE hA21 4 (et rfl)
  clear hA21 hsz10 hdf10 l0_10 l1_10 l5_10 l15_10
  refine then_n (hK20 _ _ ?_)
  clear hK20
  refine wp_ret ?_
  refine ret_in (results_1 Try.results62 (rv_tmp l4_21)) hdf21 ?_
  have e0 : fnd c a = (-1) := by exact fnd_z ha.1 (by omega) hnz hy9 c11
  rw [e0]
  exact ⟨rfl, hS6.fin0⟩

set_option maxHeartbeats 4000000 in
theorem qsr_c {cv : Value} {c : List Int} {w : World} (h_cv : Ro w NoX (il .i64 cv c)) (hr : Rng c) :
  Calls Try.prog 92 #[cv] w fun e w' => ∃ v, e = .returned (v) ∧ St w NoX [io .i64 (v) (tgK c 1600)] w' := by
 refine calls_in 38 Try.func92 rfl rfl (by simp) (fun A0 hsz0 hdf0 hargs => ?_)
 have l0_0 := hargs 0 (cv) rfl
 clear hargs; replace hsz0 : SzN A0 38 := ⟨hsz0⟩
 have hS := St.nil w
 have bh_cv := SlN.le (sl_SlN h_cv.at)
 refine wp_seq_k fun K1 hK1 => ?_
 refine region_in ?_
 refine W_v rfl rfl (V_asg rfl rfl) ?_
 refine W_end (gen_Q fun A2 hA2 => ?_)
 have hsz2 := szq hA2
 have hdf2 := dfE hA2 hdf0
 have l0_2 := lookE hA2 0 (es rfl l0_0)
 clear hA2 hsz0 hdf0 l0_0
 refine then_n (hK1 _ _ ?_)
 clear hK1
 refine wp_seq_k fun K3 hK3 => ?_
 refine region_in ?_
 refine W_mkS (z := .bool false) (bytes := 1) 1601 hS rfl rfl rfl rfl rfl (by omega) Try.underlying136 (by kernel_rfl) (by omega) rfl (fun v4 w4 c4 hc4 hS4 => ?_)
 replace hc4 : c4 = bo v4 (List.replicate 1601 false) := hc4.trans (by simp only [io, bo, List.map_replicate, List.length_replicate])
 replace hS4 : St w NoX [c4] w4 := hS4
 refine W_v rfl rfl (V_asg rfl (et rfl)) ?_
 refine W_end (gen_Q fun A5 hA5 => ?_)
 have hsz5 := szq hA5
 have hdf5 := dfE hA5 hdf2
 have l0_5 := ek2 hA5 0 rfl l0_2
 have l3_5 := lookE hA5 3 (et rfl)
 clear hA5 hsz2 hdf2 l0_2
 refine then_n (hK3 _ _ ?_)
 clear hK3
 refine wp_seq_k fun K6 hK6 => ?_
 refine wp_seq_k fun K7 hK7 => ?_
 refine region_in ?_
 refine W_v rfl rfl (V_asg rfl rfl) ?_
 refine W_end (gen_Q fun A8 hA8 => ?_)
 have hsz8 := szq hA8
 have hdf8 := dfE hA8 hdf5
 have l0_8 := lookE hA8 0 (es rfl l0_5)
 have l3_8 := lookE hA8 3 (es rfl l3_5)
 have l4_8 := lookE hA8 4 (et rfl)
 clear hA8 hsz5 hdf5 l0_5 l3_5
 refine then_n (hK7 _ _ ?_)
 clear hK7
 refine wp_block ?_
 -- loop 3
 refine loopX (fun mz A' w' => SzN A' 38 ∧ A'.defers = [] ∧ (∃ (k : Nat), (mz = c.length - k) ∧ (k ≤ c.length) ∧ ((mtS (c.take k)).length = 1601) ∧ (EV A' (.tmp 4) = .int .i64 (k : Int)) ∧ (EV A' (.tmp 0) = EV A8 (.tmp 0)) ∧ (EV A' (.tmp 3) = EV A8 (.tmp 3)) ∧ (St w NoX [bo v4 (mtS (c.take k))] w'))) (c.length - 0) ⟨hsz8, hdf8, 0, rfl, (by omega), (mtS_len _), ((l4_8).trans (by first | rfl | (simp; done) | (congr 1; omega))), rfl, rfl, (by have q0 : c4 = bo v4 (mtS (c.take 0)) := hc4.trans ((congrArg (bo _) mtS_nil)); subst q0; exact hS4)⟩ ?_
 clear hS4 hc4
 rintro n9 A9 w9 ⟨hsz9, hdf9, k, hm9, hk, hml, l4_9, u0_9, u3_9, hS9⟩
 have l0_9 := u0_9.trans l0_8
 have l3_9 := u3_9.trans l3_8
 obtain ⟨c4_9, hc4_9, hS9⟩ := gen1 hS9
 refine wp_seq_k fun K10 hK10 => ?_
 refine wp_seq_k fun K11 hK11 => ?_
 refine region_in ?_
 refine W_v rfl rfl (V_mov rfl l4_9) ?_
 refine W_v rfl rfl (V_mov rfl (es rfl l0_9)) ?_
 refine W_v rfl rfl (V_lenS rfl (et rfl) (sl_SlN h_cv.at) Try.underlying25) ?_
 refine W_v rfl rfl (V_lss rfl (e2 rfl (et rfl)) (et rfl)) ?_
 refine W_end (gen_Q fun A12 hA12 => ?_)
 have hsz12 := szq hA12
 have hdf12 := dfE hA12 hdf9
 have l0_12 := ek4 hA12 0 rfl l0_9
 have l3_12 := ek4 hA12 3 rfl l3_9
 have l4_12 := ek4 hA12 4 rfl l4_9
 have l11_12 := lookE hA12 11 (et rfl)
 clear hA12 hsz9 hdf9 l4_9 l0_9 l3_9
 refine then_n (hK11 _ _ ?_)
 clear hK11
 refine cond_dec l11_12 (fun c13 => ?_) (fun c13 => ?_)
 ·refine wp_skip ?_
  refine then_n (hK10 _ _ ?_)
  clear hK10
  refine wp_seq_k fun K14 hK14 => ?_
  refine wp_block ?_
  refine wp_seq_k fun K15 hK15 => ?_
  refine region_in ?_
  refine W_v rfl rfl (V_mov rfl l0_12) ?_
  refine W_v rfl rfl (V_mov rfl (es rfl l4_12)) ?_
  have k16 : k < c.length := by first | omega | (simp only [List.length_cons, List.length_nil]; omega) | (simp only [List.length_set]; omega) | decide
  obtain ⟨y16, hy16⟩ := get_some (xs := c) (k := k) k16
  have hry16 := hr y16 (List.mem_of_getElem? hy16)
  obtain ⟨B16, O16, C16, hv16⟩ := (SlN.blk (sl_SlN h_cv.at) (by first | omega | (simp only [List.length_cons, List.length_nil]; omega) | (simp only [List.length_set]; omega) | decide))
  refine W_v rfl rfl (V_ixS (off := O16 + k) 1 (k) rfl (es rfl (et rfl)) (et rfl) hv16 (by omega) k16 Try.underlying25 (by kernel_rfl) (congrArg _ (Nat.mul_one _))) ?_
  refine W_r rfl rfl (VR_ldC rfl (et rfl) ((sl_SlN (hS9.ro h_cv)).cell hv16 (map_get hy16)) Try.underlying3 rfl) ?_
  refine W_v rfl rfl (V_gtr rfl (et rfl) rfl) ?_
  refine W_end (gen_Q fun A17 hA17 => ?_)
  have hsz17 := szq hA17
  have hdf17 := dfE hA17 hdf12
  have l0_17 := ek5 hA17 0 rfl l0_12
  have l3_17 := ek5 hA17 3 rfl l3_12
  have l4_17 := ek5 hA17 4 rfl l4_12
  have l18_17 := lookE hA17 18 (et rfl)
  clear hA17 hsz12 hdf12 l0_12 l3_12 l4_12 l11_12
  refine then_n (hK15 _ _ ?_)
  clear hK15
  refine cond_dec l18_17 (fun c18 => ?_) (fun c18 => ?_)
  ·refine region_in ?_
   refine W_v rfl rfl (V_mov rfl l3_17) ?_
   refine W_v rfl rfl (V_mov rfl (es rfl l0_17)) ?_
   refine W_v rfl rfl (V_mov rfl (e2 rfl l4_17)) ?_
   refine W_v rfl rfl (V_ixS (off := O16 + k) 1 (k) rfl (es rfl (et rfl)) (et rfl) hv16 (by omega) k16 Try.underlying25 (by kernel_rfl) (congrArg _ (Nat.mul_one _))) ?_
   refine W_r rfl rfl (VR_ldC rfl (et rfl) ((sl_SlN (hS9.ro h_cv)).cell hv16 (map_get hy16)) Try.underlying3 rfl) ?_
   have k20 : y16.toNat < (mtS (c.take k)).length := by first | omega | (simp only [List.length_cons, List.length_nil]; omega) | (simp only [List.length_set]; omega) | decide
   obtain ⟨y20, hy20⟩ := get_some (xs := (mtS (c.take k))) (k := y16.toNat) k20
   obtain ⟨B20, O20, C20, hv20⟩ := (SlN.blk (ow_at (hS9.chq 0 rfl hc4_9)) (by first | omega | (simp only [List.length_cons, List.length_nil]; omega) | (simp only [List.length_set]; omega) | decide))
   refine W_v rfl rfl (V_ixS (off := O20 + y16.toNat) 1 (y16.toNat) rfl (e4 rfl (et rfl)) (et rfl) hv20 (by omega) k20 Try.underlying136 (by kernel_rfl) (congrArg _ (Nat.mul_one _))) ?_
   refine W_stE 0 hS9 rfl hc4_9 hv20 rfl rfl rfl (et rfl) rfl (by rfl) rfl (by first | (simp only [List.length_map]; omega) | omega) (by kernel_rfl) (fun w21 c21 hc21 hS21 => ?_)
   replace hc21 : c21 = bo v4 ((mtS (c.take k)).set y16.toNat true) := hc21.trans (by simp [io, bo, List.map_set] <;> rfl)
   replace hS21 : St w NoX [c21] w21 := hS21
   refine W_end (gen_Q fun A22 hA22 => ?_)
   have hsz22 := szq hA22
   have hdf22 := dfE hA22 hdf17
   have l0_22 := ek6 hA22 0 rfl l0_17
   have l3_22 := ek6 hA22 3 rfl l3_17
   have l4_22 := ek6 hA22 4 rfl l4_17
   clear hA22 hsz17 hdf17 l0_17 l3_17 l4_17 l18_17
   refine inb_n ?_
   refine then_n (hK14 _ _ ?_)
   clear hK14
   refine region_in ?_
   refine W_v rfl rfl (V_mov rfl l4_22) ?_
   refine W_v rfl rfl (V_add rfl (et rfl) rfl (by omega) (by omega)) ?_
   refine W_v rfl rfl (V_asg rfl (et rfl)) ?_
   refine W_end (gen_Q fun A23 hA23 => ?_)
   have hsz23 := szq hA23
   have hdf23 := dfE hA23 hdf22
   have l0_23 := ek3 hA23 0 rfl l0_22
   have l3_23 := ek3 hA23 3 rfl l3_22
   have l4_23 := lookE hA23 4 (et rfl)
   clear hA23 hsz22 hdf22 l0_22 l3_22 l4_22
   refine then_n ⟨c.length - (k + 1), by simp only [hm9]; omega, hsz23, hdf23, (k + 1), rfl, (by omega), (mtS_len _), ((l4_23).trans (by first | rfl | (simp; done) | (congr 1; omega))), ((l0_23).trans l0_8.symm), ((l3_23).trans l3_8.symm), (by have q0 : c21 = bo v4 (mtS (c.take (k + 1))) := hc21.trans ((congrArg (bo _) (mtS_set hy16 (by omega)))); subst q0; exact hS21)⟩
  ·refine wp_skip ?_
   refine inb_n ?_
   refine then_n (hK14 _ _ ?_)
   clear hK14
   refine region_in ?_
   refine W_v rfl rfl (V_mov rfl l4_17) ?_
   refine W_v rfl rfl (V_add rfl (et rfl) rfl (by omega) (by omega)) ?_
   refine W_v rfl rfl (V_asg rfl (et rfl)) ?_
   refine W_end (gen_Q fun A24 hA24 => ?_)
   have hsz24 := szq hA24
   have hdf24 := dfE hA24 hdf17
   have l0_24 := ek3 hA24 0 rfl l0_17
   have l3_24 := ek3 hA24 3 rfl l3_17
   have l4_24 := lookE hA24 4 (et rfl)
   clear hA24 hsz17 hdf17 l0_17 l3_17 l4_17 l18_17
   refine then_n ⟨c.length - (k + 1), by simp only [hm9]; omega, hsz24, hdf24, (k + 1), rfl, (by omega), (mtS_len _), ((l4_24).trans (by first | rfl | (simp; done) | (congr 1; omega))), ((l0_24).trans l0_8.symm), ((l3_24).trans l3_8.symm), (by have q0 : c4_9 = bo v4 (mtS (c.take (k + 1))) := hc4_9.trans ((congrArg (bo _) (mtS_skip hy16 c18))); subst q0; exact hS9)⟩
 ·have hTK : c.take k = c := List.take_of_length_le (by omega)
  refine wp_exit ?_
  refine then_exit ?_
  refine then_exit ?_
  refine inb_hit ?_
  refine then_n (hK6 _ _ ?_)
  clear hK6
  refine wp_seq_k fun K25 hK25 => ?_
  refine region_in ?_
  refine W_v rfl rfl (V_asg rfl rfl) ?_
  refine W_end (gen_Q fun A26 hA26 => ?_)
  have hsz26 := szq hA26
  have hdf26 := dfE hA26 hdf12
  have l3_26 := lookE hA26 3 (es rfl l3_12)
  have l5_26 := lookE hA26 5 (et rfl)
  clear hA26 hsz12 hdf12 l0_12 l3_12 l4_12 l11_12
  refine then_n (hK25 _ _ ?_)
  clear hK25
  refine wp_seq_k fun K27 hK27 => ?_
  refine wp_seq_k fun K28 hK28 => ?_
  refine region_in ?_
  refine W_v rfl rfl (V_asg rfl rfl) ?_
  refine W_end (gen_Q fun A29 hA29 => ?_)
  have hsz29 := szq hA29
  have hdf29 := dfE hA29 hdf26
  have l3_29 := lookE hA29 3 (es rfl l3_26)
  have l5_29 := lookE hA29 5 (es rfl l5_26)
  have l6_29 := lookE hA29 6 (et rfl)
  clear hA29 hsz26 hdf26 l3_26 l5_26
  refine then_n (hK28 _ _ ?_)
  clear hK28
  refine wp_block ?_
  obtain ⟨c30, hc30, hS30⟩ := hS9.pnil (s := 1)
  -- loop 9
  have htk := tgK_len c
  refine loopX (fun mz A' w' => SzN A' 38 ∧ A'.defers = [] ∧ (∃ (k2 : Nat) (bv : Value), (mz = 1600 - k2) ∧ (k2 ≤ 1600) ∧ (EV A' (.tmp 6) = .int .i64 ((k2 : Int) + 1)) ∧ (EV A' (.tmp 5) = bv) ∧ (EV A' (.tmp 3) = EV A29 (.tmp 3)) ∧ (St w NoX [io .i64 bv (tgK c k2), bo v4 (mtS (c.take k))] w'))) (1600 - 0) ⟨hsz29, hdf29, 0, (.slice none 0 0), rfl, (by omega), ((l6_29).trans (by first | rfl | (simp; done) | (congr 1; omega))), ((l5_29).trans (by first | rfl | (simp; done) | (congr 1; omega))), rfl, (by have q0 : c30 = io .i64 (.slice none 0 0) (tgK c 0) := hc30.trans (rfl); have q1 := hc4_9; subst q0 q1; exact hS30)⟩ ?_
  clear hS30 hc30 hc4_9
  rintro n31 A31 w31 ⟨hsz31, hdf31, k2, bv, hm31, hk2, l6_31, l5_31, u3_31, hS31⟩
  have l3_31 := u3_31.trans l3_29
  obtain ⟨c30_31, c4_31, hc30_31, hc4_31, hS31⟩ := gen2 hS31
  refine wp_seq_k fun K32 hK32 => ?_
  refine wp_seq_k fun K33 hK33 => ?_
  refine region_in ?_
  refine W_v rfl rfl (V_mov rfl l6_31) ?_
  refine W_v rfl rfl (V_leq rfl (et rfl) rfl) ?_
  refine W_end (gen_Q fun A34 hA34 => ?_)
  have hsz34 := szq hA34
  have hdf34 := dfE hA34 hdf31
  have l3_34 := ek2 hA34 3 rfl l3_31
  have l5_34 := ek2 hA34 5 rfl l5_31
  have l6_34 := ek2 hA34 6 rfl l6_31
  have l26_34 := lookE hA34 26 (et rfl)
  clear hA34 hsz31 hdf31 l6_31 l5_31 l3_31
  refine then_n (hK33 _ _ ?_)
  clear hK33
  refine cond_dec l26_34 (fun c35 => ?_) (fun c35 => ?_)
  ·refine wp_skip ?_
   refine then_n (hK32 _ _ ?_)
   clear hK32
   refine wp_seq_k fun K36 hK36 => ?_
   refine wp_block ?_
   refine wp_seq_k fun K37 hK37 => ?_
   refine region_in ?_
   refine W_v rfl rfl (V_mov rfl l3_34) ?_
   refine W_v rfl rfl (V_mov rfl (es rfl l6_34)) ?_
   have k38 : (((k2 : Int) + 1)).toNat < (mtS (c.take k)).length := by first | omega | (simp only [List.length_cons, List.length_nil]; omega) | (simp only [List.length_set]; omega) | decide
   obtain ⟨y38, hy38⟩ := get_some (xs := (mtS (c.take k))) (k := (((k2 : Int) + 1)).toNat) k38
   obtain ⟨B38, O38, C38, hv38⟩ := (SlN.blk (ow_at (hS31.chq 1 rfl hc4_31)) (by first | omega | (simp only [List.length_cons, List.length_nil]; omega) | (simp only [List.length_set]; omega) | decide))
   refine W_v rfl rfl (V_ixS (off := O38 + ((((k2 : Int) + 1)).toNat)) 1 ((((k2 : Int) + 1)).toNat) rfl (es rfl (et rfl)) (et rfl) hv38 (by omega) k38 Try.underlying136 (by kernel_rfl) (congrArg _ (Nat.mul_one _))) ?_
   refine W_r rfl rfl (VR_ldC rfl (et rfl) ((ow_at (hS31.chq 1 rfl hc4_31)).cell hv38 (map_get hy38)) Try.underlying4 rfl) ?_
   refine W_end (gen_Q fun A39 hA39 => ?_)
   have hsz39 := szq hA39
   have hdf39 := dfE hA39 hdf34
   have l3_39 := ek4 hA39 3 rfl l3_34
   have l5_39 := ek4 hA39 5 rfl l5_34
   have l6_39 := ek4 hA39 6 rfl l6_34
   have l32_39 := lookE hA39 32 (et rfl)
   clear hA39 hsz34 hdf34 l3_34 l5_34 l6_34 l26_34
   refine then_n (hK37 _ _ ?_)
   clear hK37
   refine cond_b l32_39 (fun c40 => ?_) (fun c40 => ?_)
   ·refine region_in ?_
    refine W_v rfl rfl (V_mov rfl l5_39) ?_
    refine W_v rfl rfl (V_mov rfl (es rfl l6_39)) ?_
    have hll41 : [((k2 : Int) + 1)].length = 1 := rfl
    refine W_litS (vs := [.int .i64 (((k2 : Int) + 1))]) (xs := ([((k2 : Int) + 1)].map (Value.int .i64))) 1 hS31 rfl rfl rfl (parts1 (et rfl)) rfl Try.underlying25 (by kernel_rfl) (by decide) (by intro v hv; simp only [List.mem_cons, List.not_mem_nil, or_false] at hv; rcases hv with rfl <;> rfl) (by rfl) (fun g41 w41 c41 hc41 hS41 => ?_)
    replace hc41 : c41 = io .i64 (.slice (some ⟨g41, 0, none⟩) 1 1) [((k2 : Int) + 1)] := hc41
    replace hS41 : St w NoX [c41, c30_31, c4_31] w41 := hS41
    refine W_appS 1 1 hS41 rfl hc30_31 rfl rfl rfl (e2 rfl (et rfl)) (et rfl) Try.underlying25 Try.underlying25 (z := .int .i64 0) (bytes := 8) (by kernel_rfl) rfl (by decide) (ow_at (hS41.chq 0 rfl hc41)) ones_i (by have := tgK_len c k2; simp; omega) (by have := tgK_len c k2; simp; omega) (fun v42 w42 c42 hc42 hS42 => ?_)
    replace hc42 : c42 = io .i64 v42 ((tgK c k2) ++ [((k2 : Int) + 1)]) := hc42.trans (app_eq (by first | (simp; done) | (rw [List.take_of_length_le (l := List.drop _ _) (by rw [List.length_drop]; exact Nat.le_refl _)])))
    replace hS42 : St w NoX [c41, c42, c4_31] w42 := hS42
    refine W_v rfl rfl (V_asg rfl (et rfl)) ?_
    refine W_end (gen_Q fun A43 hA43 => ?_)
    have hsz43 := szq hA43
    have hdf43 := dfE hA43 hdf39
    have l3_43 := ek5 hA43 3 rfl l3_39
    have l5_43 := lookE hA43 5 (et rfl)
    have l6_43 := ek5 hA43 6 rfl l6_39
    clear hA43 hsz39 hdf39 l3_39 l5_39 l6_39 l32_39
    have hS44 : St w NoX [c42, c4_31] w42 := hS42.sel [1, 2] (by decide) rfl
    refine inb_n ?_
    refine then_n (hK36 _ _ ?_)
    clear hK36
    refine region_in ?_
    refine W_v rfl rfl (V_mov rfl l6_43) ?_
    refine W_v rfl rfl (V_add rfl (et rfl) rfl (by omega) (by omega)) ?_
    refine W_v rfl rfl (V_asg rfl (et rfl)) ?_
    refine W_end (gen_Q fun A45 hA45 => ?_)
    have hsz45 := szq hA45
    have hdf45 := dfE hA45 hdf43
    have l3_45 := ek3 hA45 3 rfl l3_43
    have l5_45 := ek3 hA45 5 rfl l5_43
    have l6_45 := lookE hA45 6 (et rfl)
    clear hA45 hsz43 hdf43 l3_43 l5_43 l6_43
    refine then_n ⟨1600 - (k2 + 1), by simp only [hm31]; omega, hsz45, hdf45, (k2 + 1), v42, rfl, (by omega), ((l6_45).trans (by first | rfl | (simp; done) | (congr 1; omega))), ((l5_45).trans (by first | rfl | (simp; done) | (congr 1; omega))), ((l3_45).trans l3_29.symm), (by have q0 : c42 = io .i64 v42 (tgK c (k2 + 1)) := hc42.trans ((congrArg (io .i64 _) (tgK_in (tg_T rfl (by omega) (hTK ▸ hy38) c40)))); have q1 := hc4_31; subst q0 q1; exact hS44)⟩
   ·refine wp_skip ?_
    refine inb_n ?_
    refine then_n (hK36 _ _ ?_)
    clear hK36
    refine region_in ?_
    refine W_v rfl rfl (V_mov rfl l6_39) ?_
    refine W_v rfl rfl (V_add rfl (et rfl) rfl (by omega) (by omega)) ?_
    refine W_v rfl rfl (V_asg rfl (et rfl)) ?_
    refine W_end (gen_Q fun A46 hA46 => ?_)
    have hsz46 := szq hA46
    have hdf46 := dfE hA46 hdf39
    have l3_46 := ek3 hA46 3 rfl l3_39
    have l5_46 := ek3 hA46 5 rfl l5_39
    have l6_46 := lookE hA46 6 (et rfl)
    clear hA46 hsz39 hdf39 l3_39 l5_39 l6_39 l32_39
    refine then_n ⟨1600 - (k2 + 1), by simp only [hm31]; omega, hsz46, hdf46, (k2 + 1), bv, rfl, (by omega), ((l6_46).trans (by first | rfl | (simp; done) | (congr 1; omega))), ((l5_46).trans (by first | rfl | (simp; done) | (congr 1; omega))), ((l3_46).trans l3_29.symm), (by have q0 : c30_31 = io .i64 bv (tgK c (k2 + 1)) := hc30_31.trans ((congrArg (io .i64 _) (tgK_out (tg_F rfl (by omega) (hTK ▸ hy38) c40)))); have q1 := hc4_31; subst q0 q1; exact hS31)⟩
  ·refine wp_exit ?_
   refine then_exit ?_
   refine then_exit ?_
   refine inb_hit ?_
   refine then_n (hK27 _ _ ?_)
   clear hK27
   refine wp_seq_k fun K47 hK47 => ?_
   refine region_in ?_
   refine W_v rfl rfl (V_mov rfl l5_34) ?_
   refine W_v rfl rfl (V_asg rfl (et rfl)) ?_
   refine W_end (gen_Q fun A48 hA48 => ?_)
   have hsz48 := szq hA48
   have hdf48 := dfE hA48 hdf34
   have l2_48 := lookE hA48 2 (et rfl)
   clear hA48 hsz34 hdf34 l3_34 l5_34 l6_34 l26_34
   have hS49 : St w NoX [c30_31] w31 := hS31.sel [0] (by decide) rfl
   refine then_n (hK47 _ _ ?_)
   clear hK47
   refine wp_ret ?_
   refine ret_in (results_1 Try.results92 (rv_tmp l2_48)) hdf48 ?_
   have hk3 : k2 = 1600 := by omega
   exact ⟨_, rfl, (hS49.fin1 0 rfl (hc30_31.trans (congrArg (io .i64 _) (by rw [hk3]))))⟩

end Go.Proofs.Yteppjefmlibmoaa