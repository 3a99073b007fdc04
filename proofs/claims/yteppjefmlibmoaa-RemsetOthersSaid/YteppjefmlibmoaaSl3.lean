import Derived.Test.YteppjefmlibmoaaProg
import Derived.Test.YteppjefmlibmoaaSl2
namespace Go.Proofs.Yteppjefmlibmoaa
open Go.RowKit Go.Own Go.Own.R Go.Own.S


set_option maxHeartbeats 4000000 in
theorem qbef_c {cv : Value} {c : List Int} {i : Int} {w : World} (h_cv : Ro w NoX (il .i64 cv c)) (hi : 0 ≤ i ∧ i < (c.length : Int)) :
  Calls Try.prog 113 #[cv, .int .i64 i] w fun e w' => e = .returned (.bool (befB c i)) ∧ St w NoX [] w' := by
 obtain ⟨yi, hyi⟩ := get_some (xs := c) (k := i.toNat) (by omega)
 refine calls_in 20 Try.func113 rfl rfl (by simp) (fun A0 Y0 hdf0 hargs => ?_)
 have l0_0 := hargs 0 (cv) rfl
 have l1_0 := hargs 1 (.int .i64 i) rfl
 clear hargs; replace Y0 : SzN A0 20 := ⟨Y0⟩
 have hS := St.nil w
 have bh_cv := SlN.le (sl_SlN h_cv.at)
 refine wp_seq_k fun K1 H1 => ?_
 refine region_in ?_
 refine W_v rfl rfl (V_asg rfl rfl) ?_
 refine W_end (gen_Q fun A2 E2 => ?_)
 have Y2 := szq E2
 have F2 := ((fsE E2 (cq1 (FS.n hdf0) rfl)).c (lookE E2 0 (es rfl l0_0))).c (lookE E2 1 (es rfl l1_0))
 clear E2 Y0 hdf0 l0_0 l1_0
 refine tk H1 ?_
 refine wp_seq_k fun K3 H3 => ?_
 refine wp_seq_k fun K4 H4 => ?_
 refine region_in ?_
 refine W_v rfl rfl (V_asg rfl rfl) ?_
 refine W_end (gen_Q fun A5 E5 => ?_)
 have Y5 := szq E5
 have F5 := fsE E5 (ck F2 rfl rfl)
 clear E5 Y2 F2
 refine tk H4 ?_
 refine wp_block ?_
 -- loop 2
 refine loopX (fun mz A' w' => SzN A' 20 ∧ A'.defers = [] ∧ (∃ (j : Nat), (mz = i.toNat - j) ∧ (j ≤ i.toNat) ∧ (∀ q, q < j → ∀ x, c[q]? = some x → ¬ x = yi) ∧ (EV A' (.tmp 5) = .int .i64 (j : Int)) ∧ (EV A' (.tmp 0) = EV A5 (.tmp 0)) ∧ (EV A' (.tmp 1) = EV A5 (.tmp 1)) ∧ (St w NoX [] w'))) (i.toNat - 0) ⟨Y5, F5.d, 0, rfl, (by omega), (fun q hq => by omega), (((fg0 F5)).trans (by first | rfl | (simp; done) | (congr 1; omega))), rfl, rfl, hS⟩ ?_
 clear hS
 rintro n6 A6 w6 ⟨Y6, hdf6, j, hm6, hj, hz, l5_6, u0_6, u1_6, S6⟩
 have l0_6 := u0_6.trans (fg2 F5)
 have l1_6 := u1_6.trans (fg1 F5)
 refine wp_seq_k fun K7 H7 => ?_
 refine wp_seq_k fun K8 H8 => ?_
 refine region_in ?_
 refine W_v rfl rfl (V_mov rfl l5_6) ?_
 refine W_v rfl rfl (V_mov rfl (es rfl l1_6)) ?_
 refine W_v rfl rfl (V_lss rfl (es rfl (et rfl)) (et rfl)) ?_
 refine W_end (gen_Q fun A9 E9 => ?_)
 have Y9 := szq E9
 have F9 := (((fsE E9 (ck (cq2 (FS.n hdf6) rfl) rfl rfl)).c (lookE E9 0 (es3 rfl l0_6))).c (lookE E9 1 (es3 rfl l1_6))).c (lookE E9 5 (es3 rfl l5_6))
 clear E9 Y6 hdf6 l5_6 l0_6 l1_6
 refine tk H8 ?_
 refine cond_dec (fg3 F9) (fun c10 => ?_) (fun c10 => ?_)
 ·refine wp_skip ?_
  refine tk H7 ?_
  refine wp_seq_k fun K11 H11 => ?_
  refine wp_block ?_
  refine wp_seq_k fun K12 H12 => ?_
  refine region_monoS 9 9 [] (by kernel_rfl) (by kernel_rfl) ?_
  refine D_v rfl rfl (V_mov rfl (fg2 F9)) rfl rfl ?_
  refine D_v rfl rfl (V_mov rfl (es rfl (fg0 F9))) rfl rfl ?_
  have k13 : j < c.length := by first | omega | (simp only [List.length_cons, List.length_nil]; omega) | (simp only [List.length_set]; omega) | decide
  obtain ⟨y13, hy13⟩ := get_some (xs := c) (k := j) k13
  obtain ⟨B13, O13, C13, hv13⟩ := (SlN.blk (sl_SlN h_cv.at) (by first | omega | (simp only [List.length_cons, List.length_nil]; omega) | (simp only [List.length_set]; omega) | decide))
  refine D_v rfl rfl (V_ixS (off := O13 + j) 1 (j) rfl (es rfl (et rfl)) (et rfl) hv13 (by omega) k13 Try.underlying25 (by kernel_rfl) (congrArg _ (Nat.mul_one _))) rfl rfl ?_
  refine D_r rfl rfl (by kernel_rfl) (fun sx hx hF => (VR_ldC rfl (et rfl) ((sl_SlN ((S6.grow hx).ro h_cv)).cell hv13 (map_get hy13)) Try.underlying3 rfl)) rfl rfl ?_
  refine D_v rfl rfl (V_mov rfl (es4 rfl (fg2 F9))) rfl rfl ?_
  refine D_v rfl rfl (V_mov rfl (es5 rfl (fg1 F9))) rfl rfl ?_
  have k14 : i.toNat < c.length := by first | omega | (simp only [List.length_cons, List.length_nil]; omega) | (simp only [List.length_set]; omega) | decide
  obtain ⟨y14, hy14⟩ := get_some (xs := c) (k := i.toNat) k14
  have hyy14 : y14 = yi := Option.some.inj (hy14.symm.trans hyi)
  refine D_v rfl rfl (V_ixS (off := O13 + i.toNat) 1 (i.toNat) rfl (es rfl (et rfl)) (et rfl) hv13 (by omega) k14 Try.underlying25 (by kernel_rfl) (congrArg _ (Nat.mul_one _))) rfl rfl ?_
  refine D_r rfl rfl (by kernel_rfl) (fun sx hx hF => (VR_ldC rfl (et rfl) ((sl_SlN ((S6.grow hx).ro h_cv)).cell hv13 (map_get hy14)) Try.underlying3 rfl)) rfl rfl ?_
  refine D_v rfl rfl (V_eql rfl (es4 rfl (et rfl)) (et rfl)) rfl rfl ?_
  refine ZS_none S6 (Nat.le_refl _) (Nat.le_refl _) (fun s15 hJ15 hL15 hF15 => ?_)
  have S15 := hJ15.st; clear hF15 hJ15 hL15
  generalize s15.1 = w15 at *
  replace S15 : St w NoX [] w15 := S15
  refine gen_Q (fun A16 E16 => ?_)
  have Y16 := szq E16
  have F16 := fsE E16 (ck (cq8 F9 rfl) rfl rfl)
  clear E16 Y9 F9
  refine tk H12 ?_
  refine cond_dec (fg0 F16) (fun c17 => ?_) (fun c17 => ?_)
  ·refine wp_seq_k fun K18 H18 => ?_
   refine region_in ?_
   refine W_v rfl rfl (V_asg rfl rfl) ?_
   refine W_end (gen_Q fun A19 E19 => ?_)
   have Y19 := szq E19
   have F19 := fsE E19 (ck F16 rfl rfl)
   clear E19 Y16 F16
   refine tk H18 ?_
   refine wp_ret ?_
   refine inb_ret ?_
   refine then_ret ?_
   refine then_ret ?_
   refine inb_ret ?_
   refine then_ret ?_
   refine ret_in (results_1 Try.results113 (rv_tmp (fg0 F19))) F19.d ?_
   have e0 : befB c i = true := by exact bef_T hyi hy13 (by omega) (by omega)
   rw [e0]
   exact ⟨rfl, S15.fin0⟩
  refine wp_skip ?_
  refine inb_n ?_
  refine tk H11 ?_
  refine region_in ?_
  refine W_v rfl rfl (V_mov rfl (fg1 F16)) ?_
  refine W_v rfl rfl (V_add rfl (et rfl) rfl (by omega) (by omega)) ?_
  refine W_v rfl rfl (V_asg rfl (et rfl)) ?_
  refine W_end (gen_Q fun A20 E20 => ?_)
  have Y20 := szq E20
  have F20 := fsE E20 (ck (cq2 (fx1 F16) rfl) rfl rfl)
  clear E20 Y16 F16
  refine then_n ⟨i.toNat - (j + 1), by simp only [hm6]; omega, Y20, F20.d, (j + 1), rfl, (by omega), (ne_step hz hy13 (by omega)), (((fg0 F20)).trans (by first | rfl | (simp; done) | (congr 1; omega))), (((fg3 F20)).trans (fg2 F5).symm), (((fg2 F20)).trans (fg1 F5).symm), S15⟩
 refine wp_exit ?_
 refine then_exit ?_
 refine then_exit ?_
 refine inb_hit ?_
 refine tk H3 ?_
 refine wp_seq_k fun K21 H21 => ?_
 refine region_in ?_
 refine W_v rfl rfl (V_asg rfl rfl) ?_
 refine W_end (gen_Q fun A22 E22 => ?_)
 have Y22 := szq E22
 have F22 := fsE E22 (ck F9 rfl rfl)
 clear E22 Y9 F9
 refine tk H21 ?_
 refine wp_ret ?_
 refine ret_in (results_1 Try.results113 (rv_tmp (fg0 F22))) F22.d ?_
 have e0 : befB c i = false := by exact bef_F hyi hz (by omega)
 rw [e0]
 exact ⟨rfl, S6.fin0⟩

set_option maxHeartbeats 4000000 in
theorem qfind_c {cv : Value} {c : List Int} {a : Int} {w : World} (h_cv : Ro w NoX (il .i64 cv c)) (hp : P2 c.length) (ha : 1 ≤ a ∧ a ≤ 1600) (hz : usd c < c.length) :
  Calls Try.prog 62 #[cv, .int .i64 a] w fun e w' => e = .returned (.int .i64 (fnd c a)) ∧ St w NoX [] w' := by
 have hpb := hp.bd
 obtain ⟨j0, hj0, hz0⟩ := zero_on a hz
 refine calls_in 28 Try.func62 rfl rfl (by simp) (fun A0 Y0 hdf0 hargs => ?_)
 have l0_0 := hargs 0 (cv) rfl
 have l1_0 := hargs 1 (.int .i64 a) rfl
 clear hargs; replace Y0 : SzN A0 28 := ⟨Y0⟩
 have hS := St.nil w
 have bh_cv := SlN.le (sl_SlN h_cv.at)
 refine wp_seq_k fun K1 H1 => ?_
 refine region_in ?_
 refine W_v rfl rfl (V_asg rfl rfl) ?_
 refine W_end (gen_Q fun A2 E2 => ?_)
 have Y2 := szq E2
 have F2 := ((fsE E2 (cq1 (FS.n hdf0) rfl)).c (lookE E2 0 (es rfl l0_0))).c (lookE E2 1 (es rfl l1_0))
 clear E2 Y0 hdf0 l0_0 l1_0
 refine tk H1 ?_
 refine wp_seq_k fun K3 H3 => ?_
 refine region_in ?_
 refine W_v rfl rfl (V_mov rfl (fg0 F2)) ?_
 refine W_v rfl rfl (V_mul rfl (et rfl) rfl (by omega) (by omega)) ?_
 refine W_v rfl rfl (V_mov rfl (es2 rfl (fg1 F2))) ?_
 refine W_v rfl rfl (V_lenS rfl (et rfl) (sl_SlN h_cv.at) Try.underlying25) ?_
 refine W_v rfl rfl (V_rem rfl (es2 rfl (et rfl)) (et rfl) (by omega) (by omega) (wrap_mod (by omega) (by omega))) ?_
 refine W_v rfl rfl (V_asg rfl (et rfl)) ?_
 refine W_end (gen_Q fun A4 E4 => ?_)
 have Y4 := szq E4
 have F4 := fsE E4 (ck (cq5 F2 rfl) rfl rfl)
 clear E4 Y2 F2
 refine tk H3 ?_
 refine wp_seq_k fun K5 H5 => ?_
 refine wp_block ?_
 -- loop 2
 refine loopX (fun mz A' w' => SzN A' 28 ∧ A'.defers = [] ∧ (∃ (j : Nat), (mz = j0 - j) ∧ (j ≤ j0) ∧ (∀ i, i < j → ¬ cl c a i = a ∧ ¬ cl c a i = 0) ∧ (ps c.length a j < c.length) ∧ (EV A' (.tmp 5) = .int .i64 ((ps c.length a j : Nat) : Int)) ∧ (EV A' (.tmp 0) = EV A4 (.tmp 0)) ∧ (EV A' (.tmp 1) = EV A4 (.tmp 1)) ∧ (St w NoX [] w'))) (j0 - 0) ⟨Y4, F4.d, 0, rfl, (by omega), (fun i hi => by omega), (ps_lt (by omega) _ _), (((fg0 F4)).trans ((congrArg (Value.int .i64) (mod_ps0 (by omega))))), rfl, rfl, hS⟩ ?_
 clear hS
 rintro n6 A6 w6 ⟨Y6, hdf6, j, hm6, hj, hnz, hps, l5_6, u0_6, u1_6, S6⟩
 have l0_6 := u0_6.trans (fg2 F4)
 have l1_6 := u1_6.trans (fg1 F4)
 refine wp_seq_k fun K7 H7 => ?_
 refine wp_seq_k fun K8 H8 => ?_
 refine region_in ?_
 refine W_v rfl rfl (V_mov rfl l0_6) ?_
 refine W_v rfl rfl (V_mov rfl (es rfl l5_6)) ?_
 have k9 : (ps c.length a j) < c.length := by first | omega | (simp only [List.length_cons, List.length_nil]; omega) | (simp only [List.length_set]; omega) | decide
 obtain ⟨y9, hy9⟩ := get_some (xs := c) (k := (ps c.length a j)) k9
 obtain ⟨B9, O9, C9, hv9⟩ := (SlN.blk (sl_SlN h_cv.at) (by first | omega | (simp only [List.length_cons, List.length_nil]; omega) | (simp only [List.length_set]; omega) | decide))
 refine W_v rfl rfl (V_ixS (off := O9 + (ps c.length a j)) 1 ((ps c.length a j)) rfl (es rfl (et rfl)) (et rfl) hv9 (by omega) k9 Try.underlying25 (by kernel_rfl) (congrArg _ (Nat.mul_one _))) ?_
 refine W_r rfl rfl (VR_ldC rfl (et rfl) ((sl_SlN (S6.ro h_cv)).cell hv9 (map_get hy9)) Try.underlying3 rfl) ?_
 refine W_v rfl rfl (V_neq rfl (et rfl) rfl) ?_
 refine W_end (gen_Q fun A10 E10 => ?_)
 have Y10 := szq E10
 have F10 := (((fsE E10 (ck (cq4 (FS.n hdf6) rfl) rfl rfl)).c (lookE E10 0 (es5 rfl l0_6))).c (lookE E10 1 (es5 rfl l1_6))).c (lookE E10 5 (es5 rfl l5_6))
 clear E10 Y6 hdf6 l5_6 l0_6 l1_6
 refine tk H8 ?_
 refine cond_dec (fg3 F10) (fun c11 => ?_) (fun c11 => ?_)
 ·have hlt := lt_zero hj hz0 hy9 c11
  refine wp_skip ?_
  refine tk H7 ?_
  refine wp_block ?_
  refine wp_seq_k fun K12 H12 => ?_
  refine wp_seq_k fun K13 H13 => ?_
  refine region_in ?_
  refine W_v rfl rfl (V_mov rfl (fg2 F10)) ?_
  refine W_v rfl rfl (V_mov rfl (es rfl (fg0 F10))) ?_
  refine W_v rfl rfl (V_ixS (off := O9 + (ps c.length a j)) 1 ((ps c.length a j)) rfl (es rfl (et rfl)) (et rfl) hv9 (by omega) k9 Try.underlying25 (by kernel_rfl) (congrArg _ (Nat.mul_one _))) ?_
  refine W_r rfl rfl (VR_ldC rfl (et rfl) ((sl_SlN (S6.ro h_cv)).cell hv9 (map_get hy9)) Try.underlying3 rfl) ?_
  refine W_v rfl rfl (V_mov rfl (es4 rfl (fg1 F10))) ?_
  refine W_v rfl rfl (V_eql rfl (es rfl (et rfl)) (et rfl)) ?_
  refine W_end (gen_Q fun A15 E15 => ?_)
  have Y15 := szq E15
  have F15 := fsE E15 (ck (cq5 F10 rfl) rfl rfl)
  clear E15 Y10 F10
  refine tk H13 ?_
  refine cond_dec (fg0 F15) (fun c16 => ?_) (fun c16 => ?_)
  ·refine wp_seq_k fun K17 H17 => ?_
   refine region_in ?_
   refine W_v rfl rfl (V_mov rfl (fg1 F15)) ?_
   refine W_v rfl rfl (V_asg rfl (et rfl)) ?_
   refine W_end (gen_Q fun A18 E18 => ?_)
   have Y18 := szq E18
   have F18 := fsE E18 (ck (cq1 F15 rfl) rfl rfl)
   clear E18 Y15 F15
   refine tk H17 ?_
   refine wp_ret ?_
   refine then_ret ?_
   refine inb_ret ?_
   refine then_ret ?_
   refine inb_ret ?_
   refine then_ret ?_
   refine ret_in (results_1 Try.results62 (rv_tmp (fg0 F18))) F18.d ?_
   have e0 : fnd c a = ((ps c.length a j : Nat) : Int) := by exact fnd_y (by omega) hnz hy9 c16
   rw [e0]
   exact ⟨rfl, S6.fin0⟩
  refine wp_skip ?_
  refine tk H12 ?_
  refine region_in ?_
  refine W_v rfl rfl (V_mov rfl (fg1 F15)) ?_
  refine W_v rfl rfl (V_add rfl (et rfl) rfl (by omega) (by omega)) ?_
  refine W_v rfl rfl (V_mov rfl (es2 rfl (fg3 F15))) ?_
  refine W_v rfl rfl (V_lenS rfl (et rfl) (sl_SlN h_cv.at) Try.underlying25) ?_
  refine W_v rfl rfl (V_rem rfl (es2 rfl (et rfl)) (et rfl) (by omega) (by omega) (wrap_mod (by omega) (by omega))) ?_
  refine W_v rfl rfl (V_asg rfl (et rfl)) ?_
  refine W_end (gen_Q fun A19 E19 => ?_)
  have Y19 := szq E19
  have F19 := fsE E19 (ck (cq5 (fx1 F15) rfl) rfl rfl)
  clear E19 Y15 F15
  refine inb_n ?_
  refine then_n ⟨j0 - (j + 1), by simp only [hm6]; omega, Y19, F19.d, (j + 1), rfl, (by omega), (no2_step hnz hy9 c16 c11), (ps_lt (by omega) _ _), (((fg0 F19)).trans ((congrArg (Value.int .i64) (mod_psS _ _)))), (((fg3 F19)).trans (fg2 F4).symm), (((fg2 F19)).trans (fg1 F4).symm), S6⟩
 refine wp_exit ?_
 refine then_exit ?_
 refine then_exit ?_
 refine inb_hit ?_
 refine tk H5 ?_
 refine wp_seq_k fun K20 H20 => ?_
 refine region_in ?_
 refine W_v rfl rfl (V_asg rfl rfl) ?_
 refine W_end (gen_Q fun A21 E21 => ?_)
 have Y21 := szq E21
 have F21 := fsE E21 (ck F10 rfl rfl)
 clear E21 Y10 F10
 refine tk H20 ?_
 refine wp_ret ?_
 refine ret_in (results_1 Try.results62 (rv_tmp (fg0 F21))) F21.d ?_
 have e0 : fnd c a = (-1) := by exact fnd_z ha.1 (by omega) hnz hy9 c11
 rw [e0]
 exact ⟨rfl, S6.fin0⟩

end Go.Proofs.Yteppjefmlibmoaa