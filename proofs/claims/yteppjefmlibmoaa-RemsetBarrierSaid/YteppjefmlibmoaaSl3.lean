import Derived.Test.YteppjefmlibmoaaProg
import Derived.Test.YteppjefmlibmoaaSl2
namespace Go.Proofs.Yteppjefmlibmoaa
open Go.RowKit Go.Own Go.Own.R Go.Own.S


set_option maxHeartbeats 4000000 in
theorem qbef_c {cv : Value} {c : List Int} {i : Int} {w : World} (h_cv : Ro w NoX (il .i64 cv c)) (hi : 0 ≤ i ∧ i < (c.length : Int)) :
  Calls Try.prog 113 #[cv, .int .i64 i] w fun e w' => e = .returned (.bool (befB c i)) ∧ St w NoX [] w' := by
 obtain ⟨yi, hyi⟩ := get_some (xs := c) (k := i.toNat) (by omega)
 refine calls_in 20 Try.func113 rfl rfl (by simp) (fun A0 Y0 hdf0 hargs => ?_)
 have l0_0 := hargs 0 (cv) rfl
 have l1_0 := hargs 1 (.int .i64 i) rfl
 clear hargs; replace Y0 : SzN A0 20 := ⟨Y0⟩
 have hS := St.nil w
 have bh_cv := SlN.le (sl_SlN h_cv.at)
 refine wp_seq_k fun K1 H1 => ?_
 refine region_in ?_
 refine W_v rfl rfl (V_asg rfl rfl) ?_
 refine W_end (gen_Q fun A2 E2 => ?_)
 have Y2 := szq E2
 have F2 := ((fsE E2 (cq1 (FS.n hdf0) rfl)).c (lookE E2 0 (es rfl l0_0))).c (lookE E2 1 (es rfl l1_0))
 clear E2 Y0 hdf0 l0_0 l1_0
 refine tk H1 ?_
 refine wp_seq_k fun K3 H3 => ?_
 refine wp_seq_k fun K4 H4 => ?_
 refine region_in ?_
 refine W_v rfl rfl (V_asg rfl rfl) ?_
 refine W_end (gen_Q fun A5 E5 => ?_)
 have Y5 := szq E5
 have F5 := fsE E5 (ck F2 rfl rfl)
 clear E5 Y2 F2
 refine tk H4 ?_
 refine wp_block ?_
 -- loop 2
 refine loopX (fun mz A' w' => SzN A' 20 ∧ A'.defers = [] ∧ (∃ (j : Nat), (mz = i.toNat - j) ∧ (j ≤ i.toNat) ∧ (∀ q, q < j → ∀ x, c[q]? = some x → ¬ x = yi) ∧ (EV A' (.tmp 5) = .int .i64 (j : Int)) ∧ (EV A' (.tmp 0) = EV A5 (.tmp 0)) ∧ (EV A' (.tmp 1) = EV A5 (.tmp 1)) ∧ (St w NoX [] w'))) (i.toNat - 0) ⟨Y5, F5.d, 0, rfl, (by omega), (fun q hq => by omega), (((fg0 F5)).trans (by first | rfl | (simp; done) | (congr 1; omega))), rfl, rfl, hS⟩ ?_
 clear hS
 rintro n6 A6 w6 ⟨Y6, hdf6, j, hm6, hj, hz, l5_6, u0_6, u1_6, S6⟩
 have l0_6 := u0_6.trans (fg2 F5)
 have l1_6 := u1_6.trans (fg1 F5)
 refine wp_seq_k fun K7 H7 => ?_
 refine wp_seq_k fun K8 H8 => ?_
 refine region_in ?_
 refine W_v rfl rfl (V_mov rfl l5_6) ?_
 refine W_v rfl rfl (V_mov rfl (es rfl l1_6)) ?_
 refine W_v rfl rfl (V_lss rfl (es rfl (et rfl)) (et rfl)) ?_
 refine W_end (gen_Q fun A9 E9 => ?_)
 have Y9 := szq E9
 have F9 := (((fsE E9 (ck (cq2 (FS.n hdf6) rfl) rfl rfl)).c (lookE E9 0 (es3 rfl l0_6))).c (lookE E9 1 (es3 rfl l1_6))).c (lookE E9 5 (es3 rfl l5_6))
 clear E9 Y6 hdf6 l5_6 l0_6 l1_6
 refine tk H8 ?_
 refine cond_dec (fg3 F9) (fun c10 => ?_) (fun c10 => ?_)
 ·refine wp_skip ?_
  refine tk H7 ?_
  refine wp_seq_k fun K11 H11 => ?_
  refine wp_block ?_
  refine wp_seq_k fun K12 H12 => ?_
  refine region_monoS 9 9 [] (by kernel_rfl) (by kernel_rfl) ?_
  refine D_v rfl rfl (V_mov rfl (fg2 F9)) rfl rfl ?_
  refine D_v rfl rfl (V_mov rfl (es rfl (fg0 F9))) rfl rfl ?_
  have k13 : j < c.length := by first | omega | (simp only [List.length_cons, List.length_nil]; omega) | (simp only [List.length_set]; omega) | decide
  obtain ⟨y13, hy13⟩ := get_some (xs := c) (k := j) k13
  obtain ⟨B13, O13, C13, hv13⟩ := (SlN.blk (sl_SlN h_cv.at) (by first | omega | (simp only [List.length_cons, List.length_nil]; omega) | (simp only [List.length_set]; omega) | decide))
  refine D_v rfl rfl (V_ixS (off := O13 + j) 1 (j) rfl (es rfl (et rfl)) (et rfl) hv13 (by omega) k13 Try.underlying25 (by kernel_rfl) (congrArg _ (Nat.mul_one _))) rfl rfl ?_
  refine D_r rfl rfl (by kernel_rfl) (fun sx hx hF => (VR_ldC rfl (et rfl) ((sl_SlN ((S6.grow hx).ro h_cv)).cell hv13 (map_get hy13)) Try.underlying3 rfl)) rfl rfl ?_
  refine D_v rfl rfl (V_mov rfl (es4 rfl (fg2 F9))) rfl rfl ?_
  refine D_v rfl rfl (V_mov rfl (es5 rfl (fg1 F9))) rfl rfl ?_
  have k14 : i.toNat < c.length := by first | omega | (simp only [List.length_cons, List.length_nil]; omega) | (simp only [List.length_set]; omega) | decide
  obtain ⟨y14, hy14⟩ := get_some (xs := c) (k := i.toNat) k14
  have hyy14 : y14 = yi := Option.some.inj (hy14.symm.trans hyi)
  refine D_v rfl rfl (V_ixS (off := O13 + i.toNat) 1 (i.toNat) rfl (es rfl (et rfl)) (et rfl) hv13 (by omega) k14 Try.underlying25 (by kernel_rfl) (congrArg _ (Nat.mul_one _))) rfl rfl ?_
  refine D_r rfl rfl (by kernel_rfl) (fun sx hx hF => (VR_ldC rfl (et rfl) ((sl_SlN ((S6.grow hx).ro h_cv)).cell hv13 (map_get hy14)) Try.underlying3 rfl)) rfl rfl ?_
  refine D_v rfl rfl (V_eql rfl (es4 rfl (et rfl)) (et rfl)) rfl rfl ?_
  refine ZS_none S6 (Nat.le_refl _) (Nat.le_refl _) (fun s15 hJ15 hL15 hF15 => ?_)
  have S15 := hJ15.st; clear hF15 hJ15 hL15
  generalize s15.1 = w15 at *
  replace S15 : St w NoX [] w15 := S15
  refine gen_Q (fun A16 E16 => ?_)
  have Y16 := szq E16
  have F16 := fsE E16 (ck (cq8 F9 rfl) rfl rfl)
  clear E16 Y9 F9
  refine tk H12 ?_
  refine cond_dec (fg0 F16) (fun c17 => ?_) (fun c17 => ?_)
  ·refine wp_seq_k fun K18 H18 => ?_
   refine region_in ?_
   refine W_v rfl rfl (V_asg rfl rfl) ?_
   refine W_end (gen_Q fun A19 E19 => ?_)
   have Y19 := szq E19
   have F19 := fsE E19 (ck F16 rfl rfl)
   clear E19 Y16 F16
   refine tk H18 ?_
   refine wp_ret ?_
   refine inb_ret ?_
   refine then_ret ?_
   refine then_ret ?_
   refine inb_ret ?_
   refine then_ret ?_
   refine ret_in (results_1 Try.results113 (rv_tmp (fg0 F19))) F19.d ?_
   have e0 : befB c i = true := by exact bef_T hyi hy13 (by omega) (by omega)
   rw [e0]
   exact ⟨rfl, S15.fin0⟩
  refine wp_skip ?_
  refine inb_n ?_
  refine tk H11 ?_
  refine region_in ?_
  refine W_v rfl rfl (V_mov rfl (fg1 F16)) ?_
  refine W_v rfl rfl (V_add rfl (et rfl) rfl (by omega) (by omega)) ?_
  refine W_v rfl rfl (V_asg rfl (et rfl)) ?_
  refine W_end (gen_Q fun A20 E20 => ?_)
  have Y20 := szq E20
  have F20 := fsE E20 (ck (cq2 (fx1 F16) rfl) rfl rfl)
  clear E20 Y16 F16
  refine then_n ⟨i.toNat - (j + 1), by simp only [hm6]; omega, Y20, F20.d, (j + 1), rfl, (by omega), (ne_step hz hy13 (by omega)), (((fg0 F20)).trans (by first | rfl | (simp; done) | (congr 1; omega))), (((fg3 F20)).trans (fg2 F5).symm), (((fg2 F20)).trans (fg1 F5).symm), S15⟩
 refine wp_exit ?_
 refine then_exit ?_
 refine then_exit ?_
 refine inb_hit ?_
 refine tk H3 ?_
 refine wp_seq_k fun K21 H21 => ?_
 refine region_in ?_
 refine W_v rfl rfl (V_asg rfl rfl) ?_
 refine W_end (gen_Q fun A22 E22 => ?_)
 have Y22 := szq E22
 have F22 := fsE E22 (ck F9 rfl rfl)
 clear E22 Y9 F9
 refine tk H21 ?_
 refine wp_ret ?_
 refine ret_in (results_1 Try.results113 (rv_tmp (fg0 F22))) F22.d ?_
 have e0 : befB c i = false := by exact bef_F hyi hz (by omega)
 rw [e0]
 exact ⟨rfl, S6.fin0⟩

set_option maxHeartbeats 4000000 in
theorem qfind_c {cv : Value} {c : List Int} {a : Int} {w : World} (h_cv : Ro w NoX (il .i64 cv c)) (hp : P2 c.length) (ha : 1 ≤ a ∧ a ≤ 1600) (hz : usd c < c.length) :
  Calls Try.prog 62 #[cv, .int .i64 a] w fun e w' => e = .returned (.int .i64 (fnd c a)) ∧ St w NoX [] w' := by
 have hpb := hp.bd
 obtain ⟨j0, hj0, hz0⟩ := zero_on a hz
 refine calls_in 28 Try.func62 rfl rfl (by simp) (fun A0 Y0 hdf0 hargs => ?_)
 have l0_0 := hargs 0 (cv) rfl
 have l1_0 := hargs 1 (.int .i64 a) rfl
 clear hargs; replace Y0 : SzN A0 28 := ⟨Y0⟩
 have hS := St.nil w
 have bh_cv := SlN.le (sl_SlN h_cv.at)
 refine wp_seq_k fun K1 H1 => ?_
 refine region_in ?_
 refine W_v rfl rfl (V_asg rfl rfl) ?_
 refine W_end (gen_Q fun A2 E2 => ?_)
 have Y2 := szq E2
 have F2 := ((fsE E2 (cq1 (FS.n hdf0) rfl)).c (lookE E2 0 (es rfl l0_0))).c (lookE E2 1 (es rfl l1_0))
 clear E2 Y0 hdf0 l0_0 l1_0
 refine tk H1 ?_
 refine wp_seq_k fun K3 H3 => ?_
 refine region_in ?_
 refine W_v rfl rfl (V_mov rfl (fg0 F2)) ?_
 refine W_v rfl rfl (V_mul rfl (et rfl) rfl (by omega) (by omega)) ?_
 refine W_v rfl rfl (V_mov rfl (es2 rfl (fg1 F2))) ?_
 refine W_v rfl rfl (V_lenS rfl (et rfl) (sl_SlN h_cv.at) Try.underlying25) ?_
 refine W_v rfl rfl (V_rem rfl (es2 rfl (et rfl)) (et rfl) (by omega) (by omega) (wrap_mod (by omega) (by omega))) ?_
 refine W_v rfl rfl (V_asg rfl (et rfl)) ?_
 refine W_end (gen_Q fun A4 E4 => ?_)
 have Y4 := szq E4
 have F4 := fsE E4 (ck (cq5 F2 rfl) rfl rfl)
 clear E4 Y2 F2
 refine tk H3 ?_
 refine wp_seq_k fun K5 H5 => ?_
 refine wp_block ?_
 -- loop 2
 refine loopX (fun mz A' w' => SzN A' 28 ∧ A'.defers = [] ∧ (∃ (j : Nat), (mz = j0 - j) ∧ (j ≤ j0) ∧ (∀ i, i < j → ¬ cl c a i = a ∧ ¬ cl c a i = 0) ∧ (ps c.length a j < c.length) ∧ (EV A' (.tmp 5) = .int .i64 ((ps c.length a j : Nat) : Int)) ∧ (EV A' (.tmp 0) = EV A4 (.tmp 0)) ∧ (EV A' (.tmp 1) = EV A4 (.tmp 1)) ∧ (St w NoX [] w'))) (j0 - 0) ⟨Y4, F4.d, 0, rfl, (by omega), (fun i hi => by omega), (ps_lt (by omega) _ _), (((fg0 F4)).trans ((congrArg (Value.int .i64) (mod_ps0 (by omega))))), rfl, rfl, hS⟩ ?_
 clear hS
 rintro n6 A6 w6 ⟨Y6, hdf6, j, hm6, hj, hnz, hps, l5_6, u0_6, u1_6, S6⟩
 have l0_6 := u0_6.trans (fg2 F4)
 have l1_6 := u1_6.trans (fg1 F4)
 refine wp_seq_k fun K7 H7 => ?_
 refine wp_seq_k fun K8 H8 => ?_
 refine region_in ?_
 refine W_v rfl rfl (V_mov rfl l0_6) ?_
 refine W_v rfl rfl (V_mov rfl (es rfl l5_6)) ?_
 have k9 : (ps c.length a j) < c.length := by first | omega | (simp only [List.length_cons, List.length_nil]; omega) | (simp only [List.length_set]; omega) | decide
 obtain ⟨y9, hy9⟩ := get_some (xs := c) (k := (ps c.length a j)) k9
 obtain ⟨B9, O9, C9, hv9⟩ := (SlN.blk (sl_SlN h_cv.at) (by first | omega | (simp only [List.length_cons, List.length_nil]; omega) | (simp only [List.length_set]; omega) | decide))
 refine W_v rfl rfl (V_ixS (off := O9 + (ps c.length a j)) 1 ((ps c.length a j)) rfl (es rfl (et rfl)) (et rfl) hv9 (by omega) k9 Try.underlying25 (by kernel_rfl) (congrArg _ (Nat.mul_one _))) ?_
 refine W_r rfl rfl (VR_ldC rfl (et rfl) ((sl_SlN (S6.ro h_cv)).cell hv9 (map_get hy9)) Try.underlying3 rfl) ?_
 refine W_v rfl rfl (V_neq rfl (et rfl) rfl) ?_
 refine W_end (gen_Q fun A10 E10 => ?_)
 have Y10 := szq E10
 have F10 := (((fsE E10 (ck (cq4 (FS.n hdf6) rfl) rfl rfl)).c (lookE E10 0 (es5 rfl l0_6))).c (lookE E10 1 (es5 rfl l1_6))).c (lookE E10 5 (es5 rfl l5_6))
 clear E10 Y6 hdf6 l5_6 l0_6 l1_6
 refine tk H8 ?_
 refine cond_dec (fg3 F10) (fun c11 => ?_) (fun c11 => ?_)
 ·have hlt := lt_zero hj hz0 hy9 c11
  refine wp_skip ?_
  refine tk H7 ?_
  refine wp_block ?_
  refine wp_seq_k fun K12 H12 => ?_
  refine wp_seq_k fun K13 H13 => ?_
  refine region_in ?_
  refine W_v rfl rfl (V_mov rfl (fg2 F10)) ?_
  refine W_v rfl rfl (V_mov rfl (es rfl (fg0 F10))) ?_
  refine W_v rfl rfl (V_ixS (off := O9 + (ps c.length a j)) 1 ((ps c.length a j)) rfl (es rfl (et rfl)) (et rfl) hv9 (by omega) k9 Try.underlying25 (by kernel_rfl) (congrArg _ (Nat.mul_one _))) ?_
  refine W_r rfl rfl (VR_ldC rfl (et rfl) ((sl_SlN (S6.ro h_cv)).cell hv9 (map_get hy9)) Try.underlying3 rfl) ?_
  refine W_v rfl rfl (V_mov rfl (es4 rfl (fg1 F10))) ?_
  refine W_v rfl rfl (V_eql rfl (es rfl (et rfl)) (et rfl)) ?_
  refine W_end (gen_Q fun A15 E15 => ?_)
  have Y15 := szq E15
  have F15 := fsE E15 (ck (cq5 F10 rfl) rfl rfl)
  clear E15 Y10 F10
  refine tk H13 ?_
  refine cond_dec (fg0 F15) (fun c16 => ?_) (fun c16 => ?_)
  ·refine wp_seq_k fun K17 H17 => ?_
   refine region_in ?_
   refine W_v rfl rfl (V_mov rfl (fg1 F15)) ?_
   refine W_v rfl rfl (V_asg rfl (et rfl)) ?_
   refine W_end (gen_Q fun A18 E18 => ?_)
   have Y18 := szq E18
   have F18 := fsE E18 (ck (cq1 F15 rfl) rfl rfl)
   clear E18 Y15 F15
   refine tk H17 ?_
   refine wp_ret ?_
   refine then_ret ?_
   refine inb_ret ?_
   refine then_ret ?_
   refine inb_ret ?_
   refine then_ret ?_
   refine ret_in (results_1 Try.results62 (rv_tmp (fg0 F18))) F18.d ?_
   have e0 : fnd c a = ((ps c.length a j : Nat) : Int) := by exact fnd_y (by omega) hnz hy9 c16
   rw [e0]
   exact ⟨rfl, S6.fin0⟩
  refine wp_skip ?_
  refine tk H12 ?_
  refine region_in ?_
  refine W_v rfl rfl (V_mov rfl (fg1 F15)) ?_
  refine W_v rfl rfl (V_add rfl (et rfl) rfl (by omega) (by omega)) ?_
  refine W_v rfl rfl (V_mov rfl (es2 rfl (fg3 F15))) ?_
  refine W_v rfl rfl (V_lenS rfl (et rfl) (sl_SlN h_cv.at) Try.underlying25) ?_
  refine W_v rfl rfl (V_rem rfl (es2 rfl (et rfl)) (et rfl) (by omega) (by omega) (wrap_mod (by omega) (by omega))) ?_
  refine W_v rfl rfl (V_asg rfl (et rfl)) ?_
  refine W_end (gen_Q fun A19 E19 => ?_)
  have Y19 := szq E19
  have F19 := fsE E19 (ck (cq5 (fx1 F15) rfl) rfl rfl)
  clear E19 Y15 F15
  refine inb_n ?_
  refine then_n ⟨j0 - (j + 1), by simp only [hm6]; omega, Y19, F19.d, (j + 1), rfl, (by omega), (no2_step hnz hy9 c16 c11), (ps_lt (by omega) _ _), (((fg0 F19)).trans ((congrArg (Value.int .i64) (mod_psS _ _)))), (((fg3 F19)).trans (fg2 F4).symm), (((fg2 F19)).trans (fg1 F4).symm), S6⟩
 refine wp_exit ?_
 refine then_exit ?_
 refine then_exit ?_
 refine inb_hit ?_
 refine tk H5 ?_
 refine wp_seq_k fun K20 H20 => ?_
 refine region_in ?_
 refine W_v rfl rfl (V_asg rfl rfl) ?_
 refine W_end (gen_Q fun A21 E21 => ?_)
 have Y21 := szq E21
 have F21 := fsE E21 (ck F10 rfl rfl)
 clear E21 Y10 F10
 refine tk H20 ?_
 refine wp_ret ?_
 refine ret_in (results_1 Try.results62 (rv_tmp (fg0 F21))) F21.d ?_
 have e0 : fnd c a = (-1) := by exact fnd_z ha.1 (by omega) hnz hy9 c11
 rw [e0]
 exact ⟨rfl, S6.fin0⟩

set_option maxHeartbeats 4000000 in
theorem qput_c {cv : Value} {c : List Int} {a : Int} {w : World} (h_cv : Ro w NoX (il .i64 cv c)) (hp : P2 c.length) (ha : 1 ≤ a ∧ a ≤ 1600) (hf : adr c < c.length) :
  Calls Try.prog 91 #[cv, .int .i64 a] w fun e w' => ∃ v, e = .returned (v) ∧ St w NoX [io .i64 (v) (putT c a)] w' := by
 have hpb := hp.bd
 obtain ⟨j0, hj0, hpos, hp0, hput⟩ := putT_free (a := a) (free_of hf)
 refine calls_in 30 Try.func91 rfl rfl (by simp) (fun A0 Y0 hdf0 hargs => ?_)
 have l0_0 := hargs 0 (cv) rfl
 have l1_0 := hargs 1 (.int .i64 a) rfl
 clear hargs; replace Y0 : SzN A0 30 := ⟨Y0⟩
 have hS := St.nil w
 have bh_cv := SlN.le (sl_SlN h_cv.at)
 refine wp_seq_k fun K1 H1 => ?_
 refine region_in ?_
 refine W_v rfl rfl (V_asg rfl rfl) ?_
 refine W_end (gen_Q fun A2 E2 => ?_)
 have Y2 := szq E2
 have F2 := ((fsE E2 (cq1 (FS.n hdf0) rfl)).c (lookE E2 0 (es rfl l0_0))).c (lookE E2 1 (es rfl l1_0))
 clear E2 Y0 hdf0 l0_0 l1_0
 refine tk H1 ?_
 refine wp_seq_k fun K3 H3 => ?_
 refine region_in ?_
 refine W_litS (vs := []) (xs := []) 1 hS rfl rfl rfl (parts0) rfl Try.underlying25 (by kernel_rfl) (by decide) (by intro v hv; cases hv) (by rfl) (fun g4 w4 c4 hc4 S4 => ?_)
 replace hc4 : c4 = io .i64 (.slice (some ⟨g4, 0, none⟩) 0 0) [] := hc4
 replace S4 : St w NoX [c4] w4 := S4
 refine W_v rfl rfl (V_mov rfl (es rfl (fg1 F2))) ?_
 refine W_appS 1 0 S4 rfl hc4 rfl rfl rfl (es rfl (et rfl)) (et rfl) Try.underlying25 Try.underlying25 (z := .int .i64 0) (bytes := 8) (by kernel_rfl) rfl (by decide) (sl_SlN (S4.ro h_cv)) ones_i (by first | omega | (simp; done) | (simp; omega)) (by first | omega | (simp; done) | (simp; omega)) (fun v5 w5 c5 hc5 S5 => ?_)
 replace hc5 : c5 = io .i64 v5 c := hc5.trans (app_eq (by first | (simp; done) | (rw [List.take_of_length_le (l := List.drop _ _) (by rw [List.length_drop]; exact Nat.le_refl _)])))
 replace S5 : St w NoX [c5] w5 := S5
 refine W_v rfl rfl (V_asg rfl (et rfl)) ?_
 refine W_end (gen_Q fun A6 E6 => ?_)
 have Y6 := szq E6
 have F6 := fsE E6 (ck (cq3 F2 rfl) rfl rfl)
 clear E6 Y2 F2
 refine tk H3 ?_
 refine wp_seq_k fun K7 H7 => ?_
 refine region_in ?_
 refine W_v rfl rfl (V_mov rfl (fg1 F6)) ?_
 refine W_v rfl rfl (V_mul rfl (et rfl) rfl (by omega) (by omega)) ?_
 refine W_v rfl rfl (V_mov rfl (es2 rfl (fg0 F6))) ?_
 refine W_v rfl rfl (V_lenS rfl (et rfl) (ow_at (S5.chq 0 rfl hc5)) Try.underlying25) ?_
 refine W_v rfl rfl (V_rem rfl (es2 rfl (et rfl)) (et rfl) (by omega) (by omega) (wrap_mod (by omega) (by omega))) ?_
 refine W_v rfl rfl (V_asg rfl (et rfl)) ?_
 refine W_end (gen_Q fun A8 E8 => ?_)
 have Y8 := szq E8
 have F8 := fsE E8 (ck (cq5 F6 rfl) rfl rfl)
 clear E8 Y6 F6
 refine tk H7 ?_
 refine wp_seq_k fun K9 H9 => ?_
 refine wp_block ?_
 -- loop 3
 refine loopX (fun mz A' w' => SzN A' 30 ∧ A'.defers = [] ∧ (∃ (j : Nat), (mz = j0 - j) ∧ (j ≤ j0) ∧ (ps c.length a j < c.length) ∧ (EV A' (.tmp 6) = .int .i64 ((ps c.length a j : Nat) : Int)) ∧ (EV A' (.tmp 1) = EV A8 (.tmp 1)) ∧ (EV A' (.tmp 5) = EV A8 (.tmp 5)) ∧ (St w NoX [io .i64 v5 c] w'))) (j0 - 0) ⟨Y8, F8.d, 0, rfl, (by omega), (ps_lt (by omega) _ _), (((fg0 F8)).trans ((congrArg (Value.int .i64) (mod_ps0 (by omega))))), rfl, rfl, (by subst hc5; exact S5)⟩ ?_
 clear S5 hc5
 rintro n10 A10 w10 ⟨Y10, hdf10, j, hm10, hj, hps, l6_10, u1_10, u5_10, S10⟩
 have l1_10 := u1_10.trans (fg2 F8)
 have l5_10 := u5_10.trans (fg1 F8)
 obtain ⟨c5_10, hc5_10, S10⟩ := gen1 S10
 refine wp_seq_k fun K11 H11 => ?_
 refine wp_seq_k fun K12 H12 => ?_
 refine region_in ?_
 refine W_v rfl rfl (V_mov rfl l5_10) ?_
 refine W_v rfl rfl (V_mov rfl (es rfl l6_10)) ?_
 have k13 : (ps c.length a j) < c.length := by first | omega | (simp only [List.length_cons, List.length_nil]; omega) | (simp only [List.length_set]; omega) | decide
 obtain ⟨y13, hy13⟩ := get_some (xs := c) (k := (ps c.length a j)) k13
 obtain ⟨B13, O13, C13, hv13⟩ := (SlN.blk (ow_at (S10.chq 0 rfl hc5_10)) (by first | omega | (simp only [List.length_cons, List.length_nil]; omega) | (simp only [List.length_set]; omega) | decide))
 refine W_v rfl rfl (V_ixS (off := O13 + (ps c.length a j)) 1 ((ps c.length a j)) rfl (es rfl (et rfl)) (et rfl) hv13 (by omega) k13 Try.underlying25 (by kernel_rfl) (congrArg _ (Nat.mul_one _))) ?_
 refine W_r rfl rfl (VR_ldC rfl (et rfl) ((ow_at (S10.chq 0 rfl hc5_10)).cell hv13 (map_get hy13)) Try.underlying3 rfl) ?_
 refine W_v rfl rfl (V_gtr rfl (et rfl) rfl) ?_
 refine W_end (gen_Q fun A14 E14 => ?_)
 have Y14 := szq E14
 have F14 := (((fsE E14 (ck (cq4 (FS.n hdf10) rfl) rfl rfl)).c (lookE E14 1 (es5 rfl l1_10))).c (lookE E14 5 (es5 rfl l5_10))).c (lookE E14 6 (es5 rfl l6_10))
 clear E14 Y10 hdf10 l6_10 l1_10 l5_10
 refine tk H12 ?_
 refine cond_dec (fg3 F14) (fun c15 => ?_) (fun c15 => ?_)
 ·have hlt := lt_free hj hp0 hy13 c15
  refine wp_skip ?_
  refine tk H11 ?_
  refine wp_block ?_
  refine region_in ?_
  refine W_v rfl rfl (V_mov rfl (fg0 F14)) ?_
  refine W_v rfl rfl (V_add rfl (et rfl) rfl (by omega) (by omega)) ?_
  refine W_v rfl rfl (V_mov rfl (es2 rfl (fg1 F14))) ?_
  refine W_v rfl rfl (V_lenS rfl (et rfl) (ow_at (S10.chq 0 rfl hc5_10)) Try.underlying25) ?_
  refine W_v rfl rfl (V_rem rfl (es2 rfl (et rfl)) (et rfl) (by omega) (by omega) (wrap_mod (by omega) (by omega))) ?_
  refine W_v rfl rfl (V_asg rfl (et rfl)) ?_
  refine W_end (gen_Q fun A16 E16 => ?_)
  have Y16 := szq E16
  have F16 := fsE E16 (ck (cq5 (fx0 F14) rfl) rfl rfl)
  clear E16 Y14 F14
  refine inb_n ?_
  refine then_n ⟨j0 - (j + 1), by simp only [hm10]; omega, Y16, F16.d, (j + 1), rfl, (by omega), (ps_lt (by omega) _ _), (((fg0 F16)).trans ((congrArg (Value.int .i64) (mod_psS _ _)))), (((fg2 F16)).trans (fg2 F8).symm), (((fg1 F16)).trans (fg1 F8).symm), (by subst hc5_10; exact S10)⟩
 refine wp_exit ?_
 refine then_exit ?_
 refine then_exit ?_
 refine inb_hit ?_
 refine tk H9 ?_
 refine wp_seq_k fun K17 H17 => ?_
 refine region_in ?_
 refine W_v rfl rfl (V_mov rfl (fg1 F14)) ?_
 refine W_v rfl rfl (V_mov rfl (es rfl (fg0 F14))) ?_
 refine W_v rfl rfl (V_mov rfl (es2 rfl (fg2 F14))) ?_
 refine W_v rfl rfl (V_ixS (off := O13 + (ps c.length a j)) 1 ((ps c.length a j)) rfl (es2 rfl (et rfl)) (es rfl (et rfl)) hv13 (by omega) k13 Try.underlying25 (by kernel_rfl) (congrArg _ (Nat.mul_one _))) ?_
 refine W_stE 0 S10 rfl hc5_10 hv13 rfl rfl rfl (et rfl) (es rfl (et rfl)) (by rfl) rfl (by first | (simp only [List.length_map]; omega) | omega) (by kernel_rfl) (fun w19 c19 hc19 S19 => ?_)
 replace hc19 : c19 = io .i64 v5 (c.set (ps c.length a j) a) := hc19.trans (by simp [io, bo, List.map_set] <;> rfl)
 replace S19 : St w NoX [c19] w19 := S19
 refine W_end (gen_Q fun A20 E20 => ?_)
 have Y20 := szq E20
 have F20 := fsE E20 (cq4 F14 rfl)
 clear E20 Y14 F14
 refine tk H17 ?_
 refine wp_seq_k fun K21 H21 => ?_
 refine region_in ?_
 refine W_v rfl rfl (V_mov rfl (fg1 F20)) ?_
 refine W_v rfl rfl (V_asg rfl (et rfl)) ?_
 refine W_end (gen_Q fun A22 E22 => ?_)
 have Y22 := szq E22
 have F22 := fsE E22 (ck (cq1 F20 rfl) rfl rfl)
 clear E22 Y20 F20
 refine tk H21 ?_
 refine wp_ret ?_
 refine ret_in (results_1 Try.results91 (rv_tmp (fg0 F22))) F22.d ?_
 obtain rfl : j = j0 := eq_free hj hpos hy13 c15
 exact ⟨_, rfl, (S19.fin1 0 rfl (hc19.trans (congrArg (io .i64 _) hput.symm)))⟩

set_option maxHeartbeats 4000000 in
theorem qsr_c {cv : Value} {c : List Int} {w : World} (h_cv : Ro w NoX (il .i64 cv c)) (hr : Rng c) :
  Calls Try.prog 92 #[cv] w fun e w' => ∃ v, e = .returned (v) ∧ St w NoX [io .i64 (v) (tgK c 1600)] w' := by
 refine calls_in 38 Try.func92 rfl rfl (by simp) (fun A0 Y0 hdf0 hargs => ?_)
 have l0_0 := hargs 0 (cv) rfl
 clear hargs; replace Y0 : SzN A0 38 := ⟨Y0⟩
 have hS := St.nil w
 have bh_cv := SlN.le (sl_SlN h_cv.at)
 refine wp_seq_k fun K1 H1 => ?_
 refine region_in ?_
 refine W_v rfl rfl (V_asg rfl rfl) ?_
 refine W_end (gen_Q fun A2 E2 => ?_)
 have Y2 := szq E2
 have F2 := (fsE E2 (cq1 (FS.n hdf0) rfl)).c (lookE E2 0 (es rfl l0_0))
 clear E2 Y0 hdf0 l0_0
 refine tk H1 ?_
 refine wp_seq_k fun K3 H3 => ?_
 refine region_in ?_
 refine W_mkS (z := .bool false) (bytes := 1) 1601 hS rfl rfl rfl rfl rfl (by omega) Try.underlying136 (by kernel_rfl) (by omega) rfl (fun v4 w4 c4 hc4 S4 => ?_)
 replace hc4 : c4 = bo v4 (List.replicate 1601 false) := hc4.trans (by simp only [io, bo, List.map_replicate, List.length_replicate])
 replace S4 : St w NoX [c4] w4 := S4
 refine W_v rfl rfl (V_asg rfl (et rfl)) ?_
 refine W_end (gen_Q fun A5 E5 => ?_)
 have Y5 := szq E5
 have F5 := fsE E5 (ck (cq1 F2 rfl) rfl rfl)
 clear E5 Y2 F2
 refine tk H3 ?_
 refine wp_seq_k fun K6 H6 => ?_
 refine wp_seq_k fun K7 H7 => ?_
 refine region_in ?_
 refine W_v rfl rfl (V_asg rfl rfl) ?_
 refine W_end (gen_Q fun A8 E8 => ?_)
 have Y8 := szq E8
 have F8 := fsE E8 (ck F5 rfl rfl)
 clear E8 Y5 F5
 refine tk H7 ?_
 refine wp_block ?_
 -- loop 3
 refine loopX (fun mz A' w' => SzN A' 38 ∧ A'.defers = [] ∧ (∃ (k : Nat), (mz = c.length - k) ∧ (k ≤ c.length) ∧ ((mtS (c.take k)).length = 1601) ∧ (EV A' (.tmp 4) = .int .i64 (k : Int)) ∧ (EV A' (.tmp 0) = EV A8 (.tmp 0)) ∧ (EV A' (.tmp 3) = EV A8 (.tmp 3)) ∧ (St w NoX [bo v4 (mtS (c.take k))] w'))) (c.length - 0) ⟨Y8, F8.d, 0, rfl, (by omega), (mtS_len _), (((fg0 F8)).trans (by first | rfl | (simp; done) | (congr 1; omega))), rfl, rfl, (by have q0 : c4 = bo v4 (mtS (c.take 0)) := hc4.trans ((congrArg (bo _) mtS_nil)); subst q0; exact S4)⟩ ?_
 clear S4 hc4
 rintro n9 A9 w9 ⟨Y9, hdf9, k, hm9, hk, hml, l4_9, u0_9, u3_9, S9⟩
 have l0_9 := u0_9.trans (fg2 F8)
 have l3_9 := u3_9.trans (fg1 F8)
 obtain ⟨c4_9, hc4_9, S9⟩ := gen1 S9
 refine wp_seq_k fun K10 H10 => ?_
 refine wp_seq_k fun K11 H11 => ?_
 refine region_in ?_
 refine W_v rfl rfl (V_mov rfl l4_9) ?_
 refine W_v rfl rfl (V_mov rfl (es rfl l0_9)) ?_
 refine W_v rfl rfl (V_lenS rfl (et rfl) (sl_SlN h_cv.at) Try.underlying25) ?_
 refine W_v rfl rfl (V_lss rfl (es2 rfl (et rfl)) (et rfl)) ?_
 refine W_end (gen_Q fun A12 E12 => ?_)
 have Y12 := szq E12
 have F12 := (((fsE E12 (ck (cq3 (FS.n hdf9) rfl) rfl rfl)).c (lookE E12 0 (es4 rfl l0_9))).c (lookE E12 3 (es4 rfl l3_9))).c (lookE E12 4 (es4 rfl l4_9))
 clear E12 Y9 hdf9 l4_9 l0_9 l3_9
 refine tk H11 ?_
 refine cond_dec (fg3 F12) (fun c13 => ?_) (fun c13 => ?_)
 ·refine wp_skip ?_
  refine tk H10 ?_
  refine wp_seq_k fun K14 H14 => ?_
  refine wp_block ?_
  refine wp_seq_k fun K15 H15 => ?_
  refine region_in ?_
  refine W_v rfl rfl (V_mov rfl (fg2 F12)) ?_
  refine W_v rfl rfl (V_mov rfl (es rfl (fg0 F12))) ?_
  have k16 : k < c.length := by first | omega | (simp only [List.length_cons, List.length_nil]; omega) | (simp only [List.length_set]; omega) | decide
  obtain ⟨y16, hy16⟩ := get_some (xs := c) (k := k) k16
  have hry16 := hr y16 (List.mem_of_getElem? hy16)
  obtain ⟨B16, O16, C16, hv16⟩ := (SlN.blk (sl_SlN h_cv.at) (by first | omega | (simp only [List.length_cons, List.length_nil]; omega) | (simp only [List.length_set]; omega) | decide))
  refine W_v rfl rfl (V_ixS (off := O16 + k) 1 (k) rfl (es rfl (et rfl)) (et rfl) hv16 (by omega) k16 Try.underlying25 (by kernel_rfl) (congrArg _ (Nat.mul_one _))) ?_
  refine W_r rfl rfl (VR_ldC rfl (et rfl) ((sl_SlN (S9.ro h_cv)).cell hv16 (map_get hy16)) Try.underlying3 rfl) ?_
  refine W_v rfl rfl (V_gtr rfl (et rfl) rfl) ?_
  refine W_end (gen_Q fun A17 E17 => ?_)
  have Y17 := szq E17
  have F17 := fsE E17 (ck (cq4 F12 rfl) rfl rfl)
  clear E17 Y12 F12
  refine tk H15 ?_
  refine cond_dec (fg0 F17) (fun c18 => ?_) (fun c18 => ?_)
  ·refine region_in ?_
   refine W_v rfl rfl (V_mov rfl (fg2 F17)) ?_
   refine W_v rfl rfl (V_mov rfl (es rfl (fg3 F17))) ?_
   refine W_v rfl rfl (V_mov rfl (es2 rfl (fg1 F17))) ?_
   refine W_v rfl rfl (V_ixS (off := O16 + k) 1 (k) rfl (es rfl (et rfl)) (et rfl) hv16 (by omega) k16 Try.underlying25 (by kernel_rfl) (congrArg _ (Nat.mul_one _))) ?_
   refine W_r rfl rfl (VR_ldC rfl (et rfl) ((sl_SlN (S9.ro h_cv)).cell hv16 (map_get hy16)) Try.underlying3 rfl) ?_
   have k20 : y16.toNat < (mtS (c.take k)).length := by first | omega | (simp only [List.length_cons, List.length_nil]; omega) | (simp only [List.length_set]; omega) | decide
   obtain ⟨y20, hy20⟩ := get_some (xs := (mtS (c.take k))) (k := y16.toNat) k20
   obtain ⟨B20, O20, C20, hv20⟩ := (SlN.blk (ow_at (S9.chq 0 rfl hc4_9)) (by first | omega | (simp only [List.length_cons, List.length_nil]; omega) | (simp only [List.length_set]; omega) | decide))
   refine W_v rfl rfl (V_ixS (off := O20 + y16.toNat) 1 (y16.toNat) rfl (es4 rfl (et rfl)) (et rfl) hv20 (by omega) k20 Try.underlying136 (by kernel_rfl) (congrArg _ (Nat.mul_one _))) ?_
   refine W_stE 0 S9 rfl hc4_9 hv20 rfl rfl rfl (et rfl) rfl (by rfl) rfl (by first | (simp only [List.length_map]; omega) | omega) (by kernel_rfl) (fun w21 c21 hc21 S21 => ?_)
   replace hc21 : c21 = bo v4 ((mtS (c.take k)).set y16.toNat true) := hc21.trans (by simp [io, bo, List.map_set] <;> rfl)
   replace S21 : St w NoX [c21] w21 := S21
   refine W_end (gen_Q fun A22 E22 => ?_)
   have Y22 := szq E22
   have F22 := fsE E22 (cq6 F17 rfl)
   clear E22 Y17 F17
   refine inb_n ?_
   refine tk H14 ?_
   refine region_in ?_
   refine W_v rfl rfl (V_mov rfl (fg1 F22)) ?_
   refine W_v rfl rfl (V_add rfl (et rfl) rfl (by omega) (by omega)) ?_
   refine W_v rfl rfl (V_asg rfl (et rfl)) ?_
   refine W_end (gen_Q fun A23 E23 => ?_)
   have Y23 := szq E23
   have F23 := fsE E23 (ck (cq2 (fx1 F22) rfl) rfl rfl)
   clear E23 Y22 F22
   refine then_n ⟨c.length - (k + 1), by simp only [hm9]; omega, Y23, F23.d, (k + 1), rfl, (by omega), (mtS_len _), (((fg0 F23)).trans (by first | rfl | (simp; done) | (congr 1; omega))), (((fg3 F23)).trans (fg2 F8).symm), (((fg2 F23)).trans (fg1 F8).symm), (by have q0 : c21 = bo v4 (mtS (c.take (k + 1))) := hc21.trans ((congrArg (bo _) (mtS_set hy16 (by omega)))); subst q0; exact S21)⟩
  refine wp_skip ?_
  refine inb_n ?_
  refine tk H14 ?_
  refine region_in ?_
  refine W_v rfl rfl (V_mov rfl (fg1 F17)) ?_
  refine W_v rfl rfl (V_add rfl (et rfl) rfl (by omega) (by omega)) ?_
  refine W_v rfl rfl (V_asg rfl (et rfl)) ?_
  refine W_end (gen_Q fun A24 E24 => ?_)
  have Y24 := szq E24
  have F24 := fsE E24 (ck (cq2 (fx1 F17) rfl) rfl rfl)
  clear E24 Y17 F17
  refine then_n ⟨c.length - (k + 1), by simp only [hm9]; omega, Y24, F24.d, (k + 1), rfl, (by omega), (mtS_len _), (((fg0 F24)).trans (by first | rfl | (simp; done) | (congr 1; omega))), (((fg3 F24)).trans (fg2 F8).symm), (((fg2 F24)).trans (fg1 F8).symm), (by have q0 : c4_9 = bo v4 (mtS (c.take (k + 1))) := hc4_9.trans ((congrArg (bo _) (mtS_skip hy16 c18))); subst q0; exact S9)⟩
 have hTK : c.take k = c := List.take_of_length_le (by omega)
 refine wp_exit ?_
 refine then_exit ?_
 refine then_exit ?_
 refine inb_hit ?_
 refine tk H6 ?_
 refine wp_seq_k fun K25 H25 => ?_
 refine region_in ?_
 refine W_v rfl rfl (V_asg rfl rfl) ?_
 refine W_end (gen_Q fun A26 E26 => ?_)
 have Y26 := szq E26
 have F26 := fsE E26 (ck F12 rfl rfl)
 clear E26 Y12 F12
 refine tk H25 ?_
 refine wp_seq_k fun K27 H27 => ?_
 refine wp_seq_k fun K28 H28 => ?_
 refine region_in ?_
 refine W_v rfl rfl (V_asg rfl rfl) ?_
 refine W_end (gen_Q fun A29 E29 => ?_)
 have Y29 := szq E29
 have F29 := fsE E29 (ck F26 rfl rfl)
 clear E29 Y26 F26
 refine tk H28 ?_
 refine wp_block ?_
 obtain ⟨c30, hc30, S30⟩ := S9.pnil (s := 1)
 -- loop 9
 have htk := tgK_len c
 refine loopX (fun mz A' w' => SzN A' 38 ∧ A'.defers = [] ∧ (∃ (k2 : Nat) (bv : Value), (mz = 1600 - k2) ∧ (k2 ≤ 1600) ∧ (EV A' (.tmp 6) = .int .i64 ((k2 : Int) + 1)) ∧ (EV A' (.tmp 5) = bv) ∧ (EV A' (.tmp 3) = EV A29 (.tmp 3)) ∧ (St w NoX [io .i64 bv (tgK c k2), bo v4 (mtS (c.take k))] w'))) (1600 - 0) ⟨Y29, F29.d, 0, (.slice none 0 0), rfl, (by omega), (((fg0 F29)).trans (by first | rfl | (simp; done) | (congr 1; omega))), (((fg1 F29)).trans (by first | rfl | (simp; done) | (congr 1; omega))), rfl, (by have q0 : c30 = io .i64 (.slice none 0 0) (tgK c 0) := hc30.trans (rfl); have q1 := hc4_9; subst q0 q1; exact S30)⟩ ?_
 clear S30 hc30 hc4_9
 rintro n31 A31 w31 ⟨Y31, hdf31, k2, bv, hm31, hk2, l6_31, l5_31, u3_31, S31⟩
 have l3_31 := u3_31.trans (fg3 F29)
 obtain ⟨c30_31, c4_31, hc30_31, hc4_31, S31⟩ := gen2 S31
 refine wp_seq_k fun K32 H32 => ?_
 refine wp_seq_k fun K33 H33 => ?_
 refine region_in ?_
 refine W_v rfl rfl (V_mov rfl l6_31) ?_
 refine W_v rfl rfl (V_leq rfl (et rfl) rfl) ?_
 refine W_end (gen_Q fun A34 E34 => ?_)
 have Y34 := szq E34
 have F34 := (((fsE E34 (ck (cq1 (FS.n hdf31) rfl) rfl rfl)).c (lookE E34 3 (es2 rfl l3_31))).c (lookE E34 5 (es2 rfl l5_31))).c (lookE E34 6 (es2 rfl l6_31))
 clear E34 Y31 hdf31 l6_31 l5_31 l3_31
 refine tk H33 ?_
 refine cond_dec (fg3 F34) (fun c35 => ?_) (fun c35 => ?_)
 ·refine wp_skip ?_
  refine tk H32 ?_
  refine wp_seq_k fun K36 H36 => ?_
  refine wp_block ?_
  refine wp_seq_k fun K37 H37 => ?_
  refine region_in ?_
  refine W_v rfl rfl (V_mov rfl (fg2 F34)) ?_
  refine W_v rfl rfl (V_mov rfl (es rfl (fg0 F34))) ?_
  have k38 : (((k2 : Int) + 1)).toNat < (mtS (c.take k)).length := by first | omega | (simp only [List.length_cons, List.length_nil]; omega) | (simp only [List.length_set]; omega) | decide
  obtain ⟨y38, hy38⟩ := get_some (xs := (mtS (c.take k))) (k := (((k2 : Int) + 1)).toNat) k38
  obtain ⟨B38, O38, C38, hv38⟩ := (SlN.blk (ow_at (S31.chq 1 rfl hc4_31)) (by first | omega | (simp only [List.length_cons, List.length_nil]; omega) | (simp only [List.length_set]; omega) | decide))
  refine W_v rfl rfl (V_ixS (off := O38 + ((((k2 : Int) + 1)).toNat)) 1 ((((k2 : Int) + 1)).toNat) rfl (es rfl (et rfl)) (et rfl) hv38 (by omega) k38 Try.underlying136 (by kernel_rfl) (congrArg _ (Nat.mul_one _))) ?_
  refine W_r rfl rfl (VR_ldC rfl (et rfl) ((ow_at (S31.chq 1 rfl hc4_31)).cell hv38 (map_get hy38)) Try.underlying4 rfl) ?_
  refine W_end (gen_Q fun A39 E39 => ?_)
  have Y39 := szq E39
  have F39 := fsE E39 (ck (cq3 F34 rfl) rfl rfl)
  clear E39 Y34 F34
  refine tk H37 ?_
  refine cond_b (fg0 F39) (fun c40 => ?_) (fun c40 => ?_)
  ·refine region_in ?_
   refine W_v rfl rfl (V_mov rfl (fg2 F39)) ?_
   refine W_v rfl rfl (V_mov rfl (es rfl (fg1 F39))) ?_
   have hll41 : [((k2 : Int) + 1)].length = 1 := rfl
   refine W_litS (vs := [.int .i64 (((k2 : Int) + 1))]) (xs := ([((k2 : Int) + 1)].map (Value.int .i64))) 1 S31 rfl rfl rfl (parts1 (et rfl)) rfl Try.underlying25 (by kernel_rfl) (by decide) (by intro v hv; simp only [List.mem_cons, List.not_mem_nil, or_false] at hv; rcases hv with rfl <;> rfl) (by rfl) (fun g41 w41 c41 hc41 S41 => ?_)
   replace hc41 : c41 = io .i64 (.slice (some ⟨g41, 0, none⟩) 1 1) [((k2 : Int) + 1)] := hc41
   replace S41 : St w NoX [c41, c30_31, c4_31] w41 := S41
   refine W_appS 1 1 S41 rfl hc30_31 rfl rfl rfl (es2 rfl (et rfl)) (et rfl) Try.underlying25 Try.underlying25 (z := .int .i64 0) (bytes := 8) (by kernel_rfl) rfl (by decide) (ow_at (S41.chq 0 rfl hc41)) ones_i (by have := tgK_len c k2; simp; omega) (by have := tgK_len c k2; simp; omega) (fun v42 w42 c42 hc42 S42 => ?_)
   replace hc42 : c42 = io .i64 v42 ((tgK c k2) ++ [((k2 : Int) + 1)]) := hc42.trans (app_eq (by first | (simp; done) | (rw [List.take_of_length_le (l := List.drop _ _) (by rw [List.length_drop]; exact Nat.le_refl _)])))
   replace S42 : St w NoX [c41, c42, c4_31] w42 := S42
   refine W_v rfl rfl (V_asg rfl (et rfl)) ?_
   refine W_end (gen_Q fun A43 E43 => ?_)
   have Y43 := szq E43
   have F43 := fsE E43 (ck (cq4 (fx2 F39) rfl) rfl rfl)
   clear E43 Y39 F39
   have S44 : St w NoX [c42, c4_31] w42 := S42.sel [1, 2] (by decide) rfl
   refine inb_n ?_
   refine tk H36 ?_
   refine region_in ?_
   refine W_v rfl rfl (V_mov rfl (fg2 F43)) ?_
   refine W_v rfl rfl (V_add rfl (et rfl) rfl (by omega) (by omega)) ?_
   refine W_v rfl rfl (V_asg rfl (et rfl)) ?_
   refine W_end (gen_Q fun A45 E45 => ?_)
   have Y45 := szq E45
   have F45 := fsE E45 (ck (cq2 (fx2 F43) rfl) rfl rfl)
   clear E45 Y43 F43
   refine then_n ⟨1600 - (k2 + 1), by simp only [hm31]; omega, Y45, F45.d, (k2 + 1), v42, rfl, (by omega), (((fg0 F45)).trans (by first | rfl | (simp; done) | (congr 1; omega))), (((fg1 F45)).trans (by first | rfl | (simp; done) | (congr 1; omega))), (((fg3 F45)).trans (fg3 F29).symm), (by have q0 : c42 = io .i64 v42 (tgK c (k2 + 1)) := hc42.trans ((congrArg (io .i64 _) (tgK_in (tg_T rfl (by omega) (hTK ▸ hy38) c40)))); have q1 := hc4_31; subst q0 q1; exact S44)⟩
  refine wp_skip ?_
  refine inb_n ?_
  refine tk H36 ?_
  refine region_in ?_
  refine W_v rfl rfl (V_mov rfl (fg1 F39)) ?_
  refine W_v rfl rfl (V_add rfl (et rfl) rfl (by omega) (by omega)) ?_
  refine W_v rfl rfl (V_asg rfl (et rfl)) ?_
  refine W_end (gen_Q fun A46 E46 => ?_)
  have Y46 := szq E46
  have F46 := fsE E46 (ck (cq2 (fx1 F39) rfl) rfl rfl)
  clear E46 Y39 F39
  refine then_n ⟨1600 - (k2 + 1), by simp only [hm31]; omega, Y46, F46.d, (k2 + 1), bv, rfl, (by omega), (((fg0 F46)).trans (by first | rfl | (simp; done) | (congr 1; omega))), (((fg2 F46)).trans (by first | rfl | (simp; done) | (congr 1; omega))), (((fg3 F46)).trans (fg3 F29).symm), (by have q0 : c30_31 = io .i64 bv (tgK c (k2 + 1)) := hc30_31.trans ((congrArg (io .i64 _) (tgK_out (tg_F rfl (by omega) (hTK ▸ hy38) c40)))); have q1 := hc4_31; subst q0 q1; exact S31)⟩
 refine wp_exit ?_
 refine then_exit ?_
 refine then_exit ?_
 refine inb_hit ?_
 refine tk H27 ?_
 refine wp_seq_k fun K47 H47 => ?_
 refine region_in ?_
 refine W_v rfl rfl (V_mov rfl (fg1 F34)) ?_
 refine W_v rfl rfl (V_asg rfl (et rfl)) ?_
 refine W_end (gen_Q fun A48 E48 => ?_)
 have Y48 := szq E48
 have F48 := fsE E48 (ck (cq1 F34 rfl) rfl rfl)
 clear E48 Y34 F34
 have S49 : St w NoX [c30_31] w31 := S31.sel [0] (by decide) rfl
 refine tk H47 ?_
 refine wp_ret ?_
 refine ret_in (results_1 Try.results92 (rv_tmp (fg0 F48))) F48.d ?_
 have hk3 : k2 = 1600 := by omega
 exact ⟨_, rfl, (S49.fin1 0 rfl (hc30_31.trans (congrArg (io .i64 _) (by rw [hk3]))))⟩

set_option maxHeartbeats 4000000 in
theorem qadd_c {cv : Value} {c : List Int} {a : Int} {w : World} (h_cv : Ro w NoX (il .i64 cv c)) (hG : Gd c) (ha : 1 ≤ a ∧ a ≤ 1600) (hn : a ∉ c) :
  Calls Try.prog 64 #[cv, .int .i64 a] w fun e w' => ∃ v, e = .returned (v) ∧ St w NoX [io .i64 (v) (addT c a)] w' := by
 have hpb := hG.bd
 have hpl := putT_len c a
 obtain ⟨p1, p2, p3, p4, p5⟩ := put_good hG.toGw ha hn hpb.2.2.2
 have hfl := hG.full
 have hul := usd_le (putT c a)
 have hau := adr_usd (putT c a)
 obtain ⟨n1, n2, n3, n4⟩ := adN_bd p1 (by rw [hpl]; exact hG.p2) (by omega)
 have n1b := n1.bd
 have hbp := fun k h => bld_part (c := putT c a) (n := adN (putT c a)) (k := k) n2 h
 have htl := tgK_len (putT c a) 1600
 refine calls_in 54 Try.func64 rfl rfl (by simp) (fun A0 Y0 hdf0 hargs => ?_)
 have l0_0 := hargs 0 (cv) rfl
 have l1_0 := hargs 1 (.int .i64 a) rfl
 clear hargs; replace Y0 : SzN A0 54 := ⟨Y0⟩
 have hS := St.nil w
 have bh_cv := SlN.le (sl_SlN h_cv.at)
 refine wp_seq_k fun K1 H1 => ?_
 refine region_in ?_
 refine W_v rfl rfl (V_asg rfl rfl) ?_
 refine W_end (gen_Q fun A2 E2 => ?_)
 have Y2 := szq E2
 have F2 := ((fsE E2 (cq1 (FS.n hdf0) rfl)).c (lookE E2 0 (es rfl l0_0))).c (lookE E2 1 (es rfl l1_0))
 clear E2 Y0 hdf0 l0_0 l1_0
 refine tk H1 ?_
 refine wp_seq_k fun K3 H3 => ?_
 refine region_in ?_
 refine W_v rfl rfl (V_mov rfl (fg1 F2)) ?_
 refine W_v rfl rfl (V_mov rfl (es rfl (fg0 F2))) ?_
 refine W_call rfl rfl rfl Try.func91 (by kernel_rfl) rfl (args2 (es rfl (et rfl)) (et rfl)) (qput_c (a := a) (hS.roC h_cv) (by first | with_reducible assumption | with_reducible exact hG.p2 | with_reducible exact hG2.p2 | (rw [hbl]; exact n1) | (simp only [List.length_set, List.length_replicate] <;> assumption)) (by first | omega | with_reducible assumption) (by first | omega | with_reducible assumption)) ?_
 rintro _ w4 ⟨v_4, rfl, hP4⟩
 refine ⟨_, rfl, ?_⟩
 obtain ⟨c_4, hc_4, hP4⟩ := gen1 hP4
 have S4 := hS.join hP4
 replace S4 : St w NoX [c_4] w4 := S4
 refine W_v rfl rfl (V_asg rfl (et rfl)) ?_
 refine W_end (gen_Q fun A5 E5 => ?_)
 have Y5 := szq E5
 have F5 := fsE E5 (ck (cq3 F2 rfl) rfl rfl)
 clear E5 Y2 F2
 refine tk H3 ?_
 refine wp_seq_k fun K6 H6 => ?_
 refine region_in ?_
 refine W_v rfl rfl (V_mov rfl (fg0 F5)) ?_
 refine W_call rfl rfl rfl Try.func85 (by kernel_rfl) rfl (args1 (et rfl)) (qcnt_c (S4.chC 0 rfl hc_4).own ) ?_
 rintro _ w7 ⟨rfl, hP7⟩
 refine ⟨_, rfl, ?_⟩
 have S7 := S4.join hP7
 replace S7 : St w NoX [c_4] w7 := S7
 refine W_v rfl rfl (V_mov rfl (et rfl)) ?_
 refine W_v rfl rfl (V_ext (v := .int .i64 (((usd (putT c a) : Nat) : Int))) rfl (et rfl) rfl) ?_
 refine W_v rfl rfl (V_ext (v := .int .i64 (((adr (putT c a) : Nat) : Int))) rfl (es rfl (et rfl)) rfl) ?_
 refine W_v rfl rfl (V_asg rfl (es rfl (et rfl))) ?_
 refine W_v rfl rfl (V_asg rfl (es rfl (et rfl))) ?_
 refine W_end (gen_Q fun A8 E8 => ?_)
 have Y8 := szq E8
 have F8 := fsE E8 (ck (ck (cq5 F5 rfl) rfl rfl) rfl rfl)
 clear E8 Y5 F5
 refine tk H6 ?_
 refine wp_seq_k fun K9 H9 => ?_
 refine wp_seq_k fun K10 H10 => ?_
 refine region_in ?_
 refine W_v rfl rfl (V_mov rfl (fg1 F8)) ?_
 refine W_v rfl rfl (V_mul rfl rfl (et rfl) (by omega) (by omega)) ?_
 refine W_v rfl rfl (V_mov rfl (es2 rfl (fg2 F8))) ?_
 refine W_v rfl rfl (V_lenS rfl (et rfl) (ow_at (S7.chq 0 rfl hc_4)) Try.underlying25) ?_
 refine W_v rfl rfl (V_mul rfl rfl (et rfl) (by omega) (by omega)) ?_
 refine W_v rfl rfl (V_leq rfl (es3 rfl (et rfl)) (et rfl)) ?_
 refine W_end (gen_Q fun A11 E11 => ?_)
 have Y11 := szq E11
 have F11 := fsE E11 (ck (cq5 F8 rfl) rfl rfl)
 clear E11 Y8 F8
 refine tk H10 ?_
 refine cond_dec (fg0 F11) (fun c12 => ?_) (fun c12 => ?_)
 ·refine wp_seq_k fun K13 H13 => ?_
  refine region_in ?_
  refine W_v rfl rfl (V_mov rfl (fg3 F11)) ?_
  refine W_v rfl rfl (V_asg rfl (et rfl)) ?_
  refine W_end (gen_Q fun A14 E14 => ?_)
  have Y14 := szq E14
  have F14 := fsE E14 (ck (cq1 F11 rfl) rfl rfl)
  clear E14 Y11 F11
  refine tk H13 ?_
  refine wp_ret ?_
  refine then_ret ?_
  refine ret_in (results_1 Try.results64 (rv_tmp (fg0 F14))) F14.d ?_
  exact ⟨_, rfl, (S7.fin1 0 rfl (hc_4.trans (congrArg (io .i64 _) (addT_no c12))))⟩
 refine wp_skip ?_
 refine tk H9 ?_
 refine wp_seq_k fun K15 H15 => ?_
 refine region_in ?_
 refine W_v rfl rfl (V_mov rfl (fg3 F11)) ?_
 refine W_v rfl rfl (V_lenS rfl (et rfl) (ow_at (S7.chq 0 rfl hc_4)) Try.underlying25) ?_
 refine W_v rfl rfl (V_asg rfl (et rfl)) ?_
 refine W_end (gen_Q fun A16 E16 => ?_)
 have Y16 := szq E16
 have F16 := fsE E16 (ck (cq2 F11 rfl) rfl rfl)
 clear E16 Y11 F11
 refine tk H15 ?_
 refine wp_seq_k fun K17 H17 => ?_
 refine wp_seq_k fun K18 H18 => ?_
 refine region_in ?_
 refine W_v rfl rfl (V_mov rfl (fg2 F16)) ?_
 refine W_v rfl rfl (V_mul rfl rfl (et rfl) (by omega) (by omega)) ?_
 refine W_v rfl rfl (V_mov rfl (es2 rfl (fg4 F16))) ?_
 refine W_v rfl rfl (V_lenS rfl (et rfl) (ow_at (S7.chq 0 rfl hc_4)) Try.underlying25) ?_
 refine W_v rfl rfl (V_mul rfl rfl (et rfl) (by omega) (by omega)) ?_
 refine W_v rfl rfl (V_gtr rfl (es3 rfl (et rfl)) (et rfl)) ?_
 refine W_end (gen_Q fun A19 E19 => ?_)
 have Y19 := szq E19
 have F19 := fsE E19 (ck (cq5 F16 rfl) rfl rfl)
 clear E19 Y16 F16
 refine tk H18 ?_
 refine cond_dec (fg0 F19) (fun c20 => ?_) (fun c20 => ?_)
 ·have hN : adN (putT c a) = 2 * (putT c a).length := if_pos (by omega)
  refine region_in ?_
  refine W_v rfl rfl (V_mov rfl (fg1 F19)) ?_
  refine W_v rfl rfl (V_mul rfl rfl (et rfl) (by omega) (by omega)) ?_
  refine W_v rfl rfl (V_asg rfl (et rfl)) ?_
  refine W_end (gen_Q fun A21 E21 => ?_)
  have Y21 := szq E21
  have F21 := fsE E21 (ck (cq2 (fx1 F19) rfl) rfl rfl)
  clear E21 Y19 F19
  refine tk H17 ?_
  refine wp_seq_k fun K22 H22 => ?_
  refine region_in ?_
  refine W_v rfl rfl (V_mov rfl (fg0 F21)) ?_
  refine W_mkS (z := .int .i64 0) (bytes := 8) (adN (putT c a)) S7 rfl rfl rfl (et rfl) (et rfl) (by omega) Try.underlying25 (by kernel_rfl) (by omega) rfl (fun v23 w23 c23 hc23 S23 => ?_)
  replace hc23 : c23 = io .i64 v23 (List.replicate (adN (putT c a)) (0 : Int)) := hc23.trans (by simp only [io, bo, List.map_replicate, List.length_replicate])
  replace S23 : St w NoX [c23, c_4] w23 := S23
  refine W_v rfl rfl (V_asg rfl (et rfl)) ?_
  refine W_end (gen_Q fun A24 E24 => ?_)
  have Y24 := szq E24
  have F24 := fsE E24 (ck (cq2 F21 rfl) rfl rfl)
  clear E24 Y21 F21
  refine tk H22 ?_
  refine wp_seq_k fun K25 H25 => ?_
  refine region_in ?_
  refine W_v rfl rfl (V_mov rfl (fg6 F24)) ?_
  refine W_call rfl rfl rfl Try.func92 (by kernel_rfl) rfl (args1 (et rfl)) (qsr_c (S23.chC 1 rfl hc_4).own (by first | with_reducible assumption | with_reducible exact hG.rng | with_reducible exact p1.rng | with_reducible exact hr2)) ?_
  rintro _ w26 ⟨v_26, rfl, hP26⟩
  refine ⟨_, rfl, ?_⟩
  obtain ⟨c_26, hc_26, hP26⟩ := gen1 hP26
  have S26 := S23.join hP26
  replace S26 : St w NoX [c_26, c23, c_4] w26 := S26
  refine W_v rfl rfl (V_asg rfl (et rfl)) ?_
  refine W_end (gen_Q fun A27 E27 => ?_)
  have Y27 := szq E27
  have F27 := fsE E27 (ck (cq2 F24 rfl) rfl rfl)
  clear E27 Y24 F24
  have S28 : St w NoX [c_26, c23] w26 := S26.sel [0, 1] (by decide) rfl
  refine tk H25 ?_
  refine wp_seq_k fun K29 H29 => ?_
  refine wp_seq_k fun K30 H30 => ?_
  refine region_in ?_
  refine W_v rfl rfl (V_asg rfl rfl) ?_
  refine W_end (gen_Q fun A31 E31 => ?_)
  have Y31 := szq E31
  have F31 := fsE E31 (ck F27 rfl rfl)
  clear E31 Y27 F27
  refine tk H30 ?_
  refine wp_block ?_
  -- loop 11
  refine loopX (fun mz A' w' => SzN A' 54 ∧ A'.defers = [] ∧ (∃ (k : Nat) (bv : Value), (mz = (tgK (putT c a) 1600).length - k) ∧ (k ≤ (tgK (putT c a) 1600).length) ∧ ((bld (adN (putT c a)) ((tgK (putT c a) 1600).take k)).length = (adN (putT c a))) ∧ (adr (bld (adN (putT c a)) ((tgK (putT c a) 1600).take k)) = k) ∧ (EV A' (.tmp 11) = .int .i64 (k : Int)) ∧ (EV A' (.tmp 9) = bv) ∧ (EV A' (.tmp 10) = EV A31 (.tmp 10)) ∧ (St w NoX [io .i64 v_26 (tgK (putT c a) 1600), io .i64 bv (bld (adN (putT c a)) ((tgK (putT c a) 1600).take k))] w'))) ((tgK (putT c a) 1600).length - 0) ⟨Y31, F31.d, 0, v23, rfl, (by omega), (hbp 0 (by omega)).1, (hbp 0 (by omega)).2.1, (((fg0 F31)).trans (by first | rfl | (simp; done) | (congr 1; omega))), (((fg2 F31)).trans (by first | rfl | (simp; done) | (congr 1; omega))), rfl, (by have q0 := hc_26; have q1 : c23 = io .i64 v23 (bld (adN (putT c a)) ((tgK (putT c a) 1600).take 0)) := hc23.trans (rfl); subst q0 q1; exact S28)⟩ ?_
  clear S28 hc_26 hc23
  rintro n32 A32 w32 ⟨Y32, hdf32, k, bv, hm32, hk, hbl, hba, l11_32, l9_32, u10_32, S32⟩
  have l10_32 := u10_32.trans (fg1 F31)
  obtain ⟨c_32, c23_32, hc_32, hc23_32, S32⟩ := gen2 S32
  refine wp_seq_k fun K33 H33 => ?_
  refine wp_seq_k fun K34 H34 => ?_
  refine region_in ?_
  refine W_v rfl rfl (V_mov rfl l11_32) ?_
  refine W_v rfl rfl (V_mov rfl (es rfl l10_32)) ?_
  refine W_v rfl rfl (V_lenS rfl (et rfl) (ow_at (S32.chq 0 rfl hc_32)) Try.underlying25) ?_
  refine W_v rfl rfl (V_lss rfl (es2 rfl (et rfl)) (et rfl)) ?_
  refine W_end (gen_Q fun A35 E35 => ?_)
  have Y35 := szq E35
  have F35 := (((fsE E35 (ck (cq3 (FS.n hdf32) rfl) rfl rfl)).c (lookE E35 9 (es4 rfl l9_32))).c (lookE E35 10 (es4 rfl l10_32))).c (lookE E35 11 (es4 rfl l11_32))
  clear E35 Y32 hdf32 l11_32 l9_32 l10_32
  refine tk H34 ?_
  refine cond_dec (fg3 F35) (fun c36 => ?_) (fun c36 => ?_)
  ·refine wp_skip ?_
   refine tk H33 ?_
   refine wp_seq_k fun K37 H37 => ?_
   refine wp_block ?_
   refine region_in ?_
   refine W_v rfl rfl (V_mov rfl (fg2 F35)) ?_
   refine W_v rfl rfl (V_mov rfl (es rfl (fg1 F35))) ?_
   refine W_v rfl rfl (V_mov rfl (es2 rfl (fg0 F35))) ?_
   have k38 : k < (tgK (putT c a) 1600).length := by first | omega | (simp only [List.length_cons, List.length_nil]; omega) | (simp only [List.length_set]; omega) | decide
   obtain ⟨y38, hy38⟩ := get_some (xs := (tgK (putT c a) 1600)) (k := k) k38
   have hry38 := tgK_rng y38 (List.mem_of_getElem? hy38)
   obtain ⟨B38, O38, C38, hv38⟩ := (SlN.blk (ow_at (S32.chq 0 rfl hc_32)) (by first | omega | (simp only [List.length_cons, List.length_nil]; omega) | (simp only [List.length_set]; omega) | decide))
   refine W_v rfl rfl (V_ixS (off := O38 + k) 1 (k) rfl (es rfl (et rfl)) (et rfl) hv38 (by omega) k38 Try.underlying25 (by kernel_rfl) (congrArg _ (Nat.mul_one _))) ?_
   refine W_r rfl rfl (VR_ldC rfl (et rfl) ((ow_at (S32.chq 0 rfl hc_32)).cell hv38 (map_get hy38)) Try.underlying3 rfl) ?_
   refine W_call rfl rfl rfl Try.func91 (by kernel_rfl) rfl (args2 (es4 rfl (et rfl)) (et rfl)) (qput_c (a := y38) (S32.chC 1 rfl hc23_32).own (by first | with_reducible assumption | with_reducible exact hG.p2 | with_reducible exact hG2.p2 | (rw [hbl]; exact n1) | (simp only [List.length_set, List.length_replicate] <;> assumption)) (by first | omega | with_reducible assumption) (by first | omega | with_reducible assumption)) ?_
   rintro _ w39 ⟨v_39, rfl, hP39⟩
   refine ⟨_, rfl, ?_⟩
   obtain ⟨c_39, hc_39, hP39⟩ := gen1 hP39
   have S39 := S32.join hP39
   replace S39 : St w NoX [c_39, c_32, c23_32] w39 := S39
   refine W_v rfl rfl (V_asg rfl (et rfl)) ?_
   refine W_end (gen_Q fun A40 E40 => ?_)
   have Y40 := szq E40
   have F40 := fsE E40 (ck (cq6 (fx2 F35) rfl) rfl rfl)
   clear E40 Y35 F35
   have S41 : St w NoX [c_39, c_32] w39 := S39.sel [0, 1] (by decide) rfl
   refine inb_n ?_
   refine tk H37 ?_
   refine region_in ?_
   refine W_v rfl rfl (V_mov rfl (fg1 F40)) ?_
   refine W_v rfl rfl (V_add rfl (et rfl) rfl (by omega) (by omega)) ?_
   refine W_v rfl rfl (V_asg rfl (et rfl)) ?_
   refine W_end (gen_Q fun A42 E42 => ?_)
   have Y42 := szq E42
   have F42 := fsE E42 (ck (cq2 (fx1 F40) rfl) rfl rfl)
   clear E42 Y40 F40
   have S43 : St w NoX [c_32, c_39] w39 := S41.sel [1, 0] (by decide) rfl
   refine then_n ⟨(tgK (putT c a) 1600).length - (k + 1), by simp only [hm32]; omega, Y42, F42.d, (k + 1), v_39, rfl, (by omega), (hbp (k + 1) (by omega)).1, (hbp (k + 1) (by omega)).2.1, (((fg0 F42)).trans (by first | rfl | (simp; done) | (congr 1; omega))), (((fg1 F42)).trans (by first | rfl | (simp; done) | (congr 1; omega))), (((fg2 F42)).trans (fg1 F31).symm), (by have q0 := hc_32; have q1 : c_39 = io .i64 v_39 (bld (adN (putT c a)) ((tgK (putT c a) 1600).take (k + 1))) := hc_39.trans ((congrArg (io .i64 _) (bld_take hy38))); subst q0 q1; exact S43)⟩
  refine wp_exit ?_
  refine then_exit ?_
  refine then_exit ?_
  refine inb_hit ?_
  refine tk H29 ?_
  refine wp_seq_k fun K44 H44 => ?_
  refine region_in ?_
  refine W_v rfl rfl (V_mov rfl (fg2 F35)) ?_
  refine W_v rfl rfl (V_asg rfl (et rfl)) ?_
  refine W_end (gen_Q fun A45 E45 => ?_)
  have Y45 := szq E45
  have F45 := fsE E45 (ck (cq1 F35 rfl) rfl rfl)
  clear E45 Y35 F35
  have S46 : St w NoX [c23_32] w32 := S32.sel [1] (by decide) rfl
  refine tk H44 ?_
  refine wp_ret ?_
  refine ret_in (results_1 Try.results64 (rv_tmp (fg0 F45))) F45.d ?_
  exact ⟨_, rfl, (S46.fin1 0 rfl (hc23_32.trans (congrArg (io .i64 _) (addT_yes c12 (by omega)))))⟩
 have hN : adN (putT c a) = (putT c a).length := if_neg (by omega)
 refine wp_skip ?_
 refine tk H17 ?_
 refine wp_seq_k fun K47 H47 => ?_
 refine region_in ?_
 refine W_v rfl rfl (V_mov rfl (fg1 F19)) ?_
 refine W_mkS (z := .int .i64 0) (bytes := 8) (adN (putT c a)) S7 rfl rfl rfl (et rfl) (et rfl) (by omega) Try.underlying25 (by kernel_rfl) (by omega) rfl (fun v48 w48 c48 hc48 S48 => ?_)
 replace hc48 : c48 = io .i64 v48 (List.replicate (adN (putT c a)) (0 : Int)) := hc48.trans (by simp only [io, bo, List.map_replicate, List.length_replicate])
 replace S48 : St w NoX [c48, c_4] w48 := S48
 refine W_v rfl rfl (V_asg rfl (et rfl)) ?_
 refine W_end (gen_Q fun A49 E49 => ?_)
 have Y49 := szq E49
 have F49 := fsE E49 (ck (cq2 F19 rfl) rfl rfl)
 clear E49 Y19 F19
 refine tk H47 ?_
 refine wp_seq_k fun K50 H50 => ?_
 refine region_in ?_
 refine W_v rfl rfl (V_mov rfl (fg6 F49)) ?_
 refine W_call rfl rfl rfl Try.func92 (by kernel_rfl) rfl (args1 (et rfl)) (qsr_c (S48.chC 1 rfl hc_4).own (by first | with_reducible assumption | with_reducible exact hG.rng | with_reducible exact p1.rng | with_reducible exact hr2)) ?_
 rintro _ w51 ⟨v_51, rfl, hP51⟩
 refine ⟨_, rfl, ?_⟩
 obtain ⟨c_51, hc_51, hP51⟩ := gen1 hP51
 have S51 := S48.join hP51
 replace S51 : St w NoX [c_51, c48, c_4] w51 := S51
 refine W_v rfl rfl (V_asg rfl (et rfl)) ?_
 refine W_end (gen_Q fun A52 E52 => ?_)
 have Y52 := szq E52
 have F52 := fsE E52 (ck (cq2 F49 rfl) rfl rfl)
 clear E52 Y49 F49
 have S53 : St w NoX [c_51, c48] w51 := S51.sel [0, 1] (by decide) rfl
 refine tk H50 ?_
 refine wp_seq_k fun K54 H54 => ?_
 refine wp_seq_k fun K55 H55 => ?_
 refine region_in ?_
 refine W_v rfl rfl (V_asg rfl rfl) ?_
 refine W_end (gen_Q fun A56 E56 => ?_)
 have Y56 := szq E56
 have F56 := fsE E56 (ck F52 rfl rfl)
 clear E56 Y52 F52
 refine tk H55 ?_
 refine wp_block ?_
 -- loop 11
 refine loopX (fun mz A' w' => SzN A' 54 ∧ A'.defers = [] ∧ (∃ (k : Nat) (bv : Value), (mz = (tgK (putT c a) 1600).length - k) ∧ (k ≤ (tgK (putT c a) 1600).length) ∧ ((bld (adN (putT c a)) ((tgK (putT c a) 1600).take k)).length = (adN (putT c a))) ∧ (adr (bld (adN (putT c a)) ((tgK (putT c a) 1600).take k)) = k) ∧ (EV A' (.tmp 11) = .int .i64 (k : Int)) ∧ (EV A' (.tmp 9) = bv) ∧ (EV A' (.tmp 10) = EV A56 (.tmp 10)) ∧ (St w NoX [io .i64 v_51 (tgK (putT c a) 1600), io .i64 bv (bld (adN (putT c a)) ((tgK (putT c a) 1600).take k))] w'))) ((tgK (putT c a) 1600).length - 0) ⟨Y56, F56.d, 0, v48, rfl, (by omega), (hbp 0 (by omega)).1, (hbp 0 (by omega)).2.1, (((fg0 F56)).trans (by first | rfl | (simp; done) | (congr 1; omega))), (((fg2 F56)).trans (by first | rfl | (simp; done) | (congr 1; omega))), rfl, (by have q0 := hc_51; have q1 : c48 = io .i64 v48 (bld (adN (putT c a)) ((tgK (putT c a) 1600).take 0)) := hc48.trans (rfl); subst q0 q1; exact S53)⟩ ?_
 clear S53 hc_51 hc48
 rintro n57 A57 w57 ⟨Y57, hdf57, k, bv, hm57, hk, hbl, hba, l11_57, l9_57, u10_57, S57⟩
 have l10_57 := u10_57.trans (fg1 F56)
 obtain ⟨c_57, c48_57, hc_57, hc48_57, S57⟩ := gen2 S57
 refine wp_seq_k fun K58 H58 => ?_
 refine wp_seq_k fun K59 H59 => ?_
 refine region_in ?_
 refine W_v rfl rfl (V_mov rfl l11_57) ?_
 refine W_v rfl rfl (V_mov rfl (es rfl l10_57)) ?_
 refine W_v rfl rfl (V_lenS rfl (et rfl) (ow_at (S57.chq 0 rfl hc_57)) Try.underlying25) ?_
 refine W_v rfl rfl (V_lss rfl (es2 rfl (et rfl)) (et rfl)) ?_
 refine W_end (gen_Q fun A60 E60 => ?_)
 have Y60 := szq E60
 have F60 := (((fsE E60 (ck (cq3 (FS.n hdf57) rfl) rfl rfl)).c (lookE E60 9 (es4 rfl l9_57))).c (lookE E60 10 (es4 rfl l10_57))).c (lookE E60 11 (es4 rfl l11_57))
 clear E60 Y57 hdf57 l11_57 l9_57 l10_57
 refine tk H59 ?_
 refine cond_dec (fg3 F60) (fun c61 => ?_) (fun c61 => ?_)
 ·refine wp_skip ?_
  refine tk H58 ?_
  refine wp_seq_k fun K62 H62 => ?_
  refine wp_block ?_
  refine region_in ?_
  refine W_v rfl rfl (V_mov rfl (fg2 F60)) ?_
  refine W_v rfl rfl (V_mov rfl (es rfl (fg1 F60))) ?_
  refine W_v rfl rfl (V_mov rfl (es2 rfl (fg0 F60))) ?_
  have k63 : k < (tgK (putT c a) 1600).length := by first | omega | (simp only [List.length_cons, List.length_nil]; omega) | (simp only [List.length_set]; omega) | decide
  obtain ⟨y63, hy63⟩ := get_some (xs := (tgK (putT c a) 1600)) (k := k) k63
  have hry63 := tgK_rng y63 (List.mem_of_getElem? hy63)
  obtain ⟨B63, O63, C63, hv63⟩ := (SlN.blk (ow_at (S57.chq 0 rfl hc_57)) (by first | omega | (simp only [List.length_cons, List.length_nil]; omega) | (simp only [List.length_set]; omega) | decide))
  refine W_v rfl rfl (V_ixS (off := O63 + k) 1 (k) rfl (es rfl (et rfl)) (et rfl) hv63 (by omega) k63 Try.underlying25 (by kernel_rfl) (congrArg _ (Nat.mul_one _))) ?_
  refine W_r rfl rfl (VR_ldC rfl (et rfl) ((ow_at (S57.chq 0 rfl hc_57)).cell hv63 (map_get hy63)) Try.underlying3 rfl) ?_
  refine W_call rfl rfl rfl Try.func91 (by kernel_rfl) rfl (args2 (es4 rfl (et rfl)) (et rfl)) (qput_c (a := y63) (S57.chC 1 rfl hc48_57).own (by first | with_reducible assumption | with_reducible exact hG.p2 | with_reducible exact hG2.p2 | (rw [hbl]; exact n1) | (simp only [List.length_set, List.length_replicate] <;> assumption)) (by first | omega | with_reducible assumption) (by first | omega | with_reducible assumption)) ?_
  rintro _ w64 ⟨v_64, rfl, hP64⟩
  refine ⟨_, rfl, ?_⟩
  obtain ⟨c_64, hc_64, hP64⟩ := gen1 hP64
  have S64 := S57.join hP64
  replace S64 : St w NoX [c_64, c_57, c48_57] w64 := S64
  refine W_v rfl rfl (V_asg rfl (et rfl)) ?_
  refine W_end (gen_Q fun A65 E65 => ?_)
  have Y65 := szq E65
  have F65 := fsE E65 (ck (cq6 (fx2 F60) rfl) rfl rfl)
  clear E65 Y60 F60
  have S66 : St w NoX [c_64, c_57] w64 := S64.sel [0, 1] (by decide) rfl
  refine inb_n ?_
  refine tk H62 ?_
  refine region_in ?_
  refine W_v rfl rfl (V_mov rfl (fg1 F65)) ?_
  refine W_v rfl rfl (V_add rfl (et rfl) rfl (by omega) (by omega)) ?_
  refine W_v rfl rfl (V_asg rfl (et rfl)) ?_
  refine W_end (gen_Q fun A67 E67 => ?_)
  have Y67 := szq E67
  have F67 := fsE E67 (ck (cq2 (fx1 F65) rfl) rfl rfl)
  clear E67 Y65 F65
  have S68 : St w NoX [c_57, c_64] w64 := S66.sel [1, 0] (by decide) rfl
  refine then_n ⟨(tgK (putT c a) 1600).length - (k + 1), by simp only [hm57]; omega, Y67, F67.d, (k + 1), v_64, rfl, (by omega), (hbp (k + 1) (by omega)).1, (hbp (k + 1) (by omega)).2.1, (((fg0 F67)).trans (by first | rfl | (simp; done) | (congr 1; omega))), (((fg1 F67)).trans (by first | rfl | (simp; done) | (congr 1; omega))), (((fg2 F67)).trans (fg1 F56).symm), (by have q0 := hc_57; have q1 : c_64 = io .i64 v_64 (bld (adN (putT c a)) ((tgK (putT c a) 1600).take (k + 1))) := hc_64.trans ((congrArg (io .i64 _) (bld_take hy63))); subst q0 q1; exact S68)⟩
 refine wp_exit ?_
 refine then_exit ?_
 refine then_exit ?_
 refine inb_hit ?_
 refine tk H54 ?_
 refine wp_seq_k fun K69 H69 => ?_
 refine region_in ?_
 refine W_v rfl rfl (V_mov rfl (fg2 F60)) ?_
 refine W_v rfl rfl (V_asg rfl (et rfl)) ?_
 refine W_end (gen_Q fun A70 E70 => ?_)
 have Y70 := szq E70
 have F70 := fsE E70 (ck (cq1 F60 rfl) rfl rfl)
 clear E70 Y60 F60
 have S71 : St w NoX [c48_57] w57 := S57.sel [1] (by decide) rfl
 refine tk H69 ?_
 refine wp_ret ?_
 refine ret_in (results_1 Try.results64 (rv_tmp (fg0 F70))) F70.d ?_
 exact ⟨_, rfl, (S71.fin1 0 rfl (hc48_57.trans (congrArg (io .i64 _) (addT_yes c12 (by omega)))))⟩

end Go.Proofs.Yteppjefmlibmoaa