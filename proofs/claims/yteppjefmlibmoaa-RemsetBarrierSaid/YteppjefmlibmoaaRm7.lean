import Derived.Test.YteppjefmlibmoaaProg
import Derived.Test.YteppjefmlibmoaaRm6
namespace Go.Proofs.Yteppjefmlibmoaa
open Go.RowKit Go.Own Go.Own.R Go.Own.S Go.Own.E


set_option maxHeartbeats 4000000 in
theorem keqI_c {xv : Value} {xs : List Int} {yv : Value} {ys : List Int} {w : World} (h_xv : Ro w NoX (il .i64 xv xs)) (h_yv : Ro w NoX (il .i64 yv ys))  :
  Calls Try.prog 53 #[xv, yv] w fun e w' => e = .returned (.bool (decide (xs = ys))) ∧ St w NoX [] w' := by
 refine calls_in 26 Try.func53 rfl rfl (by simp) (fun A0 Y0 hdf0 hargs => ?_)
 have l0_0 := hargs 0 (xv) rfl
 have l1_0 := hargs 1 (yv) rfl
 clear hargs; replace Y0 : SzN A0 26 := ⟨Y0⟩
 have hS := St.nil w
 have bh_xv := SlN.le (sl_SlN h_xv.at)
 have bh_yv := SlN.le (sl_SlN h_yv.at)
 refine wp_seq_k fun K1 H1 => ?_
 refine region_in ?_
 refine W_v rfl rfl (V_asg rfl rfl) ?_
 refine W_end (gen_Q fun A2 E2 => ?_)
 have Y2 := szq E2
 have F2 := ((fsE E2 (cq1 (FS.n hdf0) rfl)).c (lookE E2 0 (es rfl l0_0))).c (lookE E2 1 (es rfl l1_0))
 clear E2 Y0 hdf0 l0_0 l1_0
 refine tk H1 ?_
 refine wp_seq_k fun K3 H3 => ?_
 refine wp_seq_k fun K4 H4 => ?_
 refine region_in ?_
 refine W_v rfl rfl (V_mov rfl (fg1 F2)) ?_
 refine W_v rfl rfl (V_lenS rfl (et rfl) (sl_SlN h_xv.at) Try.underlying25) ?_
 refine W_v rfl rfl (V_mov rfl (es2 rfl (fg0 F2))) ?_
 refine W_v rfl rfl (V_lenS rfl (et rfl) (sl_SlN h_yv.at) Try.underlying25) ?_
 refine W_v rfl rfl (V_neq rfl (es2 rfl (et rfl)) (et rfl)) ?_
 refine W_end (gen_Q fun A5 E5 => ?_)
 have Y5 := szq E5
 have F5 := fsE E5 (ck (cq4 F2 rfl) rfl rfl)
 clear E5 Y2 F2
 refine tk H4 ?_
 refine cond_dec (fg0 F5) (fun c6 => ?_) (fun c6 => ?_)
 ·refine wp_seq_k fun K7 H7 => ?_
  refine region_in ?_
  refine W_v rfl rfl (V_asg rfl rfl) ?_
  refine W_end (gen_Q fun A8 E8 => ?_)
  have Y8 := szq E8
  have F8 := fsE E8 (ck F5 rfl rfl)
  clear E8 Y5 F5
  refine tk H7 ?_
  refine wp_ret ?_
  refine then_ret ?_
  refine ret_in (results_1 Try.results53 (rv_tmp (fg0 F8))) F8.d ?_
  rw [decide_eq_false (show ¬ xs = ys from fun e => absurd (congrArg List.length e) (by omega))]
  exact ⟨rfl, hS.fin0⟩
 have hl : xs.length = ys.length := by omega
 refine wp_skip ?_
 refine tk H3 ?_
 refine wp_seq_k fun K9 H9 => ?_
 refine wp_seq_k fun K10 H10 => ?_
 refine region_in ?_
 refine W_v rfl rfl (V_mov rfl (fg2 F5)) ?_
 refine W_v rfl rfl (V_lenS rfl (et rfl) (sl_SlN h_xv.at) Try.underlying25) ?_
 refine W_v rfl rfl (V_mov rfl rfl) ?_
 refine W_end (gen_Q fun A11 E11 => ?_)
 have Y11 := szq E11
 have F11 := fsE E11 (ck (ck (cq1 F5 rfl) rfl rfl) rfl rfl)
 clear E11 Y5 F5
 refine tk H10 ?_
 refine wp_block ?_
 -- loop 4
 refine loopX (fun mz A' w' => SzN A' 26 ∧ A'.defers = [] ∧ (∃ (k : Nat), (mz = xs.length - k) ∧ (k ≤ xs.length) ∧ (∀ i, i < k → xs[i]? = ys[i]?) ∧ (EV A' (.tmp 13) = .int .i64 (k : Int)) ∧ (EV A' (.tmp 0) = EV A11 (.tmp 0)) ∧ (EV A' (.tmp 1) = EV A11 (.tmp 1)) ∧ (EV A' (.tmp 12) = EV A11 (.tmp 12)) ∧ (St w NoX [] w'))) (xs.length - 0) ⟨Y11, F11.d, 0, rfl, (by omega), (fun i hi => by omega), (((fg0 F11)).trans (by first | rfl | (simp; done) | (congr 1; omega))), rfl, rfl, rfl, hS⟩ ?_
 clear hS
 rintro n12 A12 w12 ⟨Y12, hdf12, k, hm12, hk, hz, l13_12, u0_12, u1_12, u12_12, S12⟩
 have l0_12 := u0_12.trans (fg4 F11)
 have l1_12 := u1_12.trans (fg3 F11)
 have l12_12 := u12_12.trans (fg1 F11)
 refine wp_seq_k fun K13 H13 => ?_
 refine region_in ?_
 refine W_v rfl rfl (V_lss rfl l13_12 l12_12) ?_
 refine W_end (gen_Q fun A14 E14 => ?_)
 have Y14 := szq E14
 have F14 := ((((fsE E14 (ck (FS.n hdf12) rfl rfl)).c (lookE E14 0 (es rfl l0_12))).c (lookE E14 1 (es rfl l1_12))).c (lookE E14 12 (es rfl l12_12))).c (lookE E14 13 (es rfl l13_12))
 clear E14 Y12 hdf12 l13_12 l0_12 l1_12 l12_12
 refine tk H13 ?_
 refine wp_seq_k fun K15 H15 => ?_
 refine cond_dec (fg4 F14) (fun c16 => ?_) (fun c16 => ?_)
 ·refine wp_skip ?_
  refine tk H15 ?_
  refine wp_seq_k fun K17 H17 => ?_
  refine wp_block ?_
  refine wp_seq_k fun K18 H18 => ?_
  refine region_in ?_
  refine W_v rfl rfl (V_mov rfl (fg0 F14)) ?_
  refine W_v rfl rfl (V_asg rfl (et rfl)) ?_
  refine W_end (gen_Q fun A19 E19 => ?_)
  have Y19 := szq E19
  have F19 := fsE E19 (ck (cq1 F14 rfl) rfl rfl)
  clear E19 Y14 F14
  refine tk H18 ?_
  refine wp_seq_k fun K20 H20 => ?_
  refine region_monoS 9 9 [] (by kernel_rfl) (by kernel_rfl) ?_
  refine D_v rfl rfl (V_mov rfl (fg4 F19)) rfl rfl ?_
  refine D_v rfl rfl (V_mov rfl (es rfl (fg0 F19))) rfl rfl ?_
  have k21 : k < xs.length := by first | omega | (simp only [List.length_cons, List.length_nil]; omega) | (simp only [List.length_set]; omega) | decide
  obtain ⟨y21, hy21⟩ := get_some (xs := xs) (k := k) k21
  obtain ⟨B21, O21, C21, hv21⟩ := (SlN.blk (sl_SlN h_xv.at) (by first | omega | (simp only [List.length_cons, List.length_nil]; omega) | (simp only [List.length_set]; omega) | decide))
  refine D_v rfl rfl (V_ixS (off := O21 + k) 1 (k) rfl (es rfl (et rfl)) (et rfl) hv21 (by omega) k21 Try.underlying25 (by kernel_rfl) (congrArg _ (Nat.mul_one _))) rfl rfl ?_
  refine D_r rfl rfl (by kernel_rfl) (fun sx hx hF => (VR_ldC rfl (et rfl) ((sl_SlN ((S12.grow hx).ro h_xv)).cell hv21 (map_get hy21)) Try.underlying3 rfl)) rfl rfl ?_
  refine D_v rfl rfl (V_mov rfl (es4 rfl (fg3 F19))) rfl rfl ?_
  refine D_v rfl rfl (V_mov rfl (es5 rfl (fg0 F19))) rfl rfl ?_
  have k22 : k < ys.length := by first | omega | (simp only [List.length_cons, List.length_nil]; omega) | (simp only [List.length_set]; omega) | decide
  obtain ⟨y22, hy22⟩ := get_some (xs := ys) (k := k) k22
  obtain ⟨B22, O22, C22, hv22⟩ := (SlN.blk (sl_SlN h_yv.at) (by first | omega | (simp only [List.length_cons, List.length_nil]; omega) | (simp only [List.length_set]; omega) | decide))
  refine D_v rfl rfl (V_ixS (off := O22 + k) 1 (k) rfl (es rfl (et rfl)) (et rfl) hv22 (by omega) k22 Try.underlying25 (by kernel_rfl) (congrArg _ (Nat.mul_one _))) rfl rfl ?_
  refine D_r rfl rfl (by kernel_rfl) (fun sx hx hF => (VR_ldC rfl (et rfl) ((sl_SlN ((S12.grow hx).ro h_yv)).cell hv22 (map_get hy22)) Try.underlying3 rfl)) rfl rfl ?_
  refine D_v rfl rfl (V_neq rfl (es4 rfl (et rfl)) (et rfl)) rfl rfl ?_
  refine ZS_none S12 (Nat.le_refl _) (Nat.le_refl _) (fun s23 hJ23 hL23 hF23 => ?_)
  have S23 := hJ23.st; clear hF23 hJ23 hL23
  generalize s23.1 = w23 at *
  replace S23 : St w NoX [] w23 := S23
  refine gen_Q (fun A24 E24 => ?_)
  have Y24 := szq E24
  have F24 := fsE E24 (ck (cq8 F19 rfl) rfl rfl)
  clear E24 Y19 F19
  refine tk H20 ?_
  refine cond_dec (fg0 F24) (fun c25 => ?_) (fun c25 => ?_)
  ·refine wp_seq_k fun K26 H26 => ?_
   refine region_in ?_
   refine W_v rfl rfl (V_asg rfl rfl) ?_
   refine W_end (gen_Q fun A27 E27 => ?_)
   have Y27 := szq E27
   have F27 := fsE E27 (ck F24 rfl rfl)
   clear E27 Y24 F24
   refine tk H26 ?_
   refine wp_ret ?_
   refine inb_ret ?_
   refine then_ret ?_
   refine then_ret ?_
   refine inb_ret ?_
   refine then_ret ?_
   refine ret_in (results_1 Try.results53 (rv_tmp (fg0 F27))) F27.d ?_
   rw [decide_eq_false (show ¬ xs = ys from eq_ne hy21 hy22 c25)]
   exact ⟨rfl, S23.fin0⟩
  refine wp_skip ?_
  refine inb_n ?_
  refine tk H17 ?_
  refine region_in ?_
  refine W_v rfl rfl (V_add rfl (fg2 F24) rfl (by omega) (by omega)) ?_
  refine W_v rfl rfl (V_mov rfl (et rfl)) ?_
  refine W_end (gen_Q fun A28 E28 => ?_)
  have Y28 := szq E28
  have F28 := fsE E28 (ck (cq1 (fx2 F24) rfl) rfl rfl)
  clear E28 Y24 F24
  refine then_n ⟨xs.length - (k + 1), by simp only [hm12]; omega, Y28, F28.d, (k + 1), rfl, (by omega), (eq_step hz hy21 hy22 (by omega)), (((fg0 F28)).trans (by first | rfl | (simp; done) | (congr 1; omega))), (((fg5 F28)).trans (fg4 F11).symm), (((fg4 F28)).trans (fg3 F11).symm), (((fg3 F28)).trans (fg1 F11).symm), S23⟩
 refine wp_exit ?_
 refine then_exit ?_
 refine then_exit ?_
 refine inb_hit ?_
 refine tk H9 ?_
 refine wp_seq_k fun K29 H29 => ?_
 refine region_in ?_
 refine W_v rfl rfl (V_asg rfl rfl) ?_
 refine W_end (gen_Q fun A30 E30 => ?_)
 have Y30 := szq E30
 have F30 := fsE E30 (ck F14 rfl rfl)
 clear E30 Y14 F14
 refine tk H29 ?_
 refine wp_ret ?_
 refine ret_in (results_1 Try.results53 (rv_tmp (fg0 F30))) F30.d ?_
 rw [decide_eq_true (show xs = ys from eq_all hl (by omega) hz)]
 exact ⟨rfl, S12.fin0⟩

set_option maxHeartbeats 4000000 in
theorem kCt8_c {cv : Value} {X : List (List Int)} {nv : Value} {ns : List Int} {w : World} (h_cv : Ro w NoX (rmR cv X)) (h_nv : Ro w NoX (il .i64 nv ns)) (hxl : X.length ≤ 1000) :
  Calls Try.prog 15 #[.agg #[cv, nv]] w fun e w' => e = .returned (.tuple #[.int .i64 (ctP (X ++ [ns])).1, .int .i64 (ctP (X ++ [ns])).2]) ∧ St w NoX [] w' := by
 obtain ⟨Xu, hXu, k_cv, n_cv⟩ := rmR_open h_cv
 subst hXu
 have b_cv := SlN.le (sl_SlN k_cv.at)
 rw [csF_len] at hxl
 have f_al := nsi_all n_cv h_nv
 refine calls_inR 25 Try.func15 rfl rfl (by simp) (fun A0 Y0 hdf0 hargs => ?_)
 have l0_0 := hargs 0 (.agg #[cv, nv]) rfl
 clear hargs; replace Y0 : SzN A0 25 := ⟨Y0⟩
 have hS := St.nil w
 have bh_nv := SlN.le (sl_SlN h_nv.at)
 have bk_cv := SlN.le (sl_SlN k_cv.at)
 refine R_seq (fun K1 H1 => ?_)
 refine R_region (by kernel_rfl) ?_
 refine W_boxS (zs := #[cv, nv]) hS rfl rfl rfl l0_0 (by rfl) (fun g2 w2 c2 hc2 S2 => ?_)
 replace S2 : St w NoX [c2] w2 := S2
 refine W_allocS (z := .int .i64 0) (zs := #[.int .i64 0]) S2 rfl rfl rfl (by kernel_rfl) (by rfl) (fun g3 w3 c3 hc3 S3 => ?_)
 replace S3 : St w NoX [c3, c2] w3 := S3
 refine W_allocS (z := .int .i64 0) (zs := #[.int .i64 0]) S3 rfl rfl rfl (by kernel_rfl) (by rfl) (fun g4 w4 c4 hc4 S4 => ?_)
 replace S4 : St w NoX [c4, c3, c2] w4 := S4
 refine W_end ?_
 refine Qo_normal ?_
 refine gen_Q (fun A5 E5 => ?_)
 have Y5 := szq E5
 have F5 := fsE E5 (ck (ck (ck (FS.n hdf0) rfl rfl) rfl rfl) rfl rfl)
 clear E5 Y0 hdf0 l0_0
 refine tk H1 ?_
 refine R_seq (fun K6 H6 => ?_)
 refine R_region (by kernel_rfl) ?_
 refine W_allocS (z := .int .i64 0) (zs := #[.int .i64 0]) S4 rfl rfl rfl (by kernel_rfl) (by rfl) (fun g7 w7 c7 hc7 S7 => ?_)
 replace S7 : St w NoX [c7, c4, c3, c2] w7 := S7
 refine W_stCS (zs' := #[.int .i64 0]) 0 S7 rfl hc7 rfl rfl rfl (et rfl) rfl (by rfl) (by rfl) (by kernel_rfl) (by first | rfl | (simp only [List.setIfInBounds_toArray, List.set_cons_succ, List.set_cons_zero] <;> rfl)) (fun w8 c8 hc8 S8 => ?_)
 replace S8 : St w NoX [c8, c4, c3, c2] w8 := S8
 refine W_end ?_
 refine Qo_normal ?_
 refine gen_Q (fun A9 E9 => ?_)
 have Y9 := szq E9
 have F9 := fsE E9 (ck F5 rfl rfl)
 clear E9 Y5 F5
 refine tk H6 ?_
 refine R_seq (fun K10 H10 => ?_)
 refine R_seq (fun K11 H11 => ?_)
 refine R_region (by kernel_rfl) ?_
 refine W_r rfl rfl (VR_ldA rfl (fg3 F9) (S8.obj 3 rfl hc2) Try.underlying29 rfl (by kernel_rfl)) ?_
 refine W_call rfl rfl rfl Try.func41 (by kernel_rfl) rfl (args1 (et rfl)) (kall8_c (S8.roC k_cv) (S8.roC n_cv) (S8.roC h_nv) ) ?_
 rintro _ w12 ⟨gb_12, rfl, hP12⟩
 refine ⟨_, rfl, ?_⟩
 obtain ⟨cb_12, hcb_12, hP12⟩ := gen1 hP12
 have S12 := S8.join hP12
 replace S12 : St w NoX [cb_12, c8, c4, c3, c2] w12 := S12
 refine W_end ?_
 refine Qo_normal ?_
 refine gen_Q (fun A13 E13 => ?_)
 have Y13 := szq E13
 have F13 := fsE E13 (ck (cq1 F9 rfl) rfl rfl)
 clear E13 Y9 F9
 have S14 : St w NoX [cb_12, c8, c4, c3] w12 := S12.sel [0, 1, 2, 3] (by decide) rfl
 refine tk H11 ?_
 refine R_block ?_
 refine R_rangeS (α := Nat) (fg0 F13) (fun args w => calls_enter Try.func71 rfl rfl args w) (kall8_it (gb := gb_12) (cv := cv) (U := Xu) (nv := nv) (ns := ns) (Rd := fun W => (bx gb_12 29 #[cv, nv]).at W ∧ (rl 1 fstC cv Xu).at W ∧ (nsi Xu).at W ∧ (il .i64 nv ns).at W) (fun _ h => h)) (fun _ => rfl) (fun pre => pk (fun l => ∃ (n : Int), (ctP (csF Xu ++ [ns]) = ctGo n ((csF Xu ++ [ns]).drop pre.length)) ∧ (0 ≤ n ∧ n ≤ 1600 * (pre.length : Int)) ∧ l = [bx gb_12 29 #[cv, nv], bx g7 3 #[.int .i64 (n)], bx g4 34 #[.int .i64 0], bx g3 3 #[.int .i64 0]])) (fun cQ pre => pk (fun l => (cQ = .ret ∧ ∃ (e : Int) (n : Int), (ctP (csF Xu ++ [ns]) = (0, e)) ∧ l = [bx gb_12 29 #[cv, nv], bx g7 3 #[.int .i64 (n)], bx g4 34 #[.int .i64 (e)], bx g3 3 #[.int .i64 0]]))) (St.pack (l := [bx gb_12 29 #[cv, nv], bx g7 3 #[.int .i64 (0)], bx g4 34 #[.int .i64 0], bx g3 3 #[.int .i64 0]]) (fr := []) (by have q0 : cb_12 = bx gb_12 29 #[cv, nv] := hcb_12; have q1 : c8 = bx g7 3 #[.int .i64 (0)] := hc8.trans (rfl); have q2 : c4 = bx g4 34 #[.int .i64 0] := hc4; have q3 : c3 = bx g3 3 #[.int .i64 0] := hc3; subst q0 q1 q2 q3; exact S14) ⟨0, rfl, (by simp), rfl⟩)
  (fun pre W l' hS => by obtain ⟨l, ⟨n, hz, hn, rfl⟩, hl⟩ := pk_at (hS.ch 0 rfl); exact ⟨(hl 0 _ rfl), hS.ro k_cv, hS.ro n_cv, hS.ro h_nv⟩)
  (fun x a' cQ => ∃ g17 : Nat, SzN a' 25 ∧ a'.defers = [] ∧ EV a' (.tmp 2) = EV A13 (.tmp 2) ∧ EV a' (.tmp 3) = EV A13 (.tmp 3) ∧ EV a' (.tmp 4) = EV A13 (.tmp 4) ∧ EV a' (.tmp 6) = .pointer (some ⟨g17, 0, none⟩) ∧ cQ = pk (·= [bx g17 27 #[(aS Xu nv ns x).1]])) ?_ ?_ ?_ ?_
 ·intro la15 pre x wa15 fr K hSa15 hK
  simp only [encA]
  rw [rnd2]
  obtain ⟨A16, E16⟩ : ∃ A, A = (PT (PT { tmps := A13.tmps, defers := [] } 11 (.int .i64 (aI Xu x))) 12 (.agg #[(aS Xu nv ns x).1])) := ⟨_, rfl⟩
  rw [← E16]
  have Y16 := szq E16
  have hdf16 : A16.defers = [] := by rw [E16]; rfl
  have l2_16 := lookE E16 2 (es2 rfl (rnd_l (fg3 F13)))
  have l3_16 := lookE E16 3 (es2 rfl (rnd_l (fg2 F13)))
  have l4_16 := lookE E16 4 (es2 rfl (rnd_l (fg1 F13)))
  have l11_16 := lookE E16 11 (es rfl (et rfl))
  have l12_16 := lookE E16 12 (et rfl)
  clear E16
  obtain ⟨cI, hcI, hSa15⟩ := gen1 hSa15
  refine R_region (by kernel_rfl) ?_
  refine W_allocS (z := .agg #[.slice none 0 0]) (zs := #[.slice none 0 0]) hSa15 rfl rfl rfl (by kernel_rfl) (by rfl) (fun g17 w17 c17 hc17 S17 => ?_)
  replace S17 : St w NoX (c17 :: cI :: fr) w17 := S17
  refine W_stAS 0 S17 rfl hc17 rfl rfl rfl (et rfl) (es rfl l12_16) (by simp only [List.all_toArray, List.all_cons, List.all_nil, SlN_one (sl_SlN (f_al x).at)] <;> rfl) (by rfl) (by kernel_rfl) (fun w18 c18 hc18 S18 => ?_)
  replace S18 : St w NoX (c18 :: cI :: fr) w18 := S18
  refine W_end ?_
  refine Qo_normal ?_
  refine gen_Q (fun A19 E19 => ?_)
  have Y19 := szq E19
  have F19 := (((fsE E19 (ck (FS.n hdf16) rfl rfl)).c (lookE E19 2 (es rfl l2_16))).c (lookE E19 3 (es rfl l3_16))).c (lookE E19 4 (es rfl l4_16))
  clear E19 Y16 hdf16 l2_16 l3_16 l4_16 l11_16 l12_16
  refine then_n ?_
  refine hK _ _ _ ⟨g17, Y19, F19.d, ((fg2 F19).trans (fg3 F13).symm), ((fg1 F19).trans (fg2 F13).symm), ((fg0 F19).trans (fg1 F13).symm), (fg3 F19), rfl⟩ ?_
  subst hc18 hcI; exact S18.asg1
 ·rintro lb20 pre x A20 w20 cQ fr hAx hlr S20 hVd
  obtain ⟨g17, Y20, hdf20, u2_20, u3_20, u4_20, l6_20, rfl⟩ := hAx
  have l2_20 := u2_20.trans (fg3 F13)
  have l3_20 := u3_20.trans (fg2 F13)
  have l4_20 := u4_20.trans (fg1 F13)
  obtain ⟨_, _, ⟨n, hz, hn, rfl⟩, rfl, S20⟩ := S20.body2
  replace S20 : St w NoX ((bx gb_12 29 #[cv, nv]) :: (bx g7 3 #[.int .i64 (n)]) :: (bx g4 34 #[.int .i64 0]) :: (bx g3 3 #[.int .i64 0]) :: (bx g17 27 #[(aS Xu nv ns x).1]) :: fr) w20 := S20
  obtain ⟨cb_21, c8_21, c4_21, c3_21, c18_21, hcb_21, hc8_21, hc4_21, hc3_21, hc18_21, S20⟩ := gen5 S20
  obtain ⟨hxl, hpre⟩ := rng_vd hVd
  have bf_x := SlN.le (sl_SlN (f_al x).at)
  have hln := lnN_bd (aS Xu nv ns x).2
  have hpl : pre.length = x := by rw [hpre]; exact List.length_range
  refine R_block ?_
  refine R_seq (fun K22 H22 => ?_)
  refine R_region (by kernel_rfl) ?_
  refine W_r rfl rfl (VR_ldA rfl l6_20 (S20.obj 4 rfl hc18_21) Try.underlying27 rfl (by kernel_rfl)) ?_
  refine W_call rfl rfl rfl Try.func51 (by kernel_rfl) rfl (args1 (et rfl)) (kLen_c (S20.roC (f_al x)) ) ?_
  rintro _ w23 ⟨rfl, hP23⟩
  refine ⟨_, rfl, ?_⟩
  have S23 := S20.join hP23
  replace S23 : St w NoX (cb_21 :: c8_21 :: c4_21 :: c3_21 :: c18_21 :: fr) w23 := S23
  refine W_v rfl rfl (V_mov rfl (et rfl)) ?_
  refine W_v rfl rfl (V_ext (v := .int .i64 ((lnN ((aS Xu nv ns x).2)))) rfl (et rfl) rfl) ?_
  refine W_v rfl rfl (V_ext (v := .int .i64 ((ckS ((aS Xu nv ns x).2)).2)) rfl (es rfl (et rfl)) rfl) ?_
  refine W_v rfl rfl (V_asg rfl (es rfl (et rfl))) ?_
  refine W_v rfl rfl (V_asg rfl (es rfl (et rfl))) ?_
  refine W_end ?_
  refine Qo_normal ?_
  refine gen_Q (fun A24 E24 => ?_)
  have Y24 := szq E24
  have F24 := (((fsE E24 (ck (ck (cq5 (FS.n hdf20) rfl) rfl rfl) rfl rfl)).c (lookE E24 2 (es7 rfl l2_20))).c (lookE E24 3 (es7 rfl l3_20))).c (lookE E24 4 (es7 rfl l4_20))
  clear E24 Y20 hdf20 l2_20 l3_20 l4_20 l6_20
  have S26 := S23.del 4
  replace S26 : St w NoX (cb_21 :: c8_21 :: c4_21 :: c3_21 :: fr) w23 := S26
  refine tk H22 ?_
  refine R_seq (fun K27 H27 => ?_)
  refine R_seq (fun K28 H28 => ?_)
  refine R_region (by kernel_rfl) ?_
  refine W_v rfl rfl (V_mov rfl (fg3 F24)) ?_
  refine W_v rfl rfl (V_neq rfl (et rfl) rfl) ?_
  refine W_end ?_
  refine Qo_normal ?_
  refine gen_Q (fun A29 E29 => ?_)
  have Y29 := szq E29
  have F29 := fsE E29 (ck (cq1 F24 rfl) rfl rfl)
  clear E29 Y24 F24
  refine tk H28 ?_
  refine R_cond_dec (fg0 F29) (fun c30 => ?_) (fun c30 => ?_)
  ·refine R_seq (fun K31 H31 => ?_)
   refine R_region (by kernel_rfl) ?_
   refine W_v rfl rfl (V_mov rfl (fg4 F29)) ?_
   refine W_stCS (zs' := #[.int .i64 0]) 3 S26 rfl hc3_21 rfl rfl rfl (es rfl (fg3 F29)) rfl (by rfl) (by rfl) (by kernel_rfl) (by first | rfl | (simp only [List.setIfInBounds_toArray, List.set_cons_succ, List.set_cons_zero] <;> rfl)) (fun w32 c32 hc32 S32 => ?_)
   replace S32 : St w NoX (cb_21 :: c8_21 :: c4_21 :: c32 :: fr) w32 := S32
   refine W_stCS (zs' := #[.int .i64 ((ckS ((aS Xu nv ns x).2)).2)]) 2 S32 rfl hc4_21 rfl rfl rfl (es rfl (fg2 F29)) (et rfl) (by rfl) (by rfl) (by kernel_rfl) (by first | rfl | (simp only [List.setIfInBounds_toArray, List.set_cons_succ, List.set_cons_zero] <;> rfl)) (fun w33 c33 hc33 S33 => ?_)
   replace S33 : St w NoX (cb_21 :: c8_21 :: c33 :: c32 :: fr) w33 := S33
   refine W_end ?_
   refine Qo_normal ?_
   refine gen_Q (fun A34 E34 => ?_)
   have Y34 := szq E34
   have F34 := fsE E34 (cq1 F29 rfl)
   clear E34 Y29 F29
   refine tk H31 ?_
   refine R_ret ?_
   refine then_ret ?_
   refine inb_ret ?_
   exact (St.pack (l := [bx gb_12 29 #[cv, nv], bx g7 3 #[.int .i64 (_)], bx g4 34 #[.int .i64 (((ckS ((aS Xu nv ns x).2)).2))], bx g3 3 #[.int .i64 0]]) (fr := fr) (by have q0 : cb_21 = bx gb_12 29 #[cv, nv] := hcb_21; have q1 : c8_21 = bx g7 3 #[.int .i64 (_)] := hc8_21; have q2 : c33 = bx g4 34 #[.int .i64 (((ckS ((aS Xu nv ns x).2)).2))] := hc33; have q3 : c32 = bx g3 3 #[.int .i64 0] := hc32; subst q0 q1 q2 q3; exact S33) (⟨rfl, (ckS ((aS Xu nv ns x).2)).2, _, (ct_hit (ct_at hpre hz) (al_aS (nv := nv) hxl) (by omega)), rfl⟩))
  refine R_skip ?_
  refine tk H27 ?_
  refine R_region (by kernel_rfl) ?_
  refine W_r rfl rfl (VR_ldC rfl (fg1 F29) (cell_box (v := .int .i64 (n)) (S26.obj 1 rfl hc8_21) rfl) Try.underlying3 rfl) ?_
  refine W_v rfl rfl (V_mov rfl (es rfl (fg5 F29))) ?_
  refine W_v rfl rfl (V_add rfl (es rfl (et rfl)) (et rfl) (by omega) (by omega)) ?_
  refine W_stCS (zs' := #[.int .i64 ((n + (lnN ((aS Xu nv ns x).2))))]) 1 S26 rfl hc8_21 rfl rfl rfl (es3 rfl (fg1 F29)) (et rfl) (by rfl) (by rfl) (by kernel_rfl) (by first | rfl | (simp only [List.setIfInBounds_toArray, List.set_cons_succ, List.set_cons_zero] <;> rfl)) (fun w35 c35 hc35 S35 => ?_)
  replace S35 : St w NoX (cb_21 :: c35 :: c4_21 :: c3_21 :: fr) w35 := S35
  refine W_end ?_
  refine Qo_normal ?_
  refine gen_Q (fun A36 E36 => ?_)
  have Y36 := szq E36
  have F36 := fsE E36 (cq3 F29 rfl)
  clear E36 Y29 F29
  refine inb_n ?_
  exact (St.pack (l := [bx gb_12 29 #[cv, nv], bx g7 3 #[.int .i64 ((n + lnN (aS Xu nv ns x).2))], bx g4 34 #[.int .i64 0], bx g3 3 #[.int .i64 0]]) (fr := fr) (by have q0 : cb_21 = bx gb_12 29 #[cv, nv] := hcb_21; have q1 : c35 = bx g7 3 #[.int .i64 ((n + lnN (aS Xu nv ns x).2))] := hc35.trans (rfl); have q2 : c4_21 = bx g4 34 #[.int .i64 0] := hc4_21; have q3 : c3_21 = bx g3 3 #[.int .i64 0] := hc3_21; subst q0 q1 q2 q3; exact S35) (⟨(n + lnN (aS Xu nv ns x).2), (ct_snoc hpre hz (al_aS (nv := nv) hxl) (by omega)), (by subst hpre; simp at hn ⊢; omega), rfl⟩))
 ·intro D37 xs w37 hxs S37
  have hxs' : xs = (List.range (Xu.length + 1)) := hxs; subst hxs'; clear hxs
  obtain ⟨_, ⟨n, hz, hn, rfl⟩, S37⟩ := S37.unpack
  replace S37 : St w NoX ((bx gb_12 29 #[cv, nv]) :: (bx g7 3 #[.int .i64 (n)]) :: (bx g4 34 #[.int .i64 0]) :: (bx g3 3 #[.int .i64 0]) :: (ob D37 (.deferred (some []))) :: []) w37 := S37
  obtain ⟨cb_37, c8_37, c4_37, c3_37, cD37, hcb_37, hc8_37, hc4_37, hc3_37, hcD37, S37⟩ := gen5 S37
  refine gen_Q (fun A37 E37 => ?_)
  have Y37 := szq E37
  have hdf37 : A37.defers = [{ target := .collected D37, args := #[] }] := by rw [E37, df_mk, F13.d] <;> rfl
  have l2_37 := lookE E37 2 (mk_l (fg3 F13))
  have l3_37 := lookE E37 3 (mk_l (fg2 F13))
  have l4_37 := lookE E37 4 (mk_l (fg1 F13))
  clear E37
  refine inb_n ?_
  refine tk H10 ?_
  refine R_seq (fun K38 H38 => ?_)
  refine R_region (by kernel_rfl) ?_
  refine W_r rfl rfl (VR_ldC rfl l4_37 (cell_box (v := .int .i64 (n)) (S37.obj 1 rfl hc8_37) rfl) Try.underlying3 rfl) ?_
  refine W_stCS (zs' := #[.int .i64 (n)]) 3 S37 rfl hc3_37 rfl rfl rfl (es rfl l2_37) (et rfl) (by rfl) (by rfl) (by kernel_rfl) (by first | rfl | (simp only [List.setIfInBounds_toArray, List.set_cons_succ, List.set_cons_zero] <;> rfl)) (fun w39 c39 hc39 S39 => ?_)
  replace S39 : St w NoX [cb_37, c8_37, c4_37, c39, cD37] w39 := S39
  refine W_stCS (zs' := #[.int .i64 0]) 2 S39 rfl hc4_37 rfl rfl rfl (es rfl l3_37) rfl (by rfl) (by rfl) (by kernel_rfl) (by first | rfl | (simp only [List.setIfInBounds_toArray, List.set_cons_succ, List.set_cons_zero] <;> rfl)) (fun w40 c40 hc40 S40 => ?_)
  replace S40 : St w NoX [cb_37, c8_37, c40, c39, cD37] w40 := S40
  refine W_end ?_
  refine Qo_normal ?_
  refine gen_Q (fun A41 E41 => ?_)
  have Y41 := szq E41
  have F41 := ((fsE E41 (cq1 (FS.n hdf37) rfl)).c (lookE E41 2 (es rfl l2_37))).c (lookE E41 3 (es rfl l3_37))
  clear E41 Y37 hdf37 l2_37 l3_37 l4_37
  have S42 : St w NoX [c40, c39, cD37] w40 := S40.sel [2, 3, 4] (by decide) rfl
  refine tk H38 ?_
  refine R_ret ?_
  have hD43 := S42.obj 2 rfl hcD37
  have S43 := S42.put (o' := .deferred none) 2 rfl hcD37
  obtain ⟨w43, hw43⟩ : ∃ w', w' = w40.putObj D37 (.deferred none) := ⟨_, rfl⟩
  rw [← hw43] at S43
  replace S43 : St w NoX [c40, c39, (ob D37 (.deferred none))] w43 := S43
  refine ret_inR1' (D := D37) (w1 := w43) hw43 (results_2 Try.results15 (rv_cellC (fg1 F41) (cell_box (S43.obj 1 rfl hc39) rfl) Try.underlying3 rfl) (rv_cellC (fg0 F41) (cell_box (S43.obj 0 rfl hc40) rfl) Try.underlying34 rfl)) F41.d hD43 ?_
  have he := ct_end hz (by simp [csF_len])
  rw [he]
  exact ⟨rfl, S43.fin0⟩
 intro D44 cQ pre w44 hpre S44
 obtain ⟨_, hx, S44⟩ := S44.unpack
 rcases hx with ⟨rfl, e, n, hx, rfl⟩
 replace S44 : St w NoX ((bx gb_12 29 #[cv, nv]) :: (bx g7 3 #[.int .i64 (n)]) :: (bx g4 34 #[.int .i64 (e)]) :: (bx g3 3 #[.int .i64 0]) :: (ob D44 (.deferred (some []))) :: []) w44 := S44
 obtain ⟨cb_44, c8_44, c4_44, c3_44, cD44, hcb_44, hc8_44, hc4_44, hc3_44, hcD44, S44⟩ := gen5 S44
 refine gen_w (fun A44 E44 => ?_)
 have Y44 := szq E44
 have hdf44 : A44.defers = [{ target := .collected D44, args := #[] }] := by rw [E44, df_mk, F13.d] <;> rfl
 have l2_44 := lookE E44 2 (mk_l (fg3 F13))
 have l3_44 := lookE E44 3 (mk_l (fg2 F13))
 clear E44
 refine R_ret ?_
 refine inb_ret ?_
 refine then_ret ?_
 have hD45 := S44.obj 4 rfl hcD44
 have S45 := S44.put (o' := .deferred none) 4 rfl hcD44
 obtain ⟨w45, hw45⟩ : ∃ w', w' = w44.putObj D44 (.deferred none) := ⟨_, rfl⟩
 rw [← hw45] at S45
 replace S45 : St w NoX [cb_44, c8_44, c4_44, c3_44, (ob D44 (.deferred none))] w45 := S45
 refine ret_inR1' (D := D44) (w1 := w45) hw45 (results_2 Try.results15 (rv_cellC l2_44 (cell_box (S45.obj 3 rfl hc3_44) rfl) Try.underlying3 rfl) (rv_cellC l3_44 (cell_box (S45.obj 2 rfl hc4_44) rfl) Try.underlying34 rfl)) hdf44 hD45 ?_
 have he := hx
 rw [he]
 exact ⟨rfl, S45.fin0⟩

set_option maxHeartbeats 4000000 in
theorem kSm8_c {cv : Value} {X : List (List Int)} {nv : Value} {ns : List Int} {dv : Value} {Y : List (List Int)} {mv : Value} {ms : List Int} {w : World} (h_cv : Ro w NoX (rmR cv X)) (h_nv : Ro w NoX (il .i64 nv ns)) (h_dv : Ro w NoX (rmR dv Y)) (h_mv : Ro w NoX (il .i64 mv ms))  :
  Calls Try.prog 17 #[.agg #[cv, nv], .agg #[dv, mv]] w fun e w' => e = .returned (.bool (smB (X ++ [ns]) (Y ++ [ms]))) ∧ St w NoX [] w' := by
 obtain ⟨Xu, hXu, k_cv, n_cv⟩ := rmR_open h_cv
 subst hXu
 have b_cv := SlN.le (sl_SlN k_cv.at)
 obtain ⟨Yu, hYu, k_dv, n_dv⟩ := rmR_open h_dv
 subst hYu
 have b_dv := SlN.le (sl_SlN k_dv.at)
 have f_al := nsi_all n_cv h_nv
 refine calls_inR 54 Try.func17 rfl rfl (by simp) (fun A0 Y0 hdf0 hargs => ?_)
 have l0_0 := hargs 0 (.agg #[cv, nv]) rfl
 have l1_0 := hargs 1 (.agg #[dv, mv]) rfl
 clear hargs; replace Y0 : SzN A0 54 := ⟨Y0⟩
 have hS := St.nil w
 have bh_nv := SlN.le (sl_SlN h_nv.at)
 have bh_mv := SlN.le (sl_SlN h_mv.at)
 have bk_cv := SlN.le (sl_SlN k_cv.at)
 have bk_dv := SlN.le (sl_SlN k_dv.at)
 refine R_seq (fun K1 H1 => ?_)
 refine R_region (by kernel_rfl) ?_
 refine W_boxS (zs := #[cv, nv]) hS rfl rfl rfl l0_0 (by rfl) (fun g2 w2 c2 hc2 S2 => ?_)
 replace S2 : St w NoX [c2] w2 := S2
 refine W_boxS (zs := #[dv, mv]) S2 rfl rfl rfl (es rfl l1_0) (by rfl) (fun g3 w3 c3 hc3 S3 => ?_)
 replace S3 : St w NoX [c3, c2] w3 := S3
 refine W_allocS (z := .bool false) (zs := #[.bool false]) S3 rfl rfl rfl (by kernel_rfl) (by rfl) (fun g4 w4 c4 hc4 S4 => ?_)
 replace S4 : St w NoX [c4, c3, c2] w4 := S4
 refine W_end ?_
 refine Qo_normal ?_
 refine gen_Q (fun A5 E5 => ?_)
 have Y5 := szq E5
 have F5 := fsE E5 (ck (ck (ck (FS.n hdf0) rfl rfl) rfl rfl) rfl rfl)
 clear E5 Y0 hdf0 l0_0 l1_0
 refine tk H1 ?_
 refine R_seq (fun K6 H6 => ?_)
 refine R_seq (fun K7 H7 => ?_)
 refine R_region (by kernel_rfl) ?_
 refine W_v rfl rfl (V_fa (off' := 0) rfl (fg2 F5) Try.underlying29 rfl (by decide +kernel) rfl) ?_
 refine W_r rfl rfl (VR_ldC rfl (et rfl) (cell_box (v := cv) (S4.obj 2 rfl hc2) rfl) Try.underlying24 rfl) ?_
 refine W_v rfl rfl (V_lenS rfl (et rfl) (sl_SlN k_cv.at) Try.underlying24) ?_
 refine W_v rfl rfl (V_fa (off' := 0) rfl (es3 rfl (fg1 F5)) Try.underlying29 rfl (by decide +kernel) rfl) ?_
 refine W_r rfl rfl (VR_ldC rfl (et rfl) (cell_box (v := dv) (S4.obj 1 rfl hc3) rfl) Try.underlying24 rfl) ?_
 refine W_v rfl rfl (V_lenS rfl (et rfl) (sl_SlN k_dv.at) Try.underlying24) ?_
 refine W_v rfl rfl (V_neq rfl (es3 rfl (et rfl)) (et rfl)) ?_
 refine W_end ?_
 refine Qo_normal ?_
 refine gen_Q (fun A8 E8 => ?_)
 have Y8 := szq E8
 have F8 := fsE E8 (ck (cq6 F5 rfl) rfl rfl)
 clear E8 Y5 F5
 refine tk H7 ?_
 refine R_cond_dec (fg0 F8) (fun c9 => ?_) (fun c9 => ?_)
 ·refine R_seq (fun K10 H10 => ?_)
  refine R_region (by kernel_rfl) ?_
  refine W_stCS (zs' := #[.bool false]) 0 S4 rfl hc4 rfl rfl rfl (fg1 F8) rfl (by rfl) (by rfl) (by kernel_rfl) (by first | rfl | (simp only [List.setIfInBounds_toArray, List.set_cons_succ, List.set_cons_zero] <;> rfl)) (fun w11 c11 hc11 S11 => ?_)
  replace S11 : St w NoX [c11, c3, c2] w11 := S11
  refine W_end ?_
  refine Qo_normal ?_
  refine tk H10 ?_
  refine R_ret ?_
  refine then_ret ?_
  refine ret_inR0 (results_1 Try.results17 (rv_cellC (fg1 F8) (cell_box (S11.obj 0 rfl hc11) rfl) Try.underlying4 rfl)) F8.d ?_
  rw [show (smB (csF Xu ++ [ns]) (csF Yu ++ [ms])) = false from smB_len (by simp [csF_len]; omega)]
  exact ⟨rfl, S11.fin0⟩
 refine R_skip ?_
 refine tk H6 ?_
 refine R_seq (fun K12 H12 => ?_)
 refine R_seq (fun K13 H13 => ?_)
 refine R_region (by kernel_rfl) ?_
 refine W_r rfl rfl (VR_ldA rfl (fg3 F8) (S4.obj 2 rfl hc2) Try.underlying29 rfl (by kernel_rfl)) ?_
 refine W_call rfl rfl rfl Try.func41 (by kernel_rfl) rfl (args1 (et rfl)) (kall8_c (S4.roC k_cv) (S4.roC n_cv) (S4.roC h_nv) ) ?_
 rintro _ w14 ⟨gb_14, rfl, hP14⟩
 refine ⟨_, rfl, ?_⟩
 obtain ⟨cb_14, hcb_14, hP14⟩ := gen1 hP14
 have S14 := S4.join hP14
 replace S14 : St w NoX [cb_14, c4, c3, c2] w14 := S14
 refine W_end ?_
 refine Qo_normal ?_
 refine gen_Q (fun A15 E15 => ?_)
 have Y15 := szq E15
 have F15 := fsE E15 (ck (cq1 F8 rfl) rfl rfl)
 clear E15 Y8 F8
 have S16 : St w NoX [cb_14, c4, c3] w14 := S14.sel [0, 1, 2] (by decide) rfl
 refine tk H13 ?_
 refine R_block ?_
 refine R_rangeS (α := Nat) (fg0 F15) (fun args w => calls_enter Try.func71 rfl rfl args w) (kall8_it (gb := gb_14) (cv := cv) (U := Xu) (nv := nv) (ns := ns) (Rd := fun W => (bx gb_14 29 #[cv, nv]).at W ∧ (rl 1 fstC cv Xu).at W ∧ (nsi Xu).at W ∧ (il .i64 nv ns).at W) (fun _ h => h)) (fun _ => rfl) (fun pre => pk (fun l => (∀ j, j < pre.length → smQ ((csF Xu ++ [ns]).getD j []) ((csF Yu ++ [ms]).getD j []) = true) ∧ l = [bx gb_14 29 #[cv, nv], bx g4 4 #[.bool false], bx g3 29 #[dv, mv]])) (fun cQ pre => pk (fun l => (cQ = .ret ∧ (smB (csF Xu ++ [ns]) (csF Yu ++ [ms]) = false) ∧ l = [bx gb_14 29 #[cv, nv], bx g4 4 #[.bool false], bx g3 29 #[dv, mv]]))) (St.pack (l := [bx gb_14 29 #[cv, nv], bx g4 4 #[.bool false], bx g3 29 #[dv, mv]]) (fr := []) (by have q0 : cb_14 = bx gb_14 29 #[cv, nv] := hcb_14; have q1 : c4 = bx g4 4 #[.bool false] := hc4; have q2 : c3 = bx g3 29 #[dv, mv] := hc3; subst q0 q1 q2; exact S16) ⟨(fun j hj => by simp at hj), rfl⟩)
  (fun pre W l' hS => by obtain ⟨l, ⟨hz, rfl⟩, hl⟩ := pk_at (hS.ch 0 rfl); exact ⟨(hl 0 _ rfl), hS.ro k_cv, hS.ro n_cv, hS.ro h_nv⟩)
  (fun x a' cQ => ∃ g21 : Nat, SzN a' 54 ∧ a'.defers = [] ∧ EV a' (.tmp 3) = EV A15 (.tmp 3) ∧ EV a' (.tmp 4) = EV A15 (.tmp 4) ∧ EV a' (.tmp 5) = .int .i64 ((aI Xu x)) ∧ EV a' (.tmp 6) = .pointer (some ⟨g21, 0, none⟩) ∧ cQ = pk (·= [bx g21 27 #[(aS Xu nv ns x).1]])) ?_ ?_ ?_ ?_
 ·intro la17 pre x wa17 fr K hSa17 hK
  simp only [encA]
  rw [rnd2]
  obtain ⟨A18, E18⟩ : ∃ A, A = (PT (PT { tmps := A15.tmps, defers := [] } 21 (.int .i64 (aI Xu x))) 22 (.agg #[(aS Xu nv ns x).1])) := ⟨_, rfl⟩
  rw [← E18]
  have Y18 := szq E18
  have hdf18 : A18.defers = [] := by rw [E18]; rfl
  have l3_18 := lookE E18 3 (es2 rfl (rnd_l (fg3 F15)))
  have l4_18 := lookE E18 4 (es2 rfl (rnd_l (fg2 F15)))
  have l21_18 := lookE E18 21 (es rfl (et rfl))
  have l22_18 := lookE E18 22 (et rfl)
  clear E18
  obtain ⟨cI, hcI, hSa17⟩ := gen1 hSa17
  refine R_seq (fun K19 H19 => ?_)
  refine R_region (by kernel_rfl) ?_
  refine W_v rfl rfl (V_asg rfl l21_18) ?_
  refine W_end ?_
  refine Qo_normal ?_
  refine gen_Q (fun A20 E20 => ?_)
  have Y20 := szq E20
  have F20 := (((fsE E20 (ck (FS.n hdf18) rfl rfl)).c (lookE E20 3 (es rfl l3_18))).c (lookE E20 4 (es rfl l4_18))).c (lookE E20 22 (es rfl l22_18))
  clear E20 Y18 hdf18 l3_18 l4_18 l21_18 l22_18
  refine tk H19 ?_
  refine R_region (by kernel_rfl) ?_
  refine W_allocS (z := .agg #[.slice none 0 0]) (zs := #[.slice none 0 0]) hSa17 rfl rfl rfl (by kernel_rfl) (by rfl) (fun g21 w21 c21 hc21 S21 => ?_)
  replace S21 : St w NoX (c21 :: cI :: fr) w21 := S21
  refine W_stAS 0 S21 rfl hc21 rfl rfl rfl (et rfl) (es rfl (fg0 F20)) (by simp only [List.all_toArray, List.all_cons, List.all_nil, SlN_one (sl_SlN (f_al x).at)] <;> rfl) (by rfl) (by kernel_rfl) (fun w22 c22 hc22 S22 => ?_)
  replace S22 : St w NoX (c22 :: cI :: fr) w22 := S22
  refine W_end ?_
  refine Qo_normal ?_
  refine gen_Q (fun A23 E23 => ?_)
  have Y23 := szq E23
  have F23 := fsE E23 (ck F20 rfl rfl)
  clear E23 Y20 F20
  refine then_n ?_
  refine hK _ _ _ ⟨g21, Y23, F23.d, ((fg3 F23).trans (fg3 F15).symm), ((fg2 F23).trans (fg2 F15).symm), (fg4 F23), (fg0 F23), rfl⟩ ?_
  subst hc22 hcI; exact S22.asg1
 ·rintro lb24 pre x A24 w24 cQ fr hAx hlr S24 hVd
  obtain ⟨g21, Y24, hdf24, u3_24, u4_24, l5_24, l6_24, rfl⟩ := hAx
  have l3_24 := u3_24.trans (fg3 F15)
  have l4_24 := u4_24.trans (fg2 F15)
  obtain ⟨_, _, ⟨hz, rfl⟩, rfl, S24⟩ := S24.body2
  replace S24 : St w NoX ((bx gb_14 29 #[cv, nv]) :: (bx g4 4 #[.bool false]) :: (bx g3 29 #[dv, mv]) :: (bx g21 27 #[(aS Xu nv ns x).1]) :: fr) w24 := S24
  obtain ⟨cb_25, c4_25, c3_25, c22_25, hcb_25, hc4_25, hc3_25, hc22_25, S24⟩ := gen4 S24
  obtain ⟨hxl, hpre⟩ := rng_vd hVd
  have bf_x := SlN.le (sl_SlN (f_al x).at)
  have hai := aI_rng Xu x
  refine R_block ?_
  refine R_seq (fun K26 H26 => ?_)
  refine R_region (by kernel_rfl) ?_
  refine W_v rfl rfl (V_fa (off' := 1) rfl l3_24 Try.underlying29 rfl (by decide +kernel) rfl) ?_
  refine W_r rfl rfl (VR_ldP (ys := [mv]) rfl (et rfl) (S24.obj 2 rfl hc3_25) (ldP_at rfl) Try.underlying27 rfl (by kernel_rfl)) ?_
  refine W_allocS (z := .agg #[.slice none 0 0]) (zs := #[.slice none 0 0]) S24 rfl rfl rfl (by kernel_rfl) (by rfl) (fun g27 w27 c27 hc27 S27 => ?_)
  replace S27 : St w NoX (c27 :: cb_25 :: c4_25 :: c3_25 :: c22_25 :: fr) w27 := S27
  refine W_stAS 0 S27 rfl hc27 rfl rfl rfl (et rfl) (es rfl (et rfl)) (by simp only [List.all_toArray, List.all_cons, List.all_nil, SlN_one (sl_SlN h_mv.at)] <;> rfl) (by rfl) (by kernel_rfl) (fun w28 c28 hc28 S28 => ?_)
  replace S28 : St w NoX (c28 :: cb_25 :: c4_25 :: c3_25 :: c22_25 :: fr) w28 := S28
  refine W_end ?_
  refine Qo_normal ?_
  refine gen_Q (fun A29 E29 => ?_)
  have Y29 := szq E29
  have F29 := ((((fsE E29 (ck (cq2 (FS.n hdf24) rfl) rfl rfl)).c (lookE E29 3 (es3 rfl l3_24))).c (lookE E29 4 (es3 rfl l4_24))).c (lookE E29 5 (es3 rfl l5_24))).c (lookE E29 6 (es3 rfl l6_24))
  clear E29 Y24 hdf24 l3_24 l4_24 l5_24 l6_24
  refine tk H26 ?_
  refine R_seq (fun K30 H30 => ?_)
  refine R_seq (fun K31 H31 => ?_)
  refine R_region (by kernel_rfl) ?_
  refine W_v rfl rfl (V_mov rfl (fg1 F29)) ?_
  refine W_v rfl rfl (V_geq rfl (et rfl) rfl) ?_
  refine W_end ?_
  refine Qo_normal ?_
  refine gen_Q (fun A32 E32 => ?_)
  have Y32 := szq E32
  have F32 := fsE E32 (ck (cq1 F29 rfl) rfl rfl)
  clear E32 Y29 F29
  refine tk H31 ?_
  refine R_cond_dec (fg0 F32) (fun c33 => ?_) (fun c33 => ?_)
  ·refine R_region (by kernel_rfl) ?_
   refine W_v rfl rfl (V_fa (off' := 0) rfl (fg4 F32) Try.underlying29 rfl (by decide +kernel) rfl) ?_
   refine W_r rfl rfl (VR_ldC rfl (et rfl) (cell_box (v := dv) (S28.obj 3 rfl hc3_25) rfl) Try.underlying24 rfl) ?_
   refine W_v rfl rfl (V_mov rfl (es2 rfl (fg2 F32))) ?_
   have k34 : x < Yu.length := by first | omega | (simp only [List.length_cons, List.length_nil]; omega) | (simp only [List.length_set]; omega) | decide
   obtain ⟨y34, hy34⟩ := get_some (xs := Yu) (k := x) k34
   obtain ⟨B34, O34, C34, hv34⟩ := (SlN.blk (sl_SlN k_dv.at) (by first | omega | (simp only [List.length_cons, List.length_nil]; omega) | (simp only [List.length_set]; omega) | decide))
   refine W_v rfl rfl (V_ixS (off := O34 + x * 1) 1 (x) rfl (es rfl (et rfl)) (et rfl) hv34 (by omega) k34 Try.underlying24 (by kernel_rfl) rfl) ?_
   have fn35 : Ro w NoX (il .i64 y34.1 y34.2) := nsi_ro1 n_dv hy34
   have bfn35 := SlN.le (sl_SlN (S28.ro fn35))
   refine W_r rfl rfl (VR_ldR (ys := fstC y34) rfl (et rfl) (SlN.row fstC_len (sl_SlN (S28.ro k_dv)) hv34 hy34 rfl) Try.underlying27 rfl (by kernel_rfl)) ?_
   refine W_stAS 0 S28 rfl hc28 rfl rfl rfl (es5 rfl (fg5 F32)) (et rfl) (by simp only [List.all_toArray, List.all_cons, List.all_nil, fstC, SlN_one (sl_SlN fn35.at)] <;> rfl) (by rfl) (by kernel_rfl) (fun w36 c36 hc36 S36 => ?_)
   replace S36 : St w NoX (c36 :: cb_25 :: c4_25 :: c3_25 :: c22_25 :: fr) w36 := S36
   refine W_end ?_
   refine Qo_normal ?_
   refine gen_Q (fun A37 E37 => ?_)
   have Y37 := szq E37
   have F37 := fsE E37 (cq5 F32 rfl)
   clear E37 Y32 F32
   refine tk H30 ?_
   refine R_seq (fun K38 H38 => ?_)
   refine R_region (by kernel_rfl) ?_
   refine W_r rfl rfl (VR_ldA rfl (fg1 F37) (S36.obj 4 rfl hc22_25) Try.underlying27 rfl (by kernel_rfl)) ?_
   refine W_call rfl rfl rfl Try.func44 (by kernel_rfl) rfl (args1 (et rfl)) (kList_c (S36.roC (f_al x)) ) ?_
   rintro _ w39 ⟨v_39, rfl, hP39⟩
   refine ⟨_, rfl, ?_⟩
   obtain ⟨c_39, hc_39, hP39⟩ := gen1 hP39
   have S39 := S36.join hP39
   replace S39 : St w NoX (c_39 :: c36 :: cb_25 :: c4_25 :: c3_25 :: c22_25 :: fr) w39 := S39
   refine W_v rfl rfl (V_mov rfl (et rfl)) ?_
   refine W_v rfl rfl (V_ext (v := v_39) rfl (et rfl) rfl) ?_
   refine W_v rfl rfl (V_ext (v := .int .i64 ((ckS ((aS Xu nv ns x).2)).2)) rfl (es rfl (et rfl)) rfl) ?_
   refine W_v rfl rfl (V_asg rfl (es rfl (et rfl))) ?_
   refine W_v rfl rfl (V_asg rfl (es rfl (et rfl))) ?_
   refine W_end ?_
   refine Qo_normal ?_
   refine gen_Q (fun A40 E40 => ?_)
   have Y40 := szq E40
   have F40 := fsE E40 (ck (ck (cq5 F37 rfl) rfl rfl) rfl rfl)
   clear E40 Y37 F37
   have S42 := S39.del 5
   replace S42 : St w NoX (c_39 :: c36 :: cb_25 :: c4_25 :: c3_25 :: fr) w39 := S42
   refine tk H38 ?_
   refine R_seq (fun K43 H43 => ?_)
   refine R_region (by kernel_rfl) ?_
   refine W_r rfl rfl (VR_ldA rfl (fg7 F40) (S42.obj 1 rfl hc36) Try.underlying27 rfl (by kernel_rfl)) ?_
   refine W_call rfl rfl rfl Try.func44 (by kernel_rfl) rfl (args1 (et rfl)) (kList_c (S42.roC fn35) ) ?_
   rintro _ w44 ⟨v_44, rfl, hP44⟩
   refine ⟨_, rfl, ?_⟩
   obtain ⟨c_44, hc_44, hP44⟩ := gen1 hP44
   have S44 := S42.join hP44
   replace S44 : St w NoX (c_44 :: c_39 :: c36 :: cb_25 :: c4_25 :: c3_25 :: fr) w44 := S44
   refine W_v rfl rfl (V_mov rfl (et rfl)) ?_
   refine W_v rfl rfl (V_ext (v := v_44) rfl (et rfl) rfl) ?_
   refine W_v rfl rfl (V_ext (v := .int .i64 ((ckS y34.2).2)) rfl (es rfl (et rfl)) rfl) ?_
   refine W_v rfl rfl (V_asg rfl (es rfl (et rfl))) ?_
   refine W_v rfl rfl (V_asg rfl (es rfl (et rfl))) ?_
   refine W_end ?_
   refine Qo_normal ?_
   refine gen_Q (fun A45 E45 => ?_)
   have Y45 := szq E45
   have F45 := fsE E45 (ck (ck (cq5 F40 rfl) rfl rfl) rfl rfl)
   clear E45 Y40 F40
   have S47 := S44.del 2
   replace S47 : St w NoX (c_44 :: c_39 :: cb_25 :: c4_25 :: c3_25 :: fr) w44 := S47
   refine tk H43 ?_
   refine R_seq (fun K48 H48 => ?_)
   refine R_region (by kernel_rfl) ?_
   refine W_v rfl rfl (V_mov rfl (fg2 F45)) ?_
   refine W_v rfl rfl (V_neq rfl (et rfl) rfl) ?_
   refine W_split rfl rfl (V_mov rfl (et rfl)) (fun c49 => ?_) (fun c49 => ?_)
   ·refine W_off rfl (wanted_f rfl rfl (et rfl) (ez rfl) rfl) ?_
    refine W_off rfl (wanted_f rfl rfl (es rfl (et rfl)) (ez rfl) rfl) ?_
    refine W_v rfl rfl (V_pickT rfl (es2 rfl (et rfl)) rfl) ?_
    refine W_v rfl rfl (V_mov rfl (et rfl)) ?_
    refine W_off rfl (wanted_f rfl rfl (et rfl) (ez rfl) rfl) ?_
    refine W_off rfl (wanted_f rfl rfl (es rfl (et rfl)) (ez rfl) rfl) ?_
    refine W_off rfl (wanted_f rfl rfl (es2 rfl (et rfl)) (ez rfl) rfl) ?_
    refine W_off rfl (wanted_f rfl rfl (es3 rfl (et rfl)) (ez rfl) rfl) ?_
    refine W_v rfl rfl (V_pickT rfl (es4 rfl (et rfl)) rfl) ?_
    refine W_end ?_
    refine Qo_normal ?_
    refine gen_Q (fun A50 E50 => ?_)
    have Y50 := szq E50
    have F50 := fsE E50 (ck (cq3 (cq8 F45 rfl) rfl) rfl rfl)
    clear E50 Y45 F45
    have S52 := S47.del 0
    replace S52 : St w NoX (c_39 :: cb_25 :: c4_25 :: c3_25 :: fr) w44 := S52
    have S53 := S52.del 0
    replace S53 : St w NoX (cb_25 :: c4_25 :: c3_25 :: fr) w44 := S53
    refine tk H48 ?_
    refine R_cond_t (fg0 F50) ?_
    refine R_seq (fun K54 H54 => ?_)
    refine R_region (by kernel_rfl) ?_
    refine W_stCS (zs' := #[.bool false]) 1 S53 rfl hc4_25 rfl rfl rfl (fg8 F50) rfl (by rfl) (by rfl) (by kernel_rfl) (by first | rfl | (simp only [List.setIfInBounds_toArray, List.set_cons_succ, List.set_cons_zero] <;> rfl)) (fun w55 c55 hc55 S55 => ?_)
    replace S55 : St w NoX (cb_25 :: c55 :: c3_25 :: fr) w55 := S55
    refine W_end ?_
    refine Qo_normal ?_
    refine tk H54 ?_
    refine R_ret ?_
    refine inb_ret ?_
    exact (St.pack (l := [bx gb_14 29 #[cv, nv], bx g4 4 #[.bool false], bx g3 29 #[dv, mv]]) (fr := fr) (by have q0 : cb_25 = bx gb_14 29 #[cv, nv] := hcb_25; have q1 : c55 = bx g4 4 #[.bool false] := hc55; have q2 : c3_25 = bx g3 29 #[dv, mv] := hc3_25; subst q0 q1 q2; exact S55) (⟨rfl, (smB_no (k := x) (by simp [csF_len]; omega) (by rw [gD_aS (nv := nv), gD_row hy34]; exact smQ_F (fun q => by have q1 := q.1; have q2 := q.2.1; have q3 := q.2.2; first | omega | exact absurd q3 (by simpa using c49)))), rfl⟩))
   refine W_v rfl (wanted_t rfl rfl (et rfl) (ez rfl)) (V_mov rfl (es3 rfl (fg0 F45))) ?_
   refine W_v rfl (wanted_t rfl rfl (es rfl (et rfl)) (ez rfl)) (V_neq rfl (et rfl) rfl) ?_
   refine W_v rfl rfl (V_pickF rfl (es2 rfl (et rfl)) (et rfl)) ?_
   refine W_split rfl rfl (V_mov rfl (et rfl)) (fun c56 => ?_) (fun c56 => ?_)
   ·refine W_off rfl (wanted_f rfl rfl (et rfl) (ez rfl) rfl) ?_
    refine W_off rfl (wanted_f rfl rfl (es rfl (et rfl)) (ez rfl) rfl) ?_
    refine W_off rfl (wanted_f rfl rfl (es2 rfl (et rfl)) (ez rfl) rfl) ?_
    refine W_off rfl (wanted_f rfl rfl (es3 rfl (et rfl)) (ez rfl) rfl) ?_
    refine W_v rfl rfl (V_pickT rfl (es4 rfl (et rfl)) rfl) ?_
    refine W_end ?_
    refine Qo_normal ?_
    refine gen_Q (fun A57 E57 => ?_)
    have Y57 := szq E57
    have F57 := fsE E57 (ck (cq3 (cq8 F45 rfl) rfl) rfl rfl)
    clear E57 Y45 F45
    have S59 := S47.del 0
    replace S59 : St w NoX (c_39 :: cb_25 :: c4_25 :: c3_25 :: fr) w44 := S59
    have S60 := S59.del 0
    replace S60 : St w NoX (cb_25 :: c4_25 :: c3_25 :: fr) w44 := S60
    refine tk H48 ?_
    refine R_cond_t (fg0 F57) ?_
    refine R_seq (fun K61 H61 => ?_)
    refine R_region (by kernel_rfl) ?_
    refine W_stCS (zs' := #[.bool false]) 1 S60 rfl hc4_25 rfl rfl rfl (fg8 F57) rfl (by rfl) (by rfl) (by kernel_rfl) (by first | rfl | (simp only [List.setIfInBounds_toArray, List.set_cons_succ, List.set_cons_zero] <;> rfl)) (fun w62 c62 hc62 S62 => ?_)
    replace S62 : St w NoX (cb_25 :: c62 :: c3_25 :: fr) w62 := S62
    refine W_end ?_
    refine Qo_normal ?_
    refine tk H61 ?_
    refine R_ret ?_
    refine inb_ret ?_
    exact (St.pack (l := [bx gb_14 29 #[cv, nv], bx g4 4 #[.bool false], bx g3 29 #[dv, mv]]) (fr := fr) (by have q0 : cb_25 = bx gb_14 29 #[cv, nv] := hcb_25; have q1 : c62 = bx g4 4 #[.bool false] := hc62; have q2 : c3_25 = bx g3 29 #[dv, mv] := hc3_25; subst q0 q1 q2; exact S62) (⟨rfl, (smB_no (k := x) (by simp [csF_len]; omega) (by rw [gD_aS (nv := nv), gD_row hy34]; exact smQ_F (fun q => by have q1 := q.1; have q2 := q.2.1; have q3 := q.2.2; first | omega | exact absurd q3 (by simpa using c56)))), rfl⟩))
   refine W_v rfl (wanted_t rfl rfl (et rfl) (ez rfl)) (V_mov rfl (es7 rfl (fg3 F45))) ?_
   refine W_v rfl (wanted_t rfl rfl (es rfl (et rfl)) (ez rfl)) (V_mov rfl (es8 rfl (fg1 F45))) ?_
   refine W_call rfl (wanted_t rfl rfl (es2 rfl (et rfl)) (ez rfl)) rfl Try.func53 (by kernel_rfl) rfl (args2 (es rfl (et rfl)) (et rfl)) (keqI_c (S47.chC 1 rfl hc_39).own (S47.chC 0 rfl hc_44).own ) ?_
   rintro _ w63 ⟨rfl, hP63⟩
   refine ⟨_, rfl, ?_⟩
   have S63 := S47.join hP63
   replace S63 : St w NoX (c_44 :: c_39 :: cb_25 :: c4_25 :: c3_25 :: fr) w63 := S63
   refine W_v rfl (wanted_t rfl rfl (es3 rfl (et rfl)) (ez rfl)) (V_notd rfl (et rfl)) ?_
   refine W_v rfl rfl (V_pickF rfl (es4 rfl (et rfl)) (et rfl)) ?_
   refine W_end ?_
   refine Qo_normal ?_
   refine gen_Q (fun A64 E64 => ?_)
   have Y64 := szq E64
   have F64 := fsE E64 (ck (cq3 (cq8 F45 rfl) rfl) rfl rfl)
   clear E64 Y45 F45
   have S66 := S63.del 0
   replace S66 : St w NoX (c_39 :: cb_25 :: c4_25 :: c3_25 :: fr) w63 := S66
   have S67 := S66.del 0
   replace S67 : St w NoX (cb_25 :: c4_25 :: c3_25 :: fr) w63 := S67
   refine tk H48 ?_
   refine R_cond_dec (fg0 F64) (fun c68 => ?_) (fun c68 => ?_)
   ·refine R_seq (fun K69 H69 => ?_)
    refine R_region (by kernel_rfl) ?_
    refine W_stCS (zs' := #[.bool false]) 1 S67 rfl hc4_25 rfl rfl rfl (fg8 F64) rfl (by rfl) (by rfl) (by kernel_rfl) (by first | rfl | (simp only [List.setIfInBounds_toArray, List.set_cons_succ, List.set_cons_zero] <;> rfl)) (fun w70 c70 hc70 S70 => ?_)
    replace S70 : St w NoX (cb_25 :: c70 :: c3_25 :: fr) w70 := S70
    refine W_end ?_
    refine Qo_normal ?_
    refine tk H69 ?_
    refine R_ret ?_
    refine inb_ret ?_
    exact (St.pack (l := [bx gb_14 29 #[cv, nv], bx g4 4 #[.bool false], bx g3 29 #[dv, mv]]) (fr := fr) (by have q0 : cb_25 = bx gb_14 29 #[cv, nv] := hcb_25; have q1 : c70 = bx g4 4 #[.bool false] := hc70; have q2 : c3_25 = bx g3 29 #[dv, mv] := hc3_25; subst q0 q1 q2; exact S70) (⟨rfl, (smB_no (k := x) (by simp [csF_len]; omega) (by rw [gD_aS (nv := nv), gD_row hy34]; exact smQ_F (fun q => by have q1 := q.1; have q2 := q.2.1; have q3 := q.2.2; first | omega | exact absurd q3 (by simpa using c68)))), rfl⟩))
   refine R_skip ?_
   refine inb_n ?_
   exact (St.pack (l := [bx gb_14 29 #[cv, nv], bx g4 4 #[.bool false], bx g3 29 #[dv, mv]]) (fr := fr) (by have q0 : cb_25 = bx gb_14 29 #[cv, nv] := hcb_25; have q1 : c4_25 = bx g4 4 #[.bool false] := hc4_25; have q2 : c3_25 = bx g3 29 #[dv, mv] := hc3_25; subst q0 q1 q2; exact S67) (⟨(smp_step hpre hz (by rw [gD_aS (nv := nv), gD_row hy34]; exact smQ_T ⟨by omega, by omega, by simpa using c68⟩)), rfl⟩))
  refine R_skip ?_
  refine tk H30 ?_
  refine R_seq (fun K71 H71 => ?_)
  refine R_region (by kernel_rfl) ?_
  refine W_r rfl rfl (VR_ldA rfl (fg1 F32) (S28.obj 4 rfl hc22_25) Try.underlying27 rfl (by kernel_rfl)) ?_
  refine W_call rfl rfl rfl Try.func44 (by kernel_rfl) rfl (args1 (et rfl)) (kList_c (S28.roC (f_al x)) ) ?_
  rintro _ w72 ⟨v_72, rfl, hP72⟩
  refine ⟨_, rfl, ?_⟩
  obtain ⟨c_72, hc_72, hP72⟩ := gen1 hP72
  have S72 := S28.join hP72
  replace S72 : St w NoX (c_72 :: c28 :: cb_25 :: c4_25 :: c3_25 :: c22_25 :: fr) w72 := S72
  refine W_v rfl rfl (V_mov rfl (et rfl)) ?_
  refine W_v rfl rfl (V_ext (v := v_72) rfl (et rfl) rfl) ?_
  refine W_v rfl rfl (V_ext (v := .int .i64 ((ckS ((aS Xu nv ns x).2)).2)) rfl (es rfl (et rfl)) rfl) ?_
  refine W_v rfl rfl (V_asg rfl (es rfl (et rfl))) ?_
  refine W_v rfl rfl (V_asg rfl (es rfl (et rfl))) ?_
  refine W_end ?_
  refine Qo_normal ?_
  refine gen_Q (fun A73 E73 => ?_)
  have Y73 := szq E73
  have F73 := fsE E73 (ck (ck (cq5 F32 rfl) rfl rfl) rfl rfl)
  clear E73 Y32 F32
  have S75 := S72.del 5
  replace S75 : St w NoX (c_72 :: c28 :: cb_25 :: c4_25 :: c3_25 :: fr) w72 := S75
  refine tk H71 ?_
  refine R_seq (fun K76 H76 => ?_)
  refine R_region (by kernel_rfl) ?_
  refine W_r rfl rfl (VR_ldA rfl (fg7 F73) (S75.obj 1 rfl hc28) Try.underlying27 rfl (by kernel_rfl)) ?_
  refine W_call rfl rfl rfl Try.func44 (by kernel_rfl) rfl (args1 (et rfl)) (kList_c (S75.roC h_mv) ) ?_
  rintro _ w77 ⟨v_77, rfl, hP77⟩
  refine ⟨_, rfl, ?_⟩
  obtain ⟨c_77, hc_77, hP77⟩ := gen1 hP77
  have S77 := S75.join hP77
  replace S77 : St w NoX (c_77 :: c_72 :: c28 :: cb_25 :: c4_25 :: c3_25 :: fr) w77 := S77
  refine W_v rfl rfl (V_mov rfl (et rfl)) ?_
  refine W_v rfl rfl (V_ext (v := v_77) rfl (et rfl) rfl) ?_
  refine W_v rfl rfl (V_ext (v := .int .i64 ((ckS ms).2)) rfl (es rfl (et rfl)) rfl) ?_
  refine W_v rfl rfl (V_asg rfl (es rfl (et rfl))) ?_
  refine W_v rfl rfl (V_asg rfl (es rfl (et rfl))) ?_
  refine W_end ?_
  refine Qo_normal ?_
  refine gen_Q (fun A78 E78 => ?_)
  have Y78 := szq E78
  have F78 := fsE E78 (ck (ck (cq5 F73 rfl) rfl rfl) rfl rfl)
  clear E78 Y73 F73
  have S80 := S77.del 2
  replace S80 : St w NoX (c_77 :: c_72 :: cb_25 :: c4_25 :: c3_25 :: fr) w77 := S80
  refine tk H76 ?_
  refine R_seq (fun K81 H81 => ?_)
  refine R_region (by kernel_rfl) ?_
  refine W_v rfl rfl (V_mov rfl (fg2 F78)) ?_
  refine W_v rfl rfl (V_neq rfl (et rfl) rfl) ?_
  refine W_split rfl rfl (V_mov rfl (et rfl)) (fun c82 => ?_) (fun c82 => ?_)
  ·refine W_off rfl (wanted_f rfl rfl (et rfl) (ez rfl) rfl) ?_
   refine W_off rfl (wanted_f rfl rfl (es rfl (et rfl)) (ez rfl) rfl) ?_
   refine W_v rfl rfl (V_pickT rfl (es2 rfl (et rfl)) rfl) ?_
   refine W_v rfl rfl (V_mov rfl (et rfl)) ?_
   refine W_off rfl (wanted_f rfl rfl (et rfl) (ez rfl) rfl) ?_
   refine W_off rfl (wanted_f rfl rfl (es rfl (et rfl)) (ez rfl) rfl) ?_
   refine W_off rfl (wanted_f rfl rfl (es2 rfl (et rfl)) (ez rfl) rfl) ?_
   refine W_off rfl (wanted_f rfl rfl (es3 rfl (et rfl)) (ez rfl) rfl) ?_
   refine W_v rfl rfl (V_pickT rfl (es4 rfl (et rfl)) rfl) ?_
   refine W_end ?_
   refine Qo_normal ?_
   refine gen_Q (fun A83 E83 => ?_)
   have Y83 := szq E83
   have F83 := fsE E83 (ck (cq3 (cq8 F78 rfl) rfl) rfl rfl)
   clear E83 Y78 F78
   have S85 := S80.del 0
   replace S85 : St w NoX (c_72 :: cb_25 :: c4_25 :: c3_25 :: fr) w77 := S85
   have S86 := S85.del 0
   replace S86 : St w NoX (cb_25 :: c4_25 :: c3_25 :: fr) w77 := S86
   refine tk H81 ?_
   refine R_cond_t (fg0 F83) ?_
   refine R_seq (fun K87 H87 => ?_)
   refine R_region (by kernel_rfl) ?_
   refine W_stCS (zs' := #[.bool false]) 1 S86 rfl hc4_25 rfl rfl rfl (fg8 F83) rfl (by rfl) (by rfl) (by kernel_rfl) (by first | rfl | (simp only [List.setIfInBounds_toArray, List.set_cons_succ, List.set_cons_zero] <;> rfl)) (fun w88 c88 hc88 S88 => ?_)
   replace S88 : St w NoX (cb_25 :: c88 :: c3_25 :: fr) w88 := S88
   refine W_end ?_
   refine Qo_normal ?_
   refine tk H87 ?_
   refine R_ret ?_
   refine inb_ret ?_
   exact (St.pack (l := [bx gb_14 29 #[cv, nv], bx g4 4 #[.bool false], bx g3 29 #[dv, mv]]) (fr := fr) (by have q0 : cb_25 = bx gb_14 29 #[cv, nv] := hcb_25; have q1 : c88 = bx g4 4 #[.bool false] := hc88; have q2 : c3_25 = bx g3 29 #[dv, mv] := hc3_25; subst q0 q1 q2; exact S88) (⟨rfl, (smB_no (k := x) (by simp [csF_len]; omega) (by rw [gD_aS (nv := nv), gD_nur (show x = Yu.length by omega)]; exact smQ_F (fun q => by have q1 := q.1; have q2 := q.2.1; have q3 := q.2.2; first | omega | exact absurd q3 (by simpa using c82)))), rfl⟩))
  refine W_v rfl (wanted_t rfl rfl (et rfl) (ez rfl)) (V_mov rfl (es3 rfl (fg0 F78))) ?_
  refine W_v rfl (wanted_t rfl rfl (es rfl (et rfl)) (ez rfl)) (V_neq rfl (et rfl) rfl) ?_
  refine W_v rfl rfl (V_pickF rfl (es2 rfl (et rfl)) (et rfl)) ?_
  refine W_split rfl rfl (V_mov rfl (et rfl)) (fun c89 => ?_) (fun c89 => ?_)
  ·refine W_off rfl (wanted_f rfl rfl (et rfl) (ez rfl) rfl) ?_
   refine W_off rfl (wanted_f rfl rfl (es rfl (et rfl)) (ez rfl) rfl) ?_
   refine W_off rfl (wanted_f rfl rfl (es2 rfl (et rfl)) (ez rfl) rfl) ?_
   refine W_off rfl (wanted_f rfl rfl (es3 rfl (et rfl)) (ez rfl) rfl) ?_
   refine W_v rfl rfl (V_pickT rfl (es4 rfl (et rfl)) rfl) ?_
   refine W_end ?_
   refine Qo_normal ?_
   refine gen_Q (fun A90 E90 => ?_)
   have Y90 := szq E90
   have F90 := fsE E90 (ck (cq3 (cq8 F78 rfl) rfl) rfl rfl)
   clear E90 Y78 F78
   have S92 := S80.del 0
   replace S92 : St w NoX (c_72 :: cb_25 :: c4_25 :: c3_25 :: fr) w77 := S92
   have S93 := S92.del 0
   replace S93 : St w NoX (cb_25 :: c4_25 :: c3_25 :: fr) w77 := S93
   refine tk H81 ?_
   refine R_cond_t (fg0 F90) ?_
   refine R_seq (fun K94 H94 => ?_)
   refine R_region (by kernel_rfl) ?_
   refine W_stCS (zs' := #[.bool false]) 1 S93 rfl hc4_25 rfl rfl rfl (fg8 F90) rfl (by rfl) (by rfl) (by kernel_rfl) (by first | rfl | (simp only [List.setIfInBounds_toArray, List.set_cons_succ, List.set_cons_zero] <;> rfl)) (fun w95 c95 hc95 S95 => ?_)
   replace S95 : St w NoX (cb_25 :: c95 :: c3_25 :: fr) w95 := S95
   refine W_end ?_
   refine Qo_normal ?_
   refine tk H94 ?_
   refine R_ret ?_
   refine inb_ret ?_
   exact (St.pack (l := [bx gb_14 29 #[cv, nv], bx g4 4 #[.bool false], bx g3 29 #[dv, mv]]) (fr := fr) (by have q0 : cb_25 = bx gb_14 29 #[cv, nv] := hcb_25; have q1 : c95 = bx g4 4 #[.bool false] := hc95; have q2 : c3_25 = bx g3 29 #[dv, mv] := hc3_25; subst q0 q1 q2; exact S95) (⟨rfl, (smB_no (k := x) (by simp [csF_len]; omega) (by rw [gD_aS (nv := nv), gD_nur (show x = Yu.length by omega)]; exact smQ_F (fun q => by have q1 := q.1; have q2 := q.2.1; have q3 := q.2.2; first | omega | exact absurd q3 (by simpa using c89)))), rfl⟩))
  refine W_v rfl (wanted_t rfl rfl (et rfl) (ez rfl)) (V_mov rfl (es7 rfl (fg3 F78))) ?_
  refine W_v rfl (wanted_t rfl rfl (es rfl (et rfl)) (ez rfl)) (V_mov rfl (es8 rfl (fg1 F78))) ?_
  refine W_call rfl (wanted_t rfl rfl (es2 rfl (et rfl)) (ez rfl)) rfl Try.func53 (by kernel_rfl) rfl (args2 (es rfl (et rfl)) (et rfl)) (keqI_c (S80.chC 1 rfl hc_72).own (S80.chC 0 rfl hc_77).own ) ?_
  rintro _ w96 ⟨rfl, hP96⟩
  refine ⟨_, rfl, ?_⟩
  have S96 := S80.join hP96
  replace S96 : St w NoX (c_77 :: c_72 :: cb_25 :: c4_25 :: c3_25 :: fr) w96 := S96
  refine W_v rfl (wanted_t rfl rfl (es3 rfl (et rfl)) (ez rfl)) (V_notd rfl (et rfl)) ?_
  refine W_v rfl rfl (V_pickF rfl (es4 rfl (et rfl)) (et rfl)) ?_
  refine W_end ?_
  refine Qo_normal ?_
  refine gen_Q (fun A97 E97 => ?_)
  have Y97 := szq E97
  have F97 := fsE E97 (ck (cq3 (cq8 F78 rfl) rfl) rfl rfl)
  clear E97 Y78 F78
  have S99 := S96.del 0
  replace S99 : St w NoX (c_72 :: cb_25 :: c4_25 :: c3_25 :: fr) w96 := S99
  have S100 := S99.del 0
  replace S100 : St w NoX (cb_25 :: c4_25 :: c3_25 :: fr) w96 := S100
  refine tk H81 ?_
  refine R_cond_dec (fg0 F97) (fun c101 => ?_) (fun c101 => ?_)
  ·refine R_seq (fun K102 H102 => ?_)
   refine R_region (by kernel_rfl) ?_
   refine W_stCS (zs' := #[.bool false]) 1 S100 rfl hc4_25 rfl rfl rfl (fg8 F97) rfl (by rfl) (by rfl) (by kernel_rfl) (by first | rfl | (simp only [List.setIfInBounds_toArray, List.set_cons_succ, List.set_cons_zero] <;> rfl)) (fun w103 c103 hc103 S103 => ?_)
   replace S103 : St w NoX (cb_25 :: c103 :: c3_25 :: fr) w103 := S103
   refine W_end ?_
   refine Qo_normal ?_
   refine tk H102 ?_
   refine R_ret ?_
   refine inb_ret ?_
   exact (St.pack (l := [bx gb_14 29 #[cv, nv], bx g4 4 #[.bool false], bx g3 29 #[dv, mv]]) (fr := fr) (by have q0 : cb_25 = bx gb_14 29 #[cv, nv] := hcb_25; have q1 : c103 = bx g4 4 #[.bool false] := hc103; have q2 : c3_25 = bx g3 29 #[dv, mv] := hc3_25; subst q0 q1 q2; exact S103) (⟨rfl, (smB_no (k := x) (by simp [csF_len]; omega) (by rw [gD_aS (nv := nv), gD_nur (show x = Yu.length by omega)]; exact smQ_F (fun q => by have q1 := q.1; have q2 := q.2.1; have q3 := q.2.2; first | omega | exact absurd q3 (by simpa using c101)))), rfl⟩))
  refine R_skip ?_
  refine inb_n ?_
  exact (St.pack (l := [bx gb_14 29 #[cv, nv], bx g4 4 #[.bool false], bx g3 29 #[dv, mv]]) (fr := fr) (by have q0 : cb_25 = bx gb_14 29 #[cv, nv] := hcb_25; have q1 : c4_25 = bx g4 4 #[.bool false] := hc4_25; have q2 : c3_25 = bx g3 29 #[dv, mv] := hc3_25; subst q0 q1 q2; exact S100) (⟨(smp_step hpre hz (by rw [gD_aS (nv := nv), gD_nur (show x = Yu.length by omega)]; exact smQ_T ⟨by omega, by omega, by simpa using c101⟩)), rfl⟩))
 ·intro D104 xs w104 hxs S104
  have hxs' : xs = (List.range (Xu.length + 1)) := hxs; subst hxs'; clear hxs
  obtain ⟨_, ⟨hz, rfl⟩, S104⟩ := S104.unpack
  replace S104 : St w NoX ((bx gb_14 29 #[cv, nv]) :: (bx g4 4 #[.bool false]) :: (bx g3 29 #[dv, mv]) :: (ob D104 (.deferred (some []))) :: []) w104 := S104
  obtain ⟨cb_104, c4_104, c3_104, cD104, hcb_104, hc4_104, hc3_104, hcD104, S104⟩ := gen4 S104
  refine gen_Q (fun A104 E104 => ?_)
  have Y104 := szq E104
  have hdf104 : A104.defers = [{ target := .collected D104, args := #[] }] := by rw [E104, df_mk, F15.d] <;> rfl
  have l4_104 := lookE E104 4 (mk_l (fg2 F15))
  clear E104
  refine inb_n ?_
  refine tk H12 ?_
  refine R_seq (fun K105 H105 => ?_)
  refine R_region (by kernel_rfl) ?_
  refine W_stCS (zs' := #[.bool true]) 1 S104 rfl hc4_104 rfl rfl rfl l4_104 rfl (by rfl) (by rfl) (by kernel_rfl) (by first | rfl | (simp only [List.setIfInBounds_toArray, List.set_cons_succ, List.set_cons_zero] <;> rfl)) (fun w106 c106 hc106 S106 => ?_)
  replace S106 : St w NoX [cb_104, c106, c3_104, cD104] w106 := S106
  refine W_end ?_
  refine Qo_normal ?_
  refine tk H105 ?_
  refine R_ret ?_
  have hD107 := S106.obj 3 rfl hcD104
  have S107 := S106.put (o' := .deferred none) 3 rfl hcD104
  obtain ⟨w107, hw107⟩ : ∃ w', w' = w106.putObj D104 (.deferred none) := ⟨_, rfl⟩
  rw [← hw107] at S107
  replace S107 : St w NoX [cb_104, c106, c3_104, (ob D104 (.deferred none))] w107 := S107
  refine ret_inR1' (D := D104) (w1 := w107) hw107 (results_1 Try.results17 (rv_cellC l4_104 (cell_box (S107.obj 1 rfl hc106) rfl) Try.underlying4 rfl)) hdf104 hD107 ?_
  rw [show (smB (csF Xu ++ [ns]) (csF Yu ++ [ms])) = true from smB_ok (k := Xu.length + 1) (by simp [csF_len]; omega) (by simp [csF_len]) (by simpa using hz)]
  exact ⟨rfl, S107.fin0⟩
 intro D108 cQ pre w108 hpre S108
 obtain ⟨_, hx, S108⟩ := S108.unpack
 rcases hx with ⟨rfl, hx, rfl⟩
 replace S108 : St w NoX ((bx gb_14 29 #[cv, nv]) :: (bx g4 4 #[.bool false]) :: (bx g3 29 #[dv, mv]) :: (ob D108 (.deferred (some []))) :: []) w108 := S108
 obtain ⟨cb_108, c4_108, c3_108, cD108, hcb_108, hc4_108, hc3_108, hcD108, S108⟩ := gen4 S108
 refine gen_w (fun A108 E108 => ?_)
 have Y108 := szq E108
 have hdf108 : A108.defers = [{ target := .collected D108, args := #[] }] := by rw [E108, df_mk, F15.d] <;> rfl
 have l4_108 := lookE E108 4 (mk_l (fg2 F15))
 clear E108
 refine R_ret ?_
 refine inb_ret ?_
 refine then_ret ?_
 have hD109 := S108.obj 3 rfl hcD108
 have S109 := S108.put (o' := .deferred none) 3 rfl hcD108
 obtain ⟨w109, hw109⟩ : ∃ w', w' = w108.putObj D108 (.deferred none) := ⟨_, rfl⟩
 rw [← hw109] at S109
 replace S109 : St w NoX [cb_108, c4_108, c3_108, (ob D108 (.deferred none))] w109 := S109
 refine ret_inR1' (D := D108) (w1 := w109) hw109 (results_1 Try.results17 (rv_cellC l4_108 (cell_box (S109.obj 1 rfl hc4_108) rfl) Try.underlying4 rfl)) hdf108 hD109 ?_
 rw [show (smB (csF Xu ++ [ns]) (csF Yu ++ [ms])) = false from hx]
 exact ⟨rfl, S109.fin0⟩

end Go.Proofs.Yteppjefmlibmoaa