import Derived.Test.YteppjefmlibmoaaProg
import Derived.Test.YteppjefmlibmoaaRm6
namespace Go.Proofs.Yteppjefmlibmoaa
open Go.RowKit Go.Own Go.Own.R Go.Own.S Go.Own.E


set_option maxHeartbeats 4000000 in
theorem keqI_c {xv : Value} {xs : List Int} {yv : Value} {ys : List Int} {w : World} (h_xv : Ro w NoX (il .i64 xv xs)) (h_yv : Ro w NoX (il .i64 yv ys))  :
  Calls Try.prog 53 #[xv, yv] w fun e w' => e = .returned (.bool (decide (xs = ys))) ∧ St w NoX [] w' := by
 refine calls_in 26 Try.func53 rfl rfl (by simp) (fun A0 Y0 hdf0 hargs => ?_)
 have l0_0 := hargs 0 (xv) rfl
 have l1_0 := hargs 1 (yv) rfl
 clear hargs; replace Y0 : SzN A0 26 := ⟨Y0⟩
 have hS := St.nil w
 have bh_xv := SlN.le (sl_SlN h_xv.at)
 have bh_yv := SlN.le (sl_SlN h_yv.at)
 refine wp_seq_k fun K1 H1 => ?_
 refine region_in ?_
 refine W_v rfl rfl (V_asg rfl rfl) ?_
 refine W_end (gen_Q fun A2 E2 => ?_)
 have Y2 := szq E2
 have F2 := ((fsE E2 (cq1 (FS.n hdf0) rfl)).c (lookE E2 0 (es rfl l0_0))).c (lookE E2 1 (es rfl l1_0))
 clear E2 Y0 hdf0 l0_0 l1_0
 refine tk H1 ?_
 refine wp_seq_k fun K3 H3 => ?_
 refine wp_seq_k fun K4 H4 => ?_
 refine region_in ?_
 refine W_v rfl rfl (V_mov rfl (fg1 F2)) ?_
 refine W_v rfl rfl (V_lenS rfl (et rfl) (sl_SlN h_xv.at) Try.underlying25) ?_
 refine W_v rfl rfl (V_mov rfl (es2 rfl (fg0 F2))) ?_
 refine W_v rfl rfl (V_lenS rfl (et rfl) (sl_SlN h_yv.at) Try.underlying25) ?_
 refine W_v rfl rfl (V_neq rfl (es2 rfl (et rfl)) (et rfl)) ?_
 refine W_end (gen_Q fun A5 E5 => ?_)
 have Y5 := szq E5
 have F5 := fsE E5 (ck (cq4 F2 rfl) rfl rfl)
 clear E5 Y2 F2
 refine tk H4 ?_
 refine cond_dec (fg0 F5) (fun c6 => ?_) (fun c6 => ?_)
 ·refine wp_seq_k fun K7 H7 => ?_
  refine region_in ?_
  refine W_v rfl rfl (V_asg rfl rfl) ?_
  refine W_end (gen_Q fun A8 E8 => ?_)
  have Y8 := szq E8
  have F8 := fsE E8 (ck F5 rfl rfl)
  clear E8 Y5 F5
  refine tk H7 ?_
  refine wp_ret ?_
  refine then_ret ?_
  refine ret_in (results_1 Try.results53 (rv_tmp (fg0 F8))) F8.d ?_
  rw [decide_eq_false (show ¬ xs = ys from fun e => absurd (congrArg List.length e) (by omega))]
  exact ⟨rfl, hS.fin0⟩
 have hl : xs.length = ys.length := by omega
 refine wp_skip ?_
 refine tk H3 ?_
 refine wp_seq_k fun K9 H9 => ?_
 refine wp_seq_k fun K10 H10 => ?_
 refine region_in ?_
 refine W_v rfl rfl (V_mov rfl (fg2 F5)) ?_
 refine W_v rfl rfl (V_lenS rfl (et rfl) (sl_SlN h_xv.at) Try.underlying25) ?_
 refine W_v rfl rfl (V_mov rfl rfl) ?_
 refine W_end (gen_Q fun A11 E11 => ?_)
 have Y11 := szq E11
 have F11 := fsE E11 (ck (ck (cq1 F5 rfl) rfl rfl) rfl rfl)
 clear E11 Y5 F5
 refine tk H10 ?_
 refine wp_block ?_
 -- loop 4
 refine loopX (fun mz A' w' => SzN A' 26 ∧ A'.defers = [] ∧ (∃ (k : Nat), (mz = xs.length - k) ∧ (k ≤ xs.length) ∧ (∀ i, i < k → xs[i]? = ys[i]?) ∧ (EV A' (.tmp 13) = .int .i64 (k : Int)) ∧ (EV A' (.tmp 0) = EV A11 (.tmp 0)) ∧ (EV A' (.tmp 1) = EV A11 (.tmp 1)) ∧ (EV A' (.tmp 12) = EV A11 (.tmp 12)) ∧ (St w NoX [] w'))) (xs.length - 0) ⟨Y11, F11.d, 0, rfl, (by omega), (fun i hi => by omega), (((fg0 F11)).trans (by first | rfl | (simp; done) | (congr 1; omega))), rfl, rfl, rfl, hS⟩ ?_
 clear hS
 rintro n12 A12 w12 ⟨Y12, hdf12, k, hm12, hk, hz, l13_12, u0_12, u1_12, u12_12, S12⟩
 have l0_12 := u0_12.trans (fg4 F11)
 have l1_12 := u1_12.trans (fg3 F11)
 have l12_12 := u12_12.trans (fg1 F11)
 refine wp_seq_k fun K13 H13 => ?_
 refine region_in ?_
 refine W_v rfl rfl (V_lss rfl l13_12 l12_12) ?_
 refine W_end (gen_Q fun A14 E14 => ?_)
 have Y14 := szq E14
 have F14 := ((((fsE E14 (ck (FS.n hdf12) rfl rfl)).c (lookE E14 0 (es rfl l0_12))).c (lookE E14 1 (es rfl l1_12))).c (lookE E14 12 (es rfl l12_12))).c (lookE E14 13 (es rfl l13_12))
 clear E14 Y12 hdf12 l13_12 l0_12 l1_12 l12_12
 refine tk H13 ?_
 refine wp_seq_k fun K15 H15 => ?_
 refine cond_dec (fg4 F14) (fun c16 => ?_) (fun c16 => ?_)
 ·refine wp_skip ?_
  refine tk H15 ?_
  refine wp_seq_k fun K17 H17 => ?_
  refine wp_block ?_
  refine wp_seq_k fun K18 H18 => ?_
  refine region_in ?_
  refine W_v rfl rfl (V_mov rfl (fg0 F14)) ?_
  refine W_v rfl rfl (V_asg rfl (et rfl)) ?_
  refine W_end (gen_Q fun A19 E19 => ?_)
  have Y19 := szq E19
  have F19 := fsE E19 (ck (cq1 F14 rfl) rfl rfl)
  clear E19 Y14 F14
  refine tk H18 ?_
  refine wp_seq_k fun K20 H20 => ?_
  refine region_monoS 9 9 [] (by kernel_rfl) (by kernel_rfl) ?_
  refine D_v rfl rfl (V_mov rfl (fg4 F19)) rfl rfl ?_
  refine D_v rfl rfl (V_mov rfl (es rfl (fg0 F19))) rfl rfl ?_
  have k21 : k < xs.length := by first | omega | (simp only [List.length_cons, List.length_nil]; omega) | (simp only [List.length_set]; omega) | decide
  obtain ⟨y21, hy21⟩ := get_some (xs := xs) (k := k) k21
  obtain ⟨B21, O21, C21, hv21⟩ := (SlN.blk (sl_SlN h_xv.at) (by first | omega | (simp only [List.length_cons, List.length_nil]; omega) | (simp only [List.length_set]; omega) | decide))
  refine D_v rfl rfl (V_ixS (off := O21 + k) 1 (k) rfl (es rfl (et rfl)) (et rfl) hv21 (by omega) k21 Try.underlying25 (by kernel_rfl) (congrArg _ (Nat.mul_one _))) rfl rfl ?_
  refine D_r rfl rfl (by kernel_rfl) (fun sx hx hF => (VR_ldC rfl (et rfl) ((sl_SlN ((S12.grow hx).ro h_xv)).cell hv21 (map_get hy21)) Try.underlying3 rfl)) rfl rfl ?_
  refine D_v rfl rfl (V_mov rfl (es4 rfl (fg3 F19))) rfl rfl ?_
  refine D_v rfl rfl (V_mov rfl (es5 rfl (fg0 F19))) rfl rfl ?_
  have k22 : k < ys.length := by first | omega | (simp only [List.length_cons, List.length_nil]; omega) | (simp only [List.length_set]; omega) | decide
  obtain ⟨y22, hy22⟩ := get_some (xs := ys) (k := k) k22
  obtain ⟨B22, O22, C22, hv22⟩ := (SlN.blk (sl_SlN h_yv.at) (by first | omega | (simp only [List.length_cons, List.length_nil]; omega) | (simp only [List.length_set]; omega) | decide))
  refine D_v rfl rfl (V_ixS (off := O22 + k) 1 (k) rfl (es rfl (et rfl)) (et rfl) hv22 (by omega) k22 Try.underlying25 (by kernel_rfl) (congrArg _ (Nat.mul_one _))) rfl rfl ?_
  refine D_r rfl rfl (by kernel_rfl) (fun sx hx hF => (VR_ldC rfl (et rfl) ((sl_SlN ((S12.grow hx).ro h_yv)).cell hv22 (map_get hy22)) Try.underlying3 rfl)) rfl rfl ?_
  refine D_v rfl rfl (V_neq rfl (es4 rfl (et rfl)) (et rfl)) rfl rfl ?_
  refine ZS_none S12 (Nat.le_refl _) (Nat.le_refl _) (fun s23 hJ23 hL23 hF23 => ?_)
  have S23 := hJ23.st; clear hF23 hJ23 hL23
  generalize s23.1 = w23 at *
  replace S23 : St w NoX [] w23 := S23
  refine gen_Q (fun A24 E24 => ?_)
  have Y24 := szq E24
  have F24 := fsE E24 (ck (cq8 F19 rfl) rfl rfl)
  clear E24 Y19 F19
  refine tk H20 ?_
  refine cond_dec (fg0 F24) (fun c25 => ?_) (fun c25 => ?_)
  ·refine wp_seq_k fun K26 H26 => ?_
   refine region_in ?_
   refine W_v rfl rfl (V_asg rfl rfl) ?_
   refine W_end (gen_Q fun A27 E27 => ?_)
   have Y27 := szq E27
   have F27 := fsE E27 (ck F24 rfl rfl)
   clear E27 Y24 F24
   refine tk H26 ?_
   refine wp_ret ?_
   refine inb_ret ?_
   refine then_ret ?_
   refine then_ret ?_
   refine inb_ret ?_
   refine then_ret ?_
   refine ret_in (results_1 Try.results53 (rv_tmp (fg0 F27))) F27.d ?_
   rw [decide_eq_false (show ¬ xs = ys from eq_ne hy21 hy22 c25)]
   exact ⟨rfl, S23.fin0⟩
  refine wp_skip ?_
  refine inb_n ?_
  refine tk H17 ?_
  refine region_in ?_
  refine W_v rfl rfl (V_add rfl (fg2 F24) rfl (by omega) (by omega)) ?_
  refine W_v rfl rfl (V_mov rfl (et rfl)) ?_
  refine W_end (gen_Q fun A28 E28 => ?_)
  have Y28 := szq E28
  have F28 := fsE E28 (ck (cq1 (fx2 F24) rfl) rfl rfl)
  clear E28 Y24 F24
  refine then_n ⟨xs.length - (k + 1), by simp only [hm12]; omega, Y28, F28.d, (k + 1), rfl, (by omega), (eq_step hz hy21 hy22 (by omega)), (((fg0 F28)).trans (by first | rfl | (simp; done) | (congr 1; omega))), (((fg5 F28)).trans (fg4 F11).symm), (((fg4 F28)).trans (fg3 F11).symm), (((fg3 F28)).trans (fg1 F11).symm), S23⟩
 refine wp_exit ?_
 refine then_exit ?_
 refine then_exit ?_
 refine inb_hit ?_
 refine tk H9 ?_
 refine wp_seq_k fun K29 H29 => ?_
 refine region_in ?_
 refine W_v rfl rfl (V_asg rfl rfl) ?_
 refine W_end (gen_Q fun A30 E30 => ?_)
 have Y30 := szq E30
 have F30 := fsE E30 (ck F14 rfl rfl)
 clear E30 Y14 F14
 refine tk H29 ?_
 refine wp_ret ?_
 refine ret_in (results_1 Try.results53 (rv_tmp (fg0 F30))) F30.d ?_
 rw [decide_eq_true (show xs = ys from eq_all hl (by omega) hz)]
 exact ⟨rfl, S12.fin0⟩

set_option maxHeartbeats 4000000 in
theorem kCt8_c {cv : Value} {X : List (List Int)} {nv : Value} {ns : List Int} {w : World} (h_cv : Ro w NoX (rmR cv X)) (h_nv : Ro w NoX (il .i64 nv ns)) (hxl : X.length ≤ 1000) :
  Calls Try.prog 15 #[.agg #[cv, nv]] w fun e w' => e = .returned (.tuple #[.int .i64 (ctP (X ++ [ns])).1, .int .i64 (ctP (X ++ [ns])).2]) ∧ St w NoX [] w' := by
 obtain ⟨Xu, hXu, k_cv, n_cv⟩ := rmR_open h_cv
 subst hXu
 have b_cv := SlN.le (sl_SlN k_cv.at)
 rw [csF_len] at hxl
 have f_al := nsi_all n_cv h_nv
 refine calls_inR 25 Try.func15 rfl rfl (by simp) (fun A0 Y0 hdf0 hargs => ?_)
 have l0_0 := hargs 0 (.agg #[cv, nv]) rfl
 clear hargs; replace Y0 : SzN A0 25 := ⟨Y0⟩
 have hS := St.nil w
 have bh_nv := SlN.le (sl_SlN h_nv.at)
 have bk_cv := SlN.le (sl_SlN k_cv.at)
 refine R_seq (fun K1 H1 => ?_)
 refine R_region (by kernel_rfl) ?_
 refine W_boxS (zs := #[cv, nv]) hS rfl rfl rfl l0_0 (by rfl) (fun g2 w2 c2 hc2 S2 => ?_)
 replace S2 : St w NoX [c2] w2 := S2
 refine W_allocS (z := .int .i64 0) (zs := #[.int .i64 0]) S2 rfl rfl rfl (by kernel_rfl) (by rfl) (fun g3 w3 c3 hc3 S3 => ?_)
 replace S3 : St w NoX [c3, c2] w3 := S3
 refine W_allocS (z := .int .i64 0) (zs := #[.int .i64 0]) S3 rfl rfl rfl (by kernel_rfl) (by rfl) (fun g4 w4 c4 hc4 S4 => ?_)
 replace S4 : St w NoX [c4, c3, c2] w4 := S4
 refine W_end ?_
 refine Qo_normal ?_
 refine gen_Q (fun A5 E5 => ?_)
 have Y5 := szq E5
 have F5 := fsE E5 (ck (ck (ck (FS.n hdf0) rfl rfl) rfl rfl) rfl rfl)
 clear E5 Y0 hdf0 l0_0
 refine tk H1 ?_
 refine R_seq (fun K6 H6 => ?_)
 refine R_region (by kernel_rfl) ?_
 refine W_allocS (z := .int .i64 0) (zs := #[.int .i64 0]) S4 rfl rfl rfl (by kernel_rfl) (by rfl) (fun g7 w7 c7 hc7 S7 => ?_)
 replace S7 : St w NoX [c7, c4, c3, c2] w7 := S7
 refine W_stCS (zs' := #[.int .i64 0]) 0 S7 rfl hc7 rfl rfl rfl (et rfl) rfl (by rfl) (by rfl) (by kernel_rfl) (by first | rfl | (simp only [List.setIfInBounds_toArray, List.set_cons_succ, List.set_cons_zero] <;> rfl)) (fun w8 c8 hc8 S8 => ?_)
 replace S8 : St w NoX [c8, c4, c3, c2] w8 := S8
 refine W_end ?_
 refine Qo_normal ?_
 refine gen_Q (fun A9 E9 => ?_)
 have Y9 := szq E9
 have F9 := fsE E9 (ck F5 rfl rfl)
 clear E9 Y5 F5
 refine tk H6 ?_
 refine R_seq (fun K10 H10 => ?_)
 refine R_seq (fun K11 H11 => ?_)
 refine R_region (by kernel_rfl) ?_
 refine W_r rfl rfl (VR_ldA rfl (fg3 F9) (S8.obj 3 rfl hc2) Try.underlying29 rfl (by kernel_rfl)) ?_
 refine W_call rfl rfl rfl Try.func41 (by kernel_rfl) rfl (args1 (et rfl)) (kall8_c (S8.roC k_cv) (S8.roC n_cv) (S8.roC h_nv) ) ?_
 rintro _ w12 ⟨gb_12, rfl, hP12⟩
 refine ⟨_, rfl, ?_⟩
 obtain ⟨cb_12, hcb_12, hP12⟩ := gen1 hP12
 have S12 := S8.join hP12
 replace S12 : St w NoX [cb_12, c8, c4, c3, c2] w12 := S12
 refine W_end ?_
 refine Qo_normal ?_
 refine gen_Q (fun A13 E13 => ?_)
 have Y13 := szq E13
 have F13 := fsE E13 (ck (cq1 F9 rfl) rfl rfl)
 clear E13 Y9 F9
 have S14 : St w NoX [cb_12, c8, c4, c3] w12 := S12.sel [0, 1, 2, 3] (by decide) rfl
 refine tk H11 ?_
 refine R_block ?_
 refine R_rangeS (α := Nat) (fg0 F13) (fun args w => calls_enter Try.func71 rfl rfl args w) (kall8_it (gb := gb_12) (cv := cv) (U := Xu) (nv := nv) (ns := ns) (Rd := fun W => (bx gb_12 29 #[cv, nv]).at W ∧ (rl 1 fstC cv Xu).at W ∧ (nsi Xu).at W ∧ (il .i64 nv ns).at W) (fun _ h => h)) (fun _ => rfl) (fun pre => pk (fun l => ∃ (n : Int), (ctP (csF Xu ++ [ns]) = ctGo n ((csF Xu ++ [ns]).drop pre.length)) ∧ (0 ≤ n ∧ n ≤ 1600 * (pre.length : Int)) ∧ l = [bx gb_12 29 #[cv, nv], bx g7 3 #[.int .i64 (n)], bx g4 34 #[.int .i64 0], bx g3 3 #[.int .i64 0]])) (fun cQ pre => pk (fun l => (cQ = .ret ∧ ∃ (e : Int) (n : Int), (ctP (csF Xu ++ [ns]) = (0, e)) ∧ l = [bx gb_12 29 #[cv, nv], bx g7 3 #[.int .i64 (n)], bx g4 34 #[.int .i64 (e)], bx g3 3 #[.int .i64 0]]))) (St.pack (l := [bx gb_12 29 #[cv, nv], bx g7 3 #[.int .i64 (0)], bx g4 34 #[.int .i64 0], bx g3 3 #[.int .i64 0]]) (fr := []) (by have q0 : cb_12 = bx gb_12 29 #[cv, nv] := hcb_12; have q1 : c8 = bx g7 3 #[.int .i64 (0)] := hc8.trans (rfl); have q2 : c4 = bx g4 34 #[.int .i64 0] := hc4; have q3 : c3 = bx g3 3 #[.int .i64 0] := hc3; subst q0 q1 q2 q3; exact S14) ⟨0, rfl, (by simp), rfl⟩)
  (fun pre W l' hS => by obtain ⟨l, ⟨n, hz, hn, rfl⟩, hl⟩ := pk_at (hS.ch 0 rfl); exact ⟨(hl 0 _ rfl), hS.ro k_cv, hS.ro n_cv, hS.ro h_nv⟩)
  (fun x a' cQ => ∃ g17 : Nat, SzN a' 25 ∧ a'.defers = [] ∧ EV a' (.tmp 2) = EV A13 (.tmp 2) ∧ EV a' (.tmp 3) = EV A13 (.tmp 3) ∧ EV a' (.tmp 4) = EV A13 (.tmp 4) ∧ EV a' (.tmp 6) = .pointer (some ⟨g17, 0, none⟩) ∧ cQ = pk (·= [bx g17 27 #[(aS Xu nv ns x).1]])) ?_ ?_ ?_ ?_
 ·intro la15 pre x wa15 fr K hSa15 hK
  simp only [encA]
  rw [rnd2]
  obtain ⟨A16, E16⟩ : ∃ A, A = (PT (PT { tmps := A13.tmps, defers := [] } 11 (.int .i64 (aI Xu x))) 12 (.agg #[(aS Xu nv ns x).1])) := ⟨_, rfl⟩
  rw [← E16]
  have Y16 := szq E16
  have hdf16 : A16.defers = [] := by rw [E16]; rfl
  have l2_16 := lookE E16 2 (es2 rfl (rnd_l (fg3 F13)))
  have l3_16 := lookE E16 3 (es2 rfl (rnd_l (fg2 F13)))
  have l4_16 := lookE E16 4 (es2 rfl (rnd_l (fg1 F13)))
  have l11_16 := lookE E16 11 (es rfl (et rfl))
  have l12_16 := lookE E16 12 (et rfl)
  clear E16
  obtain ⟨cI, hcI, hSa15⟩ := gen1 hSa15
  refine R_region (by kernel_rfl) ?_
  refine W_allocS (z := .agg #[.slice none 0 0]) (zs := #[.slice none 0 0]) hSa15 rfl rfl rfl (by kernel_rfl) (by rfl) (fun g17 w17 c17 hc17 S17 => ?_)
  replace S17 : St w NoX (c17 :: cI :: fr) w17 := S17
  refine W_stAS 0 S17 rfl hc17 rfl rfl rfl (et rfl) (es rfl l12_16) (by simp only [List.all_toArray, List.all_cons, List.all_nil, SlN_one (sl_SlN (f_al x).at)] <;> rfl) (by rfl) (by kernel_rfl) (fun w18 c18 hc18 S18 => ?_)
  replace S18 : St w NoX (c18 :: cI :: fr) w18 := S18
  refine W_end ?_
  refine Qo_normal ?_
  refine gen_Q (fun A19 E19 => ?_)
  have Y19 := szq E19
  have F19 := (((fsE E19 (ck (FS.n hdf16) rfl rfl)).c (lookE E19 2 (es rfl l2_16))).c (lookE E19 3 (es rfl l3_16))).c (lookE E19 4 (es rfl l4_16))
  clear E19 Y16 hdf16 l2_16 l3_16 l4_16 l11_16 l12_16
  refine then_n ?_
  refine hK _ _ _ ⟨g17, Y19, F19.d, ((fg2 F19).trans (fg3 F13).symm), ((fg1 F19).trans (fg2 F13).symm), ((fg0 F19).trans (fg1 F13).symm), (fg3 F19), rfl⟩ ?_
  subst hc18 hcI; exact S18.asg1
 ·rintro lb20 pre x A20 w20 cQ fr hAx hlr S20 hVd
  obtain ⟨g17, Y20, hdf20, u2_20, u3_20, u4_20, l6_20, rfl⟩ := hAx
  have l2_20 := u2_20.trans (fg3 F13)
  have l3_20 := u3_20.trans (fg2 F13)
  have l4_20 := u4_20.trans (fg1 F13)
  obtain ⟨_, _, ⟨n, hz, hn, rfl⟩, rfl, S20⟩ := S20.body2
  replace S20 : St w NoX ((bx gb_12 29 #[cv, nv]) :: (bx g7 3 #[.int .i64 (n)]) :: (bx g4 34 #[.int .i64 0]) :: (bx g3 3 #[.int .i64 0]) :: (bx g17 27 #[(aS Xu nv ns x).1]) :: fr) w20 := S20
  obtain ⟨cb_21, c8_21, c4_21, c3_21, c18_21, hcb_21, hc8_21, hc4_21, hc3_21, hc18_21, S20⟩ := gen5 S20
  obtain ⟨hxl, hpre⟩ := rng_vd hVd
  have bf_x := SlN.le (sl_SlN (f_al x).at)
  have hln := lnN_bd (aS Xu nv ns x).2
  have hpl : pre.length = x := by rw [hpre]; exact List.length_range
  refine R_block ?_
  refine R_seq (fun K22 H22 => ?_)
  refine R_region (by kernel_rfl) ?_
  refine W_r rfl rfl (VR_ldA rfl l6_20 (S20.obj 4 rfl hc18_21) Try.underlying27 rfl (by kernel_rfl)) ?_
  refine W_call rfl rfl rfl Try.func51 (by kernel_rfl) rfl (args1 (et rfl)) (kLen_c (S20.roC (f_al x)) ) ?_
  rintro _ w23 ⟨rfl, hP23⟩
  refine ⟨_, rfl, ?_⟩
  have S23 := S20.join hP23
  replace S23 : St w NoX (cb_21 :: c8_21 :: c4_21 :: c3_21 :: c18_21 :: fr) w23 := S23
  refine W_v rfl rfl (V_mov rfl (et rfl)) ?_
  refine W_v rfl rfl (V_ext (v := .int .i64 ((lnN ((aS Xu nv ns x).2)))) rfl (et rfl) rfl) ?_
  refine W_v rfl rfl (V_ext (v := .int .i64 ((ckS ((aS Xu nv ns x).2)).2)) rfl (es rfl (et rfl)) rfl) ?_
  refine W_v rfl rfl (V_asg rfl (es rfl (et rfl))) ?_
  refine W_v rfl rfl (V_asg rfl (es rfl (et rfl))) ?_
  refine W_end ?_
  refine Qo_normal ?_
  refine gen_Q (fun A24 E24 => ?_)
  have Y24 := szq E24
  have F24 := (((fsE E24 (ck (ck (cq5 (FS.n hdf20) rfl) rfl rfl) rfl rfl)).c (lookE E24 2 (es7 rfl l2_20))).c (lookE E24 3 (es7 rfl l3_20))).c (lookE E24 4 (es7 rfl l4_20))
  clear E24 Y20 hdf20 l2_20 l3_20 l4_20 l6_20
  have S26 := S23.del 4
  replace S26 : St w NoX (cb_21 :: c8_21 :: c4_21 :: c3_21 :: fr) w23 := S26
  refine tk H22 ?_
  refine R_seq (fun K27 H27 => ?_)
  refine R_seq (fun K28 H28 => ?_)
  refine R_region (by kernel_rfl) ?_
  refine W_v rfl rfl (V_mov rfl (fg3 F24)) ?_
  refine W_v rfl rfl (V_neq rfl (et rfl) rfl) ?_
  refine W_end ?_
  refine Qo_normal ?_
  refine gen_Q (fun A29 E29 => ?_)
  have Y29 := szq E29
  have F29 := fsE E29 (ck (cq1 F24 rfl) rfl rfl)
  clear E29 Y24 F24
  refine tk H28 ?_
  refine R_cond_dec (fg0 F29) (fun c30 => ?_) (fun c30 => ?_)
  ·refine R_seq (fun K31 H31 => ?_)
   refine R_region (by kernel_rfl) ?_
   refine W_v rfl rfl (V_mov rfl (fg4 F29)) ?_
   refine W_stCS (zs' := #[.int .i64 0]) 3 S26 rfl hc3_21 rfl rfl rfl (es rfl (fg3 F29)) rfl (by rfl) (by rfl) (by kernel_rfl) (by first | rfl | (simp only [List.setIfInBounds_toArray, List.set_cons_succ, List.set_cons_zero] <;> rfl)) (fun w32 c32 hc32 S32 => ?_)
   replace S32 : St w NoX (cb_21 :: c8_21 :: c4_21 :: c32 :: fr) w32 := S32
   refine W_stCS (zs' := #[.int .i64 ((ckS ((aS Xu nv ns x).2)).2)]) 2 S32 rfl hc4_21 rfl rfl rfl (es rfl (fg2 F29)) (et rfl) (by rfl) (by rfl) (by kernel_rfl) (by first | rfl | (simp only [List.setIfInBounds_toArray, List.set_cons_succ, List.set_cons_zero] <;> rfl)) (fun w33 c33 hc33 S33 => ?_)
   replace S33 : St w NoX (cb_21 :: c8_21 :: c33 :: c32 :: fr) w33 := S33
   refine W_end ?_
   refine Qo_normal ?_
   refine gen_Q (fun A34 E34 => ?_)
   have Y34 := szq E34
   have F34 := fsE E34 (cq1 F29 rfl)
   clear E34 Y29 F29
   refine tk H31 ?_
   refine R_ret ?_
   refine then_ret ?_
   refine inb_ret ?_
   exact (St.pack (l := [bx gb_12 29 #[cv, nv], bx g7 3 #[.int .i64 (_)], bx g4 34 #[.int .i64 (((ckS ((aS Xu nv ns x).2)).2))], bx g3 3 #[.int .i64 0]]) (fr := fr) (by have q0 : cb_21 = bx gb_12 29 #[cv, nv] := hcb_21; have q1 : c8_21 = bx g7 3 #[.int .i64 (_)] := hc8_21; have q2 : c33 = bx g4 34 #[.int .i64 (((ckS ((aS Xu nv ns x).2)).2))] := hc33; have q3 : c32 = bx g3 3 #[.int .i64 0] := hc32; subst q0 q1 q2 q3; exact S33) (⟨rfl, (ckS ((aS Xu nv ns x).2)).2, _, (ct_hit (ct_at hpre hz) (al_aS (nv := nv) hxl) (by omega)), rfl⟩))
  refine R_skip ?_
  refine tk H27 ?_
  refine R_region (by kernel_rfl) ?_
  refine W_r rfl rfl (VR_ldC rfl (fg1 F29) (cell_box (v := .int .i64 (n)) (S26.obj 1 rfl hc8_21) rfl) Try.underlying3 rfl) ?_
  refine W_v rfl rfl (V_mov rfl (es rfl (fg5 F29))) ?_
  refine W_v rfl rfl (V_add rfl (es rfl (et rfl)) (et rfl) (by omega) (by omega)) ?_
  refine W_stCS (zs' := #[.int .i64 ((n + (lnN ((aS Xu nv ns x).2))))]) 1 S26 rfl hc8_21 rfl rfl rfl (es3 rfl (fg1 F29)) (et rfl) (by rfl) (by rfl) (by kernel_rfl) (by first | rfl | (simp only [List.setIfInBounds_toArray, List.set_cons_succ, List.set_cons_zero] <;> rfl)) (fun w35 c35 hc35 S35 => ?_)
  replace S35 : St w NoX (cb_21 :: c35 :: c4_21 :: c3_21 :: fr) w35 := S35
  refine W_end ?_
  refine Qo_normal ?_
  refine gen_Q (fun A36 E36 => ?_)
  have Y36 := szq E36
  have F36 := fsE E36 (cq3 F29 rfl)
  clear E36 Y29 F29
  refine inb_n ?_
  exact (St.pack (l := [bx gb_12 29 #[cv, nv], bx g7 3 #[.int .i64 ((n + lnN (aS Xu nv ns x).2))], bx g4 34 #[.int .i64 0], bx g3 3 #[.int .i64 0]]) (fr := fr) (by have q0 : cb_21 = bx gb_12 29 #[cv, nv] := hcb_21; have q1 : c35 = bx g7 3 #[.int .i64 ((n + lnN (aS Xu nv ns x).2))] := hc35.trans (rfl); have q2 : c4_21 = bx g4 34 #[.int .i64 0] := hc4_21; have q3 : c3_21 = bx g3 3 #[.int .i64 0] := hc3_21; subst q0 q1 q2 q3; exact S35) (⟨(n + lnN (aS Xu nv ns x).2), (ct_snoc hpre hz (al_aS (nv := nv) hxl) (by omega)), (by subst hpre; simp at hn ⊢; omega), rfl⟩))
 ·intro D37 xs w37 hxs S37
  have hxs' : xs = (List.range (Xu.length + 1)) := hxs; subst hxs'; clear hxs
  obtain ⟨_, ⟨n, hz, hn, rfl⟩, S37⟩ := S37.unpack
  replace S37 : St w NoX ((bx gb_12 29 #[cv, nv]) :: (bx g7 3 #[.int .i64 (n)]) :: (bx g4 34 #[.int .i64 0]) :: (bx g3 3 #[.int .i64 0]) :: (ob D37 (.deferred (some []))) :: []) w37 := S37
  obtain ⟨cb_37, c8_37, c4_37, c3_37, cD37, hcb_37, hc8_37, hc4_37, hc3_37, hcD37, S37⟩ := gen5 S37
  refine gen_Q (fun A37 E37 => ?_)
  have Y37 := szq E37
  have hdf37 : A37.defers = [{ target := .collected D37, args := #[] }] := by rw [E37, df_mk, F13.d] <;> rfl
  have l2_37 := lookE E37 2 (mk_l (fg3 F13))
  have l3_37 := lookE E37 3 (mk_l (fg2 F13))
  have l4_37 := lookE E37 4 (mk_l (fg1 F13))
  clear E37
  refine inb_n ?_
  refine tk H10 ?_
  refine R_seq (fun K38 H38 => ?_)
  refine R_region (by kernel_rfl) ?_
  refine W_r rfl rfl (VR_ldC rfl l4_37 (cell_box (v := .int .i64 (n)) (S37.obj 1 rfl hc8_37) rfl) Try.underlying3 rfl) ?_
  refine W_stCS (zs' := #[.int .i64 (n)]) 3 S37 rfl hc3_37 rfl rfl rfl (es rfl l2_37) (et rfl) (by rfl) (by rfl) (by kernel_rfl) (by first | rfl | (simp only [List.setIfInBounds_toArray, List.set_cons_succ, List.set_cons_zero] <;> rfl)) (fun w39 c39 hc39 S39 => ?_)
  replace S39 : St w NoX [cb_37, c8_37, c4_37, c39, cD37] w39 := S39
  refine W_stCS (zs' := #[.int .i64 0]) 2 S39 rfl hc4_37 rfl rfl rfl (es rfl l3_37) rfl (by rfl) (by rfl) (by kernel_rfl) (by first | rfl | (simp only [List.setIfInBounds_toArray, List.set_cons_succ, List.set_cons_zero] <;> rfl)) (fun w40 c40 hc40 S40 => ?_)
  replace S40 : St w NoX [cb_37, c8_37, c40, c39, cD37] w40 := S40
  refine W_end ?_
  refine Qo_normal ?_
  refine gen_Q (fun A41 E41 => ?_)
  have Y41 := szq E41
  have F41 := ((fsE E41 (cq1 (FS.n hdf37) rfl)).c (lookE E41 2 (es rfl l2_37))).c (lookE E41 3 (es rfl l3_37))
  clear E41 Y37 hdf37 l2_37 l3_37 l4_37
  have S42 : St w NoX [c40, c39, cD37] w40 := S40.sel [2, 3, 4] (by decide) rfl
  refine tk H38 ?_
  refine R_ret ?_
  have hD43 := S42.obj 2 rfl hcD37
  have S43 := S42.put (o' := .deferred none) 2 rfl hcD37
  obtain ⟨w43, hw43⟩ : ∃ w', w' = w40.putObj D37 (.deferred none) := ⟨_, rfl⟩
  rw [← hw43] at S43
  replace S43 : St w NoX [c40, c39, (ob D37 (.deferred none))] w43 := S43
  refine ret_inR1' (D := D37) (w1 := w43) hw43 (results_2 Try.results15 (rv_cellC (fg1 F41) (cell_box (S43.obj 1 rfl hc39) rfl) Try.underlying3 rfl) (rv_cellC (fg0 F41) (cell_box (S43.obj 0 rfl hc40) rfl) Try.underlying34 rfl)) F41.d hD43 ?_
  have he := ct_end hz (by simp [csF_len])
  rw [he]
  exact ⟨rfl, S43.fin0⟩
 intro D44 cQ pre w44 hpre S44
 obtain ⟨_, hx, S44⟩ := S44.unpack
 rcases hx with ⟨rfl, e, n, hx, rfl⟩
 replace S44 : St w NoX ((bx gb_12 29 #[cv, nv]) :: (bx g7 3 #[.int .i64 (n)]) :: (bx g4 34 #[.int .i64 (e)]) :: (bx g3 3 #[.int .i64 0]) :: (ob D44 (.deferred (some []))) :: []) w44 := S44
 obtain ⟨cb_44, c8_44, c4_44, c3_44, cD44, hcb_44, hc8_44, hc4_44, hc3_44, hcD44, S44⟩ := gen5 S44
 refine gen_w (fun A44 E44 => ?_)
 have Y44 := szq E44
 have hdf44 : A44.defers = [{ target := .collected D44, args := #[] }] := by rw [E44, df_mk, F13.d] <;> rfl
 have l2_44 := lookE E44 2 (mk_l (fg3 F13))
 have l3_44 := lookE E44 3 (mk_l (fg2 F13))
 clear E44
 refine R_ret ?_
 refine inb_ret ?_
 refine then_ret ?_
 have hD45 := S44.obj 4 rfl hcD44
 have S45 := S44.put (o' := .deferred none) 4 rfl hcD44
 obtain ⟨w45, hw45⟩ : ∃ w', w' = w44.putObj D44 (.deferred none) := ⟨_, rfl⟩
 rw [← hw45] at S45
 replace S45 : St w NoX [cb_44, c8_44, c4_44, c3_44, (ob D44 (.deferred none))] w45 := S45
 refine ret_inR1' (D := D44) (w1 := w45) hw45 (results_2 Try.results15 (rv_cellC l2_44 (cell_box (S45.obj 3 rfl hc3_44) rfl) Try.underlying3 rfl) (rv_cellC l3_44 (cell_box (S45.obj 2 rfl hc4_44) rfl) Try.underlying34 rfl)) hdf44 hD45 ?_
 have he := hx
 rw [he]
 exact ⟨rfl, S45.fin0⟩

set_option maxHeartbeats 4000000 in
theorem kSm8_c {cv : Value} {X : List (List Int)} {nv : Value} {ns : List Int} {dv : Value} {Y : List (List Int)} {mv : Value} {ms : List Int} {w : World} (h_cv : Ro w NoX (rmR cv X)) (h_nv : Ro w NoX (il .i64 nv ns)) (h_dv : Ro w NoX (rmR dv Y)) (h_mv : Ro w NoX (il .i64 mv ms))  :
  Calls Try.prog 17 #[.agg #[cv, nv], .agg #[dv, mv]] w fun e w' => e = .returned (.bool (smB (X ++ [ns]) (Y ++ [ms]))) ∧ St w NoX [] w' := by
 obtain ⟨Xu, hXu, k_cv, n_cv⟩ := rmR_open h_cv
 subst hXu
 have b_cv := SlN.le (sl_SlN k_cv.at)
 obtain ⟨Yu, hYu, k_dv, n_dv⟩ := rmR_open h_dv
 subst hYu
 have b_dv := SlN.le (sl_SlN k_dv.at)
 have f_al := nsi_all n_cv h_nv
 refine calls_inR 54 Try.func17 rfl rfl (by simp) (fun A0 Y0 hdf0 hargs => ?_)
 have l0_0 := hargs 0 (.agg #[cv, nv]) rfl
 have l1_0 := hargs 1 (.agg #[dv, mv]) rfl
 clear hargs; replace Y0 : SzN A0 54 := ⟨Y0⟩
 have hS := St.nil w
 have bh_nv := SlN.le (sl_SlN h_nv.at)
 have bh_mv := SlN.le (sl_SlN h_mv.at)
 have bk_cv := SlN.le (sl_SlN k_cv.at)
 have bk_dv := SlN.le (sl_SlN k_dv.at)
 refine R_seq (fun K1 H1 => ?_)
 refine R_region (by kernel_rfl) ?_
 refine W_boxS (zs := #[cv, nv]) hS rfl rfl rfl l0_0 (by rfl) (fun g2 w2 c2 hc2 S2 => ?_)
 replace S2 : St w NoX [c2] w2 := S2
 refine W_boxS (zs := #[dv, mv]) S2 rfl rfl rfl (es rfl l1_0) (by rfl) (fun g3 w3 c3 hc3 S3 => ?_)
 replace S3 : St w NoX [c3, c2] w3 := S3
 refine W_allocS (z := .bool false) (zs := #[.bool false]) S3 rfl rfl rfl (by kernel_rfl) (by rfl) (fun g4 w4 c4 hc4 S4 => ?_)
 replace S4 : St w NoX [c4, c3, c2] w4 := S4
 refine W_end ?_
 refine Qo_normal ?_
 refine gen_Q (fun A5 E5 => ?_)
 have Y5 := szq E5
 have F5 := fsE E5 (ck (ck (ck (FS.n hdf0) rfl rfl) rfl rfl) rfl rfl)
 clear E5 Y0 hdf0 l0_0 l1_0
 refine tk H1 ?_
 refine R_seq (fun K6 H6 => ?_)
 refine R_seq (fun K7 H7 => ?_)
 refine R_region (by kernel_rfl) ?_
 refine W_v rfl rfl (V_fa (off' := 0) rfl (fg2 F5) Try.underlying29 rfl (by decide +kernel) rfl) ?_
 refine W_r rfl rfl (VR_ldC rfl (et rfl) (cell_box (v := cv) (S4.obj 2 rfl hc2) rfl) Try.underlying24 rfl) ?_
 refine W_v rfl rfl (V_lenS rfl (et rfl) (sl_SlN k_cv.at) Try.underlying24) ?_
 refine W_v rfl rfl (V_fa (off' := 0) rfl (es3 rfl (fg1 F5)) Try.underlying29 rfl (by decide +kernel) rfl) ?_
 refine W_r rfl rfl (VR_ldC rfl (et rfl) (cell_box (v := dv) (S4.obj 1 rfl hc3) rfl) Try.underlying24 rfl) ?_
 refine W_v rfl rfl (V_lenS rfl (et rfl) (sl_SlN k_dv.at) Try.underlying24) ?_
 refine W_v rfl rfl (V_neq rfl (es3 rfl (et rfl)) (et rfl)) ?_
 refine W_end ?_
 refine Qo_normal ?_
 refine gen_Q (fun A8 E8 => ?_)
 have Y8 := szq E8
 have F8 := fsE E8 (ck (cq6 F5 rfl) rfl rfl)
 clear E8 Y5 F5
 refine tk H7 ?_
 refine R_cond_dec (fg0 F8) (fun c9 => ?_) (fun c9 => ?_)
 ·refine R_seq (fun K10 H10 => ?_)
  refine R_region (by kernel_rfl) ?_
  refine W_stCS (zs' := #[.bool false]) 0 S4 rfl hc4 rfl rfl rfl (fg1 F8) rfl (by rfl) (by rfl) (by kernel_rfl) (by first | rfl | (simp only [List.setIfInBounds_toArray, List.set_cons_succ, List.set_cons_zero] <;> rfl)) (fun w11 c11 hc11 S11 => ?_)
  replace S11 : St w NoX [c11, c3, c2] w11 := S11
  refine W_end ?_
  refine Qo_normal ?_
  refine tk H10 ?_
  refine R_ret ?_
  refine then_ret ?_
  refine ret_inR0 (results_1 Try.results17 (rv_cellC (fg1 F8) (cell_box (S11.obj 0 rfl hc11) rfl) Try.underlying4 rfl)) F8.d ?_
  rw [show (smB (csF Xu ++ [ns]) (csF Yu ++ [ms])) = false from smB_len (by simp [csF_len]; omega)]
  exact ⟨rfl, S11.fin0⟩
 refine R_skip ?_
 refine tk H6 ?_
 refine R_seq (fun K12 H12 => ?_)
 refine R_seq (fun K13 H13 => ?_)
 refine R_region (by kernel_rfl) ?_
 refine W_r rfl rfl (VR_ldA rfl (fg3 F8) (S4.obj 2 rfl hc2) Try.underlying29 rfl (by kernel_rfl)) ?_
 refine W_call rfl rfl rfl Try.func41 (by kernel_rfl) rfl (args1 (et rfl)) (kall8_c (S4.roC k_cv) (S4.roC n_cv) (S4.roC h_nv) ) ?_
 rintro _ w14 ⟨gb_14, rfl, hP14⟩
 refine ⟨_, rfl, ?_⟩
 obtain ⟨cb_14, hcb_14, hP14⟩ := gen1 hP14
 have S14 := S4.join hP14
 replace S14 : St w NoX [cb_14, c4, c3, c2] w14 := S14
 refine W_end ?_
 refine Qo_normal ?_
 refine gen_Q (fun A15 E15 => ?_)
 have Y15 := szq E15
 have F15 := fsE E15 (ck (cq1 F8 rfl) rfl rfl)
 clear E15 Y8 F8
 have S16 : St w NoX [cb_14, c4, c3] w14 := S14.sel [0, 1, 2] (by decide) rfl
 refine tk H13 ?_
 refine R_block ?_
 refine R_rangeS (α := Nat) (fg0 F15) (fun args w => calls_enter Try.func71 rfl rfl args w) (kall8_it (gb := gb_14) (cv := cv) (U := Xu) (nv := nv) (ns := ns) (Rd := fun W => (bx gb_14 29 #[cv, nv]).at W ∧ (rl 1 fstC cv Xu).at W ∧ (nsi Xu).at W ∧ (il .i64 nv ns).at W) (fun _ h => h)) (fun _ => rfl) (fun pre => pk (fun l => (∀ j, j < pre.length → smQ ((csF Xu ++ [ns]).getD j []) ((csF Yu ++ [ms]).getD j []) = true) ∧ l = [bx gb_14 29 #[cv, nv], bx g4 4 #[.bool false], bx g3 29 #[dv, mv]])) (fun cQ pre => pk (fun l => (cQ = .ret ∧ (smB (csF Xu ++ [ns]) (csF Yu ++ [ms]) = false) ∧ l = [bx gb_14 29 #[cv, nv], bx g4 4 #[.bool false], bx g3 29 #[dv, mv]]))) (St.pack (l := [bx gb_14 29 #[cv, nv], bx g4 4 #[.bool false], bx g3 29 #[dv, mv]]) (fr := []) (by have q0 : cb_14 = bx gb_14 29 #[cv, nv] := hcb_14; have q1 : c4 = bx g4 4 #[.bool false] := hc4; have q2 : c3 = bx g3 29 #[dv, mv] := hc3; subst q0 q1 q2; exact S16) ⟨(fun j hj => by simp at hj), rfl⟩)
  (fun pre W l' hS => by obtain ⟨l, ⟨hz, rfl⟩, hl⟩ := pk_at (hS.ch 0 rfl); exact ⟨(hl 0 _ rfl), hS.ro k_cv, hS.ro n_cv, hS.ro h_nv⟩)
  (fun x a' cQ => ∃ g21 : Nat, SzN a' 54 ∧ a'.defers = [] ∧ EV a' (.tmp 3) = EV A15 (.tmp 3) ∧ EV a' (.tmp 4) = EV A15 (.tmp 4) ∧ EV a' (.tmp 5) = .int .i64 ((aI Xu x)) ∧ EV a' (.tmp 6) = .pointer (some ⟨g21, 0, none⟩) ∧ cQ = pk (·= [bx g21 27 #[(aS Xu nv ns x).1]])) ?_ ?_ ?_ ?_
 ·intro la17 pre x wa17 fr K hSa17 hK
  simp only [encA]
  rw [rnd2]
  obtain ⟨A18, E18⟩ : ∃ A, A = (PT (PT { tmps := A15.tmps, defers := [] } 21 (.int .i64 (aI Xu x))) 22 (.agg #[(aS Xu nv ns x).1])) := ⟨_, rfl⟩
  rw [← E18]
  have Y18 := szq E18
  have hdf18 : A18.defers = [] := by rw [E18]; rfl
  have l3_18 := lookE E18 3 (es2 rfl (rnd_l (fg3 F15)))
  have l4_18 := lookE E18 4 (es2 rfl (rnd_l (fg2 F15)))
  have l21_18 := lookE E18 21 (es rfl (et rfl))
  have l22_18 := lookE E18 22 (et rfl)
  clear E18
  obtain ⟨cI, hcI, hSa17⟩ := gen1 hSa17
  refine R_seq (fun K19 H19 => ?_)
  refine R_region (by kernel_rfl) ?_
  refine W_v rfl rfl (V_asg rfl l21_18) ?_
  refine W_end ?_
  refine Qo_normal ?_
  refine gen_Q (fun A20 E20 => ?_)
  have Y20 := szq E20
  have F20 := (((fsE E20 (ck (FS.n hdf18) rfl rfl)).c (lookE E20 3 (es rfl l3_18))).c (lookE E20 4 (es rfl l4_18))).c (lookE E20 22 (es rfl l22_18))
  clear E20 Y18 hdf18 l3_18 l4_18 l21_18 l22_18
  refine tk H19 ?_
  refine R_region (by kernel_rfl) ?_
  refine W_allocS (z := .agg #[.slice none 0 0]) (zs := #[.slice none 0 0]) hSa17 rfl rfl rfl (by kernel_rfl) (by rfl) (fun g21 w21 c21 hc21 S21 => ?_)
  replace S21 : St w NoX (c21 :: cI :: fr) w21 := S21
  refine W_stAS 0 S21 rfl hc21 rfl rfl rfl (et rfl) (es rfl (fg0 F20)) (by simp only [List.all_toArray, List.all_cons, List.all_nil, SlN_one (sl_SlN (f_al x).at)] <;> rfl) (by rfl) (by kernel_rfl) (fun w22 c22 hc22 S22 => ?_)
  replace S22 : St w NoX (c22 :: cI :: fr) w22 := S22
  refine W_end ?_
  refine Qo_normal ?_
  refine gen_Q (fun A23 E23 => ?_)
  have Y23 := szq E23
  have F23 := fsE E23 (ck F20 rfl rfl)
  clear E23 Y20 F20
  refine then_n ?_
  refine hK _ _ _ ⟨g21, Y23, F23.d, ((fg3 F23).trans (fg3 F15).symm), ((fg2 F23).trans (fg2 F15).symm), (fg4 F23), (fg0 F23), rfl⟩ ?_
  subst hc22 hcI; exact S22.asg1
 ·rintro lb24 pre x A24 w24 cQ fr hAx hlr S24 hVd
  obtain ⟨g21, Y24, hdf24, u3_24, u4_24, l5_24, l6_24, rfl⟩ := hAx
  have l3_24 := u3_24.trans (fg3 F15)
  have l4_24 := u4_24.trans (fg2 F15)
  obtain ⟨_, _, ⟨hz, rfl⟩, rfl, S24⟩ := S24.body2
  replace S24 : St w NoX ((bx gb_14 29 #[cv, nv]) :: (bx g4 4 #[.bool false]) :: (bx g3 29 #[dv, mv]) :: (bx g21 27 #[(aS Xu nv ns x).1]) :: fr) w24 := S24
  obtain ⟨cb_25, c4_25, c3_25, c22_25, hcb_25, hc4_25, hc3_25, hc22_25, S24⟩ := gen4 S24
  obtain ⟨hxl, hpre⟩ := rng_vd hVd
  have bf_x := SlN.le (sl_SlN (f_al x).at)
  have hai := aI_rng Xu x
  refine R_block ?_
  refine R_seq (fun K26 H26 => ?_)
  refine R_region (by kernel_rfl) ?_
  refine W_v rfl rfl (V_fa (off' := 1) rfl l3_24 Try.underlying29 rfl (by decide +kernel) rfl) ?_
  refine W_r rfl rfl (VR_ldP (ys := [mv]) rfl (et rfl) (S24.obj 2 rfl hc3_25) (ldP_at rfl) Try.underlying27 rfl (by kernel_rfl)) ?_
  refine W_allocS (z := .agg #[.slice none 0 0]) (zs := #[.slice none 0 0]) S24 rfl rfl rfl (by kernel_rfl) (by rfl) (fun g27 w27 c27 hc27 S27 => ?_)
  replace S27 : St w NoX (c27 :: cb_25 :: c4_25 :: c3_25 :: c22_25 :: fr) w27 := S27
  refine W_stAS 0 S27 rfl hc27 rfl rfl rfl (et rfl) (es rfl (et rfl)) (by simp only [List.all_toArray, List.all_cons, List.all_nil, SlN_one (sl_SlN h_mv.at)] <;> rfl) (by rfl) (by kernel_rfl) (fun w28 c28 hc28 S28 => ?_)
  replace S28 : St w NoX (c28 :: cb_25 :: c4_25 :: c3_25 :: c22_25 :: fr) w28 := S28
  refine W_end ?_
  refine Qo_normal ?_
  refine gen_Q (fun A29 E29 => ?_)
  have Y29 := szq E29
  have F29 := ((((fsE E29 (ck (cq2 (FS.n hdf24) rfl) rfl rfl)).c (lookE E29 3 (es3 rfl l3_24))).c (lookE E29 4 (es3 rfl l4_24))).c (lookE E29 5 (es3 rfl l5_24))).c (lookE E29 6 (es3 rfl l6_24))
  clear E29 Y24 hdf24 l3_24 l4_24 l5_24 l6_24
  refine tk H26 ?_
  refine R_seq (fun K30 H30 => ?_)
  refine R_seq (fun K31 H31 => ?_)
  refine R_region (by kernel_rfl) ?_
  refine W_v rfl rfl (V_mov rfl (fg1 F29)) ?_
  refine W_v rfl rfl (V_geq rfl (et rfl) rfl) ?_
  refine W_end ?_
  refine Qo_normal ?_
  refine gen_Q (fun A32 E32 => ?_)
  have Y32 := szq E32
  have F32 := fsE E32 (ck (cq1 F29 rfl) rfl rfl)
  clear E32 Y29 F29
  refine tk H31 ?_
  refine R_cond_dec (fg0 F32) (fun c33 => ?_) (fun c33 => ?_)
  ·refine R_region (by kernel_rfl) ?_
   refine W_v rfl rfl (V_fa (off' := 0) rfl (fg4 F32) Try.underlying29 rfl (by decide +kernel) rfl) ?_
   refine W_r rfl rfl (VR_ldC rfl (et rfl) (cell_box (v := dv) (S28.obj 3 rfl hc3_25) rfl) Try.underlying24 rfl) ?_
   refine W_v rfl rfl (V_mov rfl (es2 rfl (fg2 F32))) ?_
   have k34 : x < Yu.length := by first | omega | (simp only [List.length_cons, List.length_nil]; omega) | (simp only [List.length_set]; omega) | decide
   obtain ⟨y34, hy34⟩ := get_some (xs := Yu) (k := x) k34
   obtain ⟨B34, O34, C34, hv34⟩ := (SlN.blk (sl_SlN k_dv.at) (by first | omega | (simp only [List.length_cons, List.length_nil]; omega) | (simp only [List.length_set]; omega) | decide))
   refine W_v rfl rfl (V_ixS (off := O34 + x * 1) 1 (x) rfl (es rfl (et rfl)) (et rfl) hv34 (by omega) k34 Try.underlying24 (by kernel_rfl) rfl) ?_
   have fn35 : Ro w NoX (il .i64 y34.1 y34.2) := nsi_ro1 n_dv hy34
   have bfn35 := SlN.le (sl_SlN (S28.ro fn35))
   refine W_r rfl rfl (VR_ldR (ys := fstC y34) rfl (et rfl) (SlN.row fstC_len (sl_SlN (S28.ro k_dv)) hv34 hy34 rfl) Try.underlying27 rfl (by kernel_rfl)) ?_
   refine W_stAS 0 S28 rfl hc28 rfl rfl rfl (es5 rfl (fg5 F32)) (et rfl) (by simp only [List.all_toArray, List.all_cons, List.all_nil, fstC, SlN_one (sl_SlN fn35.at)] <;> rfl) (by rfl) (by kernel_rfl) (fun w36 c36 hc36 S36 => ?_)
   replace S36 : St w NoX (c36 :: cb_25 :: c4_25 :: c3_25 :: c22_25 :: fr) w36 := S36
   refine W_end ?_
   refine Qo_normal ?_
   refine gen_Q (fun A37 E37 => ?_)
   have Y37 := szq E37
   have F37 := fsE E37 (cq5 F32 rfl)
   clear E37 Y32 F32
   refine tk H30 ?_
   refine R_seq (fun K38 H38 => ?_)
   refine R_region (by kernel_rfl) ?_
   refine W_r rfl rfl (VR_ldA rfl (fg1 F37) (S36.obj 4 rfl hc22_25) Try.underlying27 rfl (by kernel_rfl)) ?_
   refine W_call rfl rfl rfl Try.func44 (by kernel_rfl) rfl (args1 (et rfl)) (kList_c (S36.roC (f_al x)) ) ?_
   rintro _ w39 ⟨v_39, rfl, hP39⟩
   refine ⟨_, rfl, ?_⟩
   obtain ⟨c_39, hc_39, hP39⟩ := gen1 hP39
   have S39 := S36.join hP39
   replace S39 : St w NoX (c_39 :: c36 :: cb_25 :: c4_25 :: c3_25 :: c22_25 :: fr) w39 := S39
   refine W_v rfl rfl (V_mov rfl (et rfl)) ?_
   refine W_v rfl rfl (V_ext (v := v_39) rfl (et rfl) rfl) ?_
   refine W_v rfl rfl (V_ext (v := .int .i64 ((ckS ((aS Xu nv ns x).2)).2)) rfl (es rfl (et rfl)) rfl) ?_
   refine W_v rfl rfl (V_asg rfl (es rfl (et rfl))) ?_
   refine W_v rfl rfl (V_asg rfl (es rfl (et rfl))) ?_
   refine W_end ?_
   refine Qo_normal ?_
   refine gen_Q (fun A40 E40 => ?_)
   have Y40 := szq E40
   have F40 := fsE E40 (ck (ck (cq5 F37 rfl) rfl rfl) rfl rfl)
   clear E40 Y37 F37
   have S42 := S39.del 5
   replace S42 : St w NoX (c_39 :: c36 :: cb_25 :: c4_25 :: c3_25 :: fr) w39 := S42
   refine tk H38 ?_
   refine R_seq (fun K43 H43 => ?_)
   refine R_region (by kernel_rfl) ?_
   refine W_r rfl rfl (VR_ldA rfl (fg7 F40) (S42.obj 1 rfl hc36) Try.underlying27 rfl (by kernel_rfl)) ?_
   refine W_call rfl rfl rfl Try.func44 (by kernel_rfl) rfl (args1 (et rfl)) (kList_c (S42.roC fn35) ) ?_
   rintro _ w44 ⟨v_44, rfl, hP44⟩
   refine ⟨_, rfl, ?_⟩
   obtain ⟨c_44, hc_44, hP44⟩ := gen1 hP44
   have S44 := S42.join hP44
   replace S44 : St w NoX (c_44 :: c_39 :: c36 :: cb_25 :: c4_25 :: c3_25 :: fr) w44 := S44
   refine W_v rfl rfl (V_mov rfl (et rfl)) ?_
   refine W_v rfl rfl (V_ext (v := v_44) rfl (et rfl) rfl) ?_
   refine W_v rfl rfl (V_ext (v := .int .i64 ((ckS y34.2).2)) rfl (es rfl (et rfl)) rfl) ?_
   refine W_v rfl rfl (V_asg rfl (es rfl (et rfl))) ?_
   refine W_v rfl rfl (V_asg rfl (es rfl (et rfl))) ?_
   refine W_end ?_
   refine Qo_normal ?_
   refine gen_Q (fun A45 E45 => ?_)
   have Y45 := szq E45
   have F45 := fsE E45 (ck (ck (cq5 F40 rfl) rfl rfl) rfl rfl)
   clear E45 Y40 F40
   have S47 := S44.del 2
   replace S47 : St w NoX (c_44 :: c_39 :: cb_25 :: c4_25 :: c3_25 :: fr) w44 := S47
   refine tk H43 ?_
   refine R_seq (fun K48 H48 => ?_)
   refine R_region (by kernel_rfl) ?_
   refine W_v rfl rfl (V_mov rfl (fg2 F45)) ?_
   refine W_v rfl rfl (V_neq rfl (et rfl) rfl) ?_
   refine W_split rfl rfl (V_mov rfl (et rfl)) (fun c49 => ?_) (fun c49 => ?_)
   ·refine W_off rfl (wanted_f rfl rfl (et rfl) (ez rfl) rfl) ?_
    refine W_off rfl (wanted_f rfl rfl (es rfl (et rfl)) (ez rfl) rfl) ?_
    refine W_v rfl rfl (V_pickT rfl (es2 rfl (et rfl)) rfl) ?_
    refine W_v rfl rfl (V_mov rfl (et rfl)) ?_
    refine W_off rfl (wanted_f rfl rfl (et rfl) (ez rfl) rfl) ?_
    refine W_off rfl (wanted_f rfl rfl (es rfl (et rfl)) (ez rfl) rfl) ?_
    refine W_off rfl (wanted_f rfl rfl (es2 rfl (et rfl)) (ez rfl) rfl) ?_
    refine W_off rfl (wanted_f rfl rfl (es3 rfl (et rfl)) (ez rfl) rfl) ?_
    refine W_v rfl rfl (V_pickT rfl (es4 rfl (et rfl)) rfl) ?_
    refine W_end ?_
    refine Qo_normal ?_
    refine gen_Q (fun A50 E50 => ?_)
    have Y50 := szq E50
    have F50 := fsE E50 (ck (cq3 (cq8 F45 rfl) rfl) rfl rfl)
    clear E50 Y45 F45
    have S52 := S47.del 0
    replace S52 : St w NoX (c_39 :: cb_25 :: c4_25 :: c3_25 :: fr) w44 := S52
    have S53 := S52.del 0
    replace S53 : St w NoX (cb_25 :: c4_25 :: c3_25 :: fr) w44 := S53
    refine tk H48 ?_
    refine R_cond_t (fg0 F50) ?_
    refine R_seq (fun K54 H54 => ?_)
    refine R_region (by kernel_rfl) ?_
    refine W_stCS (zs' := #[.bool false]) 1 S53 rfl hc4_25 rfl rfl rfl (fg8 F50) rfl (by rfl) (by rfl) (by kernel_rfl) (by first | rfl | (simp only [List.setIfInBounds_toArray, List.set_cons_succ, List.set_cons_zero] <;> rfl)) (fun w55 c55 hc55 S55 => ?_)
    replace S55 : St w NoX (cb_25 :: c55 :: c3_25 :: fr) w55 := S55
    refine W_end ?_
    refine Qo_normal ?_
    refine tk H54 ?_
    refine R_ret ?_
    refine inb_ret ?_
    exact (St.pack (l := [bx gb_14 29 #[cv, nv], bx g4 4 #[.bool false], bx g3 29 #[dv, mv]]) (fr := fr) (by have q0 : cb_25 = bx gb_14 29 #[cv, nv] := hcb_25; have q1 : c55 = bx g4 4 #[.bool false] := hc55; have q2 : c3_25 = bx g3 29 #[dv, mv] := hc3_25; subst q0 q1 q2; exact S55) (⟨rfl, (smB_no (k := x) (by simp [csF_len]; omega) (by rw [gD_aS (nv := nv), gD_row hy34]; exact smQ_F (fun q => by have q1 := q.1; have q2 := q.2.1; have q3 := q.2.2; first | omega | exact absurd q3 (by simpa using c49)))), rfl⟩))
   refine W_v rfl (wanted_t rfl rfl (et rfl) (ez rfl)) (V_mov rfl (es3 rfl (fg0 F45))) ?_
   refine W_v rfl (wanted_t rfl rfl (es rfl (et rfl)) (ez rfl)) (V_neq rfl (et rfl) rfl) ?_
   refine W_v rfl rfl (V_pickF rfl (es2 rfl (et rfl)) (et rfl)) ?_
   refine W_split rfl rfl (V_mov rfl (et rfl)) (fun c56 => ?_) (fun c56 => ?_)
   ·refine W_off rfl (wanted_f rfl rfl (et rfl) (ez rfl) rfl) ?_
    refine W_off rfl (wanted_f rfl rfl (es rfl (et rfl)) (ez rfl) rfl) ?_
    refine W_off rfl (wanted_f rfl rfl (es2 rfl (et rfl)) (ez rfl) rfl) ?_
    refine W_off rfl (wanted_f rfl rfl (es3 rfl (et rfl)) (ez rfl) rfl) ?_
    refine W_v rfl rfl (V_pickT rfl (es4 rfl (et rfl)) rfl) ?_
    refine W_end ?_
    refine Qo_normal ?_
    refine gen_Q (fun A57 E57 => ?_)
    have Y57 := szq E57
    have F57 := fsE E57 (ck (cq3 (cq8 F45 rfl) rfl) rfl rfl)
    clear E57 Y45 F45
    have S59 := S47.del 0
    replace S59 : St w NoX (c_39 :: cb_25 :: c4_25 :: c3_25 :: fr) w44 := S59
    have S60 := S59.del 0
    replace S60 : St w NoX (cb_25 :: c4_25 :: c3_25 :: fr) w44 := S60
    refine tk H48 ?_
    refine R_cond_t (fg0 F57) ?_
    refine R_seq (fun K61 H61 => ?_)
    refine R_region (by kernel_rfl) ?_
    refine W_stCS (zs' := #[.bool false]) 1 S60 rfl hc4_25 rfl rfl rfl (fg8 F57) rfl (by rfl) (by rfl) (by kernel_rfl) (by first | rfl | (simp only [List.setIfInBounds_toArray, List.set_cons_succ, List.set_cons_zero] <;> rfl)) (fun w62 c62 hc62 S62 => ?_)
    replace S62 : St w NoX (cb_25 :: c62 :: c3_25 :: fr) w62 := S62
    refine W_end ?_
    refine Qo_normal ?_
    refine tk H61 ?_
    refine R_ret ?_
    refine inb_ret ?_
    exact (St.pack (l := [bx gb_14 29 #[cv, nv], bx g4 4 #[.bool false], bx g3 29 #[dv, mv]]) (fr := fr) (by have q0 : cb_25 = bx gb_14 29 #[cv, nv] := hcb_25; have q1 : c62 = bx g4 4 #[.bool false] := hc62; have q2 : c3_25 = bx g3 29 #[dv, mv] := hc3_25; subst q0 q1 q2; exact S62) (⟨rfl, (smB_no (k := x) (by simp [csF_len]; omega) (by rw [gD_aS (nv := nv), gD_row hy34]; exact smQ_F (fun q => by have q1 := q.1; have q2 := q.2.1; have q3 := q.2.2; first | omega | exact absurd q3 (by simpa using c56)))), rfl⟩))
   refine W_v rfl (wanted_t rfl rfl (et rfl) (ez rfl)) (V_mov rfl (es7 rfl (fg3 F45))) ?_
   refine W_v rfl (wanted_t rfl rfl (es rfl (et rfl)) (ez rfl)) (V_mov rfl (es8 rfl (fg1 F45))) ?_
   refine W_call rfl (wanted_t rfl rfl (es2 rfl (et rfl)) (ez rfl)) rfl Try.func53 (by kernel_rfl) rfl (args2 (es rfl (et rfl)) (et rfl)) (keqI_c (S47.chC 1 rfl hc_39).own (S47.chC 0 rfl hc_44).own ) ?_
   rintro _ w63 ⟨rfl, hP63⟩
   refine ⟨_, rfl, ?_⟩
   have S63 := S47.join hP63
   replace S63 : St w NoX (c_44 :: c_39 :: cb_25 :: c4_25 :: c3_25 :: fr) w63 := S63
   refine W_v rfl (wanted_t rfl rfl (es3 rfl (et rfl)) (ez rfl)) (V_notd rfl (et rfl)) ?_
   refine W_v rfl rfl (V_pickF rfl (es4 rfl (et rfl)) (et rfl)) ?_
   refine W_end ?_
   refine Qo_normal ?_
   refine gen_Q (fun A64 E64 => ?_)
   have Y64 := szq E64
   have F64 := fsE E64 (ck (cq3 (cq8 F45 rfl) rfl) rfl rfl)
   clear E64 Y45 F45
   have S66 := S63.del 0
   replace S66 : St w NoX (c_39 :: cb_25 :: c4_25 :: c3_25 :: fr) w63 := S66
   have S67 := S66.del 0
   replace S67 : St w NoX (cb_25 :: c4_25 :: c3_25 :: fr) w63 := S67
   refine tk H48 ?_
   refine R_cond_dec (fg0 F64) (fun c68 => ?_) (fun c68 => ?_)
   ·refine R_seq (fun K69 H69 => ?_)
    refine R_region (by kernel_rfl) ?_
    refine W_stCS (zs' := #[.bool false]) 1 S67 rfl hc4_25 rfl rfl rfl (fg8 F64) rfl (by rfl) (by rfl) (by kernel_rfl) (by first | rfl | (simp only [List.setIfInBounds_toArray, List.set_cons_succ, List.set_cons_zero] <;> rfl)) (fun w70 c70 hc70 S70 => ?_)
    replace S70 : St w NoX (cb_25 :: c70 :: c3_25 :: fr) w70 := S70
    refine W_end ?_
    refine Qo_normal ?_
    refine tk H69 ?_
    refine R_ret ?_
    refine inb_ret ?_
    exact (St.pack (l := [bx gb_14 29 #[cv, nv], bx g4 4 #[.bool false], bx g3 29 #[dv, mv]]) (fr := fr) (by have q0 : cb_25 = bx gb_14 29 #[cv, nv] := hcb_25; have q1 : c70 = bx g4 4 #[.bool false] := hc70; have q2 : c3_25 = bx g3 29 #[dv, mv] := hc3_25; subst q0 q1 q2; exact S70) (⟨rfl, (smB_no (k := x) (by simp [csF_len]; omega) (by rw [gD_aS (nv := nv), gD_row hy34]; exact smQ_F (fun q => by have q1 := q.1; have q2 := q.2.1; have q3 := q.2.2; first | omega | exact absurd q3 (by simpa using c68)))), rfl⟩))
   refine R_skip ?_
   refine inb_n ?_
   exact (St.pack (l := [bx gb_14 29 #[cv, nv], bx g4 4 #[.bool false], bx g3 29 #[dv, mv]]) (fr := fr) (by have q0 : cb_25 = bx gb_14 29 #[cv, nv] := hcb_25; have q1 : c4_25 = bx g4 4 #[.bool false] := hc4_25; have q2 : c3_25 = bx g3 29 #[dv, mv] := hc3_25; subst q0 q1 q2; exact S67) (⟨(smp_step hpre hz (by rw [gD_aS (nv := nv), gD_row hy34]; exact smQ_T ⟨by omega, by omega, by simpa using c68⟩)), rfl⟩))
  refine R_skip ?_
  refine tk H30 ?_
  refine R_seq (fun K71 H71 => ?_)
  refine R_region (by kernel_rfl) ?_
  refine W_r rfl rfl (VR_ldA rfl (fg1 F32) (S28.obj 4 rfl hc22_25) Try.underlying27 rfl (by kernel_rfl)) ?_
  refine W_call rfl rfl rfl Try.func44 (by kernel_rfl) rfl (args1 (et rfl)) (kList_c (S28.roC (f_al x)) ) ?_
  rintro _ w72 ⟨v_72, rfl, hP72⟩
  refine ⟨_, rfl, ?_⟩
  obtain ⟨c_72, hc_72, hP72⟩ := gen1 hP72
  have S72 := S28.join hP72
  replace S72 : St w NoX (c_72 :: c28 :: cb_25 :: c4_25 :: c3_25 :: c22_25 :: fr) w72 := S72
  refine W_v rfl rfl (V_mov rfl (et rfl)) ?_
  refine W_v rfl rfl (V_ext (v := v_72) rfl (et rfl) rfl) ?_
  refine W_v rfl rfl (V_ext (v := .int .i64 ((ckS ((aS Xu nv ns x).2)).2)) rfl (es rfl (et rfl)) rfl) ?_
  refine W_v rfl rfl (V_asg rfl (es rfl (et rfl))) ?_
  refine W_v rfl rfl (V_asg rfl (es rfl (et rfl))) ?_
  refine W_end ?_
  refine Qo_normal ?_
  refine gen_Q (fun A73 E73 => ?_)
  have Y73 := szq E73
  have F73 := fsE E73 (ck (ck (cq5 F32 rfl) rfl rfl) rfl rfl)
  clear E73 Y32 F32
  have S75 := S72.del 5
  replace S75 : St w NoX (c_72 :: c28 :: cb_25 :: c4_25 :: c3_25 :: fr) w72 := S75
  refine tk H71 ?_
  refine R_seq (fun K76 H76 => ?_)
  refine R_region (by kernel_rfl) ?_
  refine W_r rfl rfl (VR_ldA rfl (fg7 F73) (S75.obj 1 rfl hc28) Try.underlying27 rfl (by kernel_rfl)) ?_
  refine W_call rfl rfl rfl Try.func44 (by kernel_rfl) rfl (args1 (et rfl)) (kList_c (S75.roC h_mv) ) ?_
  rintro _ w77 ⟨v_77, rfl, hP77⟩
  refine ⟨_, rfl, ?_⟩
  obtain ⟨c_77, hc_77, hP77⟩ := gen1 hP77
  have S77 := S75.join hP77
  replace S77 : St w NoX (c_77 :: c_72 :: c28 :: cb_25 :: c4_25 :: c3_25 :: fr) w77 := S77
  refine W_v rfl rfl (V_mov rfl (et rfl)) ?_
  refine W_v rfl rfl (V_ext (v := v_77) rfl (et rfl) rfl) ?_
  refine W_v rfl rfl (V_ext (v := .int .i64 ((ckS ms).2)) rfl (es rfl (et rfl)) rfl) ?_
  refine W_v rfl rfl (V_asg rfl (es rfl (et rfl))) ?_
  refine W_v rfl rfl (V_asg rfl (es rfl (et rfl))) ?_
  refine W_end ?_
  refine Qo_normal ?_
  refine gen_Q (fun A78 E78 => ?_)
  have Y78 := szq E78
  have F78 := fsE E78 (ck (ck (cq5 F73 rfl) rfl rfl) rfl rfl)
  clear E78 Y73 F73
  have S80 := S77.del 2
  replace S80 : St w NoX (c_77 :: c_72 :: cb_25 :: c4_25 :: c3_25 :: fr) w77 := S80
  refine tk H76 ?_
  refine R_seq (fun K81 H81 => ?_)
  refine R_region (by kernel_rfl) ?_
  refine W_v rfl rfl (V_mov rfl (fg2 F78)) ?_
  refine W_v rfl rfl (V_neq rfl (et rfl) rfl) ?_
  refine W_split rfl rfl (V_mov rfl (et rfl)) (fun c82 => ?_) (fun c82 => ?_)
  ·refine W_off rfl (wanted_f rfl rfl (et rfl) (ez rfl) rfl) ?_
   refine W_off rfl (wanted_f rfl rfl (es rfl (et rfl)) (ez rfl) rfl) ?_
   refine W_v rfl rfl (V_pickT rfl (es2 rfl (et rfl)) rfl) ?_
   refine W_v rfl rfl (V_mov rfl (et rfl)) ?_
   refine W_off rfl (wanted_f rfl rfl (et rfl) (ez rfl) rfl) ?_
   refine W_off rfl (wanted_f rfl rfl (es rfl (et rfl)) (ez rfl) rfl) ?_
   refine W_off rfl (wanted_f rfl rfl (es2 rfl (et rfl)) (ez rfl) rfl) ?_
   refine W_off rfl (wanted_f rfl rfl (es3 rfl (et rfl)) (ez rfl) rfl) ?_
   refine W_v rfl rfl (V_pickT rfl (es4 rfl (et rfl)) rfl) ?_
   refine W_end ?_
   refine Qo_normal ?_
   refine gen_Q (fun A83 E83 => ?_)
   have Y83 := szq E83
   have F83 := fsE E83 (ck (cq3 (cq8 F78 rfl) rfl) rfl rfl)
   clear E83 Y78 F78
   have S85 := S80.del 0
   replace S85 : St w NoX (c_72 :: cb_25 :: c4_25 :: c3_25 :: fr) w77 := S85
   have S86 := S85.del 0
   replace S86 : St w NoX (cb_25 :: c4_25 :: c3_25 :: fr) w77 := S86
   refine tk H81 ?_
   refine R_cond_t (fg0 F83) ?_
   refine R_seq (fun K87 H87 => ?_)
   refine R_region (by kernel_rfl) ?_
   refine W_stCS (zs' := #[.bool false]) 1 S86 rfl hc4_25 rfl rfl rfl (fg8 F83) rfl (by rfl) (by rfl) (by kernel_rfl) (by first | rfl | (simp only [List.setIfInBounds_toArray, List.set_cons_succ, List.set_cons_zero] <;> rfl)) (fun w88 c88 hc88 S88 => ?_)
   replace S88 : St w NoX (cb_25 :: c88 :: c3_25 :: fr) w88 := S88
   refine W_end ?_
   refine Qo_normal ?_
   refine tk H87 ?_
   refine R_ret ?_
   refine inb_ret ?_
   exact (St.pack (l := [bx gb_14 29 #[cv, nv], bx g4 4 #[.bool false], bx g3 29 #[dv, mv]]) (fr := fr) (by have q0 : cb_25 = bx gb_14 29 #[cv, nv] := hcb_25; have q1 : c88 = bx g4 4 #[.bool false] := hc88; have q2 : c3_25 = bx g3 29 #[dv, mv] := hc3_25; subst q0 q1 q2; exact S88) (⟨rfl, (smB_no (k := x) (by simp [csF_len]; omega) (by rw [gD_aS (nv := nv), gD_nur (show x = Yu.length by omega)]; exact smQ_F (fun q => by have q1 := q.1; have q2 := q.2.1; have q3 := q.2.2; first | omega | exact absurd q3 (by simpa using c82)))), rfl⟩))
  refine W_v rfl (wanted_t rfl rfl (et rfl) (ez rfl)) (V_mov rfl (es3 rfl (fg0 F78))) ?_
  refine W_v rfl (wanted_t rfl rfl (es rfl (et rfl)) (ez rfl)) (V_neq rfl (et rfl) rfl) ?_
  refine W_v rfl rfl (V_pickF rfl (es2 rfl (et rfl)) (et rfl)) ?_
  refine W_split rfl rfl (V_mov rfl (et rfl)) (fun c89 => ?_) (fun c89 => ?_)
  ·refine W_off rfl (wanted_f rfl rfl (et rfl) (ez rfl) rfl) ?_
   refine W_off rfl (wanted_f rfl rfl (es rfl (et rfl)) (ez rfl) rfl) ?_
   refine W_off rfl (wanted_f rfl rfl (es2 rfl (et rfl)) (ez rfl) rfl) ?_
   refine W_off rfl (wanted_f rfl rfl (es3 rfl (et rfl)) (ez rfl) rfl) ?_
   refine W_v rfl rfl (V_pickT rfl (es4 rfl (et rfl)) rfl) ?_
   refine W_end ?_
   refine Qo_normal ?_
   refine gen_Q (fun A90 E90 => ?_)
   have Y90 := szq E90
   have F90 := fsE E90 (ck (cq3 (cq8 F78 rfl) rfl) rfl rfl)
   clear E90 Y78 F78
   have S92 := S80.del 0
   replace S92 : St w NoX (c_72 :: cb_25 :: c4_25 :: c3_25 :: fr) w77 := S92
   have S93 := S92.del 0
   replace S93 : St w NoX (cb_25 :: c4_25 :: c3_25 :: fr) w77 := S93
   refine tk H81 ?_
   refine R_cond_t (fg0 F90) ?_
   refine R_seq (fun K94 H94 => ?_)
   refine R_region (by kernel_rfl) ?_
   refine W_stCS (zs' := #[.bool false]) 1 S93 rfl hc4_25 rfl rfl rfl (fg8 F90) rfl (by rfl) (by rfl) (by kernel_rfl) (by first | rfl | (simp only [List.setIfInBounds_toArray, List.set_cons_succ, List.set_cons_zero] <;> rfl)) (fun w95 c95 hc95 S95 => ?_)
   replace S95 : St w NoX (cb_25 :: c95 :: c3_25 :: fr) w95 := S95
   refine W_end ?_
   refine Qo_normal ?_
   refine tk H94 ?_
   refine R_ret ?_
   refine inb_ret ?_
   exact (St.pack (l := [bx gb_14 29 #[cv, nv], bx g4 4 #[.bool false], bx g3 29 #[dv, mv]]) (fr := fr) (by have q0 : cb_25 = bx gb_14 29 #[cv, nv] := hcb_25; have q1 : c95 = bx g4 4 #[.bool false] := hc95; have q2 : c3_25 = bx g3 29 #[dv, mv] := hc3_25; subst q0 q1 q2; exact S95) (⟨rfl, (smB_no (k := x) (by simp [csF_len]; omega) (by rw [gD_aS (nv := nv), gD_nur (show x = Yu.length by omega)]; exact smQ_F (fun q => by have q1 := q.1; have q2 := q.2.1; have q3 := q.2.2; first | omega | exact absurd q3 (by simpa using c89)))), rfl⟩))
  refine W_v rfl (wanted_t rfl rfl (et rfl) (ez rfl)) (V_mov rfl (es7 rfl (fg3 F78))) ?_
  refine W_v rfl (wanted_t rfl rfl (es rfl (et rfl)) (ez rfl)) (V_mov rfl (es8 rfl (fg1 F78))) ?_
  refine W_call rfl (wanted_t rfl rfl (es2 rfl (et rfl)) (ez rfl)) rfl Try.func53 (by kernel_rfl) rfl (args2 (es rfl (et rfl)) (et rfl)) (keqI_c (S80.chC 1 rfl hc_72).own (S80.chC 0 rfl hc_77).own ) ?_
  rintro _ w96 ⟨rfl, hP96⟩
  refine ⟨_, rfl, ?_⟩
  have S96 := S80.join hP96
  replace S96 : St w NoX (c_77 :: c_72 :: cb_25 :: c4_25 :: c3_25 :: fr) w96 := S96
  refine W_v rfl (wanted_t rfl rfl (es3 rfl (et rfl)) (ez rfl)) (V_notd rfl (et rfl)) ?_
  refine W_v rfl rfl (V_pickF rfl (es4 rfl (et rfl)) (et rfl)) ?_
  refine W_end ?_
  refine Qo_normal ?_
  refine gen_Q (fun A97 E97 => ?_)
  have Y97 := szq E97
  have F97 := fsE E97 (ck (cq3 (cq8 F78 rfl) rfl) rfl rfl)
  clear E97 Y78 F78
  have S99 := S96.del 0
  replace S99 : St w NoX (c_72 :: cb_25 :: c4_25 :: c3_25 :: fr) w96 := S99
  have S100 := S99.del 0
  replace S100 : St w NoX (cb_25 :: c4_25 :: c3_25 :: fr) w96 := S100
  refine tk H81 ?_
  refine R_cond_dec (fg0 F97) (fun c101 => ?_) (fun c101 => ?_)
  ·refine R_seq (fun K102 H102 => ?_)
   refine R_region (by kernel_rfl) ?_
   refine W_stCS (zs' := #[.bool false]) 1 S100 rfl hc4_25 rfl rfl rfl (fg8 F97) rfl (by rfl) (by rfl) (by kernel_rfl) (by first | rfl | (simp only [List.setIfInBounds_toArray, List.set_cons_succ, List.set_cons_zero] <;> rfl)) (fun w103 c103 hc103 S103 => ?_)
   replace S103 : St w NoX (cb_25 :: c103 :: c3_25 :: fr) w103 := S103
   refine W_end ?_
   refine Qo_normal ?_
   refine tk H102 ?_
   refine R_ret ?_
   refine inb_ret ?_
   exact (St.pack (l := [bx gb_14 29 #[cv, nv], bx g4 4 #[.bool false], bx g3 29 #[dv, mv]]) (fr := fr) (by have q0 : cb_25 = bx gb_14 29 #[cv, nv] := hcb_25; have q1 : c103 = bx g4 4 #[.bool false] := hc103; have q2 : c3_25 = bx g3 29 #[dv, mv] := hc3_25; subst q0 q1 q2; exact S103) (⟨rfl, (smB_no (k := x) (by simp [csF_len]; omega) (by rw [gD_aS (nv := nv), gD_nur (show x = Yu.length by omega)]; exact smQ_F (fun q => by have q1 := q.1; have q2 := q.2.1; have q3 := q.2.2; first | omega | exact absurd q3 (by simpa using c101)))), rfl⟩))
  refine R_skip ?_
  refine inb_n ?_
  exact (St.pack (l := [bx gb_14 29 #[cv, nv], bx g4 4 #[.bool false], bx g3 29 #[dv, mv]]) (fr := fr) (by have q0 : cb_25 = bx gb_14 29 #[cv, nv] := hcb_25; have q1 : c4_25 = bx g4 4 #[.bool false] := hc4_25; have q2 : c3_25 = bx g3 29 #[dv, mv] := hc3_25; subst q0 q1 q2; exact S100) (⟨(smp_step hpre hz (by rw [gD_aS (nv := nv), gD_nur (show x = Yu.length by omega)]; exact smQ_T ⟨by omega, by omega, by simpa using c101⟩)), rfl⟩))
 ·intro D104 xs w104 hxs S104
  have hxs' : xs = (List.range (Xu.length + 1)) := hxs; subst hxs'; clear hxs
  obtain ⟨_, ⟨hz, rfl⟩, S104⟩ := S104.unpack
  replace S104 : St w NoX ((bx gb_14 29 #[cv, nv]) :: (bx g4 4 #[.bool false]) :: (bx g3 29 #[dv, mv]) :: (ob D104 (.deferred (some []))) :: []) w104 := S104
  obtain ⟨cb_104, c4_104, c3_104, cD104, hcb_104, hc4_104, hc3_104, hcD104, S104⟩ := gen4 S104
  refine gen_Q (fun A104 E104 => ?_)
  have Y104 := szq E104
  have hdf104 : A104.defers = [{ target := .collected D104, args := #[] }] := by rw [E104, df_mk, F15.d] <;> rfl
  have l4_104 := lookE E104 4 (mk_l (fg2 F15))
  clear E104
  refine inb_n ?_
  refine tk H12 ?_
  refine R_seq (fun K105 H105 => ?_)
  refine R_region (by kernel_rfl) ?_
  refine W_stCS (zs' := #[.bool true]) 1 S104 rfl hc4_104 rfl rfl rfl l4_104 rfl (by rfl) (by rfl) (by kernel_rfl) (by first | rfl | (simp only [List.setIfInBounds_toArray, List.set_cons_succ, List.set_cons_zero] <;> rfl)) (fun w106 c106 hc106 S106 => ?_)
  replace S106 : St w NoX [cb_104, c106, c3_104, cD104] w106 := S106
  refine W_end ?_
  refine Qo_normal ?_
  refine tk H105 ?_
  refine R_ret ?_
  have hD107 := S106.obj 3 rfl hcD104
  have S107 := S106.put (o' := .deferred none) 3 rfl hcD104
  obtain ⟨w107, hw107⟩ : ∃ w', w' = w106.putObj D104 (.deferred none) := ⟨_, rfl⟩
  rw [← hw107] at S107
  replace S107 : St w NoX [cb_104, c106, c3_104, (ob D104 (.deferred none))] w107 := S107
  refine ret_inR1' (D := D104) (w1 := w107) hw107 (results_1 Try.results17 (rv_cellC l4_104 (cell_box (S107.obj 1 rfl hc106) rfl) Try.underlying4 rfl)) hdf104 hD107 ?_
  rw [show (smB (csF Xu ++ [ns]) (csF Yu ++ [ms])) = true from smB_ok (k := Xu.length + 1) (by simp [csF_len]; omega) (by simp [csF_len]) (by simpa using hz)]
  exact ⟨rfl, S107.fin0⟩
 intro D108 cQ pre w108 hpre S108
 obtain ⟨_, hx, S108⟩ := S108.unpack
 rcases hx with ⟨rfl, hx, rfl⟩
 replace S108 : St w NoX ((bx gb_14 29 #[cv, nv]) :: (bx g4 4 #[.bool false]) :: (bx g3 29 #[dv, mv]) :: (ob D108 (.deferred (some []))) :: []) w108 := S108
 obtain ⟨cb_108, c4_108, c3_108, cD108, hcb_108, hc4_108, hc3_108, hcD108, S108⟩ := gen4 S108
 refine gen_w (fun A108 E108 => ?_)
 have Y108 := szq E108
 have hdf108 : A108.defers = [{ target := .collected D108, args := #[] }] := by rw [E108, df_mk, F15.d] <;> rfl
 have l4_108 := lookE E108 4 (mk_l (fg2 F15))
 clear E108
 refine R_ret ?_
 refine inb_ret ?_
 refine then_ret ?_
 have hD109 := S108.obj 3 rfl hcD108
 have S109 := S108.put (o' := .deferred none) 3 rfl hcD108
 obtain ⟨w109, hw109⟩ : ∃ w', w' = w108.putObj D108 (.deferred none) := ⟨_, rfl⟩
 rw [← hw109] at S109
 replace S109 : St w NoX [cb_108, c4_108, c3_108, (ob D108 (.deferred none))] w109 := S109
 refine ret_inR1' (D := D108) (w1 := w109) hw109 (results_1 Try.results17 (rv_cellC l4_108 (cell_box (S109.obj 1 rfl hc4_108) rfl) Try.underlying4 rfl)) hdf108 hD109 ?_
 rw [show (smB (csF Xu ++ [ns]) (csF Yu ++ [ms])) = false from hx]
 exact ⟨rfl, S109.fin0⟩

set_option maxHeartbeats 4000000 in
theorem kPr8_c {C : Int} {N : Int} {Z : Int} {K : Int} {Q : Int} {cv : Value} {X : List (List Int)} {nv : Value} {ns : List Int} {i : Int} {w : World} (h_cv : Ro w NoX (rmR cv X)) (h_nv : Ro w NoX (il .i64 nv ns))  :
  Calls Try.prog 14 #[.agg #[.int .i64 C, .int .i64 N, .int .i64 Z, .int .i64 K, .int .i64 Q], .agg #[cv, nv], .int .i64 i] w fun e w' => ∃ v z, e = .returned (.tuple #[.agg #[v, z], .int .i64 (prS C N Z K Q X ns i), .int .i64 (frE C N Z K Q X ns i)]) ∧ St w NoX [rmO v (prC C N Z K Q X ns i), io .i64 (z) (prN C N Z K Q X ns i)] w' := by
 obtain ⟨Xu, hXu, k_cv, n_cv⟩ := rmR_open h_cv
 subst hXu
 have b_cv := SlN.le (sl_SlN k_cv.at)
 have f_al := nsi_all n_cv h_nv
 refine calls_inR 74 Try.func14 rfl rfl (by simp) (fun A0 Y0 hdf0 hargs => ?_)
 have l0_0 := hargs 0 (.agg #[.int .i64 C, .int .i64 N, .int .i64 Z, .int .i64 K, .int .i64 Q]) rfl
 have l1_0 := hargs 1 (.agg #[cv, nv]) rfl
 have l2_0 := hargs 2 (.int .i64 i) rfl
 clear hargs; replace Y0 : SzN A0 74 := ⟨Y0⟩
 have hS := St.nil w
 have bh_nv := SlN.le (sl_SlN h_nv.at)
 have bk_cv := SlN.le (sl_SlN k_cv.at)
 refine R_seq (fun K1 H1 => ?_)
 refine R_region (by kernel_rfl) ?_
 refine W_boxS (zs := #[.int .i64 (C), .int .i64 (N), .int .i64 (Z), .int .i64 (K), .int .i64 (Q)]) hS rfl rfl rfl l0_0 (by rfl) (fun g2 w2 c2 hc2 S2 => ?_)
 replace S2 : St w NoX [c2] w2 := S2
 refine W_boxS (zs := #[cv, nv]) S2 rfl rfl rfl (es rfl l1_0) (by rfl) (fun g3 w3 c3 hc3 S3 => ?_)
 replace S3 : St w NoX [c3, c2] w3 := S3
 refine W_boxS (zs := #[.int .i64 (i)]) S3 rfl rfl rfl (es2 rfl l2_0) (by rfl) (fun g4 w4 c4 hc4 S4 => ?_)
 replace S4 : St w NoX [c4, c3, c2] w4 := S4
 refine W_allocS (z := .agg #[.slice none 0 0, .slice none 0 0]) (zs := #[.slice none 0 0, .slice none 0 0]) S4 rfl rfl rfl (by kernel_rfl) (by rfl) (fun g5 w5 c5 hc5 S5 => ?_)
 replace S5 : St w NoX [c5, c4, c3, c2] w5 := S5
 refine W_allocS (z := .int .i64 0) (zs := #[.int .i64 0]) S5 rfl rfl rfl (by kernel_rfl) (by rfl) (fun g6 w6 c6 hc6 S6 => ?_)
 replace S6 : St w NoX [c6, c5, c4, c3, c2] w6 := S6
 refine W_allocS (z := .int .i64 0) (zs := #[.int .i64 0]) S6 rfl rfl rfl (by kernel_rfl) (by rfl) (fun g7 w7 c7 hc7 S7 => ?_)
 replace S7 : St w NoX [c7, c6, c5, c4, c3, c2] w7 := S7
 refine W_end ?_
 refine Qo_normal ?_
 refine gen_Q (fun A8 E8 => ?_)
 have Y8 := szq E8
 have F8 := fsE E8 (ck (ck (ck (ck (ck (ck (FS.n hdf0) rfl rfl) rfl rfl) rfl rfl) rfl rfl) rfl rfl) rfl rfl)
 clear E8 Y0 hdf0 l0_0 l1_0 l2_0
 refine tk H1 ?_
 refine R_seq (fun K9 H9 => ?_)
 refine R_region (by kernel_rfl) ?_
 refine W_r rfl rfl (VR_ldA rfl (fg5 F8) (S7.obj 5 rfl hc2) Try.underlying23 rfl (by kernel_rfl)) ?_
 refine W_r rfl rfl (VR_ldA rfl (es rfl (fg4 F8)) (S7.obj 4 rfl hc3) Try.underlying29 rfl (by kernel_rfl)) ?_
 refine W_r rfl rfl (VR_ldC rfl (es2 rfl (fg3 F8)) (cell_box (v := .int .i64 (i)) (S7.obj 3 rfl hc4) rfl) Try.underlying3 rfl) ?_
 refine W_call rfl rfl rfl Try.func45 (by kernel_rfl) rfl (args3 (es2 rfl (et rfl)) (es rfl (et rfl)) (et rfl)) (ksg8_c (C := C) (N := N) (Z := Z) (K := K) (Q := Q) (i := i) (rmR_of (S7.roC k_cv) (S7.roC n_cv)) (S7.roC h_nv) ) ?_
 rintro _ w10 ⟨rfl, hP10⟩
 refine ⟨_, rfl, ?_⟩
 have S10 := S7.join hP10
 replace S10 : St w NoX [c7, c6, c5, c4, c3, c2] w10 := S10
 refine W_v rfl rfl (V_mov rfl (et rfl)) ?_
 refine W_v rfl rfl (V_ext (v := .int .i64 ((sgA C N Z K Q (csF Xu) ns i))) rfl (et rfl) rfl) ?_
 refine W_v rfl rfl (V_ext (v := .int .i64 ((sgB C N Z K Q (csF Xu) ns i))) rfl (es rfl (et rfl)) rfl) ?_
 refine W_v rfl rfl (V_ext (v := .int .i64 ((frE C N Z K Q (csF Xu) ns i))) rfl (es2 rfl (et rfl)) rfl) ?_
 refine W_allocS (z := .int .i64 0) (zs := #[.int .i64 0]) S10 rfl rfl rfl (by kernel_rfl) (by rfl) (fun g11 w11 c11 hc11 S11 => ?_)
 replace S11 : St w NoX [c11, c7, c6, c5, c4, c3, c2] w11 := S11
 refine W_allocS (z := .int .i64 0) (zs := #[.int .i64 0]) S11 rfl rfl rfl (by kernel_rfl) (by rfl) (fun g12 w12 c12 hc12 S12 => ?_)
 replace S12 : St w NoX [c12, c11, c7, c6, c5, c4, c3, c2] w12 := S12
 refine W_stCS (zs' := #[.int .i64 ((sgA C N Z K Q (csF Xu) ns i))]) 1 S12 rfl hc11 rfl rfl rfl (es rfl (et rfl)) (es4 rfl (et rfl)) (by rfl) (by rfl) (by kernel_rfl) (by first | rfl | (simp only [List.setIfInBounds_toArray, List.set_cons_succ, List.set_cons_zero] <;> rfl)) (fun w13 c13 hc13 S13 => ?_)
 replace S13 : St w NoX [c12, c13, c7, c6, c5, c4, c3, c2] w13 := S13
 refine W_stCS (zs' := #[.int .i64 ((sgB C N Z K Q (csF Xu) ns i))]) 0 S13 rfl hc12 rfl rfl rfl (et rfl) (es3 rfl (et rfl)) (by rfl) (by rfl) (by kernel_rfl) (by first | rfl | (simp only [List.setIfInBounds_toArray, List.set_cons_succ, List.set_cons_zero] <;> rfl)) (fun w14 c14 hc14 S14 => ?_)
 replace S14 : St w NoX [c14, c13, c7, c6, c5, c4, c3, c2] w14 := S14
 refine W_stCS (zs' := #[.int .i64 ((frE C N Z K Q (csF Xu) ns i))]) 2 S14 rfl hc7 rfl rfl rfl (es8 rfl (es2 rfl (fg0 F8))) (es2 rfl (et rfl)) (by rfl) (by rfl) (by kernel_rfl) (by first | rfl | (simp only [List.setIfInBounds_toArray, List.set_cons_succ, List.set_cons_zero] <;> rfl)) (fun w15 c15 hc15 S15 => ?_)
 replace S15 : St w NoX [c14, c13, c15, c6, c5, c4, c3, c2] w15 := S15
 refine W_end ?_
 refine Qo_normal ?_
 refine gen_Q (fun A16 E16 => ?_)
 have Y16 := szq E16
 have F16 := fsE E16 (ck (ck (cq8 F8 rfl) rfl rfl) rfl rfl)
 clear E16 Y8 F8
 have S17 : St w NoX [c14, c13, c15, c6, c5, c4, c3] w15 := S15.sel [0, 1, 2, 3, 4, 5, 6] (by decide) rfl
 refine tk H9 ?_
 refine R_seq (fun K18 H18 => ?_)
 refine R_seq (fun K19 H19 => ?_)
 refine R_region (by kernel_rfl) ?_
 refine W_r rfl rfl (VR_ldC rfl (fg2 F16) (cell_box (v := .int .i64 ((frE C N Z K Q (csF Xu) ns i))) (S17.obj 2 rfl hc15) rfl) Try.underlying34 rfl) ?_
 refine W_v rfl rfl (V_neq rfl (et rfl) rfl) ?_
 refine W_end ?_
 refine Qo_normal ?_
 refine gen_Q (fun A20 E20 => ?_)
 have Y20 := szq E20
 have F20 := fsE E20 (ck (cq1 F16 rfl) rfl rfl)
 clear E20 Y16 F16
 refine tk H19 ?_
 refine R_cond_dec (fg0 F20) (fun c21 => ?_) (fun c21 => ?_)
 ·refine R_seq (fun K22 H22 => ?_)
  refine join_R (R := fun A' w' => SzN A' 74 ∧ A'.defers = [] ∧ EV A' (.tmp 6) = EV A20 (.tmp 6) ∧ EV A' (.tmp 7) = EV A20 (.tmp 7) ∧ EV A' (.tmp 8) = EV A20 (.tmp 8) ∧ St w NoX [bx g7 34 #[.int .i64 ((frE C N Z K Q (csF Xu) ns i))], bx g6 3 #[.int .i64 0], bx g5 29 #[.slice none 0 0, .slice none 0 0]] w') ?_ ?_
  ·refine R_any (by kernel_rfl) (by kernel_rfl) 5 rfl (fun w123 hx123 => ?_)
   have S123 := S17.grow hx123
   refine AX_first (i := 0) (by kernel_rfl) (by kernel_rfl) (by kernel_rfl) rfl rfl rfl (V_bldS (n := 2) (z := .agg #[.slice none 0 0, .slice none 0 0]) rfl (parts0) (by kernel_rfl) (by simp only [List.all_cons, List.all_nil, Bool.and_true] <;> rfl) (by kernel_rfl) (by simp only [List.foldl_cons, List.foldl_nil, Value.cells, List.setIfInBounds_toArray, List.set_cons_succ, List.set_cons_zero] <;> rfl)) ?_
   refine AX_cast (l2 := #[true, false, false, false, false]) ?_ (by kernel_rfl)
   refine AX_2 (i := 1) (j := 2) (by kernel_rfl) rfl rfl ?_ ?_
   ·refine W_r rfl rfl (VR_ldC rfl (es rfl (fg3 F20)) (cell_box (v := .int .i64 ((frE C N Z K Q (csF Xu) ns i))) (S123.obj 2 rfl hc15) rfl) Try.underlying34 rfl) ?_
    refine W_end ?_
    refine kq _ ?_
    refine AX_cast (l2 := #[true, true, false, false, false]) ?_ (by kernel_rfl)
    refine AX_1 (i := 2) (by kernel_rfl) rfl ?_
    refine W_stAS 4 S123 rfl hc5 rfl rfl rfl (es2 rfl (fg5 F20)) (es rfl (et rfl)) (by first | (rw [List.all_toArray] <;> rfl) | (simp only [List.all_toArray, List.all_cons, List.all_nil] <;> rfl)) (by rfl) (by kernel_rfl) (fun w124 c124 hc124 S124 => ?_)
    replace S124 : St w NoX [c14, c13, c15, c6, c124, c4, c3] w124 := S124
    refine W_end ?_
    refine kq _ ?_
    refine AX_cast (l2 := #[true, true, true, false, false]) ?_ (by kernel_rfl)
    refine AX_1 (i := 3) (by kernel_rfl) rfl ?_
    refine W_stCS (zs' := #[.int .i64 0]) 3 S124 rfl hc6 rfl rfl rfl (es2 rfl (fg4 F20)) rfl (by rfl) (by rfl) (by kernel_rfl) (by first | rfl | (simp only [List.setIfInBounds_toArray, List.set_cons_succ, List.set_cons_zero] <;> rfl)) (fun w125 c125 hc125 S125 => ?_)
    replace S125 : St w NoX [c14, c13, c15, c125, c124, c4, c3] w125 := S125
    refine W_end ?_
    refine kq _ ?_
    refine AX_cast (l2 := #[true, true, true, true, false]) ?_ (by kernel_rfl)
    refine AX_1 (i := 4) (by kernel_rfl) rfl ?_
    refine W_stCS (zs' := #[.int .i64 ((frE C N Z K Q (csF Xu) ns i))]) 2 S125 rfl hc15 rfl rfl rfl (es2 rfl (fg3 F20)) (et rfl) (by rfl) (by rfl) (by kernel_rfl) (by first | rfl | (simp only [List.setIfInBounds_toArray, List.set_cons_succ, List.set_cons_zero] <;> rfl)) (fun w126 c126 hc126 S126 => ?_)
    replace S126 : St w NoX [c14, c13, c126, c125, c124, c4, c3] w126 := S126
    refine W_end ?_
    refine kq _ ?_
    refine AX_cast (l2 := #[true, true, true, true, true]) ?_ (by kernel_rfl)
    refine AX_end (by kernel_rfl) ?_
    refine Qo_normal ?_
    have S127 : St w NoX [c126, c125, c124] w126 := S126.sel [2, 3, 4] (by decide) rfl
    exact ⟨inferInstance, (by simp only [df_put]; exact F20.d), ((es2 rfl (fg5 F20)).trans (fg5 F20).symm), ((es2 rfl (fg4 F20)).trans (fg4 F20).symm), ((es2 rfl (fg3 F20)).trans (fg3 F20).symm), (by subst hc126 hc125 hc124; exact S127)⟩
   refine W_stAS 4 S123 rfl hc5 rfl rfl rfl (es rfl (fg5 F20)) (et rfl) (by first | (rw [List.all_toArray] <;> rfl) | (simp only [List.all_toArray, List.all_cons, List.all_nil] <;> rfl)) (by rfl) (by kernel_rfl) (fun w128 c128 hc128 S128 => ?_)
   replace S128 : St w NoX [c14, c13, c15, c6, c128, c4, c3] w128 := S128
   refine W_end ?_
   refine kq _ ?_
   refine AX_cast (l2 := #[true, false, true, false, false]) ?_ (by kernel_rfl)
   refine AX_2 (i := 1) (j := 3) (by kernel_rfl) rfl rfl ?_ ?_
   ·refine W_r rfl rfl (VR_ldC rfl (es rfl (fg3 F20)) (cell_box (v := .int .i64 ((frE C N Z K Q (csF Xu) ns i))) (S128.obj 2 rfl hc15) rfl) Try.underlying34 rfl) ?_
    refine W_end ?_
    refine kq _ ?_
    refine AX_cast (l2 := #[true, true, true, false, false]) ?_ (by kernel_rfl)
    refine AX_1 (i := 3) (by kernel_rfl) rfl ?_
    refine W_stCS (zs' := #[.int .i64 0]) 3 S128 rfl hc6 rfl rfl rfl (es2 rfl (fg4 F20)) rfl (by rfl) (by rfl) (by kernel_rfl) (by first | rfl | (simp only [List.setIfInBounds_toArray, List.set_cons_succ, List.set_cons_zero] <;> rfl)) (fun w129 c129 hc129 S129 => ?_)
    replace S129 : St w NoX [c14, c13, c15, c129, c128, c4, c3] w129 := S129
    refine W_end ?_
    refine kq _ ?_
    refine AX_cast (l2 := #[true, true, true, true, false]) ?_ (by kernel_rfl)
    refine AX_1 (i := 4) (by kernel_rfl) rfl ?_
    refine W_stCS (zs' := #[.int .i64 ((frE C N Z K Q (csF Xu) ns i))]) 2 S129 rfl hc15 rfl rfl rfl (es2 rfl (fg3 F20)) (et rfl) (by rfl) (by rfl) (by kernel_rfl) (by first | rfl | (simp only [List.setIfInBounds_toArray, List.set_cons_succ, List.set_cons_zero] <;> rfl)) (fun w130 c130 hc130 S130 => ?_)
    replace S130 : St w NoX [c14, c13, c130, c129, c128, c4, c3] w130 := S130
    refine W_end ?_
    refine kq _ ?_
    refine AX_cast (l2 := #[true, true, true, true, true]) ?_ (by kernel_rfl)
    refine AX_end (by kernel_rfl) ?_
    refine Qo_normal ?_
    have S131 : St w NoX [c130, c129, c128] w130 := S130.sel [2, 3, 4] (by decide) rfl
    exact ⟨inferInstance, (by simp only [df_put]; exact F20.d), ((es2 rfl (fg5 F20)).trans (fg5 F20).symm), ((es2 rfl (fg4 F20)).trans (fg4 F20).symm), ((es2 rfl (fg3 F20)).trans (fg3 F20).symm), (by subst hc130 hc129 hc128; exact S131)⟩
   refine W_stCS (zs' := #[.int .i64 0]) 3 S128 rfl hc6 rfl rfl rfl (es rfl (fg4 F20)) rfl (by rfl) (by rfl) (by kernel_rfl) (by first | rfl | (simp only [List.setIfInBounds_toArray, List.set_cons_succ, List.set_cons_zero] <;> rfl)) (fun w132 c132 hc132 S132 => ?_)
   replace S132 : St w NoX [c14, c13, c15, c132, c128, c4, c3] w132 := S132
   refine W_end ?_
   refine kq _ ?_
   refine AX_cast (l2 := #[true, false, true, true, false]) ?_ (by kernel_rfl)
   refine AX_1 (i := 1) (by kernel_rfl) rfl ?_
   refine W_r rfl rfl (VR_ldC rfl (es rfl (fg3 F20)) (cell_box (v := .int .i64 ((frE C N Z K Q (csF Xu) ns i))) (S132.obj 2 rfl hc15) rfl) Try.underlying34 rfl) ?_
   refine W_end ?_
   refine kq _ ?_
   refine AX_cast (l2 := #[true, true, true, true, false]) ?_ (by kernel_rfl)
   refine AX_1 (i := 4) (by kernel_rfl) rfl ?_
   refine W_stCS (zs' := #[.int .i64 ((frE C N Z K Q (csF Xu) ns i))]) 2 S132 rfl hc15 rfl rfl rfl (es2 rfl (fg3 F20)) (et rfl) (by rfl) (by rfl) (by kernel_rfl) (by first | rfl | (simp only [List.setIfInBounds_toArray, List.set_cons_succ, List.set_cons_zero] <;> rfl)) (fun w133 c133 hc133 S133 => ?_)
   replace S133 : St w NoX [c14, c13, c133, c132, c128, c4, c3] w133 := S133
   refine W_end ?_
   refine kq _ ?_
   refine AX_cast (l2 := #[true, true, true, true, true]) ?_ (by kernel_rfl)
   refine AX_end (by kernel_rfl) ?_
   refine Qo_normal ?_
   have S134 : St w NoX [c133, c132, c128] w133 := S133.sel [2, 3, 4] (by decide) rfl
   exact ⟨inferInstance, (by simp only [df_put]; exact F20.d), ((es2 rfl (fg5 F20)).trans (fg5 F20).symm), ((es2 rfl (fg4 F20)).trans (fg4 F20).symm), ((es2 rfl (fg3 F20)).trans (fg3 F20).symm), (by subst hc133 hc132 hc128; exact S134)⟩
  rintro A135 w135 ⟨Y135, hdf135, u6_135, u7_135, u8_135, S135⟩
  have l6_135 := u6_135.trans (fg5 F20)
  have l7_135 := u7_135.trans (fg4 F20)
  have l8_135 := u8_135.trans (fg3 F20)
  clear Y20 F20 S17
  obtain ⟨c25_135, c24_135, c23_135, hc25_135, hc24_135, hc23_135, S135⟩ := gen3 S135
  refine tk H22 ?_
  refine R_ret ?_
  refine then_ret ?_
  refine ret_inR0 (results_3 Try.results14 (rv_cellA l6_135 (S135.obj 2 rfl hc23_135) Try.underlying29 rfl (by kernel_rfl)) (rv_cellC l7_135 (cell_box (S135.obj 1 rfl hc24_135) rfl) Try.underlying3 rfl) (rv_cellC l8_135 (cell_box (S135.obj 0 rfl hc25_135) rfl) Try.underlying34 rfl)) hdf135 ?_
  obtain ⟨c136, hc136, S136⟩ := S135.rmNil
  obtain ⟨c137, hc137, S137⟩ := S136.pnil (s := 1)
  have hb := pr_bad (show frE C N Z K Q (csF Xu) ns i ≠ 0 by omega)
  rw [hb.2.2]
  exact ⟨_, _, rfl, (S137.fin2 1 rfl (hc136.trans (by rw [hb.1])) 0 rfl (hc137.trans (by rw [show prN C N Z K Q (csF Xu) ns i = [] by exact hb.2.1] <;> rfl)) (by decide))⟩
 have he : frE C N Z K Q (csF Xu) ns i = 0 := by omega
 have hfr := fr_0 he
 obtain ⟨s1, s2, s3, s4, s5⟩ := sg_ok he
 rw [csF_len] at s5
 have hk0 := (fr_0 he).1
 have hx24 := (rm_lens hk0).1
 rw [csF_len] at hx24
 refine R_skip ?_
 refine tk H18 ?_
 refine R_seq (fun K138 H138 => ?_)
 refine R_region (by kernel_rfl) ?_
 refine W_r rfl rfl (VR_ldA rfl (fg7 F20) (S17.obj 6 rfl hc3) Try.underlying29 rfl (by kernel_rfl)) ?_
 refine W_call rfl rfl rfl Try.func49 (by kernel_rfl) rfl (args1 (et rfl)) (kown8_c (rmR_of (S17.roC k_cv) (S17.roC n_cv)) (S17.roC h_nv) (by first | with_reducible assumption | exact gl_of (by omega))) ?_
 rintro _ w139 ⟨v_139, z_139, rfl, hP139⟩
 refine ⟨_, rfl, ?_⟩
 obtain ⟨c_139, cz_139, hc_139, hcz_139, hP139⟩ := gen2 hP139
 have S139 := S17.join hP139
 replace S139 : St w NoX [c_139, cz_139, c14, c13, c15, c6, c5, c4, c3] w139 := S139
 refine W_stAS 6 S139 rfl hc5 rfl rfl rfl (es2 rfl (fg5 F20)) (et rfl) (by simp only [List.all_toArray, List.all_cons, List.all_nil, rmO_one (S139.chq 0 rfl hc_139), SlN_one (ow_at (S139.chq 1 rfl hcz_139))] <;> rfl) (by rfl) (by kernel_rfl) (fun w140 c140 hc140 S140 => ?_)
 replace S140 : St w NoX [c_139, cz_139, c14, c13, c15, c6, c140, c4, c3] w140 := S140
 refine W_end ?_
 refine Qo_normal ?_
 refine gen_Q (fun A141 E141 => ?_)
 have Y141 := szq E141
 have F141 := fsE E141 (cq2 F20 rfl)
 clear E141 Y20 F20
 replace hc13 : c13 = bx g11 3 #[.int .i64 ((spA C N Z K Q i))] := hc13.trans (by rw [s1])
 replace hc14 : c14 = bx g12 3 #[.int .i64 ((spB C N Z K Q i))] := hc14.trans (by rw [s2])
 refine tk H138 ?_
 refine R_seq (fun K142 H142 => ?_)
 refine R_seq (fun K143 H143 => ?_)
 refine R_region (by kernel_rfl) ?_
 refine W_r rfl rfl (VR_ldA rfl (fg7 F141) (S140.obj 8 rfl hc3) Try.underlying29 rfl (by kernel_rfl)) ?_
 refine W_call rfl rfl rfl Try.func41 (by kernel_rfl) rfl (args1 (et rfl)) (kall8_c (S140.roC k_cv) (S140.roC n_cv) (S140.roC h_nv) ) ?_
 rintro _ w144 ⟨gb_144, rfl, hP144⟩
 refine ⟨_, rfl, ?_⟩
 obtain ⟨cb_144, hcb_144, hP144⟩ := gen1 hP144
 have S144 := S140.join hP144
 replace S144 : St w NoX [cb_144, c_139, cz_139, c14, c13, c15, c6, c140, c4, c3] w144 := S144
 refine W_end ?_
 refine Qo_normal ?_
 refine gen_Q (fun A145 E145 => ?_)
 have Y145 := szq E145
 have F145 := fsE E145 (ck (cq1 F141 rfl) rfl rfl)
 clear E145 Y141 F141
 have S146 : St w NoX [cb_144, c_139, cz_139, c14, c13, c15, c6, c140, c4] w144 := S144.sel [0, 1, 2, 3, 4, 5, 6, 7, 8] (by decide) rfl
 refine tk H143 ?_
 refine R_block ?_
 have S148 := S146.sel [1, 0, 2, 3, 4, 5, 6, 7, 8] (by decide) (l' := [c_139, cb_144, cz_139, c14, c13, c15, c6, c140, c4]) rfl
 replace S148 : St w NoX [c_139, cb_144, cz_139, c14, c13, c15, c6, c140, c4] w144 := S148
 obtain ⟨U147, c147, cb147, hU147, hc147, hcb147, S147⟩ := St.rmOpen S148 hc_139
 replace S147 : St w NoX [c147, cb147, cb_144, cz_139, c14, c13, c15, c6, c140, c4] w144 := S147
 refine R_rangeS (α := Nat) (fg0 F145) (fun args w => calls_enter Try.func71 rfl rfl args w) (kall8_it (gb := gb_144) (cv := cv) (U := Xu) (nv := nv) (ns := ns) (Rd := fun W => (bx gb_144 29 #[cv, nv]).at W ∧ (rl 1 fstC cv Xu).at W ∧ (nsi Xu).at W ∧ (il .i64 nv ns).at W) (fun _ h => h)) (fun _ => rfl) (fun pre => pk (fun l => ∃ (V : List SL) (zv : Value) (n : Int), (csF V = pgKK (csF Xu) i (spA C N Z K Q i) (spB C N Z K Q i) pre.length) ∧ (n = (psm (pnF (csF Xu ++ [ns]) i (spA C N Z K Q i) (spB C N Z K Q i)) pre.length)) ∧ l = [ro 1 fstC v_139 V, owl .i64 V, bx gb_144 29 #[cv, nv], io .i64 zv (nuK ns (spA C N Z K Q i) (spB C N Z K Q i) Xu.length pre.length), bx g12 3 #[.int .i64 ((spB C N Z K Q i))], bx g11 3 #[.int .i64 ((spA C N Z K Q i))], bx g7 34 #[.int .i64 ((frE C N Z K Q (csF Xu) ns i))], bx g6 3 #[.int .i64 (n)], bx g5 29 #[v_139, zv], bx g4 3 #[.int .i64 (i)]])) (fun cQ pre => pk (fun l => False)) (St.pack (l := [ro 1 fstC v_139 U147, owl .i64 U147, bx gb_144 29 #[cv, nv], io .i64 z_139 (nuK ns (spA C N Z K Q i) (spB C N Z K Q i) Xu.length ([] : List Nat).length), bx g12 3 #[.int .i64 ((spB C N Z K Q i))], bx g11 3 #[.int .i64 ((spA C N Z K Q i))], bx g7 34 #[.int .i64 ((frE C N Z K Q (csF Xu) ns i))], bx g6 3 #[.int .i64 (0)], bx g5 29 #[v_139, z_139], bx g4 3 #[.int .i64 (i)]]) (fr := []) (by have q0 : c147 = ro 1 fstC v_139 U147 := hc147; have q1 : cb147 = owl .i64 U147 := hcb147; have q2 : cb_144 = bx gb_144 29 #[cv, nv] := hcb_144; have q3 : cz_139 = io .i64 z_139 (nuK ns (spA C N Z K Q i) (spB C N Z K Q i) Xu.length ([] : List Nat).length) := hcz_139.trans ((congrArg (io .i64 _) (nuK_le (Nat.zero_le _)).symm)); have q4 : c14 = bx g12 3 #[.int .i64 ((spB C N Z K Q i))] := hc14; have q5 : c13 = bx g11 3 #[.int .i64 ((spA C N Z K Q i))] := hc13; have q6 : c15 = bx g7 34 #[.int .i64 ((frE C N Z K Q (csF Xu) ns i))] := hc15; have q7 : c6 = bx g6 3 #[.int .i64 (0)] := hc6; have q8 : c140 = bx g5 29 #[v_139, z_139] := hc140; have q9 : c4 = bx g4 3 #[.int .i64 (i)] := hc4; subst q0 q1 q2 q3 q4 q5 q6 q7 q8 q9; exact S147) ⟨U147, z_139, 0, (hU147.trans (pgKK_0 _ _ _ _).symm), rfl, rfl⟩)
  (fun pre W l' hS => by obtain ⟨l, ⟨V, zv, n, hV, hn, rfl⟩, hl⟩ := pk_at (hS.ch 0 rfl); exact ⟨(hl 2 _ rfl), hS.ro k_cv, hS.ro n_cv, hS.ro h_nv⟩)
  (fun x a' cQ => ∃ g153 : Nat, SzN a' 74 ∧ a'.defers = [] ∧ EV a' (.tmp 5) = EV A145 (.tmp 5) ∧ EV a' (.tmp 6) = EV A145 (.tmp 6) ∧ EV a' (.tmp 7) = EV A145 (.tmp 7) ∧ EV a' (.tmp 8) = EV A145 (.tmp 8) ∧ EV a' (.tmp 9) = EV A145 (.tmp 9) ∧ EV a' (.tmp 10) = EV A145 (.tmp 10) ∧ EV a' (.tmp 11) = .int .i64 ((aI Xu x)) ∧ EV a' (.tmp 12) = .pointer (some ⟨g153, 0, none⟩) ∧ cQ = pk (·= [bx g153 27 #[(aS Xu nv ns x).1]])) ?_ ?_ ?_ ?_
 ·intro la149 pre x wa149 fr K hSa149 hK
  simp only [encA]
  rw [rnd2]
  obtain ⟨A150, E150⟩ : ∃ A, A = (PT (PT { tmps := A145.tmps, defers := [] } 32 (.int .i64 (aI Xu x))) 33 (.agg #[(aS Xu nv ns x).1])) := ⟨_, rfl⟩
  rw [← E150]
  have Y150 := szq E150
  have hdf150 : A150.defers = [] := by rw [E150]; rfl
  have l5_150 := lookE E150 5 (es2 rfl (rnd_l (fg7 F145)))
  have l6_150 := lookE E150 6 (es2 rfl (rnd_l (fg6 F145)))
  have l7_150 := lookE E150 7 (es2 rfl (rnd_l (fg5 F145)))
  have l8_150 := lookE E150 8 (es2 rfl (rnd_l (fg4 F145)))
  have l9_150 := lookE E150 9 (es2 rfl (rnd_l (fg3 F145)))
  have l10_150 := lookE E150 10 (es2 rfl (rnd_l (fg2 F145)))
  have l32_150 := lookE E150 32 (es rfl (et rfl))
  have l33_150 := lookE E150 33 (et rfl)
  clear E150
  obtain ⟨cI, hcI, hSa149⟩ := gen1 hSa149
  refine R_seq (fun K151 H151 => ?_)
  refine R_region (by kernel_rfl) ?_
  refine W_v rfl rfl (V_asg rfl l32_150) ?_
  refine W_end ?_
  refine Qo_normal ?_
  refine gen_Q (fun A152 E152 => ?_)
  have Y152 := szq E152
  have F152 := (((((((fsE E152 (ck (FS.n hdf150) rfl rfl)).c (lookE E152 5 (es rfl l5_150))).c (lookE E152 6 (es rfl l6_150))).c (lookE E152 7 (es rfl l7_150))).c (lookE E152 8 (es rfl l8_150))).c (lookE E152 9 (es rfl l9_150))).c (lookE E152 10 (es rfl l10_150))).c (lookE E152 33 (es rfl l33_150))
  clear E152 Y150 hdf150 l5_150 l6_150 l7_150 l8_150 l9_150 l10_150 l32_150 l33_150
  refine tk H151 ?_
  refine R_region (by kernel_rfl) ?_
  refine W_allocS (z := .agg #[.slice none 0 0]) (zs := #[.slice none 0 0]) hSa149 rfl rfl rfl (by kernel_rfl) (by rfl) (fun g153 w153 c153 hc153 S153 => ?_)
  replace S153 : St w NoX (c153 :: cI :: fr) w153 := S153
  refine W_stAS 0 S153 rfl hc153 rfl rfl rfl (et rfl) (es rfl (fg0 F152)) (by simp only [List.all_toArray, List.all_cons, List.all_nil, SlN_one (sl_SlN (f_al x).at)] <;> rfl) (by rfl) (by kernel_rfl) (fun w154 c154 hc154 S154 => ?_)
  replace S154 : St w NoX (c154 :: cI :: fr) w154 := S154
  refine W_end ?_
  refine Qo_normal ?_
  refine gen_Q (fun A155 E155 => ?_)
  have Y155 := szq E155
  have F155 := fsE E155 (ck F152 rfl rfl)
  clear E155 Y152 F152
  refine then_n ?_
  refine hK _ _ _ ⟨g153, Y155, F155.d, ((fg7 F155).trans (fg7 F145).symm), ((fg6 F155).trans (fg6 F145).symm), ((fg5 F155).trans (fg5 F145).symm), ((fg4 F155).trans (fg4 F145).symm), ((fg3 F155).trans (fg3 F145).symm), ((fg2 F155).trans (fg2 F145).symm), (fg8 F155), (fg0 F155), rfl⟩ ?_
  subst hc154 hcI; exact S154.asg1
 ·rintro lb156 pre x A156 w156 cQ fr hAx hlr S156 hVd
  obtain ⟨g153, Y156, hdf156, u5_156, u6_156, u7_156, u8_156, u9_156, u10_156, l11_156, l12_156, rfl⟩ := hAx
  have l5_156 := u5_156.trans (fg7 F145)
  have l6_156 := u6_156.trans (fg6 F145)
  have l7_156 := u7_156.trans (fg5 F145)
  have l8_156 := u8_156.trans (fg4 F145)
  have l9_156 := u9_156.trans (fg3 F145)
  have l10_156 := u10_156.trans (fg2 F145)
  obtain ⟨_, _, ⟨V, zv, n, hV, hn, rfl⟩, rfl, S156⟩ := S156.body2
  replace S156 : St w NoX ((ro 1 fstC v_139 V) :: (owl .i64 V) :: (bx gb_144 29 #[cv, nv]) :: (io .i64 zv (nuK ns (spA C N Z K Q i) (spB C N Z K Q i) Xu.length pre.length)) :: (bx g12 3 #[.int .i64 ((spB C N Z K Q i))]) :: (bx g11 3 #[.int .i64 ((spA C N Z K Q i))]) :: (bx g7 34 #[.int .i64 ((frE C N Z K Q (csF Xu) ns i))]) :: (bx g6 3 #[.int .i64 (n)]) :: (bx g5 29 #[v_139, zv]) :: (bx g4 3 #[.int .i64 (i)]) :: (bx g153 27 #[(aS Xu nv ns x).1]) :: fr) w156 := S156
  obtain ⟨c147_157, cb147_157, cb_157, cz_157, c14_157, c13_157, c15_157, c6_157, c140_157, c4_157, c154_157, hc147_157, hcb147_157, hcb_157, hcz_157, hc14_157, hc13_157, hc15_157, hc6_157, hc140_157, hc4_157, hc154_157, S156⟩ := gen11 S156
  obtain ⟨hxl, hpre⟩ := rng_vd hVd
  have bf_x := SlN.le (sl_SlN (f_al x).at)
  have hai := aI_rng Xu x
  have hck := ck_all (nv := nv) hk0 x hxl
  have hVl := prp_len hV
  have hln := lnN_bd (aS Xu nv ns x).2
  have hpn := pgN_bd (aS Xu nv ns x).2 (spA C N Z K Q i) (spB C N Z K Q i)
  have hpl : pre.length = x := by rw [hpre]; exact List.length_range
  have hps := psm_bd (pnF_bd (csF Xu ++ [ns]) i (spA C N Z K Q i) (spB C N Z K Q i)) pre.length
  refine R_block ?_
  refine R_seq (fun K158 H158 => ?_)
  refine R_region (by kernel_rfl) ?_
  refine W_r rfl rfl (VR_ldA rfl l12_156 (S156.obj 10 rfl hc154_157) Try.underlying27 rfl (by kernel_rfl)) ?_
  refine W_r rfl rfl (VR_ldC rfl (es rfl l9_156) (cell_box (v := .int .i64 ((spA C N Z K Q i))) (S156.obj 5 rfl hc13_157) rfl) Try.underlying3 rfl) ?_
  refine W_r rfl rfl (VR_ldC rfl (es2 rfl l10_156) (cell_box (v := .int .i64 ((spB C N Z K Q i))) (S156.obj 4 rfl hc14_157) rfl) Try.underlying3 rfl) ?_
  refine W_call rfl rfl rfl Try.func50 (by kernel_rfl) rfl (args3 (es2 rfl (et rfl)) (es rfl (et rfl)) (et rfl)) (kPurge_c (f := (spA C N Z K Q i)) (t := (spB C N Z K Q i)) (S156.roC (f_al x)) ) ?_
  rintro _ w159 ⟨v_159, rfl, hP159⟩
  refine ⟨_, rfl, ?_⟩
  obtain ⟨c_159, hc_159, hP159⟩ := gen1 hP159
  have S159 := S156.join hP159
  replace S159 : St w NoX (c_159 :: c147_157 :: cb147_157 :: cb_157 :: cz_157 :: c14_157 :: c13_157 :: c15_157 :: c6_157 :: c140_157 :: c4_157 :: c154_157 :: fr) w159 := S159
  refine W_v rfl rfl (V_mov rfl (et rfl)) ?_
  refine W_v rfl rfl (V_ext (v := .agg #[v_159]) rfl (et rfl) rfl) ?_
  refine W_v rfl rfl (V_ext (v := .int .i64 ((pgN ((aS Xu nv ns x).2) (spA C N Z K Q i) (spB C N Z K Q i)))) rfl (es rfl (et rfl)) rfl) ?_
  refine W_v rfl rfl (V_ext (v := .int .i64 ((ckS ((aS Xu nv ns x).2)).2)) rfl (es2 rfl (et rfl)) rfl) ?_
  refine W_allocS (z := .agg #[.slice none 0 0]) (zs := #[.slice none 0 0]) S159 rfl rfl rfl (by kernel_rfl) (by rfl) (fun g160 w160 c160 hc160 S160 => ?_)
  replace S160 : St w NoX (c160 :: c_159 :: c147_157 :: cb147_157 :: cb_157 :: cz_157 :: c14_157 :: c13_157 :: c15_157 :: c6_157 :: c140_157 :: c4_157 :: c154_157 :: fr) w160 := S160
  refine W_stAS 0 S160 rfl hc160 rfl rfl rfl (et rfl) (es3 rfl (et rfl)) (by simp only [List.all_toArray, List.all_cons, List.all_nil, SlN_one (ow_at (S160.chq 1 rfl hc_159))] <;> rfl) (by rfl) (by kernel_rfl) (fun w161 c161 hc161 S161 => ?_)
  replace S161 : St w NoX (c161 :: c_159 :: c147_157 :: cb147_157 :: cb_157 :: cz_157 :: c14_157 :: c13_157 :: c15_157 :: c6_157 :: c140_157 :: c4_157 :: c154_157 :: fr) w161 := S161
  refine W_v rfl rfl (V_asg rfl (es2 rfl (et rfl))) ?_
  refine W_v rfl rfl (V_asg rfl (es2 rfl (et rfl))) ?_
  refine W_end ?_
  refine Qo_normal ?_
  refine gen_Q (fun A162 E162 => ?_)
  have Y162 := szq E162
  have F162 := ((((((fsE E162 (ck (ck (ck (cq8 (FS.n hdf156) rfl) rfl rfl) rfl rfl) rfl rfl)).c (lookE E162 5 (es8 rfl (es3 rfl l5_156)))).c (lookE E162 6 (es8 rfl (es3 rfl l6_156)))).c (lookE E162 7 (es8 rfl (es3 rfl l7_156)))).c (lookE E162 8 (es8 rfl (es3 rfl l8_156)))).c (lookE E162 11 (es8 rfl (es3 rfl l11_156)))).c (lookE E162 12 (es8 rfl (es3 rfl l12_156)))
  clear E162 Y156 hdf156 l5_156 l6_156 l7_156 l8_156 l9_156 l10_156 l11_156 l12_156
  refine tk H158 ?_
  refine R_seq (fun K163 H163 => ?_)
  refine R_seq (fun K164 H164 => ?_)
  refine R_region (by kernel_rfl) ?_
  refine W_v rfl rfl (V_mov rfl (fg6 F162)) ?_
  refine W_v rfl rfl (V_neq rfl (et rfl) rfl) ?_
  refine W_end ?_
  refine Qo_normal ?_
  refine gen_Q (fun A165 E165 => ?_)
  have Y165 := szq E165
  have F165 := fsE E165 (ck (cq1 F162 rfl) rfl rfl)
  clear E165 Y162 F162
  refine tk H164 ?_
  refine R_cond_not (fg0 F165) (by rw [decide_eq_false_iff_not, hck]; simp) ?_
  refine R_skip ?_
  refine tk H163 ?_
  refine R_seq (fun K166 H166 => ?_)
  refine R_seq (fun K167 H167 => ?_)
  refine R_region (by kernel_rfl) ?_
  refine W_v rfl rfl (V_mov rfl (fg2 F165)) ?_
  refine W_end ?_
  refine Qo_normal ?_
  refine gen_Q (fun A168 E168 => ?_)
  have Y168 := szq E168
  have F168 := fsE E168 (ck F165 rfl rfl)
  clear E168 Y165 F165
  refine tk H167 ?_
  refine R_block ?_
  refine R_seq (fun K169 H169 => ?_)
  refine R_region (by kernel_rfl) ?_
  refine W_r rfl rfl (VR_ldC rfl (fg7 F168) (cell_box (v := .int .i64 (i)) (S161.obj 11 rfl hc4_157) rfl) Try.underlying3 rfl) ?_
  refine W_v rfl rfl (V_eql rfl (es rfl (fg0 F168)) (et rfl)) ?_
  refine W_v rfl rfl (V_asg rfl (et rfl)) ?_
  refine W_end ?_
  refine Qo_normal ?_
  refine gen_Q (fun A170 E170 => ?_)
  have Y170 := szq E170
  have F170 := fsE E170 (ck (cq2 F168 rfl) rfl rfl)
  clear E170 Y168 F168
  refine tk H169 ?_
  refine R_cond_dec (fg0 F170) (fun c171 => ?_) (fun c171 => ?_)
  ·refine R_seq (fun K172 H172 => ?_)
   refine R_region (by kernel_rfl) ?_
   refine W_r rfl rfl (VR_ldA rfl (fg3 F170) (S161.obj 12 rfl hc154_157) Try.underlying27 rfl (by kernel_rfl)) ?_
   refine W_call rfl rfl rfl Try.func51 (by kernel_rfl) rfl (args1 (et rfl)) (kLen_c (S161.roC (f_al x)) ) ?_
   rintro _ w173 ⟨rfl, hP173⟩
   refine ⟨_, rfl, ?_⟩
   have S173 := S161.join hP173
   replace S173 : St w NoX (c161 :: c_159 :: c147_157 :: cb147_157 :: cb_157 :: cz_157 :: c14_157 :: c13_157 :: c15_157 :: c6_157 :: c140_157 :: c4_157 :: c154_157 :: fr) w173 := S173
   refine W_v rfl rfl (V_mov rfl (et rfl)) ?_
   refine W_v rfl rfl (V_ext (v := .int .i64 ((lnN ((aS Xu nv ns x).2)))) rfl (et rfl) rfl) ?_
   refine W_v rfl rfl (V_ext (v := .int .i64 ((ckS ((aS Xu nv ns x).2)).2)) rfl (es rfl (et rfl)) rfl) ?_
   refine W_v rfl rfl (V_asg rfl (es rfl (et rfl))) ?_
   refine W_end ?_
   refine Qo_normal ?_
   refine gen_Q (fun A174 E174 => ?_)
   have Y174 := szq E174
   have F174 := fsE E174 (ck (cq5 (fx10 F170) rfl) rfl rfl)
   clear E174 Y170 F170
   have S176 := S173.del 0
   replace S176 : St w NoX (c_159 :: c147_157 :: cb147_157 :: cb_157 :: cz_157 :: c14_157 :: c13_157 :: c15_157 :: c6_157 :: c140_157 :: c4_157 :: c154_157 :: fr) w173 := S176
   have S177 := S176.del 0
   replace S177 : St w NoX (c147_157 :: cb147_157 :: cb_157 :: cz_157 :: c14_157 :: c13_157 :: c15_157 :: c6_157 :: c140_157 :: c4_157 :: c154_157 :: fr) w173 := S177
   have S178 := S177.del 10
   replace S178 : St w NoX (c147_157 :: cb147_157 :: cb_157 :: cz_157 :: c14_157 :: c13_157 :: c15_157 :: c6_157 :: c140_157 :: c4_157 :: fr) w173 := S178
   refine tk H172 ?_
   refine R_monoS (by kernel_rfl) 5 6 [none, none, none, some (SPv [] (fun _ => fun u l' => ∃ v_s, u = .agg #[v_s] ∧ ∃ c_s, c_s = io .i64 (v_s) (List.replicate 8 (0 : Int)) ∧ l' = [c_s]) 3)] (by kernel_rfl) (by kernel_rfl) ?_
   refine D_v rfl rfl (V_fa (off' := 0) rfl (fg8 F174) Try.underlying29 rfl (by decide +kernel) rfl) rfl rfl ?_
   refine D_r rfl rfl (by kernel_rfl) (fun sx hx hF => (VR_ldC rfl (et rfl) (cell_box (v := v_139) ((S178.grow hx).obj 8 rfl hc140_157) rfl) Try.underlying24 rfl)) rfl rfl ?_
   refine D_v rfl rfl (V_mov rfl (es2 rfl (fg5 F174))) rfl rfl ?_
   refine D_call (ts := []) (vs := []) (C0 := fun _ => fun u l' => ∃ v_s, u = .agg #[v_s] ∧ ∃ c_s, c_s = io .i64 (v_s) (List.replicate 8 (0 : Int)) ∧ l' = [c_s]) (C := fun u l' => ∃ v_s, u = .agg #[v_s] ∧ ∃ c_s, c_s = io .i64 (v_s) (List.replicate 8 (0 : Int)) ∧ l' = [c_s]) rfl rfl rfl Try.func52 (by kernel_rfl) rfl (args0) rfl rfl rfl rfl (fun sx hx hF => ?_) (fun u179 l179 hu179 => ?_)
   ·refine (knew_c  ).mono ?_
    rintro _ _ ⟨v_179, rfl, hz⟩
    exact ⟨_, rfl, _, ⟨_, rfl, _, rfl, rfl⟩, hz⟩
   obtain ⟨v_179, rfl, c_179, hc_179, hl179⟩ := hu179
   have k180 : x < V.length := by first | omega | (simp only [List.length_cons, List.length_nil]; omega) | (simp only [List.length_set]; omega) | decide
   obtain ⟨y180, hy180⟩ := get_some (xs := V) (k := x) k180
   obtain ⟨B180, O180, C180, hv180⟩ := (SlN.blk (ow_at (S178.chq 0 rfl hc147_157)) (by first | omega | (simp only [List.length_cons, List.length_nil]; omega) | (simp only [List.length_set]; omega) | decide))
   refine D_v rfl rfl (V_ixS (off := O180 + x * 1) 1 (x) rfl (es2 rfl (et rfl)) (es rfl (et rfl)) hv180 (by omega) k180 Try.underlying24 (by kernel_rfl) rfl) rfl rfl ?_
   refine D_eff rfl ?_
   refine ZS_eff S178 rfl rfl (fun s181 hJ181 hL181 hF181 => ?_)
   obtain ⟨ll179, ws179, we179, ⟨v_179q, hq179, c_179r, hc_179r, hl179r⟩, hm179, k179, e179⟩ := L.all_get hF181; cases hq179; subst hl179r
   replace hJ181 := hJ181.add hL181 (i := 3) rfl hm179 k179 e179
   have S181 := hJ181.st; clear hF181 hJ181 hL181
   generalize s181.1 = w181 at *
   replace S181 : St w NoX (c_179r :: c147_157 :: cb147_157 :: cb_157 :: cz_157 :: c14_157 :: c13_157 :: c15_157 :: c6_157 :: c140_157 :: c4_157 :: fr) w181 := S181
   have S183 : St w NoX (c_179r :: cb147_157 :: c147_157 :: cb_157 :: cz_157 :: c14_157 :: c13_157 :: c15_157 :: c6_157 :: c140_157 :: c4_157 :: fr) w181 := St.selR (l := [c_179r, c147_157, cb147_157, cb_157, cz_157, c14_157, c13_157, c15_157, c6_157, c140_157, c4_157]) (l' := [c_179r, cb147_157, c147_157, cb_157, cz_157, c14_157, c13_157, c15_157, c6_157, c140_157, c4_157]) (fr := fr) S181 [0, 2, 1, 3, 4, 5, 6, 7, 8, 9, 10] (by decide) (by rfl) rfl
   refine W_stS1 (j := x) S183 hc_179r hcb147_157 hc147_157 hv180 rfl rfl rfl (et rfl) (es rfl (et rfl)) (SlN_one (ow_at (S183.chq 0 rfl hc_179r))) rfl (by omega) (by kernel_rfl) (fun w182 ca182 c182 hca182 hc182 S182 => ?_)
   have hsl182 : (V.set x (v_179, (List.replicate 8 (0 : Int)))).length = V.length := List.length_set ..
   replace S182 : St w NoX (ca182 :: c182 :: cb_157 :: cz_157 :: c14_157 :: c13_157 :: c15_157 :: c6_157 :: c140_157 :: c4_157 :: fr) w182 := S182
   refine W_end ?_
   refine Qo_normal ?_
   refine gen_Q (fun A184 E184 => ?_)
   have Y184 := szq E184
   have F184 := fsE E184 (cq5 F174 rfl)
   clear E184 Y174 F174
   refine inb_n ?_
   refine tk H166 ?_
   refine R_region (by kernel_rfl) ?_
   refine W_r rfl rfl (VR_ldC rfl (fg7 F184) (cell_box (v := .int .i64 (n)) (S182.obj 7 rfl hc6_157) rfl) Try.underlying3 rfl) ?_
   refine W_v rfl rfl (V_mov rfl (es rfl (fg0 F184))) ?_
   refine W_v rfl rfl (V_add rfl (es rfl (et rfl)) (et rfl) (by omega) (by omega)) ?_
   refine W_stCS (zs' := #[.int .i64 ((n + (lnN ((aS Xu nv ns x).2))))]) 7 S182 rfl hc6_157 rfl rfl rfl (es3 rfl (fg7 F184)) (et rfl) (by rfl) (by rfl) (by kernel_rfl) (by first | rfl | (simp only [List.setIfInBounds_toArray, List.set_cons_succ, List.set_cons_zero] <;> rfl)) (fun w185 c185 hc185 S185 => ?_)
   replace S185 : St w NoX (ca182 :: c182 :: cb_157 :: cz_157 :: c14_157 :: c13_157 :: c15_157 :: c185 :: c140_157 :: c4_157 :: fr) w185 := S185
   refine W_end ?_
   refine Qo_normal ?_
   refine gen_Q (fun A186 E186 => ?_)
   have Y186 := szq E186
   have F186 := fsE E186 (cq3 F184 rfl)
   clear E186 Y184 F184
   refine inb_n ?_
   have S187 : St w NoX (c182 :: ca182 :: cb_157 :: cz_157 :: c14_157 :: c13_157 :: c15_157 :: c185 :: c140_157 :: c4_157 :: fr) w185 := St.selR (l := [ca182, c182, cb_157, cz_157, c14_157, c13_157, c15_157, c185, c140_157, c4_157]) (l' := [c182, ca182, cb_157, cz_157, c14_157, c13_157, c15_157, c185, c140_157, c4_157]) (fr := fr) S185 [1, 0, 2, 3, 4, 5, 6, 7, 8, 9] (by decide) (by rfl) rfl
   exact (St.pack (l := [ro 1 fstC v_139 (V.set x (v_179, (List.replicate 8 (0 : Int)))), owl .i64 (V.set x (v_179, (List.replicate 8 (0 : Int)))), bx gb_144 29 #[cv, nv], io .i64 zv (nuK ns (spA C N Z K Q i) (spB C N Z K Q i) Xu.length (pre ++ [x]).length), bx g12 3 #[.int .i64 ((spB C N Z K Q i))], bx g11 3 #[.int .i64 ((spA C N Z K Q i))], bx g7 34 #[.int .i64 ((frE C N Z K Q (csF Xu) ns i))], bx g6 3 #[.int .i64 (_)], bx g5 29 #[v_139, zv], bx g4 3 #[.int .i64 (i)]]) (fr := fr) (by have q0 : c182 = ro 1 fstC v_139 (V.set x (v_179, (List.replicate 8 (0 : Int)))) := hc182.trans (rfl); have q1 : ca182 = owl .i64 (V.set x (v_179, (List.replicate 8 (0 : Int)))) := hca182.trans (rfl); have q2 : cb_157 = bx gb_144 29 #[cv, nv] := hcb_157; have q3 : cz_157 = io .i64 zv (nuK ns (spA C N Z K Q i) (spB C N Z K Q i) Xu.length (pre ++ [x]).length) := hcz_157.trans ((congrArg (io .i64 _) (nu_keep hpre (show x < Xu.length by omega)))); have q4 : c14_157 = bx g12 3 #[.int .i64 ((spB C N Z K Q i))] := hc14_157; have q5 : c13_157 = bx g11 3 #[.int .i64 ((spA C N Z K Q i))] := hc13_157; have q6 : c15_157 = bx g7 34 #[.int .i64 ((frE C N Z K Q (csF Xu) ns i))] := hc15_157; have q7 : c185 = bx g6 3 #[.int .i64 (_)] := hc185.trans (rfl); have q8 : c140_157 = bx g5 29 #[v_139, zv] := hc140_157; have q9 : c4_157 = bx g4 3 #[.int .i64 (i)] := hc4_157; subst q0 q1 q2 q3 q4 q5 q6 q7 q8 q9; exact S187) (⟨(V.set x (v_179, (List.replicate 8 (0 : Int)))), zv, _, (prp_row hpre hV (show x < Xu.length by omega) (nv := nv) (ns := ns) (pgF_car (by omega))), (ps_snoc hpre hn (pn_car (nv := nv) (by omega))), rfl⟩))
  refine R_seq (fun K188 H188 => ?_)
  refine R_region (by kernel_rfl) ?_
  refine W_v rfl rfl (V_eql rfl (fg1 F170) rfl) ?_
  refine W_v rfl rfl (V_asg rfl (et rfl)) ?_
  refine W_end ?_
  refine Qo_normal ?_
  refine gen_Q (fun A189 E189 => ?_)
  have Y189 := szq E189
  have F189 := fsE E189 (ck (cq1 F170 rfl) rfl rfl)
  clear E189 Y170 F170
  have S191 := S161.del 12
  replace S191 : St w NoX (c161 :: c_159 :: c147_157 :: cb147_157 :: cb_157 :: cz_157 :: c14_157 :: c13_157 :: c15_157 :: c6_157 :: c140_157 :: c4_157 :: fr) w161 := S191
  refine tk H188 ?_
  refine R_cond_dec (fg0 F189) (fun c192 => ?_) (fun c192 => ?_)
  ·refine R_region (by kernel_rfl) ?_
   refine W_r rfl rfl (VR_ldA rfl (fg12 F189) (S191.obj 0 rfl hc161) Try.underlying27 rfl (by kernel_rfl)) ?_
   refine W_v rfl rfl (V_fa (off' := 1) rfl (es rfl (fg8 F189)) Try.underlying29 rfl (by decide +kernel) rfl) ?_
   refine W_stAM (ys := [v_159]) (zs' := #[v_139, v_159]) 10 S191 rfl hc140_157 rfl rfl rfl (et rfl) (es rfl (et rfl)) (by intro u hu; simp only [List.mem_cons, List.not_mem_nil, or_false] at hu; rcases hu with rfl <;> first | exact SlN_one (ow_at (S191.chq 1 rfl hc_159))) (by simp) (by kernel_rfl) rfl (fun w193 c193 hc193 S193 => ?_)
   replace S193 : St w NoX (c161 :: c_159 :: c147_157 :: cb147_157 :: cb_157 :: cz_157 :: c14_157 :: c13_157 :: c15_157 :: c6_157 :: c193 :: c4_157 :: fr) w193 := S193
   refine W_end ?_
   refine Qo_normal ?_
   refine gen_Q (fun A194 E194 => ?_)
   have Y194 := szq E194
   have F194 := fsE E194 (cq2 F189 rfl)
   clear E194 Y189 F189
   have S196 := S193.del 0
   replace S196 : St w NoX (c_159 :: c147_157 :: cb147_157 :: cb_157 :: cz_157 :: c14_157 :: c13_157 :: c15_157 :: c6_157 :: c193 :: c4_157 :: fr) w193 := S196
   refine inb_n ?_
   refine tk H166 ?_
   refine R_region (by kernel_rfl) ?_
   refine W_r rfl rfl (VR_ldC rfl (fg7 F194) (cell_box (v := .int .i64 (n)) (S196.obj 8 rfl hc6_157) rfl) Try.underlying3 rfl) ?_
   refine W_v rfl rfl (V_mov rfl (es rfl (fg11 F194))) ?_
   refine W_v rfl rfl (V_add rfl (es rfl (et rfl)) (et rfl) (by omega) (by omega)) ?_
   refine W_stCS (zs' := #[.int .i64 ((n + (pgN ((aS Xu nv ns x).2) (spA C N Z K Q i) (spB C N Z K Q i))))]) 8 S196 rfl hc6_157 rfl rfl rfl (es3 rfl (fg7 F194)) (et rfl) (by rfl) (by rfl) (by kernel_rfl) (by first | rfl | (simp only [List.setIfInBounds_toArray, List.set_cons_succ, List.set_cons_zero] <;> rfl)) (fun w197 c197 hc197 S197 => ?_)
   replace S197 : St w NoX (c_159 :: c147_157 :: cb147_157 :: cb_157 :: cz_157 :: c14_157 :: c13_157 :: c15_157 :: c197 :: c193 :: c4_157 :: fr) w197 := S197
   refine W_end ?_
   refine Qo_normal ?_
   refine gen_Q (fun A198 E198 => ?_)
   have Y198 := szq E198
   have F198 := fsE E198 (cq3 F194 rfl)
   clear E198 Y194 F194
   refine inb_n ?_
   have S199 : St w NoX (c147_157 :: cb147_157 :: cb_157 :: c_159 :: c14_157 :: c13_157 :: c15_157 :: c197 :: c193 :: c4_157 :: fr) w197 := St.selR (l := [c_159, c147_157, cb147_157, cb_157, cz_157, c14_157, c13_157, c15_157, c197, c193, c4_157]) (l' := [c147_157, cb147_157, cb_157, c_159, c14_157, c13_157, c15_157, c197, c193, c4_157]) (fr := fr) S197 [1, 2, 3, 0, 5, 6, 7, 8, 9, 10] (by decide) (by rfl) rfl
   exact (St.pack (l := [ro 1 fstC v_139 V, owl .i64 V, bx gb_144 29 #[cv, nv], io .i64 v_159 (nuK ns (spA C N Z K Q i) (spB C N Z K Q i) Xu.length (pre ++ [x]).length), bx g12 3 #[.int .i64 ((spB C N Z K Q i))], bx g11 3 #[.int .i64 ((spA C N Z K Q i))], bx g7 34 #[.int .i64 ((frE C N Z K Q (csF Xu) ns i))], bx g6 3 #[.int .i64 (_)], bx g5 29 #[v_139, v_159], bx g4 3 #[.int .i64 (i)]]) (fr := fr) (by have q0 : c147_157 = ro 1 fstC v_139 V := hc147_157.trans (rfl); have q1 : cb147_157 = owl .i64 V := hcb147_157.trans (rfl); have q2 : cb_157 = bx gb_144 29 #[cv, nv] := hcb_157; have q3 : c_159 = io .i64 v_159 (nuK ns (spA C N Z K Q i) (spB C N Z K Q i) Xu.length (pre ++ [x]).length) := hc_159.trans ((congrArg (io .i64 _) (nu_last (c := (aS Xu nv ns x).2) hpre (show x = Xu.length by omega) (by rw [aS_end (by omega)])))); have q4 : c14_157 = bx g12 3 #[.int .i64 ((spB C N Z K Q i))] := hc14_157; have q5 : c13_157 = bx g11 3 #[.int .i64 ((spA C N Z K Q i))] := hc13_157; have q6 : c15_157 = bx g7 34 #[.int .i64 ((frE C N Z K Q (csF Xu) ns i))] := hc15_157; have q7 : c197 = bx g6 3 #[.int .i64 (_)] := hc197.trans (rfl); have q8 : c193 = bx g5 29 #[v_139, v_159] := hc193; have q9 : c4_157 = bx g4 3 #[.int .i64 (i)] := hc4_157; subst q0 q1 q2 q3 q4 q5 q6 q7 q8 q9; exact S199) (⟨V, v_159, _, (prp_over hpre hV (by omega)), (ps_snoc hpre hn (pn_no (nv := nv) (by omega))), rfl⟩))
  refine R_region (by kernel_rfl) ?_
  refine W_v rfl rfl (V_fa (off' := 0) rfl (fg8 F189) Try.underlying29 rfl (by decide +kernel) rfl) ?_
  refine W_r rfl rfl (VR_ldC rfl (et rfl) (cell_box (v := v_139) (S191.obj 10 rfl hc140_157) rfl) Try.underlying24 rfl) ?_
  refine W_v rfl rfl (V_mov rfl (es2 rfl (fg5 F189))) ?_
  refine W_r rfl rfl (VR_ldA rfl (es3 rfl (fg12 F189)) (S191.obj 0 rfl hc161) Try.underlying27 rfl (by kernel_rfl)) ?_
  have k200 : x < V.length := by first | omega | (simp only [List.length_cons, List.length_nil]; omega) | (simp only [List.length_set]; omega) | decide
  obtain ⟨y200, hy200⟩ := get_some (xs := V) (k := x) k200
  obtain ⟨B200, O200, C200, hv200⟩ := (SlN.blk (ow_at (S191.chq 2 rfl hc147_157)) (by first | omega | (simp only [List.length_cons, List.length_nil]; omega) | (simp only [List.length_set]; omega) | decide))
  refine W_v rfl rfl (V_ixS (off := O200 + x * 1) 1 (x) rfl (es2 rfl (et rfl)) (es rfl (et rfl)) hv200 (by omega) k200 Try.underlying24 (by kernel_rfl) rfl) ?_
  have S202 : St w NoX (c_159 :: cb147_157 :: c147_157 :: c161 :: cb_157 :: cz_157 :: c14_157 :: c13_157 :: c15_157 :: c6_157 :: c140_157 :: c4_157 :: fr) w161 := St.selR (l := [c161, c_159, c147_157, cb147_157, cb_157, cz_157, c14_157, c13_157, c15_157, c6_157, c140_157, c4_157]) (l' := [c_159, cb147_157, c147_157, c161, cb_157, cz_157, c14_157, c13_157, c15_157, c6_157, c140_157, c4_157]) (fr := fr) S191 [1, 3, 2, 0, 4, 5, 6, 7, 8, 9, 10, 11] (by decide) (by rfl) rfl
  refine W_stS1 (j := x) S202 hc_159 hcb147_157 hc147_157 hv200 rfl rfl rfl (et rfl) (es rfl (et rfl)) (SlN_one (ow_at (S202.chq 0 rfl hc_159))) rfl (by omega) (by kernel_rfl) (fun w201 ca201 c201 hca201 hc201 S201 => ?_)
  have hsl201 : (V.set x (v_159, (pgT ((aS Xu nv ns x).2) (spA C N Z K Q i) (spB C N Z K Q i)))).length = V.length := List.length_set ..
  replace S201 : St w NoX (ca201 :: c201 :: c161 :: cb_157 :: cz_157 :: c14_157 :: c13_157 :: c15_157 :: c6_157 :: c140_157 :: c4_157 :: fr) w201 := S201
  refine W_end ?_
  refine Qo_normal ?_
  refine gen_Q (fun A203 E203 => ?_)
  have Y203 := szq E203
  have F203 := fsE E203 (cq5 F189 rfl)
  clear E203 Y189 F189
  have S205 := S201.del 2
  replace S205 : St w NoX (ca201 :: c201 :: cb_157 :: cz_157 :: c14_157 :: c13_157 :: c15_157 :: c6_157 :: c140_157 :: c4_157 :: fr) w201 := S205
  refine inb_n ?_
  refine tk H166 ?_
  refine R_region (by kernel_rfl) ?_
  refine W_r rfl rfl (VR_ldC rfl (fg7 F203) (cell_box (v := .int .i64 (n)) (S205.obj 7 rfl hc6_157) rfl) Try.underlying3 rfl) ?_
  refine W_v rfl rfl (V_mov rfl (es rfl (fg11 F203))) ?_
  refine W_v rfl rfl (V_add rfl (es rfl (et rfl)) (et rfl) (by omega) (by omega)) ?_
  refine W_stCS (zs' := #[.int .i64 ((n + (pgN ((aS Xu nv ns x).2) (spA C N Z K Q i) (spB C N Z K Q i))))]) 7 S205 rfl hc6_157 rfl rfl rfl (es3 rfl (fg7 F203)) (et rfl) (by rfl) (by rfl) (by kernel_rfl) (by first | rfl | (simp only [List.setIfInBounds_toArray, List.set_cons_succ, List.set_cons_zero] <;> rfl)) (fun w206 c206 hc206 S206 => ?_)
  replace S206 : St w NoX (ca201 :: c201 :: cb_157 :: cz_157 :: c14_157 :: c13_157 :: c15_157 :: c206 :: c140_157 :: c4_157 :: fr) w206 := S206
  refine W_end ?_
  refine Qo_normal ?_
  refine gen_Q (fun A207 E207 => ?_)
  have Y207 := szq E207
  have F207 := fsE E207 (cq3 F203 rfl)
  clear E207 Y203 F203
  refine inb_n ?_
  have S208 : St w NoX (c201 :: ca201 :: cb_157 :: cz_157 :: c14_157 :: c13_157 :: c15_157 :: c206 :: c140_157 :: c4_157 :: fr) w206 := St.selR (l := [ca201, c201, cb_157, cz_157, c14_157, c13_157, c15_157, c206, c140_157, c4_157]) (l' := [c201, ca201, cb_157, cz_157, c14_157, c13_157, c15_157, c206, c140_157, c4_157]) (fr := fr) S206 [1, 0, 2, 3, 4, 5, 6, 7, 8, 9] (by decide) (by rfl) rfl
  exact (St.pack (l := [ro 1 fstC v_139 (V.set x (v_159, (pgT ((aS Xu nv ns x).2) (spA C N Z K Q i) (spB C N Z K Q i)))), owl .i64 (V.set x (v_159, (pgT ((aS Xu nv ns x).2) (spA C N Z K Q i) (spB C N Z K Q i)))), bx gb_144 29 #[cv, nv], io .i64 zv (nuK ns (spA C N Z K Q i) (spB C N Z K Q i) Xu.length (pre ++ [x]).length), bx g12 3 #[.int .i64 ((spB C N Z K Q i))], bx g11 3 #[.int .i64 ((spA C N Z K Q i))], bx g7 34 #[.int .i64 ((frE C N Z K Q (csF Xu) ns i))], bx g6 3 #[.int .i64 (_)], bx g5 29 #[v_139, zv], bx g4 3 #[.int .i64 (i)]]) (fr := fr) (by have q0 : c201 = ro 1 fstC v_139 (V.set x (v_159, (pgT ((aS Xu nv ns x).2) (spA C N Z K Q i) (spB C N Z K Q i)))) := hc201.trans (rfl); have q1 : ca201 = owl .i64 (V.set x (v_159, (pgT ((aS Xu nv ns x).2) (spA C N Z K Q i) (spB C N Z K Q i)))) := hca201.trans (rfl); have q2 : cb_157 = bx gb_144 29 #[cv, nv] := hcb_157; have q3 : cz_157 = io .i64 zv (nuK ns (spA C N Z K Q i) (spB C N Z K Q i) Xu.length (pre ++ [x]).length) := hcz_157.trans ((congrArg (io .i64 _) (nu_keep hpre (show x < Xu.length by omega)))); have q4 : c14_157 = bx g12 3 #[.int .i64 ((spB C N Z K Q i))] := hc14_157; have q5 : c13_157 = bx g11 3 #[.int .i64 ((spA C N Z K Q i))] := hc13_157; have q6 : c15_157 = bx g7 34 #[.int .i64 ((frE C N Z K Q (csF Xu) ns i))] := hc15_157; have q7 : c206 = bx g6 3 #[.int .i64 (_)] := hc206.trans (rfl); have q8 : c140_157 = bx g5 29 #[v_139, zv] := hc140_157; have q9 : c4_157 = bx g4 3 #[.int .i64 (i)] := hc4_157; subst q0 q1 q2 q3 q4 q5 q6 q7 q8 q9; exact S208) (⟨(V.set x (v_159, (pgT ((aS Xu nv ns x).2) (spA C N Z K Q i) (spB C N Z K Q i)))), zv, _, (prp_row hpre hV (show x < Xu.length by omega) (nv := nv) (ns := ns) (pgF_no (by omega))), (ps_snoc hpre hn (pn_no (nv := nv) (by omega))), rfl⟩))
 ·intro D209 xs w209 hxs S209
  have hxs' : xs = (List.range (Xu.length + 1)) := hxs; subst hxs'; clear hxs
  obtain ⟨_, ⟨V, zv, n, hV, hn, rfl⟩, S209⟩ := S209.unpack
  replace S209 : St w NoX ((ro 1 fstC v_139 V) :: (owl .i64 V) :: (bx gb_144 29 #[cv, nv]) :: (io .i64 zv (nuK ns (spA C N Z K Q i) (spB C N Z K Q i) Xu.length (List.range (Xu.length + 1)).length)) :: (bx g12 3 #[.int .i64 ((spB C N Z K Q i))]) :: (bx g11 3 #[.int .i64 ((spA C N Z K Q i))]) :: (bx g7 34 #[.int .i64 ((frE C N Z K Q (csF Xu) ns i))]) :: (bx g6 3 #[.int .i64 (n)]) :: (bx g5 29 #[v_139, zv]) :: (bx g4 3 #[.int .i64 (i)]) :: (ob D209 (.deferred (some []))) :: []) w209 := S209
  obtain ⟨c147_209, cb147_209, cb_209, cz_209, c14_209, c13_209, c15_209, c6_209, c140_209, c4_209, cD209, hc147_209, hcb147_209, hcb_209, hcz_209, hc14_209, hc13_209, hc15_209, hc6_209, hc140_209, hc4_209, hcD209, S209⟩ := gen11 S209
  have hn' : n = psm (pnF (csF Xu ++ [ns]) i (spA C N Z K Q i) (spB C N Z K Q i)) (Xu.length + 1) := by rw [hn, List.length_range]
  refine gen_Q (fun A209 E209 => ?_)
  have Y209 := szq E209
  have hdf209 : A209.defers = [{ target := .collected D209, args := #[] }] := by rw [E209, df_mk, F145.d] <;> rfl
  have l6_209 := lookE E209 6 (mk_l (fg6 F145))
  have l7_209 := lookE E209 7 (mk_l (fg5 F145))
  have l8_209 := lookE E209 8 (mk_l (fg4 F145))
  clear E209
  refine inb_n ?_
  refine tk H142 ?_
  refine R_seq (fun K210 H210 => ?_)
  refine join_R (R := fun A' w' => SzN A' 74 ∧ A'.defers = [{ target := .collected D209, args := #[] }] ∧ EV A' (.tmp 6) = EV A209 (.tmp 6) ∧ EV A' (.tmp 7) = EV A209 (.tmp 7) ∧ EV A' (.tmp 8) = EV A209 (.tmp 8) ∧ St w NoX [ro 1 fstC v_139 V, owl .i64 V, io .i64 zv (nuK ns (spA C N Z K Q i) (spB C N Z K Q i) Xu.length (List.range (Xu.length + 1)).length), bx g7 34 #[.int .i64 0], bx g6 3 #[.int .i64 (n)], bx g5 29 #[v_139, zv], ob D209 (.deferred (some []))] w') ?_ ?_
  ·refine R_any (by kernel_rfl) (by kernel_rfl) 5 rfl (fun w311 hx311 => ?_)
   have S311 := S209.grow hx311
   refine AX_2 (i := 0) (j := 1) (by kernel_rfl) rfl rfl ?_ ?_
   ·refine W_r rfl rfl (VR_ldA rfl l6_209 (S311.obj 8 rfl hc140_209) Try.underlying29 rfl (by kernel_rfl)) ?_
    refine W_end ?_
    refine kq _ ?_
    refine AX_cast (l2 := #[true, false, false, false, false]) ?_ (by kernel_rfl)
    refine AX_2 (i := 1) (j := 2) (by kernel_rfl) rfl rfl ?_ ?_
    ·refine W_r rfl rfl (VR_ldC rfl (es rfl l7_209) (cell_box (v := .int .i64 (n)) (S311.obj 7 rfl hc6_209) rfl) Try.underlying3 rfl) ?_
     refine W_end ?_
     refine kq _ ?_
     refine AX_cast (l2 := #[true, true, false, false, false]) ?_ (by kernel_rfl)
     refine AX_1 (i := 2) (by kernel_rfl) rfl ?_
     refine W_stAS 8 S311 rfl hc140_209 rfl rfl rfl (es2 rfl l6_209) (es rfl (et rfl)) (by simp only [List.all_toArray, List.all_cons, List.all_nil, SlN_one (ow_at (S311.chq 0 rfl hc147_209)), SlN_one (ow_at (S311.chq 3 rfl hcz_209))] <;> rfl) (by rfl) (by kernel_rfl) (fun w312 c312 hc312 S312 => ?_)
     replace S312 : St w NoX [c147_209, cb147_209, cb_209, cz_209, c14_209, c13_209, c15_209, c6_209, c312, c4_209, cD209] w312 := S312
     refine W_end ?_
     refine kq _ ?_
     refine AX_cast (l2 := #[true, true, true, false, false]) ?_ (by kernel_rfl)
     refine AX_1 (i := 3) (by kernel_rfl) rfl ?_
     refine W_stCS (zs' := #[.int .i64 (n)]) 7 S312 rfl hc6_209 rfl rfl rfl (es2 rfl l7_209) (et rfl) (by rfl) (by rfl) (by kernel_rfl) (by first | rfl | (simp only [List.setIfInBounds_toArray, List.set_cons_succ, List.set_cons_zero] <;> rfl)) (fun w313 c313 hc313 S313 => ?_)
     replace S313 : St w NoX [c147_209, cb147_209, cb_209, cz_209, c14_209, c13_209, c15_209, c313, c312, c4_209, cD209] w313 := S313
     refine W_end ?_
     refine kq _ ?_
     refine AX_cast (l2 := #[true, true, true, true, false]) ?_ (by kernel_rfl)
     refine AX_1 (i := 4) (by kernel_rfl) rfl ?_
     refine W_stCS (zs' := #[.int .i64 0]) 6 S313 rfl hc15_209 rfl rfl rfl (es2 rfl l8_209) rfl (by rfl) (by rfl) (by kernel_rfl) (by first | rfl | (simp only [List.setIfInBounds_toArray, List.set_cons_succ, List.set_cons_zero] <;> rfl)) (fun w314 c314 hc314 S314 => ?_)
     replace S314 : St w NoX [c147_209, cb147_209, cb_209, cz_209, c14_209, c13_209, c314, c313, c312, c4_209, cD209] w314 := S314
     refine W_end ?_
     refine kq _ ?_
     refine AX_cast (l2 := #[true, true, true, true, true]) ?_ (by kernel_rfl)
     refine AX_end (by kernel_rfl) ?_
     refine Qo_normal ?_
     have S315 : St w NoX [c147_209, cb147_209, cz_209, c314, c313, c312, cD209] w314 := S314.sel [0, 1, 3, 6, 7, 8, 10] (by decide) rfl
     exact ⟨inferInstance, (by simp only [df_put]; exact hdf209), ((es2 rfl l6_209).trans l6_209.symm), ((es2 rfl l7_209).trans l7_209.symm), ((es2 rfl l8_209).trans l8_209.symm), (by subst hc147_209 hcb147_209 hcz_209 hc314 hc313 hc312 hcD209; exact S315)⟩
    refine W_stAS 8 S311 rfl hc140_209 rfl rfl rfl (es rfl l6_209) (et rfl) (by simp only [List.all_toArray, List.all_cons, List.all_nil, SlN_one (ow_at (S311.chq 0 rfl hc147_209)), SlN_one (ow_at (S311.chq 3 rfl hcz_209))] <;> rfl) (by rfl) (by kernel_rfl) (fun w316 c316 hc316 S316 => ?_)
    replace S316 : St w NoX [c147_209, cb147_209, cb_209, cz_209, c14_209, c13_209, c15_209, c6_209, c316, c4_209, cD209] w316 := S316
    refine W_end ?_
    refine kq _ ?_
    refine AX_cast (l2 := #[true, false, true, false, false]) ?_ (by kernel_rfl)
    refine AX_1 (i := 1) (by kernel_rfl) rfl ?_
    refine W_r rfl rfl (VR_ldC rfl (es rfl l7_209) (cell_box (v := .int .i64 (n)) (S316.obj 7 rfl hc6_209) rfl) Try.underlying3 rfl) ?_
    refine W_end ?_
    refine kq _ ?_
    refine AX_cast (l2 := #[true, true, true, false, false]) ?_ (by kernel_rfl)
    refine AX_1 (i := 3) (by kernel_rfl) rfl ?_
    refine W_stCS (zs' := #[.int .i64 (n)]) 7 S316 rfl hc6_209 rfl rfl rfl (es2 rfl l7_209) (et rfl) (by rfl) (by rfl) (by kernel_rfl) (by first | rfl | (simp only [List.setIfInBounds_toArray, List.set_cons_succ, List.set_cons_zero] <;> rfl)) (fun w317 c317 hc317 S317 => ?_)
    replace S317 : St w NoX [c147_209, cb147_209, cb_209, cz_209, c14_209, c13_209, c15_209, c317, c316, c4_209, cD209] w317 := S317
    refine W_end ?_
    refine kq _ ?_
    refine AX_cast (l2 := #[true, true, true, true, false]) ?_ (by kernel_rfl)
    refine AX_1 (i := 4) (by kernel_rfl) rfl ?_
    refine W_stCS (zs' := #[.int .i64 0]) 6 S317 rfl hc15_209 rfl rfl rfl (es2 rfl l8_209) rfl (by rfl) (by rfl) (by kernel_rfl) (by first | rfl | (simp only [List.setIfInBounds_toArray, List.set_cons_succ, List.set_cons_zero] <;> rfl)) (fun w318 c318 hc318 S318 => ?_)
    replace S318 : St w NoX [c147_209, cb147_209, cb_209, cz_209, c14_209, c13_209, c318, c317, c316, c4_209, cD209] w318 := S318
    refine W_end ?_
    refine kq _ ?_
    refine AX_cast (l2 := #[true, true, true, true, true]) ?_ (by kernel_rfl)
    refine AX_end (by kernel_rfl) ?_
    refine Qo_normal ?_
    have S319 : St w NoX [c147_209, cb147_209, cz_209, c318, c317, c316, cD209] w318 := S318.sel [0, 1, 3, 6, 7, 8, 10] (by decide) rfl
    exact ⟨inferInstance, (by simp only [df_put]; exact hdf209), ((es2 rfl l6_209).trans l6_209.symm), ((es2 rfl l7_209).trans l7_209.symm), ((es2 rfl l8_209).trans l8_209.symm), (by subst hc147_209 hcb147_209 hcz_209 hc318 hc317 hc316 hcD209; exact S319)⟩
   refine W_r rfl rfl (VR_ldC rfl l7_209 (cell_box (v := .int .i64 (n)) (S311.obj 7 rfl hc6_209) rfl) Try.underlying3 rfl) ?_
   refine W_end ?_
   refine kq _ ?_
   refine AX_cast (l2 := #[false, true, false, false, false]) ?_ (by kernel_rfl)
   refine AX_1 (i := 0) (by kernel_rfl) rfl ?_
   refine W_r rfl rfl (VR_ldA rfl (es rfl l6_209) (S311.obj 8 rfl hc140_209) Try.underlying29 rfl (by kernel_rfl)) ?_
   refine W_end ?_
   refine kq _ ?_
   refine AX_cast (l2 := #[true, true, false, false, false]) ?_ (by kernel_rfl)
   refine AX_1 (i := 2) (by kernel_rfl) rfl ?_
   refine W_stAS 8 S311 rfl hc140_209 rfl rfl rfl (es2 rfl l6_209) (et rfl) (by simp only [List.all_toArray, List.all_cons, List.all_nil, SlN_one (ow_at (S311.chq 0 rfl hc147_209)), SlN_one (ow_at (S311.chq 3 rfl hcz_209))] <;> rfl) (by rfl) (by kernel_rfl) (fun w320 c320 hc320 S320 => ?_)
   replace S320 : St w NoX [c147_209, cb147_209, cb_209, cz_209, c14_209, c13_209, c15_209, c6_209, c320, c4_209, cD209] w320 := S320
   refine W_end ?_
   refine kq _ ?_
   refine AX_cast (l2 := #[true, true, true, false, false]) ?_ (by kernel_rfl)
   refine AX_1 (i := 3) (by kernel_rfl) rfl ?_
   refine W_stCS (zs' := #[.int .i64 (n)]) 7 S320 rfl hc6_209 rfl rfl rfl (es2 rfl l7_209) (es rfl (et rfl)) (by rfl) (by rfl) (by kernel_rfl) (by first | rfl | (simp only [List.setIfInBounds_toArray, List.set_cons_succ, List.set_cons_zero] <;> rfl)) (fun w321 c321 hc321 S321 => ?_)
   replace S321 : St w NoX [c147_209, cb147_209, cb_209, cz_209, c14_209, c13_209, c15_209, c321, c320, c4_209, cD209] w321 := S321
   refine W_end ?_
   refine kq _ ?_
   refine AX_cast (l2 := #[true, true, true, true, false]) ?_ (by kernel_rfl)
   refine AX_1 (i := 4) (by kernel_rfl) rfl ?_
   refine W_stCS (zs' := #[.int .i64 0]) 6 S321 rfl hc15_209 rfl rfl rfl (es2 rfl l8_209) rfl (by rfl) (by rfl) (by kernel_rfl) (by first | rfl | (simp only [List.setIfInBounds_toArray, List.set_cons_succ, List.set_cons_zero] <;> rfl)) (fun w322 c322 hc322 S322 => ?_)
   replace S322 : St w NoX [c147_209, cb147_209, cb_209, cz_209, c14_209, c13_209, c322, c321, c320, c4_209, cD209] w322 := S322
   refine W_end ?_
   refine kq _ ?_
   refine AX_cast (l2 := #[true, true, true, true, true]) ?_ (by kernel_rfl)
   refine AX_end (by kernel_rfl) ?_
   refine Qo_normal ?_
   have S323 : St w NoX [c147_209, cb147_209, cz_209, c322, c321, c320, cD209] w322 := S322.sel [0, 1, 3, 6, 7, 8, 10] (by decide) rfl
   exact ⟨inferInstance, (by simp only [df_put]; exact hdf209), ((es2 rfl l6_209).trans l6_209.symm), ((es2 rfl l7_209).trans l7_209.symm), ((es2 rfl l8_209).trans l8_209.symm), (by subst hc147_209 hcb147_209 hcz_209 hc322 hc321 hc320 hcD209; exact S323)⟩
  rintro A324 w324 ⟨Y324, hdf324, u6_324, u7_324, u8_324, S324⟩
  have l6_324 := u6_324.trans l6_209
  have l7_324 := u7_324.trans l7_209
  have l8_324 := u8_324.trans l8_209
  clear Y209 hdf209 S209 l6_209 l7_209 l8_209
  obtain ⟨c147_324, cb147_324, cz_324, c213_324, c212_324, c211_324, cD209_324, hc147_324, hcb147_324, hcz_324, hc213_324, hc212_324, hc211_324, hcD209_324, S324⟩ := gen7 S324
  refine tk H210 ?_
  refine R_ret ?_
  have hD325 := S324.obj 6 rfl hcD209_324
  have S325 := S324.put (o' := .deferred none) 6 rfl hcD209_324
  obtain ⟨w325, hw325⟩ : ∃ w', w' = w324.putObj D209 (.deferred none) := ⟨_, rfl⟩
  rw [← hw325] at S325
  replace S325 : St w NoX [c147_324, cb147_324, cz_324, c213_324, c212_324, c211_324, (ob D209 (.deferred none))] w325 := S325
  refine ret_inR1' (D := D209) (w1 := w325) hw325 (results_3 Try.results14 (rv_cellA l6_324 (S325.obj 5 rfl hc211_324) Try.underlying29 rfl (by kernel_rfl)) (rv_cellC l7_324 (cell_box (S325.obj 4 rfl hc212_324) rfl) Try.underlying3 rfl) (rv_cellC l8_324 (cell_box (S325.obj 3 rfl hc213_324) rfl) Try.underlying34 rfl)) hdf324 hD325 ?_
  obtain ⟨c326, hc326, S326⟩ := St.rmClose S325 hc147_324 hcb147_324
  replace S326 : St w NoX [c326, cz_324, c213_324, c212_324, c211_324, (ob D209 (.deferred none))] w325 := S326
  have hb := pr_ok he
  rw [he, hb.2.2, csF_len, ← hn']
  exact ⟨_, _, rfl, (S326.fin2 0 rfl (hc326.trans (by rw [hb.1, hV, pgKK_end (by simp [csF_len])])) 1 rfl (hcz_324.trans (congrArg (io .i64 _) (by rw [hb.2.1, nuK_gt (by simp)]))) (by decide))⟩
 intro D327 cQ pre w327 hpre S327
 obtain ⟨_, h, _⟩ := S327.unpack; exact h.elim

end Go.Proofs.Yteppjefmlibmoaa