import Derived.Test.YteppjefmlibmoaaProg
import Derived.Test.YteppjefmlibmoaaSl3
import Derived.Test.YteppjefmlibmoaaPl7e
namespace Go.Proofs.Yteppjefmlibmoaa
open Go.RowKit Go.Own Go.Own.R Go.Own.S


set_option maxHeartbeats 4000000 in
theorem kCk_c {cv : Value} {c : List Int} {w : World} (h_cv : Ro w NoX (il .i64 cv c))  :
  Calls Try.prog 42 #[.agg #[cv]] w fun e w' => e = .returned (.tuple #[.int .i64 (ckS c).1, .int .i64 (ckS c).2]) ∧ St w NoX [] w' := by
 refine calls_inR 90 Try.func42 rfl rfl (by simp) (fun A0 Y0 hdf0 hargs => ?_)
 have l0_0 := hargs 0 (.agg #[cv]) rfl
 clear hargs; replace Y0 : SzN A0 90 := ⟨Y0⟩
 have hS := St.nil w
 replace hdf0 : A0.defers = (([] : List Nat).map coll) := hdf0
 replace hS : St w NoX (dsC ([] : List Nat)) w := hS
 have bh_cv := SlN.le (sl_SlN h_cv.at)
 refine R_seq (fun K1 H1 => ?_)
 refine R_region (by kernel_rfl) ?_
 refine W_boxS (zs := #[cv]) hS rfl rfl rfl l0_0 (by rfl) (fun g2 w2 c2 hc2 S2 => ?_)
 replace S2 : St w NoX (c2 :: (dsC ([] : List Nat))) w2 := S2
 refine W_v rfl rfl (V_asg rfl rfl) ?_
 refine W_v rfl rfl (V_asg rfl rfl) ?_
 refine W_end ?_
 refine Qo_normal ?_
 refine gen_Q (fun A3 E3 => ?_)
 have Y3 := szq E3
 have F3 := fsE E3 (cq2 (ck (FS.n hdf0) rfl rfl) rfl)
 clear E3 Y0 hdf0 l0_0
 refine tk H1 ?_
 refine R_scope ?_
 refine R_seq (fun K4 H4 => ?_)
 refine R_region (by kernel_rfl) ?_
 refine W_v rfl rfl (V_fa (off' := 0) rfl (fg0 F3) Try.underlying27 rfl (by decide +kernel) rfl) ?_
 refine W_r rfl rfl (VR_ldC rfl (et rfl) (cell_box (v := cv) (S2.obj 0 rfl hc2) rfl) Try.underlying25 rfl) ?_
 refine W_v rfl rfl (V_lenS rfl (et rfl) (sl_SlN h_cv.at) Try.underlying25) ?_
 refine W_v rfl rfl (V_asg rfl (et rfl)) ?_
 refine W_end ?_
 refine Qo_normal ?_
 refine gen_Q (fun A5 E5 => ?_)
 have Y5 := szq E5
 have F5 := fsE E5 (ck (cq3 F3 rfl) rfl rfl)
 clear E5 Y3 F3
 refine tk H4 ?_
 refine R_seq (fun K6 H6 => ?_)
 refine R_block ?_
 refine R_seq (fun K7 H7 => ?_)
 refine R_region (by kernel_rfl) ?_
 refine W_v rfl rfl (V_mov rfl (fg0 F5)) ?_
 refine W_v rfl rfl (V_gtr rfl (et rfl) rfl) ?_
 refine W_v rfl rfl (V_asg rfl (et rfl)) ?_
 refine W_end ?_
 refine Qo_normal ?_
 refine gen_Q (fun A8 E8 => ?_)
 have Y8 := szq E8
 have F8 := fsE E8 (ck (cq2 F5 rfl) rfl rfl)
 clear E8 Y5 F5
 refine tk H7 ?_
 refine R_cond_dec (fg0 F8) (fun c9 => ?_) (fun c9 => ?_)
 ·refine R_seq (fun K10 H10 => ?_)
  refine R_region (by kernel_rfl) ?_
  refine W_v rfl rfl (V_asg rfl rfl) ?_
  refine W_v rfl rfl (V_asg rfl rfl) ?_
  refine W_end ?_
  refine Qo_normal ?_
  refine gen_Q (fun A11 E11 => ?_)
  have Y11 := szq E11
  have F11 := fsE E11 (ck (ck F8 rfl rfl) rfl rfl)
  clear E11 Y8 F8
  have S13 := S2.del 0
  replace S13 : St w NoX (dsC ([] : List Nat)) w2 := S13
  refine tk H10 ?_
  refine R_ret ?_
  refine inb_ret ?_
  refine then_ret ?_
  refine ng_ret ?_
  obtain ⟨w14, hu14, S14⟩ := St.und (l := []) (ds := ([] : List Nat)) S13
  refine ret_inRs hu14 (results_2 Try.results42 (rv_tmp (fg1 F11)) (rv_tmp (fg0 F11))) F11.d ?_
  have h : ckS c = ((-1), 3) := ck_long (by omega)
  rw [h]
  exact ⟨rfl, S14.fin0⟩
 refine R_seq (fun K15 H15 => ?_)
 refine R_region (by kernel_rfl) ?_
 refine W_v rfl rfl (V_mov rfl (fg1 F8)) ?_
 refine W_v rfl rfl (V_lss rfl (et rfl) rfl) ?_
 refine W_split rfl rfl (V_mov rfl (et rfl)) (fun c16 => ?_) (fun c16 => ?_)
 ·refine W_off rfl (wanted_f rfl rfl (et rfl) (ez rfl) rfl) ?_
  refine W_off rfl (wanted_f rfl rfl (es rfl (et rfl)) (ez rfl) rfl) ?_
  refine W_off rfl (wanted_f rfl rfl (es2 rfl (et rfl)) (ez rfl) rfl) ?_
  refine W_off rfl (wanted_f rfl rfl (es3 rfl (et rfl)) (ez rfl) rfl) ?_
  refine W_off rfl (wanted_f rfl rfl (es4 rfl (et rfl)) (ez rfl) rfl) ?_
  refine W_v rfl rfl (V_pickT rfl (es5 rfl (et rfl)) rfl) ?_
  refine W_v rfl rfl (V_asg rfl (et rfl)) ?_
  refine W_end ?_
  refine Qo_normal ?_
  refine gen_Q (fun A17 E17 => ?_)
  have Y17 := szq E17
  have F17 := fsE E17 (ck (cq1 (cq8 F8 rfl) rfl) rfl rfl)
  clear E17 Y8 F8
  refine tk H15 ?_
  refine R_cond_t (fg0 F17) ?_
  refine R_seq (fun K18 H18 => ?_)
  refine R_region (by kernel_rfl) ?_
  refine W_v rfl rfl (V_asg rfl rfl) ?_
  refine W_v rfl rfl (V_asg rfl rfl) ?_
  refine W_end ?_
  refine Qo_normal ?_
  refine gen_Q (fun A19 E19 => ?_)
  have Y19 := szq E19
  have F19 := fsE E19 (ck (ck F17 rfl rfl) rfl rfl)
  clear E19 Y17 F17
  have S21 := S2.del 0
  replace S21 : St w NoX (dsC ([] : List Nat)) w2 := S21
  refine tk H18 ?_
  refine R_ret ?_
  refine inb_ret ?_
  refine then_ret ?_
  refine ng_ret ?_
  obtain ⟨w22, hu22, S22⟩ := St.und (l := []) (ds := ([] : List Nat)) S21
  refine ret_inRs hu22 (results_2 Try.results42 (rv_tmp (fg1 F19)) (rv_tmp (fg0 F19))) F19.d ?_
  have h : ckS c = ((-1), 6) := ck_form (by omega) (fun q => by have := q.bd; omega)
  rw [h]
  exact ⟨rfl, S22.fin0⟩
 refine W_v rfl (wanted_t rfl rfl (et rfl) (ez rfl)) (V_mov rfl (es3 rfl (fg1 F8))) ?_
 refine W_v rfl (wanted_t rfl rfl (es rfl (et rfl)) (ez rfl)) (V_mov rfl (es4 rfl (fg1 F8))) ?_
 refine W_v rfl (wanted_t rfl rfl (es2 rfl (et rfl)) (ez rfl)) (V_sb rfl (et rfl) rfl (by omega) (by omega)) ?_
 refine W_v rfl (wanted_t rfl rfl (es3 rfl (et rfl)) (ez rfl)) (V_and rfl (es2 rfl (et rfl)) (et rfl) (by omega) (by omega) (rfl)) ?_
 refine W_v rfl (wanted_t rfl rfl (es4 rfl (et rfl)) (ez rfl)) (V_neq rfl (et rfl) rfl) ?_
 refine W_v rfl rfl (V_pickF rfl (es5 rfl (et rfl)) (et rfl)) ?_
 refine W_v rfl rfl (V_asg rfl (et rfl)) ?_
 refine W_end ?_
 refine Qo_normal ?_
 refine gen_Q (fun A23 E23 => ?_)
 have Y23 := szq E23
 have F23 := fsE E23 (ck (cq1 (cq8 F8 rfl) rfl) rfl rfl)
 clear E23 Y8 F8
 refine tk H15 ?_
 refine R_cond_dec (fg0 F23) (fun c24 => ?_) (fun c24 => ?_)
 ·refine R_seq (fun K25 H25 => ?_)
  refine R_region (by kernel_rfl) ?_
  refine W_v rfl rfl (V_asg rfl rfl) ?_
  refine W_v rfl rfl (V_asg rfl rfl) ?_
  refine W_end ?_
  refine Qo_normal ?_
  refine gen_Q (fun A26 E26 => ?_)
  have Y26 := szq E26
  have F26 := fsE E26 (ck (ck F23 rfl rfl) rfl rfl)
  clear E26 Y23 F23
  have S28 := S2.del 0
  replace S28 : St w NoX (dsC ([] : List Nat)) w2 := S28
  refine tk H25 ?_
  refine R_ret ?_
  refine inb_ret ?_
  refine then_ret ?_
  refine ng_ret ?_
  obtain ⟨w29, hu29, S29⟩ := St.und (l := []) (ds := ([] : List Nat)) S28
  refine ret_inRs hu29 (results_2 Try.results42 (rv_tmp (fg1 F26)) (rv_tmp (fg0 F26))) F26.d ?_
  have h : ckS c = ((-1), 6) := ck_form (by omega) (fun q => c24 ((and_form (by omega) (by omega)).2 q))
  rw [h]
  exact ⟨rfl, S29.fin0⟩
 have hp2 : P2 c.length := (and_form (by omega) (by omega)).1 (by simpa using c24)
 have hp2b := hp2.bd
 refine R_skip ?_
 refine inb_n ?_
 refine tk H6 ?_
 refine R_seq (fun K30 H30 => ?_)
 refine R_region (by kernel_rfl) ?_
 refine W_allocS (z := .agg (((List.replicate 1601 false).map Value.bool).toArray)) (zs := ((((List.replicate 1601 false).map Value.bool).toArray))) S2 rfl rfl rfl (by kernel_rfl) (by rfl) (fun g31 w31 c31 hc31 S31 => ?_)
 replace S31 : St w NoX (c31 :: c2 :: (dsC ([] : List Nat))) w31 := S31
 refine W_end ?_
 refine Qo_normal ?_
 refine gen_Q (fun A32 E32 => ?_)
 have Y32 := szq E32
 have F32 := fsE E32 (ck F23 rfl rfl)
 clear E32 Y23 F23
 refine tk H30 ?_
 refine R_seq (fun K33 H33 => ?_)
 refine R_region (by kernel_rfl) ?_
 refine W_v rfl rfl (V_asg rfl rfl) ?_
 refine W_end ?_
 refine Qo_normal ?_
 refine gen_Q (fun A34 E34 => ?_)
 have Y34 := szq E34
 have F34 := fsE E34 (ck F32 rfl rfl)
 clear E34 Y32 F32
 refine tk H33 ?_
 refine R_seq (fun K35 H35 => ?_)
 refine R_seq (fun K36 H36 => ?_)
 refine R_region (by kernel_rfl) ?_
 refine W_v rfl rfl (V_fa (off' := 0) rfl (fg5 F34) Try.underlying27 rfl (by decide +kernel) rfl) ?_
 refine W_r rfl rfl (VR_ldC rfl (et rfl) (cell_box (v := cv) (S31.obj 1 rfl hc2) rfl) Try.underlying25 rfl) ?_
 refine W_v rfl rfl (V_lenS rfl (et rfl) (sl_SlN h_cv.at) Try.underlying25) ?_
 refine W_v rfl rfl (V_mov rfl rfl) ?_
 refine W_end ?_
 refine Qo_normal ?_
 refine gen_Q (fun A37 E37 => ?_)
 have Y37 := szq E37
 have F37 := fsE E37 (ck (ck (ck (cq1 F34 rfl) rfl rfl) rfl rfl) rfl rfl)
 clear E37 Y34 F34
 refine tk H36 ?_
 refine R_block ?_
 -- loop 9
 refine R_loop (fun mz A' w' => SzN A' 90 ∧ A'.defers = (([] : List Nat).map coll) ∧ (∃ (k : Nat), (mz = c.length - k) ∧ (k ≤ c.length) ∧ (bdGo [] c 0 = bdGo (c.take k) (c.drop k) k) ∧ (usd (c.take k) ≤ k ∧ adr (c.take k) ≤ k) ∧ (EV A' (.tmp 31) = .int .i64 (k : Int)) ∧ (EV A' (.tmp 6) = .int .i64 ((usd (c.take k) : Nat) : Int)) ∧ (EV A' (.tmp 1) = EV A37 (.tmp 1)) ∧ (EV A' (.tmp 4) = EV A37 (.tmp 4)) ∧ (EV A' (.tmp 5) = EV A37 (.tmp 5)) ∧ (EV A' (.tmp 29) = EV A37 (.tmp 29)) ∧ (EV A' (.tmp 30) = EV A37 (.tmp 30)) ∧ (St w NoX ((bx g31 102 (((mtS (c.take k)).map Value.bool).toArray)) :: (bx g2 27 #[cv]) :: (dsC ([] : List Nat))) w'))) (c.length - 0) ⟨Y37, F37.d, 0, rfl, (by omega), (bd_init _), (cnt_bd _ _), (((fg0 F37)).trans (by first | rfl | (simp; done) | (congr 1; omega))), (((fg3 F37)).trans (rfl)), rfl, rfl, rfl, rfl, rfl, (by have q0 : c31 = bx g31 102 (((mtS (c.take 0)).map Value.bool).toArray) := hc31.trans ((by rw [mtS_nil]; rfl)); have q1 := hc2; subst q0 q1; exact S31)⟩ ?_
 clear S31 hc31 hc2
 rintro n38 A38 w38 ⟨Y38, hdf38, k, hm38, hk, hz, hcb, l31_38, l6_38, u1_38, u4_38, u5_38, u29_38, u30_38, S38⟩
 have l1_38 := u1_38.trans (fg8 F37)
 have l4_38 := u4_38.trans (fg7 F37)
 have l5_38 := u5_38.trans (fg4 F37)
 have l29_38 := u29_38.trans (fg2 F37)
 have l30_38 := u30_38.trans (fg1 F37)
 obtain ⟨c31_38, c2_38, hc31_38, hc2_38, S38⟩ := gen2 S38
 refine R_seq (fun K39 H39 => ?_)
 refine R_region (by kernel_rfl) ?_
 refine W_v rfl rfl (V_lss rfl l31_38 l30_38) ?_
 refine W_end ?_
 refine Qo_normal ?_
 refine gen_Q (fun A40 E40 => ?_)
 have Y40 := szq E40
 have F40 := (((((((fsE E40 (ck (FS.n hdf38) rfl rfl)).c (lookE E40 1 (es rfl l1_38))).c (lookE E40 4 (es rfl l4_38))).c (lookE E40 5 (es rfl l5_38))).c (lookE E40 6 (es rfl l6_38))).c (lookE E40 29 (es rfl l29_38))).c (lookE E40 30 (es rfl l30_38))).c (lookE E40 31 (es rfl l31_38))
 clear E40 Y38 hdf38 l31_38 l6_38 l1_38 l4_38 l5_38 l29_38 l30_38
 refine tk H39 ?_
 refine R_seq (fun K41 H41 => ?_)
 refine R_cond_dec (fg7 F40) (fun c42 => ?_) (fun c42 => ?_)
 ·refine R_skip ?_
  refine tk H41 ?_
  refine R_seq (fun K43 H43 => ?_)
  refine R_block ?_
  refine R_seq (fun K44 H44 => ?_)
  refine R_region (by kernel_rfl) ?_
  refine W_v rfl rfl (V_mov rfl (fg0 F40)) ?_
  have k45 : k < c.length := by first | omega | (simp only [List.length_cons, List.length_nil]; omega) | (simp only [List.length_set]; omega) | decide
  obtain ⟨y45, hy45⟩ := get_some (xs := c) (k := k) k45
  obtain ⟨B45, O45, C45, hv45⟩ := (SlN.blk (sl_SlN h_cv.at) (by first | omega | (simp only [List.length_cons, List.length_nil]; omega) | (simp only [List.length_set]; omega) | decide))
  refine W_v rfl rfl (V_ixS (off := O45 + k) 1 (k) rfl (es rfl (fg2 F40)) (es rfl (fg0 F40)) hv45 (by omega) k45 Try.underlying25 (by kernel_rfl) (congrArg _ (Nat.mul_one _))) ?_
  refine W_r rfl rfl (VR_ldC rfl (et rfl) ((sl_SlN (S38.ro h_cv)).cell hv45 (map_get hy45)) Try.underlying3 rfl) ?_
  refine W_v rfl rfl (V_asg rfl (es2 rfl (et rfl))) ?_
  refine W_v rfl rfl (V_asg rfl (es rfl (et rfl))) ?_
  refine W_end ?_
  refine Qo_normal ?_
  refine gen_Q (fun A46 E46 => ?_)
  have Y46 := szq E46
  have F46 := fsE E46 (ck (ck (cq3 F40 rfl) rfl rfl) rfl rfl)
  clear E46 Y40 F40
  refine tk H44 ?_
  refine R_seq (fun K47 H47 => ?_)
  refine R_block ?_
  refine R_seq (fun K48 H48 => ?_)
  refine R_region (by kernel_rfl) ?_
  refine W_v rfl rfl (V_mov rfl (fg0 F46)) ?_
  refine W_v rfl rfl (V_eql rfl (et rfl) rfl) ?_
  refine W_v rfl rfl (V_asg rfl (et rfl)) ?_
  refine W_end ?_
  refine Qo_normal ?_
  refine gen_Q (fun A49 E49 => ?_)
  have Y49 := szq E49
  have F49 := fsE E49 (ck (cq2 F46 rfl) rfl rfl)
  clear E49 Y46 F46
  refine tk H48 ?_
  refine R_cond_dec (fg0 F49) (fun c50 => ?_) (fun c50 => ?_)
  ·refine R_exit ?_
   refine inb_miss rfl ?_
   refine then_exit ?_
   refine inb_hit ?_
   refine tk H43 ?_
   refine R_region (by kernel_rfl) ?_
   refine W_v rfl rfl (V_add rfl (fg3 F49) rfl (by omega) (by omega)) ?_
   refine W_v rfl rfl (V_mov rfl (et rfl)) ?_
   refine W_end ?_
   refine Qo_normal ?_
   refine gen_Q (fun A51 E51 => ?_)
   have Y51 := szq E51
   have F51 := fsE E51 (ck (cq1 (fx3 F49) rfl) rfl rfl)
   clear E51 Y49 F49
   refine then_n ⟨c.length - (k + 1), by simp only [hm38]; omega, Y51, F51.d, (k + 1), rfl, (by omega), (bd_step hz hy45 (by omega) (fun q => by omega)), (cnt_bd _ _), (((fg0 F51)).trans (by first | rfl | (simp; done) | (congr 1; omega))), (((fg6 F51)).trans ((by rw [usd_snoc hy45]; first | (rw [if_pos (by omega)]; rfl) | (rw [if_neg (by omega)]; rfl)))), (((fg9 F51)).trans (fg8 F37).symm), (((fg8 F51)).trans (fg7 F37).symm), (((fg7 F51)).trans (fg4 F37).symm), (((fg5 F51)).trans (fg2 F37).symm), (((fg4 F51)).trans (fg1 F37).symm), (by have q0 : c31_38 = bx g31 102 (((mtS (c.take (k + 1))).map Value.bool).toArray) := hc31_38.trans ((by rw [mtS_skip hy45 (by omega)])); have q1 := hc2_38; subst q0 q1; exact S38)⟩
  refine R_seq (fun K52 H52 => ?_)
  refine R_region (by kernel_rfl) ?_
  refine W_v rfl rfl (V_mov rfl (fg1 F49)) ?_
  refine W_v rfl rfl (V_lss rfl (et rfl) rfl) ?_
  refine W_split rfl rfl (V_mov rfl (et rfl)) (fun c53 => ?_) (fun c53 => ?_)
  ·refine W_off rfl (wanted_f rfl rfl (et rfl) (ez rfl) rfl) ?_
   refine W_off rfl (wanted_f rfl rfl (es rfl (et rfl)) (ez rfl) rfl) ?_
   refine W_v rfl rfl (V_pickT rfl (es2 rfl (et rfl)) rfl) ?_
   refine W_v rfl rfl (V_asg rfl (et rfl)) ?_
   refine W_end ?_
   refine Qo_normal ?_
   refine gen_Q (fun A54 E54 => ?_)
   have Y54 := szq E54
   have F54 := fsE E54 (ck (cq1 (ck (ck (cq3 F49 rfl) rfl rfl) rfl rfl) rfl) rfl rfl)
   clear E54 Y49 F49
   refine tk H52 ?_
   refine R_cond_t (fg0 F54) ?_
   refine R_seq (fun K55 H55 => ?_)
   refine R_region (by kernel_rfl) ?_
   refine W_v rfl rfl (V_mov rfl (fg5 F54)) ?_
   refine W_v rfl rfl (V_asg rfl (et rfl)) ?_
   refine W_v rfl rfl (V_asg rfl rfl) ?_
   refine W_end ?_
   refine Qo_normal ?_
   refine gen_Q (fun A56 E56 => ?_)
   have Y56 := szq E56
   have F56 := fsE E56 (ck (ck (cq1 F54 rfl) rfl rfl) rfl rfl)
   clear E56 Y54 F54
   have S58 := S38.del 0
   replace S58 : St w NoX (c2_38 :: (dsC ([] : List Nat))) w38 := S58
   have S59 := S58.del 0
   replace S59 : St w NoX (dsC ([] : List Nat)) w38 := S59
   refine tk H55 ?_
   refine R_ret ?_
   refine inb_ret ?_
   refine then_ret ?_
   refine inb_ret ?_
   refine then_ret ?_
   refine then_ret ?_
   refine inb_ret ?_
   refine then_ret ?_
   refine ng_ret ?_
   obtain ⟨w60, hu60, S60⟩ := St.und (l := []) (ds := ([] : List Nat)) S59
   refine ret_inRs hu60 (results_2 Try.results42 (rv_tmp (fg1 F56)) (rv_tmp (fg0 F56))) F56.d ?_
   have h : ckS c = ((k : Int), 7) := ck_bd hp2 (bd_rng hz hy45 (by omega))
   rw [h]
   exact ⟨rfl, S60.fin0⟩
  refine W_v rfl (wanted_t rfl rfl (et rfl) (ez rfl)) (V_mov rfl (es3 rfl (fg1 F49))) ?_
  refine W_v rfl (wanted_t rfl rfl (es rfl (et rfl)) (ez rfl)) (V_gtr rfl (et rfl) rfl) ?_
  refine W_v rfl rfl (V_pickF rfl (es2 rfl (et rfl)) (et rfl)) ?_
  refine W_v rfl rfl (V_asg rfl (et rfl)) ?_
  refine W_end ?_
  refine Qo_normal ?_
  refine gen_Q (fun A61 E61 => ?_)
  have Y61 := szq E61
  have F61 := fsE E61 (ck (cq1 (ck (ck (cq3 F49 rfl) rfl rfl) rfl rfl) rfl) rfl rfl)
  clear E61 Y49 F49
  refine tk H52 ?_
  refine R_cond_dec (fg0 F61) (fun c62 => ?_) (fun c62 => ?_)
  ·refine R_seq (fun K63 H63 => ?_)
   refine R_region (by kernel_rfl) ?_
   refine W_v rfl rfl (V_mov rfl (fg5 F61)) ?_
   refine W_v rfl rfl (V_asg rfl (et rfl)) ?_
   refine W_v rfl rfl (V_asg rfl rfl) ?_
   refine W_end ?_
   refine Qo_normal ?_
   refine gen_Q (fun A64 E64 => ?_)
   have Y64 := szq E64
   have F64 := fsE E64 (ck (ck (cq1 F61 rfl) rfl rfl) rfl rfl)
   clear E64 Y61 F61
   have S66 := S38.del 0
   replace S66 : St w NoX (c2_38 :: (dsC ([] : List Nat))) w38 := S66
   have S67 := S66.del 0
   replace S67 : St w NoX (dsC ([] : List Nat)) w38 := S67
   refine tk H63 ?_
   refine R_ret ?_
   refine inb_ret ?_
   refine then_ret ?_
   refine inb_ret ?_
   refine then_ret ?_
   refine then_ret ?_
   refine inb_ret ?_
   refine then_ret ?_
   refine ng_ret ?_
   obtain ⟨w68, hu68, S68⟩ := St.und (l := []) (ds := ([] : List Nat)) S67
   refine ret_inRs hu68 (results_2 Try.results42 (rv_tmp (fg1 F64)) (rv_tmp (fg0 F64))) F64.d ?_
   have h : ckS c = ((k : Int), 7) := ck_bd hp2 (bd_rng hz hy45 (by omega))
   rw [h]
   exact ⟨rfl, S68.fin0⟩
  refine R_seq (fun K69 H69 => ?_)
  refine R_region (by kernel_rfl) ?_
  refine W_v rfl rfl (V_mov rfl (fg4 F61)) ?_
  refine W_v rfl rfl (V_gtr rfl (et rfl) rfl) ?_
  refine W_split rfl rfl (V_mov rfl (et rfl)) (fun c70 => ?_) (fun c70 => ?_)
  ·refine W_v rfl (wanted_t rfl rfl (et rfl) (ez rfl)) (V_mov rfl (es3 rfl (fg4 F61))) ?_
   have k71 : y45.toNat < 1601 := by omega
   refine W_v rfl (wanted_t rfl rfl (es rfl (et rfl)) (ez rfl)) (V_ixA (sz := 1) (off' := y45.toNat) (y45.toNat) rfl (es4 rfl (fg10 F61)) (et rfl) (by omega) Try.underlying102 k71 (by kernel_rfl) (by omega)) ?_
   obtain ⟨y72, hy72⟩ := get_some (xs := (mtS (c.take k))) (k := y45.toNat) (by rw [(mtS_len _)]; omega)
   refine W_r rfl (wanted_t rfl rfl (es2 rfl (et rfl)) (ez rfl)) (VR_ldC rfl (et rfl) (cell_box (S38.obj 0 rfl hc31_38) (arrT_get hy72)) Try.underlying4 rfl) ?_
   refine W_v rfl rfl (V_pickT rfl (es3 rfl (et rfl)) (et rfl)) ?_
   refine W_v rfl rfl (V_asg rfl (et rfl)) ?_
   refine W_end ?_
   refine Qo_normal ?_
   refine gen_Q (fun A73 E73 => ?_)
   have Y73 := szq E73
   have F73 := fsE E73 (ck (cq1 (ck (ck (ck (cq3 F61 rfl) rfl rfl) rfl rfl) rfl rfl) rfl) rfl rfl)
   clear E73 Y61 F61
   refine tk H69 ?_
   refine R_cond_b (fg0 F73) (fun c74 => ?_) (fun c74 => ?_)
   ·refine R_seq (fun K75 H75 => ?_)
    refine R_region (by kernel_rfl) ?_
    refine W_v rfl rfl (V_mov rfl (fg9 F73)) ?_
    refine W_v rfl rfl (V_asg rfl (et rfl)) ?_
    refine W_v rfl rfl (V_asg rfl rfl) ?_
    refine W_end ?_
    refine Qo_normal ?_
    refine gen_Q (fun A76 E76 => ?_)
    have Y76 := szq E76
    have F76 := fsE E76 (ck (ck (cq1 F73 rfl) rfl rfl) rfl rfl)
    clear E76 Y73 F73
    have S78 := S38.del 0
    replace S78 : St w NoX (c2_38 :: (dsC ([] : List Nat))) w38 := S78
    have S79 := S78.del 0
    replace S79 : St w NoX (dsC ([] : List Nat)) w38 := S79
    refine tk H75 ?_
    refine R_ret ?_
    refine inb_ret ?_
    refine then_ret ?_
    refine inb_ret ?_
    refine then_ret ?_
    refine then_ret ?_
    refine inb_ret ?_
    refine then_ret ?_
    refine ng_ret ?_
    obtain ⟨w80, hu80, S80⟩ := St.und (l := []) (ds := ([] : List Nat)) S79
    refine ret_inRs hu80 (results_2 Try.results42 (rv_tmp (fg1 F76)) (rv_tmp (fg0 F76))) F76.d ?_
    have h : ckS c = ((k : Int), 8) := ck_bd hp2 (bd_twice hz hy45 (by omega) ((mtS_twice (by omega) hy72).1 c74))
    rw [h]
    exact ⟨rfl, S80.fin0⟩
   refine R_seq (fun K81 H81 => ?_)
   refine R_region (by kernel_rfl) ?_
   refine W_v rfl rfl (V_mov rfl (fg8 F73)) ?_
   refine W_v rfl rfl (V_gtr rfl (et rfl) rfl) ?_
   refine W_v rfl rfl (V_asg rfl (et rfl)) ?_
   refine W_end ?_
   refine Qo_normal ?_
   refine gen_Q (fun A82 E82 => ?_)
   have Y82 := szq E82
   have F82 := fsE E82 (ck (cq2 F73 rfl) rfl rfl)
   clear E82 Y73 F73
   refine tk H81 ?_
   refine R_cond_sure (fg0 F82) (by first | exact decide_eq_true (by omega) | exact decide_eq_false (by omega)) ?_
   refine R_region (by kernel_rfl) ?_
   refine W_v rfl rfl (V_mov rfl (fg9 F82)) ?_
   have k83 : y45.toNat < 1601 := by omega
   refine W_v rfl rfl (V_ixA (sz := 1) (off' := y45.toNat) (y45.toNat) rfl (es rfl (fg15 F82)) (et rfl) (by omega) Try.underlying102 k83 (by kernel_rfl) (by omega)) ?_
   refine W_stCS 0 S38 rfl hc31_38 rfl rfl rfl (et rfl) rfl (by rfl) (arrT_lt (mtS_len _) k83) (by kernel_rfl) (arrT_set _ _ _ _) (fun w84 c84 hc84 S84 => ?_)
   have hlen84 : ((mtS (c.take k)).set y45.toNat true).length = 1601 := by rw [List.length_set]; exact (mtS_len _)
   replace S84 : St w NoX (c84 :: c2_38 :: (dsC ([] : List Nat))) w84 := S84
   refine W_end ?_
   refine Qo_normal ?_
   refine gen_Q (fun A85 E85 => ?_)
   have Y85 := szq E85
   have F85 := fsE E85 (cq2 F82 rfl)
   clear E85 Y82 F82
   refine inb_n ?_
   refine tk H47 ?_
   refine R_region (by kernel_rfl) ?_
   refine W_v rfl rfl (V_mov rfl (fg14 F85)) ?_
   refine W_v rfl rfl (V_add rfl (et rfl) rfl (by omega) (by omega)) ?_
   refine W_v rfl rfl (V_asg rfl (et rfl)) ?_
   refine W_end ?_
   refine Qo_normal ?_
   refine gen_Q (fun A86 E86 => ?_)
   have Y86 := szq E86
   have F86 := fsE E86 (ck (cq2 (fx14 F85) rfl) rfl rfl)
   clear E86 Y85 F85
   refine inb_n ?_
   refine tk H43 ?_
   refine R_region (by kernel_rfl) ?_
   refine W_v rfl rfl (V_add rfl (fg12 F86) rfl (by omega) (by omega)) ?_
   refine W_v rfl rfl (V_mov rfl (et rfl)) ?_
   refine W_end ?_
   refine Qo_normal ?_
   refine gen_Q (fun A87 E87 => ?_)
   have Y87 := szq E87
   have F87 := fsE E87 (ck (cq1 (fx12 F86) rfl) rfl rfl)
   clear E87 Y86 F86
   refine then_n ⟨c.length - (k + 1), by simp only [hm38]; omega, Y87, F87.d, (k + 1), rfl, (by omega), (bd_step hz hy45 (by omega) ((mtS_twice (by omega) hy72).2 c74)), (cnt_bd _ _), (((fg0 F87)).trans (by first | rfl | (simp; done) | (congr 1; omega))), (((fg1 F87)).trans ((by rw [usd_snoc hy45]; first | (rw [if_pos (by omega)]; rfl) | (rw [if_neg (by omega)]; rfl)))), (((fg17 F87)).trans (fg8 F37).symm), (((fg16 F87)).trans (fg7 F37).symm), (((fg15 F87)).trans (fg4 F37).symm), (((fg14 F87)).trans (fg2 F37).symm), (((fg13 F87)).trans (fg1 F37).symm), (by have q0 : c84 = bx g31 102 (((mtS (c.take (k + 1))).map Value.bool).toArray) := hc84.trans ((by rw [mtS_set hy45 (by omega)])); have q1 := hc2_38; subst q0 q1; exact S84)⟩
  refine W_off rfl (wanted_f rfl rfl (et rfl) (ez rfl) rfl) ?_
  refine W_off rfl (wanted_f rfl rfl (es rfl (et rfl)) (ez rfl) rfl) ?_
  refine W_off rfl (wanted_f rfl rfl (es2 rfl (et rfl)) (ez rfl) rfl) ?_
  refine W_v rfl rfl (V_pickF rfl (es3 rfl (et rfl)) rfl) ?_
  refine W_v rfl rfl (V_asg rfl (et rfl)) ?_
  refine W_end ?_
  refine Qo_normal ?_
  refine gen_Q (fun A88 E88 => ?_)
  have Y88 := szq E88
  have F88 := fsE E88 (ck (cq1 (ck (ck (ck (cq3 F61 rfl) rfl rfl) rfl rfl) rfl rfl) rfl) rfl rfl)
  clear E88 Y61 F61
  refine tk H69 ?_
  refine R_cond_f (fg0 F88) ?_
  refine R_seq (fun K89 H89 => ?_)
  refine R_region (by kernel_rfl) ?_
  refine W_v rfl rfl (V_mov rfl (fg8 F88)) ?_
  refine W_v rfl rfl (V_gtr rfl (et rfl) rfl) ?_
  refine W_v rfl rfl (V_asg rfl (et rfl)) ?_
  refine W_end ?_
  refine Qo_normal ?_
  refine gen_Q (fun A90 E90 => ?_)
  have Y90 := szq E90
  have F90 := fsE E90 (ck (cq2 F88 rfl) rfl rfl)
  clear E90 Y88 F88
  refine tk H89 ?_
  refine R_cond_not (fg0 F90) (by first | exact decide_eq_true (by omega) | exact decide_eq_false (by omega)) ?_
  refine R_skip ?_
  refine inb_n ?_
  refine tk H47 ?_
  refine R_region (by kernel_rfl) ?_
  refine W_v rfl rfl (V_mov rfl (fg14 F90)) ?_
  refine W_v rfl rfl (V_add rfl (et rfl) rfl (by omega) (by omega)) ?_
  refine W_v rfl rfl (V_asg rfl (et rfl)) ?_
  refine W_end ?_
  refine Qo_normal ?_
  refine gen_Q (fun A91 E91 => ?_)
  have Y91 := szq E91
  have F91 := fsE E91 (ck (cq2 (fx14 F90) rfl) rfl rfl)
  clear E91 Y90 F90
  refine inb_n ?_
  refine tk H43 ?_
  refine R_region (by kernel_rfl) ?_
  refine W_v rfl rfl (V_add rfl (fg12 F91) rfl (by omega) (by omega)) ?_
  refine W_v rfl rfl (V_mov rfl (et rfl)) ?_
  refine W_end ?_
  refine Qo_normal ?_
  refine gen_Q (fun A92 E92 => ?_)
  have Y92 := szq E92
  have F92 := fsE E92 (ck (cq1 (fx12 F91) rfl) rfl rfl)
  clear E92 Y91 F91
  refine then_n ⟨c.length - (k + 1), by simp only [hm38]; omega, Y92, F92.d, (k + 1), rfl, (by omega), (bd_step hz hy45 (by omega) (fun q => by omega)), (cnt_bd _ _), (((fg0 F92)).trans (by first | rfl | (simp; done) | (congr 1; omega))), (((fg1 F92)).trans ((by rw [usd_snoc hy45]; first | (rw [if_pos (by omega)]; rfl) | (rw [if_neg (by omega)]; rfl)))), (((fg17 F92)).trans (fg8 F37).symm), (((fg16 F92)).trans (fg7 F37).symm), (((fg15 F92)).trans (fg4 F37).symm), (((fg14 F92)).trans (fg2 F37).symm), (((fg13 F92)).trans (fg1 F37).symm), (by have q0 : c31_38 = bx g31 102 (((mtS (c.take (k + 1))).map Value.bool).toArray) := hc31_38.trans ((by rw [mtS_skip hy45 (by omega)])); have q1 := hc2_38; subst q0 q1; exact S38)⟩
 have hbn := bd_done hz (by omega)
 obtain ⟨hrg, hdt⟩ := bd_iff.1 hbn
 have hul := usd_le c
 have hck : c.take k = c := List.take_of_length_le (by omega)
 have hue : usd (c.take k) = usd c := by rw [hck]
 refine R_exit ?_
 refine then_exit ?_
 refine then_exit ?_
 refine inb_hit ?_
 refine tk H35 ?_
 refine R_seq (fun K93 H93 => ?_)
 refine R_seq (fun K94 H94 => ?_)
 refine R_region (by kernel_rfl) ?_
 refine W_v rfl rfl (V_mov rfl (fg3 F40)) ?_
 refine W_v rfl rfl (V_mul rfl rfl (et rfl) (by omega) (by omega)) ?_
 refine W_v rfl rfl (V_mov rfl (es2 rfl (fg5 F40))) ?_
 refine W_v rfl rfl (V_mul rfl rfl (et rfl) (by omega) (by omega)) ?_
 refine W_v rfl rfl (V_gtr rfl (es2 rfl (et rfl)) (et rfl)) ?_
 refine W_end ?_
 refine Qo_normal ?_
 refine gen_Q (fun A95 E95 => ?_)
 have Y95 := szq E95
 have F95 := fsE E95 (ck (cq4 F40 rfl) rfl rfl)
 clear E95 Y40 F40
 have S97 := S38.del 0
 replace S97 : St w NoX (c2_38 :: (dsC ([] : List Nat))) w38 := S97
 refine tk H94 ?_
 refine R_cond_dec (fg0 F95) (fun c98 => ?_) (fun c98 => ?_)
 ·refine R_seq (fun K99 H99 => ?_)
  refine R_region (by kernel_rfl) ?_
  refine W_v rfl rfl (V_asg rfl rfl) ?_
  refine W_v rfl rfl (V_asg rfl rfl) ?_
  refine W_end ?_
  refine Qo_normal ?_
  refine gen_Q (fun A100 E100 => ?_)
  have Y100 := szq E100
  have F100 := fsE E100 (ck (ck F95 rfl rfl) rfl rfl)
  clear E100 Y95 F95
  have S102 := S97.del 0
  replace S102 : St w NoX (dsC ([] : List Nat)) w38 := S102
  refine tk H99 ?_
  refine R_ret ?_
  refine then_ret ?_
  refine ng_ret ?_
  obtain ⟨w103, hu103, S103⟩ := St.und (l := []) (ds := ([] : List Nat)) S102
  refine ret_inRs hu103 (results_2 Try.results42 (rv_tmp (fg1 F100)) (rv_tmp (fg0 F100))) F100.d ?_
  have h : ckS c = ((-1), 5) := ck_full hp2 hbn (by omega)
  rw [h]
  exact ⟨rfl, S103.fin0⟩
 have hfu : ¬ 3 * c.length < 4 * usd c := by omega
 refine R_skip ?_
 refine tk H93 ?_
 refine R_seq (fun K104 H104 => ?_)
 refine R_label ?_
 refine tk H104 ?_
 refine R_seq (fun K105 H105 => ?_)
 refine R_seq (fun K106 H106 => ?_)
 refine R_region (by kernel_rfl) ?_
 refine W_v rfl rfl (V_fa (off' := 0) rfl (fg7 F95) Try.underlying27 rfl (by decide +kernel) rfl) ?_
 refine W_r rfl rfl (VR_ldC rfl (et rfl) (cell_box (v := cv) (S97.obj 0 rfl hc2_38) rfl) Try.underlying25 rfl) ?_
 refine W_v rfl rfl (V_lenS rfl (et rfl) (sl_SlN h_cv.at) Try.underlying25) ?_
 refine W_v rfl rfl (V_mov rfl rfl) ?_
 refine W_end ?_
 refine Qo_normal ?_
 refine gen_Q (fun A107 E107 => ?_)
 have Y107 := szq E107
 have F107 := fsE E107 (ck (ck (ck (cq1 F95 rfl) rfl rfl) rfl rfl) rfl rfl)
 clear E107 Y95 F95
 refine tk H106 ?_
 refine R_block ?_
 -- loop 23
 refine R_loop (fun mz A' w' => SzN A' 90 ∧ True ∧ (∃ (ds108 : List Nat) (i2 : Nat), (A'.defers = (ds108.map coll)) ∧ (mz = c.length - i2) ∧ (i2 ≤ c.length) ∧ (∀ q, q < i2 → ∀ x, c[q]? = some x → 0 < x → 0 ≤ fnd c x) ∧ (EV A' (.tmp 72) = .int .i64 (i2 : Int)) ∧ (EV A' (.tmp 1) = EV A107 (.tmp 1)) ∧ (EV A' (.tmp 70) = EV A107 (.tmp 70)) ∧ (EV A' (.tmp 71) = EV A107 (.tmp 71)) ∧ (St w NoX ((bx g2 27 #[cv]) :: (dsC ds108)) w'))) (c.length - 0) ⟨Y107, trivial, ([] : List Nat), 0, F107.d, rfl, (by omega), (fun q hq => by omega), (((fg0 F107)).trans (by first | rfl | (simp; done) | (congr 1; omega))), rfl, rfl, rfl, (by subst hc2_38; exact S97)⟩ ?_
 clear S97 hc2_38
 rintro n108 A108 w108 ⟨Y108, -, ds108, i2, hdf108, hm108, hi2, hn, l72_108, u1_108, u70_108, u71_108, S108⟩
 have l1_108 := u1_108.trans (fg10 F107)
 have l70_108 := u70_108.trans (fg2 F107)
 have l71_108 := u71_108.trans (fg1 F107)
 obtain ⟨c2_108, hc2_108, S108⟩ := gen1 S108
 refine R_seq (fun K109 H109 => ?_)
 refine R_region (by kernel_rfl) ?_
 refine W_v rfl rfl (V_lss rfl l72_108 l71_108) ?_
 refine W_end ?_
 refine Qo_normal ?_
 refine gen_Q (fun A110 E110 => ?_)
 have Y110 := szq E110
 have F110 := ((((fsE E110 (ck (FS.n hdf108) rfl rfl)).c (lookE E110 1 (es rfl l1_108))).c (lookE E110 70 (es rfl l70_108))).c (lookE E110 71 (es rfl l71_108))).c (lookE E110 72 (es rfl l72_108))
 clear E110 Y108 hdf108 l72_108 l1_108 l70_108 l71_108
 refine tk H109 ?_
 refine R_seq (fun K111 H111 => ?_)
 refine R_cond_dec (fg4 F110) (fun c112 => ?_) (fun c112 => ?_)
 ·refine R_skip ?_
  refine tk H111 ?_
  refine R_seq (fun K113 H113 => ?_)
  refine R_block ?_
  refine R_seq (fun K114 H114 => ?_)
  refine R_region (by kernel_rfl) ?_
  refine W_v rfl rfl (V_mov rfl (fg0 F110)) ?_
  have k115 : i2 < c.length := by first | omega | (simp only [List.length_cons, List.length_nil]; omega) | (simp only [List.length_set]; omega) | decide
  obtain ⟨y115, hy115⟩ := get_some (xs := c) (k := i2) k115
  have hry115 := hrg y115 (List.mem_of_getElem? hy115)
  obtain ⟨B115, O115, C115, hv115⟩ := (SlN.blk (sl_SlN h_cv.at) (by first | omega | (simp only [List.length_cons, List.length_nil]; omega) | (simp only [List.length_set]; omega) | decide))
  refine W_v rfl rfl (V_ixS (off := O115 + i2) 1 (i2) rfl (es rfl (fg2 F110)) (es rfl (fg0 F110)) hv115 (by omega) k115 Try.underlying25 (by kernel_rfl) (congrArg _ (Nat.mul_one _))) ?_
  refine W_r rfl rfl (VR_ldC rfl (et rfl) ((sl_SlN (S108.ro h_cv)).cell hv115 (map_get hy115)) Try.underlying3 rfl) ?_
  refine W_allocS (z := .int .i64 0) (zs := #[.int .i64 0]) S108 rfl rfl rfl (by kernel_rfl) (by rfl) (fun g116 w116 c116 hc116 S116 => ?_)
  replace S116 : St w NoX (c116 :: c2_108 :: (dsC ds108)) w116 := S116
  refine W_stCS (zs' := #[.int .i64 ((i2 : Int))]) 0 S116 rfl hc116 rfl rfl rfl (et rfl) (es3 rfl (et rfl)) (by rfl) (by rfl) (by kernel_rfl) (by first | rfl | (simp only [List.setIfInBounds_toArray, List.set_cons_succ, List.set_cons_zero] <;> rfl)) (fun w117 c117 hc117 S117 => ?_)
  replace S117 : St w NoX (c117 :: c2_108 :: (dsC ds108)) w117 := S117
  refine W_v rfl rfl (V_asg rfl (es rfl (et rfl))) ?_
  refine W_end ?_
  refine Qo_normal ?_
  refine gen_Q (fun A118 E118 => ?_)
  have Y118 := szq E118
  have F118 := fsE E118 (ck (ck (cq3 F110 rfl) rfl rfl) rfl rfl)
  clear E118 Y110 F110
  refine tk H114 ?_
  refine R_seq (fun K119 H119 => ?_)
  refine R_seq (fun K120 H120 => ?_)
  refine R_region (by kernel_rfl) ?_
  refine W_v rfl rfl (V_mov rfl (fg0 F118)) ?_
  refine W_v rfl rfl (V_leq rfl (et rfl) rfl) ?_
  refine W_end ?_
  refine Qo_normal ?_
  refine gen_Q (fun A121 E121 => ?_)
  have Y121 := szq E121
  have F121 := fsE E121 (ck (cq1 F118 rfl) rfl rfl)
  clear E121 Y118 F118
  refine tk H120 ?_
  refine R_cond_dec (fg0 F121) (fun c122 => ?_) (fun c122 => ?_)
  ·refine R_exit ?_
   refine then_exit ?_
   refine inb_hit ?_
   refine tk H113 ?_
   refine R_region (by kernel_rfl) ?_
   refine W_v rfl rfl (V_add rfl (fg3 F121) rfl (by omega) (by omega)) ?_
   refine W_v rfl rfl (V_mov rfl (et rfl)) ?_
   refine W_end ?_
   refine Qo_normal ?_
   refine gen_Q (fun A123 E123 => ?_)
   have Y123 := szq E123
   have F123 := fsE E123 (ck (cq1 (fx3 F121) rfl) rfl rfl)
   clear E123 Y121 F121
   have S125 := S117.del 0
   replace S125 : St w NoX (c2_108 :: (dsC ds108)) w117 := S125
   refine then_n ⟨c.length - (i2 + 1), by simp only [hm108]; omega, Y123, trivial, ds108, (i2 + 1), F123.d, rfl, (by omega), (hn_step hn hy115 (fun _ => by omega)), (((fg0 F123)).trans (by first | rfl | (simp; done) | (congr 1; omega))), (((fg6 F123)).trans (fg10 F107).symm), (((fg5 F123)).trans (fg2 F107).symm), (((fg4 F123)).trans (fg1 F107).symm), (by subst hc2_108; exact S125)⟩
  refine R_skip ?_
  refine tk H119 ?_
  refine R_seq (fun K126 H126 => ?_)
  refine R_seq (fun K127 H127 => ?_)
  refine R_region (by kernel_rfl) ?_
  refine W_v rfl rfl (V_fa (off' := 0) rfl (fg6 F121) Try.underlying27 rfl (by decide +kernel) rfl) ?_
  refine W_r rfl rfl (VR_ldC rfl (et rfl) (cell_box (v := cv) (S117.obj 1 rfl hc2_108) rfl) Try.underlying25 rfl) ?_
  refine W_v rfl rfl (V_mov rfl (es2 rfl (fg1 F121))) ?_
  refine W_call rfl rfl rfl Try.func72 (by kernel_rfl) rfl (args2 (es rfl (et rfl)) (et rfl)) (kpath_c (a := y115) (S117.roC h_cv) ) ?_
  rintro _ w128 ⟨ga_128, gc_128, rfl, hP128⟩
  refine ⟨_, rfl, ?_⟩
  obtain ⟨ca_128, cc_128, hca_128, hcc_128, hP128⟩ := gen2 hP128
  have S128 := S117.join hP128
  replace S128 : St w NoX (ca_128 :: cc_128 :: c117 :: c2_108 :: (dsC ds108)) w128 := S128
  refine W_end ?_
  refine Qo_normal ?_
  refine gen_Q (fun A129 E129 => ?_)
  have Y129 := szq E129
  have F129 := fsE E129 (ck (cq3 F121 rfl) rfl rfl)
  clear E129 Y121 F121
  refine tk H127 ?_
  refine R_block ?_
  refine R_rangeS (α := Int × Int) (fg0 F129) (fun args w => calls_enter Try.func98 rfl rfl args w) (kpath_it (g0 := ga_128) (g1 := gc_128) (v := cv) (c := c) (a := y115) (Rd := fun W => (bx ga_128 3 #[.int .i64 y115]).at W ∧ (bx gc_128 25 #[cv]).at W ∧ (il .i64 cv c).at W) (fun _ h => h) (hp2) (by omega)) (fun _ => rfl) (fun pre => pk (fun l => (∀ e ∈ pre, ¬ e.1 = (i2 : Int)) ∧ l = [bx ga_128 3 #[.int .i64 (y115)], bx gc_128 25 #[cv], bx g116 3 #[.int .i64 ((i2 : Int))], bx g2 27 #[cv]])) (fun cQ pre => pk (fun l => (cQ = .exit 5 ∧ (0 ≤ fnd c y115) ∧ l = [bx ga_128 3 #[.int .i64 (y115)], bx gc_128 25 #[cv], bx g116 3 #[.int .i64 ((i2 : Int))], bx g2 27 #[cv]]))) (St.pack (l := [bx ga_128 3 #[.int .i64 (y115)], bx gc_128 25 #[cv], bx g116 3 #[.int .i64 ((i2 : Int))], bx g2 27 #[cv]]) (fr := (dsC ds108)) (by have q0 : ca_128 = bx ga_128 3 #[.int .i64 (y115)] := hca_128; have q1 : cc_128 = bx gc_128 25 #[cv] := hcc_128; have q2 : c117 = bx g116 3 #[.int .i64 ((i2 : Int))] := hc117; have q3 : c2_108 = bx g2 27 #[cv] := hc2_108; subst q0 q1 q2 q3; exact S128) ⟨(fun e he => by cases he), rfl⟩)
   (fun pre W l' hS => by obtain ⟨l, ⟨hno, rfl⟩, hl⟩ := pk_at (hS.ch 0 rfl); exact ⟨(hl 0 _ rfl), (hl 1 _ rfl), hS.ro h_cv⟩)
   (fun x a' cQ => match x with | (x1, x2) => SzN a' 90 ∧ a'.defers = [] ∧ EV a' (.tmp 9) = EV A129 (.tmp 9) ∧ EV a' (.tmp 11) = .int .i64 (x1) ∧ cQ = pk (·= [])) ?_ ?_ ?_ ?_
  ·rintro la130 pre ⟨x1, x2⟩ wa130 fr K hSa130 hK
   simp only [encP]
   rw [rnd2]
   obtain ⟨A131, E131⟩ : ∃ A, A = (PT (PT { tmps := A129.tmps, defers := [] } 83 (.int .i64 x1)) 84 (.int .i64 x2)) := ⟨_, rfl⟩
   rw [← E131]
   have Y131 := szq E131
   have hdf131 : A131.defers = [] := by rw [E131]; rfl
   have l9_131 := lookE E131 9 (es2 rfl (rnd_l (fg3 F129)))
   have l83_131 := lookE E131 83 (es rfl (et rfl))
   have l84_131 := lookE E131 84 (et rfl)
   clear E131
   obtain ⟨cI, hcI, hSa130⟩ := gen1 hSa130
   refine R_region (by kernel_rfl) ?_
   refine W_v rfl rfl (V_asg rfl l83_131) ?_
   refine W_end ?_
   refine Qo_normal ?_
   refine gen_Q (fun A132 E132 => ?_)
   have Y132 := szq E132
   have F132 := (fsE E132 (ck (FS.n hdf131) rfl rfl)).c (lookE E132 9 (es rfl l9_131))
   clear E132 Y131 hdf131 l9_131 l83_131 l84_131
   refine then_n ?_
   refine hK _ _ _ ⟨Y132, F132.d, ((fg0 F132).trans (fg3 F129).symm), (fg1 F132), rfl⟩ ?_
   subst hcI; exact hSa130.asg0
  ·rintro lb133 pre ⟨x1, x2⟩ A133 w133 cQ fr hAx hlr S133 hVd
   obtain ⟨Y133, hdf133, u9_133, l11_133, rfl⟩ := hAx
   have l9_133 := u9_133.trans (fg3 F129)
   obtain ⟨_, _, ⟨hno, rfl⟩, rfl, S133⟩ := S133.body2
   replace S133 : St w NoX ((bx ga_128 3 #[.int .i64 (y115)]) :: (bx gc_128 25 #[cv]) :: (bx g116 3 #[.int .i64 ((i2 : Int))]) :: (bx g2 27 #[cv]) :: fr) w133 := S133
   obtain ⟨ca_134, cc_134, c117_134, c2_134, hca_134, hcc_134, hc117_134, hc2_134, S133⟩ := gen4 S133
   refine R_block ?_
   refine R_seq (fun K135 H135 => ?_)
   refine R_region (by kernel_rfl) ?_
   refine W_v rfl rfl (V_mov rfl l11_133) ?_
   refine W_r rfl rfl (VR_ldC rfl (es rfl l9_133) (cell_box (v := .int .i64 ((i2 : Int))) (S133.obj 2 rfl hc117_134) rfl) Try.underlying3 rfl) ?_
   refine W_v rfl rfl (V_eql rfl (es rfl (et rfl)) (et rfl)) ?_
   refine W_end ?_
   refine Qo_normal ?_
   refine gen_Q (fun A136 E136 => ?_)
   have Y136 := szq E136
   have F136 := fsE E136 (ck (cq2 (FS.n hdf133) rfl) rfl rfl)
   clear E136 Y133 hdf133 l9_133 l11_133
   refine tk H135 ?_
   refine R_cond_dec (fg0 F136) (fun c137 => ?_) (fun c137 => ?_)
   ·refine R_exit ?_
    refine inb_miss rfl ?_
    exact (St.pack (l := [bx ga_128 3 #[.int .i64 (y115)], bx gc_128 25 #[cv], bx g116 3 #[.int .i64 ((i2 : Int))], bx g2 27 #[cv]]) (fr := fr) (by have q0 : ca_134 = bx ga_128 3 #[.int .i64 (y115)] := hca_134; have q1 : cc_134 = bx gc_128 25 #[cv] := hcc_134; have q2 : c117_134 = bx g116 3 #[.int .i64 ((i2 : Int))] := hc117_134; have q3 : c2_134 = bx g2 27 #[cv] := hc2_134; subst q0 q1 q2 q3; exact S133) (⟨rfl, (hit_pth hVd c137 hy115 (by omega)), rfl⟩))
   refine R_skip ?_
   refine inb_n ?_
   exact (St.pack (l := [bx ga_128 3 #[.int .i64 (y115)], bx gc_128 25 #[cv], bx g116 3 #[.int .i64 ((i2 : Int))], bx g2 27 #[cv]]) (fr := fr) (by have q0 : ca_134 = bx ga_128 3 #[.int .i64 (y115)] := hca_134; have q1 : cc_134 = bx gc_128 25 #[cv] := hcc_134; have q2 : c117_134 = bx g116 3 #[.int .i64 ((i2 : Int))] := hc117_134; have q3 : c2_134 = bx g2 27 #[cv] := hc2_134; subst q0 q1 q2 q3; exact S133) (⟨(all_snoc (p := fun e => e.1 = (i2 : Int)) hno c137), rfl⟩))
  ·intro D138 xs w138 hxs S138
   have hxs' : xs = pthL c y115 := hxs; subst hxs'; clear hxs
   obtain ⟨_, ⟨hno, rfl⟩, S138⟩ := S138.unpack
   replace S138 : St w NoX ((bx ga_128 3 #[.int .i64 (y115)]) :: (bx gc_128 25 #[cv]) :: (bx g116 3 #[.int .i64 ((i2 : Int))]) :: (bx g2 27 #[cv]) :: (dsC (D138 :: ds108))) w138 := S138
   obtain ⟨ca_138, cc_138, c117_138, c2_138, hca_138, hcc_138, hc117_138, hc2_138, S138⟩ := gen4 S138
   refine gen_Q (fun A138 E138 => ?_)
   have Y138 := szq E138
   have hdf138 : A138.defers = ((D138 :: ds108).map coll) := by rw [E138, df_mk, F129.d] <;> rfl
   have l9_138 := lookE E138 9 (mk_l (fg3 F129))
   clear E138
   refine inb_n ?_
   refine tk H126 ?_
   refine R_seq (fun K139 H139 => ?_)
   refine R_region (by kernel_rfl) ?_
   refine W_r rfl rfl (VR_ldC rfl l9_138 (cell_box (v := .int .i64 ((i2 : Int))) (S138.obj 2 rfl hc117_138) rfl) Try.underlying3 rfl) ?_
   refine W_v rfl rfl (V_asg rfl (et rfl)) ?_
   refine W_v rfl rfl (V_asg rfl rfl) ?_
   refine W_end ?_
   refine Qo_normal ?_
   refine gen_Q (fun A140 E140 => ?_)
   have Y140 := szq E140
   have F140 := fsE E140 (ck (ck (cq1 (FS.n hdf138) rfl) rfl rfl) rfl rfl)
   clear E140 Y138 hdf138 l9_138
   have S142 := S138.del 0
   replace S142 : St w NoX (cc_138 :: c117_138 :: c2_138 :: (dsC (D138 :: ds108))) w138 := S142
   have S143 := S142.del 0
   replace S143 : St w NoX (c117_138 :: c2_138 :: (dsC (D138 :: ds108))) w138 := S143
   have S144 := S143.del 0
   replace S144 : St w NoX (c2_138 :: (dsC (D138 :: ds108))) w138 := S144
   have S145 := S144.del 0
   replace S145 : St w NoX (dsC (D138 :: ds108)) w138 := S145
   refine tk H139 ?_
   refine R_ret ?_
   refine inb_ret ?_
   refine then_ret ?_
   refine then_ret ?_
   refine inb_ret ?_
   refine then_ret ?_
   refine ng_ret ?_
   obtain ⟨w146, hu146, S146⟩ := St.und (l := []) (ds := (D138 :: ds108)) S145
   refine ret_inRs hu146 (results_2 Try.results42 (rv_tmp (fg1 F140)) (rv_tmp (fg0 F140))) F140.d ?_
   have h : ckS c = ((i2 : Int), 6) := ck_bad2 hp2 hbn hfu hn hy115 (by omega) (no_pth hno hy115 (by omega) hdt)
   rw [h]
   exact ⟨rfl, S146.fin0⟩
  intro D147 cQ pre w147 hpre S147
  obtain ⟨_, hx, S147⟩ := S147.unpack
  rcases hx with ⟨rfl, hx, rfl⟩
  replace S147 : St w NoX ((bx ga_128 3 #[.int .i64 (y115)]) :: (bx gc_128 25 #[cv]) :: (bx g116 3 #[.int .i64 ((i2 : Int))]) :: (bx g2 27 #[cv]) :: (dsC (D147 :: ds108))) w147 := S147
  obtain ⟨ca_147, cc_147, c117_147, c2_147, hca_147, hcc_147, hc117_147, hc2_147, S147⟩ := gen4 S147
  refine gen_w (fun A147 E147 => ?_)
  have Y147 := szq E147
  have hdf147 : A147.defers = ((D147 :: ds108).map coll) := by rw [E147, df_mk, F129.d] <;> rfl
  have l1_147 := lookE E147 1 (mk_l (fg7 F129))
  have l70_147 := lookE E147 70 (mk_l (fg6 F129))
  have l71_147 := lookE E147 71 (mk_l (fg5 F129))
  have l72_147 := lookE E147 72 (mk_l (fg4 F129))
  clear E147
  refine R_exit ?_
  refine inb_miss rfl ?_
  refine then_exit ?_
  refine inb_hit ?_
  refine tk H113 ?_
  refine R_region (by kernel_rfl) ?_
  refine W_v rfl rfl (V_add rfl l72_147 rfl (by omega) (by omega)) ?_
  refine W_v rfl rfl (V_mov rfl (et rfl)) ?_
  refine W_end ?_
  refine Qo_normal ?_
  refine gen_Q (fun A148 E148 => ?_)
  have Y148 := szq E148
  have F148 := (((fsE E148 (ck (cq1 (FS.n hdf147) rfl) rfl rfl)).c (lookE E148 1 (es2 rfl l1_147))).c (lookE E148 70 (es2 rfl l70_147))).c (lookE E148 71 (es2 rfl l71_147))
  clear E148 Y147 hdf147 l1_147 l70_147 l71_147 l72_147
  have S150 := S147.del 0
  replace S150 : St w NoX (cc_147 :: c117_147 :: c2_147 :: (dsC (D147 :: ds108))) w147 := S150
  have S151 := S150.del 0
  replace S151 : St w NoX (c117_147 :: c2_147 :: (dsC (D147 :: ds108))) w147 := S151
  have S152 := S151.del 0
  replace S152 : St w NoX (c2_147 :: (dsC (D147 :: ds108))) w147 := S152
  refine then_n ⟨c.length - (i2 + 1), by simp only [hm108]; omega, Y148, trivial, (D147 :: ds108), (i2 + 1), F148.d, rfl, (by omega), (hn_step hn hy115 (fun _ => hx)), (((fg3 F148)).trans (by first | rfl | (simp; done) | (congr 1; omega))), (((fg2 F148)).trans (fg10 F107).symm), (((fg1 F148)).trans (fg2 F107).symm), (((fg0 F148)).trans (fg1 F107).symm), (by subst hc2_147; exact S152)⟩
 refine R_exit ?_
 refine then_exit ?_
 refine then_exit ?_
 refine inb_hit ?_
 refine tk H105 ?_
 refine R_seq (fun K153 H153 => ?_)
 refine R_region (by kernel_rfl) ?_
 refine W_v rfl rfl (V_asg rfl rfl) ?_
 refine W_v rfl rfl (V_asg rfl rfl) ?_
 refine W_end ?_
 refine Qo_normal ?_
 refine gen_Q (fun A154 E154 => ?_)
 have Y154 := szq E154
 have F154 := fsE E154 (ck (ck F110 rfl rfl) rfl rfl)
 clear E154 Y110 F110
 have S156 := S108.del 0
 replace S156 : St w NoX (dsC ds108) w108 := S156
 refine tk H153 ?_
 refine R_ret ?_
 refine ng_ret ?_
 obtain ⟨w157, hu157, S157⟩ := St.und (l := []) (ds := ds108) S156
 refine ret_inRs hu157 (results_2 Try.results42 (rv_tmp (fg1 F154)) (rv_tmp (fg0 F154))) F154.d ?_
 have h : ckS c = (0, 0) := ck_ok hp2 hbn hfu hn (by omega)
 rw [h]
 exact ⟨rfl, S157.fin0⟩

end Go.Proofs.Yteppjefmlibmoaa