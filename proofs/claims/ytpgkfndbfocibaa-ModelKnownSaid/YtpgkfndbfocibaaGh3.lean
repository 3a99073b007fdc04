import Derived.Test.YtpgkfndbfocibaaProg
import Derived.Test.YtpgkfndbfocibaaPl15c
import Derived.Test.YtpgkfndbfocibaaSepE
import Derived.Test.YtpgkfndbfocibaaSepU
import Derived.Test.YtpgkfndbfocibaaSepX
import Derived.Test.YtpgkfndbfocibaaPl15d
namespace Go.Proofs.Ytpgkfndbfocibaa
open Go.RowKit Go.Own Go.Own.R Go.Own.G Go.Own.Gr


set_option maxHeartbeats 4000000 in
theorem kck1_c {x : Int} {n : Int} {gn : Nat} {w : World} (hb_n : Ro w NoX (bx gn 3 #[.int .i64 n]))  :
  Calls Try.prog 42 #[.int .i64 x, .pointer (some ⟨gn, 0, none⟩)] w fun e w' => e = .returned (.bool (decide (x < 0 ∨ n < x))) ∧ St w NoX [] w' := by
 refine calls_in 11 Try.func42 V V (by simp) (fun A0 Y0 hdf0 hargs => ?_)
 have l0_0 := hargs 0 (.int .i64 x) V
 have l1_0 := hargs 1 (.pointer (some ⟨gn, 0, none⟩)) V
 clear hargs; replace Y0 : SzN A0 11 := ⟨Y0⟩
 have hS := St.nil w
 refine wp_seq_k fun K1 H1 => region_in ?_
 refine W_v V V (V_asg V V) ?_
 refine W_end (gen_Q fun A2 E2 => ?_)
 have Y2 := szq E2
 have F2 := ((fsE E2 (cq1 (FS.n hdf0) V)).c (lookE E2 0 (es V l0_0))).c (lookE E2 1 (es V l1_0))
 clear E2 Y0 hdf0 l0_0 l1_0
 refine tk H1 (wp_seq_k fun K3 H3 => region_in ?_)
 refine W_v V V (V_mov V (fg1 F2)) ?_
 refine W_v V V (V_lss V (et V) V) ?_
 refine W_split V V (V_mov V (et V)) (fun c4 => ?_) (fun c4 => ?_)
 ·refine xof V V V (et V) (xof V V V (es V (et V)) (xof V V V (es2 V (et V)) ?_))
  refine W_v V V (V_pickT V (es3 V (et V)) V) ?_
  refine W_v V V (V_asg V (et V)) ?_
  refine W_end (gen_Q fun A5 E5 => ?_)
  have Y5 := szq E5
  have F5 := fsE E5 (ck (cq7 F2 V) V V)
  clear E5 Y2 F2
  refine tk H3 (wp_ret ?_)
  refine ret_in (results_1 Try.results42 (rv_tmp (fg0 F5))) F5.d ?_
  rw [show (decide (x < 0 ∨ n < x)) = true by exact decide_eq_true (by omega)]
  exact ⟨rfl, hS.fin0⟩
 refine W_v V (xwt V V (et V)) (V_mov V (es3 V (fg1 F2))) ?_
 refine W_r V (xwt V V (es V (et V))) (VR_ldC V (es4 V (fg0 F2)) (cell_box (v := .int .i64 (n)) (ob_at (hS.ro hb_n)) V) Try.underlying3 V) ?_
 refine W_v V (xwt V V (es2 V (et V))) (V_gtr V (es V (et V)) (et V)) ?_
 refine W_v V V (V_pickF V (es3 V (et V)) (et V)) ?_
 refine W_v V V (V_asg V (et V)) ?_
 refine W_end (gen_Q fun A6 E6 => ?_)
 have Y6 := szq E6
 have F6 := fsE E6 (ck (cq7 F2 V) V V)
 clear E6 Y2 F2
 refine tk H3 (wp_ret ?_)
 refine ret_in (results_1 Try.results42 (rv_tmp (fg0 F6))) F6.d ?_
 rw [show (decide (x < 0 ∨ n < x)) = decide (n < x) by exact decide_eq_decide.2 (by omega)]
 exact ⟨rfl, hS.fin0⟩

set_option maxHeartbeats 4000000 in
theorem kix_c {rv : Value} {l : List Int} {n : Int} {gn : Nat} {w : World} (h_rv : Ro w NoX (il .i64 rv l)) (hb_n : Ro w NoX (bx gn 3 #[.int .i64 n]))  :
  Calls Try.prog 66 #[rv, .func (.func 42) #[] #[.pointer (some ⟨gn, 0, none⟩)]] w fun e w' => e = .returned (.int .i64 (idxFG (fun x => decide (x < 0 ∨ n < x)) l)) ∧ St w NoX [] w' := by
 refine calls_in 19 Try.func66 V V (by simp) (fun A0 Y0 hdf0 hargs => ?_)
 have l0_0 := hargs 0 (rv) V
 have l1_0 := hargs 1 (.func (.func 42) #[] #[.pointer (some ⟨gn, 0, none⟩)]) V
 clear hargs; replace Y0 : SzN A0 19 := ⟨Y0⟩
 have hS := St.nil w
 have bh_rv := SlN.le (sl_SlN h_rv.at)
 refine wp_seq_k fun K1 H1 => region_in ?_
 refine W_v V V (V_asg V V) ?_
 refine W_end (gen_Q fun A2 E2 => ?_)
 have Y2 := szq E2
 have F2 := ((fsE E2 (cq1 (FS.n hdf0) V)).c (lookE E2 0 (es V l0_0))).c (lookE E2 1 (es V l1_0))
 clear E2 Y0 hdf0 l0_0 l1_0
 refine tk H1 (wp_seq_k fun K3 H3 => ?_)
 refine wp_seq_k fun K4 H4 => region_in ?_
 refine W_v V V (V_mov V (fg1 F2)) ?_
 refine W_v V V (V_lenS V (et V) (sl_SlN h_rv.at) Try.underlying25) ?_
 refine W_v V V (V_mov V V) ?_
 refine W_end (gen_Q fun A5 E5 => ?_)
 have Y5 := szq E5
 have F5 := fsE E5 (ck (cq2 F2 V) V V)
 have l0_5 := lookE E5 0 (es3 V (fg1 F2))
 have l1_5 := lookE E5 1 (es3 V (fg0 F2))
 have l7_5 := lookE E5 7 (es V (et V))
 clear E5 Y2 F2
 refine tk H4 (wp_block ?_)
 -- loop 2
 refine loopX (fun mz A' w' => SzN A' 19 ∧ A'.defers = [] ∧ (∃ (k : Nat), (mz = l.length - k) ∧ (k ≤ l.length) ∧ (∀ i, i < k → ∀ x, l[i]? = some x → (fun x => decide (x < 0 ∨ n < x)) x = false) ∧ (EV A' (.tmp 8) = .int .i64 (k : Int)) ∧ (EV A' (.tmp 0) = EV A5 (.tmp 0)) ∧ (EV A' (.tmp 1) = EV A5 (.tmp 1)) ∧ (EV A' (.tmp 7) = EV A5 (.tmp 7)) ∧ (St w NoX [] w'))) (l.length - 0) ⟨Y5, F5.d, 0, rfl, (Nat.zero_le _), (fun i hi => by omega), (((fg0 F5)).trans (by first | rfl | (simp; done) | (congr 1; omega))), rfl, rfl, rfl, hS⟩ ?_
 clear hS
 rintro n6 A6 w6 ⟨Y6, hdf6, k, hm6, hk, hz, l8_6, u0_6, u1_6, u7_6, S6⟩
 have l0_6 := u0_6.trans l0_5
 have l1_6 := u1_6.trans l1_5
 have l7_6 := u7_6.trans l7_5
 refine wp_seq_k fun K7 H7 => region_in ?_
 refine W_v V V (V_lss V l8_6 l7_6) ?_
 refine W_end (gen_Q fun A8 E8 => ?_)
 have Y8 := szq E8
 have F8 := ((((fsE E8 (ck (FS.n hdf6) V V)).c (lookE E8 0 (es V l0_6))).c (lookE E8 1 (es V l1_6))).c (lookE E8 7 (es V l7_6))).c (lookE E8 8 (es V l8_6))
 clear E8 Y6 hdf6 l8_6 l0_6 l1_6 l7_6
 refine tk H7 (wp_seq_k fun K9 H9 => ?_)
 refine cond_dec (fg4 F8) (fun c10 => ?_) (fun c10 => ?_)
 ·refine wp_skip ?_
  refine tk H9 (wp_seq_k fun K11 H11 => ?_)
  refine wp_block ?_
  refine wp_seq_k fun K12 H12 => region_in ?_
  refine W_v V V (V_mov V (fg0 F8)) (W_v V V (V_asg V (et V)) ?_)
  refine W_end (gen_Q fun A13 E13 => ?_)
  have Y13 := szq E13
  have F13 := fsE E13 (ck (cq1 F8 V) V V)
  clear E13 Y8 F8
  refine tk H12 (wp_seq_k fun K14 H14 => region_in ?_)
  refine W_v V V (V_mov V (fg3 F13)) (W_v V V (V_mov V (es V (fg4 F13))) (W_v V V (V_mov V (es2 V (fg0 F13))) ?_))
  have k15 : k < l.length := by first | omega | (simp only [List.length_cons, List.length_nil]; omega) | (simp only [List.length_set]; omega) | decide
  obtain ⟨y15, hy15⟩ := get_some (xs := l) (k := k) k15
  obtain ⟨B15, O15, C15, hv15⟩ := (SlN.blk (sl_SlN h_rv.at) (by first | omega | (simp only [List.length_cons, List.length_nil]; omega) | (simp only [List.length_set]; omega) | decide))
  refine W_v V V (V_ixS (off := O15 + k) 1 (k) V (es V (et V)) (et V) hv15 (by omega) k15 Try.underlying25 (by kernel_rfl) (congrArg _ (Nat.mul_one _))) ?_
  refine W_r V V (VR_ldC V (et V) ((sl_SlN (S6.ro h_rv)).cell hv15 (map_get hy15)) Try.underlying3 V) ?_
  refine W_callV V V V (es4 V (et V)) Try.func42 (by kernel_rfl) V (args1 (et V)) (kck1_c (x := y15) (n := n) (gn := gn) (S6.roC hb_n) ) ?_
  rintro _ w16 ⟨rfl, hP16⟩
  refine ⟨_, rfl, ?_⟩
  have S16 := S6.join hP16
  replace S16 : St w NoX [] w16 := S16
  refine W_end (gen_Q fun A17 E17 => ?_)
  have Y17 := szq E17
  have F17 := fsE E17 (ck (cq5 F13 V) V V)
  clear E17 Y13 F13
  refine tk H14 ?_
  refine cond_dec (fg0 F17) (fun c18 => ?_) (fun c18 => ?_)
  ·refine wp_seq_k fun K19 H19 => region_in ?_
   refine W_v V V (V_mov V (fg1 F17)) (W_v V V (V_asg V (et V)) ?_)
   refine W_end (gen_Q fun A20 E20 => ?_)
   have Y20 := szq E20
   have F20 := fsE E20 (ck (cq1 F17 V) V V)
   clear E20 Y17 F17
   refine tk H19 (wp_ret (inb_ret (then_ret (then_ret (inb_ret (then_ret ?_))))))
   refine ret_in (results_1 Try.results66 (rv_tmp (fg0 F20))) F20.d ?_
   have e0 : idxFG (fun x => decide (x < 0 ∨ n < x)) l = (k : Int) := by exact idxF_atG hz hy15 (show (fun x => decide (x < 0 ∨ n < x)) y15 = true by have hc := c18; first | simpa using hc | (simp at hc ⊢; omega))
   rw [e0]
   exact ⟨rfl, S16.fin0⟩
  refine wp_skip (inb_n (tk H11 ?_))
  refine region_in ?_
  refine W_v V V (V_add V (fg2 F17) V (by omega) (by omega)) ?_
  refine W_v V V (V_mov V (et V)) ?_
  refine W_end (gen_Q fun A21 E21 => ?_)
  have Y21 := szq E21
  have F21 := fsE E21 (cq2 (fx2 F17) V)
  have l0_21 := lookE E21 0 (es2 V (fg5 F17))
  have l1_21 := lookE E21 1 (es2 V (fg4 F17))
  have l7_21 := lookE E21 7 (es2 V (fg3 F17))
  have l8_21 := lookE E21 8 (et V)
  clear E21 Y17 F17
  refine then_n ⟨l.length - (k + 1), by simp only [hm6]; omega, Y21, F21.d, (k + 1), rfl, (by omega), (no_stepG hz hy15 (show (fun x => decide (x < 0 ∨ n < x)) y15 = false by have hc := c18; first | simpa using hc | (simp at hc ⊢; omega))), ((l8_21).trans (by first | rfl | (simp; done) | (congr 1; omega))), ((l0_21).trans l0_5.symm), ((l1_21).trans l1_5.symm), ((l7_21).trans l7_5.symm), S16⟩
 refine wp_exit (then_exit (then_exit ?_))
 refine inb_hit ?_
 refine tk H3 (wp_seq_k fun K22 H22 => region_in ?_)
 refine W_v V V (V_asg V V) ?_
 refine W_end (gen_Q fun A23 E23 => ?_)
 have Y23 := szq E23
 have F23 := fsE E23 (ck F8 V V)
 clear E23 Y8 F8
 refine tk H22 (wp_ret ?_)
 refine ret_in (results_1 Try.results66 (rv_tmp (fg0 F23))) F23.d ?_
 have e0 : idxFG (fun x => decide (x < 0 ∨ n < x)) l = (-1) := by exact idxF_noG (fun i hi x hx => hz i (by omega) x hx)
 rw [e0]
 exact ⟨rfl, S6.fin0⟩

set_option maxHeartbeats 4000000 in
theorem kcf_c {rv : Value} {l : List Int} {n : Int} {gn : Nat} {w : World} (h_rv : Ro w NoX (il .i64 rv l)) (hb_n : Ro w NoX (bx gn 3 #[.int .i64 n]))  :
  Calls Try.prog 43 #[rv, .func (.func 42) #[] #[.pointer (some ⟨gn, 0, none⟩)]] w fun e w' => e = .returned (.bool (decide (0 ≤ idxFG (fun x => decide (x < 0 ∨ n < x)) l))) ∧ St w NoX [] w' := by
 refine calls_in 9 Try.func43 V V (by simp) (fun A0 Y0 hdf0 hargs => ?_)
 have l0_0 := hargs 0 (rv) V
 have l1_0 := hargs 1 (.func (.func 42) #[] #[.pointer (some ⟨gn, 0, none⟩)]) V
 clear hargs; replace Y0 : SzN A0 9 := ⟨Y0⟩
 have hS := St.nil w
 have bh_rv := SlN.le (sl_SlN h_rv.at)
 refine wp_seq_k fun K1 H1 => region_in ?_
 refine W_v V V (V_asg V V) ?_
 refine W_end (gen_Q fun A2 E2 => ?_)
 have Y2 := szq E2
 have F2 := ((fsE E2 (cq1 (FS.n hdf0) V)).c (lookE E2 0 (es V l0_0))).c (lookE E2 1 (es V l1_0))
 clear E2 Y0 hdf0 l0_0 l1_0
 refine tk H1 (wp_seq_k fun K3 H3 => region_in ?_)
 refine W_v V V (V_mov V (fg1 F2)) (W_v V V (V_mov V (es V (fg0 F2))) ?_)
 refine W_call V V V Try.func66 (by kernel_rfl) V (args2 (es V (et V)) (et V)) (kix_c (n := n) (gn := gn) (hS.roC h_rv) (hS.roC hb_n) ) ?_
 rintro _ w4 ⟨rfl, hP4⟩
 refine ⟨_, rfl, ?_⟩
 have S4 := hS.join hP4
 replace S4 : St w NoX [] w4 := S4
 refine W_v V V (V_geq V (et V) V) ?_
 refine W_v V V (V_asg V (et V)) ?_
 refine W_end (gen_Q fun A5 E5 => ?_)
 have Y5 := szq E5
 have F5 := fsE E5 (ck (cq4 F2 V) V V)
 clear E5 Y2 F2
 refine tk H3 (wp_ret ?_)
 refine ret_in (results_1 Try.results43 (rv_tmp (fg0 F5))) F5.d ?_
 exact ⟨rfl, S4.fin0⟩

set_option maxHeartbeats 4000000 in
theorem kCk_c {ov : Value} {O : List Ob} {rv : Value} {rs : List Int} {w : World} (h_ov : Ro w NoX (rl 2 obC ov O)) (n_ov : Ro w NoX (nst O)) (h_rv : Ro w NoX (il .i64 rv rs))  :
  Calls Try.prog 26 #[.agg #[ov, rv]] w fun e w' => e = .returned (.tuple #[.int .i64 (ckG (O.map ab) rs).1, .int .i64 (ckG (O.map ab) rs).2]) ∧ St w NoX [] w' := by
 refine calls_in 57 Try.func26 V V (by simp) (fun A0 Y0 hdf0 hargs => ?_)
 have l0_0 := hargs 0 (.agg #[ov, rv]) V
 clear hargs; replace Y0 : SzN A0 57 := ⟨Y0⟩
 have hS := St.nil w
 have bh_ov := SlN.le (sl_SlN h_ov.at)
 have bh_rv := SlN.le (sl_SlN h_rv.at)
 refine wp_seq_k fun K1 H1 => region_in ?_
 refine W_boxS (zs := #[ov, rv]) hS V V V l0_0 (by rfl) (fun g2 w2 c2 hc2 S2 => ?_)
 replace S2 : St w NoX [c2] w2 := S2
 refine W_v V V (V_asg V V) (W_v V V (V_asg V V) ?_)
 refine W_end (gen_Q fun A3 E3 => ?_)
 have Y3 := szq E3
 have F3 := fsE E3 (cq2 (ck (FS.n hdf0) V V) V)
 clear E3 Y0 hdf0 l0_0
 refine tk H1 (wp_seq_k fun K4 H4 => region_in ?_)
 refine W_v V V (V_fa (off' := 0) V (fg0 F3) Try.underlying36 V (by decide +kernel) V) ?_
 refine W_r V V (xlC (v := ov) V (et V) (S2.obj 0 V hc2) Try.underlying34) ?_
 refine W_v V V (V_lenS V (et V) (sl_SlN h_ov.at) Try.underlying34) ?_
 refine W_allocS (z := .int .i64 0) (zs := #[.int .i64 0]) S2 V V V (by kernel_rfl) (by rfl) (fun g5 w5 c5 hc5 S5 => ?_)
 replace S5 : St w NoX [c5, c2] w5 := S5
 refine xsC (zs' := #[.int .i64 ((O.length : Int))]) 0 S5 V hc5 V V V (et V) (es V (et V)) (by rfl) (fun w6 c6 hc6 S6 => ?_)
 replace S6 : St w NoX [c6, c2] w6 := S6
 refine W_end (gen_Q fun A7 E7 => ?_)
 have Y7 := szq E7
 have F7 := fsE E7 (ck (cq3 F3 V) V V)
 clear E7 Y3 F3
 refine tk H4 (wp_seq_k fun K8 H8 => region_in ?_)
 refine W_v V V (V_mkf V (args0) (args1 (fg0 F7))) ?_
 refine W_v V V (V_asg V (et V)) ?_
 refine W_end (gen_Q fun A9 E9 => ?_)
 have Y9 := szq E9
 have F9 := fsE E9 (ck (cq1 F7 V) V V)
 clear E9 Y7 F7
 refine tk H8 (wp_seq_k fun K10 H10 => ?_)
 refine wp_block ?_
 refine wp_seq_k fun K11 H11 => region_in ?_
 refine W_v V V (V_fa (off' := 1) V (fg2 F9) Try.underlying36 V (by decide +kernel) V) ?_
 refine W_r V V (xlC (v := rv) V (et V) (S6.obj 1 V hc2) Try.underlying25) ?_
 refine W_v V V (V_lenS V (et V) (sl_SlN h_rv.at) Try.underlying25) ?_
 refine W_v V V (V_lss V (et V) V) ?_
 refine W_split V V (V_mov V (et V)) (fun c12 => ?_) (fun c12 => ?_)
 ·refine xof V V V (et V) (xof V V V (es V (et V)) (xof V V V (es2 V (et V)) (xof V V V (es3 V (et V)) ?_)))
  refine W_v V V (V_pickT V (es4 V (et V)) V) ?_
  refine W_v V V (V_asg V (et V)) ?_
  refine W_end (gen_Q fun A13 E13 => ?_)
  have Y13 := szq E13
  have F13 := fsE E13 (ck (cq2 (cq8 F9 V) V) V V)
  clear E13 Y9 F9
  refine tk H11 ?_
  refine cond_t (fg0 F13) ?_
  refine wp_seq_k fun K14 H14 => region_in ?_
  refine W_v V V (V_asg V V) (W_v V V (V_asg V V) ?_)
  refine W_end (gen_Q fun A15 E15 => ?_)
  have Y15 := szq E15
  have F15 := fsE E15 (ck (ck F13 V V) V V)
  clear E15 Y13 F13
  have S16 : St w NoX [] w6 := S6.sel [] (by decide) V
  refine tk H14 (wp_ret (inb_ret (then_ret ?_)))
  refine ret_in (results_2 Try.results26 (rv_tmp (fg1 F15)) (rv_tmp (fg0 F15))) F15.d ?_
  have h : ckG (O.map ab) rs = (0, 7) := ckG_rng (by omega)
  rw [h]
  exact ⟨rfl, S16.fin0⟩
 refine W_v V (xwt V V (et V)) (V_fa (off' := 1) V (es5 V (fg2 F9)) Try.underlying36 V (by decide +kernel) V) ?_
 refine W_r V (xwt V V (es V (et V))) (xlC (v := rv) V (et V) (S6.obj 1 V hc2) Try.underlying25) ?_
 refine W_v V (xwt V V (es2 V (et V))) (V_lenS V (et V) (sl_SlN h_rv.at) Try.underlying25) ?_
 refine W_v V (xwt V V (es3 V (et V))) (V_gtr V (et V) V) ?_
 refine W_v V V (V_pickF V (es4 V (et V)) (et V)) ?_
 refine W_v V V (V_asg V (et V)) ?_
 refine W_end (gen_Q fun A17 E17 => ?_)
 have Y17 := szq E17
 have F17 := fsE E17 (ck (cq2 (cq8 F9 V) V) V V)
 clear E17 Y9 F9
 refine tk H11 ?_
 refine cond_dec (fg0 F17) (fun c18 => ?_) (fun c18 => ?_)
 ·refine wp_seq_k fun K19 H19 => region_in ?_
  refine W_v V V (V_asg V V) (W_v V V (V_asg V V) ?_)
  refine W_end (gen_Q fun A20 E20 => ?_)
  have Y20 := szq E20
  have F20 := fsE E20 (ck (ck F17 V V) V V)
  clear E20 Y17 F17
  have S21 : St w NoX [] w6 := S6.sel [] (by decide) V
  refine tk H19 (wp_ret (inb_ret (then_ret ?_)))
  refine ret_in (results_2 Try.results26 (rv_tmp (fg1 F20)) (rv_tmp (fg0 F20))) F20.d ?_
  have h : ckG (O.map ab) rs = (0, 7) := ckG_rng (by omega)
  rw [h]
  exact ⟨rfl, S21.fin0⟩
 refine wp_seq_k fun K22 H22 => region_in ?_
 refine W_r V V (xlC (v := .int .i64 ((O.length : Int))) V (fg2 F17) (S6.obj 0 V hc6) Try.underlying3) ?_
 refine W_v V V (V_gtr V (et V) V) ?_
 refine W_v V V (V_asg V (et V)) ?_
 refine W_end (gen_Q fun A23 E23 => ?_)
 have Y23 := szq E23
 have F23 := fsE E23 (ck (cq2 F17 V) V V)
 clear E23 Y17 F17
 refine tk H22 ?_
 refine cond_dec (fg0 F23) (fun c24 => ?_) (fun c24 => ?_)
 ·refine wp_seq_k fun K25 H25 => region_in ?_
  refine W_v V V (V_asg V V) (W_v V V (V_asg V V) ?_)
  refine W_end (gen_Q fun A26 E26 => ?_)
  have Y26 := szq E26
  have F26 := fsE E26 (ck (ck F23 V V) V V)
  clear E26 Y23 F23
  have S27 : St w NoX [] w6 := S6.sel [] (by decide) V
  refine tk H25 (wp_ret (inb_ret (then_ret ?_)))
  refine ret_in (results_2 Try.results26 (rv_tmp (fg1 F26)) (rv_tmp (fg0 F26))) F26.d ?_
  have h : ckG (O.map ab) rs = (0, 3) := ckG_long (by omega) (by rw [List.length_map]; omega)
  rw [h]
  exact ⟨rfl, S27.fin0⟩
 refine wp_skip (inb_n ?_)
 refine tk H10 (wp_seq_k fun K28 H28 => ?_)
 refine wp_seq_k fun K29 H29 => region_in ?_
 refine W_v V V (V_fa (off' := 0) V (fg4 F23) Try.underlying36 V (by decide +kernel) V) ?_
 refine W_r V V (xlC (v := ov) V (et V) (S6.obj 1 V hc2) Try.underlying34) ?_
 refine W_v V V (V_lenS V (et V) (sl_SlN h_ov.at) Try.underlying34) ?_
 refine W_v V V (V_mov V V) ?_
 refine W_end (gen_Q fun A30 E30 => ?_)
 have Y30 := szq E30
 have F30 := fsE E30 (ck (ck (ck (cq1 F23 V) V V) V V) V V)
 clear E30 Y23 F23
 refine tk H29 (wp_block ?_)
 -- loop 8
 refine loopX (fun mz A' w' => SzN A' 57 ∧ A'.defers = [] ∧ (∃ (k : Nat), (mz = O.length - k) ∧ (k ≤ O.length) ∧ (cgAt (O.map ab) k) ∧ (EV A' (.tmp 29) = .int .i64 (k : Int)) ∧ (EV A' (.tmp 1) = EV A30 (.tmp 1)) ∧ (EV A' (.tmp 5) = EV A30 (.tmp 5)) ∧ (EV A' (.tmp 27) = EV A30 (.tmp 27)) ∧ (EV A' (.tmp 28) = EV A30 (.tmp 28)) ∧ (St w NoX [bx g5 3 #[.int .i64 ((O.length : Int))], bx g2 36 #[ov, rv]] w'))) (O.length - 0) ⟨Y30, F30.d, 0, rfl, (by omega), rfl, (((fg0 F30)).trans (by first | rfl | (simp; done) | (congr 1; omega))), rfl, rfl, rfl, rfl, (by subst hc6 hc2; exact S6)⟩ ?_
 clear S6 hc6 hc2
 rintro n31 A31 w31 ⟨Y31, hdf31, k, hm31, hk, hz, l29_31, u1_31, u5_31, u27_31, u28_31, S31⟩
 have l1_31 := u1_31.trans (fg7 F30)
 have l5_31 := u5_31.trans (fg5 F30)
 have l27_31 := u27_31.trans (fg2 F30)
 have l28_31 := u28_31.trans (fg1 F30)
 obtain ⟨c6_31, c2_31, hc6_31, hc2_31, S31⟩ := gen2 S31
 refine wp_seq_k fun K32 H32 => region_in ?_
 refine W_v V V (V_lss V l29_31 l28_31) ?_
 refine W_end (gen_Q fun A33 E33 => ?_)
 have Y33 := szq E33
 have F33 := (((((fsE E33 (ck (FS.n hdf31) V V)).c (lookE E33 1 (es V l1_31))).c (lookE E33 5 (es V l5_31))).c (lookE E33 27 (es V l27_31))).c (lookE E33 28 (es V l28_31))).c (lookE E33 29 (es V l29_31))
 clear E33 Y31 hdf31 l29_31 l1_31 l5_31 l27_31 l28_31
 refine tk H32 (wp_seq_k fun K34 H34 => ?_)
 refine cond_dec (fg5 F33) (fun c35 => ?_) (fun c35 => ?_)
 ·refine wp_skip ?_
  refine tk H34 (wp_seq_k fun K36 H36 => ?_)
  refine wp_block ?_
  refine wp_seq_k fun K37 H37 => region_in ?_
  refine W_v V V (V_mov V (fg0 F33)) ?_
  have k38 : k < O.length := by first | omega | (simp only [List.length_cons, List.length_nil]; omega) | (simp only [List.length_set]; omega) | decide
  obtain ⟨y38, hy38⟩ := get_some (xs := O) (k := k) k38
  have hm38 : (O.map ab)[k]? = some (ab y38) := mapE hy38
  obtain ⟨B38, O38, C38, hv38⟩ := (SlN.blk (sl_SlN h_ov.at) (by first | omega | (simp only [List.length_cons, List.length_nil]; omega) | (simp only [List.length_set]; omega) | decide))
  refine W_v V V (V_ixS (off := O38 + k * 2) 2 (k) V (es V (fg2 F33)) (es V (fg0 F33)) hv38 (by omega) k38 Try.underlying34 (by kernel_rfl) V) ?_
  have fn39 : Ro w NoX (il .i64 y38.1.1 y38.1.2) := nst_ro1 n_ov hy38
  have bfn39 := SlN.le (sl_SlN (S31.ro fn39))
  have fn40 : Ro w NoX (il .u64 y38.2.1 y38.2.2) := nst_ro2 n_ov hy38
  have bfn40 := SlN.le (sl_SlN (S31.ro fn40))
  refine W_r V V (VR_ldR (ys := obC y38) V (et V) (SlN.row obC_len (sl_SlN (S31.ro h_ov)) hv38 hy38 V) Try.underlying68 V (by kernel_rfl)) ?_
  refine W_allocS (z := .agg #[.slice none 0 0, .slice none 0 0]) (zs := #[.slice none 0 0, .slice none 0 0]) S31 V V V (by kernel_rfl) (by rfl) (fun g41 w41 c41 hc41 S41 => ?_)
  replace S41 : St w NoX [c41, c6_31, c2_31] w41 := S41
  refine W_v V V (V_asg V (es3 V (et V))) ?_
  refine xsB 0 S41 V hc41 V V V (es V (et V)) (es2 V (et V)) (by simp only [List.all_toArray, List.all_cons, List.all_nil, obC, SlN_one (sl_SlN fn39.at), SlN_one (sl_SlN fn40.at)] <;> rfl) (fun w42 c42 hc42 S42 => ?_)
  replace S42 : St w NoX [c42, c6_31, c2_31] w42 := S42
  refine W_end (gen_Q fun A43 E43 => ?_)
  have Y43 := szq E43
  have F43 := fsE E43 (ck (ck (cq3 F33 V) V V) V V)
  clear E43 Y33 F33
  refine tk H37 (wp_block ?_)
  refine wp_seq_k fun K44 H44 => region_in ?_
  refine W_v V V (V_fa (off' := 0) V (fg1 F43) Try.underlying68 V (by decide +kernel) V) ?_
  refine W_r V V (xlC (v := y38.1.1) V (et V) (S42.obj 0 V hc42) Try.underlying25) ?_
  refine W_v V V (V_lenS V (et V) (sl_SlN fn39.at) Try.underlying25) ?_
  refine W_v V V (V_fa (off' := 1) V (es3 V (fg1 F43)) Try.underlying68 V (by decide +kernel) V) ?_
  refine W_r V V (xlC (v := y38.2.1) V (et V) (S42.obj 0 V hc42) Try.underlying66) ?_
  refine W_v V V (V_lenS V (et V) (sl_SlN fn40.at) Try.underlying66) ?_
  refine W_v V V (V_addw V (es3 V (et V)) (et V)) ?_
  refine W_v V V (V_gtr V (et V) V) ?_
  refine W_v V V (V_asg V (et V)) ?_
  refine W_end (gen_Q fun A45 E45 => ?_)
  have Y45 := szq E45
  have F45 := fsE E45 (ck (cq8 F43 V) V V)
  clear E45 Y43 F43
  refine tk H44 ?_
  refine cond_dec (fg0 F45) (fun c46 => ?_) (fun c46 => ?_)
  ·refine wp_seq_k fun K47 H47 => region_in ?_
   refine W_v V V (V_mov V (fg1 F45)) ?_
   refine W_v V V (V_add V (et V) V (by omega) (by omega)) ?_
   refine W_v V V (V_asg V (et V)) (W_v V V (V_asg V V) ?_)
   refine W_end (gen_Q fun A48 E48 => ?_)
   have Y48 := szq E48
   have F48 := fsE E48 (ck (ck (cq2 F45 V) V V) V V)
   clear E48 Y45 F45
   have S49 : St w NoX [] w42 := S42.sel [] (by decide) V
   refine tk H47 (wp_ret (inb_ret (inb_ret (then_ret (then_ret (inb_ret (then_ret ?_)))))))
   refine ret_in (results_2 Try.results26 (rv_tmp (fg1 F48)) (rv_tmp (fg0 F48))) F48.d ?_
   have h : ckG (O.map ab) rs = (((k : Int) + 1), 3) := (ckG_obj (by omega) (by rw [List.length_map]; omega) hz hm38).1 c46
   rw [h]
   exact ⟨rfl, S49.fin0⟩
  refine wp_seq_k fun K50 H50 => region_in ?_
  refine W_v V V (V_fa (off' := 0) V (fg2 F45) Try.underlying68 V (by decide +kernel) V) ?_
  refine W_r V V (xlC (v := y38.1.1) V (et V) (S42.obj 0 V hc42) Try.underlying25) ?_
  refine W_v V V (V_mov V (es2 V (fg6 F45))) ?_
  refine W_call V V V Try.func43 (by kernel_rfl) V (args2 (es V (et V)) (et V)) (kcf_c (n := (O.length : Int)) (gn := g5) (S42.roC fn39) (S42.chC 1 V hc6_31) ) ?_
  rintro _ w51 ⟨rfl, hP51⟩
  refine ⟨_, rfl, ?_⟩
  have S51 := S42.join hP51
  replace S51 : St w NoX [c42, c6_31, c2_31] w51 := S51
  refine W_v V V (V_asg V (et V)) ?_
  refine W_end (gen_Q fun A52 E52 => ?_)
  have Y52 := szq E52
  have F52 := fsE E52 (ck (cq4 F45 V) V V)
  clear E52 Y45 F45
  have S53 : St w NoX [c6_31, c2_31] w51 := S51.sel [1, 2] (by decide) V
  refine tk H50 ?_
  refine cond_dec (fg0 F52) (fun c54 => ?_) (fun c54 => ?_)
  ·refine wp_seq_k fun K55 H55 => region_in ?_
   refine W_v V V (V_mov V (fg2 F52)) ?_
   refine W_v V V (V_add V (et V) V (by omega) (by omega)) ?_
   refine W_v V V (V_asg V (et V)) (W_v V V (V_asg V V) ?_)
   refine W_end (gen_Q fun A56 E56 => ?_)
   have Y56 := szq E56
   have F56 := fsE E56 (ck (ck (cq2 F52 V) V V) V V)
   clear E56 Y52 F52
   have S57 : St w NoX [] w51 := S53.sel [] (by decide) V
   refine tk H55 (wp_ret (inb_ret (inb_ret (then_ret (then_ret (inb_ret (then_ret ?_)))))))
   refine ret_in (results_2 Try.results26 (rv_tmp (fg1 F56)) (rv_tmp (fg0 F56))) F56.d ?_
   have h : ckG (O.map ab) rs = (((k : Int) + 1), 6) := (ckG_obj (by omega) (by rw [List.length_map]; omega) hz hm38).2 c46 (any_idx (by simp) c54)
   rw [h]
   exact ⟨rfl, S57.fin0⟩
  refine wp_skip (inb_n (inb_n (tk H36 ?_)))
  refine region_in ?_
  refine W_v V V (V_add V (fg4 F52) V (by omega) (by omega)) ?_
  refine W_v V V (V_mov V (et V)) ?_
  refine W_end (gen_Q fun A58 E58 => ?_)
  have Y58 := szq E58
  have F58 := fsE E58 (ck (cq1 (fx4 F52) V) V V)
  clear E58 Y52 F52
  refine then_n ⟨O.length - (k + 1), by simp only [hm31]; omega, Y58, F58.d, (k + 1), rfl, (by omega), (cg_step hz hm38 c46 (no_idx (by simp) c54)), (((fg0 F58)).trans (by first | rfl | (simp; done) | (congr 1; omega))), (((fg8 F58)).trans (fg7 F30).symm), (((fg7 F58)).trans (fg5 F30).symm), (((fg6 F58)).trans (fg2 F30).symm), (((fg5 F58)).trans (fg1 F30).symm), (by subst hc6_31 hc2_31; exact S53)⟩
 refine wp_exit (then_exit (then_exit ?_))
 refine inb_hit ?_
 refine tk H28 (wp_seq_k fun K59 H59 => ?_)
 refine wp_seq_k fun K60 H60 => region_in ?_
 refine W_v V V (V_fa (off' := 1) V (fg4 F33) Try.underlying36 V (by decide +kernel) V) ?_
 refine W_r V V (xlC (v := rv) V (et V) (S31.obj 1 V hc2_31) Try.underlying25) ?_
 refine W_v V V (V_mov V (es2 V (fg3 F33))) ?_
 refine W_call V V V Try.func43 (by kernel_rfl) V (args2 (es V (et V)) (et V)) (kcf_c (n := (O.length : Int)) (gn := g5) (S31.roC h_rv) (S31.chC 0 V hc6_31) ) ?_
 rintro _ w61 ⟨rfl, hP61⟩
 refine ⟨_, rfl, ?_⟩
 have S61 := S31.join hP61
 replace S61 : St w NoX [c6_31, c2_31] w61 := S61
 refine W_end (gen_Q fun A62 E62 => ?_)
 have Y62 := szq E62
 have F62 := fsE E62 (ck (cq3 F33 V) V V)
 clear E62 Y33 F33
 have S63 : St w NoX [] w61 := S61.sel [] (by decide) V
 refine tk H60 ?_
 refine cond_dec (fg0 F62) (fun c64 => ?_) (fun c64 => ?_)
 ·refine wp_seq_k fun K65 H65 => region_in ?_
  refine W_v V V (V_asg V V) (W_v V V (V_asg V V) ?_)
  refine W_end (gen_Q fun A66 E66 => ?_)
  have Y66 := szq E66
  have F66 := fsE E66 (ck (ck F62 V V) V V)
  clear E66 Y62 F62
  refine tk H65 (wp_ret (then_ret ?_))
  refine ret_in (results_2 Try.results26 (rv_tmp (fg1 F66)) (rv_tmp (fg0 F66))) F66.d ?_
  have h : ckG (O.map ab) rs = (0, 6) := (ckG_end (by omega) (by rw [List.length_map]; omega) hz (by rw [List.length_map]; omega)).trans (if_pos (any_idx (by simp) c64))
  rw [h]
  exact ⟨rfl, S63.fin0⟩
 refine wp_skip ?_
 refine tk H59 (wp_seq_k fun K67 H67 => region_in ?_)
 refine W_v V V (V_asg V V) (W_v V V (V_asg V V) ?_)
 refine W_end (gen_Q fun A68 E68 => ?_)
 have Y68 := szq E68
 have F68 := fsE E68 (ck (ck F62 V V) V V)
 clear E68 Y62 F62
 refine tk H67 (wp_ret ?_)
 refine ret_in (results_2 Try.results26 (rv_tmp (fg1 F68)) (rv_tmp (fg0 F68))) F68.d ?_
 have h : ckG (O.map ab) rs = (0, 0) := (ckG_end (by omega) (by rw [List.length_map]; omega) hz (by rw [List.length_map]; omega)).trans (if_neg (fun q => c64 (idx_any (by simp) q)))
 rw [h]
 exact ⟨rfl, S63.fin0⟩

set_option maxHeartbeats 4000000 in
theorem kcd_c {ov : Value} {O : List Ob} {rv : Value} {rs : List Int} {nv : Value} {ns : List Int} {w : World} (h_ov : Ro w NoX (rl 2 obC ov O)) (n_ov : Ro w NoX (nst O)) (h_rv : Ro w NoX (il .i64 rv rs)) (h_nv : Ro w NoX (il .i64 nv ns))  :
  Calls Try.prog 38 #[.agg #[ov, rv], nv] w fun e w' => e = .returned (.int .i64 (ckd (O.map ab) rs ns)) ∧ St w NoX [] w' := by
 refine calls_in 33 Try.func38 V V (by simp) (fun A0 Y0 hdf0 hargs => ?_)
 have l0_0 := hargs 0 (.agg #[ov, rv]) V
 have l1_0 := hargs 1 (nv) V
 clear hargs; replace Y0 : SzN A0 33 := ⟨Y0⟩
 have hS := St.nil w
 have bh_ov := SlN.le (sl_SlN h_ov.at)
 have bh_rv := SlN.le (sl_SlN h_rv.at)
 have bh_nv := SlN.le (sl_SlN h_nv.at)
 refine wp_seq_k fun K1 H1 => region_in ?_
 refine W_boxS (zs := #[ov, rv]) hS V V V l0_0 (by rfl) (fun g2 w2 c2 hc2 S2 => ?_)
 replace S2 : St w NoX [c2] w2 := S2
 refine W_v V V (V_asg V V) ?_
 refine W_end (gen_Q fun A3 E3 => ?_)
 have Y3 := szq E3
 have F3 := (fsE E3 (cq1 (ck (FS.n hdf0) V V) V)).c (lookE E3 1 (es2 V l1_0))
 clear E3 Y0 hdf0 l0_0 l1_0
 refine tk H1 (wp_seq_k fun K4 H4 => ?_)
 refine wp_seq_k fun K5 H5 => region_in ?_
 refine W_r V V (VR_ldA V (fg1 F3) (S2.obj 0 V hc2) Try.underlying36 V (by kernel_rfl)) ?_
 refine W_call V V V Try.func26 (by kernel_rfl) V (args1 (et V)) (kCk_c (S2.roC h_ov) (S2.roC n_ov) (S2.roC h_rv) ) ?_
 rintro _ w6 ⟨rfl, hP6⟩
 refine ⟨_, rfl, ?_⟩
 have S6 := S2.join hP6
 replace S6 : St w NoX [c2] w6 := S6
 refine W_v V V (V_mov V (et V)) ?_
 refine W_v V V (V_ext (v := .int .i64 ((ckG (O.map ab) rs).1)) V (et V) V) ?_
 refine W_v V V (V_ext (v := .int .i64 ((ckG (O.map ab) rs).2)) V (es V (et V)) V) ?_
 refine W_v V V (V_asg V (es V (et V))) (W_v V V (V_asg V (es V (et V))) ?_)
 refine W_end (gen_Q fun A7 E7 => ?_)
 have Y7 := szq E7
 have F7 := fsE E7 (ck (cq6 F3 V) V V)
 clear E7 Y3 F3
 refine tk H5 (wp_seq_k fun K8 H8 => region_in ?_)
 refine W_v V V (V_mov V (fg0 F7)) ?_
 refine W_v V V (V_neq V (et V) V) ?_
 refine W_end (gen_Q fun A9 E9 => ?_)
 have Y9 := szq E9
 have F9 := fsE E9 (ck (cq1 F7 V) V V)
 clear E9 Y7 F7
 refine tk H8 ?_
 refine cond_dec (fg0 F9) (fun c10 => ?_) (fun c10 => ?_)
 ·refine wp_seq_k fun K11 H11 => region_in ?_
  refine W_v V V (V_mov V (fg1 F9)) (W_v V V (V_asg V (et V)) ?_)
  refine W_end (gen_Q fun A12 E12 => ?_)
  have Y12 := szq E12
  have F12 := fsE E12 (ck (cq1 F9 V) V V)
  clear E12 Y9 F9
  have S13 : St w NoX [] w6 := S6.sel [] (by decide) V
  refine tk H11 (wp_ret (then_ret ?_))
  refine ret_in (results_1 Try.results38 (rv_tmp (fg0 F12))) F12.d ?_
  have h : ckd (O.map ab) rs ns = (ckG (O.map ab) rs).2 := ckd_ck (by omega)
  rw [h]
  exact ⟨rfl, S13.fin0⟩
 refine wp_skip ?_
 refine tk H4 (wp_seq_k fun K14 H14 => ?_)
 refine wp_seq_k fun K15 H15 => region_in ?_
 refine W_v V V (V_mov V (fg2 F9)) ?_
 refine W_v V V (V_lenS V (et V) (sl_SlN h_nv.at) Try.underlying25) ?_
 refine W_v V V (V_mov V V) ?_
 refine W_end (gen_Q fun A16 E16 => ?_)
 have Y16 := szq E16
 have F16 := fsE E16 (ck (ck (ck F9 V V) V V) V V)
 clear E16 Y9 F9
 refine tk H15 (wp_block ?_)
 -- loop 5
 refine loopX (fun mz A' w' => SzN A' 33 ∧ A'.defers = [] ∧ (∃ (j : Nat), (mz = ns.length - j) ∧ (j ≤ ns.length) ∧ (∀ i, i < j → ∀ x, ns[i]? = some x → 0 ≤ x ∧ x < (rs.length : Int)) ∧ (EV A' (.tmp 19) = .int .i64 (j : Int)) ∧ (EV A' (.tmp 2) = EV A16 (.tmp 2)) ∧ (EV A' (.tmp 17) = EV A16 (.tmp 17)) ∧ (EV A' (.tmp 18) = EV A16 (.tmp 18)) ∧ (St w NoX [bx g2 36 #[ov, rv]] w'))) (ns.length - 0) ⟨Y16, F16.d, 0, rfl, (by omega), (fun i hi => by omega), (((fg0 F16)).trans (by first | rfl | (simp; done) | (congr 1; omega))), rfl, rfl, rfl, (by subst hc2; exact S6)⟩ ?_
 clear S6 hc2
 rintro n17 A17 w17 ⟨Y17, hdf17, j, hm17, hjl, hj, l19_17, u2_17, u17_17, u18_17, S17⟩
 have l2_17 := u2_17.trans (fg6 F16)
 have l17_17 := u17_17.trans (fg2 F16)
 have l18_17 := u18_17.trans (fg1 F16)
 obtain ⟨c2_17, hc2_17, S17⟩ := gen1 S17
 refine wp_seq_k fun K18 H18 => region_in ?_
 refine W_v V V (V_lss V l19_17 l18_17) ?_
 refine W_end (gen_Q fun A19 E19 => ?_)
 have Y19 := szq E19
 have F19 := ((((fsE E19 (ck (FS.n hdf17) V V)).c (lookE E19 2 (es V l2_17))).c (lookE E19 17 (es V l17_17))).c (lookE E19 18 (es V l18_17))).c (lookE E19 19 (es V l19_17))
 clear E19 Y17 hdf17 l19_17 l2_17 l17_17 l18_17
 refine tk H18 (wp_seq_k fun K20 H20 => ?_)
 refine cond_dec (fg4 F19) (fun c21 => ?_) (fun c21 => ?_)
 ·refine wp_skip ?_
  refine tk H20 (wp_seq_k fun K22 H22 => ?_)
  refine wp_block ?_
  refine wp_seq_k fun K23 H23 => region_in ?_
  have k24 : j < ns.length := by first | omega | (simp only [List.length_cons, List.length_nil]; omega) | (simp only [List.length_set]; omega) | decide
  obtain ⟨y24, hy24⟩ := get_some (xs := ns) (k := j) k24
  obtain ⟨B24, O24, C24, hv24⟩ := (SlN.blk (sl_SlN h_nv.at) (by first | omega | (simp only [List.length_cons, List.length_nil]; omega) | (simp only [List.length_set]; omega) | decide))
  refine W_v V V (V_ixS (off := O24 + j) 1 (j) V (fg2 F19) (fg0 F19) hv24 (by omega) k24 Try.underlying25 (by kernel_rfl) (congrArg _ (Nat.mul_one _))) ?_
  refine W_r V V (VR_ldC V (et V) ((sl_SlN (S17.ro h_nv)).cell hv24 (map_get hy24)) Try.underlying3 V) ?_
  refine W_v V V (V_asg V (et V)) ?_
  refine W_end (gen_Q fun A25 E25 => ?_)
  have Y25 := szq E25
  have F25 := fsE E25 (ck (cq2 F19 V) V V)
  clear E25 Y19 F19
  refine tk H23 (wp_seq_k fun K26 H26 => region_in ?_)
  refine W_v V V (V_mov V (fg0 F25)) ?_
  refine W_v V V (V_lss V (et V) V) ?_
  refine W_split V V (V_mov V (et V)) (fun c27 => ?_) (fun c27 => ?_)
  ·refine xof V V V (et V) (xof V V V (es V (et V)) (xof V V V (es2 V (et V)) (xof V V V (es3 V (et V)) (xof V V V (es4 V (et V)) ?_))))
   refine W_v V V (V_pickT V (es5 V (et V)) V) ?_
   refine W_end (gen_Q fun A28 E28 => ?_)
   have Y28 := szq E28
   have F28 := fsE E28 (ck (ck (ck (ck (ck (ck (cq3 F25 V) V V) V V) V V) V V) V V) V V)
   clear E28 Y25 F25
   refine tk H26 ?_
   refine cond_t (fg0 F28) ?_
   refine wp_seq_k fun K29 H29 => region_in ?_
   refine W_v V V (V_asg V V) ?_
   refine W_end (gen_Q fun A30 E30 => ?_)
   have Y30 := szq E30
   have F30 := fsE E30 (ck F28 V V)
   clear E30 Y28 F28
   have S31 : St w NoX [] w17 := S17.sel [] (by decide) V
   refine tk H29 (wp_ret (inb_ret (then_ret (then_ret (inb_ret (then_ret ?_))))))
   refine ret_in (results_1 Try.results38 (rv_tmp (fg0 F30))) F30.d ?_
   have h : ckd (O.map ab) rs ns = 10 := ckd_bad (by omega) hy24 (by omega)
   rw [h]
   exact ⟨rfl, S31.fin0⟩
  refine W_v V (xwt V V (et V)) (V_mov V (es3 V (fg0 F25))) ?_
  refine W_v V (xwt V V (es V (et V))) (V_fa (off' := 1) V (es4 V (fg4 F25)) Try.underlying36 V (by decide +kernel) V) ?_
  refine W_r V (xwt V V (es2 V (et V))) (xlC (v := rv) V (et V) (S17.obj 0 V hc2_17) Try.underlying25) ?_
  refine W_v V (xwt V V (es3 V (et V))) (V_lenS V (et V) (sl_SlN h_rv.at) Try.underlying25) ?_
  refine W_v V (xwt V V (es4 V (et V))) (V_geq V (es3 V (et V)) (et V)) ?_
  refine W_v V V (V_pickF V (es5 V (et V)) (et V)) ?_
  refine W_end (gen_Q fun A32 E32 => ?_)
  have Y32 := szq E32
  have F32 := fsE E32 (ck (ck (ck (ck (ck (ck (cq3 F25 V) V V) V V) V V) V V) V V) V V)
  clear E32 Y25 F25
  refine tk H26 ?_
  refine cond_dec (fg0 F32) (fun c33 => ?_) (fun c33 => ?_)
  ·refine wp_seq_k fun K34 H34 => region_in ?_
   refine W_v V V (V_asg V V) ?_
   refine W_end (gen_Q fun A35 E35 => ?_)
   have Y35 := szq E35
   have F35 := fsE E35 (ck F32 V V)
   clear E35 Y32 F32
   have S36 : St w NoX [] w17 := S17.sel [] (by decide) V
   refine tk H34 (wp_ret (inb_ret (then_ret (then_ret (inb_ret (then_ret ?_))))))
   refine ret_in (results_1 Try.results38 (rv_tmp (fg0 F35))) F35.d ?_
   have h : ckd (O.map ab) rs ns = 10 := ckd_bad (by omega) hy24 (by omega)
   rw [h]
   exact ⟨rfl, S36.fin0⟩
  refine wp_skip (inb_n (tk H22 ?_))
  refine region_in ?_
  refine W_v V V (V_add V (fg7 F32) V (by omega) (by omega)) ?_
  refine W_v V V (V_mov V (et V)) ?_
  refine W_end (gen_Q fun A37 E37 => ?_)
  have Y37 := szq E37
  have F37 := fsE E37 (ck (cq1 (fx7 F32) V) V V)
  clear E37 Y32 F32
  refine then_n ⟨ns.length - (j + 1), by simp only [hm17]; omega, Y37, F37.d, (j + 1), rfl, (by omega), (rg_step hj hy24 (by omega)), (((fg0 F37)).trans (by first | rfl | (simp; done) | (congr 1; omega))), (((fg10 F37)).trans (fg6 F16).symm), (((fg9 F37)).trans (fg2 F16).symm), (((fg8 F37)).trans (fg1 F16).symm), (by subst hc2_17; exact S17)⟩
 refine wp_exit (then_exit (then_exit ?_))
 refine inb_hit ?_
 refine tk H14 (wp_seq_k fun K38 H38 => region_in ?_)
 refine W_v V V (V_asg V V) ?_
 refine W_end (gen_Q fun A39 E39 => ?_)
 have Y39 := szq E39
 have F39 := fsE E39 (ck F19 V V)
 clear E39 Y19 F19
 have S40 : St w NoX [] w17 := S17.sel [] (by decide) V
 refine tk H38 (wp_ret ?_)
 refine ret_in (results_1 Try.results38 (rv_tmp (fg0 F39))) F39.d ?_
 have h : ckd (O.map ab) rs ns = 0 := ckd_ok (by omega) hj (by omega)
 rw [h]
 exact ⟨rfl, S40.fin0⟩

end Go.Proofs.Ytpgkfndbfocibaa
namespace Go.Proofs.Ytpgkfndbfocibaa
open Go.RowKit Go.Own Go.Own.R Go.Own.G Go.Own.Gr


set_option maxHeartbeats 4000000 in
theorem khd_c {ov : Value} {O : List Ob} {rv : Value} {rs : List Int} {gov : Nat} {a : Int} {w : World} (h_ov : Ro w NoX (rl 2 obC ov O)) (n_ov : Ro w NoX (nst O)) (h_rv : Ro w NoX (il .i64 rv rs)) (hb_ov : Ro w NoX (bx gov 36 #[ov, rv])) (hrg : ∀ p ∈ rs, 0 ≤ p ∧ p ≤ (O.length : Int)) (ha : 0 ≤ a ∧ a < (rs.length : Int)) :
  Calls Try.prog 76 #[.pointer (some ⟨gov, 0, none⟩), .int .i64 a] w fun e w' => (e = .returned (.pointer none) ∧ (rg rs a = 0) ∧ St w NoX [] w') ∨ (∃ B Of C y, e = .returned (.pointer (some ⟨B, Of + (rg rs a - 1).toNat * 2, none⟩)) ∧ (ov = .slice (some ⟨B, Of, none⟩) O.length C) ∧ (O[(rg rs a - 1).toNat]? = some y) ∧ (¬ rg rs a = 0) ∧ St w NoX [] w') := by
 refine calls_in 26 Try.func76 V V (by simp) (fun A0 Y0 hdf0 hargs => ?_)
 have l0_0 := hargs 0 (.pointer (some ⟨gov, 0, none⟩)) V
 have l1_0 := hargs 1 (.int .i64 a) V
 clear hargs; replace Y0 : SzN A0 26 := ⟨Y0⟩
 have hS := St.nil w
 have bh_ov := SlN.le (sl_SlN h_ov.at)
 have bh_rv := SlN.le (sl_SlN h_rv.at)
 refine wp_seq_k fun K1 H1 => region_in ?_
 refine W_v V V (V_asg V V) ?_
 refine W_end (gen_Q fun A2 E2 => ?_)
 have Y2 := szq E2
 have F2 := ((fsE E2 (cq1 (FS.n hdf0) V)).c (lookE E2 0 (es V l0_0))).c (lookE E2 1 (es V l1_0))
 clear E2 Y0 hdf0 l0_0 l1_0
 refine tk H1 (wp_seq_k fun K3 H3 => ?_)
 refine wp_seq_k fun K4 H4 => region_in ?_
 refine W_v V V (V_mov V (fg1 F2)) ?_
 refine W_v V V (V_nil V (et V)) ?_
 refine W_v V V (V_fa (off' := 1) V (et V) Try.underlying36 V (by decide +kernel) V) ?_
 refine W_r V V (VR_ldC V (et V) (cell_box (v := rv) (ob_at (hS.ro hb_ov)) V) Try.underlying25 V) ?_
 refine W_v V V (V_mov V (es4 V (fg0 F2))) ?_
 have k5 : a.toNat < rs.length := by first | omega | (simp only [List.length_cons, List.length_nil]; omega) | (simp only [List.length_set]; omega) | decide
 obtain ⟨y5, hy5⟩ := get_some (xs := rs) (k := a.toNat) k5
 have hrg5 := hrg y5 (List.mem_of_getElem? hy5)
 have hq5 : rg rs a = y5 := rg_at hy5
 obtain ⟨B5, O5, C5, hv5⟩ := (SlN.blk (sl_SlN h_rv.at) (by first | omega | (simp only [List.length_cons, List.length_nil]; omega) | (simp only [List.length_set]; omega) | decide))
 refine W_v V V (V_ixS (off := O5 + a.toNat) 1 (a.toNat) V (es V (et V)) (et V) hv5 (by omega) k5 Try.underlying25 (by kernel_rfl) (congrArg _ (Nat.mul_one _))) ?_
 refine W_r V V (VR_ldC V (et V) ((sl_SlN (hS.ro h_rv)).cell hv5 (map_get hy5)) Try.underlying3 V) ?_
 refine W_v V V (V_eql V (et V) V) ?_
 refine W_end (gen_Q fun A6 E6 => ?_)
 have Y6 := szq E6
 have F6 := fsE E6 (ck (cq7 F2 V) V V)
 clear E6 Y2 F2
 refine tk H4 ?_
 refine cond_dec (fg0 F6) (fun c7 => ?_) (fun c7 => ?_)
 ·refine wp_seq_k fun K8 H8 => region_in ?_
  refine W_v V V (V_asg V V) ?_
  refine W_end (gen_Q fun A9 E9 => ?_)
  have Y9 := szq E9
  have F9 := fsE E9 (ck F6 V V)
  clear E9 Y6 F6
  refine tk H8 (wp_ret (then_ret ?_))
  refine ret_in (results_1 Try.results76 (rv_tmp (fg0 F9))) F9.d ?_
  exact .inl ⟨rfl, by omega, hS.fin0⟩
 refine wp_skip ?_
 refine tk H3 (wp_seq_k fun K10 H10 => ?_)
 refine region_monoS 14 14 [] (by kernel_rfl) (by kernel_rfl) ?_
 refine D_v V V (V_mov V (fg2 F6)) V V ?_
 refine D_v V V (V_nil V (et V)) V V ?_
 refine D_v V V (V_fa (off' := 0) V (et V) Try.underlying36 V (by decide +kernel) V) V V ?_
 refine D_r V V (by kernel_rfl) (fun sx hx hF => (VR_ldC V (et V) (cell_box (v := ov) (ob_at ((hS.grow hx).ro hb_ov)) V) Try.underlying34 V)) V V ?_
 refine D_v V V (V_mov V (es4 V (fg2 F6))) V V ?_
 refine D_v V V (V_nil V (et V)) V V ?_
 refine D_v V V (V_fa (off' := 1) V (et V) Try.underlying36 V (by decide +kernel) V) V V ?_
 refine D_r V V (by kernel_rfl) (fun sx hx hF => (VR_ldC V (et V) (cell_box (v := rv) (ob_at ((hS.grow hx).ro hb_ov)) V) Try.underlying25 V)) V V ?_
 refine D_v V V (V_mov V (es8 V (fg1 F6))) V V ?_
 refine D_v V V (V_ixS (off := O5 + a.toNat) 1 (a.toNat) V (es V (et V)) (et V) hv5 (by omega) k5 Try.underlying25 (by kernel_rfl) (congrArg _ (Nat.mul_one _))) V V ?_
 refine D_r V V (by kernel_rfl) (fun sx hx hF => (VR_ldC V (et V) ((sl_SlN ((hS.grow hx).ro h_rv)).cell hv5 (map_get hy5)) Try.underlying3 V)) V V ?_
 refine D_v V V (V_sb V (et V) V (by omega) (by omega)) V V ?_
 have k12 : (y5 - 1).toNat < O.length := by first | omega | (simp only [List.length_cons, List.length_nil]; omega) | (simp only [List.length_set]; omega) | decide
 obtain ⟨y12, hy12⟩ := get_some (xs := O) (k := (y5 - 1).toNat) k12
 obtain ⟨B12, O12, C12, hv12⟩ := (SlN.blk (sl_SlN h_ov.at) (by first | omega | (simp only [List.length_cons, List.length_nil]; omega) | (simp only [List.length_set]; omega) | decide))
 refine D_v V V (V_ixS (off := O12 + ((y5 - 1).toNat) * 2) 2 ((y5 - 1).toNat) V (es8 V (et V)) (et V) hv12 (by omega) k12 Try.underlying34 (by kernel_rfl) V) V V ?_
 refine D_v V V (V_asg V (et V)) V V ?_
 refine ZS_none hS (Nat.le_refl _) (Nat.le_refl _) (fun s13 hJ13 hL13 hF13 => ?_)
 have S13 := hJ13.st; clear hF13 hJ13 hL13
 generalize s13.1 = w13 at *
 replace S13 : St w NoX [] w13 := S13
 refine gen_Q (fun A14 E14 => ?_)
 have Y14 := szq E14
 have F14 := fsE E14 (ck (cq5 (cq8 F6 V) V) V V)
 clear E14 Y6 F6
 refine tk H10 (wp_ret ?_)
 refine ret_in (results_1 Try.results76 (rv_tmp (fg0 F14))) F14.d ?_
 have hkk : ((y5 - 1).toNat : Nat) = (rg rs a - 1).toNat := by omega
 rw [hkk] at hy12
 exact .inr ⟨B12, O12, C12, y12, by rw [hkk], hv12, hy12, by omega, S13.fin0⟩

set_option maxHeartbeats 4000000 in
theorem kpt_c {ov : Value} {O : List Ob} {rv : Value} {rs : List Int} {gov : Nat} {a : Int} {f : Int} {w : World} (h_ov : Ro w NoX (rl 2 obC ov O)) (n_ov : Ro w NoX (nst O)) (h_rv : Ro w NoX (il .i64 rv rs)) (hb_ov : Ro w NoX (bx gov 36 #[ov, rv])) (hrg : ∀ p ∈ rs, 0 ≤ p ∧ p ≤ (O.length : Int)) (ha : 0 ≤ a ∧ a < (rs.length : Int)) :
  Calls Try.prog 70 #[.pointer (some ⟨gov, 0, none⟩), .int .i64 a, .int .i64 f] w fun e w' => (e = .returned (.pointer none) ∧ (rg rs a = 0 ∨ f < 0 ∨ ((ob (O.map ab) rs a).1.length : Int) ≤ f) ∧ St w NoX [] w') ∨ (∃ B Of C y x, e = .returned (.pointer (some ⟨B, Of + f.toNat, none⟩)) ∧ (y.1.1 = .slice (some ⟨B, Of, none⟩) y.1.2.length C) ∧ (O[(rg rs a - 1).toNat]? = some y) ∧ (y.1.2[f.toNat]? = some x) ∧ (¬ (rg rs a = 0 ∨ f < 0 ∨ ((ob (O.map ab) rs a).1.length : Int) ≤ f)) ∧ (ob (O.map ab) rs a = ab y) ∧ St w NoX [] w') := by
 refine calls_in 32 Try.func70 V V (by simp) (fun A0 Y0 hdf0 hargs => ?_)
 have l0_0 := hargs 0 (.pointer (some ⟨gov, 0, none⟩)) V
 have l1_0 := hargs 1 (.int .i64 a) V
 have l2_0 := hargs 2 (.int .i64 f) V
 clear hargs; replace Y0 : SzN A0 32 := ⟨Y0⟩
 have hS := St.nil w
 have bh_ov := SlN.le (sl_SlN h_ov.at)
 have bh_rv := SlN.le (sl_SlN h_rv.at)
 refine wp_seq_k fun K1 H1 => region_in ?_
 refine W_v V V (V_asg V V) ?_
 refine W_end (gen_Q fun A2 E2 => ?_)
 have Y2 := szq E2
 have F2 := (((fsE E2 (cq1 (FS.n hdf0) V)).c (lookE E2 0 (es V l0_0))).c (lookE E2 1 (es V l1_0))).c (lookE E2 2 (es V l2_0))
 clear E2 Y0 hdf0 l0_0 l1_0 l2_0
 refine tk H1 (wp_seq_k fun K3 H3 => region_in ?_)
 refine W_v V V (V_mov V (fg2 F2)) (W_v V V (V_mov V (es V (fg1 F2))) ?_)
 refine W_call V V V Try.func76 (by kernel_rfl) V (args2 (es V (et V)) (et V)) (khd_c (gov := gov) (a := a) (hS.roC h_ov) (hS.roC n_ov) (hS.roC h_rv) (hS.roC hb_ov) (by first | with_reducible assumption | (have q := hG.reg; simpa using q)) (by first | omega | with_reducible assumption)) ?_
 rintro _ w4 (⟨rfl, hz_4, hP4⟩ | ⟨B_4, O_4, C_4, y_4, rfl, hv_4, hy_4, hz_4, hP4⟩)
 ·refine ⟨_, rfl, ?_⟩
  have S4 := hS.join hP4
  replace S4 : St w NoX [] w4 := S4
  refine W_v V V (V_asg V (et V)) ?_
  refine W_end (gen_Q fun A5 E5 => ?_)
  have Y5 := szq E5
  have F5 := fsE E5 (ck (cq3 F2 V) V V)
  clear E5 Y2 F2
  refine tk H3 (wp_seq_k fun K6 H6 => ?_)
  refine wp_seq_k fun K7 H7 => region_in ?_
  refine W_v V V (V_mov V (fg0 F5)) ?_
  refine W_v V V (V_eqNN V (et V) V Try.underlying134) ?_
  refine W_v V V (V_mov V (et V)) (xof V V V (et V) (xof V V V (es V (et V)) ?_))
  refine W_v V V (V_pickT V (es2 V (et V)) V) ?_
  refine W_v V V (V_mov V (et V)) (xof V V V (et V) (xof V V V (es V (et V)) (xof V V V (es2 V (et V)) (xof V V V (es3 V (et V)) (xof V V V (es4 V (et V)) (xof V V V (es5 V (et V)) (xof V V V (es6 V (et V)) ?_)))))))
  refine W_v V V (V_pickT V (es7 V (et V)) V) ?_
  refine W_end (gen_Q fun A8 E8 => ?_)
  have Y8 := szq E8
  have F8 := fsE E8 (ck (cq6 (cq8 F5 V) V) V V)
  clear E8 Y5 F5
  refine tk H7 ?_
  refine cond_t (fg0 F8) ?_
  refine wp_seq_k fun K9 H9 => region_in ?_
  refine W_v V V (V_asg V V) ?_
  refine W_end (gen_Q fun A10 E10 => ?_)
  have Y10 := szq E10
  have F10 := fsE E10 (ck F8 V V)
  clear E10 Y8 F8
  refine tk H9 (wp_ret (then_ret ?_))
  refine ret_in (results_1 Try.results70 (rv_tmp (fg0 F10))) F10.d ?_
  exact .inl ⟨rfl, by first | exact .inl (by assumption) | exact .inr (.inl (by omega)) | (rw [ob_at (by assumption)]; exact .inr (.inr (by simp only [ab]; omega))), S4.fin0⟩
 refine ⟨_, rfl, ?_⟩
 have S4 := hS.join hP4
 replace S4 : St w NoX [] w4 := S4
 refine W_v V V (V_asg V (et V)) ?_
 refine W_end (gen_Q fun A11 E11 => ?_)
 have Y11 := szq E11
 have F11 := fsE E11 (ck (cq3 F2 V) V V)
 clear E11 Y2 F2
 refine tk H3 (wp_seq_k fun K12 H12 => ?_)
 refine wp_seq_k fun K13 H13 => region_in ?_
 refine W_v V V (V_mov V (fg0 F11)) ?_
 refine W_v V V (V_eqPN V (et V) V Try.underlying134) ?_
 refine W_v V V (V_mov V (et V)) ?_
 refine W_v V (xwt V V (et V)) (V_mov V (es3 V (fg1 F11))) ?_
 refine W_v V (xwt V V (es V (et V))) (V_lss V (et V) V) ?_
 refine W_v V V (V_pickF V (es2 V (et V)) (et V)) ?_
 refine W_split V V (V_mov V (et V)) (fun c14 => ?_) (fun c14 => ?_)
 ·refine xof V V V (et V) (xof V V V (es V (et V)) (xof V V V (es2 V (et V)) (xof V V V (es3 V (et V)) (xof V V V (es4 V (et V)) (xof V V V (es5 V (et V)) (xof V V V (es6 V (et V)) ?_))))))
  refine W_v V V (V_pickT V (es7 V (et V)) V) ?_
  refine W_end (gen_Q fun A15 E15 => ?_)
  have Y15 := szq E15
  have F15 := fsE E15 (ck (cq6 (cq8 F11 V) V) V V)
  clear E15 Y11 F11
  refine tk H13 ?_
  refine cond_t (fg0 F15) ?_
  refine wp_seq_k fun K16 H16 => region_in ?_
  refine W_v V V (V_asg V V) ?_
  refine W_end (gen_Q fun A17 E17 => ?_)
  have Y17 := szq E17
  have F17 := fsE E17 (ck F15 V V)
  clear E17 Y15 F15
  refine tk H16 (wp_ret (then_ret ?_))
  refine ret_in (results_1 Try.results70 (rv_tmp (fg0 F17))) F17.d ?_
  exact .inl ⟨rfl, by first | exact .inl (by assumption) | exact .inr (.inl (by omega)) | (rw [ob_at (by assumption)]; exact .inr (.inr (by simp only [ab]; omega))), S4.fin0⟩
 refine W_v V (xwt V V (et V)) (V_mov V (es7 V (fg1 F11))) ?_
 refine W_v V (xwt V V (es V (et V))) (V_mov V (es8 V (fg0 F11))) ?_
 refine W_v V (xwt V V (es2 V (et V))) (V_nil V (et V)) ?_
 refine W_v V (xwt V V (es3 V (et V))) (V_fa (off' := O_4 + ((rg rs a - 1).toNat) * 2 + 0) V (et V) Try.underlying68 V (by decide +kernel) V) ?_
 have fn18 : Ro w NoX (il .i64 y_4.1.1 y_4.1.2) := nst_ro1 n_ov hy_4
 have bfn18 := SlN.le (sl_SlN (S4.ro fn18))
 have fn19 : Ro w NoX (il .u64 y_4.2.1 y_4.2.2) := nst_ro2 n_ov hy_4
 have bfn19 := SlN.le (sl_SlN (S4.ro fn19))
 refine W_r V (xwt V V (es4 V (et V))) (VR_ldC (v := y_4.1.1) V (et V) (SlN.row obC_len (sl_SlN (S4.ro h_ov)) hv_4 hy_4 V 0 _ V) Try.underlying25 V) ?_
 refine W_v V (xwt V V (es5 V (et V))) (V_lenS V (et V) (sl_SlN fn18.at) Try.underlying25) ?_
 refine W_v V (xwt V V (es6 V (et V))) (V_geq V (es5 V (et V)) (et V)) ?_
 refine W_v V V (V_pickF V (es7 V (et V)) (et V)) ?_
 refine W_end (gen_Q fun A20 E20 => ?_)
 have Y20 := szq E20
 have F20 := fsE E20 (ck (cq6 (cq8 F11 V) V) V V)
 clear E20 Y11 F11
 refine tk H13 ?_
 refine cond_dec (fg0 F20) (fun c21 => ?_) (fun c21 => ?_)
 ·refine wp_seq_k fun K22 H22 => region_in ?_
  refine W_v V V (V_asg V V) ?_
  refine W_end (gen_Q fun A23 E23 => ?_)
  have Y23 := szq E23
  have F23 := fsE E23 (ck F20 V V)
  clear E23 Y20 F20
  refine tk H22 (wp_ret (then_ret ?_))
  refine ret_in (results_1 Try.results70 (rv_tmp (fg0 F23))) F23.d ?_
  exact .inl ⟨rfl, by first | exact .inl (by assumption) | exact .inr (.inl (by omega)) | (rw [ob_at (by assumption)]; exact .inr (.inr (by simp only [ab]; omega))), S4.fin0⟩
 refine wp_skip ?_
 refine tk H12 (wp_seq_k fun K24 H24 => region_in ?_)
 refine W_v V V (V_mov V (fg1 F20)) ?_
 refine W_v V V (V_nil V (et V)) ?_
 refine W_v V V (V_fa (off' := O_4 + ((rg rs a - 1).toNat) * 2 + 0) V (et V) Try.underlying68 V (by decide +kernel) V) ?_
 refine W_r V V (VR_ldC (v := y_4.1.1) V (et V) (SlN.row obC_len (sl_SlN (S4.ro h_ov)) hv_4 hy_4 V 0 _ V) Try.underlying25 V) ?_
 refine W_v V V (V_mov V (es4 V (fg2 F20))) ?_
 have k25 : f.toNat < y_4.1.2.length := by first | omega | (simp only [List.length_cons, List.length_nil]; omega) | (simp only [List.length_set]; omega) | decide
 obtain ⟨y25, hy25⟩ := get_some (xs := y_4.1.2) (k := f.toNat) k25
 obtain ⟨B25, O25, C25, hv25⟩ := (SlN.blk (sl_SlN fn18.at) (by first | omega | (simp only [List.length_cons, List.length_nil]; omega) | (simp only [List.length_set]; omega) | decide))
 refine W_v V V (V_ixS (off := O25 + f.toNat) 1 (f.toNat) V (es V (et V)) (et V) hv25 (by omega) k25 Try.underlying25 (by kernel_rfl) (congrArg _ (Nat.mul_one _))) ?_
 refine W_v V V (V_asg V (et V)) ?_
 refine W_end (gen_Q fun A26 E26 => ?_)
 have Y26 := szq E26
 have F26 := fsE E26 (ck (cq6 F20 V) V V)
 clear E26 Y20 F20
 refine tk H24 (wp_ret ?_)
 refine ret_in (results_1 Try.results70 (rv_tmp (fg0 F26))) F26.d ?_
 have hob := ob_at hy_4
 exact .inr ⟨B25, O25, C25, y_4, y25, rfl, hv25, hy_4, hy25, (by rw [hob]; simp only [ab]; omega), hob, S4.fin0⟩

set_option maxHeartbeats 4000000 in
theorem krw_c {ov : Value} {O : List Ob} {rv : Value} {rs : List Int} {gov : Nat} {a : Int} {f : Int} {w : World} (h_ov : Ro w NoX (rl 2 obC ov O)) (n_ov : Ro w NoX (nst O)) (h_rv : Ro w NoX (il .i64 rv rs)) (hb_ov : Ro w NoX (bx gov 36 #[ov, rv])) (hrg : ∀ p ∈ rs, 0 ≤ p ∧ p ≤ (O.length : Int)) (ha : 0 ≤ a ∧ a < (rs.length : Int)) :
  Calls Try.prog 72 #[.pointer (some ⟨gov, 0, none⟩), .int .i64 a, .int .i64 f] w fun e w' => (e = .returned (.pointer none) ∧ (rg rs a = 0 ∨ f < 0 ∨ ((ob (O.map ab) rs a).2.length : Int) ≤ f) ∧ St w NoX [] w') ∨ (∃ B Of C y x, e = .returned (.pointer (some ⟨B, Of + f.toNat, none⟩)) ∧ (y.2.1 = .slice (some ⟨B, Of, none⟩) y.2.2.length C) ∧ (O[(rg rs a - 1).toNat]? = some y) ∧ (y.2.2[f.toNat]? = some x) ∧ (¬ (rg rs a = 0 ∨ f < 0 ∨ ((ob (O.map ab) rs a).2.length : Int) ≤ f)) ∧ (ob (O.map ab) rs a = ab y) ∧ St w NoX [] w') := by
 refine calls_in 32 Try.func72 V V (by simp) (fun A0 Y0 hdf0 hargs => ?_)
 have l0_0 := hargs 0 (.pointer (some ⟨gov, 0, none⟩)) V
 have l1_0 := hargs 1 (.int .i64 a) V
 have l2_0 := hargs 2 (.int .i64 f) V
 clear hargs; replace Y0 : SzN A0 32 := ⟨Y0⟩
 have hS := St.nil w
 have bh_ov := SlN.le (sl_SlN h_ov.at)
 have bh_rv := SlN.le (sl_SlN h_rv.at)
 refine wp_seq_k fun K1 H1 => region_in ?_
 refine W_v V V (V_asg V V) ?_
 refine W_end (gen_Q fun A2 E2 => ?_)
 have Y2 := szq E2
 have F2 := (((fsE E2 (cq1 (FS.n hdf0) V)).c (lookE E2 0 (es V l0_0))).c (lookE E2 1 (es V l1_0))).c (lookE E2 2 (es V l2_0))
 clear E2 Y0 hdf0 l0_0 l1_0 l2_0
 refine tk H1 (wp_seq_k fun K3 H3 => region_in ?_)
 refine W_v V V (V_mov V (fg2 F2)) (W_v V V (V_mov V (es V (fg1 F2))) ?_)
 refine W_call V V V Try.func76 (by kernel_rfl) V (args2 (es V (et V)) (et V)) (khd_c (gov := gov) (a := a) (hS.roC h_ov) (hS.roC n_ov) (hS.roC h_rv) (hS.roC hb_ov) (by first | with_reducible assumption | (have q := hG.reg; simpa using q)) (by first | omega | with_reducible assumption)) ?_
 rintro _ w4 (⟨rfl, hz_4, hP4⟩ | ⟨B_4, O_4, C_4, y_4, rfl, hv_4, hy_4, hz_4, hP4⟩)
 ·refine ⟨_, rfl, ?_⟩
  have S4 := hS.join hP4
  replace S4 : St w NoX [] w4 := S4
  refine W_v V V (V_asg V (et V)) ?_
  refine W_end (gen_Q fun A5 E5 => ?_)
  have Y5 := szq E5
  have F5 := fsE E5 (ck (cq3 F2 V) V V)
  clear E5 Y2 F2
  refine tk H3 (wp_seq_k fun K6 H6 => ?_)
  refine wp_seq_k fun K7 H7 => region_in ?_
  refine W_v V V (V_mov V (fg0 F5)) ?_
  refine W_v V V (V_eqNN V (et V) V Try.underlying134) ?_
  refine W_v V V (V_mov V (et V)) (xof V V V (et V) (xof V V V (es V (et V)) ?_))
  refine W_v V V (V_pickT V (es2 V (et V)) V) ?_
  refine W_v V V (V_mov V (et V)) (xof V V V (et V) (xof V V V (es V (et V)) (xof V V V (es2 V (et V)) (xof V V V (es3 V (et V)) (xof V V V (es4 V (et V)) (xof V V V (es5 V (et V)) (xof V V V (es6 V (et V)) ?_)))))))
  refine W_v V V (V_pickT V (es7 V (et V)) V) ?_
  refine W_end (gen_Q fun A8 E8 => ?_)
  have Y8 := szq E8
  have F8 := fsE E8 (ck (cq6 (cq8 F5 V) V) V V)
  clear E8 Y5 F5
  refine tk H7 ?_
  refine cond_t (fg0 F8) ?_
  refine wp_seq_k fun K9 H9 => region_in ?_
  refine W_v V V (V_asg V V) ?_
  refine W_end (gen_Q fun A10 E10 => ?_)
  have Y10 := szq E10
  have F10 := fsE E10 (ck F8 V V)
  clear E10 Y8 F8
  refine tk H9 (wp_ret (then_ret ?_))
  refine ret_in (results_1 Try.results72 (rv_tmp (fg0 F10))) F10.d ?_
  exact .inl ⟨rfl, by first | exact .inl (by assumption) | exact .inr (.inl (by omega)) | (rw [ob_at (by assumption)]; exact .inr (.inr (by simp only [ab]; omega))), S4.fin0⟩
 refine ⟨_, rfl, ?_⟩
 have S4 := hS.join hP4
 replace S4 : St w NoX [] w4 := S4
 refine W_v V V (V_asg V (et V)) ?_
 refine W_end (gen_Q fun A11 E11 => ?_)
 have Y11 := szq E11
 have F11 := fsE E11 (ck (cq3 F2 V) V V)
 clear E11 Y2 F2
 refine tk H3 (wp_seq_k fun K12 H12 => ?_)
 refine wp_seq_k fun K13 H13 => region_in ?_
 refine W_v V V (V_mov V (fg0 F11)) ?_
 refine W_v V V (V_eqPN V (et V) V Try.underlying134) ?_
 refine W_v V V (V_mov V (et V)) ?_
 refine W_v V (xwt V V (et V)) (V_mov V (es3 V (fg1 F11))) ?_
 refine W_v V (xwt V V (es V (et V))) (V_lss V (et V) V) ?_
 refine W_v V V (V_pickF V (es2 V (et V)) (et V)) ?_
 refine W_split V V (V_mov V (et V)) (fun c14 => ?_) (fun c14 => ?_)
 ·refine xof V V V (et V) (xof V V V (es V (et V)) (xof V V V (es2 V (et V)) (xof V V V (es3 V (et V)) (xof V V V (es4 V (et V)) (xof V V V (es5 V (et V)) (xof V V V (es6 V (et V)) ?_))))))
  refine W_v V V (V_pickT V (es7 V (et V)) V) ?_
  refine W_end (gen_Q fun A15 E15 => ?_)
  have Y15 := szq E15
  have F15 := fsE E15 (ck (cq6 (cq8 F11 V) V) V V)
  clear E15 Y11 F11
  refine tk H13 ?_
  refine cond_t (fg0 F15) ?_
  refine wp_seq_k fun K16 H16 => region_in ?_
  refine W_v V V (V_asg V V) ?_
  refine W_end (gen_Q fun A17 E17 => ?_)
  have Y17 := szq E17
  have F17 := fsE E17 (ck F15 V V)
  clear E17 Y15 F15
  refine tk H16 (wp_ret (then_ret ?_))
  refine ret_in (results_1 Try.results72 (rv_tmp (fg0 F17))) F17.d ?_
  exact .inl ⟨rfl, by first | exact .inl (by assumption) | exact .inr (.inl (by omega)) | (rw [ob_at (by assumption)]; exact .inr (.inr (by simp only [ab]; omega))), S4.fin0⟩
 refine W_v V (xwt V V (et V)) (V_mov V (es7 V (fg1 F11))) ?_
 refine W_v V (xwt V V (es V (et V))) (V_mov V (es8 V (fg0 F11))) ?_
 refine W_v V (xwt V V (es2 V (et V))) (V_nil V (et V)) ?_
 refine W_v V (xwt V V (es3 V (et V))) (V_fa (off' := O_4 + ((rg rs a - 1).toNat) * 2 + 1) V (et V) Try.underlying68 V (by decide +kernel) V) ?_
 have fn18 : Ro w NoX (il .i64 y_4.1.1 y_4.1.2) := nst_ro1 n_ov hy_4
 have bfn18 := SlN.le (sl_SlN (S4.ro fn18))
 have fn19 : Ro w NoX (il .u64 y_4.2.1 y_4.2.2) := nst_ro2 n_ov hy_4
 have bfn19 := SlN.le (sl_SlN (S4.ro fn19))
 refine W_r V (xwt V V (es4 V (et V))) (VR_ldC (v := y_4.2.1) V (et V) (SlN.row obC_len (sl_SlN (S4.ro h_ov)) hv_4 hy_4 V 1 _ V) Try.underlying66 V) ?_
 refine W_v V (xwt V V (es5 V (et V))) (V_lenS V (et V) (sl_SlN fn19.at) Try.underlying66) ?_
 refine W_v V (xwt V V (es6 V (et V))) (V_geq V (es5 V (et V)) (et V)) ?_
 refine W_v V V (V_pickF V (es7 V (et V)) (et V)) ?_
 refine W_end (gen_Q fun A20 E20 => ?_)
 have Y20 := szq E20
 have F20 := fsE E20 (ck (cq6 (cq8 F11 V) V) V V)
 clear E20 Y11 F11
 refine tk H13 ?_
 refine cond_dec (fg0 F20) (fun c21 => ?_) (fun c21 => ?_)
 ·refine wp_seq_k fun K22 H22 => region_in ?_
  refine W_v V V (V_asg V V) ?_
  refine W_end (gen_Q fun A23 E23 => ?_)
  have Y23 := szq E23
  have F23 := fsE E23 (ck F20 V V)
  clear E23 Y20 F20
  refine tk H22 (wp_ret (then_ret ?_))
  refine ret_in (results_1 Try.results72 (rv_tmp (fg0 F23))) F23.d ?_
  exact .inl ⟨rfl, by first | exact .inl (by assumption) | exact .inr (.inl (by omega)) | (rw [ob_at (by assumption)]; exact .inr (.inr (by simp only [ab]; omega))), S4.fin0⟩
 refine wp_skip ?_
 refine tk H12 (wp_seq_k fun K24 H24 => region_in ?_)
 refine W_v V V (V_mov V (fg1 F20)) ?_
 refine W_v V V (V_nil V (et V)) ?_
 refine W_v V V (V_fa (off' := O_4 + ((rg rs a - 1).toNat) * 2 + 1) V (et V) Try.underlying68 V (by decide +kernel) V) ?_
 refine W_r V V (VR_ldC (v := y_4.2.1) V (et V) (SlN.row obC_len (sl_SlN (S4.ro h_ov)) hv_4 hy_4 V 1 _ V) Try.underlying66 V) ?_
 refine W_v V V (V_mov V (es4 V (fg2 F20))) ?_
 have k25 : f.toNat < y_4.2.2.length := by first | omega | (simp only [List.length_cons, List.length_nil]; omega) | (simp only [List.length_set]; omega) | decide
 obtain ⟨y25, hy25⟩ := get_some (xs := y_4.2.2) (k := f.toNat) k25
 obtain ⟨B25, O25, C25, hv25⟩ := (SlN.blk (sl_SlN fn19.at) (by first | omega | (simp only [List.length_cons, List.length_nil]; omega) | (simp only [List.length_set]; omega) | decide))
 refine W_v V V (V_ixS (off := O25 + f.toNat) 1 (f.toNat) V (es V (et V)) (et V) hv25 (by omega) k25 Try.underlying66 (by kernel_rfl) (congrArg _ (Nat.mul_one _))) ?_
 refine W_v V V (V_asg V (et V)) ?_
 refine W_end (gen_Q fun A26 E26 => ?_)
 have Y26 := szq E26
 have F26 := fsE E26 (ck (cq6 F20 V) V V)
 clear E26 Y20 F20
 refine tk H24 (wp_ret ?_)
 refine ret_in (results_1 Try.results72 (rv_tmp (fg0 F26))) F26.d ?_
 have hob := ob_at hy_4
 exact .inr ⟨B25, O25, C25, y_4, y25, rfl, hv25, hy_4, hy25, (by rw [hob]; simp only [ab]; omega), hob, S4.fin0⟩

end Go.Proofs.Ytpgkfndbfocibaa
namespace Go.Proofs.Ytpgkfndbfocibaa
open Go.RowKit Go.Own Go.Own.R Go.Own.G Go.Own.Gr


set_option maxHeartbeats 4000000 in
theorem kRd_c {ov : Value} {O : List Ob} {rv : Value} {rs : List Int} {a : Int} {f : Int} {w : World} (h_ov : Ro w NoX (rl 2 obC ov O)) (n_ov : Ro w NoX (nst O)) (h_rv : Ro w NoX (il .i64 rv rs))  :
  Calls Try.prog 51 #[.agg #[ov, rv], .int .i64 a, .int .i64 f] w fun e w' => e = .returned (.tuple #[.int .u64 (rdV (O.map ab) rs a f), .int .i64 (rwE (O.map ab) rs [a] a f)]) ∧ St w NoX [] w' := by
 refine calls_in 25 Try.func51 V V (by simp) (fun A0 Y0 hdf0 hargs => ?_)
 have l0_0 := hargs 0 (.agg #[ov, rv]) V
 have l1_0 := hargs 1 (.int .i64 a) V
 have l2_0 := hargs 2 (.int .i64 f) V
 clear hargs; replace Y0 : SzN A0 25 := ⟨Y0⟩
 have hS := St.nil w
 have bh_ov := SlN.le (sl_SlN h_ov.at)
 have bh_rv := SlN.le (sl_SlN h_rv.at)
 refine wp_seq_k fun K1 H1 => region_in ?_
 refine W_boxS (zs := #[ov, rv]) hS V V V l0_0 (by rfl) (fun g2 w2 c2 hc2 S2 => ?_)
 replace S2 : St w NoX [c2] w2 := S2
 refine W_v V V (V_asg V V) (W_v V V (V_asg V V) ?_)
 refine W_end (gen_Q fun A3 E3 => ?_)
 have Y3 := szq E3
 have F3 := ((fsE E3 (cq2 (ck (FS.n hdf0) V V) V)).c (lookE E3 1 (es3 V l1_0))).c (lookE E3 2 (es3 V l2_0))
 clear E3 Y0 hdf0 l0_0 l1_0 l2_0
 refine tk H1 (wp_seq_k fun K4 H4 => ?_)
 refine wp_seq_k fun K5 H5 => region_in ?_
 refine W_r V V (VR_ldA V (fg2 F3) (S2.obj 0 V hc2) Try.underlying36 V (by kernel_rfl)) ?_
 refine W_v V V (V_mov V (es V (fg1 F3))) ?_
 have hll6 : [a].length = 1 := rfl
 refine xsL (vs := [.int .i64 (a)]) (xs := ([a].map (Value.int .i64))) 1 S2 V V V (parts1 (et V)) Try.underlying25 (fun g6 w6 c6 hc6 S6 => ?_)
 replace hc6 : c6 = io .i64 (.slice (some ⟨g6, 0, none⟩) 1 1) [a] := hc6
 replace S6 : St w NoX [c6, c2] w6 := S6
 refine W_call V V V Try.func38 (by kernel_rfl) V (args2 (es2 V (et V)) (et V)) (kcd_c (S6.roC h_ov) (S6.roC n_ov) (S6.roC h_rv) (S6.chC 0 V hc6).own ) ?_
 rintro _ w7 ⟨rfl, hP7⟩
 refine ⟨_, rfl, ?_⟩
 have S7 := S6.join hP7
 replace S7 : St w NoX [c6, c2] w7 := S7
 refine W_v V V (V_asg V (et V)) ?_
 refine W_end (gen_Q fun A8 E8 => ?_)
 have Y8 := szq E8
 have F8 := fsE E8 (ck (cq4 F3 V) V V)
 clear E8 Y3 F3
 have S9 : St w NoX [c2] w7 := S7.sel [1] (by decide) V
 refine tk H5 (wp_seq_k fun K10 H10 => region_in ?_)
 refine W_v V V (V_mov V (fg0 F8)) ?_
 refine W_v V V (V_neq V (et V) V) ?_
 refine W_end (gen_Q fun A11 E11 => ?_)
 have Y11 := szq E11
 have F11 := fsE E11 (ck (cq1 F8 V) V V)
 clear E11 Y8 F8
 refine tk H10 ?_
 refine cond_dec (fg0 F11) (fun c12 => ?_) (fun c12 => ?_)
 ·refine wp_seq_k fun K13 H13 => region_in ?_
  refine W_v V V (V_mov V (fg1 F11)) (W_v V V (V_asg V V) (W_v V V (V_asg V (es V (et V))) ?_))
  refine W_end (gen_Q fun A14 E14 => ?_)
  have Y14 := szq E14
  have F14 := fsE E14 (ck (ck (cq1 F11 V) V V) V V)
  clear E14 Y11 F11
  have S15 : St w NoX [] w7 := S9.sel [] (by decide) V
  refine tk H13 (wp_ret (then_ret ?_))
  refine ret_in (results_2 Try.results51 (rv_tmp (fg1 F14)) (rv_tmp (fg0 F14))) F14.d ?_
  have h := rw_ck (f := f) (by assumption)
  rw [h.1, h.2]
  exact ⟨rfl, S15.fin0⟩
 have hcd : ckd (O.map ab) rs [a] = 0 := by simpa using c12
 have hG0 := (ckd_0.1 hcd).1
 have hG := hG0
 have hrg : ∀ p ∈ rs, 0 ≤ p ∧ p ≤ (O.length : Int) := fun p hp => by have q := hG0.reg p hp; rw [List.length_map] at q; exact q
 have ha := (ckd_0.1 hcd).2 a (by simp)
 refine wp_skip ?_
 refine tk H4 (wp_seq_k fun K16 H16 => region_in ?_)
 refine W_v V V (V_mov V (fg3 F11)) (W_v V V (V_mov V (es V (fg2 F11))) ?_)
 refine W_call V V V Try.func72 (by kernel_rfl) V (args3 (es2 V (fg4 F11)) (es V (et V)) (et V)) (krw_c (gov := g2) (a := a) (f := f) (S9.roC h_ov) (S9.roC n_ov) (S9.roC h_rv) (S9.chC 0 V hc2) (by first | with_reducible assumption | (have q := hG.reg; simpa using q)) (by first | omega | with_reducible assumption)) ?_
 rintro _ w17 (⟨rfl, hz_17, hP17⟩ | ⟨B_17, O_17, C_17, y_17, x_17, rfl, hv_17, hy_17, hx_17, hz_17, hob_17, hP17⟩)
 ·refine ⟨_, rfl, ?_⟩
  have S17 := S9.join hP17
  replace S17 : St w NoX [c2] w17 := S17
  refine W_v V V (V_asg V (et V)) ?_
  refine W_end (gen_Q fun A18 E18 => ?_)
  have Y18 := szq E18
  have F18 := fsE E18 (ck (cq3 F11 V) V V)
  clear E18 Y11 F11
  have S19 : St w NoX [] w17 := S17.sel [] (by decide) V
  refine tk H16 (wp_seq_k fun K20 H20 => ?_)
  refine wp_seq_k fun K21 H21 => region_in ?_
  refine W_v V V (V_mov V (fg0 F18)) ?_
  refine W_v V V (V_eqNN V (et V) V Try.underlying132) ?_
  refine W_end (gen_Q fun A22 E22 => ?_)
  have Y22 := szq E22
  have F22 := fsE E22 (ck (cq1 F18 V) V V)
  clear E22 Y18 F18
  refine tk H21 ?_
  refine cond_t (fg0 F22) ?_
  refine wp_seq_k fun K23 H23 => region_in ?_
  refine W_v V V (V_asg V V) (W_v V V (V_asg V V) ?_)
  refine W_end (gen_Q fun A24 E24 => ?_)
  have Y24 := szq E24
  have F24 := fsE E24 (ck (ck F22 V V) V V)
  clear E24 Y22 F22
  refine tk H23 (wp_ret (then_ret ?_))
  refine ret_in (results_2 Try.results51 (rv_tmp (fg1 F24)) (rv_tmp (fg0 F24))) F24.d ?_
  have h := rw_no (f := f) hcd hz_17
  rw [h.1, h.2]
  exact ⟨rfl, S19.fin0⟩
 refine ⟨_, rfl, ?_⟩
 have S17 := S9.join hP17
 replace S17 : St w NoX [c2] w17 := S17
 have fn25 : Ro w NoX (il .i64 y_17.1.1 y_17.1.2) := nst_ro1 n_ov hy_17
 have bfn25 := SlN.le (sl_SlN (S17.ro fn25))
 have fn26 : Ro w NoX (il .u64 y_17.2.1 y_17.2.2) := nst_ro2 n_ov hy_17
 have bfn26 := SlN.le (sl_SlN (S17.ro fn26))
 refine W_v V V (V_asg V (et V)) ?_
 refine W_end (gen_Q fun A27 E27 => ?_)
 have Y27 := szq E27
 have F27 := fsE E27 (ck (cq3 F11 V) V V)
 clear E27 Y11 F11
 have S28 : St w NoX [] w17 := S17.sel [] (by decide) V
 refine tk H16 (wp_seq_k fun K29 H29 => ?_)
 refine wp_seq_k fun K30 H30 => region_in ?_
 refine W_v V V (V_mov V (fg0 F27)) ?_
 refine W_v V V (V_eqPN V (et V) V Try.underlying132) ?_
 refine W_end (gen_Q fun A31 E31 => ?_)
 have Y31 := szq E31
 have F31 := fsE E31 (ck (cq1 F27 V) V V)
 clear E31 Y27 F27
 refine tk H30 ?_
 refine cond_f (fg0 F31) ?_
 refine wp_skip ?_
 refine tk H29 (wp_seq_k fun K32 H32 => region_in ?_)
 refine W_v V V (V_mov V (fg1 F31)) ?_
 refine W_v V V (V_nil V (et V)) ?_
 refine W_r V V (VR_ldC V (et V) ((sl_SlN (S28.ro fn26)).cell hv_17 (map_get hx_17)) Try.underlying40 V) ?_
 refine W_v V V (V_asg V (et V)) (W_v V V (V_asg V V) ?_)
 refine W_end (gen_Q fun A33 E33 => ?_)
 have Y33 := szq E33
 have F33 := fsE E33 (ck (ck (cq3 F31 V) V V) V V)
 clear E33 Y31 F31
 refine tk H32 (wp_ret ?_)
 refine ret_in (results_2 Try.results51 (rv_tmp (fg1 F33)) (rv_tmp (fg0 F33))) F33.d ?_
 have h := rw_ok (f := f) hcd hz_17 hob_17 hx_17
 rw [h.1, h.2]
 exact ⟨rfl, S28.fin0⟩

set_option maxHeartbeats 4000000 in
theorem kSh_c {ov : Value} {O : List Ob} {rv : Value} {rs : List Int} {a : Int} {w : World} (h_ov : Ro w NoX (rl 2 obC ov O)) (n_ov : Ro w NoX (nst O)) (h_rv : Ro w NoX (il .i64 rv rs))  :
  Calls Try.prog 57 #[.agg #[ov, rv], .int .i64 a] w fun e w' => e = .returned (.tuple #[.int .i64 (shP (O.map ab) rs a), .int .i64 (shR (O.map ab) rs a), .int .i64 (shE (O.map ab) rs a)]) ∧ St w NoX [] w' := by
 refine calls_in 30 Try.func57 V V (by simp) (fun A0 Y0 hdf0 hargs => ?_)
 have l0_0 := hargs 0 (.agg #[ov, rv]) V
 have l1_0 := hargs 1 (.int .i64 a) V
 clear hargs; replace Y0 : SzN A0 30 := ⟨Y0⟩
 have hS := St.nil w
 have bh_ov := SlN.le (sl_SlN h_ov.at)
 have bh_rv := SlN.le (sl_SlN h_rv.at)
 refine wp_seq_k fun K1 H1 => region_in ?_
 refine W_boxS (zs := #[ov, rv]) hS V V V l0_0 (by rfl) (fun g2 w2 c2 hc2 S2 => ?_)
 replace S2 : St w NoX [c2] w2 := S2
 refine W_v V V (V_asg V V) (W_v V V (V_asg V V) (W_v V V (V_asg V V) ?_))
 refine W_end (gen_Q fun A3 E3 => ?_)
 have Y3 := szq E3
 have F3 := (fsE E3 (cq3 (ck (FS.n hdf0) V V) V)).c (lookE E3 1 (es4 V l1_0))
 clear E3 Y0 hdf0 l0_0 l1_0
 refine tk H1 (wp_seq_k fun K4 H4 => ?_)
 refine wp_seq_k fun K5 H5 => region_in ?_
 refine W_r V V (VR_ldA V (fg1 F3) (S2.obj 0 V hc2) Try.underlying36 V (by kernel_rfl)) ?_
 refine W_v V V (V_mov V (es V (fg0 F3))) ?_
 have hll6 : [a].length = 1 := rfl
 refine xsL (vs := [.int .i64 (a)]) (xs := ([a].map (Value.int .i64))) 1 S2 V V V (parts1 (et V)) Try.underlying25 (fun g6 w6 c6 hc6 S6 => ?_)
 replace hc6 : c6 = io .i64 (.slice (some ⟨g6, 0, none⟩) 1 1) [a] := hc6
 replace S6 : St w NoX [c6, c2] w6 := S6
 refine W_call V V V Try.func38 (by kernel_rfl) V (args2 (es2 V (et V)) (et V)) (kcd_c (S6.roC h_ov) (S6.roC n_ov) (S6.roC h_rv) (S6.chC 0 V hc6).own ) ?_
 rintro _ w7 ⟨rfl, hP7⟩
 refine ⟨_, rfl, ?_⟩
 have S7 := S6.join hP7
 replace S7 : St w NoX [c6, c2] w7 := S7
 refine W_v V V (V_asg V (et V)) ?_
 refine W_end (gen_Q fun A8 E8 => ?_)
 have Y8 := szq E8
 have F8 := fsE E8 (ck (cq4 F3 V) V V)
 clear E8 Y3 F3
 have S9 : St w NoX [c2] w7 := S7.sel [1] (by decide) V
 refine tk H5 (wp_seq_k fun K10 H10 => region_in ?_)
 refine W_v V V (V_mov V (fg0 F8)) ?_
 refine W_v V V (V_neq V (et V) V) ?_
 refine W_end (gen_Q fun A11 E11 => ?_)
 have Y11 := szq E11
 have F11 := fsE E11 (ck (cq1 F8 V) V V)
 clear E11 Y8 F8
 refine tk H10 ?_
 refine cond_dec (fg0 F11) (fun c12 => ?_) (fun c12 => ?_)
 ·refine wp_seq_k fun K13 H13 => region_in ?_
  refine W_v V V (V_mov V (fg1 F11)) (W_v V V (V_asg V V) (W_v V V (V_asg V V) (W_v V V (V_asg V (es2 V (et V))) ?_)))
  refine W_end (gen_Q fun A14 E14 => ?_)
  have Y14 := szq E14
  have F14 := fsE E14 (ck (ck (ck (cq1 F11 V) V V) V V) V V)
  clear E14 Y11 F11
  have S15 : St w NoX [] w7 := S9.sel [] (by decide) V
  refine tk H13 (wp_ret (then_ret ?_))
  refine ret_in (results_3 Try.results57 (rv_tmp (fg2 F14)) (rv_tmp (fg1 F14)) (rv_tmp (fg0 F14))) F14.d ?_
  have h := sh_ck (by assumption)
  rw [h.1, h.2.1, h.2.2]
  exact ⟨rfl, S15.fin0⟩
 have hcd : ckd (O.map ab) rs [a] = 0 := by simpa using c12
 have hG0 := (ckd_0.1 hcd).1
 have hG := hG0
 have hrg : ∀ p ∈ rs, 0 ≤ p ∧ p ≤ (O.length : Int) := fun p hp => by have q := hG0.reg p hp; rw [List.length_map] at q; exact q
 have ha := (ckd_0.1 hcd).2 a (by simp)
 refine wp_skip ?_
 refine tk H4 (wp_seq_k fun K16 H16 => region_in ?_)
 refine W_v V V (V_mov V (fg2 F11)) ?_
 refine W_call V V V Try.func76 (by kernel_rfl) V (args2 (es V (fg3 F11)) (et V)) (khd_c (gov := g2) (a := a) (S9.roC h_ov) (S9.roC n_ov) (S9.roC h_rv) (S9.chC 0 V hc2) (by first | with_reducible assumption | (have q := hG.reg; simpa using q)) (by first | omega | with_reducible assumption)) ?_
 rintro _ w17 (⟨rfl, hz_17, hP17⟩ | ⟨B_17, O_17, C_17, y_17, rfl, hv_17, hy_17, hz_17, hP17⟩)
 ·refine ⟨_, rfl, ?_⟩
  have S17 := S9.join hP17
  replace S17 : St w NoX [c2] w17 := S17
  refine W_v V V (V_asg V (et V)) ?_
  refine W_end (gen_Q fun A18 E18 => ?_)
  have Y18 := szq E18
  have F18 := fsE E18 (ck (cq2 F11 V) V V)
  clear E18 Y11 F11
  have S19 : St w NoX [] w17 := S17.sel [] (by decide) V
  refine tk H16 (wp_seq_k fun K20 H20 => ?_)
  refine wp_seq_k fun K21 H21 => region_in ?_
  refine W_v V V (V_mov V (fg0 F18)) ?_
  refine W_v V V (V_eqNN V (et V) V Try.underlying134) ?_
  refine W_end (gen_Q fun A22 E22 => ?_)
  have Y22 := szq E22
  have F22 := fsE E22 (ck (cq1 F18 V) V V)
  clear E22 Y18 F18
  refine tk H21 ?_
  refine cond_t (fg0 F22) ?_
  refine wp_seq_k fun K23 H23 => region_in ?_
  refine W_v V V (V_asg V V) (W_v V V (V_asg V V) (W_v V V (V_asg V V) ?_))
  refine W_end (gen_Q fun A24 E24 => ?_)
  have Y24 := szq E24
  have F24 := fsE E24 (ck (ck (ck F22 V V) V V) V V)
  clear E24 Y22 F22
  refine tk H23 (wp_ret (then_ret ?_))
  refine ret_in (results_3 Try.results57 (rv_tmp (fg2 F24)) (rv_tmp (fg1 F24)) (rv_tmp (fg0 F24))) F24.d ?_
  have h := sh_no hcd hz_17
  rw [h.1, h.2.1, h.2.2]
  exact ⟨rfl, S19.fin0⟩
 refine ⟨_, rfl, ?_⟩
 have S17 := S9.join hP17
 replace S17 : St w NoX [c2] w17 := S17
 refine W_v V V (V_asg V (et V)) ?_
 refine W_end (gen_Q fun A25 E25 => ?_)
 have Y25 := szq E25
 have F25 := fsE E25 (ck (cq2 F11 V) V V)
 clear E25 Y11 F11
 have S26 : St w NoX [] w17 := S17.sel [] (by decide) V
 refine tk H16 (wp_seq_k fun K27 H27 => ?_)
 refine wp_seq_k fun K28 H28 => region_in ?_
 refine W_v V V (V_mov V (fg0 F25)) ?_
 refine W_v V V (V_eqPN V (et V) V Try.underlying134) ?_
 refine W_end (gen_Q fun A29 E29 => ?_)
 have Y29 := szq E29
 have F29 := fsE E29 (ck (cq1 F25 V) V V)
 clear E29 Y25 F25
 refine tk H28 ?_
 refine cond_f (fg0 F29) ?_
 refine wp_skip ?_
 refine tk H27 (wp_seq_k fun K30 H30 => ?_)
 refine region_monoS 13 13 [] (by kernel_rfl) (by kernel_rfl) ?_
 refine D_v V V (V_mov V (fg1 F29)) V V ?_
 refine D_v V V (V_nil V (et V)) V V ?_
 refine D_v V V (V_fa (off' := O_17 + ((rg rs a - 1).toNat) * 2 + 0) V (et V) Try.underlying68 V (by decide +kernel) V) V V ?_
 have fn31 : Ro w NoX (il .i64 y_17.1.1 y_17.1.2) := nst_ro1 n_ov hy_17
 have bfn31 := SlN.le (sl_SlN (S26.ro fn31))
 have fn32 : Ro w NoX (il .u64 y_17.2.1 y_17.2.2) := nst_ro2 n_ov hy_17
 have bfn32 := SlN.le (sl_SlN (S26.ro fn32))
 refine D_r V V (by kernel_rfl) (fun sx hx hF => (VR_ldC (v := y_17.1.1) V (et V) (SlN.row obC_len (sl_SlN ((S26.grow hx).ro h_ov)) hv_17 hy_17 V 0 _ V) Try.underlying25 V)) V V ?_
 refine D_v V V (V_lenS V (et V) (sl_SlN fn31.at) Try.underlying25) V V ?_
 refine D_v V V (V_mov V (es5 V (fg1 F29))) V V ?_
 refine D_v V V (V_nil V (et V)) V V ?_
 refine D_v V V (V_fa (off' := O_17 + ((rg rs a - 1).toNat) * 2 + 1) V (et V) Try.underlying68 V (by decide +kernel) V) V V ?_
 refine D_r V V (by kernel_rfl) (fun sx hx hF => (VR_ldC (v := y_17.2.1) V (et V) (SlN.row obC_len (sl_SlN ((S26.grow hx).ro h_ov)) hv_17 hy_17 V 1 _ V) Try.underlying66 V)) V V ?_
 refine D_v V V (V_lenS V (et V) (sl_SlN fn32.at) Try.underlying66) V V ?_
 refine D_v V V (V_asg V (es5 V (et V))) V V ?_
 refine D_v V V (V_asg V (es V (et V))) V V ?_
 refine D_v V V (V_asg V V) V V ?_
 refine ZS_none S26 (Nat.le_refl _) (Nat.le_refl _) (fun s33 hJ33 hL33 hF33 => ?_)
 have S33 := hJ33.st; clear hF33 hJ33 hL33
 generalize s33.1 = w33 at *
 replace S33 : St w NoX [] w33 := S33
 refine gen_Q (fun A34 E34 => ?_)
 have Y34 := szq E34
 have F34 := fsE E34 (ck (ck (ck (cq2 (cq8 F29 V) V) V V) V V) V V)
 clear E34 Y29 F29
 refine tk H30 (wp_ret ?_)
 refine ret_in (results_3 Try.results57 (rv_tmp (fg2 F34)) (rv_tmp (fg1 F34)) (rv_tmp (fg0 F34))) F34.d ?_
 have h := sh_ok hcd hz_17 (ob_at hy_17)
 rw [h.1, h.2.1, h.2.2]
 exact ⟨rfl, S33.fin0⟩

set_option maxHeartbeats 4000000 in
theorem kAl_c {ov : Value} {O : List Ob} {rv : Value} {rs : List Int} {a : Int} {b : Int} {w : World} (h_ov : Ro w NoX (rl 2 obC ov O)) (n_ov : Ro w NoX (nst O)) (h_rv : Ro w NoX (il .i64 rv rs))  :
  Calls Try.prog 55 #[.agg #[ov, rv], .int .i64 a, .int .i64 b] w fun e w' => e = .returned (.tuple #[.bool (alB (O.map ab) rs a b), .int .i64 (ckd (O.map ab) rs [a, b])]) ∧ St w NoX [] w' := by
 refine calls_in 30 Try.func55 V V (by simp) (fun A0 Y0 hdf0 hargs => ?_)
 have l0_0 := hargs 0 (.agg #[ov, rv]) V
 have l1_0 := hargs 1 (.int .i64 a) V
 have l2_0 := hargs 2 (.int .i64 b) V
 clear hargs; replace Y0 : SzN A0 30 := ⟨Y0⟩
 have hS := St.nil w
 have bh_ov := SlN.le (sl_SlN h_ov.at)
 have bh_rv := SlN.le (sl_SlN h_rv.at)
 refine wp_seq_k fun K1 H1 => region_in ?_
 refine W_boxS (zs := #[ov, rv]) hS V V V l0_0 (by rfl) (fun g2 w2 c2 hc2 S2 => ?_)
 replace S2 : St w NoX [c2] w2 := S2
 refine W_v V V (V_asg V V) (W_v V V (V_asg V V) ?_)
 refine W_end (gen_Q fun A3 E3 => ?_)
 have Y3 := szq E3
 have F3 := ((fsE E3 (cq2 (ck (FS.n hdf0) V V) V)).c (lookE E3 1 (es3 V l1_0))).c (lookE E3 2 (es3 V l2_0))
 clear E3 Y0 hdf0 l0_0 l1_0 l2_0
 refine tk H1 (wp_seq_k fun K4 H4 => region_in ?_)
 refine W_r V V (VR_ldA V (fg2 F3) (S2.obj 0 V hc2) Try.underlying36 V (by kernel_rfl)) ?_
 refine W_v V V (V_mov V (es V (fg1 F3))) (W_v V V (V_mov V (es2 V (fg0 F3))) ?_)
 have hll5 : [a, b].length = 2 := rfl
 refine xsL (vs := [.int .i64 (a), .int .i64 (b)]) (xs := ([a, b].map (Value.int .i64))) 1 S2 V V V (parts2 (es V (et V)) (et V)) Try.underlying25 (fun g5 w5 c5 hc5 S5 => ?_)
 replace hc5 : c5 = io .i64 (.slice (some ⟨g5, 0, none⟩) 2 2) [a, b] := hc5
 replace S5 : St w NoX [c5, c2] w5 := S5
 refine W_call V V V Try.func38 (by kernel_rfl) V (args2 (es3 V (et V)) (et V)) (kcd_c (S5.roC h_ov) (S5.roC n_ov) (S5.roC h_rv) (S5.chC 0 V hc5).own ) ?_
 rintro _ w6 ⟨rfl, hP6⟩
 refine ⟨_, rfl, ?_⟩
 have S6 := S5.join hP6
 replace S6 : St w NoX [c5, c2] w6 := S6
 refine W_v V V (V_asg V (et V)) ?_
 refine W_end (gen_Q fun A7 E7 => ?_)
 have Y7 := szq E7
 have F7 := fsE E7 (ck (cq5 F3 V) V V)
 clear E7 Y3 F3
 have S8 : St w NoX [c2] w6 := S6.sel [1] (by decide) V
 refine tk H4 (wp_seq_k fun K9 H9 => ?_)
 refine region_monoS 18 18 [] (by kernel_rfl) (by kernel_rfl) ?_
 refine D_v V V (V_mov V (fg0 F7)) V V ?_
 refine D_v V V (V_eql V (et V) V) V V ?_
 refine D_split V V (V_mov V (et V)) V V (fun c10 => ?_) (fun c10 => ?_)
 ·have hcd : ckd (O.map ab) rs [a, b] = 0 := by simpa using c10
  have hG0 := (ckd_0.1 hcd).1
  have hG := hG0
  have hrg : ∀ p ∈ rs, 0 ≤ p ∧ p ≤ (O.length : Int) := fun p hp => by have q := hG0.reg p hp; rw [List.length_map] at q; exact q
  have ha := (ckd_0.1 hcd).2 a (by simp)
  have hb := (ckd_0.1 hcd).2 b (by simp)
  refine D_v V (xwt V V (et V)) (V_fa (off' := 1) V (es3 V (fg3 F7)) Try.underlying36 V (by decide +kernel) V) V V ?_
  refine D_r V (xwt V V (es V (et V))) (by kernel_rfl) (fun sx hx hF => (VR_ldC V (et V) (cell_box (v := rv) ((S8.grow hx).obj 0 V hc2) V) Try.underlying25 V)) V V ?_
  refine D_v V (xwt V V (es2 V (et V))) (V_mov V (es5 V (fg2 F7))) V V ?_
  have k11 : a.toNat < rs.length := by first | omega | (simp only [List.length_cons, List.length_nil]; omega) | (simp only [List.length_set]; omega) | decide
  obtain ⟨y11, hy11⟩ := get_some (xs := rs) (k := a.toNat) k11
  obtain ⟨B11, O11, C11, hv11⟩ := (SlN.blk (sl_SlN h_rv.at) (by first | omega | (simp only [List.length_cons, List.length_nil]; omega) | (simp only [List.length_set]; omega) | decide))
  refine D_v V (xwt V V (es3 V (et V))) (V_ixS (off := O11 + a.toNat) 1 (a.toNat) V (es V (et V)) (et V) hv11 (by omega) k11 Try.underlying25 (by kernel_rfl) (congrArg _ (Nat.mul_one _))) V V ?_
  refine D_r V (xwt V V (es4 V (et V))) (by kernel_rfl) (fun sx hx hF => (VR_ldC V (et V) ((sl_SlN ((S8.grow hx).ro h_rv)).cell hv11 (map_get hy11)) Try.underlying3 V)) V V ?_
  refine D_v V (xwt V V (es5 V (et V))) (V_fa (off' := 1) V (es8 V (fg3 F7)) Try.underlying36 V (by decide +kernel) V) V V ?_
  refine D_r V (xwt V V (es6 V (et V))) (by kernel_rfl) (fun sx hx hF => (VR_ldC V (et V) (cell_box (v := rv) ((S8.grow hx).obj 0 V hc2) V) Try.underlying25 V)) V V ?_
  refine D_v V (xwt V V (es7 V (et V))) (V_mov V (es8 V (es2 V (fg1 F7)))) V V ?_
  have k12 : b.toNat < rs.length := by first | omega | (simp only [List.length_cons, List.length_nil]; omega) | (simp only [List.length_set]; omega) | decide
  obtain ⟨y12, hy12⟩ := get_some (xs := rs) (k := b.toNat) k12
  refine D_v V (xwt V V (es8 V (et V))) (V_ixS (off := O11 + b.toNat) 1 (b.toNat) V (es V (et V)) (et V) hv11 (by omega) k12 Try.underlying25 (by kernel_rfl) (congrArg _ (Nat.mul_one _))) V V ?_
  refine D_r V (xwt V V (es8 V (es V (et V)))) (by kernel_rfl) (fun sx hx hF => (VR_ldC V (et V) ((sl_SlN ((S8.grow hx).ro h_rv)).cell hv11 (map_get hy12)) Try.underlying3 V)) V V ?_
  refine D_v V (xwt V V (es8 V (es2 V (et V)))) (V_eql V (es5 V (et V)) (et V)) V V ?_
  refine D_v V V (V_pickT V (es8 V (es3 V (et V))) (et V)) V V ?_
  refine D_v V V (V_mov V (es8 V (es7 V (fg0 F7)))) V V ?_
  refine D_v V V (V_asg V (es V (et V))) V V ?_
  refine D_v V V (V_asg V (es V (et V))) V V ?_
  refine ZS_none S8 (Nat.le_refl _) (Nat.le_refl _) (fun s13 hJ13 hL13 hF13 => ?_)
  have S13 := hJ13.st; clear hF13 hJ13 hL13
  generalize s13.1 = w13 at *
  replace S13 : St w NoX [c2] w13 := S13
  refine gen_Q (fun A14 E14 => ?_)
  have Y14 := szq E14
  have F14 := fsE E14 (ck (ck (cq8 (cq8 F7 V) V) V V) V V)
  clear E14 Y7 F7
  have S15 : St w NoX [] w13 := S13.sel [] (by decide) V
  refine tk H9 (wp_ret ?_)
  refine ret_in (results_2 Try.results55 (rv_tmp (fg1 F14)) (rv_tmp (fg0 F14))) F14.d ?_
  have h := al_ok hcd hy11 hy12
  rw [h]
  exact ⟨rfl, S15.fin0⟩
 refine D_off V (wanted_f V V (et V) (ez V) V) V ?_
 refine D_off V (wanted_f V V (es V (et V)) (ez V) V) V ?_
 refine D_off V (wanted_f V V (es2 V (et V)) (ez V) V) V ?_
 refine D_off V (wanted_f V V (es3 V (et V)) (ez V) V) V ?_
 refine D_off V (wanted_f V V (es4 V (et V)) (ez V) V) V ?_
 refine D_off V (wanted_f V V (es5 V (et V)) (ez V) V) V ?_
 refine D_off V (wanted_f V V (es6 V (et V)) (ez V) V) V ?_
 refine D_off V (wanted_f V V (es7 V (et V)) (ez V) V) V ?_
 refine D_off V (wanted_f V V (es8 V (et V)) (ez V) V) V ?_
 refine D_off V (wanted_f V V (es8 V (es V (et V))) (ez V) V) V ?_
 refine D_off V (wanted_f V V (es8 V (es2 V (et V))) (ez V) V) V ?_
 refine D_v V V (V_pickF V (es8 V (es3 V (et V))) V) V V ?_
 refine D_v V V (V_mov V (es8 V (es7 V (fg0 F7)))) V V ?_
 refine D_v V V (V_asg V (es V (et V))) V V ?_
 refine D_v V V (V_asg V (es V (et V))) V V ?_
 refine ZS_none S8 (Nat.le_refl _) (Nat.le_refl _) (fun s16 hJ16 hL16 hF16 => ?_)
 have S16 := hJ16.st; clear hF16 hJ16 hL16
 generalize s16.1 = w16 at *
 replace S16 : St w NoX [c2] w16 := S16
 refine gen_Q (fun A17 E17 => ?_)
 have Y17 := szq E17
 have F17 := fsE E17 (ck (ck (cq8 (cq8 F7 V) V) V V) V V)
 clear E17 Y7 F7
 have S18 : St w NoX [] w16 := S16.sel [] (by decide) V
 refine tk H9 (wp_ret ?_)
 refine ret_in (results_2 Try.results55 (rv_tmp (fg1 F17)) (rv_tmp (fg0 F17))) F17.d ?_
 have h := al_err (O := (O.map ab)) (rs := rs) (a := a) (b := b) c10
 rw [h]
 exact ⟨rfl, S18.fin0⟩

end Go.Proofs.Ytpgkfndbfocibaa