import Derived.Test.YtpgkfndbfocibaaProg
import Derived.Test.YtpgkfndbfocibaaPl29
import Derived.Test.YtpgkfndbfocibaaPl15c
import Derived.Test.YtpgkfndbfocibaaSepE
import Derived.Test.YtpgkfndbfocibaaSepU
import Derived.Test.YtpgkfndbfocibaaSepX
import Derived.Test.YtpgkfndbfocibaaSepT2
import Derived.Test.YtpgkfndbfocibaaPl29b
import Derived.Test.YtpgkfndbfocibaaPl29c
namespace Go.Proofs.Ytpgkfndbfocibaa
open Go.RowKit Go.Own Go.Own.R Go.Own.G Go.Own.Gr Go.Own.Ml


set_option maxHeartbeats 4000000 in
theorem qpln_c {b : Int} {w : World}   :
  Calls Try.prog 94 #[.int .u8 b] w fun e w' => e = .returned (.bool (decide (32 ≤ b ∧ b ≤ 126 ∧ b ≠ 34 ∧ b ≠ 92))) ∧ St w NoX [] w' := by
 refine calls_in 17 Try.func94 V V (by simp) (fun A0 Y0 hdf0 hargs => ?_)
 have l0_0 := hargs 0 (.int .u8 b) V
 clear hargs; replace Y0 : SzN A0 17 := ⟨Y0⟩
 have hS := St.nil w
 refine wp_seq_k fun K1 H1 => region_in ?_
 refine W_v V V (V_asg V V) ?_
 refine W_end (gen_Q fun A2 E2 => ?_)
 have Y2 := szq E2
 have F2 := (fsE E2 (cq1 (FS.n hdf0) V)).c (lookE E2 0 (es V l0_0))
 clear E2 Y0 hdf0 l0_0
 refine tk H1 (wp_seq_k fun K3 H3 => region_in ?_)
 refine W_v V V (V_mov V (fg0 F2)) ?_
 refine W_v V V (V_geq V (et V) V) ?_
 refine W_split V V (V_mov V (et V)) (fun c4 => ?_) (fun c4 => ?_)
 ·refine W_v V (xwt V V (et V)) (V_mov V (es3 V (fg0 F2))) ?_
  refine W_v V (xwt V V (es V (et V))) (V_leq V (et V) V) ?_
  refine W_v V V (V_pickT V (es2 V (et V)) (et V)) ?_
  refine W_split V V (V_mov V (et V)) (fun c5 => ?_) (fun c5 => ?_)
  ·refine W_v V (xwt V V (et V)) (V_mov V (es7 V (fg0 F2))) ?_
   refine W_v V (xwt V V (es V (et V))) (V_neq V (et V) V) ?_
   refine W_v V V (V_pickT V (es2 V (et V)) (et V)) ?_
   refine W_split V V (V_mov V (et V)) (fun c6 => ?_) (fun c6 => ?_)
   ·refine W_v V (xwt V V (et V)) (V_mov V (es8 V (es3 V (fg0 F2)))) ?_
    refine W_v V (xwt V V (es V (et V))) (V_neq V (et V) V) ?_
    refine W_v V V (V_pickT V (es2 V (et V)) (et V)) ?_
    refine W_v V V (V_asg V (et V)) ?_
    refine W_end (gen_Q fun A7 E7 => ?_)
    have Y7 := szq E7
    have F7 := fsE E7 (ck (cq6 (cq8 F2 V) V) V V)
    clear E7 Y2 F2
    refine tk H3 (wp_ret ?_)
    refine ret_in (results_1 Try.results94 (rv_tmp (fg0 F7))) F7.d ?_
    rw [show (decide (32 ≤ b ∧ b ≤ 126 ∧ b ≠ 34 ∧ b ≠ 92)) = decide (b ≠ 92) by exact decide_eq_decide.2 (by omega)]
    exact ⟨rfl, hS.fin0⟩
   refine xof V V V (et V) (xof V V V (es V (et V)) ?_)
   refine W_v V V (V_pickF V (es2 V (et V)) V) ?_
   refine W_v V V (V_asg V (et V)) ?_
   refine W_end (gen_Q fun A8 E8 => ?_)
   have Y8 := szq E8
   have F8 := fsE E8 (ck (cq6 (cq8 F2 V) V) V V)
   clear E8 Y2 F2
   refine tk H3 (wp_ret ?_)
   refine ret_in (results_1 Try.results94 (rv_tmp (fg0 F8))) F8.d ?_
   rw [show (decide (32 ≤ b ∧ b ≤ 126 ∧ b ≠ 34 ∧ b ≠ 92)) = false by exact decide_eq_false (by omega)]
   exact ⟨rfl, hS.fin0⟩
  refine xof V V V (et V) (xof V V V (es V (et V)) ?_)
  refine W_v V V (V_pickF V (es2 V (et V)) V) ?_
  refine W_v V V (V_mov V (et V)) (xof V V V (et V) (xof V V V (es V (et V)) ?_))
  refine W_v V V (V_pickF V (es2 V (et V)) V) ?_
  refine W_v V V (V_asg V (et V)) ?_
  refine W_end (gen_Q fun A9 E9 => ?_)
  have Y9 := szq E9
  have F9 := fsE E9 (ck (cq6 (cq8 F2 V) V) V V)
  clear E9 Y2 F2
  refine tk H3 (wp_ret ?_)
  refine ret_in (results_1 Try.results94 (rv_tmp (fg0 F9))) F9.d ?_
  rw [show (decide (32 ≤ b ∧ b ≤ 126 ∧ b ≠ 34 ∧ b ≠ 92)) = false by exact decide_eq_false (by omega)]
  exact ⟨rfl, hS.fin0⟩
 refine xof V V V (et V) (xof V V V (es V (et V)) ?_)
 refine W_v V V (V_pickF V (es2 V (et V)) V) ?_
 refine W_v V V (V_mov V (et V)) (xof V V V (et V) (xof V V V (es V (et V)) ?_))
 refine W_v V V (V_pickF V (es2 V (et V)) V) ?_
 refine W_v V V (V_mov V (et V)) (xof V V V (et V) (xof V V V (es V (et V)) ?_))
 refine W_v V V (V_pickF V (es2 V (et V)) V) ?_
 refine W_v V V (V_asg V (et V)) ?_
 refine W_end (gen_Q fun A10 E10 => ?_)
 have Y10 := szq E10
 have F10 := fsE E10 (ck (cq6 (cq8 F2 V) V) V V)
 clear E10 Y2 F2
 refine tk H3 (wp_ret ?_)
 refine ret_in (results_1 Try.results94 (rv_tmp (fg0 F10))) F10.d ?_
 rw [show (decide (32 ≤ b ∧ b ≤ 126 ∧ b ≠ 34 ∧ b ≠ 92)) = false by exact decide_eq_false (by omega)]
 exact ⟨rfl, hS.fin0⟩

set_option maxHeartbeats 4000000 in
theorem qbar_c {l : List UInt8} {w : World}  (hll : l.length ≤ 1048576) :
  Calls Try.prog 84 #[(stv l)] w fun e w' => e = .returned (.bool (barB l)) ∧ St w NoX [] w' := by
 refine calls_in 24 Try.func84 V V (by simp) (fun A0 Y0 hdf0 hargs => ?_)
 have l0_0 := hargs 0 ((stv l)) V
 clear hargs; replace Y0 : SzN A0 24 := ⟨Y0⟩
 have hS := St.nil w
 refine wp_seq_k fun K1 H1 => region_in ?_
 refine W_v V V (V_asg V V) ?_
 refine W_end (gen_Q fun A2 E2 => ?_)
 have Y2 := szq E2
 have F2 := (fsE E2 (cq1 (FS.n hdf0) V)).c (lookE E2 0 (es V l0_0))
 clear E2 Y0 hdf0 l0_0
 refine tk H1 (wp_seq_k fun K3 H3 => ?_)
 refine wp_seq_k fun K4 H4 => region_in ?_
 refine W_v V V (V_asg V V) ?_
 refine W_end (gen_Q fun A5 E5 => ?_)
 have Y5 := szq E5
 have F5 := fsE E5 (ck F2 V V)
 clear E5 Y2 F2
 refine tk H4 (wp_block ?_)
 -- loop 2
 refine loopX (fun mz A' w' => SzN A' 24 ∧ A'.defers = [] ∧ (∃ (k : Nat), (mz = l.length - k) ∧ (k ≤ l.length) ∧ (∀ i, i < k → ∀ b, l[i]? = some b → okB b) ∧ (EV A' (.tmp 3) = .int .i64 (k : Int)) ∧ (EV A' (.tmp 0) = EV A5 (.tmp 0)) ∧ (St w NoX [] w'))) (l.length - 0) ⟨Y5, F5.d, 0, rfl, (by omega), (fun i hi => by omega), (((fg0 F5)).trans (by first | rfl | (simp; done) | (congr 1; omega))), rfl, hS⟩ ?_
 clear hS
 rintro n6 A6 w6 ⟨Y6, hdf6, k, hm6, hk, hz, l3_6, u0_6, S6⟩
 have l0_6 := u0_6.trans (fg1 F5)
 refine wp_seq_k fun K7 H7 => ?_
 refine wp_seq_k fun K8 H8 => region_in ?_
 refine W_v V V (V_mov V l3_6) (W_v V V (V_mov V (es V l0_6)) ?_)
 refine W_v V V (V_lenT V (et V) Try.underlying9) ?_
 refine W_v V V (V_lss V (es2 V (et V)) (et V)) ?_
 refine W_end (gen_Q fun A9 E9 => ?_)
 have Y9 := szq E9
 have F9 := ((fsE E9 (ck (cq3 (FS.n hdf6) V) V V)).c (lookE E9 0 (es4 V l0_6))).c (lookE E9 3 (es4 V l3_6))
 clear E9 Y6 hdf6 l3_6 l0_6
 refine tk H8 ?_
 refine cond_dec (fg2 F9) (fun c10 => ?_) (fun c10 => ?_)
 ·refine wp_skip ?_
  refine tk H7 (wp_seq_k fun K11 H11 => ?_)
  refine wp_block ?_
  refine wp_seq_k fun K12 H12 => region_in ?_
  refine W_v V V (V_mov V (fg1 F9)) (W_v V V (V_mov V (es V (fg0 F9))) ?_)
  have k13 : k < l.length := by first | omega | (simp only [List.length_cons, List.length_nil]; omega) | decide
  obtain ⟨y13, hy13⟩ := get_some (xs := l) (k := k) k13
  have hu13 := y13.toNat_lt
  refine W_v V V (V_idxT V (es V (et V)) (et V) (by omega) hy13 Try.underlying9) ?_
  refine W_call V V V Try.func94 (by kernel_rfl) V (args1 (et V)) (qpln_c (b := (y13.toNat : Int))  ) ?_
  rintro _ w14 ⟨rfl, hP14⟩
  refine ⟨_, rfl, ?_⟩
  have S14 := S6.join hP14
  replace S14 : St w NoX [] w14 := S14
  refine W_v V V (V_notd V (et V)) ?_
  refine W_split V V (V_mov V (et V)) (fun c15 => ?_) (fun c15 => ?_)
  ·refine xof V V V (et V) (xof V V V (es V (et V)) (xof V V V (es2 V (et V)) (xof V V V (es3 V (et V)) ?_)))
   refine W_v V V (V_pickT V (es4 V (et V)) V) ?_
   refine W_end (gen_Q fun A16 E16 => ?_)
   have Y16 := szq E16
   have F16 := fsE E16 (ck (ck (ck (ck (ck (cq6 F9 V) V V) V V) V V) V V) V V)
   clear E16 Y9 F9
   refine tk H12 ?_
   refine cond_t (fg0 F16) ?_
   refine wp_seq_k fun K17 H17 => region_in ?_
   refine W_v V V (V_asg V V) ?_
   refine W_end (gen_Q fun A18 E18 => ?_)
   have Y18 := szq E18
   have F18 := fsE E18 (ck F16 V V)
   clear E18 Y16 F16
   refine tk H17 (wp_ret (inb_ret (then_ret (then_ret (inb_ret (then_ret ?_))))))
   refine ret_in (results_1 Try.results84 (rv_tmp (fg0 F18))) F18.d ?_
   rw [show barB l = false from bar_no hy13 (by unfold okB; omega)]
   exact ⟨rfl, S14.fin0⟩
  refine W_v V (xwt V V (et V)) (V_mov V (es6 V (fg1 F9))) ?_
  refine W_v V (xwt V V (es V (et V))) (V_mov V (es7 V (fg0 F9))) ?_
  refine W_v V (xwt V V (es2 V (et V))) (V_idxT V (es V (et V)) (et V) (by omega) hy13 Try.underlying9) ?_
  refine W_v V (xwt V V (es3 V (et V))) (V_eql V (et V) V) ?_
  refine W_v V V (V_pickF V (es4 V (et V)) (et V)) ?_
  refine W_end (gen_Q fun A20 E20 => ?_)
  have Y20 := szq E20
  have F20 := fsE E20 (ck (ck (ck (ck (ck (cq6 F9 V) V V) V V) V V) V V) V V)
  clear E20 Y9 F9
  refine tk H12 ?_
  refine cond_dec (fg0 F20) (fun c21 => ?_) (fun c21 => ?_)
  ·refine wp_seq_k fun K22 H22 => region_in ?_
   refine W_v V V (V_asg V V) ?_
   refine W_end (gen_Q fun A23 E23 => ?_)
   have Y23 := szq E23
   have F23 := fsE E23 (ck F20 V V)
   clear E23 Y20 F20
   refine tk H22 (wp_ret (inb_ret (then_ret (then_ret (inb_ret (then_ret ?_))))))
   refine ret_in (results_1 Try.results84 (rv_tmp (fg0 F23))) F23.d ?_
   rw [show barB l = false from bar_no hy13 (by unfold okB; omega)]
   exact ⟨rfl, S14.fin0⟩
  refine wp_skip (inb_n (tk H11 ?_))
  refine region_in ?_
  refine W_v V V (V_mov V (fg5 F20)) ?_
  refine W_v V V (V_add V (et V) V (by omega) (by omega)) ?_
  refine W_v V V (V_asg V (et V)) ?_
  refine W_end (gen_Q fun A24 E24 => ?_)
  have Y24 := szq E24
  have F24 := fsE E24 (ck (cq2 (fx5 F20) V) V V)
  clear E24 Y20 F20
  refine then_n ⟨l.length - (k + 1), by simp only [hm6]; omega, Y24, F24.d, (k + 1), rfl, (by omega), (bar_step hz hy13 (by unfold okB; omega)), (((fg0 F24)).trans (by first | rfl | (simp; done) | (congr 1; omega))), (((fg6 F24)).trans (fg1 F5).symm), S14⟩
 refine wp_exit (then_exit (then_exit ?_))
 refine inb_hit ?_
 refine tk H3 (wp_seq_k fun K25 H25 => region_in ?_)
 refine W_v V V (V_mov V (fg1 F9)) ?_
 refine W_v V V (V_lenT V (et V) Try.underlying9) ?_
 refine W_v V V (V_gtr V (et V) V) ?_
 refine W_v V V (V_asg V (et V)) ?_
 refine W_end (gen_Q fun A26 E26 => ?_)
 have Y26 := szq E26
 have F26 := fsE E26 (ck (cq3 F9 V) V V)
 clear E26 Y9 F9
 refine tk H25 (wp_ret ?_)
 refine ret_in (results_1 Try.results84 (rv_tmp (fg0 F26))) F26.d ?_
 rw [show barB l = decide (0 < (l.length : Int)) from bar_end hz (by omega)]
 exact ⟨rfl, S6.fin0⟩

set_option maxHeartbeats 4000000 in
theorem qlns_c {l : List UInt8} {w : World}  (hll : 0 < l.length ∧ l.length ≤ 5000) (hlt : l.getD (l.length - 1) 0 = 10) :
  Calls Try.prog 58 #[(stv l)] w fun e w' => ∃ v, e = .returned (.tuple #[v, .int .i64 0]) ∧ St w NoX [ro 1 strC v (lnK l l.length)] w' := by
 have hsl := fun k => st_le (l := l) k
 have hnl := fun k => lnK_len (l := l) k
 refine calls_in 41 Try.func58 V V (by simp) (fun A0 Y0 hdf0 hargs => ?_)
 have l0_0 := hargs 0 ((stv l)) V
 clear hargs; replace Y0 : SzN A0 41 := ⟨Y0⟩
 have hS := St.nil w
 refine wp_seq_k fun K1 H1 => region_in ?_
 refine W_v V V (V_asg V V) (W_v V V (V_asg V V) ?_)
 refine W_end (gen_Q fun A2 E2 => ?_)
 have Y2 := szq E2
 have F2 := (fsE E2 (cq2 (FS.n hdf0) V)).c (lookE E2 0 (es2 V l0_0))
 clear E2 Y0 hdf0 l0_0
 refine tk H1 (wp_seq_k fun K3 H3 => ?_)
 refine wp_seq_k fun K4 H4 => region_in ?_
 refine W_v V V (V_mov V (fg0 F2)) ?_
 refine W_v V V (V_lenT V (et V) Try.underlying9) ?_
 refine W_v V V (V_gtr V (et V) V) ?_
 refine W_end (gen_Q fun A5 E5 => ?_)
 have Y5 := szq E5
 have F5 := fsE E5 (ck (cq2 F2 V) V V)
 clear E5 Y2 F2
 refine tk H4 ?_
 refine cond_not (fg0 F5) (by rw [decide_eq_false_iff_not]; omega) ?_
 refine wp_skip ?_
 refine tk H3 (wp_seq_k fun K6 H6 => ?_)
 refine wp_seq_k fun K7 H7 => region_in ?_
 refine W_v V V (V_mov V (fg1 F5)) ?_
 refine W_v V V (V_eqlT V (et V) V) ?_
 refine W_end (gen_Q fun A8 E8 => ?_)
 have Y8 := szq E8
 have F8 := fsE E8 (ck (cq1 F5 V) V V)
 clear E8 Y5 F5
 refine tk H7 ?_
 refine cond_not (fg0 F8) (by rw [decide_eq_false_iff_not]; intro q; subst q; simp at hll) ?_
 refine wp_skip ?_
 refine tk H6 (wp_seq_k fun K9 H9 => ?_)
 refine wp_seq_k fun K10 H10 => region_in ?_
 refine W_v V V (V_mov V (fg2 F8)) (W_v V V (V_mov V (es V (fg2 F8))) ?_)
 refine W_v V V (V_lenT V (et V) Try.underlying9) ?_
 refine W_v V V (V_sb V (et V) V (by omega) (by omega)) ?_
 have k11 : (l.length - 1) < l.length := by first | omega | (simp only [List.length_cons, List.length_nil]; omega) | decide
 obtain ⟨y11, hy11⟩ := get_some (xs := l) (k := (l.length - 1)) k11
 have hu11 := y11.toNat_lt
 refine W_v V V (V_idxT V (es3 V (et V)) (et V) (by omega) hy11 Try.underlying9) ?_
 refine W_v V V (V_neq V (et V) V) ?_
 refine W_end (gen_Q fun A12 E12 => ?_)
 have Y12 := szq E12
 have F12 := fsE E12 (ck (cq5 F8 V) V V)
 clear E12 Y8 F8
 refine tk H10 ?_
 refine cond_not (fg0 F12) (by rw [decide_eq_false_iff_not]; have h := gD8 hy11; rw [hlt] at h; subst h; simp) ?_
 refine wp_skip ?_
 refine tk H9 (wp_seq_k fun K13 H13 => region_in ?_)
 refine W_v V V (V_asg V V) ?_
 refine W_end (gen_Q fun A14 E14 => ?_)
 have Y14 := szq E14
 have F14 := fsE E14 (ck F12 V V)
 clear E14 Y12 F12
 refine tk H13 (wp_seq_k fun K15 H15 => region_in ?_)
 refine W_v V V (V_asg V V) ?_
 refine W_end (gen_Q fun A16 E16 => ?_)
 have Y16 := szq E16
 have F16 := fsE E16 (ck F14 V V)
 clear E16 Y14 F14
 refine tk H15 (wp_seq_k fun K17 H17 => ?_)
 refine wp_seq_k fun K18 H18 => region_in ?_
 refine W_v V V (V_asg V V) ?_
 refine W_end (gen_Q fun A19 E19 => ?_)
 have Y19 := szq E19
 have F19 := fsE E19 (ck F16 V V)
 clear E19 Y16 F16
 refine tk H18 (wp_block ?_)
 obtain ⟨c20, hc20, S20⟩ := hS.pnil (s := 1)
 -- loop 10
 refine loopX (fun mz A' w' => SzN A' 41 ∧ A'.defers = [] ∧ (∃ (k : Nat) (bv : Value), (mz = l.length - k) ∧ (k ≤ l.length) ∧ (EV A' (.tmp 6) = .int .i64 (k : Int)) ∧ (EV A' (.tmp 5) = .int .i64 ((stK l k : Nat) : Int)) ∧ (EV A' (.tmp 4) = bv) ∧ (EV A' (.tmp 0) = EV A19 (.tmp 0)) ∧ (St w NoX [ro 1 strC bv (lnK l k)] w'))) (l.length - 0) ⟨Y19, F19.d, 0, (.slice none 0 0), rfl, (by omega), (((fg0 F19)).trans (by first | rfl | (simp; done) | (congr 1; omega))), (((fg1 F19)).trans (by first | rfl | (simp; done) | (congr 1; omega))), (((fg2 F19)).trans (by first | rfl | (simp; done) | (congr 1; omega))), rfl, (by have q0 : c20 = ro 1 strC (.slice none 0 0) (lnK l 0) := hc20.trans (rfl); subst q0; exact S20)⟩ ?_
 clear S20 hc20
 rintro n21 A21 w21 ⟨Y21, hdf21, k, bv, hm21, hk, l6_21, l5_21, l4_21, u0_21, S21⟩
 have l0_21 := u0_21.trans (fg6 F19)
 obtain ⟨c20_21, hc20_21, S21⟩ := gen1 S21
 refine wp_seq_k fun K22 H22 => ?_
 refine wp_seq_k fun K23 H23 => region_in ?_
 refine W_v V V (V_mov V l6_21) (W_v V V (V_mov V (es V l0_21)) ?_)
 refine W_v V V (V_lenT V (et V) Try.underlying9) ?_
 refine W_v V V (V_lss V (es2 V (et V)) (et V)) ?_
 refine W_end (gen_Q fun A24 E24 => ?_)
 have Y24 := szq E24
 have F24 := ((((fsE E24 (ck (cq3 (FS.n hdf21) V) V V)).c (lookE E24 0 (es4 V l0_21))).c (lookE E24 4 (es4 V l4_21))).c (lookE E24 5 (es4 V l5_21))).c (lookE E24 6 (es4 V l6_21))
 clear E24 Y21 hdf21 l6_21 l5_21 l4_21 l0_21
 refine tk H23 ?_
 refine cond_dec (fg4 F24) (fun c25 => ?_) (fun c25 => ?_)
 ·refine wp_skip ?_
  refine tk H22 (wp_seq_k fun K26 H26 => ?_)
  refine wp_block ?_
  refine wp_seq_k fun K27 H27 => region_in ?_
  refine W_v V V (V_mov V (fg3 F24)) (W_v V V (V_mov V (es V (fg0 F24))) ?_)
  have k28 : k < l.length := by first | omega | (simp only [List.length_cons, List.length_nil]; omega) | decide
  obtain ⟨y28, hy28⟩ := get_some (xs := l) (k := k) k28
  have hu28 := y28.toNat_lt
  have hsk28 := st_le (l := l) k
  have hnk28 := lnK_len (l := l) k
  refine W_v V V (V_idxT V (es V (et V)) (et V) (by omega) hy28 Try.underlying9) ?_
  refine W_v V V (V_eql V (et V) V) ?_
  refine W_end (gen_Q fun A29 E29 => ?_)
  have Y29 := szq E29
  have F29 := fsE E29 (ck (cq3 F24 V) V V)
  clear E29 Y24 F24
  refine tk H27 ?_
  refine cond_dec (fg0 F29) (fun c30 => ?_) (fun c30 => ?_)
  ·refine wp_seq_k fun K31 H31 => region_in ?_
   refine W_v V V (V_mov V (fg3 F29)) (W_v V V (V_mov V (es V (fg4 F29))) (W_v V V (V_mov V (es2 V (fg2 F29))) (W_v V V (V_mov V (es3 V (fg1 F29))) ?_)))
   refine W_v V V (V_sliceT (a := (stK l k)) (b := k) V (es2 V (et V)) (es V (et V)) (et V) (by omega) (by omega) (by omega) (by omega) Try.underlying9) ?_
   have hll33 : [((l.take k).drop (stK l k))].length = 1 := rfl
   refine xsL (vs := [(stv ((l.take k).drop (stK l k)))]) (xs := ([((l.take k).drop (stK l k))].flatMap strC)) 1 S21 V V V (parts1 (et V)) Try.underlying116 (fun g33 w33 c33 hc33 S33 => ?_)
   replace hc33 : c33 = ro 1 strC (.slice (some ⟨g33, 0, none⟩) 1 1) [((l.take k).drop (stK l k))] := hc33
   replace S33 : St w NoX [c33, c20_21] w33 := S33
   refine W_appS 1 1 S33 V hc20_21 V V V (es5 V (et V)) (et V) Try.underlying116 Try.underlying116 (z := .string ByteArray.empty) (bytes := 16) (by kernel_rfl) V (by decide) (ow_at (S33.chq 0 V hc33)) (ones_r strC_one) (by first | omega | (simp; done) | (simp; omega)) (by first | omega | (simp; done) | (simp; omega)) (fun v34 w34 c34 hc34 S34 => ?_)
   replace hc34 : c34 = ro 1 strC v34 ((lnK l k) ++ [((l.take k).drop (stK l k))]) := hc34.trans (app_eqR (by first | (simp; done) | (rw [List.take_of_length_le (l := List.drop _ _) (by rw [List.length_drop]; exact Nat.le_refl _)])))
   replace S34 : St w NoX [c33, c34] w34 := S34
   refine W_v V V (V_asg V (et V)) ?_
   refine W_end (gen_Q fun A35 E35 => ?_)
   have Y35 := szq E35
   have F35 := fsE E35 (ck (cq7 (fx3 F29) V) V V)
   clear E35 Y29 F29
   have S36 : St w NoX [c34] w34 := S34.sel [1] (by decide) V
   refine tk H31 ?_
   refine region_in ?_
   refine W_v V V (V_mov V (fg2 F35)) ?_
   refine W_v V V (V_add V (et V) V (by omega) (by omega)) ?_
   refine W_v V V (V_asg V (et V)) ?_
   refine W_end (gen_Q fun A37 E37 => ?_)
   have Y37 := szq E37
   have F37 := fsE E37 (ck (cq2 (fx3 F35) V) V V)
   clear E37 Y35 F35
   refine inb_n (tk H26 ?_)
   refine region_in ?_
   refine W_v V V (V_mov V (fg3 F37)) ?_
   refine W_v V V (V_add V (et V) V (by omega) (by omega)) ?_
   refine W_v V V (V_asg V (et V)) ?_
   refine W_end (gen_Q fun A38 E38 => ?_)
   have Y38 := szq E38
   have F38 := fsE E38 (ck (cq2 (fx3 F37) V) V V)
   clear E38 Y37 F37
   refine then_n ⟨l.length - (k + 1), by simp only [hm21]; omega, Y38, F38.d, (k + 1), v34, rfl, (by omega), (((fg0 F38)).trans (by first | rfl | (simp; done) | (congr 1; omega))), (((fg1 F38)).trans ((by rw [(ln_T hy28 (by omega)).2] <;> rfl))), (((fg2 F38)).trans (by first | rfl | (simp; done) | (congr 1; omega))), (((fg4 F38)).trans (fg6 F19).symm), (by have q0 : c34 = ro 1 strC v34 (lnK l (k + 1)) := hc34.trans ((congrArg (ro 1 strC _) (ln_T hy28 (by omega)).1)); subst q0; exact S36)⟩
  refine wp_skip (inb_n (tk H26 ?_))
  refine region_in ?_
  refine W_v V V (V_mov V (fg1 F29)) ?_
  refine W_v V V (V_add V (et V) V (by omega) (by omega)) ?_
  refine W_v V V (V_asg V (et V)) ?_
  refine W_end (gen_Q fun A39 E39 => ?_)
  have Y39 := szq E39
  have F39 := fsE E39 (ck (cq2 (fx1 F29) V) V V)
  clear E39 Y29 F29
  refine then_n ⟨l.length - (k + 1), by simp only [hm21]; omega, Y39, F39.d, (k + 1), bv, rfl, (by omega), (((fg0 F39)).trans (by first | rfl | (simp; done) | (congr 1; omega))), (((fg2 F39)).trans ((by rw [(ln_F hy28 (by omega)).2] <;> rfl))), (((fg3 F39)).trans (by first | rfl | (simp; done) | (congr 1; omega))), (((fg4 F39)).trans (fg6 F19).symm), (by have q0 : c20_21 = ro 1 strC bv (lnK l (k + 1)) := hc20_21.trans ((congrArg (ro 1 strC _) (ln_F hy28 (by omega)).1)); subst q0; exact S21)⟩
 refine wp_exit (then_exit (then_exit ?_))
 refine inb_hit ?_
 refine tk H17 (wp_seq_k fun K40 H40 => ?_)
 refine wp_seq_k fun K41 H41 => region_in ?_
 refine W_v V V (V_mov V (fg2 F24)) ?_
 refine W_v V V (V_lenS V (et V) (ow_at (S21.chq 0 V hc20_21)) Try.underlying116) ?_
 refine W_v V V (V_gtr V (et V) V) ?_
 refine W_end (gen_Q fun A42 E42 => ?_)
 have Y42 := szq E42
 have F42 := fsE E42 (ck (cq2 F24 V) V V)
 clear E42 Y24 F24
 refine tk H41 ?_
 refine cond_not (fg0 F42) (by rw [decide_eq_false_iff_not]; have := hnl k; omega) ?_
 refine wp_skip ?_
 refine tk H40 (wp_seq_k fun K43 H43 => region_in ?_)
 refine W_v V V (V_mov V (fg3 F42)) (W_v V V (V_asg V (et V)) (W_v V V (V_asg V V) ?_))
 refine W_end (gen_Q fun A44 E44 => ?_)
 have Y44 := szq E44
 have F44 := fsE E44 (ck (ck (cq1 F42 V) V V) V V)
 clear E44 Y42 F42
 refine tk H43 (wp_ret ?_)
 refine ret_in (results_2 Try.results58 (rv_tmp (fg1 F44)) (rv_tmp (fg0 F44))) F44.d ?_
 exact ⟨_, rfl, (S21.fin1 0 V (hc20_21.trans (by rw [show k = l.length by omega])))⟩

end Go.Proofs.Ytpgkfndbfocibaa
namespace Go.Proofs.Ytpgkfndbfocibaa
open Go.RowKit Go.Own Go.Own.R Go.Own.G Go.Own.Gr Go.Own.Ml


set_option maxHeartbeats 4000000 in
theorem qwrd_c {k : Int} {w : World}   :
  Calls Try.prog 78 #[.int .i64 k] w fun e w' => e = .returned (.tuple #[stv (wrdA k), stv (wrdB k)]) ∧ St w NoX [] w' := by
 refine calls_in 27 Try.func78 V V (by simp) (fun A0 Y0 hdf0 hargs => ?_)
 have l0_0 := hargs 0 (.int .i64 k) V
 clear hargs; replace Y0 : SzN A0 27 := ⟨Y0⟩
 have hS := St.nil w
 refine wp_seq_k fun K1 H1 => region_in ?_
 refine W_v V V (V_asg V V) (W_v V V (V_asg V V) ?_)
 refine W_end (gen_Q fun A2 E2 => ?_)
 have Y2 := szq E2
 have F2 := (fsE E2 (cq2 (FS.n hdf0) V)).c (lookE E2 0 (es2 V l0_0))
 clear E2 Y0 hdf0 l0_0
 refine tk H1 (wp_seq_k fun K3 H3 => ?_)
 refine wp_seq_k fun K4 H4 => region_in ?_
 refine W_v V V (V_mov V (fg0 F2)) ?_
 refine W_end (gen_Q fun A5 E5 => ?_)
 have Y5 := szq E5
 have F5 := fsE E5 (ck F2 V V)
 clear E5 Y2 F2
 refine tk H4 (wp_block ?_)
 refine wp_seq_k fun K6 H6 => region_in ?_
 refine W_v V V (V_eql V (fg0 F5) V) ?_
 refine W_v V V (V_asg V (et V)) ?_
 refine W_end (gen_Q fun A7 E7 => ?_)
 have Y7 := szq E7
 have F7 := fsE E7 (ck (cq1 F5 V) V V)
 clear E7 Y5 F5
 refine tk H6 ?_
 refine cond_dec (fg0 F7) (fun c8 => ?_) (fun c8 => ?_)
 ·refine wp_seq_k fun K9 H9 => region_in ?_
  refine W_v V V (V_asg V V) (W_v V V (V_asg V V) ?_)
  refine W_end (gen_Q fun A10 E10 => ?_)
  have Y10 := szq E10
  have F10 := fsE E10 (ck (ck F7 V V) V V)
  clear E10 Y7 F7
  refine tk H9 (wp_ret (inb_ret (then_ret ?_)))
  refine ret_in (results_2 Try.results78 (rv_tmp (fg1 F10)) (rv_tmp (fg0 F10))) F10.d ?_
  obtain rfl : k = 1 := by omega
  exact ⟨rfl, hS.fin0⟩
 refine wp_seq_k fun K11 H11 => region_in ?_
 refine W_v V V (V_eql V (fg1 F7) V) ?_
 refine W_v V V (V_asg V (et V)) ?_
 refine W_end (gen_Q fun A12 E12 => ?_)
 have Y12 := szq E12
 have F12 := fsE E12 (ck (cq1 F7 V) V V)
 clear E12 Y7 F7
 refine tk H11 ?_
 refine cond_dec (fg0 F12) (fun c13 => ?_) (fun c13 => ?_)
 ·refine wp_seq_k fun K14 H14 => region_in ?_
  refine W_v V V (V_asg V V) (W_v V V (V_asg V V) ?_)
  refine W_end (gen_Q fun A15 E15 => ?_)
  have Y15 := szq E15
  have F15 := fsE E15 (ck (ck F12 V V) V V)
  clear E15 Y12 F12
  refine tk H14 (wp_ret (inb_ret (then_ret ?_)))
  refine ret_in (results_2 Try.results78 (rv_tmp (fg1 F15)) (rv_tmp (fg0 F15))) F15.d ?_
  obtain rfl : k = 2 := by omega
  exact ⟨rfl, hS.fin0⟩
 refine wp_seq_k fun K16 H16 => region_in ?_
 refine W_v V V (V_eql V (fg2 F12) V) ?_
 refine W_v V V (V_asg V (et V)) ?_
 refine W_end (gen_Q fun A17 E17 => ?_)
 have Y17 := szq E17
 have F17 := fsE E17 (ck (cq1 F12 V) V V)
 clear E17 Y12 F12
 refine tk H16 ?_
 refine cond_dec (fg0 F17) (fun c18 => ?_) (fun c18 => ?_)
 ·refine wp_seq_k fun K19 H19 => region_in ?_
  refine W_v V V (V_asg V V) (W_v V V (V_asg V V) ?_)
  refine W_end (gen_Q fun A20 E20 => ?_)
  have Y20 := szq E20
  have F20 := fsE E20 (ck (ck F17 V V) V V)
  clear E20 Y17 F17
  refine tk H19 (wp_ret (inb_ret (then_ret ?_)))
  refine ret_in (results_2 Try.results78 (rv_tmp (fg1 F20)) (rv_tmp (fg0 F20))) F20.d ?_
  obtain rfl : k = 3 := by omega
  exact ⟨rfl, hS.fin0⟩
 refine wp_seq_k fun K21 H21 => region_in ?_
 refine W_v V V (V_eql V (fg3 F17) V) ?_
 refine W_v V V (V_asg V (et V)) ?_
 refine W_end (gen_Q fun A22 E22 => ?_)
 have Y22 := szq E22
 have F22 := fsE E22 (ck (cq1 F17 V) V V)
 clear E22 Y17 F17
 refine tk H21 ?_
 refine cond_dec (fg0 F22) (fun c23 => ?_) (fun c23 => ?_)
 ·refine wp_seq_k fun K24 H24 => region_in ?_
  refine W_v V V (V_asg V V) (W_v V V (V_asg V V) ?_)
  refine W_end (gen_Q fun A25 E25 => ?_)
  have Y25 := szq E25
  have F25 := fsE E25 (ck (ck F22 V V) V V)
  clear E25 Y22 F22
  refine tk H24 (wp_ret (inb_ret (then_ret ?_)))
  refine ret_in (results_2 Try.results78 (rv_tmp (fg1 F25)) (rv_tmp (fg0 F25))) F25.d ?_
  obtain rfl : k = 4 := by omega
  exact ⟨rfl, hS.fin0⟩
 refine wp_seq_k fun K26 H26 => region_in ?_
 refine W_v V V (V_eql V (fg4 F22) V) ?_
 refine W_v V V (V_asg V (et V)) ?_
 refine W_end (gen_Q fun A27 E27 => ?_)
 have Y27 := szq E27
 have F27 := fsE E27 (ck (cq1 F22 V) V V)
 clear E27 Y22 F22
 refine tk H26 ?_
 refine cond_dec (fg0 F27) (fun c28 => ?_) (fun c28 => ?_)
 ·refine wp_seq_k fun K29 H29 => region_in ?_
  refine W_v V V (V_asg V V) (W_v V V (V_asg V V) ?_)
  refine W_end (gen_Q fun A30 E30 => ?_)
  have Y30 := szq E30
  have F30 := fsE E30 (ck (ck F27 V V) V V)
  clear E30 Y27 F27
  refine tk H29 (wp_ret (inb_ret (then_ret ?_)))
  refine ret_in (results_2 Try.results78 (rv_tmp (fg1 F30)) (rv_tmp (fg0 F30))) F30.d ?_
  obtain rfl : k = 5 := by omega
  exact ⟨rfl, hS.fin0⟩
 refine wp_seq_k fun K31 H31 => region_in ?_
 refine W_v V V (V_eql V (fg5 F27) V) ?_
 refine W_v V V (V_asg V (et V)) ?_
 refine W_end (gen_Q fun A32 E32 => ?_)
 have Y32 := szq E32
 have F32 := fsE E32 (ck (cq1 F27 V) V V)
 clear E32 Y27 F27
 refine tk H31 ?_
 refine cond_dec (fg0 F32) (fun c33 => ?_) (fun c33 => ?_)
 ·refine wp_seq_k fun K34 H34 => region_in ?_
  refine W_v V V (V_asg V V) (W_v V V (V_asg V V) ?_)
  refine W_end (gen_Q fun A35 E35 => ?_)
  have Y35 := szq E35
  have F35 := fsE E35 (ck (ck F32 V V) V V)
  clear E35 Y32 F32
  refine tk H34 (wp_ret (inb_ret (then_ret ?_)))
  refine ret_in (results_2 Try.results78 (rv_tmp (fg1 F35)) (rv_tmp (fg0 F35))) F35.d ?_
  obtain rfl : k = 6 := by omega
  exact ⟨rfl, hS.fin0⟩
 refine wp_seq_k fun K36 H36 => region_in ?_
 refine W_v V V (V_eql V (fg6 F32) V) ?_
 refine W_v V V (V_asg V (et V)) ?_
 refine W_end (gen_Q fun A37 E37 => ?_)
 have Y37 := szq E37
 have F37 := fsE E37 (ck (cq1 F32 V) V V)
 clear E37 Y32 F32
 refine tk H36 ?_
 refine cond_dec (fg0 F37) (fun c38 => ?_) (fun c38 => ?_)
 ·refine wp_seq_k fun K39 H39 => region_in ?_
  refine W_v V V (V_asg V V) (W_v V V (V_asg V V) ?_)
  refine W_end (gen_Q fun A40 E40 => ?_)
  have Y40 := szq E40
  have F40 := fsE E40 (ck (ck F37 V V) V V)
  clear E40 Y37 F37
  refine tk H39 (wp_ret (inb_ret (then_ret ?_)))
  refine ret_in (results_2 Try.results78 (rv_tmp (fg1 F40)) (rv_tmp (fg0 F40))) F40.d ?_
  obtain rfl : k = 7 := by omega
  exact ⟨rfl, hS.fin0⟩
 refine wp_seq_k fun K41 H41 => region_in ?_
 refine W_v V V (V_eql V (fg7 F37) V) ?_
 refine W_v V V (V_asg V (et V)) ?_
 refine W_end (gen_Q fun A42 E42 => ?_)
 have Y42 := szq E42
 have F42 := fsE E42 (ck (cq1 F37 V) V V)
 clear E42 Y37 F37
 refine tk H41 ?_
 refine cond_dec (fg0 F42) (fun c43 => ?_) (fun c43 => ?_)
 ·refine wp_seq_k fun K44 H44 => region_in ?_
  refine W_v V V (V_asg V V) (W_v V V (V_asg V V) ?_)
  refine W_end (gen_Q fun A45 E45 => ?_)
  have Y45 := szq E45
  have F45 := fsE E45 (ck (ck F42 V V) V V)
  clear E45 Y42 F42
  refine tk H44 (wp_ret (inb_ret (then_ret ?_)))
  refine ret_in (results_2 Try.results78 (rv_tmp (fg1 F45)) (rv_tmp (fg0 F45))) F45.d ?_
  obtain rfl : k = 8 := by omega
  exact ⟨rfl, hS.fin0⟩
 refine wp_seq_k fun K46 H46 => region_in ?_
 refine W_v V V (V_eql V (fg8 F42) V) ?_
 refine W_v V V (V_asg V (et V)) ?_
 refine W_end (gen_Q fun A47 E47 => ?_)
 have Y47 := szq E47
 have F47 := fsE E47 (ck (cq1 F42 V) V V)
 clear E47 Y42 F42
 refine tk H46 ?_
 refine cond_dec (fg0 F47) (fun c48 => ?_) (fun c48 => ?_)
 ·refine wp_seq_k fun K49 H49 => region_in ?_
  refine W_v V V (V_asg V V) (W_v V V (V_asg V V) ?_)
  refine W_end (gen_Q fun A50 E50 => ?_)
  have Y50 := szq E50
  have F50 := fsE E50 (ck (ck F47 V V) V V)
  clear E50 Y47 F47
  refine tk H49 (wp_ret (inb_ret (then_ret ?_)))
  refine ret_in (results_2 Try.results78 (rv_tmp (fg1 F50)) (rv_tmp (fg0 F50))) F50.d ?_
  obtain rfl : k = 9 := by omega
  exact ⟨rfl, hS.fin0⟩
 refine wp_seq_k fun K51 H51 => region_in ?_
 refine W_v V V (V_eql V (fg9 F47) V) ?_
 refine W_v V V (V_asg V (et V)) ?_
 refine W_end (gen_Q fun A52 E52 => ?_)
 have Y52 := szq E52
 have F52 := fsE E52 (ck (cq1 F47 V) V V)
 clear E52 Y47 F47
 refine tk H51 ?_
 refine cond_dec (fg0 F52) (fun c53 => ?_) (fun c53 => ?_)
 ·refine wp_seq_k fun K54 H54 => region_in ?_
  refine W_v V V (V_asg V V) (W_v V V (V_asg V V) ?_)
  refine W_end (gen_Q fun A55 E55 => ?_)
  have Y55 := szq E55
  have F55 := fsE E55 (ck (ck F52 V V) V V)
  clear E55 Y52 F52
  refine tk H54 (wp_ret (inb_ret (then_ret ?_)))
  refine ret_in (results_2 Try.results78 (rv_tmp (fg1 F55)) (rv_tmp (fg0 F55))) F55.d ?_
  obtain rfl : k = 10 := by omega
  exact ⟨rfl, hS.fin0⟩
 refine wp_seq_k fun K56 H56 => region_in ?_
 refine W_v V V (V_eql V (fg10 F52) V) ?_
 refine W_v V V (V_asg V (et V)) ?_
 refine W_end (gen_Q fun A57 E57 => ?_)
 have Y57 := szq E57
 have F57 := fsE E57 (ck (cq1 F52 V) V V)
 clear E57 Y52 F52
 refine tk H56 ?_
 refine cond_dec (fg0 F57) (fun c58 => ?_) (fun c58 => ?_)
 ·refine wp_seq_k fun K59 H59 => region_in ?_
  refine W_v V V (V_asg V V) (W_v V V (V_asg V V) ?_)
  refine W_end (gen_Q fun A60 E60 => ?_)
  have Y60 := szq E60
  have F60 := fsE E60 (ck (ck F57 V V) V V)
  clear E60 Y57 F57
  refine tk H59 (wp_ret (inb_ret (then_ret ?_)))
  refine ret_in (results_2 Try.results78 (rv_tmp (fg1 F60)) (rv_tmp (fg0 F60))) F60.d ?_
  obtain rfl : k = 11 := by omega
  exact ⟨rfl, hS.fin0⟩
 refine wp_skip (inb_n ?_)
 refine tk H3 (wp_seq_k fun K61 H61 => region_in ?_)
 refine W_v V V (V_asg V V) (W_v V V (V_asg V V) ?_)
 refine W_end (gen_Q fun A62 E62 => ?_)
 have Y62 := szq E62
 have F62 := fsE E62 (ck (ck F57 V V) V V)
 clear E62 Y57 F57
 refine tk H61 (wp_ret ?_)
 refine ret_in (results_2 Try.results78 (rv_tmp (fg1 F62)) (rv_tmp (fg0 F62))) F62.d ?_
 have e1 : wrdA k = [] := by unfold wrdA; rw [if_neg (show ¬ k = 1 by omega), if_neg (show ¬ k = 2 by omega), if_neg (show ¬ k = 3 by omega), if_neg (show ¬ k = 4 by omega), if_neg (show ¬ k = 5 by omega), if_neg (show ¬ k = 6 by omega), if_neg (show ¬ k = 7 by omega), if_neg (show ¬ k = 8 by omega), if_neg (show ¬ k = 9 by omega), if_neg (show ¬ k = 10 by omega), if_neg (show ¬ k = 11 by omega)]
 have e2 : wrdB k = [] := by unfold wrdB; rw [if_neg (show ¬ k = 1 by omega), if_neg (show ¬ k = 2 by omega), if_neg (show ¬ k = 3 by omega), if_neg (show ¬ k = 4 by omega), if_neg (show ¬ k = 5 by omega), if_neg (show ¬ k = 6 by omega), if_neg (show ¬ k = 7 by omega), if_neg (show ¬ k = 8 by omega), if_neg (show ¬ k = 9 by omega), if_neg (show ¬ k = 10 by omega), if_neg (show ¬ k = 11 by omega)]
 rw [e1, e2]
 exact ⟨rfl, hS.fin0⟩

set_option maxHeartbeats 4000000 in
theorem qdg_c {b : Int} {w : World}   :
  Calls Try.prog 98 #[.int .u8 b] w fun e w' => e = .returned (.bool (decide (48 ≤ b ∧ b ≤ 57))) ∧ St w NoX [] w' := by
 refine calls_in 9 Try.func98 V V (by simp) (fun A0 Y0 hdf0 hargs => ?_)
 have l0_0 := hargs 0 (.int .u8 b) V
 clear hargs; replace Y0 : SzN A0 9 := ⟨Y0⟩
 have hS := St.nil w
 refine wp_seq_k fun K1 H1 => region_in ?_
 refine W_v V V (V_asg V V) ?_
 refine W_end (gen_Q fun A2 E2 => ?_)
 have Y2 := szq E2
 have F2 := (fsE E2 (cq1 (FS.n hdf0) V)).c (lookE E2 0 (es V l0_0))
 clear E2 Y0 hdf0 l0_0
 refine tk H1 (wp_seq_k fun K3 H3 => region_in ?_)
 refine W_v V V (V_mov V (fg0 F2)) ?_
 refine W_v V V (V_geq V (et V) V) ?_
 refine W_split V V (V_mov V (et V)) (fun c4 => ?_) (fun c4 => ?_)
 ·refine W_v V (xwt V V (et V)) (V_mov V (es3 V (fg0 F2))) ?_
  refine W_v V (xwt V V (es V (et V))) (V_leq V (et V) V) ?_
  refine W_v V V (V_pickT V (es2 V (et V)) (et V)) ?_
  refine W_v V V (V_asg V (et V)) ?_
  refine W_end (gen_Q fun A5 E5 => ?_)
  have Y5 := szq E5
  have F5 := fsE E5 (ck (cq6 F2 V) V V)
  clear E5 Y2 F2
  refine tk H3 (wp_ret ?_)
  refine ret_in (results_1 Try.results98 (rv_tmp (fg0 F5))) F5.d ?_
  rw [show (decide (48 ≤ b ∧ b ≤ 57)) = decide (b ≤ 57) by exact decide_eq_decide.2 (by omega)]
  exact ⟨rfl, hS.fin0⟩
 refine xof V V V (et V) (xof V V V (es V (et V)) ?_)
 refine W_v V V (V_pickF V (es2 V (et V)) V) ?_
 refine W_v V V (V_asg V (et V)) ?_
 refine W_end (gen_Q fun A6 E6 => ?_)
 have Y6 := szq E6
 have F6 := fsE E6 (ck (cq6 F2 V) V V)
 clear E6 Y2 F2
 refine tk H3 (wp_ret ?_)
 refine ret_in (results_1 Try.results98 (rv_tmp (fg0 F6))) F6.d ?_
 rw [show (decide (48 ≤ b ∧ b ≤ 57)) = false by exact decide_eq_false (by omega)]
 exact ⟨rfl, hS.fin0⟩

set_option maxHeartbeats 4000000 in
theorem qset_c {kd : Int} {a : Int} {b : Int} {f : Int} {p : Int} {q : Int} {u : Int} {c : Int} {z : Int} {w : World}   :
  Calls Try.prog 87 #[.agg #[.int .i64 kd, .int .i64 a, .int .i64 b, .int .i64 f, .int .i64 p, .int .i64 q, .int .u64 u], .int .u8 c, .int .i64 z] w fun e w' => e = .returned (.agg #[.int .i64 kd, .int .i64 (if c = 97 then z else a), .int .i64 (if c = 98 then z else b), .int .i64 (if c = 102 then z else f), .int .i64 (if c = 112 then z else p), .int .i64 (if c = 97 ∨ c = 98 ∨ c = 102 ∨ c = 112 then q else z), .int .u64 u]) ∧ St w NoX [] w' := by
 refine calls_in 27 Try.func87 V V (by simp) (fun A0 Y0 hdf0 hargs => ?_)
 have l0_0 := hargs 0 (.agg #[.int .i64 kd, .int .i64 a, .int .i64 b, .int .i64 f, .int .i64 p, .int .i64 q, .int .u64 u]) V
 have l1_0 := hargs 1 (.int .u8 c) V
 have l2_0 := hargs 2 (.int .i64 z) V
 clear hargs; replace Y0 : SzN A0 27 := ⟨Y0⟩
 have hS := St.nil w
 refine wp_seq_k fun K1 H1 => region_in ?_
 refine W_boxS (zs := #[.int .i64 (kd), .int .i64 (a), .int .i64 (b), .int .i64 (f), .int .i64 (p), .int .i64 (q), .int .u64 (u)]) hS V V V l0_0 (by rfl) (fun g2 w2 c2 hc2 S2 => ?_)
 replace S2 : St w NoX [c2] w2 := S2
 refine W_allocS (z := .agg #[.int .i64 0, .int .i64 0, .int .i64 0, .int .i64 0, .int .i64 0, .int .i64 0, .int .u64 0]) (zs := #[.int .i64 0, .int .i64 0, .int .i64 0, .int .i64 0, .int .i64 0, .int .i64 0, .int .u64 0]) S2 V V V (by kernel_rfl) (by rfl) (fun g3 w3 c3 hc3 S3 => ?_)
 replace S3 : St w NoX [c3, c2] w3 := S3
 refine W_end (gen_Q fun A4 E4 => ?_)
 have Y4 := szq E4
 have F4 := ((fsE E4 (ck (ck (FS.n hdf0) V V) V V)).c (lookE E4 1 (es2 V l1_0))).c (lookE E4 2 (es2 V l2_0))
 clear E4 Y0 hdf0 l0_0 l1_0 l2_0
 refine tk H1 (wp_seq_k fun K5 H5 => ?_)
 refine wp_seq_k fun K6 H6 => region_in ?_
 refine W_v V V (V_mov V (fg1 F4)) ?_
 refine W_end (gen_Q fun A7 E7 => ?_)
 have Y7 := szq E7
 have F7 := fsE E7 (ck F4 V V)
 clear E7 Y4 F4
 refine tk H6 (wp_block ?_)
 refine wp_seq_k fun K8 H8 => region_in ?_
 refine W_v V V (V_eql V (fg0 F7) V) ?_
 refine W_v V V (V_asg V (et V)) ?_
 refine W_end (gen_Q fun A9 E9 => ?_)
 have Y9 := szq E9
 have F9 := fsE E9 (ck (cq1 F7 V) V V)
 clear E9 Y7 F7
 refine tk H8 ?_
 refine cond_dec (fg0 F9) (fun c10 => ?_) (fun c10 => ?_)
 ·refine region_in ?_
  refine W_v V V (V_mov V (fg2 F9)) ?_
  refine W_v V V (V_fa (off' := 1) V (es V (fg5 F9)) Try.underlying42 V (by decide +kernel) V) ?_
  refine xsC (zs' := #[.int .i64 (kd), .int .i64 (z), .int .i64 (b), .int .i64 (f), .int .i64 (p), .int .i64 (q), .int .u64 (u)]) 1 S3 V hc2 V V V (et V) (es V (et V)) (by rfl) (fun w11 c11 hc11 S11 => ?_)
  replace S11 : St w NoX [c3, c11] w11 := S11
  refine W_end (gen_Q fun A12 E12 => ?_)
  have Y12 := szq E12
  have F12 := fsE E12 (cq2 F9 V)
  clear E12 Y9 F9
  refine inb_n ?_
  refine tk H5 (wp_seq_k fun K13 H13 => region_in ?_)
  refine W_r V V (VR_ldA V (fg5 F12) (S11.obj 1 V hc11) Try.underlying42 V (by kernel_rfl)) ?_
  refine xsA 0 S11 V hc3 V V V (es V (fg4 F12)) (et V) (fun w14 c14 hc14 S14 => ?_)
  replace S14 : St w NoX [c14, c11] w14 := S14
  refine W_end (gen_Q fun A15 E15 => ?_)
  have Y15 := szq E15
  have F15 := fsE E15 (cq1 F12 V)
  clear E15 Y12 F12
  have S16 : St w NoX [c14] w14 := S14.sel [0] (by decide) V
  refine tk H13 (wp_ret ?_)
  refine ret_in (results_1 Try.results87 (rv_cellA (fg4 F15) (S16.obj 0 V hc14) Try.underlying42 V (by kernel_rfl))) F15.d ?_
  rw [show (if c = 97 then z else a) = z from if_pos (by omega)]
  rw [show (if c = 98 then z else b) = b from if_neg (by omega)]
  rw [show (if c = 102 then z else f) = f from if_neg (by omega)]
  rw [show (if c = 112 then z else p) = p from if_neg (by omega)]
  rw [show (if c = 97 ∨ c = 98 ∨ c = 102 ∨ c = 112 then q else z) = q from if_pos (by omega)]
  exact ⟨rfl, S16.fin0⟩
 refine wp_seq_k fun K17 H17 => region_in ?_
 refine W_v V V (V_eql V (fg1 F9) V) ?_
 refine W_v V V (V_asg V (et V)) ?_
 refine W_end (gen_Q fun A18 E18 => ?_)
 have Y18 := szq E18
 have F18 := fsE E18 (ck (cq1 F9 V) V V)
 clear E18 Y9 F9
 refine tk H17 ?_
 refine cond_dec (fg0 F18) (fun c19 => ?_) (fun c19 => ?_)
 ·refine region_in ?_
  refine W_v V V (V_mov V (fg3 F18)) ?_
  refine W_v V V (V_fa (off' := 2) V (es V (fg6 F18)) Try.underlying42 V (by decide +kernel) V) ?_
  refine xsC (zs' := #[.int .i64 (kd), .int .i64 (a), .int .i64 (z), .int .i64 (f), .int .i64 (p), .int .i64 (q), .int .u64 (u)]) 1 S3 V hc2 V V V (et V) (es V (et V)) (by rfl) (fun w20 c20 hc20 S20 => ?_)
  replace S20 : St w NoX [c3, c20] w20 := S20
  refine W_end (gen_Q fun A21 E21 => ?_)
  have Y21 := szq E21
  have F21 := fsE E21 (cq2 F18 V)
  clear E21 Y18 F18
  refine inb_n ?_
  refine tk H5 (wp_seq_k fun K22 H22 => region_in ?_)
  refine W_r V V (VR_ldA V (fg6 F21) (S20.obj 1 V hc20) Try.underlying42 V (by kernel_rfl)) ?_
  refine xsA 0 S20 V hc3 V V V (es V (fg5 F21)) (et V) (fun w23 c23 hc23 S23 => ?_)
  replace S23 : St w NoX [c23, c20] w23 := S23
  refine W_end (gen_Q fun A24 E24 => ?_)
  have Y24 := szq E24
  have F24 := fsE E24 (cq1 F21 V)
  clear E24 Y21 F21
  have S25 : St w NoX [c23] w23 := S23.sel [0] (by decide) V
  refine tk H22 (wp_ret ?_)
  refine ret_in (results_1 Try.results87 (rv_cellA (fg5 F24) (S25.obj 0 V hc23) Try.underlying42 V (by kernel_rfl))) F24.d ?_
  rw [show (if c = 97 then z else a) = a from if_neg (by omega)]
  rw [show (if c = 98 then z else b) = z from if_pos (by omega)]
  rw [show (if c = 102 then z else f) = f from if_neg (by omega)]
  rw [show (if c = 112 then z else p) = p from if_neg (by omega)]
  rw [show (if c = 97 ∨ c = 98 ∨ c = 102 ∨ c = 112 then q else z) = q from if_pos (by omega)]
  exact ⟨rfl, S25.fin0⟩
 refine wp_seq_k fun K26 H26 => region_in ?_
 refine W_v V V (V_eql V (fg2 F18) V) ?_
 refine W_v V V (V_asg V (et V)) ?_
 refine W_end (gen_Q fun A27 E27 => ?_)
 have Y27 := szq E27
 have F27 := fsE E27 (ck (cq1 F18 V) V V)
 clear E27 Y18 F18
 refine tk H26 ?_
 refine cond_dec (fg0 F27) (fun c28 => ?_) (fun c28 => ?_)
 ·refine region_in ?_
  refine W_v V V (V_mov V (fg4 F27)) ?_
  refine W_v V V (V_fa (off' := 3) V (es V (fg7 F27)) Try.underlying42 V (by decide +kernel) V) ?_
  refine xsC (zs' := #[.int .i64 (kd), .int .i64 (a), .int .i64 (b), .int .i64 (z), .int .i64 (p), .int .i64 (q), .int .u64 (u)]) 1 S3 V hc2 V V V (et V) (es V (et V)) (by rfl) (fun w29 c29 hc29 S29 => ?_)
  replace S29 : St w NoX [c3, c29] w29 := S29
  refine W_end (gen_Q fun A30 E30 => ?_)
  have Y30 := szq E30
  have F30 := fsE E30 (cq2 F27 V)
  clear E30 Y27 F27
  refine inb_n ?_
  refine tk H5 (wp_seq_k fun K31 H31 => region_in ?_)
  refine W_r V V (VR_ldA V (fg7 F30) (S29.obj 1 V hc29) Try.underlying42 V (by kernel_rfl)) ?_
  refine xsA 0 S29 V hc3 V V V (es V (fg6 F30)) (et V) (fun w32 c32 hc32 S32 => ?_)
  replace S32 : St w NoX [c32, c29] w32 := S32
  refine W_end (gen_Q fun A33 E33 => ?_)
  have Y33 := szq E33
  have F33 := fsE E33 (cq1 F30 V)
  clear E33 Y30 F30
  have S34 : St w NoX [c32] w32 := S32.sel [0] (by decide) V
  refine tk H31 (wp_ret ?_)
  refine ret_in (results_1 Try.results87 (rv_cellA (fg6 F33) (S34.obj 0 V hc32) Try.underlying42 V (by kernel_rfl))) F33.d ?_
  rw [show (if c = 97 then z else a) = a from if_neg (by omega)]
  rw [show (if c = 98 then z else b) = b from if_neg (by omega)]
  rw [show (if c = 102 then z else f) = z from if_pos (by omega)]
  rw [show (if c = 112 then z else p) = p from if_neg (by omega)]
  rw [show (if c = 97 ∨ c = 98 ∨ c = 102 ∨ c = 112 then q else z) = q from if_pos (by omega)]
  exact ⟨rfl, S34.fin0⟩
 refine wp_seq_k fun K35 H35 => region_in ?_
 refine W_v V V (V_eql V (fg3 F27) V) ?_
 refine W_v V V (V_asg V (et V)) ?_
 refine W_end (gen_Q fun A36 E36 => ?_)
 have Y36 := szq E36
 have F36 := fsE E36 (ck (cq1 F27 V) V V)
 clear E36 Y27 F27
 refine tk H35 ?_
 refine cond_dec (fg0 F36) (fun c37 => ?_) (fun c37 => ?_)
 ·refine region_in ?_
  refine W_v V V (V_mov V (fg5 F36)) ?_
  refine W_v V V (V_fa (off' := 4) V (es V (fg8 F36)) Try.underlying42 V (by decide +kernel) V) ?_
  refine xsC (zs' := #[.int .i64 (kd), .int .i64 (a), .int .i64 (b), .int .i64 (f), .int .i64 (z), .int .i64 (q), .int .u64 (u)]) 1 S3 V hc2 V V V (et V) (es V (et V)) (by rfl) (fun w38 c38 hc38 S38 => ?_)
  replace S38 : St w NoX [c3, c38] w38 := S38
  refine W_end (gen_Q fun A39 E39 => ?_)
  have Y39 := szq E39
  have F39 := fsE E39 (cq2 F36 V)
  clear E39 Y36 F36
  refine inb_n ?_
  refine tk H5 (wp_seq_k fun K40 H40 => region_in ?_)
  refine W_r V V (VR_ldA V (fg8 F39) (S38.obj 1 V hc38) Try.underlying42 V (by kernel_rfl)) ?_
  refine xsA 0 S38 V hc3 V V V (es V (fg7 F39)) (et V) (fun w41 c41 hc41 S41 => ?_)
  replace S41 : St w NoX [c41, c38] w41 := S41
  refine W_end (gen_Q fun A42 E42 => ?_)
  have Y42 := szq E42
  have F42 := fsE E42 (cq1 F39 V)
  clear E42 Y39 F39
  have S43 : St w NoX [c41] w41 := S41.sel [0] (by decide) V
  refine tk H40 (wp_ret ?_)
  refine ret_in (results_1 Try.results87 (rv_cellA (fg7 F42) (S43.obj 0 V hc41) Try.underlying42 V (by kernel_rfl))) F42.d ?_
  rw [show (if c = 97 then z else a) = a from if_neg (by omega)]
  rw [show (if c = 98 then z else b) = b from if_neg (by omega)]
  rw [show (if c = 102 then z else f) = f from if_neg (by omega)]
  rw [show (if c = 112 then z else p) = z from if_pos (by omega)]
  rw [show (if c = 97 ∨ c = 98 ∨ c = 102 ∨ c = 112 then q else z) = q from if_pos (by omega)]
  exact ⟨rfl, S43.fin0⟩
 refine region_in ?_
 refine W_v V V (V_mov V (fg5 F36)) ?_
 refine W_v V V (V_fa (off' := 5) V (es V (fg8 F36)) Try.underlying42 V (by decide +kernel) V) ?_
 refine xsC (zs' := #[.int .i64 (kd), .int .i64 (a), .int .i64 (b), .int .i64 (f), .int .i64 (p), .int .i64 (z), .int .u64 (u)]) 1 S3 V hc2 V V V (et V) (es V (et V)) (by rfl) (fun w44 c44 hc44 S44 => ?_)
 replace S44 : St w NoX [c3, c44] w44 := S44
 refine W_end (gen_Q fun A45 E45 => ?_)
 have Y45 := szq E45
 have F45 := fsE E45 (cq2 F36 V)
 clear E45 Y36 F36
 refine inb_n ?_
 refine tk H5 (wp_seq_k fun K46 H46 => region_in ?_)
 refine W_r V V (VR_ldA V (fg8 F45) (S44.obj 1 V hc44) Try.underlying42 V (by kernel_rfl)) ?_
 refine xsA 0 S44 V hc3 V V V (es V (fg7 F45)) (et V) (fun w47 c47 hc47 S47 => ?_)
 replace S47 : St w NoX [c47, c44] w47 := S47
 refine W_end (gen_Q fun A48 E48 => ?_)
 have Y48 := szq E48
 have F48 := fsE E48 (cq1 F45 V)
 clear E48 Y45 F45
 have S49 : St w NoX [c47] w47 := S47.sel [0] (by decide) V
 refine tk H46 (wp_ret ?_)
 refine ret_in (results_1 Try.results87 (rv_cellA (fg7 F48) (S49.obj 0 V hc47) Try.underlying42 V (by kernel_rfl))) F48.d ?_
 rw [show (if c = 97 then z else a) = a from if_neg (by omega)]
 rw [show (if c = 98 then z else b) = b from if_neg (by omega)]
 rw [show (if c = 102 then z else f) = f from if_neg (by omega)]
 rw [show (if c = 112 then z else p) = p from if_neg (by omega)]
 rw [show (if c = 97 ∨ c = 98 ∨ c = 102 ∨ c = 112 then q else z) = z from if_neg (by omega)]
 exact ⟨rfl, S49.fin0⟩

end Go.Proofs.Ytpgkfndbfocibaa
namespace Go.Proofs.Ytpgkfndbfocibaa
open Go.RowKit Go.Own Go.Own.R Go.Own.G Go.Own.Gr Go.Own.Ml


set_option maxHeartbeats 4000000 in
theorem qdec_c {l : List UInt8} {w : World}  (h1 : l.length = 1) (h2 : 48 ≤ (l.getD 0 0).toNat ∧ (l.getD 0 0).toNat ≤ 57) :
  Calls Try.prog 96 #[(stv l)] w fun e w' => e = .returned (.bool true) ∧ St w NoX [] w' := by
 refine calls_in 43 Try.func96 V V (by simp) (fun A0 Y0 hdf0 hargs => ?_)
 have l0_0 := hargs 0 ((stv l)) V
 clear hargs; replace Y0 : SzN A0 43 := ⟨Y0⟩
 have hS := St.nil w
 refine wp_seq_k fun K1 H1 => region_in ?_
 refine W_v V V (V_asg V V) ?_
 refine W_end (gen_Q fun A2 E2 => ?_)
 have Y2 := szq E2
 have F2 := (fsE E2 (cq1 (FS.n hdf0) V)).c (lookE E2 0 (es V l0_0))
 clear E2 Y0 hdf0 l0_0
 refine tk H1 (wp_seq_k fun K3 H3 => ?_)
 refine wp_seq_k fun K4 H4 => region_in ?_
 refine W_v V V (V_mov V (fg0 F2)) ?_
 refine W_v V V (V_lenT V (et V) Try.underlying9) ?_
 refine W_v V V (V_gtr V (et V) V) ?_
 refine W_sure (c' := false) V V (V_mov V (et V)) (by rw [decide_eq_false_iff_not]; omega) ?_
 refine xof V V V (et V) (xof V V V (es V (et V)) (xof V V V (es2 V (et V)) ?_))
 refine W_v V V (V_pickF V (es3 V (et V)) V) ?_
 refine W_v V V (V_mov V (et V)) (xof V V V (et V) (xof V V V (es V (et V)) (xof V V V (es2 V (et V)) ?_)))
 refine W_v V V (V_pickF V (es3 V (et V)) V) ?_
 refine W_end (gen_Q fun A5 E5 => ?_)
 have Y5 := szq E5
 have F5 := fsE E5 (ck (cq4 (cq8 F2 V) V) V V)
 clear E5 Y2 F2
 refine tk H4 ?_
 refine cond_f (fg0 F5) ?_
 refine wp_skip ?_
 refine tk H3 (wp_seq_k fun K6 H6 => ?_)
 refine wp_seq_k fun K7 H7 => region_in ?_
 refine W_v V V (V_mov V (fg1 F5)) ?_
 refine W_v V V (V_lenT V (et V) Try.underlying9) ?_
 refine W_v V V (V_eql V (et V) V) ?_
 refine W_sure (c' := false) V V (V_mov V (et V)) (by rw [decide_eq_false_iff_not]; omega) ?_
 refine W_v V (xwt V V (et V)) (V_mov V (es4 V (fg1 F5))) ?_
 refine W_v V (xwt V V (es V (et V))) (V_lenT V (et V) Try.underlying9) ?_
 refine W_v V (xwt V V (es2 V (et V))) (V_gtr V (et V) V) ?_
 refine W_sure (c' := false) V (xwt V V (es3 V (et V))) (V_mov V (et V)) (by rw [decide_eq_false_iff_not]; omega) ?_
 refine xof V V V (et V) (xof V V V (es V (et V)) (xof V V V (es2 V (et V)) ?_))
 refine W_v V (xwt V V (es7 V (et V))) (V_pickF V (es3 V (et V)) V) ?_
 refine W_v V V (V_pickF V (es8 V (et V)) (et V)) ?_
 refine W_end (gen_Q fun A8 E8 => ?_)
 have Y8 := szq E8
 have F8 := fsE E8 (ck (cq4 (cq8 F5 V) V) V V)
 clear E8 Y5 F5
 refine tk H7 ?_
 refine cond_f (fg0 F8) ?_
 refine wp_skip ?_
 refine tk H6 (wp_seq_k fun K9 H9 => ?_)
 refine wp_seq_k fun K10 H10 => region_in ?_
 refine W_v V V (V_asg V V) ?_
 refine W_end (gen_Q fun A11 E11 => ?_)
 have Y11 := szq E11
 have F11 := fsE E11 (ck F8 V V)
 clear E11 Y8 F8
 refine tk H10 (wp_block ?_)
 -- loop 6
 refine loopX (fun mz A' w' => SzN A' 43 ∧ A'.defers = [] ∧ (∃ (k : Nat), (mz = l.length - k) ∧ (k ≤ l.length) ∧ (EV A' (.tmp 3) = .int .i64 (k : Int)) ∧ (EV A' (.tmp 0) = EV A11 (.tmp 0)) ∧ (St w NoX [] w'))) (l.length - 0) ⟨Y11, F11.d, 0, rfl, (by omega), (((fg0 F11)).trans (by first | rfl | (simp; done) | (congr 1; omega))), rfl, hS⟩ ?_
 clear hS
 rintro n12 A12 w12 ⟨Y12, hdf12, k, hm12, hk, l3_12, u0_12, S12⟩
 have l0_12 := u0_12.trans (fg3 F11)
 refine wp_seq_k fun K13 H13 => ?_
 refine wp_seq_k fun K14 H14 => region_in ?_
 refine W_v V V (V_mov V l3_12) (W_v V V (V_mov V (es V l0_12)) ?_)
 refine W_v V V (V_lenT V (et V) Try.underlying9) ?_
 refine W_v V V (V_lss V (es2 V (et V)) (et V)) ?_
 refine W_end (gen_Q fun A15 E15 => ?_)
 have Y15 := szq E15
 have F15 := ((fsE E15 (ck (cq3 (FS.n hdf12) V) V V)).c (lookE E15 0 (es4 V l0_12))).c (lookE E15 3 (es4 V l3_12))
 clear E15 Y12 hdf12 l3_12 l0_12
 refine tk H14 ?_
 refine cond_dec (fg2 F15) (fun c16 => ?_) (fun c16 => ?_)
 ·refine wp_skip ?_
  refine tk H13 (wp_seq_k fun K17 H17 => ?_)
  refine wp_block ?_
  refine wp_seq_k fun K18 H18 => region_in ?_
  refine W_v V V (V_mov V (fg1 F15)) (W_v V V (V_mov V (es V (fg0 F15))) ?_)
  have k19 : k < l.length := by first | omega | (simp only [List.length_cons, List.length_nil]; omega) | decide
  obtain ⟨y19, hy19⟩ := get_some (xs := l) (k := k) k19
  have hu19 := y19.toNat_lt
  have hd19 := dg_at h1 h2 hy19
  refine W_v V V (V_idxT V (es V (et V)) (et V) (by omega) hy19 Try.underlying9) ?_
  refine W_call V V V Try.func98 (by kernel_rfl) V (args1 (et V)) (qdg_c (b := (y19.toNat : Int))  ) ?_
  rintro _ w20 ⟨rfl, hP20⟩
  refine ⟨_, rfl, ?_⟩
  have S20 := S12.join hP20
  replace S20 : St w NoX [] w20 := S20
  refine W_v V V (V_notd V (et V)) ?_
  refine W_end (gen_Q fun A21 E21 => ?_)
  have Y21 := szq E21
  have F21 := fsE E21 (ck (cq4 F15 V) V V)
  clear E21 Y15 F15
  refine tk H18 ?_
  refine cond_not (fg0 F21) (by rw [decide_eq_false_iff_not]; omega) ?_
  refine wp_skip (inb_n (tk H17 ?_))
  refine region_in ?_
  refine W_v V V (V_mov V (fg1 F21)) ?_
  refine W_v V V (V_add V (et V) V (by omega) (by omega)) ?_
  refine W_v V V (V_asg V (et V)) ?_
  refine W_end (gen_Q fun A22 E22 => ?_)
  have Y22 := szq E22
  have F22 := fsE E22 (ck (cq2 (fx1 F21) V) V V)
  clear E22 Y21 F21
  refine then_n ⟨l.length - (k + 1), by simp only [hm12]; omega, Y22, F22.d, (k + 1), rfl, (by omega), (((fg0 F22)).trans (by first | rfl | (simp; done) | (congr 1; omega))), (((fg2 F22)).trans (fg3 F11).symm), S20⟩
 refine wp_exit (then_exit (then_exit ?_))
 refine inb_hit ?_
 refine tk H9 (wp_seq_k fun K23 H23 => region_in ?_)
 refine W_v V V (V_asg V V) ?_
 refine W_end (gen_Q fun A24 E24 => ?_)
 have Y24 := szq E24
 have F24 := fsE E24 (ck F15 V V)
 clear E24 Y15 F15
 refine tk H23 (wp_ret ?_)
 refine ret_in (results_1 Try.results96 (rv_tmp (fg0 F24))) F24.d ?_
 exact ⟨rfl, S12.fin0⟩

set_option maxHeartbeats 4000000 in
theorem qint_c {l : List UInt8} {lo : Int} {hi : Int} {w : World}  (h1 : l.length = 1) (h2 : 48 ≤ (l.getD 0 0).toNat ∧ (l.getD 0 0).toNat ≤ 57) (hlo : lo ≤ 0) (hhi : 9 ≤ hi) :
  Calls Try.prog 86 #[(stv l), .int .i64 lo, .int .i64 hi] w fun e w' => e = .returned (.tuple #[.int .i64 (((l.getD 0 0).toNat : Int) - 48), .int .i64 0]) ∧ St w NoX [] w' := by
 refine calls_in 61 Try.func86 V V (by simp) (fun A0 Y0 hdf0 hargs => ?_)
 have l0_0 := hargs 0 ((stv l)) V
 have l1_0 := hargs 1 (.int .i64 lo) V
 have l2_0 := hargs 2 (.int .i64 hi) V
 clear hargs; replace Y0 : SzN A0 61 := ⟨Y0⟩
 have hS := St.nil w
 refine wp_seq_k fun K1 H1 => region_in ?_
 refine W_v V V (V_asg V V) (W_v V V (V_asg V V) ?_)
 refine W_end (gen_Q fun A2 E2 => ?_)
 have Y2 := szq E2
 have F2 := (((fsE E2 (cq2 (FS.n hdf0) V)).c (lookE E2 0 (es2 V l0_0))).c (lookE E2 1 (es2 V l1_0))).c (lookE E2 2 (es2 V l2_0))
 clear E2 Y0 hdf0 l0_0 l1_0 l2_0
 refine tk H1 (wp_seq_k fun K3 H3 => ?_)
 refine wp_seq_k fun K4 H4 => region_in ?_
 refine W_v V V (V_mov V (fg2 F2)) ?_
 refine W_call V V V Try.func96 (by kernel_rfl) V (args1 (et V)) (qdec_c  (by first | with_reducible assumption | omega) (by first | with_reducible assumption | omega)) ?_
 rintro _ w5 ⟨rfl, hP5⟩
 refine ⟨_, rfl, ?_⟩
 have S5 := hS.join hP5
 replace S5 : St w NoX [] w5 := S5
 refine W_v V V (V_notT V (et V)) ?_
 refine W_end (gen_Q fun A6 E6 => ?_)
 have Y6 := szq E6
 have F6 := fsE E6 (ck (cq2 F2 V) V V)
 clear E6 Y2 F2
 refine tk H4 ?_
 refine cond_f (fg0 F6) ?_
 refine wp_skip ?_
 refine tk H3 (wp_seq_k fun K7 H7 => region_in ?_)
 refine W_v V V (V_mov V (fg3 F6)) ?_
 have k8 : 0 < l.length := by first | omega | (simp only [List.length_cons, List.length_nil]; omega) | decide
 obtain ⟨y8, hy8⟩ := get_some (xs := l) (k := 0) k8
 have hu8 := y8.toNat_lt
 have hd8 := dg_at h1 h2 hy8
 refine W_v V V (V_idxT V (et V) V (by omega) hy8 Try.underlying9) ?_
 refine W_v V V (V_eql V (et V) V) ?_
 refine W_v V V (V_asg V (et V)) ?_
 refine W_end (gen_Q fun A9 E9 => ?_)
 have Y9 := szq E9
 have F9 := fsE E9 (ck (cq3 F6 V) V V)
 clear E9 Y6 F6
 refine tk H7 (wp_seq_k fun K10 H10 => region_in ?_)
 refine W_v V V (V_asg V V) ?_
 refine W_end (gen_Q fun A11 E11 => ?_)
 have Y11 := szq E11
 have F11 := fsE E11 (ck F9 V V)
 clear E11 Y9 F9
 refine tk H10 (wp_seq_k fun K12 H12 => ?_)
 refine wp_seq_k fun K13 H13 => region_in ?_
 refine W_v V V (V_asg V V) ?_
 refine W_end (gen_Q fun A14 E14 => ?_)
 have Y14 := szq E14
 have F14 := fsE E14 (ck F11 V V)
 clear E14 Y11 F11
 refine tk H13 (wp_block ?_)
 -- loop 6
 refine loopX (fun mz A' w' => SzN A' 61 ∧ A'.defers = [] ∧ (∃ (k : Nat) (n : Int), (mz = l.length - k) ∧ (k ≤ l.length) ∧ (k = 0 → n = 0) ∧ (k = 1 → n = 48 - ((l.getD 0 0).toNat : Int)) ∧ (EV A' (.tmp 10) = .int .i64 (k : Int)) ∧ (EV A' (.tmp 9) = .int .i64 n) ∧ (EV A' (.tmp 0) = EV A14 (.tmp 0)) ∧ (EV A' (.tmp 1) = EV A14 (.tmp 1)) ∧ (EV A' (.tmp 2) = EV A14 (.tmp 2)) ∧ (EV A' (.tmp 8) = EV A14 (.tmp 8)) ∧ (St w NoX [] w'))) (l.length - 0) ⟨Y14, F14.d, 0, 0, rfl, (by omega), (fun _ => rfl), (fun h => by omega), (((fg0 F14)).trans (by first | rfl | (simp; done) | (congr 1; omega))), (((fg1 F14)).trans (by first | rfl | (simp; done) | (congr 1; omega))), rfl, rfl, rfl, rfl, S5⟩ ?_
 clear S5
 rintro n15 A15 w15 ⟨Y15, hdf15, k, n, hm15, hk, hn0, hn1, l10_15, l9_15, u0_15, u1_15, u2_15, u8_15, S15⟩
 have l0_15 := u0_15.trans (fg6 F14)
 have l1_15 := u1_15.trans (fg5 F14)
 have l2_15 := u2_15.trans (fg4 F14)
 have l8_15 := u8_15.trans (fg2 F14)
 refine wp_seq_k fun K16 H16 => ?_
 refine wp_seq_k fun K17 H17 => region_in ?_
 refine W_v V V (V_mov V l10_15) (W_v V V (V_mov V (es V l0_15)) ?_)
 refine W_v V V (V_lenT V (et V) Try.underlying9) ?_
 refine W_v V V (V_lss V (es2 V (et V)) (et V)) ?_
 refine W_end (gen_Q fun A18 E18 => ?_)
 have Y18 := szq E18
 have F18 := ((((((fsE E18 (ck (cq3 (FS.n hdf15) V) V V)).c (lookE E18 0 (es4 V l0_15))).c (lookE E18 1 (es4 V l1_15))).c (lookE E18 2 (es4 V l2_15))).c (lookE E18 8 (es4 V l8_15))).c (lookE E18 9 (es4 V l9_15))).c (lookE E18 10 (es4 V l10_15))
 clear E18 Y15 hdf15 l10_15 l9_15 l0_15 l1_15 l2_15 l8_15
 refine tk H17 ?_
 refine cond_dec (fg6 F18) (fun c19 => ?_) (fun c19 => ?_)
 ·refine wp_skip ?_
  refine tk H16 (wp_seq_k fun K20 H20 => ?_)
  refine wp_block ?_
  refine wp_seq_k fun K21 H21 => ?_
  refine wp_seq_k fun K22 H22 => region_in ?_
  refine W_v V V (V_mov V (fg5 F18)) (W_v V V (V_mov V (es V (fg0 F18))) ?_)
  have k23 : k < l.length := by first | omega | (simp only [List.length_cons, List.length_nil]; omega) | decide
  obtain ⟨y23, hy23⟩ := get_some (xs := l) (k := k) k23
  have hu23 := y23.toNat_lt
  have hd23 := dg_at h1 h2 hy23
  refine W_v V V (V_idxT V (es V (et V)) (et V) (by omega) hy23 Try.underlying9) ?_
  refine W_v V V (V_eql V (et V) V) ?_
  refine W_end (gen_Q fun A24 E24 => ?_)
  have Y24 := szq E24
  have F24 := fsE E24 (ck (cq3 F18 V) V V)
  clear E24 Y18 F18
  refine tk H22 ?_
  refine cond_not (fg0 F24) (by rw [decide_eq_false_iff_not]; omega) ?_
  refine wp_skip ?_
  refine tk H21 (wp_seq_k fun K25 H25 => region_in ?_)
  refine W_v V V (V_mov V (fg6 F24)) (W_v V V (V_mov V (es V (fg1 F24))) ?_)
  refine W_v V V (V_idxT V (es V (et V)) (et V) (by omega) hy23 Try.underlying9) ?_
  refine W_v V V (V_subU8 V (et V) V (by omega) (by omega)) ?_
  refine W_v V V (V_cvt V (et V) Try.underlying5 Try.underlying2 (wrap_i64 (by omega) (by omega))) ?_
  refine W_v V V (V_asg V (et V)) ?_
  refine W_end (gen_Q fun A27 E27 => ?_)
  have Y27 := szq E27
  have F27 := fsE E27 (ck (cq5 F24 V) V V)
  clear E27 Y24 F24
  refine tk H25 (wp_seq_k fun K28 H28 => ?_)
  refine wp_seq_k fun K29 H29 => region_in ?_
  refine W_v V V (V_mov V (fg3 F27)) (W_v V V (V_mov V (es V (fg0 F27))) ?_)
  refine W_v V V (V_add V V (et V) (by omega) (by omega)) ?_
  refine W_v V V (V_quoN V (et V) V (by omega) (by omega)) ?_
  refine W_v V V (V_lss V (es3 V (et V)) (et V)) ?_
  refine W_end (gen_Q fun A30 E30 => ?_)
  have Y30 := szq E30
  have F30 := fsE E30 (ck (cq4 F27 V) V V)
  clear E30 Y27 F27
  refine tk H29 ?_
  refine cond_not (fg0 F30) (by rw [decide_eq_false_iff_not]; exact Int.not_lt.2 (Int.le_trans (td_rng ⟨by omega, by omega⟩ (by omega)).2 (by omega))) ?_
  refine wp_skip (tk H28 ?_)
  refine region_in ?_
  refine W_v V V (V_mov V (fg4 F30)) ?_
  refine W_v V V (V_mul V V (et V) (by omega) (by omega)) ?_
  refine W_v V V (V_mov V (es2 V (fg1 F30))) ?_
  refine W_v V V (V_sb V (es V (et V)) (et V) (by omega) (by omega)) ?_
  refine W_v V V (V_asg V (et V)) ?_
  refine W_end (gen_Q fun A31 E31 => ?_)
  have Y31 := szq E31
  have F31 := fsE E31 (ck (cq4 (fx4 F30) V) V V)
  clear E31 Y30 F30
  refine inb_n (tk H20 ?_)
  refine region_in ?_
  refine W_v V V (V_mov V (fg4 F31)) ?_
  refine W_v V V (V_add V (et V) V (by omega) (by omega)) ?_
  refine W_v V V (V_asg V (et V)) ?_
  refine W_end (gen_Q fun A32 E32 => ?_)
  have Y32 := szq E32
  have F32 := fsE E32 (ck (cq2 (fx4 F31) V) V V)
  clear E32 Y31 F31
  refine then_n ⟨l.length - (k + 1), by simp only [hm15]; omega, Y32, F32.d, (k + 1), ((10 * n) - ((y23.toNat : Int) - 48)), rfl, (by omega), (fun h => by omega), (fun h => by omega), (((fg0 F32)).trans (by first | rfl | (simp; done) | (congr 1; omega))), (((fg1 F32)).trans (by first | rfl | (simp; done) | (congr 1; omega))), (((fg8 F32)).trans (fg6 F14).symm), (((fg7 F32)).trans (fg5 F14).symm), (((fg6 F32)).trans (fg4 F14).symm), (((fg5 F32)).trans (fg2 F14).symm), S15⟩
 refine wp_exit (then_exit (then_exit ?_))
 refine inb_hit ?_
 refine tk H12 (wp_seq_k fun K33 H33 => ?_)
 refine wp_seq_k fun K34 H34 => region_in ?_
 refine W_v V V (V_mov V (fg2 F18)) ?_
 refine W_v V V (V_notd V (et V)) ?_
 refine W_sure (c' := true) V V (V_mov V (et V)) (by rw [decide_eq_true_eq]; omega) ?_
 refine W_v V (xwt V V (et V)) (V_mov V (es3 V (fg1 F18))) ?_
 refine W_v V (xwt V V (es V (et V))) (V_eql V (et V) V) ?_
 refine W_v V V (V_pickT V (es2 V (et V)) (et V)) ?_
 refine W_end (gen_Q fun A35 E35 => ?_)
 have Y35 := szq E35
 have F35 := fsE E35 (ck (cq5 F18 V) V V)
 clear E35 Y18 F18
 refine tk H34 ?_
 refine cond_not (fg0 F35) (by rw [decide_eq_false_iff_not]; omega) ?_
 refine wp_skip ?_
 refine tk H33 (wp_seq_k fun K36 H36 => ?_)
 refine wp_seq_k fun K37 H37 => region_in ?_
 refine W_v V V (V_mov V (fg3 F35)) ?_
 refine W_v V V (V_notd V (et V)) ?_
 refine W_end (gen_Q fun A38 E38 => ?_)
 have Y38 := szq E38
 have F38 := fsE E38 (ck (cq1 F35 V) V V)
 clear E38 Y35 F35
 refine tk H37 ?_
 refine cond_sure (fg0 F38) (by rw [decide_eq_true_eq]; omega) ?_
 refine region_in ?_
 refine W_v V V (V_mov V (fg3 F38)) ?_
 refine W_v V V (V_negI V (et V) (by omega) (by omega)) ?_
 refine W_v V V (V_asg V (et V)) ?_
 refine W_end (gen_Q fun A39 E39 => ?_)
 have Y39 := szq E39
 have F39 := fsE E39 (ck (cq2 (fx3 F38) V) V V)
 clear E39 Y38 F38
 refine tk H36 (wp_seq_k fun K40 H40 => ?_)
 refine wp_seq_k fun K41 H41 => region_in ?_
 refine W_v V V (V_mov V (fg0 F39)) (W_v V V (V_mov V (es V (fg6 F39))) ?_)
 refine W_v V V (V_lss V (es V (et V)) (et V)) ?_
 refine W_sure (c' := false) V V (V_mov V (et V)) (by rw [decide_eq_false_iff_not]; omega) ?_
 refine W_v V (xwt V V (et V)) (V_mov V (es4 V (fg0 F39))) ?_
 refine W_v V (xwt V V (es V (et V))) (V_mov V (es5 V (fg5 F39))) ?_
 refine W_v V (xwt V V (es2 V (et V))) (V_gtr V (es V (et V)) (et V)) ?_
 refine W_v V V (V_pickF V (es3 V (et V)) (et V)) ?_
 refine W_end (gen_Q fun A42 E42 => ?_)
 have Y42 := szq E42
 have F42 := fsE E42 (ck (cq7 F39 V) V V)
 clear E42 Y39 F39
 refine tk H41 ?_
 refine cond_not (fg0 F42) (by rw [decide_eq_false_iff_not]; omega) ?_
 refine wp_skip ?_
 refine tk H40 (wp_seq_k fun K43 H43 => region_in ?_)
 refine W_v V V (V_mov V (fg1 F42)) (W_v V V (V_asg V (et V)) (W_v V V (V_asg V V) ?_))
 refine W_end (gen_Q fun A44 E44 => ?_)
 have Y44 := szq E44
 have F44 := fsE E44 (ck (ck (cq1 F42 V) V V) V V)
 clear E44 Y42 F42
 refine tk H43 (wp_ret ?_)
 refine ret_in (results_2 Try.results86 (rv_tmp (fg1 F44)) (rv_tmp (fg0 F44))) F44.d ?_
 rw [show ((l.getD 0 0).toNat : Int) - 48 = (-n) by omega]
 exact ⟨rfl, S15.fin0⟩

set_option maxHeartbeats 4000000 in
theorem qfld_c {kd : Int} {a : Int} {b : Int} {f : Int} {p : Int} {q : Int} {u : Int} {c : Int} {l : List UInt8} {qd : Bool} {w : World}  (h1 : l.length = 1) (h2 : 48 ≤ (l.getD 0 0).toNat ∧ (l.getD 0 0).toNat ≤ 57) (hc : c ≠ 118) (hqd : qd = false) :
  Calls Try.prog 79 #[.agg #[.int .i64 kd, .int .i64 a, .int .i64 b, .int .i64 f, .int .i64 p, .int .i64 q, .int .u64 u], .int .u8 c, .agg #[stv l, .bool qd]] w fun e w' => e = .returned (.tuple #[.agg #[.int .i64 kd, .int .i64 (if c = 97 then (((l.getD 0 0).toNat : Int) - 48) else a), .int .i64 (if c = 98 then (((l.getD 0 0).toNat : Int) - 48) else b), .int .i64 (if c = 102 then (((l.getD 0 0).toNat : Int) - 48) else f), .int .i64 (if c = 112 then (((l.getD 0 0).toNat : Int) - 48) else p), .int .i64 (if c = 97 ∨ c = 98 ∨ c = 102 ∨ c = 112 then q else (((l.getD 0 0).toNat : Int) - 48)), .int .u64 u], .int .i64 0]) ∧ St w NoX [] w' := by
 refine calls_in 38 Try.func79 V V (by simp) (fun A0 Y0 hdf0 hargs => ?_)
 have l0_0 := hargs 0 (.agg #[.int .i64 kd, .int .i64 a, .int .i64 b, .int .i64 f, .int .i64 p, .int .i64 q, .int .u64 u]) V
 have l1_0 := hargs 1 (.int .u8 c) V
 have l2_0 := hargs 2 (.agg #[stv l, .bool qd]) V
 clear hargs; replace Y0 : SzN A0 38 := ⟨Y0⟩
 have hS := St.nil w
 refine wp_seq_k fun K1 H1 => region_in ?_
 refine W_boxS (zs := #[.int .i64 (kd), .int .i64 (a), .int .i64 (b), .int .i64 (f), .int .i64 (p), .int .i64 (q), .int .u64 (u)]) hS V V V l0_0 (by rfl) (fun g2 w2 c2 hc2 S2 => ?_)
 replace S2 : St w NoX [c2] w2 := S2
 refine W_boxS (zs := #[(stv l), .bool (qd)]) S2 V V V (es V l2_0) (by rfl) (fun g3 w3 c3 hc3 S3 => ?_)
 replace S3 : St w NoX [c3, c2] w3 := S3
 refine W_allocS (z := .agg #[.int .i64 0, .int .i64 0, .int .i64 0, .int .i64 0, .int .i64 0, .int .i64 0, .int .u64 0]) (zs := #[.int .i64 0, .int .i64 0, .int .i64 0, .int .i64 0, .int .i64 0, .int .i64 0, .int .u64 0]) S3 V V V (by kernel_rfl) (by rfl) (fun g4 w4 c4 hc4 S4 => ?_)
 replace S4 : St w NoX [c4, c3, c2] w4 := S4
 refine W_v V V (V_asg V V) ?_
 refine W_end (gen_Q fun A5 E5 => ?_)
 have Y5 := szq E5
 have F5 := (fsE E5 (cq1 (ck (ck (ck (FS.n hdf0) V V) V V) V V) V)).c (lookE E5 1 (es4 V l1_0))
 clear E5 Y0 hdf0 l0_0 l1_0 l2_0
 refine tk H1 (wp_seq_k fun K6 H6 => ?_)
 refine wp_seq_k fun K7 H7 => region_in ?_
 refine W_v V V (V_fa (off' := 1) V (fg2 F5) Try.underlying142 V (by decide +kernel) V) ?_
 refine W_r V V (xlC (v := .bool (qd)) V (et V) (S4.obj 1 V hc3) Try.underlying4) ?_
 refine W_end (gen_Q fun A8 E8 => ?_)
 have Y8 := szq E8
 have F8 := fsE E8 (ck (cq1 F5 V) V V)
 clear E8 Y5 F5
 refine tk H7 ?_
 refine cond_not (fg0 F8) (hqd) ?_
 refine wp_skip ?_
 refine tk H6 (wp_seq_k fun K9 H9 => ?_)
 refine wp_seq_k fun K10 H10 => region_in ?_
 refine W_v V V (V_mov V (fg1 F8)) ?_
 refine W_v V V (V_eql V (et V) V) ?_
 refine W_end (gen_Q fun A11 E11 => ?_)
 have Y11 := szq E11
 have F11 := fsE E11 (ck (cq1 F8 V) V V)
 clear E11 Y8 F8
 refine tk H10 ?_
 refine cond_not (fg0 F11) (by rw [decide_eq_false_iff_not]; omega) ?_
 refine wp_skip ?_
 refine tk H9 (wp_seq_k fun K12 H12 => region_in ?_)
 refine W_v V V (V_fa (off' := 0) V (fg4 F11) Try.underlying142 V (by decide +kernel) V) ?_
 refine W_r V V (xlC (v := (stv l)) V (et V) (S4.obj 1 V hc3) Try.underlying9) ?_
 refine W_call V V V Try.func86 (by kernel_rfl) V (args3 (et V) V V) (qint_c (lo := (-1000000000)) (hi := 1000000000)  (by first | with_reducible assumption | omega) (by first | with_reducible assumption | omega) (by first | with_reducible assumption | omega) (by first | with_reducible assumption | omega)) ?_
 rintro _ w13 ⟨rfl, hP13⟩
 refine ⟨_, rfl, ?_⟩
 have S13 := S4.join hP13
 replace S13 : St w NoX [c4, c3, c2] w13 := S13
 refine W_v V V (V_mov V (et V)) ?_
 refine W_v V V (V_ext (v := .int .i64 ((((l.getD 0 0).toNat : Int) - 48))) V (et V) V) ?_
 refine W_v V V (V_ext (v := .int .i64 (0)) V (es V (et V)) V) ?_
 refine W_v V V (V_asg V (es V (et V))) (W_v V V (V_asg V (es V (et V))) ?_)
 refine W_end (gen_Q fun A14 E14 => ?_)
 have Y14 := szq E14
 have F14 := fsE E14 (ck (ck (cq6 F11 V) V V) V V)
 clear E14 Y11 F11
 have S15 : St w NoX [c4, c2] w13 := S13.sel [0, 2] (by decide) V
 refine tk H12 (wp_seq_k fun K16 H16 => region_in ?_)
 refine W_r V V (VR_ldA V (fg7 F14) (S15.obj 1 V hc2) Try.underlying42 V (by kernel_rfl)) ?_
 refine W_v V V (V_mov V (es V (fg4 F14))) (W_v V V (V_mov V (es2 V (fg1 F14))) ?_)
 refine W_call V V V Try.func87 (by kernel_rfl) V (args3 (es2 V (et V)) (es V (et V)) (et V)) (qset_c (kd := kd) (a := a) (b := b) (f := f) (p := p) (q := q) (u := u) (c := c) (z := (((l.getD 0 0).toNat : Int) - 48))  ) ?_
 rintro _ w17 ⟨rfl, hP17⟩
 refine ⟨_, rfl, ?_⟩
 have S17 := S15.join hP17
 replace S17 : St w NoX [c4, c2] w17 := S17
 refine W_v V V (V_mov V (es4 V (fg0 F14))) ?_
 refine xsA 0 S17 V hc4 V V V (es5 V (fg5 F14)) (es V (et V)) (fun w18 c18 hc18 S18 => ?_)
 replace S18 : St w NoX [c18, c2] w18 := S18
 refine W_v V V (V_asg V (et V)) ?_
 refine W_end (gen_Q fun A19 E19 => ?_)
 have Y19 := szq E19
 have F19 := fsE E19 (ck (cq5 F14 V) V V)
 clear E19 Y14 F14
 have S20 : St w NoX [c18] w18 := S18.sel [0] (by decide) V
 refine tk H16 (wp_ret ?_)
 refine ret_in (results_2 Try.results79 (rv_cellA (fg6 F19) (S20.obj 0 V hc18) Try.underlying42 V (by kernel_rfl)) (rv_tmp (fg0 F19))) F19.d ?_
 exact ⟨rfl, S20.fin0⟩

end Go.Proofs.Ytpgkfndbfocibaa
namespace Go.Proofs.Ytpgkfndbfocibaa
open Go.RowKit Go.Own Go.Own.R Go.Own.G Go.Own.Gr Go.Own.Ml


set_option maxHeartbeats 4000000 in
theorem qquo_c {l : List UInt8} {w : World}  (hq : l.getD 0 0 ≠ 34) :
  Calls Try.prog 83 #[(stv l)] w fun e w' => e = .returned (.tuple #[stv [], .int .i64 0]) ∧ St w NoX [] w' := by
 refine calls_in 75 Try.func83 V V (by simp) (fun A0 Y0 hdf0 hargs => ?_)
 have l0_0 := hargs 0 ((stv l)) V
 clear hargs; replace Y0 : SzN A0 75 := ⟨Y0⟩
 have hS := St.nil w
 refine wp_seq_k fun K1 H1 => region_in ?_
 refine W_v V V (V_asg V V) (W_v V V (V_asg V V) ?_)
 refine W_end (gen_Q fun A2 E2 => ?_)
 have Y2 := szq E2
 have F2 := (fsE E2 (cq2 (FS.n hdf0) V)).c (lookE E2 0 (es2 V l0_0))
 clear E2 Y0 hdf0 l0_0
 refine tk H1 (wp_seq_k fun K3 H3 => ?_)
 refine wp_seq_k fun K4 H4 => region_in ?_
 refine W_v V V (V_mov V (fg0 F2)) ?_
 refine W_v V V (V_lenT V (et V) Try.underlying9) ?_
 refine W_v V V (V_eql V (et V) V) ?_
 refine W_split V V (V_mov V (et V)) (fun c5 => ?_) (fun c5 => ?_)
 ·refine xof V V V (et V) (xof V V V (es V (et V)) (xof V V V (es2 V (et V)) ?_))
  refine W_v V V (V_pickT V (es3 V (et V)) V) ?_
  refine W_end (gen_Q fun A6 E6 => ?_)
  have Y6 := szq E6
  have F6 := fsE E6 (ck (cq7 F2 V) V V)
  clear E6 Y2 F2
  refine tk H4 ?_
  refine cond_t (fg0 F6) ?_
  refine wp_seq_k fun K7 H7 => region_in ?_
  refine W_v V V (V_asg V V) (W_v V V (V_asg V V) ?_)
  refine W_end (gen_Q fun A8 E8 => ?_)
  have Y8 := szq E8
  have F8 := fsE E8 (ck (ck F6 V V) V V)
  clear E8 Y6 F6
  refine tk H7 (wp_ret (then_ret ?_))
  refine ret_in (results_2 Try.results83 (rv_tmp (fg1 F8)) (rv_tmp (fg0 F8))) F8.d ?_
  exact ⟨rfl, hS.fin0⟩
 refine W_v V (xwt V V (et V)) (V_mov V (es4 V (fg0 F2))) ?_
 have k9 : 0 < l.length := by first | omega | (simp only [List.length_cons, List.length_nil]; omega) | decide
 obtain ⟨y9, hy9⟩ := get_some (xs := l) (k := 0) k9
 have hu9 := y9.toNat_lt
 have hq9 := gD8 hy9
 refine W_v V (xwt V V (es V (et V))) (V_idxT V (et V) V (by omega) hy9 Try.underlying9) ?_
 refine W_v V (xwt V V (es2 V (et V))) (V_neq V (et V) V) ?_
 refine W_v V V (V_pickF V (es3 V (et V)) (et V)) ?_
 refine W_end (gen_Q fun A10 E10 => ?_)
 have Y10 := szq E10
 have F10 := fsE E10 (ck (cq7 F2 V) V V)
 clear E10 Y2 F2
 refine tk H4 ?_
 refine cond_sure (fg0 F10) (by rw [decide_eq_true_eq]; intro h; exact hq (hq9.trans (u8_eq (c := 34) (by decide) h))) ?_
 refine wp_seq_k fun K11 H11 => region_in ?_
 refine W_v V V (V_asg V V) (W_v V V (V_asg V V) ?_)
 refine W_end (gen_Q fun A12 E12 => ?_)
 have Y12 := szq E12
 have F12 := fsE E12 (ck (ck F10 V V) V V)
 clear E12 Y10 F10
 refine tk H11 (wp_ret (then_ret ?_))
 refine ret_in (results_2 Try.results83 (rv_tmp (fg1 F12)) (rv_tmp (fg0 F12))) F12.d ?_
 exact ⟨rfl, hS.fin0⟩

set_option maxHeartbeats 4000000 in
theorem qspl_c {l : List UInt8} {w : World}  (hll : 0 < l.length ∧ l.length ≤ 2000) (hq : ∀ b ∈ l, b ≠ 34) (hRb : (splGo l (l.length + 1) 0 []).all (fun w => barB w.1) = true) (hRl : (splGo l (l.length + 1) 0 []).length ≤ 64) :
  Calls Try.prog 77 #[(stv l)] w fun e w' => ∃ v, e = .returned (.tuple #[v, .int .i64 0]) ∧ St w NoX [ro 2 sbC v (splGo l (l.length + 1) 0 [])] w' := by
 refine calls_in 84 Try.func77 V V (by simp) (fun A0 Y0 hdf0 hargs => ?_)
 have l0_0 := hargs 0 ((stv l)) V
 clear hargs; replace Y0 : SzN A0 84 := ⟨Y0⟩
 have hS := St.nil w
 refine wp_seq_k fun K1 H1 => region_in ?_
 refine W_v V V (V_asg V V) (W_v V V (V_asg V V) ?_)
 refine W_end (gen_Q fun A2 E2 => ?_)
 have Y2 := szq E2
 have F2 := (fsE E2 (cq2 (FS.n hdf0) V)).c (lookE E2 0 (es2 V l0_0))
 clear E2 Y0 hdf0 l0_0
 refine tk H1 (wp_seq_k fun K3 H3 => ?_)
 refine wp_seq_k fun K4 H4 => region_in ?_
 refine W_v V V (V_mov V (fg0 F2)) ?_
 refine W_v V V (V_lenT V (et V) Try.underlying9) ?_
 refine W_v V V (V_gtr V (et V) V) ?_
 refine W_end (gen_Q fun A5 E5 => ?_)
 have Y5 := szq E5
 have F5 := fsE E5 (ck (cq2 F2 V) V V)
 clear E5 Y2 F2
 refine tk H4 ?_
 refine cond_not (fg0 F5) (by rw [decide_eq_false_iff_not]; omega) ?_
 refine wp_skip ?_
 refine tk H3 (wp_seq_k fun K6 H6 => ?_)
 refine wp_seq_k fun K7 H7 => region_in ?_
 refine W_v V V (V_mov V (fg1 F5)) ?_
 refine W_v V V (V_eqlT V (et V) V) ?_
 refine W_end (gen_Q fun A8 E8 => ?_)
 have Y8 := szq E8
 have F8 := fsE E8 (ck (cq1 F5 V) V V)
 clear E8 Y5 F5
 refine tk H7 ?_
 refine cond_not (fg0 F8) (by rw [decide_eq_false_iff_not]; intro q; subst q; simp at hll) ?_
 refine wp_skip ?_
 refine tk H6 (wp_seq_k fun K9 H9 => region_in ?_)
 refine W_v V V (V_asg V V) ?_
 refine W_end (gen_Q fun A10 E10 => ?_)
 have Y10 := szq E10
 have F10 := fsE E10 (ck F8 V V)
 clear E10 Y8 F8
 refine tk H9 (wp_seq_k fun K11 H11 => region_in ?_)
 refine W_v V V (V_asg V V) ?_
 refine W_end (gen_Q fun A12 E12 => ?_)
 have Y12 := szq E12
 have F12 := fsE E12 (ck F10 V V)
 clear E12 Y10 F10
 refine tk H11 (wp_seq_k fun K13 H13 => region_in ?_)
 refine W_v V V (V_asg V V) ?_
 refine W_end (gen_Q fun A14 E14 => ?_)
 have Y14 := szq E14
 have F14 := fsE E14 (ck F12 V V)
 clear E14 Y12 F12
 refine tk H13 (wp_seq_k fun K15 H15 => ?_)
 refine wp_block ?_
 obtain ⟨c16, hc16, S16⟩ := hS.pnil (s := 2)
 -- loop 8
 refine loopX (fun mz A' w' => SzN A' 84 ∧ A'.defers = [] ∧ (∃ (f : Nat) (pos : Nat) (acc : List (List UInt8 × Bool)) (bv : Value), (mz = f + 1) ∧ (l.length ≤ f + pos) ∧ (pos ≤ l.length) ∧ (splGo l (f + 1) pos acc = (splGo l (l.length + 1) 0 [])) ∧ (EV A' (.tmp 6) = .int .i64 (pos : Int)) ∧ (EV A' (.tmp 5) = .bool false) ∧ (EV A' (.tmp 4) = bv) ∧ (EV A' (.tmp 0) = EV A14 (.tmp 0)) ∧ (St w NoX [ro 2 sbC bv acc] w'))) (l.length + 1) ⟨Y14, F14.d, l.length, 0, [], (.slice none 0 0), rfl, (by omega), (by omega), rfl, (((fg0 F14)).trans (by first | rfl | (simp; done) | (congr 1; omega))), (((fg1 F14)).trans (by first | rfl | (simp; done) | (congr 1; omega))), (((fg2 F14)).trans (by first | rfl | (simp; done) | (congr 1; omega))), rfl, (by have q0 : c16 = ro 2 sbC (.slice none 0 0) [] := hc16.trans (rfl); subst q0; exact S16)⟩ ?_
 clear S16 hc16
 rintro n17 A17 w17 ⟨Y17, hdf17, f, pos, acc, bv, hm17, hf, hp, hS, l6_17, l5_17, l4_17, u0_17, S17⟩
 have l0_17 := u0_17.trans (fg5 F14)
 obtain ⟨c16_17, hc16_17, S17⟩ := gen1 S17
 refine wp_block ?_
 refine wp_seq_k fun K18 H18 => region_in ?_
 refine W_v V V (V_mov V l0_17) (W_v V V (V_mov V (es V l6_17)) ?_)
 refine W_v V V (V_sliceLT (a := pos) V (es V (et V)) (et V) (by omega) (by omega) Try.underlying9) ?_
 refine W_call V V V Try.func83 (by kernel_rfl) V (args1 (et V)) (qquo_c  (by first | with_reducible assumption | exact nq_drop hq)) ?_
 rintro _ w20 ⟨rfl, hP20⟩
 refine ⟨_, rfl, ?_⟩
 have S20 := S17.join hP20
 replace S20 : St w NoX [c16_17] w20 := S20
 refine W_v V V (V_mov V (et V)) ?_
 refine W_v V V (V_ext (v := (stv ([] : List UInt8))) V (et V) V) ?_
 refine W_v V V (V_ext (v := .int .i64 0) V (es V (et V)) V) ?_
 refine W_v V V (V_asg V (es V (et V))) (W_v V V (V_asg V (es V (et V))) ?_)
 refine W_end (gen_Q fun A21 E21 => ?_)
 have Y21 := szq E21
 have F21 := ((((fsE E21 (ck (ck (cq7 (FS.n hdf17) V) V V) V V)).c (lookE E21 0 (es8 V (es V l0_17)))).c (lookE E21 4 (es8 V (es V l4_17)))).c (lookE E21 5 (es8 V (es V l5_17)))).c (lookE E21 6 (es8 V (es V l6_17)))
 clear E21 Y17 hdf17 l6_17 l5_17 l4_17 l0_17
 refine tk H18 (wp_seq_k fun K22 H22 => region_in ?_)
 refine W_v V V (V_mov V (fg5 F21)) ?_
 refine W_v V V (xbS (n := 2) (z := .agg #[.string ByteArray.empty, .bool false]) V (parts2 (et V) V)) ?_
 refine W_allocS (z := .agg #[.string ByteArray.empty, .bool false]) (zs := #[.string ByteArray.empty, .bool false]) S20 V V V (by kernel_rfl) (by rfl) (fun g23 w23 c23 hc23 S23 => ?_)
 replace S23 : St w NoX [c23, c16_17] w23 := S23
 refine xsA 0 S23 V hc23 V V V (et V) (es V (et V)) (fun w24 c24 hc24 S24 => ?_)
 replace S24 : St w NoX [c24, c16_17] w24 := S24
 refine W_end (gen_Q fun A25 E25 => ?_)
 have Y25 := szq E25
 have F25 := fsE E25 (ck (cq2 F21 V) V V)
 clear E25 Y21 F21
 refine tk H22 (wp_seq_k fun K26 H26 => ?_)
 refine wp_seq_k fun K27 H27 => region_in ?_
 refine W_v V V (V_mov V (fg5 F25)) ?_
 refine W_v V V (V_eql V (et V) V) ?_
 refine W_end (gen_Q fun A28 E28 => ?_)
 have Y28 := szq E28
 have F28 := fsE E28 (ck (cq1 F25 V) V V)
 clear E28 Y25 F25
 refine tk H27 ?_
 refine cond_sure (fg0 F28) (by simp) ?_
 refine wp_seq_k fun K29 H29 => ?_
 refine wp_block ?_
 -- loop 11
 have hac := spl_len hS hRl
 refine loopX (fun mz A' w' => SzN A' 84 ∧ A'.defers = [] ∧ (∃ (n : Nat), (mz = l.length - n) ∧ (∀ j, j < n → ∀ c, l[pos + j]? = some c → c ≠ 32) ∧ (pos + n ≤ l.length) ∧ (EV A' (.tmp 8) = .int .i64 (n : Int)) ∧ (EV A' (.tmp 0) = EV A28 (.tmp 0)) ∧ (EV A' (.tmp 4) = EV A28 (.tmp 4)) ∧ (EV A' (.tmp 5) = EV A28 (.tmp 5)) ∧ (EV A' (.tmp 6) = EV A28 (.tmp 6)) ∧ (EV A' (.tmp 9) = EV A28 (.tmp 9)) ∧ (St w NoX [bx g23 142 #[(stv ([] : List UInt8)), .bool true], ro 2 sbC bv acc] w'))) (l.length - 0) ⟨Y28, F28.d, 0, rfl, (fun j hj => by omega), (by omega), (((fg6 F28)).trans (by first | rfl | (simp; done) | (congr 1; omega))), rfl, rfl, rfl, rfl, rfl, (by subst hc24 hc16_17; exact S24)⟩ ?_
 clear S24 hc24 hc16_17
 rintro n30 A30 w30 ⟨Y30, hdf30, n, hm30, hz, hn, l8_30, u0_30, u4_30, u5_30, u6_30, u9_30, S30⟩
 have l0_30 := u0_30.trans (fg5 F28)
 have l4_30 := u4_30.trans (fg4 F28)
 have l5_30 := u5_30.trans (fg3 F28)
 have l6_30 := u6_30.trans (fg2 F28)
 have l9_30 := u9_30.trans (fg1 F28)
 obtain ⟨c24_30, c16_30, hc24_30, hc16_30, S30⟩ := gen2 S30
 refine wp_seq_k fun K31 H31 => ?_
 refine wp_seq_k fun K32 H32 => region_in ?_
 refine W_v V V (V_mov V l6_30) (W_v V V (V_mov V (es V l8_30)) ?_)
 refine W_v V V (V_add V (es V (et V)) (et V) (by omega) (by omega)) ?_
 refine W_v V V (V_mov V (es3 V l0_30)) ?_
 refine W_v V V (V_lenT V (et V) Try.underlying9) ?_
 refine W_v V V (V_lss V (es2 V (et V)) (et V)) ?_
 refine W_split V V (V_mov V (et V)) (fun c33 => ?_) (fun c33 => ?_)
 ·refine W_v V (xwt V V (et V)) (V_mov V (es7 V l0_30)) ?_
  refine W_v V (xwt V V (es V (et V))) (V_mov V (es8 V l6_30)) ?_
  refine W_v V (xwt V V (es2 V (et V))) (V_mov V (es8 V (es V l8_30))) ?_
  refine W_v V (xwt V V (es3 V (et V))) (V_add V (es V (et V)) (et V) (by omega) (by omega)) ?_
  have k34 : (pos + n) < l.length := by first | omega | (simp only [List.length_cons, List.length_nil]; omega) | decide
  obtain ⟨y34, hy34⟩ := get_some (xs := l) (k := (pos + n)) k34
  have hu34 := y34.toNat_lt
  refine W_v V (xwt V V (es4 V (et V))) (V_idxT V (es3 V (et V)) (et V) (by omega) hy34 Try.underlying9) ?_
  refine W_v V (xwt V V (es5 V (et V))) (V_neq V (et V) V) ?_
  refine W_v V V (V_pickT V (es6 V (et V)) (et V)) ?_
  refine W_end (gen_Q fun A35 E35 => ?_)
  have Y35 := szq E35
  have F35 := ((((((fsE E35 (ck (ck (ck (ck (ck (ck (ck (cq7 (FS.n hdf30) V) V V) V V) V V) V V) V V) V V) V V)).c (lookE E35 0 (es8 V (es6 V l0_30)))).c (lookE E35 4 (es8 V (es6 V l4_30)))).c (lookE E35 5 (es8 V (es6 V l5_30)))).c (lookE E35 6 (es8 V (es6 V l6_30)))).c (lookE E35 8 (es8 V (es6 V l8_30)))).c (lookE E35 9 (es8 V (es6 V l9_30)))
  clear E35 Y30 hdf30 l8_30 l0_30 l4_30 l5_30 l6_30 l9_30
  refine tk H32 ?_
  refine cond_dec (fg6 F35) (fun c36 => ?_) (fun c36 => ?_)
  ·refine wp_skip (tk H31 (wp_block ?_))
   refine region_in ?_
   refine W_v V V (V_mov V (fg1 F35)) ?_
   refine W_v V V (V_add V (et V) V (by omega) (by omega)) ?_
   refine W_v V V (V_asg V (et V)) ?_
   refine W_end (gen_Q fun A37 E37 => ?_)
   have Y37 := szq E37
   have F37 := fsE E37 (ck (cq2 (fx1 F35) V) V V)
   clear E37 Y35 F35
   refine inb_n ?_
   refine then_n ⟨l.length - (n + 1), by simp only [hm30]; omega, Y37, F37.d, (n + 1), rfl, (nz_stepW hz hy34 (by omega)), (by omega), (((fg0 F37)).trans (by first | rfl | (simp; done) | (congr 1; omega))), (((fg5 F37)).trans (fg5 F28).symm), (((fg4 F37)).trans (fg4 F28).symm), (((fg3 F37)).trans (fg3 F28).symm), (((fg2 F37)).trans (fg2 F28).symm), (((fg1 F37)).trans (fg1 F28).symm), (by subst hc24_30 hc16_30; exact S30)⟩
  have hwe := wE_at hz hn (.inr (by rw [hy34, u8_eq (c := 32) (by decide) (show (y34.toNat : Int) = ((32 : Nat) : Int) by omega)]; rfl))
  refine wp_exit (then_exit (then_exit ?_))
  refine inb_hit ?_
  refine tk H29 (wp_seq_k fun K38 H38 => region_in ?_)
  refine W_v V V (V_mov V (fg5 F35)) (W_v V V (V_mov V (es V (fg2 F35))) (W_v V V (V_mov V (es2 V (fg2 F35))) (W_v V V (V_mov V (es3 V (fg1 F35))) ?_)))
  refine W_v V V (V_add V (es V (et V)) (et V) (by omega) (by omega)) ?_
  refine W_v V V (V_sliceT (a := pos) (b := (pos + n)) V (es4 V (et V)) (es3 V (et V)) (et V) (by omega) (by omega) (by omega) (by omega) Try.underlying9) ?_
  refine W_v V V (xbS (n := 2) (z := .agg #[.string ByteArray.empty, .bool false]) V (parts1 (et V))) ?_
  refine xsA 0 S30 V hc24_30 V V V (es7 V (fg0 F35)) (et V) (fun w40 c40 hc40 S40 => ?_)
  replace S40 : St w NoX [c40, c16_30] w40 := S40
  refine W_end (gen_Q fun A41 E41 => ?_)
  have Y41 := szq E41
  have F41 := fsE E41 (cq7 F35 V)
  clear E41 Y35 F35
  refine tk H38 (wp_seq_k fun K42 H42 => region_in ?_)
  refine W_v V V (V_fa (off' := 0) V (fg0 F41) Try.underlying142 V (by decide +kernel) V) ?_
  refine W_r V V (xlC (v := (stv ((l.take (pos + n)).drop pos))) V (et V) (S40.obj 0 V hc40) Try.underlying9) ?_
  refine W_call V V V Try.func84 (by kernel_rfl) V (args1 (et V)) (qbar_c  (by first | with_reducible assumption | (rw [List.length_drop, List.length_take]; omega))) ?_
  rintro _ w43 ⟨rfl, hP43⟩
  refine ⟨_, rfl, ?_⟩
  have S43 := S40.join hP43
  replace S43 : St w NoX [c40, c16_30] w43 := S43
  refine W_v V V (V_not V (et V)) ?_
  refine W_end (gen_Q fun A44 E44 => ?_)
  have Y44 := szq E44
  have F44 := fsE E44 (ck (cq3 F41 V) V V)
  clear E44 Y41 F41
  refine tk H42 ?_
  refine cond_not (fg0 F44) (by rw [spl_bar hS hRb hwe]; rfl) ?_
  refine wp_skip ?_
  refine tk H26 (wp_seq_k fun K45 H45 => region_in ?_)
  refine W_v V V (V_mov V (fg5 F44)) ?_
  refine W_r V V (VR_ldA V (es V (fg1 F44)) (S43.obj 0 V hc40) Try.underlying142 V (by kernel_rfl)) ?_
  have hll46 : [(((l.take (pos + n)).drop pos), false)].length = 1 := rfl
  refine xsL (vs := [.agg #[(stv ((l.take (pos + n)).drop pos)), .bool false]]) (xs := ([(((l.take (pos + n)).drop pos), false)].flatMap sbC)) 2 S43 V V V (parts1 (et V)) Try.underlying136 (fun g46 w46 c46 hc46 S46 => ?_)
  replace hc46 : c46 = ro 2 sbC (.slice (some ⟨g46, 0, none⟩) 1 1) [(((l.take (pos + n)).drop pos), false)] := hc46
  replace S46 : St w NoX [c46, c40, c16_30] w46 := S46
  refine W_appS 2 2 S46 V hc16_30 V V V (es2 V (et V)) (et V) Try.underlying136 Try.underlying136 (z := .agg #[.string ByteArray.empty, .bool false]) (bytes := 24) (by kernel_rfl) V (by decide) (ow_at (S46.chq 0 V hc46)) (ones_r sbC_one) (by first | omega | (simp; done) | (simp; omega)) (by first | omega | (simp; done) | (simp; omega)) (fun v47 w47 c47 hc47 S47 => ?_)
  replace hc47 : c47 = ro 2 sbC v47 (acc ++ [(((l.take (pos + n)).drop pos), false)]) := hc47.trans (app_eqR (by first | (simp; done) | (rw [List.take_of_length_le (l := List.drop _ _) (by rw [List.length_drop]; exact Nat.le_refl _)])))
  replace S47 : St w NoX [c46, c40, c47] w47 := S47
  refine W_v V V (V_asg V (et V)) ?_
  refine W_end (gen_Q fun A48 E48 => ?_)
  have Y48 := szq E48
  have F48 := fsE E48 (ck (cq4 (fx5 F44) V) V V)
  clear E48 Y44 F44
  have S49 : St w NoX [c40, c47] w47 := S47.sel [1, 2] (by decide) V
  refine tk H45 (wp_seq_k fun K50 H50 => region_in ?_)
  refine W_v V V (V_mov V (fg5 F48)) (W_v V V (V_mov V (et V)) ?_)
  refine W_v V (xwt V V (et V)) (V_fa (off' := 0) V (es2 V (fg2 F48)) Try.underlying142 V (by decide +kernel) V) ?_
  refine W_r V (xwt V V (es V (et V))) (xlC (v := (stv ((l.take (pos + n)).drop pos))) V (et V) (S49.obj 0 V hc40) Try.underlying9) ?_
  refine W_v V (xwt V V (es2 V (et V))) (V_lenT V (et V) Try.underlying9) ?_
  refine W_v V (xwt V V (es3 V (et V))) (V_gtr V (et V) V) ?_
  refine W_v V V (V_pickF V (es4 V (et V)) (et V)) ?_
  refine W_v V V (V_asg V (et V)) ?_
  refine W_end (gen_Q fun A51 E51 => ?_)
  have Y51 := szq E51
  have F51 := fsE E51 (ck (cq1 (ck (ck (ck (ck (cq2 (fx5 F48) V) V V) V V) V V) V V) V) V V)
  clear E51 Y48 F48
  refine tk H50 (wp_seq_k fun K52 H52 => region_in ?_)
  refine W_v V V (V_mov V (fg9 F51)) (W_v V V (V_mov V (es V (fg8 F51))) ?_)
  refine W_v V V (V_add V (es V (et V)) (et V) (by omega) (by omega)) ?_
  refine W_v V V (V_asg V (et V)) ?_
  refine W_end (gen_Q fun A53 E53 => ?_)
  have Y53 := szq E53
  have F53 := fsE E53 (ck (cq3 (fx9 F51) V) V V)
  clear E53 Y51 F51
  refine tk H52 (wp_seq_k fun K54 H54 => ?_)
  refine wp_seq_k fun K55 H55 => region_in ?_
  refine W_v V V (V_mov V (fg0 F53)) (W_v V V (V_mov V (es V (fg10 F53))) ?_)
  refine W_v V V (V_lenT V (et V) Try.underlying9) ?_
  refine W_v V V (V_eql V (es2 V (et V)) (et V)) ?_
  refine W_end (gen_Q fun A56 E56 => ?_)
  have Y56 := szq E56
  have F56 := fsE E56 (ck (cq3 F53 V) V V)
  clear E56 Y53 F53
  refine tk H55 ?_
  refine cond_not (fg0 F56) (by rw [decide_eq_false_iff_not]; omega) ?_
  refine wp_skip ?_
  refine tk H54 (wp_seq_k fun K57 H57 => ?_)
  refine wp_seq_k fun K58 H58 => region_in ?_
  refine W_v V V (V_mov V (fg11 F56)) (W_v V V (V_mov V (es V (fg1 F56))) ?_)
  refine W_v V V (V_idxT V (es V (et V)) (et V) (by omega) hy34 Try.underlying9) ?_
  refine W_v V V (V_neq V (et V) V) ?_
  refine W_end (gen_Q fun A60 E60 => ?_)
  have Y60 := szq E60
  have F60 := fsE E60 (ck (cq3 F56 V) V V)
  clear E60 Y56 F56
  refine tk H58 ?_
  refine cond_not (fg0 F60) (by first | (simp [c36]; done) | exact decide_eq_true (by omega) | exact decide_eq_false (by omega)) ?_
  refine wp_skip (tk H57 ?_)
  refine region_in ?_
  refine W_v V V (V_mov V (fg2 F60)) ?_
  refine W_v V V (V_add V (et V) V (by omega) (by omega)) ?_
  refine W_v V V (V_asg V (et V)) ?_
  refine W_end (gen_Q fun A61 E61 => ?_)
  have Y61 := szq E61
  have F61 := fsE E61 (ck (cq2 (fx2 F60) V) V V)
  clear E61 Y60 F60
  refine inb_n ?_
  have S62 : St w NoX [c47] w47 := S49.sel [1] (by decide) V
  refine then_n ⟨(f - 1) + 1, by simp only [hm17]; omega, Y61, F61.d, (f - 1), (pos + n + 1), (acc ++ [(((l.take (pos + n)).drop pos), false)]), v47, rfl, (by omega), (by omega), (by have q := spl_next hS hwe (by omega); rw [show f - 1 + 1 = f by omega]; exact q), (((fg0 F61)).trans (by first | rfl | (simp; done) | (congr 1; omega))), (((fg3 F61)).trans ((by congr 1; rw [decide_eq_false_iff_not, List.length_drop, List.length_take]; omega))), (((fg8 F61)).trans (by first | rfl | (simp; done) | (congr 1; omega))), (((fg12 F61)).trans (fg5 F14).symm), (by subst hc47; exact S62)⟩
 have hwe := wE_at hz hn (.inl (by omega))
 refine xof V V V (et V) (xof V V V (es V (et V)) (xof V V V (es2 V (et V)) (xof V V V (es3 V (et V)) (xof V V V (es4 V (et V)) (xof V V V (es5 V (et V)) ?_)))))
 refine W_v V V (V_pickF V (es6 V (et V)) V) ?_
 refine W_end (gen_Q fun A63 E63 => ?_)
 have Y63 := szq E63
 have F63 := ((((((fsE E63 (ck (ck (ck (ck (ck (ck (ck (cq7 (FS.n hdf30) V) V V) V V) V V) V V) V V) V V) V V)).c (lookE E63 0 (es8 V (es6 V l0_30)))).c (lookE E63 4 (es8 V (es6 V l4_30)))).c (lookE E63 5 (es8 V (es6 V l5_30)))).c (lookE E63 6 (es8 V (es6 V l6_30)))).c (lookE E63 8 (es8 V (es6 V l8_30)))).c (lookE E63 9 (es8 V (es6 V l9_30)))
 clear E63 Y30 hdf30 l8_30 l0_30 l4_30 l5_30 l6_30 l9_30
 refine tk H32 ?_
 refine cond_f (fg6 F63) ?_
 refine wp_exit (then_exit (then_exit ?_))
 refine inb_hit ?_
 refine tk H29 (wp_seq_k fun K64 H64 => region_in ?_)
 refine W_v V V (V_mov V (fg5 F63)) (W_v V V (V_mov V (es V (fg2 F63))) (W_v V V (V_mov V (es2 V (fg2 F63))) (W_v V V (V_mov V (es3 V (fg1 F63))) ?_)))
 refine W_v V V (V_add V (es V (et V)) (et V) (by omega) (by omega)) ?_
 refine W_v V V (V_sliceT (a := pos) (b := (pos + n)) V (es4 V (et V)) (es3 V (et V)) (et V) (by omega) (by omega) (by omega) (by omega) Try.underlying9) ?_
 refine W_v V V (xbS (n := 2) (z := .agg #[.string ByteArray.empty, .bool false]) V (parts1 (et V))) ?_
 refine xsA 0 S30 V hc24_30 V V V (es7 V (fg0 F63)) (et V) (fun w66 c66 hc66 S66 => ?_)
 replace S66 : St w NoX [c66, c16_30] w66 := S66
 refine W_end (gen_Q fun A67 E67 => ?_)
 have Y67 := szq E67
 have F67 := fsE E67 (cq7 F63 V)
 clear E67 Y63 F63
 refine tk H64 (wp_seq_k fun K68 H68 => region_in ?_)
 refine W_v V V (V_fa (off' := 0) V (fg0 F67) Try.underlying142 V (by decide +kernel) V) ?_
 refine W_r V V (xlC (v := (stv ((l.take (pos + n)).drop pos))) V (et V) (S66.obj 0 V hc66) Try.underlying9) ?_
 refine W_call V V V Try.func84 (by kernel_rfl) V (args1 (et V)) (qbar_c  (by first | with_reducible assumption | (rw [List.length_drop, List.length_take]; omega))) ?_
 rintro _ w69 ⟨rfl, hP69⟩
 refine ⟨_, rfl, ?_⟩
 have S69 := S66.join hP69
 replace S69 : St w NoX [c66, c16_30] w69 := S69
 refine W_v V V (V_not V (et V)) ?_
 refine W_end (gen_Q fun A70 E70 => ?_)
 have Y70 := szq E70
 have F70 := fsE E70 (ck (cq3 F67 V) V V)
 clear E70 Y67 F67
 refine tk H68 ?_
 refine cond_not (fg0 F70) (by rw [spl_bar hS hRb hwe]; rfl) ?_
 refine wp_skip ?_
 refine tk H26 (wp_seq_k fun K71 H71 => region_in ?_)
 refine W_v V V (V_mov V (fg5 F70)) ?_
 refine W_r V V (VR_ldA V (es V (fg1 F70)) (S69.obj 0 V hc66) Try.underlying142 V (by kernel_rfl)) ?_
 have hll72 : [(((l.take (pos + n)).drop pos), false)].length = 1 := rfl
 refine xsL (vs := [.agg #[(stv ((l.take (pos + n)).drop pos)), .bool false]]) (xs := ([(((l.take (pos + n)).drop pos), false)].flatMap sbC)) 2 S69 V V V (parts1 (et V)) Try.underlying136 (fun g72 w72 c72 hc72 S72 => ?_)
 replace hc72 : c72 = ro 2 sbC (.slice (some ⟨g72, 0, none⟩) 1 1) [(((l.take (pos + n)).drop pos), false)] := hc72
 replace S72 : St w NoX [c72, c66, c16_30] w72 := S72
 refine W_appS 2 2 S72 V hc16_30 V V V (es2 V (et V)) (et V) Try.underlying136 Try.underlying136 (z := .agg #[.string ByteArray.empty, .bool false]) (bytes := 24) (by kernel_rfl) V (by decide) (ow_at (S72.chq 0 V hc72)) (ones_r sbC_one) (by first | omega | (simp; done) | (simp; omega)) (by first | omega | (simp; done) | (simp; omega)) (fun v73 w73 c73 hc73 S73 => ?_)
 replace hc73 : c73 = ro 2 sbC v73 (acc ++ [(((l.take (pos + n)).drop pos), false)]) := hc73.trans (app_eqR (by first | (simp; done) | (rw [List.take_of_length_le (l := List.drop _ _) (by rw [List.length_drop]; exact Nat.le_refl _)])))
 replace S73 : St w NoX [c72, c66, c73] w73 := S73
 refine W_v V V (V_asg V (et V)) ?_
 refine W_end (gen_Q fun A74 E74 => ?_)
 have Y74 := szq E74
 have F74 := fsE E74 (ck (cq4 (fx5 F70) V) V V)
 clear E74 Y70 F70
 have S75 : St w NoX [c66, c73] w73 := S73.sel [1, 2] (by decide) V
 refine tk H71 (wp_seq_k fun K76 H76 => region_in ?_)
 refine W_v V V (V_mov V (fg5 F74)) (W_v V V (V_mov V (et V)) ?_)
 refine W_v V (xwt V V (et V)) (V_fa (off' := 0) V (es2 V (fg2 F74)) Try.underlying142 V (by decide +kernel) V) ?_
 refine W_r V (xwt V V (es V (et V))) (xlC (v := (stv ((l.take (pos + n)).drop pos))) V (et V) (S75.obj 0 V hc66) Try.underlying9) ?_
 refine W_v V (xwt V V (es2 V (et V))) (V_lenT V (et V) Try.underlying9) ?_
 refine W_v V (xwt V V (es3 V (et V))) (V_gtr V (et V) V) ?_
 refine W_v V V (V_pickF V (es4 V (et V)) (et V)) ?_
 refine W_v V V (V_asg V (et V)) ?_
 refine W_end (gen_Q fun A77 E77 => ?_)
 have Y77 := szq E77
 have F77 := fsE E77 (ck (cq1 (ck (ck (ck (ck (cq2 (fx5 F74) V) V V) V V) V V) V V) V) V V)
 clear E77 Y74 F74
 refine tk H76 (wp_seq_k fun K78 H78 => region_in ?_)
 refine W_v V V (V_mov V (fg9 F77)) (W_v V V (V_mov V (es V (fg8 F77))) ?_)
 refine W_v V V (V_add V (es V (et V)) (et V) (by omega) (by omega)) ?_
 refine W_v V V (V_asg V (et V)) ?_
 refine W_end (gen_Q fun A79 E79 => ?_)
 have Y79 := szq E79
 have F79 := fsE E79 (ck (cq3 (fx9 F77) V) V V)
 clear E79 Y77 F77
 refine tk H78 (wp_seq_k fun K80 H80 => ?_)
 refine wp_seq_k fun K81 H81 => region_in ?_
 refine W_v V V (V_mov V (fg0 F79)) (W_v V V (V_mov V (es V (fg10 F79))) ?_)
 refine W_v V V (V_lenT V (et V) Try.underlying9) ?_
 refine W_v V V (V_eql V (es2 V (et V)) (et V)) ?_
 refine W_end (gen_Q fun A82 E82 => ?_)
 have Y82 := szq E82
 have F82 := fsE E82 (ck (cq3 F79 V) V V)
 clear E82 Y79 F79
 refine tk H81 ?_
 refine cond_sure (fg0 F82) (by rw [decide_eq_true_eq]; omega) ?_
 refine wp_exit (then_exit (inb_miss V (then_exit ?_)))
 refine inb_hit ?_
 refine tk H15 (wp_seq_k fun K83 H83 => ?_)
 refine wp_seq_k fun K84 H84 => region_in ?_
 refine W_v V V (V_mov V (fg2 F82)) ?_
 refine W_sure (c' := false) V V (V_mov V (et V)) (by rw [decide_eq_false_iff_not, List.length_drop, List.length_take]; omega) ?_
 refine W_v V (xwt V V (et V)) (V_mov V (es2 V (fg7 F82))) ?_
 refine W_v V (xwt V V (es V (et V))) (V_lenS V (et V) (ow_at (S75.chq 1 V hc73)) Try.underlying136) ?_
 refine W_v V (xwt V V (es2 V (et V))) (V_gtr V (et V) V) ?_
 refine W_v V V (V_pickF V (es3 V (et V)) (et V)) ?_
 refine W_end (gen_Q fun A85 E85 => ?_)
 have Y85 := szq E85
 have F85 := fsE E85 (ck (cq5 F82 V) V V)
 clear E85 Y82 F82
 have S86 : St w NoX [c73] w73 := S75.sel [1] (by decide) V
 refine tk H84 ?_
 refine cond_not (fg0 F85) (by rw [decide_eq_false_iff_not, spl_end hS hwe (by omega)]; omega) ?_
 refine wp_skip ?_
 refine tk H83 (wp_seq_k fun K87 H87 => region_in ?_)
 refine W_v V V (V_mov V (fg8 F85)) (W_v V V (V_asg V (et V)) (W_v V V (V_asg V V) ?_))
 refine W_end (gen_Q fun A88 E88 => ?_)
 have Y88 := szq E88
 have F88 := fsE E88 (ck (ck (cq1 F85 V) V V) V V)
 clear E88 Y85 F85
 refine tk H87 (wp_ret ?_)
 refine ret_in (results_2 Try.results77 (rv_tmp (fg1 F88)) (rv_tmp (fg0 F88))) F88.d ?_
 exact ⟨_, rfl, (S86.fin1 0 V (hc73.trans (congrArg (ro 2 sbC _) (spl_end hS hwe (by omega)))))⟩

end Go.Proofs.Ytpgkfndbfocibaa
namespace Go.Proofs.Ytpgkfndbfocibaa
open Go.RowKit Go.Own Go.Own.R Go.Own.G Go.Own.Gr Go.Own.Ml


set_option maxHeartbeats 4000000 in
theorem qprs_c {l : List UInt8} {w : World}  (hll : 0 < l.length ∧ l.length ≤ 2000) (hq : ∀ b ∈ l, b ≠ 34) (hRb : (splGo l (l.length + 1) 0 []).all (fun w => barB w.1) = true) (hok : okW (splGo l (l.length + 1) 0 []) = true) :
  Calls Try.prog 59 #[(stv l)] w fun e w' => e = .returned (.tuple #[.agg #[.int .i64 (prs (splGo l (l.length + 1) 0 [])).kd, .int .i64 (prs (splGo l (l.length + 1) 0 [])).a, .int .i64 (prs (splGo l (l.length + 1) 0 [])).b, .int .i64 (prs (splGo l (l.length + 1) 0 [])).f, .int .i64 (prs (splGo l (l.length + 1) 0 [])).p, .int .i64 (prs (splGo l (l.length + 1) 0 [])).q, .int .u64 (prs (splGo l (l.length + 1) 0 [])).u], .int .i64 0]) ∧ St w NoX [] w' := by
 obtain ⟨k0, hk0⟩ := okW_k hok
 have hRl := okW_l hok
 have hk5 := okW_5 hok
 refine calls_in 87 Try.func59 V V (by simp) (fun A0 Y0 hdf0 hargs => ?_)
 have l0_0 := hargs 0 ((stv l)) V
 clear hargs; replace Y0 : SzN A0 87 := ⟨Y0⟩
 have hS := St.nil w
 refine wp_seq_k fun K1 H1 => region_in ?_
 refine W_allocS (z := .agg #[.int .i64 0, .int .i64 0, .int .i64 0, .int .i64 0, .int .i64 0, .int .i64 0, .int .u64 0]) (zs := #[.int .i64 0, .int .i64 0, .int .i64 0, .int .i64 0, .int .i64 0, .int .i64 0, .int .u64 0]) hS V V V (by kernel_rfl) (by rfl) (fun g2 w2 c2 hc2 S2 => ?_)
 replace S2 : St w NoX [c2] w2 := S2
 refine W_v V V (V_asg V V) ?_
 refine W_end (gen_Q fun A3 E3 => ?_)
 have Y3 := szq E3
 have F3 := (fsE E3 (cq1 (ck (FS.n hdf0) V V) V)).c (lookE E3 0 (es2 V l0_0))
 clear E3 Y0 hdf0 l0_0
 refine tk H1 (wp_seq_k fun K4 H4 => region_in ?_)
 refine W_v V V (V_mov V (fg0 F3)) ?_
 refine W_call V V V Try.func77 (by kernel_rfl) V (args1 (et V)) (qspl_c  (by first | with_reducible assumption | decide +kernel) (by first | with_reducible assumption | decide +kernel) (by first | with_reducible assumption | decide +kernel) (by first | with_reducible assumption | decide +kernel)) ?_
 rintro _ w5 ⟨v_5, rfl, hP5⟩
 refine ⟨_, rfl, ?_⟩
 obtain ⟨c_5, hc_5, hP5⟩ := gen1 hP5
 have S5 := S2.join hP5
 replace S5 : St w NoX [c_5, c2] w5 := S5
 refine W_v V V (V_mov V (et V)) ?_
 refine W_v V V (V_ext (v := v_5) V (et V) V) ?_
 refine W_v V V (V_ext (v := .int .i64 (0)) V (es V (et V)) V) ?_
 refine W_v V V (V_asg V (es V (et V))) (W_v V V (V_asg V (es V (et V))) ?_)
 refine W_end (gen_Q fun A6 E6 => ?_)
 have Y6 := szq E6
 have F6 := fsE E6 (ck (ck (cq5 F3 V) V V) V V)
 clear E6 Y3 F3
 refine tk H4 (wp_seq_k fun K7 H7 => ?_)
 refine wp_seq_k fun K8 H8 => region_in ?_
 refine W_v V V (V_mov V (fg0 F6)) ?_
 refine W_v V V (V_neq V (et V) V) ?_
 refine W_end (gen_Q fun A9 E9 => ?_)
 have Y9 := szq E9
 have F9 := fsE E9 (ck (cq1 F6 V) V V)
 clear E9 Y6 F6
 refine tk H8 ?_
 refine cond_not (fg0 F9) (by decide) ?_
 refine wp_skip ?_
 refine tk H7 (wp_seq_k fun K10 H10 => ?_)
 refine wp_seq_k fun K11 H11 => region_in ?_
 refine W_v V V (V_asg V V) ?_
 refine W_end (gen_Q fun A12 E12 => ?_)
 have Y12 := szq E12
 have F12 := fsE E12 (ck F9 V V)
 clear E12 Y9 F9
 refine tk H11 (wp_block ?_)
 -- loop 5
 refine loopX (fun mz A' w' => SzN A' 87 ∧ A'.defers = [] ∧ (∃ (k : Nat), (mz = 12 - k) ∧ (1 ≤ k ∧ k ≤ 12) ∧ ((List.range' k (12 - k)).find? (mtc (splGo l (l.length + 1) 0 [])) = some k0) ∧ (EV A' (.tmp 6) = .int .i64 (k : Int)) ∧ (EV A' (.tmp 2) = EV A12 (.tmp 2)) ∧ (EV A' (.tmp 4) = EV A12 (.tmp 4)) ∧ (St w NoX [ro 2 sbC v_5 (splGo l (l.length + 1) 0 []), bx g2 42 #[.int .i64 0, .int .i64 0, .int .i64 0, .int .i64 0, .int .i64 0, .int .i64 0, .int .u64 0]] w'))) (12 - 1) ⟨Y12, F12.d, 1, rfl, (by omega), hk0, (((fg0 F12)).trans (by first | rfl | (simp; done) | (congr 1; omega))), rfl, rfl, (by subst hc_5 hc2; exact S5)⟩ ?_
 clear S5 hc_5 hc2
 rintro n13 A13 w13 ⟨Y13, hdf13, k, hm13, hk1, hK, l6_13, u2_13, u4_13, S13⟩
 have l2_13 := u2_13.trans (fg5 F12)
 have l4_13 := u4_13.trans (fg3 F12)
 obtain ⟨c_13, c2_13, hc_13, hc2_13, S13⟩ := gen2 S13
 refine wp_seq_k fun K14 H14 => ?_
 refine wp_seq_k fun K15 H15 => region_in ?_
 refine W_v V V (V_mov V l6_13) ?_
 refine W_v V V (V_leq V (et V) V) ?_
 refine W_end (gen_Q fun A16 E16 => ?_)
 have Y16 := szq E16
 have F16 := (((fsE E16 (ck (cq1 (FS.n hdf13) V) V V)).c (lookE E16 2 (es2 V l2_13))).c (lookE E16 4 (es2 V l4_13))).c (lookE E16 6 (es2 V l6_13))
 clear E16 Y13 hdf13 l6_13 l2_13 l4_13
 refine tk H15 ?_
 refine cond_sure (fg3 F16) (by rw [decide_eq_true_eq]; have := mt_le hK; omega) ?_
 refine wp_skip ?_
 refine tk H14 (wp_seq_k fun K17 H17 => ?_)
 refine wp_block ?_
 refine wp_seq_k fun K18 H18 => region_in ?_
 refine W_v V V (V_mov V (fg0 F16)) ?_
 refine W_call V V V Try.func78 (by kernel_rfl) V (args1 (et V)) (qwrd_c (k := (k : Int))  ) ?_
 rintro _ w19 ⟨rfl, hP19⟩
 refine ⟨_, rfl, ?_⟩
 have S19 := S13.join hP19
 replace S19 : St w NoX [c_13, c2_13] w19 := S19
 have hwb19 := wrdB_le (k : Int)
 refine W_v V V (V_mov V (et V)) ?_
 refine W_v V V (V_ext (v := (stv (wrdA (k : Int)))) V (et V) V) ?_
 refine W_v V V (V_ext (v := (stv (wrdB (k : Int)))) V (es V (et V)) V) ?_
 refine W_v V V (V_asg V (es V (et V))) (W_v V V (V_asg V (es V (et V))) ?_)
 refine W_end (gen_Q fun A20 E20 => ?_)
 have Y20 := szq E20
 have F20 := fsE E20 (ck (ck (cq5 F16 V) V V) V V)
 clear E20 Y16 F16
 refine tk H18 (wp_seq_k fun K21 H21 => ?_)
 refine wp_seq_k fun K22 H22 => region_in ?_
 refine W_v V V (V_mov V (fg3 F20)) ?_
 refine W_v V V (V_lenS V (et V) (ow_at (S19.chq 0 V hc_13)) Try.underlying136) ?_
 refine W_v V V (V_mov V (es2 V (fg0 F20))) ?_
 refine W_v V V (V_lenT V (et V) Try.underlying9) ?_
 refine W_v V V (V_add V (et V) V (by omega) (by omega)) ?_
 refine W_v V V (V_neq V (es3 V (et V)) (et V)) ?_
 refine W_split V V (V_mov V (et V)) (fun c23 => ?_) (fun c23 => ?_)
 ·refine xof V V V (et V) (xof V V V (es V (et V)) (xof V V V (es2 V (et V)) (xof V V V (es3 V (et V)) (xof V V V (es4 V (et V)) (xof V V V (es5 V (et V)) ?_)))))
  refine W_v V V (V_pickT V (es6 V (et V)) V) ?_
  refine W_v V V (V_mov V (et V)) (xof V V V (et V) (xof V V V (es V (et V)) (xof V V V (es2 V (et V)) (xof V V V (es3 V (et V)) ?_))))
  refine W_v V V (V_pickT V (es4 V (et V)) V) ?_
  refine W_end (gen_Q fun A24 E24 => ?_)
  have Y24 := szq E24
  have F24 := fsE E24 (ck (ck (ck (ck (ck (cq2 (ck (ck (ck (ck (ck (ck (cq7 F20 V) V V) V V) V V) V V) V V) V V) V) V V) V V) V V) V V) V V)
  clear E24 Y20 F20
  refine tk H22 ?_
  refine cond_t (fg0 F24) ?_
  refine wp_exit (then_exit ?_)
  refine inb_hit ?_
  refine tk H17 ?_
  refine region_in ?_
  refine W_v V V (V_mov V (fg13 F24)) ?_
  refine W_v V V (V_add V (et V) V (by omega) (by omega)) ?_
  refine W_v V V (V_asg V (et V)) ?_
  refine W_end (gen_Q fun A25 E25 => ?_)
  have Y25 := szq E25
  have F25 := fsE E25 (ck (cq2 (fx13 F24) V) V V)
  clear E25 Y24 F24
  refine then_n ⟨12 - (k + 1), by have := mt_le hK; simp only [hm13]; omega, Y25, F25.d, (k + 1), rfl, (by have := mt_le hK; omega), (mt_no hK (fun q => by have := c23; omega)), (((fg0 F25)).trans (by first | rfl | (simp; done) | (congr 1; omega))), (((fg15 F25)).trans (fg5 F12).symm), (((fg14 F25)).trans (fg3 F12).symm), (by subst hc_13 hc2_13; exact S19)⟩
 refine W_v V (xwt V V (et V)) (V_mov V (es7 V (fg3 F20))) ?_
 have k26 : 0 < (splGo l (l.length + 1) 0 []).length := by first | omega | (simp only [List.length_cons, List.length_nil]; omega) | (simp only [List.length_set]; omega) | decide
 obtain ⟨y26, hy26⟩ := get_some (xs := (splGo l (l.length + 1) 0 [])) (k := 0) k26
 have hqd26 := okW_q hok hy26
 obtain ⟨B26, O26, C26, hv26⟩ := (SlN.blk (ow_at (S19.chq 0 rfl hc_13)) (by first | omega | (simp only [List.length_cons, List.length_nil]; omega) | (simp only [List.length_set]; omega) | decide))
 refine W_v V (xwt V V (es V (et V))) (V_ixS (off := O26 + 0 * 2) 2 (0) V (et V) V hv26 (by omega) k26 Try.underlying136 (by kernel_rfl) V) ?_
 refine W_v V (xwt V V (es2 V (et V))) (V_fa (off' := O26 + 0 * 2 + 0) V (et V) Try.underlying142 V (by decide +kernel) V) ?_
 refine W_r V (xwt V V (es3 V (et V))) (VR_ldC (v := (stv y26.1)) V (et V) (SlN.row sbC_len (ow_at (S19.chq 0 V hc_13)) hv26 hy26 V 0 _ V) Try.underlying9 V) ?_
 refine W_v V (xwt V V (es4 V (et V))) (V_mov V (es8 V (es3 V (fg1 F20)))) ?_
 refine W_v V (xwt V V (es5 V (et V))) (V_neqT V (es V (et V)) (et V)) ?_
 refine W_v V V (V_pickF V (es6 V (et V)) (et V)) ?_
 refine W_split V V (V_mov V (et V)) (fun c27 => ?_) (fun c27 => ?_)
 ·refine xof V V V (et V) (xof V V V (es V (et V)) (xof V V V (es2 V (et V)) (xof V V V (es3 V (et V)) ?_)))
  refine W_v V V (V_pickT V (es4 V (et V)) V) ?_
  refine W_end (gen_Q fun A28 E28 => ?_)
  have Y28 := szq E28
  have F28 := fsE E28 (ck (ck (ck (ck (ck (cq2 (ck (ck (ck (ck (ck (ck (cq7 F20 V) V V) V V) V V) V V) V V) V V) V) V V) V V) V V) V V) V V)
  clear E28 Y20 F20
  refine tk H22 ?_
  refine cond_t (fg0 F28) ?_
  refine wp_exit (then_exit ?_)
  refine inb_hit ?_
  refine tk H17 ?_
  refine region_in ?_
  refine W_v V V (V_mov V (fg13 F28)) ?_
  refine W_v V V (V_add V (et V) V (by omega) (by omega)) ?_
  refine W_v V V (V_asg V (et V)) ?_
  refine W_end (gen_Q fun A29 E29 => ?_)
  have Y29 := szq E29
  have F29 := fsE E29 (ck (cq2 (fx13 F28) V) V V)
  clear E29 Y28 F28
  refine then_n ⟨12 - (k + 1), by have := mt_le hK; simp only [hm13]; omega, Y29, F29.d, (k + 1), rfl, (by have := mt_le hK; omega), (mt_no hK (fun q => c27 (by rw [← gDw hy26]; exact q.2))), (((fg0 F29)).trans (by first | rfl | (simp; done) | (congr 1; omega))), (((fg15 F29)).trans (fg5 F12).symm), (((fg14 F29)).trans (fg3 F12).symm), (by subst hc_13 hc2_13; exact S19)⟩
 have hkk := mt_yes hK (by omega) (by rw [gDw hy26]; exact Decidable.not_not.1 c27)
 have hk5n : (k : Int) ≠ 5 := fun e => hk5 (by rw [hk0, hkk]; congr 1; omega)
 refine W_v V (xwt V V (et V)) (V_mov V (es8 V (es7 V (fg3 F20)))) ?_
 refine W_v V (xwt V V (es V (et V))) (V_ixS (off := O26 + 0 * 2) 2 (0) V (et V) V hv26 (by omega) k26 Try.underlying136 (by kernel_rfl) V) ?_
 refine W_v V (xwt V V (es2 V (et V))) (V_fa (off' := O26 + 0 * 2 + 1) V (et V) Try.underlying142 V (by decide +kernel) V) ?_
 refine W_r V (xwt V V (es3 V (et V))) (VR_ldC (v := .bool (y26.2)) V (et V) (SlN.row sbC_len (ow_at (S19.chq 0 V hc_13)) hv26 hy26 V 1 _ V) Try.underlying4 V) ?_
 refine W_v V V (V_pickF V (es4 V (et V)) (et V)) ?_
 refine W_end (gen_Q fun A31 E31 => ?_)
 have Y31 := szq E31
 have F31 := fsE E31 (ck (ck (ck (ck (ck (cq2 (ck (ck (ck (ck (ck (ck (cq7 F20 V) V V) V V) V V) V V) V V) V V) V) V V) V V) V V) V V) V V)
 clear E31 Y20 F20
 refine tk H22 ?_
 refine cond_not (fg0 F31) (hqd26) ?_
 refine wp_skip ?_
 refine tk H21 (wp_seq_k fun K32 H32 => region_in ?_)
 refine W_v V V (V_mov V (fg13 F31)) ?_
 refine W_v V V (xbS (n := 7) (z := .agg #[.int .i64 0, .int .i64 0, .int .i64 0, .int .i64 0, .int .i64 0, .int .i64 0, .int .u64 0]) V (parts1 (et V))) ?_
 refine W_allocS (z := .agg #[.int .i64 0, .int .i64 0, .int .i64 0, .int .i64 0, .int .i64 0, .int .i64 0, .int .u64 0]) (zs := #[.int .i64 0, .int .i64 0, .int .i64 0, .int .i64 0, .int .i64 0, .int .i64 0, .int .u64 0]) S19 V V V (by kernel_rfl) (by rfl) (fun g33 w33 c33 hc33 S33 => ?_)
 replace S33 : St w NoX [c33, c_13, c2_13] w33 := S33
 refine xsA 0 S33 V hc33 V V V (et V) (es V (et V)) (fun w34 c34 hc34 S34 => ?_)
 replace S34 : St w NoX [c34, c_13, c2_13] w34 := S34
 refine W_end (gen_Q fun A35 E35 => ?_)
 have Y35 := szq E35
 have F35 := fsE E35 (ck (cq2 F31 V) V V)
 clear E35 Y31 F31
 refine tk H32 (wp_seq_k fun K36 H36 => region_in ?_)
 refine W_v V V (V_asg V V) ?_
 refine W_end (gen_Q fun A37 E37 => ?_)
 have Y37 := szq E37
 have F37 := fsE E37 (ck F35 V V)
 clear E37 Y35 F35
 refine tk H36 (wp_seq_k fun K38 H38 => ?_)
 refine wp_seq_k fun K39 H39 => region_in ?_
 refine W_v V V (V_asg V V) ?_
 refine W_end (gen_Q fun A40 E40 => ?_)
 have Y40 := szq E40
 have F40 := fsE E40 (cq1 F37 V)
 have l2_40 := lookE E40 2 (es V (fg17 F37))
 have l4_40 := lookE E40 4 (es V (fg16 F37))
 have l8_40 := lookE E40 8 (es V (fg13 F37))
 have l9_40 := lookE E40 9 (es V (fg1 F37))
 have l10_40 := lookE E40 10 (es V (fg0 F37))
 have l11_40 := lookE E40 11 (et V)
 clear E40 Y37 F37
 refine tk H39 (wp_block ?_)
 -- loop 12
 refine loopX (fun mz A' w' => SzN A' 87 ∧ A'.defers = [] ∧ (∃ (i : Nat) (za : Int) (zb : Int) (zf : Int) (zp : Int) (zq : Int), (mz = (wrdB (k : Int)).length - i) ∧ (i ≤ (wrdB (k : Int)).length) ∧ (prF (splGo l (l.length + 1) 0 []) ((wrdB (k : Int)).drop i) (i + 1) ⟨(k : Int), za, zb, zf, zp, zq, 0⟩ = (prs (splGo l (l.length + 1) 0 []))) ∧ (EV A' (.tmp 11) = .int .i64 (i : Int)) ∧ (EV A' (.tmp 2) = EV A40 (.tmp 2)) ∧ (EV A' (.tmp 4) = EV A40 (.tmp 4)) ∧ (EV A' (.tmp 8) = EV A40 (.tmp 8)) ∧ (EV A' (.tmp 9) = EV A40 (.tmp 9)) ∧ (EV A' (.tmp 10) = EV A40 (.tmp 10)) ∧ (St w NoX [bx g33 42 #[.int .i64 ((k : Int)), .int .i64 (za), .int .i64 (zb), .int .i64 (zf), .int .i64 (zp), .int .i64 (zq), .int .u64 0], ro 2 sbC v_5 (splGo l (l.length + 1) 0 []), bx g2 42 #[.int .i64 0, .int .i64 0, .int .i64 0, .int .i64 0, .int .i64 0, .int .i64 0, .int .u64 0]] w'))) ((wrdB (k : Int)).length - 0) ⟨Y40, F40.d, 0, 0, 0, 0, 0, 0, rfl, (by omega), (by rw [hkk] at hk0; exact prs_of hk0), ((l11_40).trans (by first | rfl | (simp; done) | (congr 1; omega))), rfl, rfl, rfl, rfl, rfl, (by subst hc34 hc_13 hc2_13; exact S34)⟩ ?_
 clear S34 hc34 hc_13 hc2_13
 rintro n41 A41 w41 ⟨Y41, hdf41, i, za, zb, zf, zp, zq, hm41, hi, hF, l11_41, u2_41, u4_41, u8_41, u9_41, u10_41, S41⟩
 have l2_41 := u2_41.trans l2_40
 have l4_41 := u4_41.trans l4_40
 have l8_41 := u8_41.trans l8_40
 have l9_41 := u9_41.trans l9_40
 have l10_41 := u10_41.trans l10_40
 obtain ⟨c34_41, c_41, c2_41, hc34_41, hc_41, hc2_41, S41⟩ := gen3 S41
 refine wp_seq_k fun K42 H42 => ?_
 refine wp_seq_k fun K43 H43 => region_in ?_
 refine W_v V V (V_mov V l11_41) (W_v V V (V_mov V (es V l8_41)) ?_)
 refine W_v V V (V_lenT V (et V) Try.underlying9) ?_
 refine W_v V V (V_lss V (es2 V (et V)) (et V)) ?_
 refine W_end (gen_Q fun A44 E44 => ?_)
 have Y44 := szq E44
 have F44 := ((((((fsE E44 (ck (cq3 (FS.n hdf41) V) V V)).c (lookE E44 2 (es4 V l2_41))).c (lookE E44 4 (es4 V l4_41))).c (lookE E44 8 (es4 V l8_41))).c (lookE E44 9 (es4 V l9_41))).c (lookE E44 10 (es4 V l10_41))).c (lookE E44 11 (es4 V l11_41))
 clear E44 Y41 hdf41 l11_41 l2_41 l4_41 l8_41 l9_41 l10_41
 refine tk H43 ?_
 refine cond_dec (fg6 F44) (fun c45 => ?_) (fun c45 => ?_)
 ·refine wp_skip ?_
  refine tk H42 (wp_seq_k fun K46 H46 => ?_)
  refine wp_block ?_
  refine wp_seq_k fun K47 H47 => ?_
  have k48 : i < (wrdB (k : Int)).length := by first | omega | (simp only [List.length_cons, List.length_nil]; omega) | decide
  obtain ⟨y48, hy48⟩ := get_some (xs := (wrdB (k : Int))) (k := i) k48
  have hu48 := y48.toNat_lt
  have hv48 := wrdB_v hk5n hy48
  have k49 : (i + 1) < (splGo l (l.length + 1) 0 []).length := by first | omega | (simp only [List.length_cons, List.length_nil]; omega) | (simp only [List.length_set]; omega) | decide
  obtain ⟨y49, hy49⟩ := get_some (xs := (splGo l (l.length + 1) 0 [])) (k := (i + 1)) k49
  have hqd49 := okW_q hok hy49
  have hd49 := okW_d hok hy49
  refine region_monoS 14 15 [none, none, none, none, none, none, none, none, none, some (SPv [] (fun _ => fun u l' => u = .tuple #[.agg #[.int .i64 (k : Int), .int .i64 (if (y48.toNat : Int) = 97 then (((y49.1.getD 0 0).toNat : Int) - 48) else za), .int .i64 (if (y48.toNat : Int) = 98 then (((y49.1.getD 0 0).toNat : Int) - 48) else zb), .int .i64 (if (y48.toNat : Int) = 102 then (((y49.1.getD 0 0).toNat : Int) - 48) else zf), .int .i64 (if (y48.toNat : Int) = 112 then (((y49.1.getD 0 0).toNat : Int) - 48) else zp), .int .i64 (if (y48.toNat : Int) = 97 ∨ (y48.toNat : Int) = 98 ∨ (y48.toNat : Int) = 102 ∨ (y48.toNat : Int) = 112 then zq else (((y49.1.getD 0 0).toNat : Int) - 48)), .int .u64 0], .int .i64 0] ∧ l' = []) 9), none, none, none, some (SPv [] (fun _ => fun u l' => ∃ g_, u = .pointer (some ⟨g_, 0, none⟩) ∧ ∃ c_, c_ = bx g_ 42 #[.int .i64 0, .int .i64 0, .int .i64 0, .int .i64 0, .int .i64 0, .int .i64 0, .int .u64 0] ∧ l' = [c_]) 13)] (by kernel_rfl) (by kernel_rfl) ?_
  refine D_r V V (by kernel_rfl) (fun sx hx hF => (VR_ldA V (fg2 F44) ((S41.grow hx).obj 0 V hc34_41) Try.underlying42 V (by kernel_rfl))) V V ?_
  refine D_v V V (V_mov V (es V (fg3 F44))) V V ?_
  refine D_v V V (V_mov V (es2 V (fg0 F44))) V V ?_
  refine D_v V V (V_idxT V (es V (et V)) (et V) (by omega) hy48 Try.underlying9) V V ?_
  refine D_v V V (V_mov V (es4 V (fg4 F44))) V V ?_
  refine D_v V V (V_mov V (es5 V (fg0 F44))) V V ?_
  refine D_v V V (V_add V (et V) V (by omega) (by omega)) V V ?_
  obtain ⟨B49, O49, C49, hv49⟩ := (SlN.blk (ow_at (S41.chq 1 rfl hc_41)) (by first | omega | (simp only [List.length_cons, List.length_nil]; omega) | (simp only [List.length_set]; omega) | decide))
  refine D_v V V (V_ixS (off := O49 + (i + 1) * 2) 2 ((i + 1)) V (es2 V (et V)) (et V) hv49 (by omega) k49 Try.underlying136 (by kernel_rfl) V) V V ?_
  refine D_r V V (by kernel_rfl) (fun sx hx hF => (VR_ldR (ys := sbC y49) V (et V) (SlN.row sbC_len (ow_at ((S41.grow hx).chq 1 V hc_41)) hv49 hy49 V) Try.underlying142 V (by kernel_rfl))) V V ?_
  refine D_call (ts := []) (vs := []) (C0 := fun _ => fun u l' => u = .tuple #[.agg #[.int .i64 (k : Int), .int .i64 (if (y48.toNat : Int) = 97 then (((y49.1.getD 0 0).toNat : Int) - 48) else za), .int .i64 (if (y48.toNat : Int) = 98 then (((y49.1.getD 0 0).toNat : Int) - 48) else zb), .int .i64 (if (y48.toNat : Int) = 102 then (((y49.1.getD 0 0).toNat : Int) - 48) else zf), .int .i64 (if (y48.toNat : Int) = 112 then (((y49.1.getD 0 0).toNat : Int) - 48) else zp), .int .i64 (if (y48.toNat : Int) = 97 ∨ (y48.toNat : Int) = 98 ∨ (y48.toNat : Int) = 102 ∨ (y48.toNat : Int) = 112 then zq else (((y49.1.getD 0 0).toNat : Int) - 48)), .int .u64 0], .int .i64 0] ∧ l' = []) (C := fun u l' => u = .tuple #[.agg #[.int .i64 (k : Int), .int .i64 (if (y48.toNat : Int) = 97 then (((y49.1.getD 0 0).toNat : Int) - 48) else za), .int .i64 (if (y48.toNat : Int) = 98 then (((y49.1.getD 0 0).toNat : Int) - 48) else zb), .int .i64 (if (y48.toNat : Int) = 102 then (((y49.1.getD 0 0).toNat : Int) - 48) else zf), .int .i64 (if (y48.toNat : Int) = 112 then (((y49.1.getD 0 0).toNat : Int) - 48) else zp), .int .i64 (if (y48.toNat : Int) = 97 ∨ (y48.toNat : Int) = 98 ∨ (y48.toNat : Int) = 102 ∨ (y48.toNat : Int) = 112 then zq else (((y49.1.getD 0 0).toNat : Int) - 48)), .int .u64 0], .int .i64 0] ∧ l' = []) V V V Try.func79 (by kernel_rfl) V (args3 (es8 V (et V)) (es5 V (et V)) (et V)) V V V V (fun sx hx hF => ?_) (fun u50 l50 hu50 => ?_)
  ·refine (qfld_c (kd := (k : Int)) (a := za) (b := zb) (f := zf) (p := zp) (q := zq) (u := 0) (c := (y48.toNat : Int))  (by first | with_reducible assumption | omega) (by first | with_reducible assumption | omega) (by first | with_reducible assumption | omega) (by first | with_reducible assumption)).mono ?_
   rintro _ _ ⟨rfl, hz⟩
   exact ⟨_, rfl, _, ⟨rfl, rfl⟩, hz⟩
  obtain ⟨rfl, hl50⟩ := hu50
  refine D_v V V (V_mov V (et V)) V V ?_
  refine D_v V V (V_ext (v := .agg #[.int .i64 ((k : Int)), .int .i64 ((if (y48.toNat : Int) = 97 then (((y49.1.getD 0 0).toNat : Int) - 48) else za)), .int .i64 ((if (y48.toNat : Int) = 98 then (((y49.1.getD 0 0).toNat : Int) - 48) else zb)), .int .i64 ((if (y48.toNat : Int) = 102 then (((y49.1.getD 0 0).toNat : Int) - 48) else zf)), .int .i64 ((if (y48.toNat : Int) = 112 then (((y49.1.getD 0 0).toNat : Int) - 48) else zp)), .int .i64 ((if (y48.toNat : Int) = 97 ∨ (y48.toNat : Int) = 98 ∨ (y48.toNat : Int) = 102 ∨ (y48.toNat : Int) = 112 then zq else (((y49.1.getD 0 0).toNat : Int) - 48))), .int .u64 (0)]) V (et V) V) V V ?_
  refine D_v V V (V_ext (v := .int .i64 0) V (es V (et V)) V) V V ?_
  refine D_lay (ts := []) (vs := []) (C0 := fun _ => fun u l' => ∃ g_, u = .pointer (some ⟨g_, 0, none⟩) ∧ ∃ c_, c_ = bx g_ 42 #[.int .i64 0, .int .i64 0, .int .i64 0, .int .i64 0, .int .i64 0, .int .i64 0, .int .u64 0] ∧ l' = [c_]) (C := fun u l' => ∃ g_, u = .pointer (some ⟨g_, 0, none⟩) ∧ ∃ c_, c_ = bx g_ 42 #[.int .i64 0, .int .i64 0, .int .i64 0, .int .i64 0, .int .i64 0, .int .i64 0, .int .u64 0] ∧ l' = [c_]) V V V V V V (fun sx hx hF => lay_alloc (z := .agg #[.int .i64 0, .int .i64 0, .int .i64 0, .int .i64 0, .int .i64 0, .int .i64 0, .int .u64 0]) V (by kernel_rfl) (by rfl)) (fun u51 l51 hu51 => ?_)
  obtain ⟨g51, rfl, c51, hc51, hl51⟩ := hu51
  refine D_eff V ?_
  refine ZS_eff S41 V V (fun s52 hJ52 hL52 hF52 => ?_)
  obtain ⟨ll50, ws50, we50, ⟨hq50, hl50r⟩, hm50, k50, e50⟩ := L.all_get (L.all_rest hF52); cases hq50; subst hl50r
  replace hJ52 := hJ52.add hL52 (i := 9) V hm50 k50 e50
  obtain ⟨ll51, ws51, we51, ⟨g51q, hq51, c51r, hc51r, hl51r⟩, hm51, k51, e51⟩ := L.all_get hF52; cases hq51; subst hl51r
  replace hJ52 := hJ52.add hL52 (i := 13) V hm51 k51 e51
  have S52 := hJ52.st; clear hF52 hJ52 hL52
  generalize s52.1 = w52 at *
  replace S52 : St w NoX [c51r, c34_41, c_41, c2_41] w52 := S52
  refine xsA 0 S52 V hc51r V V V (et V) (es2 V (et V)) (fun w53 c53 hc53 S53 => ?_)
  replace S53 : St w NoX [c53, c34_41, c_41, c2_41] w53 := S53
  refine W_v V V (V_asg V (es V (et V))) (W_end (Qo_normal ?_))
  refine gen_Q (fun A54 E54 => ?_)
  have Y54 := szq E54
  have F54 := fsE E54 (ck (ck (cq5 (cq8 F44 V) V) V V) V V)
  clear E54 Y44 F44
  refine tk H47 (wp_seq_k fun K55 H55 => ?_)
  refine wp_seq_k fun K56 H56 => region_in ?_
  refine W_v V V (V_mov V (fg0 F54)) ?_
  refine W_v V V (V_eql V (et V) V) ?_
  refine W_end (gen_Q fun A57 E57 => ?_)
  have Y57 := szq E57
  have F57 := fsE E57 (ck (cq1 F54 V) V V)
  clear E57 Y54 F54
  refine tk H56 ?_
  refine cond_not (fg0 F57) (by decide) ?_
  refine wp_skip ?_
  refine tk H55 (wp_seq_k fun K58 H58 => ?_)
  refine wp_seq_k fun K59 H59 => region_in ?_
  refine W_v V V (V_mov V (fg1 F57)) ?_
  refine W_v V V (V_neq V (et V) V) ?_
  refine W_end (gen_Q fun A60 E60 => ?_)
  have Y60 := szq E60
  have F60 := fsE E60 (ck (cq1 F57 V) V V)
  clear E60 Y57 F57
  refine tk H59 ?_
  refine cond_not (fg0 F60) (by decide) ?_
  refine wp_skip (tk H58 ?_)
  refine region_in ?_
  refine W_r V V (VR_ldA V (fg3 F60) (S53.obj 0 V hc53) Try.underlying42 V (by kernel_rfl)) ?_
  refine xsA 1 S53 V hc34_41 V V V (es V (fg6 F60)) (et V) (fun w61 c61 hc61 S61 => ?_)
  replace S61 : St w NoX [c53, c61, c_41, c2_41] w61 := S61
  refine W_end (gen_Q fun A62 E62 => ?_)
  have Y62 := szq E62
  have F62 := fsE E62 (cq1 F60 V)
  clear E62 Y60 F60
  have S63 : St w NoX [c61, c_41, c2_41] w61 := S61.sel [1, 2, 3] (by decide) V
  refine inb_n (tk H46 ?_)
  refine region_in ?_
  refine W_v V V (V_mov V (fg4 F62)) ?_
  refine W_v V V (V_add V (et V) V (by omega) (by omega)) ?_
  refine W_v V V (V_asg V (et V)) ?_
  refine W_end (gen_Q fun A64 E64 => ?_)
  have Y64 := szq E64
  have F64 := fsE E64 (cq3 (fx4 F62) V)
  have l2_64 := lookE E64 2 (es3 V (fg9 F62))
  have l4_64 := lookE E64 4 (es3 V (fg8 F62))
  have l8_64 := lookE E64 8 (es3 V (fg7 F62))
  have l9_64 := lookE E64 9 (es3 V (fg6 F62))
  have l10_64 := lookE E64 10 (es3 V (fg5 F62))
  have l11_64 := lookE E64 11 (et V)
  clear E64 Y62 F62
  refine then_n ⟨(wrdB (k : Int)).length - (i + 1), by simp only [hm41]; omega, Y64, F64.d, (i + 1), (if (y48.toNat : Int) = 97 then (((y49.1.getD 0 0).toNat : Int) - 48) else za), (if (y48.toNat : Int) = 98 then (((y49.1.getD 0 0).toNat : Int) - 48) else zb), (if (y48.toNat : Int) = 102 then (((y49.1.getD 0 0).toNat : Int) - 48) else zf), (if (y48.toNat : Int) = 112 then (((y49.1.getD 0 0).toNat : Int) - 48) else zp), (if (y48.toNat : Int) = 97 ∨ (y48.toNat : Int) = 98 ∨ (y48.toNat : Int) = 102 ∨ (y48.toNat : Int) = 112 then zq else (((y49.1.getD 0 0).toNat : Int) - 48)), rfl, (by omega), (by have q := prF_step hF hy48; rw [dv_at hy49] at q; exact q), ((l11_64).trans (by first | rfl | (simp; done) | (congr 1; omega))), ((l2_64).trans l2_40.symm), ((l4_64).trans l4_40.symm), ((l8_64).trans l8_40.symm), ((l9_64).trans l9_40.symm), ((l10_64).trans l10_40.symm), (by subst hc61 hc_41 hc2_41; exact S63)⟩
 refine wp_exit (then_exit (then_exit ?_))
 refine inb_hit ?_
 refine tk H38 (wp_seq_k fun K65 H65 => ?_)
 refine wp_seq_k fun K66 H66 => region_in ?_
 refine W_v V V (V_mov V (fg1 F44)) ?_
 refine W_v V V (V_neq V (et V) V) ?_
 refine W_end (gen_Q fun A67 E67 => ?_)
 have Y67 := szq E67
 have F67 := fsE E67 (ck (cq1 F44 V) V V)
 clear E67 Y44 F44
 have S68 : St w NoX [c34_41, c2_41] w41 := S41.sel [0, 2] (by decide) V
 refine tk H66 ?_
 refine cond_not (fg0 F67) (by decide) ?_
 refine wp_skip ?_
 refine tk H65 (wp_seq_k fun K69 H69 => region_in ?_)
 refine W_r V V (VR_ldA V (fg3 F67) (S68.obj 0 V hc34_41) Try.underlying42 V (by kernel_rfl)) ?_
 refine xsA 1 S68 V hc2_41 V V V (es V (fg6 F67)) (et V) (fun w70 c70 hc70 S70 => ?_)
 replace S70 : St w NoX [c34_41, c70] w70 := S70
 refine W_v V V (V_asg V V) ?_
 refine W_end (gen_Q fun A71 E71 => ?_)
 have Y71 := szq E71
 have F71 := fsE E71 (ck (cq1 F67 V) V V)
 clear E71 Y67 F67
 have S72 : St w NoX [c70] w70 := S70.sel [1] (by decide) V
 refine tk H69 (wp_ret (inb_ret (then_ret (then_ret (inb_ret (then_ret ?_))))))
 refine ret_in (results_2 Try.results59 (rv_cellA (fg7 F71) (S72.obj 0 V hc70) Try.underlying42 V (by kernel_rfl)) (rv_tmp (fg0 F71))) F71.d ?_
 have e := prF_end hF (by omega)
 rw [← e]
 exact ⟨rfl, S72.fin0⟩

set_option maxHeartbeats 4000000 in
theorem qlst_c {l : List UInt8} {w : World}  (hll : 0 < l.length ∧ l.length ≤ 5000) (hlt : l.getD (l.length - 1) 0 = 10) (hok : (lnK l l.length).all okL = true) (hn : (lnK l l.length).length ≤ 200) :
  Calls Try.prog 31 #[(stv l)] w fun e w' => ∃ v, e = .returned (.tuple #[v, .int .i64 0, .int .i64 0]) ∧ St w NoX [ro 7 opC v (opsT l)] w' := by
 refine calls_in 55 Try.func31 V V (by simp) (fun A0 Y0 hdf0 hargs => ?_)
 have l0_0 := hargs 0 ((stv l)) V
 clear hargs; replace Y0 : SzN A0 55 := ⟨Y0⟩
 have hS := St.nil w
 refine wp_seq_k fun K1 H1 => region_in ?_
 refine W_v V V (V_asg V V) (W_v V V (V_asg V V) (W_v V V (V_asg V V) ?_))
 refine W_end (gen_Q fun A2 E2 => ?_)
 have Y2 := szq E2
 have F2 := (fsE E2 (cq3 (FS.n hdf0) V)).c (lookE E2 0 (es3 V l0_0))
 clear E2 Y0 hdf0 l0_0
 refine tk H1 (wp_seq_k fun K3 H3 => region_in ?_)
 refine W_v V V (V_mov V (fg0 F2)) ?_
 refine W_call V V V Try.func58 (by kernel_rfl) V (args1 (et V)) (qlns_c  (by first | with_reducible assumption | decide +kernel) (by first | with_reducible assumption | decide +kernel)) ?_
 rintro _ w4 ⟨v_4, rfl, hP4⟩
 refine ⟨_, rfl, ?_⟩
 obtain ⟨c_4, hc_4, hP4⟩ := gen1 hP4
 have S4 := hS.join hP4
 replace S4 : St w NoX [c_4] w4 := S4
 refine W_v V V (V_mov V (et V)) ?_
 refine W_v V V (V_ext (v := v_4) V (et V) V) ?_
 refine W_v V V (V_ext (v := .int .i64 (0)) V (es V (et V)) V) ?_
 refine W_v V V (V_asg V (es V (et V))) (W_v V V (V_asg V (es V (et V))) ?_)
 refine W_end (gen_Q fun A5 E5 => ?_)
 have Y5 := szq E5
 have F5 := fsE E5 (ck (ck (cq5 F2 V) V V) V V)
 clear E5 Y2 F2
 refine tk H3 (wp_seq_k fun K6 H6 => ?_)
 refine wp_seq_k fun K7 H7 => region_in ?_
 refine W_v V V (V_mov V (fg0 F5)) ?_
 refine W_v V V (V_neq V (et V) V) ?_
 refine W_end (gen_Q fun A8 E8 => ?_)
 have Y8 := szq E8
 have F8 := fsE E8 (ck (cq1 F5 V) V V)
 clear E8 Y5 F5
 refine tk H7 ?_
 refine cond_not (fg0 F8) (by decide) ?_
 refine wp_skip ?_
 refine tk H6 (wp_seq_k fun K9 H9 => region_in ?_)
 refine W_v V V (V_asg V V) ?_
 refine W_end (gen_Q fun A10 E10 => ?_)
 have Y10 := szq E10
 have F10 := fsE E10 (ck F8 V V)
 clear E10 Y8 F8
 refine tk H9 (wp_seq_k fun K11 H11 => ?_)
 refine wp_seq_k fun K12 H12 => region_in ?_
 refine W_v V V (V_asg V V) ?_
 refine W_end (gen_Q fun A13 E13 => ?_)
 have Y13 := szq E13
 have F13 := fsE E13 (ck F10 V V)
 clear E13 Y10 F10
 refine tk H12 (wp_block ?_)
 obtain ⟨c14, hc14, S14⟩ := S4.pnil (s := 7)
 -- loop 6
 refine loopX (fun mz A' w' => SzN A' 55 ∧ A'.defers = [] ∧ (∃ (k : Nat) (bv : Value), (mz = (lnK l l.length).length - k) ∧ (k ≤ (lnK l l.length).length) ∧ (EV A' (.tmp 8) = .int .i64 (k : Int)) ∧ (EV A' (.tmp 7) = bv) ∧ (EV A' (.tmp 5) = EV A13 (.tmp 5)) ∧ (St w NoX [ro 7 opC bv (opsL (lnK l l.length) k), ro 1 strC v_4 (lnK l l.length)] w'))) ((lnK l l.length).length - 0) ⟨Y13, F13.d, 0, (.slice none 0 0), rfl, (by omega), (((fg0 F13)).trans (by first | rfl | (simp; done) | (congr 1; omega))), (((fg1 F13)).trans (by first | rfl | (simp; done) | (congr 1; omega))), rfl, (by have q0 : c14 = ro 7 opC (.slice none 0 0) (opsL (lnK l l.length) 0) := hc14.trans (rfl); have q1 := hc_4; subst q0 q1; exact S14)⟩ ?_
 clear S14 hc14 hc_4
 rintro n15 A15 w15 ⟨Y15, hdf15, k, bv, hm15, hk, l8_15, l7_15, u5_15, S15⟩
 have l5_15 := u5_15.trans (fg4 F13)
 obtain ⟨c14_15, c_15, hc14_15, hc_15, S15⟩ := gen2 S15
 refine wp_seq_k fun K16 H16 => ?_
 refine wp_seq_k fun K17 H17 => region_in ?_
 refine W_v V V (V_mov V l8_15) (W_v V V (V_mov V (es V l5_15)) ?_)
 refine W_v V V (V_lenS V (et V) (ow_at (S15.chq 1 V hc_15)) Try.underlying116) ?_
 refine W_v V V (V_lss V (es2 V (et V)) (et V)) ?_
 refine W_end (gen_Q fun A18 E18 => ?_)
 have Y18 := szq E18
 have F18 := (((fsE E18 (ck (cq3 (FS.n hdf15) V) V V)).c (lookE E18 5 (es4 V l5_15))).c (lookE E18 7 (es4 V l7_15))).c (lookE E18 8 (es4 V l8_15))
 clear E18 Y15 hdf15 l8_15 l7_15 l5_15
 refine tk H17 ?_
 refine cond_dec (fg3 F18) (fun c19 => ?_) (fun c19 => ?_)
 ·refine wp_skip ?_
  refine tk H16 (wp_seq_k fun K20 H20 => ?_)
  refine wp_block ?_
  refine wp_seq_k fun K21 H21 => ?_
  refine wp_seq_k fun K22 H22 => region_in ?_
  refine W_v V V (V_mov V (fg2 F18)) (W_v V V (V_mov V (es V (fg0 F18))) ?_)
  have k23 : k < (lnK l l.length).length := by first | omega | (simp only [List.length_cons, List.length_nil]; omega) | (simp only [List.length_set]; omega) | decide
  obtain ⟨y23, hy23⟩ := get_some (xs := (lnK l l.length)) (k := k) k23
  obtain ⟨B23, O23, C23, hv23⟩ := (SlN.blk (ow_at (S15.chq 1 rfl hc_15)) (by first | omega | (simp only [List.length_cons, List.length_nil]; omega) | (simp only [List.length_set]; omega) | decide))
  refine W_v V V (V_ixS (off := O23 + k * 1) 1 (k) V (es V (et V)) (et V) hv23 (by omega) k23 Try.underlying116 (by kernel_rfl) V) ?_
  refine W_r V V (VR_ldC (v := (stv y23)) V (et V) (SlN.row strC_len (ow_at (S15.chq 1 V hc_15)) hv23 hy23 V 0 _ V) Try.underlying9 V) ?_
  refine W_v V V (V_eqlT V (et V) V) ?_
  refine W_end (gen_Q fun A24 E24 => ?_)
  have Y24 := szq E24
  have F24 := fsE E24 (ck (cq4 F18 V) V V)
  clear E24 Y18 F18
  refine tk H22 ?_
  refine cond_dec (fg0 F24) (fun c25 => ?_) (fun c25 => ?_)
  ·refine wp_exit (then_exit ?_)
   refine inb_hit ?_
   refine tk H20 ?_
   refine region_in ?_
   refine W_v V V (V_mov V (fg1 F24)) ?_
   refine W_v V V (V_add V (et V) V (by omega) (by omega)) ?_
   refine W_v V V (V_asg V (et V)) ?_
   refine W_end (gen_Q fun A26 E26 => ?_)
   have Y26 := szq E26
   have F26 := fsE E26 (ck (cq2 (fx1 F24) V) V V)
   clear E26 Y24 F24
   refine then_n ⟨(lnK l l.length).length - (k + 1), by simp only [hm15]; omega, Y26, F26.d, (k + 1), bv, rfl, (by omega), (((fg0 F26)).trans (by first | rfl | (simp; done) | (congr 1; omega))), (((fg2 F26)).trans (by first | rfl | (simp; done) | (congr 1; omega))), (((fg3 F26)).trans (fg4 F13).symm), (by have q0 : c14_15 = ro 7 opC bv (opsL (lnK l l.length) (k + 1)) := hc14_15.trans ((congrArg (ro 7 opC _) (opsL_skip hy23 c25).symm)); have q1 := hc_15; subst q0 q1; exact S15)⟩
  have ho := okL_h (List.all_eq_true.1 hok _ (List.mem_of_getElem? hy23)) c25
  have ho1 := ho.1
  have ho2 := ho.2.1
  have ho3 := ho.2.2.1
  have ho4 := ho.2.2.2
  have hopl := opsL_len (ls := lnK l l.length) (k := k)
  refine wp_skip ?_
  refine tk H21 (wp_seq_k fun K27 H27 => region_in ?_)
  refine W_v V V (V_mov V (fg3 F24)) (W_v V V (V_mov V (es V (fg1 F24))) ?_)
  refine W_v V V (V_ixS (off := O23 + k * 1) 1 (k) V (es V (et V)) (et V) hv23 (by omega) k23 Try.underlying116 (by kernel_rfl) V) ?_
  refine W_r V V (VR_ldC (v := (stv y23)) V (et V) (SlN.row strC_len (ow_at (S15.chq 1 V hc_15)) hv23 hy23 V 0 _ V) Try.underlying9 V) ?_
  refine W_call V V V Try.func59 (by kernel_rfl) V (args1 (et V)) (qprs_c  (by first | with_reducible assumption | decide +kernel) (by first | with_reducible assumption | decide +kernel) (by first | with_reducible assumption | decide +kernel) (by first | with_reducible assumption | decide +kernel)) ?_
  rintro _ w29 ⟨rfl, hP29⟩
  refine ⟨_, rfl, ?_⟩
  have S29 := S15.join hP29
  replace S29 : St w NoX [c14_15, c_15] w29 := S29
  refine W_v V V (V_mov V (et V)) ?_
  refine W_v V V (V_ext (v := .agg #[.int .i64 ((prs (splGo y23 (y23.length + 1) 0 [])).kd), .int .i64 ((prs (splGo y23 (y23.length + 1) 0 [])).a), .int .i64 ((prs (splGo y23 (y23.length + 1) 0 [])).b), .int .i64 ((prs (splGo y23 (y23.length + 1) 0 [])).f), .int .i64 ((prs (splGo y23 (y23.length + 1) 0 [])).p), .int .i64 ((prs (splGo y23 (y23.length + 1) 0 [])).q), .int .u64 ((prs (splGo y23 (y23.length + 1) 0 [])).u)]) V (et V) V) ?_
  refine W_v V V (V_ext (v := .int .i64 0) V (es V (et V)) V) ?_
  refine W_allocS (z := .agg #[.int .i64 0, .int .i64 0, .int .i64 0, .int .i64 0, .int .i64 0, .int .i64 0, .int .u64 0]) (zs := #[.int .i64 0, .int .i64 0, .int .i64 0, .int .i64 0, .int .i64 0, .int .i64 0, .int .u64 0]) S29 V V V (by kernel_rfl) (by rfl) (fun g30 w30 c30 hc30 S30 => ?_)
  replace S30 : St w NoX [c30, c14_15, c_15] w30 := S30
  refine xsA 0 S30 V hc30 V V V (et V) (es2 V (et V)) (fun w31 c31 hc31 S31 => ?_)
  replace S31 : St w NoX [c31, c14_15, c_15] w31 := S31
  refine W_v V V (V_asg V (es V (et V))) ?_
  refine W_end (gen_Q fun A32 E32 => ?_)
  have Y32 := szq E32
  have F32 := fsE E32 (ck (ck (cq8 F24 V) V V) V V)
  clear E32 Y24 F24
  refine tk H27 (wp_seq_k fun K33 H33 => ?_)
  refine wp_seq_k fun K34 H34 => region_in ?_
  refine W_v V V (V_mov V (fg0 F32)) ?_
  refine W_v V V (V_eql V (et V) V) ?_
  refine W_sure (c' := true) V V (V_mov V (et V)) (by simp) ?_
  refine W_v V (xwt V V (et V)) (V_mov V (es3 V (fg4 F32))) ?_
  refine W_v V (xwt V V (es V (et V))) (V_lenS V (et V) (ow_at (S31.chq 1 V hc14_15)) Try.underlying24) ?_
  refine W_v V (xwt V V (es2 V (et V))) (V_eql V (et V) V) ?_
  refine W_v V V (V_pickT V (es3 V (et V)) (et V)) ?_
  refine W_end (gen_Q fun A35 E35 => ?_)
  have Y35 := szq E35
  have F35 := fsE E35 (ck (ck (ck (ck (cq3 F32 V) V V) V V) V V) V V)
  clear E35 Y32 F32
  refine tk H34 ?_
  refine cond_not (fg0 F35) (by rw [decide_eq_false_iff_not]; have := opsL_len (ls := lnK l l.length) (k := k); omega) ?_
  refine wp_skip ?_
  refine tk H33 (wp_seq_k fun K36 H36 => ?_)
  refine wp_seq_k fun K37 H37 => region_in ?_
  refine W_v V V (V_mov V (fg4 F35)) ?_
  refine W_v V V (V_neq V (et V) V) ?_
  refine W_end (gen_Q fun A38 E38 => ?_)
  have Y38 := szq E38
  have F38 := fsE E38 (ck (cq1 F35 V) V V)
  clear E38 Y35 F35
  refine tk H37 ?_
  refine cond_not (fg0 F38) (by decide) ?_
  refine wp_skip (tk H36 ?_)
  refine region_in ?_
  refine W_v V V (V_mov V (fg9 F38)) ?_
  refine W_r V V (VR_ldA V (es V (fg6 F38)) (S31.obj 0 V hc31) Try.underlying42 V (by kernel_rfl)) ?_
  have hll39 : [(OpC.mk ((prs (splGo y23 (y23.length + 1) 0 [])).kd) ((prs (splGo y23 (y23.length + 1) 0 [])).a) ((prs (splGo y23 (y23.length + 1) 0 [])).b) ((prs (splGo y23 (y23.length + 1) 0 [])).f) ((prs (splGo y23 (y23.length + 1) 0 [])).p) ((prs (splGo y23 (y23.length + 1) 0 [])).q) ((prs (splGo y23 (y23.length + 1) 0 [])).u))].length = 1 := rfl
  refine xsL (vs := [.agg #[.int .i64 ((prs (splGo y23 (y23.length + 1) 0 [])).kd), .int .i64 ((prs (splGo y23 (y23.length + 1) 0 [])).a), .int .i64 ((prs (splGo y23 (y23.length + 1) 0 [])).b), .int .i64 ((prs (splGo y23 (y23.length + 1) 0 [])).f), .int .i64 ((prs (splGo y23 (y23.length + 1) 0 [])).p), .int .i64 ((prs (splGo y23 (y23.length + 1) 0 [])).q), .int .u64 ((prs (splGo y23 (y23.length + 1) 0 [])).u)]]) (xs := ([(OpC.mk ((prs (splGo y23 (y23.length + 1) 0 [])).kd) ((prs (splGo y23 (y23.length + 1) 0 [])).a) ((prs (splGo y23 (y23.length + 1) 0 [])).b) ((prs (splGo y23 (y23.length + 1) 0 [])).f) ((prs (splGo y23 (y23.length + 1) 0 [])).p) ((prs (splGo y23 (y23.length + 1) 0 [])).q) ((prs (splGo y23 (y23.length + 1) 0 [])).u))].flatMap opC)) 7 S31 V V V (parts1 (et V)) Try.underlying24 (fun g39 w39 c39 hc39 S39 => ?_)
  replace hc39 : c39 = ro 7 opC (.slice (some ⟨g39, 0, none⟩) 1 1) [(OpC.mk ((prs (splGo y23 (y23.length + 1) 0 [])).kd) ((prs (splGo y23 (y23.length + 1) 0 [])).a) ((prs (splGo y23 (y23.length + 1) 0 [])).b) ((prs (splGo y23 (y23.length + 1) 0 [])).f) ((prs (splGo y23 (y23.length + 1) 0 [])).p) ((prs (splGo y23 (y23.length + 1) 0 [])).q) ((prs (splGo y23 (y23.length + 1) 0 [])).u))] := hc39
  replace S39 : St w NoX [c39, c31, c14_15, c_15] w39 := S39
  refine W_appS 7 2 S39 V hc14_15 V V V (es2 V (et V)) (et V) Try.underlying24 Try.underlying24 (z := .agg #[.int .i64 0, .int .i64 0, .int .i64 0, .int .i64 0, .int .i64 0, .int .i64 0, .int .u64 0]) (bytes := 56) (by kernel_rfl) V (by decide) (ow_at (S39.chq 0 V hc39)) (ones_r opC_one) (by first | omega | (simp; done) | (simp; omega)) (by first | omega | (simp; done) | (simp; omega)) (fun v40 w40 c40 hc40 S40 => ?_)
  replace hc40 : c40 = ro 7 opC v40 ((opsL (lnK l l.length) k) ++ [(OpC.mk ((prs (splGo y23 (y23.length + 1) 0 [])).kd) ((prs (splGo y23 (y23.length + 1) 0 [])).a) ((prs (splGo y23 (y23.length + 1) 0 [])).b) ((prs (splGo y23 (y23.length + 1) 0 [])).f) ((prs (splGo y23 (y23.length + 1) 0 [])).p) ((prs (splGo y23 (y23.length + 1) 0 [])).q) ((prs (splGo y23 (y23.length + 1) 0 [])).u))]) := hc40.trans (app_eqR (by first | (simp; done) | (rw [List.take_of_length_le (l := List.drop _ _) (by rw [List.length_drop]; exact Nat.le_refl _)])))
  replace S40 : St w NoX [c39, c31, c40, c_15] w40 := S40
  refine W_v V V (V_asg V (et V)) ?_
  refine W_end (gen_Q fun A41 E41 => ?_)
  have Y41 := szq E41
  have F41 := fsE E41 (ck (cq4 (fx9 F38) V) V V)
  clear E41 Y38 F38
  have S42 : St w NoX [c40, c_15] w40 := S40.sel [2, 3] (by decide) V
  refine inb_n (tk H20 ?_)
  refine region_in ?_
  refine W_v V V (V_mov V (fg9 F41)) ?_
  refine W_v V V (V_add V (et V) V (by omega) (by omega)) ?_
  refine W_v V V (V_asg V (et V)) ?_
  refine W_end (gen_Q fun A43 E43 => ?_)
  have Y43 := szq E43
  have F43 := fsE E43 (ck (cq2 (fx9 F41) V) V V)
  clear E43 Y41 F41
  refine then_n ⟨(lnK l l.length).length - (k + 1), by simp only [hm15]; omega, Y43, F43.d, (k + 1), v40, rfl, (by omega), (((fg0 F43)).trans (by first | rfl | (simp; done) | (congr 1; omega))), (((fg1 F43)).trans (by first | rfl | (simp; done) | (congr 1; omega))), (((fg10 F43)).trans (fg4 F13).symm), (by have q0 : c40 = ro 7 opC v40 (opsL (lnK l l.length) (k + 1)) := hc40.trans ((congrArg (ro 7 opC _) (opsL_add hy23 c25).symm)); have q1 := hc_15; subst q0 q1; exact S42)⟩
 refine wp_exit (then_exit (then_exit ?_))
 refine inb_hit ?_
 refine tk H11 (wp_seq_k fun K44 H44 => region_in ?_)
 refine W_v V V (V_mov V (fg1 F18)) (W_v V V (V_asg V (et V)) (W_v V V (V_asg V V) (W_v V V (V_asg V V) ?_)))
 refine W_end (gen_Q fun A45 E45 => ?_)
 have Y45 := szq E45
 have F45 := fsE E45 (ck (ck (ck (cq1 F18 V) V V) V V) V V)
 clear E45 Y18 F18
 have S46 : St w NoX [c14_15] w15 := S15.sel [0] (by decide) V
 refine tk H44 (wp_ret ?_)
 refine ret_in (results_3 Try.results31 (rv_tmp (fg2 F45)) (rv_tmp (fg1 F45)) (rv_tmp (fg0 F45))) F45.d ?_
 exact ⟨_, rfl, (S46.fin1 0 V (hc14_15.trans (by rw [show k = (lnK l l.length).length by omega] <;> rfl)))⟩

set_option maxHeartbeats 4000000 in
theorem scr_c  {w : World}   :
  Calls Try.prog 18 #[] w fun e w' => ∃ v, e = .returned (v) ∧ St w NoX [ro 7 opC v scr] w' := by
 refine calls_in 10 Try.func18 V V (by simp) (fun A0 Y0 hdf0 hargs => ?_)
 clear hargs; replace Y0 : SzN A0 10 := ⟨Y0⟩
 have hS := St.nil w
 refine wp_seq_k fun K1 H1 => region_in ?_
 refine W_v V V (V_asg V V) ?_
 refine W_end (gen_Q fun A2 E2 => ?_)
 have Y2 := szq E2
 have F2 := fsE E2 (cq1 (FS.n hdf0) V)
 clear E2 Y0 hdf0
 refine tk H1 (wp_seq_k fun K3 H3 => region_in ?_)
 refine W_call V V V Try.func31 (by kernel_rfl) V (args1 V) (qlst_c  (by first | with_reducible assumption | decide +kernel) (by first | with_reducible assumption | decide +kernel) (by first | with_reducible assumption | decide +kernel) (by first | with_reducible assumption | decide +kernel)) ?_
 rintro _ w4 ⟨v_4, rfl, hP4⟩
 refine ⟨_, rfl, ?_⟩
 obtain ⟨c_4, hc_4, hP4⟩ := gen1 hP4
 have S4 := hS.join hP4
 replace S4 : St w NoX [c_4] w4 := S4
 refine W_v V V (V_mov V (et V)) ?_
 refine W_v V V (V_ext (v := v_4) V (et V) V) ?_
 refine W_v V V (V_ext (v := .int .i64 (0)) V (es V (et V)) V) ?_
 refine W_v V V (V_ext (v := .int .i64 (0)) V (es2 V (et V)) V) ?_
 refine W_v V V (V_asg V (es2 V (et V))) (W_v V V (V_asg V (es2 V (et V))) (W_v V V (V_asg V (es2 V (et V))) ?_))
 refine W_end (gen_Q fun A5 E5 => ?_)
 have Y5 := szq E5
 have F5 := fsE E5 (cq2 (ck (cq5 F2 V) V V) V)
 clear E5 Y2 F2
 refine tk H3 (wp_seq_k fun K6 H6 => region_in ?_)
 refine W_v V V (V_mov V (fg0 F5)) (W_v V V (V_asg V (et V)) ?_)
 refine W_end (gen_Q fun A7 E7 => ?_)
 have Y7 := szq E7
 have F7 := fsE E7 (ck (cq1 F5 V) V V)
 clear E7 Y5 F5
 refine tk H6 (wp_ret ?_)
 refine ret_in (results_1 Try.results18 (rv_tmp (fg0 F7))) F7.d ?_
 exact ⟨_, rfl, (S4.fin1 0 V (hc_4.trans (congrArg (ro 7 opC _) scr_eq)))⟩

end Go.Proofs.Ytpgkfndbfocibaa