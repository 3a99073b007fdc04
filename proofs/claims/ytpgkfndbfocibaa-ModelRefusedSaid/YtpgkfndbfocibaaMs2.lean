import Derived.Test.YtpgkfndbfocibaaProg
import Derived.Test.YtpgkfndbfocibaaPl29
import Derived.Test.YtpgkfndbfocibaaPl15c
import Derived.Test.YtpgkfndbfocibaaSepE
import Derived.Test.YtpgkfndbfocibaaSepU
import Derived.Test.YtpgkfndbfocibaaSepX
namespace Go.Proofs.Ytpgkfndbfocibaa
open Go.RowKit Go.Own Go.Own.R Go.Own.G Go.Own.Gr Go.Own.Ml


set_option maxHeartbeats 4000000 in
theorem qpln_c {b : Int} {w : World}   :
  Calls Try.prog 94 #[.int .u8 b] w fun e w' => e = .returned (.bool (decide (32 ≤ b ∧ b ≤ 126 ∧ b ≠ 34 ∧ b ≠ 92))) ∧ St w NoX [] w' := by
 refine calls_in 17 Try.func94 V V (by simp) (fun A0 Y0 hdf0 hargs => ?_)
 have l0_0 := hargs 0 (.int .u8 b) V
 clear hargs; replace Y0 : SzN A0 17 := ⟨Y0⟩
 have hS := St.nil w
 refine wp_seq_k fun K1 H1 => region_in ?_
 refine W_v V V (V_asg V V) ?_
 refine W_end (gen_Q fun A2 E2 => ?_)
 have Y2 := szq E2
 have F2 := (fsE E2 (cq1 (FS.n hdf0) V)).c (lookE E2 0 (es V l0_0))
 clear E2 Y0 hdf0 l0_0
 refine tk H1 (wp_seq_k fun K3 H3 => region_in ?_)
 refine W_v V V (V_mov V (fg0 F2)) ?_
 refine W_v V V (V_geq V (et V) V) ?_
 refine W_split V V (V_mov V (et V)) (fun c4 => ?_) (fun c4 => ?_)
 ·refine W_v V (xwt V V (et V)) (V_mov V (es3 V (fg0 F2))) ?_
  refine W_v V (xwt V V (es V (et V))) (V_leq V (et V) V) ?_
  refine W_v V V (V_pickT V (es2 V (et V)) (et V)) ?_
  refine W_split V V (V_mov V (et V)) (fun c5 => ?_) (fun c5 => ?_)
  ·refine W_v V (xwt V V (et V)) (V_mov V (es7 V (fg0 F2))) ?_
   refine W_v V (xwt V V (es V (et V))) (V_neq V (et V) V) ?_
   refine W_v V V (V_pickT V (es2 V (et V)) (et V)) ?_
   refine W_split V V (V_mov V (et V)) (fun c6 => ?_) (fun c6 => ?_)
   ·refine W_v V (xwt V V (et V)) (V_mov V (es8 V (es3 V (fg0 F2)))) ?_
    refine W_v V (xwt V V (es V (et V))) (V_neq V (et V) V) ?_
    refine W_v V V (V_pickT V (es2 V (et V)) (et V)) ?_
    refine W_v V V (V_asg V (et V)) ?_
    refine W_end (gen_Q fun A7 E7 => ?_)
    have Y7 := szq E7
    have F7 := fsE E7 (ck (cq6 (cq8 F2 V) V) V V)
    clear E7 Y2 F2
    refine tk H3 ?_
    refine wp_ret ?_
    refine ret_in (results_1 Try.results94 (rv_tmp (fg0 F7))) F7.d ?_
    rw [show (decide (32 ≤ b ∧ b ≤ 126 ∧ b ≠ 34 ∧ b ≠ 92)) = decide (b ≠ 92) by exact decide_eq_decide.2 (by omega)]
    exact ⟨rfl, hS.fin0⟩
   refine xof V V V (et V) ?_
   refine xof V V V (es V (et V)) ?_
   refine W_v V V (V_pickF V (es2 V (et V)) V) ?_
   refine W_v V V (V_asg V (et V)) ?_
   refine W_end (gen_Q fun A8 E8 => ?_)
   have Y8 := szq E8
   have F8 := fsE E8 (ck (cq6 (cq8 F2 V) V) V V)
   clear E8 Y2 F2
   refine tk H3 ?_
   refine wp_ret ?_
   refine ret_in (results_1 Try.results94 (rv_tmp (fg0 F8))) F8.d ?_
   rw [show (decide (32 ≤ b ∧ b ≤ 126 ∧ b ≠ 34 ∧ b ≠ 92)) = false by exact decide_eq_false (by omega)]
   exact ⟨rfl, hS.fin0⟩
  refine xof V V V (et V) ?_
  refine xof V V V (es V (et V)) ?_
  refine W_v V V (V_pickF V (es2 V (et V)) V) ?_
  refine W_v V V (V_mov V (et V)) ?_
  refine xof V V V (et V) ?_
  refine xof V V V (es V (et V)) ?_
  refine W_v V V (V_pickF V (es2 V (et V)) V) ?_
  refine W_v V V (V_asg V (et V)) ?_
  refine W_end (gen_Q fun A9 E9 => ?_)
  have Y9 := szq E9
  have F9 := fsE E9 (ck (cq6 (cq8 F2 V) V) V V)
  clear E9 Y2 F2
  refine tk H3 ?_
  refine wp_ret ?_
  refine ret_in (results_1 Try.results94 (rv_tmp (fg0 F9))) F9.d ?_
  rw [show (decide (32 ≤ b ∧ b ≤ 126 ∧ b ≠ 34 ∧ b ≠ 92)) = false by exact decide_eq_false (by omega)]
  exact ⟨rfl, hS.fin0⟩
 refine xof V V V (et V) ?_
 refine xof V V V (es V (et V)) ?_
 refine W_v V V (V_pickF V (es2 V (et V)) V) ?_
 refine W_v V V (V_mov V (et V)) ?_
 refine xof V V V (et V) ?_
 refine xof V V V (es V (et V)) ?_
 refine W_v V V (V_pickF V (es2 V (et V)) V) ?_
 refine W_v V V (V_mov V (et V)) ?_
 refine xof V V V (et V) ?_
 refine xof V V V (es V (et V)) ?_
 refine W_v V V (V_pickF V (es2 V (et V)) V) ?_
 refine W_v V V (V_asg V (et V)) ?_
 refine W_end (gen_Q fun A10 E10 => ?_)
 have Y10 := szq E10
 have F10 := fsE E10 (ck (cq6 (cq8 F2 V) V) V V)
 clear E10 Y2 F2
 refine tk H3 ?_
 refine wp_ret ?_
 refine ret_in (results_1 Try.results94 (rv_tmp (fg0 F10))) F10.d ?_
 rw [show (decide (32 ≤ b ∧ b ≤ 126 ∧ b ≠ 34 ∧ b ≠ 92)) = false by exact decide_eq_false (by omega)]
 exact ⟨rfl, hS.fin0⟩

set_option maxHeartbeats 4000000 in
theorem qbar_c {l : List UInt8} {w : World}  (hll : l.length ≤ 1048576) :
  Calls Try.prog 84 #[(stv l)] w fun e w' => e = .returned (.bool (barB l)) ∧ St w NoX [] w' := by
 refine calls_in 24 Try.func84 V V (by simp) (fun A0 Y0 hdf0 hargs => ?_)
 have l0_0 := hargs 0 ((stv l)) V
 clear hargs; replace Y0 : SzN A0 24 := ⟨Y0⟩
 have hS := St.nil w
 refine wp_seq_k fun K1 H1 => region_in ?_
 refine W_v V V (V_asg V V) ?_
 refine W_end (gen_Q fun A2 E2 => ?_)
 have Y2 := szq E2
 have F2 := (fsE E2 (cq1 (FS.n hdf0) V)).c (lookE E2 0 (es V l0_0))
 clear E2 Y0 hdf0 l0_0
 refine tk H1 (wp_seq_k fun K3 H3 => ?_)
 refine wp_seq_k fun K4 H4 => region_in ?_
 refine W_v V V (V_asg V V) ?_
 refine W_end (gen_Q fun A5 E5 => ?_)
 have Y5 := szq E5
 have F5 := fsE E5 (ck F2 V V)
 clear E5 Y2 F2
 refine tk H4 ?_
 refine wp_block ?_
 -- loop 2
 refine loopX (fun mz A' w' => SzN A' 24 ∧ A'.defers = [] ∧ (∃ (k : Nat), (mz = l.length - k) ∧ (k ≤ l.length) ∧ (∀ i, i < k → ∀ b, l[i]? = some b → okB b) ∧ (EV A' (.tmp 3) = .int .i64 (k : Int)) ∧ (EV A' (.tmp 0) = EV A5 (.tmp 0)) ∧ (St w NoX [] w'))) (l.length - 0) ⟨Y5, F5.d, 0, rfl, (by omega), (fun i hi => by omega), (((fg0 F5)).trans (by first | rfl | (simp; done) | (congr 1; omega))), rfl, hS⟩ ?_
 clear hS
 rintro n6 A6 w6 ⟨Y6, hdf6, k, hm6, hk, hz, l3_6, u0_6, S6⟩
 have l0_6 := u0_6.trans (fg1 F5)
 refine wp_seq_k fun K7 H7 => ?_
 refine wp_seq_k fun K8 H8 => region_in ?_
 refine W_v V V (V_mov V l3_6) ?_
 refine W_v V V (V_mov V (es V l0_6)) ?_
 refine W_v V V (V_lenT V (et V) Try.underlying9) ?_
 refine W_v V V (V_lss V (es2 V (et V)) (et V)) ?_
 refine W_end (gen_Q fun A9 E9 => ?_)
 have Y9 := szq E9
 have F9 := ((fsE E9 (ck (cq3 (FS.n hdf6) V) V V)).c (lookE E9 0 (es4 V l0_6))).c (lookE E9 3 (es4 V l3_6))
 clear E9 Y6 hdf6 l3_6 l0_6
 refine tk H8 ?_
 refine cond_dec (fg2 F9) (fun c10 => ?_) (fun c10 => ?_)
 ·refine wp_skip ?_
  refine tk H7 (wp_seq_k fun K11 H11 => ?_)
  refine wp_block ?_
  refine wp_seq_k fun K12 H12 => region_in ?_
  refine W_v V V (V_mov V (fg1 F9)) ?_
  refine W_v V V (V_mov V (es V (fg0 F9))) ?_
  have k13 : k < l.length := by first | omega | (simp only [List.length_cons, List.length_nil]; omega) | decide
  obtain ⟨y13, hy13⟩ := get_some (xs := l) (k := k) k13
  have hu13 := y13.toNat_lt
  refine W_v V V (V_idxT V (es V (et V)) (et V) (by omega) hy13 Try.underlying9) ?_
  refine W_call V V V Try.func94 (by kernel_rfl) V (args1 (et V)) (qpln_c (b := (y13.toNat : Int))  ) ?_
  rintro _ w14 ⟨rfl, hP14⟩
  refine ⟨_, rfl, ?_⟩
  have S14 := S6.join hP14
  replace S14 : St w NoX [] w14 := S14
  refine W_v V V (V_notd V (et V)) ?_
  refine W_split V V (V_mov V (et V)) (fun c15 => ?_) (fun c15 => ?_)
  ·refine xof V V V (et V) ?_
   refine xof V V V (es V (et V)) ?_
   refine xof V V V (es2 V (et V)) ?_
   refine xof V V V (es3 V (et V)) ?_
   refine W_v V V (V_pickT V (es4 V (et V)) V) ?_
   refine W_end (gen_Q fun A16 E16 => ?_)
   have Y16 := szq E16
   have F16 := fsE E16 (ck (ck (ck (ck (ck (cq6 F9 V) V V) V V) V V) V V) V V)
   clear E16 Y9 F9
   refine tk H12 ?_
   refine cond_t (fg0 F16) ?_
   refine wp_seq_k fun K17 H17 => region_in ?_
   refine W_v V V (V_asg V V) ?_
   refine W_end (gen_Q fun A18 E18 => ?_)
   have Y18 := szq E18
   have F18 := fsE E18 (ck F16 V V)
   clear E18 Y16 F16
   refine tk H17 ?_
   refine wp_ret ?_
   refine inb_ret ?_
   refine then_ret ?_
   refine then_ret ?_
   refine inb_ret ?_
   refine then_ret ?_
   refine ret_in (results_1 Try.results84 (rv_tmp (fg0 F18))) F18.d ?_
   rw [show barB l = false from bar_no hy13 (by unfold okB; omega)]
   exact ⟨rfl, S14.fin0⟩
  refine W_v V (xwt V V (et V)) (V_mov V (es6 V (fg1 F9))) ?_
  refine W_v V (xwt V V (es V (et V))) (V_mov V (es7 V (fg0 F9))) ?_
  refine W_v V (xwt V V (es2 V (et V))) (V_idxT V (es V (et V)) (et V) (by omega) hy13 Try.underlying9) ?_
  refine W_v V (xwt V V (es3 V (et V))) (V_eql V (et V) V) ?_
  refine W_v V V (V_pickF V (es4 V (et V)) (et V)) ?_
  refine W_end (gen_Q fun A20 E20 => ?_)
  have Y20 := szq E20
  have F20 := fsE E20 (ck (ck (ck (ck (ck (cq6 F9 V) V V) V V) V V) V V) V V)
  clear E20 Y9 F9
  refine tk H12 ?_
  refine cond_dec (fg0 F20) (fun c21 => ?_) (fun c21 => ?_)
  ·refine wp_seq_k fun K22 H22 => region_in ?_
   refine W_v V V (V_asg V V) ?_
   refine W_end (gen_Q fun A23 E23 => ?_)
   have Y23 := szq E23
   have F23 := fsE E23 (ck F20 V V)
   clear E23 Y20 F20
   refine tk H22 ?_
   refine wp_ret ?_
   refine inb_ret ?_
   refine then_ret ?_
   refine then_ret ?_
   refine inb_ret ?_
   refine then_ret ?_
   refine ret_in (results_1 Try.results84 (rv_tmp (fg0 F23))) F23.d ?_
   rw [show barB l = false from bar_no hy13 (by unfold okB; omega)]
   exact ⟨rfl, S14.fin0⟩
  refine wp_skip ?_
  refine inb_n ?_
  refine tk H11 ?_
  refine region_in ?_
  refine W_v V V (V_mov V (fg5 F20)) ?_
  refine W_v V V (V_add V (et V) V (by omega) (by omega)) ?_
  refine W_v V V (V_asg V (et V)) ?_
  refine W_end (gen_Q fun A24 E24 => ?_)
  have Y24 := szq E24
  have F24 := fsE E24 (ck (cq2 (fx5 F20) V) V V)
  clear E24 Y20 F20
  refine then_n ⟨l.length - (k + 1), by simp only [hm6]; omega, Y24, F24.d, (k + 1), rfl, (by omega), (bar_step hz hy13 (by unfold okB; omega)), (((fg0 F24)).trans (by first | rfl | (simp; done) | (congr 1; omega))), (((fg6 F24)).trans (fg1 F5).symm), S14⟩
 refine wp_exit ?_
 refine then_exit ?_
 refine then_exit ?_
 refine inb_hit ?_
 refine tk H3 (wp_seq_k fun K25 H25 => region_in ?_)
 refine W_v V V (V_mov V (fg1 F9)) ?_
 refine W_v V V (V_lenT V (et V) Try.underlying9) ?_
 refine W_v V V (V_gtr V (et V) V) ?_
 refine W_v V V (V_asg V (et V)) ?_
 refine W_end (gen_Q fun A26 E26 => ?_)
 have Y26 := szq E26
 have F26 := fsE E26 (ck (cq3 F9 V) V V)
 clear E26 Y9 F9
 refine tk H25 ?_
 refine wp_ret ?_
 refine ret_in (results_1 Try.results84 (rv_tmp (fg0 F26))) F26.d ?_
 rw [show barB l = decide (0 < (l.length : Int)) from bar_end hz (by omega)]
 exact ⟨rfl, S6.fin0⟩

set_option maxHeartbeats 4000000 in
theorem qlns_c {l : List UInt8} {w : World}  (hll : 0 < l.length ∧ l.length ≤ 5000) (hlt : l.getD (l.length - 1) 0 = 10) :
  Calls Try.prog 58 #[(stv l)] w fun e w' => ∃ v, e = .returned (.tuple #[v, .int .i64 0]) ∧ St w NoX [ro 1 strC v (lnK l l.length)] w' := by
 have hsl := fun k => st_le (l := l) k
 have hnl := fun k => lnK_len (l := l) k
 refine calls_in 41 Try.func58 V V (by simp) (fun A0 Y0 hdf0 hargs => ?_)
 have l0_0 := hargs 0 ((stv l)) V
 clear hargs; replace Y0 : SzN A0 41 := ⟨Y0⟩
 have hS := St.nil w
 refine wp_seq_k fun K1 H1 => region_in ?_
 refine W_v V V (V_asg V V) ?_
 refine W_v V V (V_asg V V) ?_
 refine W_end (gen_Q fun A2 E2 => ?_)
 have Y2 := szq E2
 have F2 := (fsE E2 (cq2 (FS.n hdf0) V)).c (lookE E2 0 (es2 V l0_0))
 clear E2 Y0 hdf0 l0_0
 refine tk H1 (wp_seq_k fun K3 H3 => ?_)
 refine wp_seq_k fun K4 H4 => region_in ?_
 refine W_v V V (V_mov V (fg0 F2)) ?_
 refine W_v V V (V_lenT V (et V) Try.underlying9) ?_
 refine W_v V V (V_gtr V (et V) V) ?_
 refine W_end (gen_Q fun A5 E5 => ?_)
 have Y5 := szq E5
 have F5 := fsE E5 (ck (cq2 F2 V) V V)
 clear E5 Y2 F2
 refine tk H4 ?_
 refine cond_not (fg0 F5) (by rw [decide_eq_false_iff_not]; omega) ?_
 refine wp_skip ?_
 refine tk H3 (wp_seq_k fun K6 H6 => ?_)
 refine wp_seq_k fun K7 H7 => region_in ?_
 refine W_v V V (V_mov V (fg1 F5)) ?_
 refine W_v V V (V_eqlT V (et V) V) ?_
 refine W_end (gen_Q fun A8 E8 => ?_)
 have Y8 := szq E8
 have F8 := fsE E8 (ck (cq1 F5 V) V V)
 clear E8 Y5 F5
 refine tk H7 ?_
 refine cond_not (fg0 F8) (by rw [decide_eq_false_iff_not]; intro q; subst q; simp at hll) ?_
 refine wp_skip ?_
 refine tk H6 (wp_seq_k fun K9 H9 => ?_)
 refine wp_seq_k fun K10 H10 => region_in ?_
 refine W_v V V (V_mov V (fg2 F8)) ?_
 refine W_v V V (V_mov V (es V (fg2 F8))) ?_
 refine W_v V V (V_lenT V (et V) Try.underlying9) ?_
 refine W_v V V (V_sb V (et V) V (by omega) (by omega)) ?_
 have k11 : (l.length - 1) < l.length := by first | omega | (simp only [List.length_cons, List.length_nil]; omega) | decide
 obtain ⟨y11, hy11⟩ := get_some (xs := l) (k := (l.length - 1)) k11
 have hu11 := y11.toNat_lt
 refine W_v V V (V_idxT V (es3 V (et V)) (et V) (by omega) hy11 Try.underlying9) ?_
 refine W_v V V (V_neq V (et V) V) ?_
 refine W_end (gen_Q fun A12 E12 => ?_)
 have Y12 := szq E12
 have F12 := fsE E12 (ck (cq5 F8 V) V V)
 clear E12 Y8 F8
 refine tk H10 ?_
 refine cond_not (fg0 F12) (by rw [decide_eq_false_iff_not]; have h := gD8 hy11; rw [hlt] at h; subst h; simp) ?_
 refine wp_skip ?_
 refine tk H9 (wp_seq_k fun K13 H13 => region_in ?_)
 refine W_v V V (V_asg V V) ?_
 refine W_end (gen_Q fun A14 E14 => ?_)
 have Y14 := szq E14
 have F14 := fsE E14 (ck F12 V V)
 clear E14 Y12 F12
 refine tk H13 (wp_seq_k fun K15 H15 => region_in ?_)
 refine W_v V V (V_asg V V) ?_
 refine W_end (gen_Q fun A16 E16 => ?_)
 have Y16 := szq E16
 have F16 := fsE E16 (ck F14 V V)
 clear E16 Y14 F14
 refine tk H15 (wp_seq_k fun K17 H17 => ?_)
 refine wp_seq_k fun K18 H18 => region_in ?_
 refine W_v V V (V_asg V V) ?_
 refine W_end (gen_Q fun A19 E19 => ?_)
 have Y19 := szq E19
 have F19 := fsE E19 (ck F16 V V)
 clear E19 Y16 F16
 refine tk H18 ?_
 refine wp_block ?_
 obtain ⟨c20, hc20, S20⟩ := hS.pnil (s := 1)
 -- loop 10
 refine loopX (fun mz A' w' => SzN A' 41 ∧ A'.defers = [] ∧ (∃ (k : Nat) (bv : Value), (mz = l.length - k) ∧ (k ≤ l.length) ∧ (EV A' (.tmp 6) = .int .i64 (k : Int)) ∧ (EV A' (.tmp 5) = .int .i64 ((stK l k : Nat) : Int)) ∧ (EV A' (.tmp 4) = bv) ∧ (EV A' (.tmp 0) = EV A19 (.tmp 0)) ∧ (St w NoX [ro 1 strC bv (lnK l k)] w'))) (l.length - 0) ⟨Y19, F19.d, 0, (.slice none 0 0), rfl, (by omega), (((fg0 F19)).trans (by first | rfl | (simp; done) | (congr 1; omega))), (((fg1 F19)).trans (by first | rfl | (simp; done) | (congr 1; omega))), (((fg2 F19)).trans (by first | rfl | (simp; done) | (congr 1; omega))), rfl, (by have q0 : c20 = ro 1 strC (.slice none 0 0) (lnK l 0) := hc20.trans (rfl); subst q0; exact S20)⟩ ?_
 clear S20 hc20
 rintro n21 A21 w21 ⟨Y21, hdf21, k, bv, hm21, hk, l6_21, l5_21, l4_21, u0_21, S21⟩
 have l0_21 := u0_21.trans (fg6 F19)
 obtain ⟨c20_21, hc20_21, S21⟩ := gen1 S21
 refine wp_seq_k fun K22 H22 => ?_
 refine wp_seq_k fun K23 H23 => region_in ?_
 refine W_v V V (V_mov V l6_21) ?_
 refine W_v V V (V_mov V (es V l0_21)) ?_
 refine W_v V V (V_lenT V (et V) Try.underlying9) ?_
 refine W_v V V (V_lss V (es2 V (et V)) (et V)) ?_
 refine W_end (gen_Q fun A24 E24 => ?_)
 have Y24 := szq E24
 have F24 := ((((fsE E24 (ck (cq3 (FS.n hdf21) V) V V)).c (lookE E24 0 (es4 V l0_21))).c (lookE E24 4 (es4 V l4_21))).c (lookE E24 5 (es4 V l5_21))).c (lookE E24 6 (es4 V l6_21))
 clear E24 Y21 hdf21 l6_21 l5_21 l4_21 l0_21
 refine tk H23 ?_
 refine cond_dec (fg4 F24) (fun c25 => ?_) (fun c25 => ?_)
 ·refine wp_skip ?_
  refine tk H22 (wp_seq_k fun K26 H26 => ?_)
  refine wp_block ?_
  refine wp_seq_k fun K27 H27 => region_in ?_
  refine W_v V V (V_mov V (fg3 F24)) ?_
  refine W_v V V (V_mov V (es V (fg0 F24))) ?_
  have k28 : k < l.length := by first | omega | (simp only [List.length_cons, List.length_nil]; omega) | decide
  obtain ⟨y28, hy28⟩ := get_some (xs := l) (k := k) k28
  have hu28 := y28.toNat_lt
  have hsk28 := st_le (l := l) k
  have hnk28 := lnK_len (l := l) k
  refine W_v V V (V_idxT V (es V (et V)) (et V) (by omega) hy28 Try.underlying9) ?_
  refine W_v V V (V_eql V (et V) V) ?_
  refine W_end (gen_Q fun A29 E29 => ?_)
  have Y29 := szq E29
  have F29 := fsE E29 (ck (cq3 F24 V) V V)
  clear E29 Y24 F24
  refine tk H27 ?_
  refine cond_dec (fg0 F29) (fun c30 => ?_) (fun c30 => ?_)
  ·refine wp_seq_k fun K31 H31 => region_in ?_
   refine W_v V V (V_mov V (fg3 F29)) ?_
   refine W_v V V (V_mov V (es V (fg4 F29))) ?_
   refine W_v V V (V_mov V (es2 V (fg2 F29))) ?_
   refine W_v V V (V_mov V (es3 V (fg1 F29))) ?_
   refine W_v V V (V_sliceT (a := (stK l k)) (b := k) V (es2 V (et V)) (es V (et V)) (et V) (by omega) (by omega) (by omega) (by omega) Try.underlying9) ?_
   have hll33 : [((l.take k).drop (stK l k))].length = 1 := rfl
   refine xsL (vs := [(stv ((l.take k).drop (stK l k)))]) (xs := ([((l.take k).drop (stK l k))].flatMap strC)) 1 S21 V V V (parts1 (et V)) Try.underlying116 (fun g33 w33 c33 hc33 S33 => ?_)
   replace hc33 : c33 = ro 1 strC (.slice (some ⟨g33, 0, none⟩) 1 1) [((l.take k).drop (stK l k))] := hc33
   replace S33 : St w NoX [c33, c20_21] w33 := S33
   refine W_appS 1 1 S33 V hc20_21 V V V (es5 V (et V)) (et V) Try.underlying116 Try.underlying116 (z := .string ByteArray.empty) (bytes := 16) (by kernel_rfl) V (by decide) (ow_at (S33.chq 0 V hc33)) (ones_r strC_one) (by first | omega | (simp; done) | (simp; omega)) (by first | omega | (simp; done) | (simp; omega)) (fun v34 w34 c34 hc34 S34 => ?_)
   replace hc34 : c34 = ro 1 strC v34 ((lnK l k) ++ [((l.take k).drop (stK l k))]) := hc34.trans (app_eqR (by first | (simp; done) | (rw [List.take_of_length_le (l := List.drop _ _) (by rw [List.length_drop]; exact Nat.le_refl _)])))
   replace S34 : St w NoX [c33, c34] w34 := S34
   refine W_v V V (V_asg V (et V)) ?_
   refine W_end (gen_Q fun A35 E35 => ?_)
   have Y35 := szq E35
   have F35 := fsE E35 (ck (cq7 (fx3 F29) V) V V)
   clear E35 Y29 F29
   have S36 : St w NoX [c34] w34 := S34.sel [1] (by decide) V
   refine tk H31 ?_
   refine region_in ?_
   refine W_v V V (V_mov V (fg2 F35)) ?_
   refine W_v V V (V_add V (et V) V (by omega) (by omega)) ?_
   refine W_v V V (V_asg V (et V)) ?_
   refine W_end (gen_Q fun A37 E37 => ?_)
   have Y37 := szq E37
   have F37 := fsE E37 (ck (cq2 (fx3 F35) V) V V)
   clear E37 Y35 F35
   refine inb_n ?_
   refine tk H26 ?_
   refine region_in ?_
   refine W_v V V (V_mov V (fg3 F37)) ?_
   refine W_v V V (V_add V (et V) V (by omega) (by omega)) ?_
   refine W_v V V (V_asg V (et V)) ?_
   refine W_end (gen_Q fun A38 E38 => ?_)
   have Y38 := szq E38
   have F38 := fsE E38 (ck (cq2 (fx3 F37) V) V V)
   clear E38 Y37 F37
   refine then_n ⟨l.length - (k + 1), by simp only [hm21]; omega, Y38, F38.d, (k + 1), v34, rfl, (by omega), (((fg0 F38)).trans (by first | rfl | (simp; done) | (congr 1; omega))), (((fg1 F38)).trans ((by rw [(ln_T hy28 (by omega)).2] <;> rfl))), (((fg2 F38)).trans (by first | rfl | (simp; done) | (congr 1; omega))), (((fg4 F38)).trans (fg6 F19).symm), (by have q0 : c34 = ro 1 strC v34 (lnK l (k + 1)) := hc34.trans ((congrArg (ro 1 strC _) (ln_T hy28 (by omega)).1)); subst q0; exact S36)⟩
  refine wp_skip ?_
  refine inb_n ?_
  refine tk H26 ?_
  refine region_in ?_
  refine W_v V V (V_mov V (fg1 F29)) ?_
  refine W_v V V (V_add V (et V) V (by omega) (by omega)) ?_
  refine W_v V V (V_asg V (et V)) ?_
  refine W_end (gen_Q fun A39 E39 => ?_)
  have Y39 := szq E39
  have F39 := fsE E39 (ck (cq2 (fx1 F29) V) V V)
  clear E39 Y29 F29
  refine then_n ⟨l.length - (k + 1), by simp only [hm21]; omega, Y39, F39.d, (k + 1), bv, rfl, (by omega), (((fg0 F39)).trans (by first | rfl | (simp; done) | (congr 1; omega))), (((fg2 F39)).trans ((by rw [(ln_F hy28 (by omega)).2] <;> rfl))), (((fg3 F39)).trans (by first | rfl | (simp; done) | (congr 1; omega))), (((fg4 F39)).trans (fg6 F19).symm), (by have q0 : c20_21 = ro 1 strC bv (lnK l (k + 1)) := hc20_21.trans ((congrArg (ro 1 strC _) (ln_F hy28 (by omega)).1)); subst q0; exact S21)⟩
 refine wp_exit ?_
 refine then_exit ?_
 refine then_exit ?_
 refine inb_hit ?_
 refine tk H17 (wp_seq_k fun K40 H40 => ?_)
 refine wp_seq_k fun K41 H41 => region_in ?_
 refine W_v V V (V_mov V (fg2 F24)) ?_
 refine W_v V V (V_lenS V (et V) (ow_at (S21.chq 0 V hc20_21)) Try.underlying116) ?_
 refine W_v V V (V_gtr V (et V) V) ?_
 refine W_end (gen_Q fun A42 E42 => ?_)
 have Y42 := szq E42
 have F42 := fsE E42 (ck (cq2 F24 V) V V)
 clear E42 Y24 F24
 refine tk H41 ?_
 refine cond_not (fg0 F42) (by rw [decide_eq_false_iff_not]; have := hnl k; omega) ?_
 refine wp_skip ?_
 refine tk H40 (wp_seq_k fun K43 H43 => region_in ?_)
 refine W_v V V (V_mov V (fg3 F42)) ?_
 refine W_v V V (V_asg V (et V)) ?_
 refine W_v V V (V_asg V V) ?_
 refine W_end (gen_Q fun A44 E44 => ?_)
 have Y44 := szq E44
 have F44 := fsE E44 (ck (ck (cq1 F42 V) V V) V V)
 clear E44 Y42 F42
 refine tk H43 ?_
 refine wp_ret ?_
 refine ret_in (results_2 Try.results58 (rv_tmp (fg1 F44)) (rv_tmp (fg0 F44))) F44.d ?_
 exact ⟨_, rfl, (S21.fin1 0 V (hc20_21.trans (by rw [show k = l.length by omega])))⟩

end Go.Proofs.Ytpgkfndbfocibaa
namespace Go.Proofs.Ytpgkfndbfocibaa
open Go.RowKit Go.Own Go.Own.R Go.Own.G Go.Own.Gr Go.Own.Ml


set_option maxHeartbeats 4000000 in
theorem qwrd_c {k : Int} {w : World}   :
  Calls Try.prog 78 #[.int .i64 k] w fun e w' => e = .returned (.tuple #[stv (wrdA k), stv (wrdB k)]) ∧ St w NoX [] w' := by
 refine calls_in 27 Try.func78 V V (by simp) (fun A0 Y0 hdf0 hargs => ?_)
 have l0_0 := hargs 0 (.int .i64 k) V
 clear hargs; replace Y0 : SzN A0 27 := ⟨Y0⟩
 have hS := St.nil w
 refine wp_seq_k fun K1 H1 => region_in ?_
 refine W_v V V (V_asg V V) ?_
 refine W_v V V (V_asg V V) ?_
 refine W_end (gen_Q fun A2 E2 => ?_)
 have Y2 := szq E2
 have F2 := (fsE E2 (cq2 (FS.n hdf0) V)).c (lookE E2 0 (es2 V l0_0))
 clear E2 Y0 hdf0 l0_0
 refine tk H1 (wp_seq_k fun K3 H3 => ?_)
 refine wp_seq_k fun K4 H4 => region_in ?_
 refine W_v V V (V_mov V (fg0 F2)) ?_
 refine W_end (gen_Q fun A5 E5 => ?_)
 have Y5 := szq E5
 have F5 := fsE E5 (ck F2 V V)
 clear E5 Y2 F2
 refine tk H4 ?_
 refine wp_block ?_
 refine wp_seq_k fun K6 H6 => region_in ?_
 refine W_v V V (V_eql V (fg0 F5) V) ?_
 refine W_v V V (V_asg V (et V)) ?_
 refine W_end (gen_Q fun A7 E7 => ?_)
 have Y7 := szq E7
 have F7 := fsE E7 (ck (cq1 F5 V) V V)
 clear E7 Y5 F5
 refine tk H6 ?_
 refine cond_dec (fg0 F7) (fun c8 => ?_) (fun c8 => ?_)
 ·refine wp_seq_k fun K9 H9 => region_in ?_
  refine W_v V V (V_asg V V) ?_
  refine W_v V V (V_asg V V) ?_
  refine W_end (gen_Q fun A10 E10 => ?_)
  have Y10 := szq E10
  have F10 := fsE E10 (ck (ck F7 V V) V V)
  clear E10 Y7 F7
  refine tk H9 ?_
  refine wp_ret ?_
  refine inb_ret ?_
  refine then_ret ?_
  refine ret_in (results_2 Try.results78 (rv_tmp (fg1 F10)) (rv_tmp (fg0 F10))) F10.d ?_
  obtain rfl : k = 1 := by omega
  exact ⟨rfl, hS.fin0⟩
 refine wp_seq_k fun K11 H11 => region_in ?_
 refine W_v V V (V_eql V (fg1 F7) V) ?_
 refine W_v V V (V_asg V (et V)) ?_
 refine W_end (gen_Q fun A12 E12 => ?_)
 have Y12 := szq E12
 have F12 := fsE E12 (ck (cq1 F7 V) V V)
 clear E12 Y7 F7
 refine tk H11 ?_
 refine cond_dec (fg0 F12) (fun c13 => ?_) (fun c13 => ?_)
 ·refine wp_seq_k fun K14 H14 => region_in ?_
  refine W_v V V (V_asg V V) ?_
  refine W_v V V (V_asg V V) ?_
  refine W_end (gen_Q fun A15 E15 => ?_)
  have Y15 := szq E15
  have F15 := fsE E15 (ck (ck F12 V V) V V)
  clear E15 Y12 F12
  refine tk H14 ?_
  refine wp_ret ?_
  refine inb_ret ?_
  refine then_ret ?_
  refine ret_in (results_2 Try.results78 (rv_tmp (fg1 F15)) (rv_tmp (fg0 F15))) F15.d ?_
  obtain rfl : k = 2 := by omega
  exact ⟨rfl, hS.fin0⟩
 refine wp_seq_k fun K16 H16 => region_in ?_
 refine W_v V V (V_eql V (fg2 F12) V) ?_
 refine W_v V V (V_asg V (et V)) ?_
 refine W_end (gen_Q fun A17 E17 => ?_)
 have Y17 := szq E17
 have F17 := fsE E17 (ck (cq1 F12 V) V V)
 clear E17 Y12 F12
 refine tk H16 ?_
 refine cond_dec (fg0 F17) (fun c18 => ?_) (fun c18 => ?_)
 ·refine wp_seq_k fun K19 H19 => region_in ?_
  refine W_v V V (V_asg V V) ?_
  refine W_v V V (V_asg V V) ?_
  refine W_end (gen_Q fun A20 E20 => ?_)
  have Y20 := szq E20
  have F20 := fsE E20 (ck (ck F17 V V) V V)
  clear E20 Y17 F17
  refine tk H19 ?_
  refine wp_ret ?_
  refine inb_ret ?_
  refine then_ret ?_
  refine ret_in (results_2 Try.results78 (rv_tmp (fg1 F20)) (rv_tmp (fg0 F20))) F20.d ?_
  obtain rfl : k = 3 := by omega
  exact ⟨rfl, hS.fin0⟩
 refine wp_seq_k fun K21 H21 => region_in ?_
 refine W_v V V (V_eql V (fg3 F17) V) ?_
 refine W_v V V (V_asg V (et V)) ?_
 refine W_end (gen_Q fun A22 E22 => ?_)
 have Y22 := szq E22
 have F22 := fsE E22 (ck (cq1 F17 V) V V)
 clear E22 Y17 F17
 refine tk H21 ?_
 refine cond_dec (fg0 F22) (fun c23 => ?_) (fun c23 => ?_)
 ·refine wp_seq_k fun K24 H24 => region_in ?_
  refine W_v V V (V_asg V V) ?_
  refine W_v V V (V_asg V V) ?_
  refine W_end (gen_Q fun A25 E25 => ?_)
  have Y25 := szq E25
  have F25 := fsE E25 (ck (ck F22 V V) V V)
  clear E25 Y22 F22
  refine tk H24 ?_
  refine wp_ret ?_
  refine inb_ret ?_
  refine then_ret ?_
  refine ret_in (results_2 Try.results78 (rv_tmp (fg1 F25)) (rv_tmp (fg0 F25))) F25.d ?_
  obtain rfl : k = 4 := by omega
  exact ⟨rfl, hS.fin0⟩
 refine wp_seq_k fun K26 H26 => region_in ?_
 refine W_v V V (V_eql V (fg4 F22) V) ?_
 refine W_v V V (V_asg V (et V)) ?_
 refine W_end (gen_Q fun A27 E27 => ?_)
 have Y27 := szq E27
 have F27 := fsE E27 (ck (cq1 F22 V) V V)
 clear E27 Y22 F22
 refine tk H26 ?_
 refine cond_dec (fg0 F27) (fun c28 => ?_) (fun c28 => ?_)
 ·refine wp_seq_k fun K29 H29 => region_in ?_
  refine W_v V V (V_asg V V) ?_
  refine W_v V V (V_asg V V) ?_
  refine W_end (gen_Q fun A30 E30 => ?_)
  have Y30 := szq E30
  have F30 := fsE E30 (ck (ck F27 V V) V V)
  clear E30 Y27 F27
  refine tk H29 ?_
  refine wp_ret ?_
  refine inb_ret ?_
  refine then_ret ?_
  refine ret_in (results_2 Try.results78 (rv_tmp (fg1 F30)) (rv_tmp (fg0 F30))) F30.d ?_
  obtain rfl : k = 5 := by omega
  exact ⟨rfl, hS.fin0⟩
 refine wp_seq_k fun K31 H31 => region_in ?_
 refine W_v V V (V_eql V (fg5 F27) V) ?_
 refine W_v V V (V_asg V (et V)) ?_
 refine W_end (gen_Q fun A32 E32 => ?_)
 have Y32 := szq E32
 have F32 := fsE E32 (ck (cq1 F27 V) V V)
 clear E32 Y27 F27
 refine tk H31 ?_
 refine cond_dec (fg0 F32) (fun c33 => ?_) (fun c33 => ?_)
 ·refine wp_seq_k fun K34 H34 => region_in ?_
  refine W_v V V (V_asg V V) ?_
  refine W_v V V (V_asg V V) ?_
  refine W_end (gen_Q fun A35 E35 => ?_)
  have Y35 := szq E35
  have F35 := fsE E35 (ck (ck F32 V V) V V)
  clear E35 Y32 F32
  refine tk H34 ?_
  refine wp_ret ?_
  refine inb_ret ?_
  refine then_ret ?_
  refine ret_in (results_2 Try.results78 (rv_tmp (fg1 F35)) (rv_tmp (fg0 F35))) F35.d ?_
  obtain rfl : k = 6 := by omega
  exact ⟨rfl, hS.fin0⟩
 refine wp_seq_k fun K36 H36 => region_in ?_
 refine W_v V V (V_eql V (fg6 F32) V) ?_
 refine W_v V V (V_asg V (et V)) ?_
 refine W_end (gen_Q fun A37 E37 => ?_)
 have Y37 := szq E37
 have F37 := fsE E37 (ck (cq1 F32 V) V V)
 clear E37 Y32 F32
 refine tk H36 ?_
 refine cond_dec (fg0 F37) (fun c38 => ?_) (fun c38 => ?_)
 ·refine wp_seq_k fun K39 H39 => region_in ?_
  refine W_v V V (V_asg V V) ?_
  refine W_v V V (V_asg V V) ?_
  refine W_end (gen_Q fun A40 E40 => ?_)
  have Y40 := szq E40
  have F40 := fsE E40 (ck (ck F37 V V) V V)
  clear E40 Y37 F37
  refine tk H39 ?_
  refine wp_ret ?_
  refine inb_ret ?_
  refine then_ret ?_
  refine ret_in (results_2 Try.results78 (rv_tmp (fg1 F40)) (rv_tmp (fg0 F40))) F40.d ?_
  obtain rfl : k = 7 := by omega
  exact ⟨rfl, hS.fin0⟩
 refine wp_seq_k fun K41 H41 => region_in ?_
 refine W_v V V (V_eql V (fg7 F37) V) ?_
 refine W_v V V (V_asg V (et V)) ?_
 refine W_end (gen_Q fun A42 E42 => ?_)
 have Y42 := szq E42
 have F42 := fsE E42 (ck (cq1 F37 V) V V)
 clear E42 Y37 F37
 refine tk H41 ?_
 refine cond_dec (fg0 F42) (fun c43 => ?_) (fun c43 => ?_)
 ·refine wp_seq_k fun K44 H44 => region_in ?_
  refine W_v V V (V_asg V V) ?_
  refine W_v V V (V_asg V V) ?_
  refine W_end (gen_Q fun A45 E45 => ?_)
  have Y45 := szq E45
  have F45 := fsE E45 (ck (ck F42 V V) V V)
  clear E45 Y42 F42
  refine tk H44 ?_
  refine wp_ret ?_
  refine inb_ret ?_
  refine then_ret ?_
  refine ret_in (results_2 Try.results78 (rv_tmp (fg1 F45)) (rv_tmp (fg0 F45))) F45.d ?_
  obtain rfl : k = 8 := by omega
  exact ⟨rfl, hS.fin0⟩
 refine wp_seq_k fun K46 H46 => region_in ?_
 refine W_v V V (V_eql V (fg8 F42) V) ?_
 refine W_v V V (V_asg V (et V)) ?_
 refine W_end (gen_Q fun A47 E47 => ?_)
 have Y47 := szq E47
 have F47 := fsE E47 (ck (cq1 F42 V) V V)
 clear E47 Y42 F42
 refine tk H46 ?_
 refine cond_dec (fg0 F47) (fun c48 => ?_) (fun c48 => ?_)
 ·refine wp_seq_k fun K49 H49 => region_in ?_
  refine W_v V V (V_asg V V) ?_
  refine W_v V V (V_asg V V) ?_
  refine W_end (gen_Q fun A50 E50 => ?_)
  have Y50 := szq E50
  have F50 := fsE E50 (ck (ck F47 V V) V V)
  clear E50 Y47 F47
  refine tk H49 ?_
  refine wp_ret ?_
  refine inb_ret ?_
  refine then_ret ?_
  refine ret_in (results_2 Try.results78 (rv_tmp (fg1 F50)) (rv_tmp (fg0 F50))) F50.d ?_
  obtain rfl : k = 9 := by omega
  exact ⟨rfl, hS.fin0⟩
 refine wp_seq_k fun K51 H51 => region_in ?_
 refine W_v V V (V_eql V (fg9 F47) V) ?_
 refine W_v V V (V_asg V (et V)) ?_
 refine W_end (gen_Q fun A52 E52 => ?_)
 have Y52 := szq E52
 have F52 := fsE E52 (ck (cq1 F47 V) V V)
 clear E52 Y47 F47
 refine tk H51 ?_
 refine cond_dec (fg0 F52) (fun c53 => ?_) (fun c53 => ?_)
 ·refine wp_seq_k fun K54 H54 => region_in ?_
  refine W_v V V (V_asg V V) ?_
  refine W_v V V (V_asg V V) ?_
  refine W_end (gen_Q fun A55 E55 => ?_)
  have Y55 := szq E55
  have F55 := fsE E55 (ck (ck F52 V V) V V)
  clear E55 Y52 F52
  refine tk H54 ?_
  refine wp_ret ?_
  refine inb_ret ?_
  refine then_ret ?_
  refine ret_in (results_2 Try.results78 (rv_tmp (fg1 F55)) (rv_tmp (fg0 F55))) F55.d ?_
  obtain rfl : k = 10 := by omega
  exact ⟨rfl, hS.fin0⟩
 refine wp_seq_k fun K56 H56 => region_in ?_
 refine W_v V V (V_eql V (fg10 F52) V) ?_
 refine W_v V V (V_asg V (et V)) ?_
 refine W_end (gen_Q fun A57 E57 => ?_)
 have Y57 := szq E57
 have F57 := fsE E57 (ck (cq1 F52 V) V V)
 clear E57 Y52 F52
 refine tk H56 ?_
 refine cond_dec (fg0 F57) (fun c58 => ?_) (fun c58 => ?_)
 ·refine wp_seq_k fun K59 H59 => region_in ?_
  refine W_v V V (V_asg V V) ?_
  refine W_v V V (V_asg V V) ?_
  refine W_end (gen_Q fun A60 E60 => ?_)
  have Y60 := szq E60
  have F60 := fsE E60 (ck (ck F57 V V) V V)
  clear E60 Y57 F57
  refine tk H59 ?_
  refine wp_ret ?_
  refine inb_ret ?_
  refine then_ret ?_
  refine ret_in (results_2 Try.results78 (rv_tmp (fg1 F60)) (rv_tmp (fg0 F60))) F60.d ?_
  obtain rfl : k = 11 := by omega
  exact ⟨rfl, hS.fin0⟩
 refine wp_skip ?_
 refine inb_n ?_
 refine tk H3 (wp_seq_k fun K61 H61 => region_in ?_)
 refine W_v V V (V_asg V V) ?_
 refine W_v V V (V_asg V V) ?_
 refine W_end (gen_Q fun A62 E62 => ?_)
 have Y62 := szq E62
 have F62 := fsE E62 (ck (ck F57 V V) V V)
 clear E62 Y57 F57
 refine tk H61 ?_
 refine wp_ret ?_
 refine ret_in (results_2 Try.results78 (rv_tmp (fg1 F62)) (rv_tmp (fg0 F62))) F62.d ?_
 have e1 : wrdA k = [] := by unfold wrdA; rw [if_neg (show ¬ k = 1 by omega), if_neg (show ¬ k = 2 by omega), if_neg (show ¬ k = 3 by omega), if_neg (show ¬ k = 4 by omega), if_neg (show ¬ k = 5 by omega), if_neg (show ¬ k = 6 by omega), if_neg (show ¬ k = 7 by omega), if_neg (show ¬ k = 8 by omega), if_neg (show ¬ k = 9 by omega), if_neg (show ¬ k = 10 by omega), if_neg (show ¬ k = 11 by omega)]
 have e2 : wrdB k = [] := by unfold wrdB; rw [if_neg (show ¬ k = 1 by omega), if_neg (show ¬ k = 2 by omega), if_neg (show ¬ k = 3 by omega), if_neg (show ¬ k = 4 by omega), if_neg (show ¬ k = 5 by omega), if_neg (show ¬ k = 6 by omega), if_neg (show ¬ k = 7 by omega), if_neg (show ¬ k = 8 by omega), if_neg (show ¬ k = 9 by omega), if_neg (show ¬ k = 10 by omega), if_neg (show ¬ k = 11 by omega)]
 rw [e1, e2]
 exact ⟨rfl, hS.fin0⟩

set_option maxHeartbeats 4000000 in
theorem qdg_c {b : Int} {w : World}   :
  Calls Try.prog 98 #[.int .u8 b] w fun e w' => e = .returned (.bool (decide (48 ≤ b ∧ b ≤ 57))) ∧ St w NoX [] w' := by
 refine calls_in 9 Try.func98 V V (by simp) (fun A0 Y0 hdf0 hargs => ?_)
 have l0_0 := hargs 0 (.int .u8 b) V
 clear hargs; replace Y0 : SzN A0 9 := ⟨Y0⟩
 have hS := St.nil w
 refine wp_seq_k fun K1 H1 => region_in ?_
 refine W_v V V (V_asg V V) ?_
 refine W_end (gen_Q fun A2 E2 => ?_)
 have Y2 := szq E2
 have F2 := (fsE E2 (cq1 (FS.n hdf0) V)).c (lookE E2 0 (es V l0_0))
 clear E2 Y0 hdf0 l0_0
 refine tk H1 (wp_seq_k fun K3 H3 => region_in ?_)
 refine W_v V V (V_mov V (fg0 F2)) ?_
 refine W_v V V (V_geq V (et V) V) ?_
 refine W_split V V (V_mov V (et V)) (fun c4 => ?_) (fun c4 => ?_)
 ·refine W_v V (xwt V V (et V)) (V_mov V (es3 V (fg0 F2))) ?_
  refine W_v V (xwt V V (es V (et V))) (V_leq V (et V) V) ?_
  refine W_v V V (V_pickT V (es2 V (et V)) (et V)) ?_
  refine W_v V V (V_asg V (et V)) ?_
  refine W_end (gen_Q fun A5 E5 => ?_)
  have Y5 := szq E5
  have F5 := fsE E5 (ck (cq6 F2 V) V V)
  clear E5 Y2 F2
  refine tk H3 ?_
  refine wp_ret ?_
  refine ret_in (results_1 Try.results98 (rv_tmp (fg0 F5))) F5.d ?_
  rw [show (decide (48 ≤ b ∧ b ≤ 57)) = decide (b ≤ 57) by exact decide_eq_decide.2 (by omega)]
  exact ⟨rfl, hS.fin0⟩
 refine xof V V V (et V) ?_
 refine xof V V V (es V (et V)) ?_
 refine W_v V V (V_pickF V (es2 V (et V)) V) ?_
 refine W_v V V (V_asg V (et V)) ?_
 refine W_end (gen_Q fun A6 E6 => ?_)
 have Y6 := szq E6
 have F6 := fsE E6 (ck (cq6 F2 V) V V)
 clear E6 Y2 F2
 refine tk H3 ?_
 refine wp_ret ?_
 refine ret_in (results_1 Try.results98 (rv_tmp (fg0 F6))) F6.d ?_
 rw [show (decide (48 ≤ b ∧ b ≤ 57)) = false by exact decide_eq_false (by omega)]
 exact ⟨rfl, hS.fin0⟩

set_option maxHeartbeats 4000000 in
theorem qset_c {kd : Int} {a : Int} {b : Int} {f : Int} {p : Int} {q : Int} {u : Int} {c : Int} {z : Int} {w : World}   :
  Calls Try.prog 87 #[.agg #[.int .i64 kd, .int .i64 a, .int .i64 b, .int .i64 f, .int .i64 p, .int .i64 q, .int .u64 u], .int .u8 c, .int .i64 z] w fun e w' => e = .returned (.agg #[.int .i64 kd, .int .i64 (if c = 97 then z else a), .int .i64 (if c = 98 then z else b), .int .i64 (if c = 102 then z else f), .int .i64 (if c = 112 then z else p), .int .i64 (if c = 97 ∨ c = 98 ∨ c = 102 ∨ c = 112 then q else z), .int .u64 u]) ∧ St w NoX [] w' := by
 refine calls_in 27 Try.func87 V V (by simp) (fun A0 Y0 hdf0 hargs => ?_)
 have l0_0 := hargs 0 (.agg #[.int .i64 kd, .int .i64 a, .int .i64 b, .int .i64 f, .int .i64 p, .int .i64 q, .int .u64 u]) V
 have l1_0 := hargs 1 (.int .u8 c) V
 have l2_0 := hargs 2 (.int .i64 z) V
 clear hargs; replace Y0 : SzN A0 27 := ⟨Y0⟩
 have hS := St.nil w
 refine wp_seq_k fun K1 H1 => region_in ?_
 refine W_boxS (zs := #[.int .i64 (kd), .int .i64 (a), .int .i64 (b), .int .i64 (f), .int .i64 (p), .int .i64 (q), .int .u64 (u)]) hS V V V l0_0 (by rfl) (fun g2 w2 c2 hc2 S2 => ?_)
 replace S2 : St w NoX [c2] w2 := S2
 refine W_allocS (z := .agg #[.int .i64 0, .int .i64 0, .int .i64 0, .int .i64 0, .int .i64 0, .int .i64 0, .int .u64 0]) (zs := #[.int .i64 0, .int .i64 0, .int .i64 0, .int .i64 0, .int .i64 0, .int .i64 0, .int .u64 0]) S2 V V V (by kernel_rfl) (by rfl) (fun g3 w3 c3 hc3 S3 => ?_)
 replace S3 : St w NoX [c3, c2] w3 := S3
 refine W_end (gen_Q fun A4 E4 => ?_)
 have Y4 := szq E4
 have F4 := ((fsE E4 (ck (ck (FS.n hdf0) V V) V V)).c (lookE E4 1 (es2 V l1_0))).c (lookE E4 2 (es2 V l2_0))
 clear E4 Y0 hdf0 l0_0 l1_0 l2_0
 refine tk H1 (wp_seq_k fun K5 H5 => ?_)
 refine wp_seq_k fun K6 H6 => region_in ?_
 refine W_v V V (V_mov V (fg1 F4)) ?_
 refine W_end (gen_Q fun A7 E7 => ?_)
 have Y7 := szq E7
 have F7 := fsE E7 (ck F4 V V)
 clear E7 Y4 F4
 refine tk H6 ?_
 refine wp_block ?_
 refine wp_seq_k fun K8 H8 => region_in ?_
 refine W_v V V (V_eql V (fg0 F7) V) ?_
 refine W_v V V (V_asg V (et V)) ?_
 refine W_end (gen_Q fun A9 E9 => ?_)
 have Y9 := szq E9
 have F9 := fsE E9 (ck (cq1 F7 V) V V)
 clear E9 Y7 F7
 refine tk H8 ?_
 refine cond_dec (fg0 F9) (fun c10 => ?_) (fun c10 => ?_)
 ·refine region_in ?_
  refine W_v V V (V_mov V (fg2 F9)) ?_
  refine W_v V V (V_fa (off' := 1) V (es V (fg5 F9)) Try.underlying42 V (by decide +kernel) V) ?_
  refine xsC (zs' := #[.int .i64 (kd), .int .i64 (z), .int .i64 (b), .int .i64 (f), .int .i64 (p), .int .i64 (q), .int .u64 (u)]) 1 S3 V hc2 V V V (et V) (es V (et V)) (by rfl) (fun w11 c11 hc11 S11 => ?_)
  replace S11 : St w NoX [c3, c11] w11 := S11
  refine W_end (gen_Q fun A12 E12 => ?_)
  have Y12 := szq E12
  have F12 := fsE E12 (cq2 F9 V)
  clear E12 Y9 F9
  refine inb_n ?_
  refine tk H5 (wp_seq_k fun K13 H13 => region_in ?_)
  refine W_r V V (VR_ldA V (fg5 F12) (S11.obj 1 V hc11) Try.underlying42 V (by kernel_rfl)) ?_
  refine xsA 0 S11 V hc3 V V V (es V (fg4 F12)) (et V) (fun w14 c14 hc14 S14 => ?_)
  replace S14 : St w NoX [c14, c11] w14 := S14
  refine W_end (gen_Q fun A15 E15 => ?_)
  have Y15 := szq E15
  have F15 := fsE E15 (cq1 F12 V)
  clear E15 Y12 F12
  have S16 : St w NoX [c14] w14 := S14.sel [0] (by decide) V
  refine tk H13 ?_
  refine wp_ret ?_
  refine ret_in (results_1 Try.results87 (rv_cellA (fg4 F15) (S16.obj 0 V hc14) Try.underlying42 V (by kernel_rfl))) F15.d ?_
  rw [show (if c = 97 then z else a) = z from if_pos (by omega)]
  rw [show (if c = 98 then z else b) = b from if_neg (by omega)]
  rw [show (if c = 102 then z else f) = f from if_neg (by omega)]
  rw [show (if c = 112 then z else p) = p from if_neg (by omega)]
  rw [show (if c = 97 ∨ c = 98 ∨ c = 102 ∨ c = 112 then q else z) = q from if_pos (by omega)]
  exact ⟨rfl, S16.fin0⟩
 refine wp_seq_k fun K17 H17 => region_in ?_
 refine W_v V V (V_eql V (fg1 F9) V) ?_
 refine W_v V V (V_asg V (et V)) ?_
 refine W_end (gen_Q fun A18 E18 => ?_)
 have Y18 := szq E18
 have F18 := fsE E18 (ck (cq1 F9 V) V V)
 clear E18 Y9 F9
 refine tk H17 ?_
 refine cond_dec (fg0 F18) (fun c19 => ?_) (fun c19 => ?_)
 ·refine region_in ?_
  refine W_v V V (V_mov V (fg3 F18)) ?_
  refine W_v V V (V_fa (off' := 2) V (es V (fg6 F18)) Try.underlying42 V (by decide +kernel) V) ?_
  refine xsC (zs' := #[.int .i64 (kd), .int .i64 (a), .int .i64 (z), .int .i64 (f), .int .i64 (p), .int .i64 (q), .int .u64 (u)]) 1 S3 V hc2 V V V (et V) (es V (et V)) (by rfl) (fun w20 c20 hc20 S20 => ?_)
  replace S20 : St w NoX [c3, c20] w20 := S20
  refine W_end (gen_Q fun A21 E21 => ?_)
  have Y21 := szq E21
  have F21 := fsE E21 (cq2 F18 V)
  clear E21 Y18 F18
  refine inb_n ?_
  refine tk H5 (wp_seq_k fun K22 H22 => region_in ?_)
  refine W_r V V (VR_ldA V (fg6 F21) (S20.obj 1 V hc20) Try.underlying42 V (by kernel_rfl)) ?_
  refine xsA 0 S20 V hc3 V V V (es V (fg5 F21)) (et V) (fun w23 c23 hc23 S23 => ?_)
  replace S23 : St w NoX [c23, c20] w23 := S23
  refine W_end (gen_Q fun A24 E24 => ?_)
  have Y24 := szq E24
  have F24 := fsE E24 (cq1 F21 V)
  clear E24 Y21 F21
  have S25 : St w NoX [c23] w23 := S23.sel [0] (by decide) V
  refine tk H22 ?_
  refine wp_ret ?_
  refine ret_in (results_1 Try.results87 (rv_cellA (fg5 F24) (S25.obj 0 V hc23) Try.underlying42 V (by kernel_rfl))) F24.d ?_
  rw [show (if c = 97 then z else a) = a from if_neg (by omega)]
  rw [show (if c = 98 then z else b) = z from if_pos (by omega)]
  rw [show (if c = 102 then z else f) = f from if_neg (by omega)]
  rw [show (if c = 112 then z else p) = p from if_neg (by omega)]
  rw [show (if c = 97 ∨ c = 98 ∨ c = 102 ∨ c = 112 then q else z) = q from if_pos (by omega)]
  exact ⟨rfl, S25.fin0⟩
 refine wp_seq_k fun K26 H26 => region_in ?_
 refine W_v V V (V_eql V (fg2 F18) V) ?_
 refine W_v V V (V_asg V (et V)) ?_
 refine W_end (gen_Q fun A27 E27 => ?_)
 have Y27 := szq E27
 have F27 := fsE E27 (ck (cq1 F18 V) V V)
 clear E27 Y18 F18
 refine tk H26 ?_
 refine cond_dec (fg0 F27) (fun c28 => ?_) (fun c28 => ?_)
 ·refine region_in ?_
  refine W_v V V (V_mov V (fg4 F27)) ?_
  refine W_v V V (V_fa (off' := 3) V (es V (fg7 F27)) Try.underlying42 V (by decide +kernel) V) ?_
  refine xsC (zs' := #[.int .i64 (kd), .int .i64 (a), .int .i64 (b), .int .i64 (z), .int .i64 (p), .int .i64 (q), .int .u64 (u)]) 1 S3 V hc2 V V V (et V) (es V (et V)) (by rfl) (fun w29 c29 hc29 S29 => ?_)
  replace S29 : St w NoX [c3, c29] w29 := S29
  refine W_end (gen_Q fun A30 E30 => ?_)
  have Y30 := szq E30
  have F30 := fsE E30 (cq2 F27 V)
  clear E30 Y27 F27
  refine inb_n ?_
  refine tk H5 (wp_seq_k fun K31 H31 => region_in ?_)
  refine W_r V V (VR_ldA V (fg7 F30) (S29.obj 1 V hc29) Try.underlying42 V (by kernel_rfl)) ?_
  refine xsA 0 S29 V hc3 V V V (es V (fg6 F30)) (et V) (fun w32 c32 hc32 S32 => ?_)
  replace S32 : St w NoX [c32, c29] w32 := S32
  refine W_end (gen_Q fun A33 E33 => ?_)
  have Y33 := szq E33
  have F33 := fsE E33 (cq1 F30 V)
  clear E33 Y30 F30
  have S34 : St w NoX [c32] w32 := S32.sel [0] (by decide) V
  refine tk H31 ?_
  refine wp_ret ?_
  refine ret_in (results_1 Try.results87 (rv_cellA (fg6 F33) (S34.obj 0 V hc32) Try.underlying42 V (by kernel_rfl))) F33.d ?_
  rw [show (if c = 97 then z else a) = a from if_neg (by omega)]
  rw [show (if c = 98 then z else b) = b from if_neg (by omega)]
  rw [show (if c = 102 then z else f) = z from if_pos (by omega)]
  rw [show (if c = 112 then z else p) = p from if_neg (by omega)]
  rw [show (if c = 97 ∨ c = 98 ∨ c = 102 ∨ c = 112 then q else z) = q from if_pos (by omega)]
  exact ⟨rfl, S34.fin0⟩
 refine wp_seq_k fun K35 H35 => region_in ?_
 refine W_v V V (V_eql V (fg3 F27) V) ?_
 refine W_v V V (V_asg V (et V)) ?_
 refine W_end (gen_Q fun A36 E36 => ?_)
 have Y36 := szq E36
 have F36 := fsE E36 (ck (cq1 F27 V) V V)
 clear E36 Y27 F27
 refine tk H35 ?_
 refine cond_dec (fg0 F36) (fun c37 => ?_) (fun c37 => ?_)
 ·refine region_in ?_
  refine W_v V V (V_mov V (fg5 F36)) ?_
  refine W_v V V (V_fa (off' := 4) V (es V (fg8 F36)) Try.underlying42 V (by decide +kernel) V) ?_
  refine xsC (zs' := #[.int .i64 (kd), .int .i64 (a), .int .i64 (b), .int .i64 (f), .int .i64 (z), .int .i64 (q), .int .u64 (u)]) 1 S3 V hc2 V V V (et V) (es V (et V)) (by rfl) (fun w38 c38 hc38 S38 => ?_)
  replace S38 : St w NoX [c3, c38] w38 := S38
  refine W_end (gen_Q fun A39 E39 => ?_)
  have Y39 := szq E39
  have F39 := fsE E39 (cq2 F36 V)
  clear E39 Y36 F36
  refine inb_n ?_
  refine tk H5 (wp_seq_k fun K40 H40 => region_in ?_)
  refine W_r V V (VR_ldA V (fg8 F39) (S38.obj 1 V hc38) Try.underlying42 V (by kernel_rfl)) ?_
  refine xsA 0 S38 V hc3 V V V (es V (fg7 F39)) (et V) (fun w41 c41 hc41 S41 => ?_)
  replace S41 : St w NoX [c41, c38] w41 := S41
  refine W_end (gen_Q fun A42 E42 => ?_)
  have Y42 := szq E42
  have F42 := fsE E42 (cq1 F39 V)
  clear E42 Y39 F39
  have S43 : St w NoX [c41] w41 := S41.sel [0] (by decide) V
  refine tk H40 ?_
  refine wp_ret ?_
  refine ret_in (results_1 Try.results87 (rv_cellA (fg7 F42) (S43.obj 0 V hc41) Try.underlying42 V (by kernel_rfl))) F42.d ?_
  rw [show (if c = 97 then z else a) = a from if_neg (by omega)]
  rw [show (if c = 98 then z else b) = b from if_neg (by omega)]
  rw [show (if c = 102 then z else f) = f from if_neg (by omega)]
  rw [show (if c = 112 then z else p) = z from if_pos (by omega)]
  rw [show (if c = 97 ∨ c = 98 ∨ c = 102 ∨ c = 112 then q else z) = q from if_pos (by omega)]
  exact ⟨rfl, S43.fin0⟩
 refine region_in ?_
 refine W_v V V (V_mov V (fg5 F36)) ?_
 refine W_v V V (V_fa (off' := 5) V (es V (fg8 F36)) Try.underlying42 V (by decide +kernel) V) ?_
 refine xsC (zs' := #[.int .i64 (kd), .int .i64 (a), .int .i64 (b), .int .i64 (f), .int .i64 (p), .int .i64 (z), .int .u64 (u)]) 1 S3 V hc2 V V V (et V) (es V (et V)) (by rfl) (fun w44 c44 hc44 S44 => ?_)
 replace S44 : St w NoX [c3, c44] w44 := S44
 refine W_end (gen_Q fun A45 E45 => ?_)
 have Y45 := szq E45
 have F45 := fsE E45 (cq2 F36 V)
 clear E45 Y36 F36
 refine inb_n ?_
 refine tk H5 (wp_seq_k fun K46 H46 => region_in ?_)
 refine W_r V V (VR_ldA V (fg8 F45) (S44.obj 1 V hc44) Try.underlying42 V (by kernel_rfl)) ?_
 refine xsA 0 S44 V hc3 V V V (es V (fg7 F45)) (et V) (fun w47 c47 hc47 S47 => ?_)
 replace S47 : St w NoX [c47, c44] w47 := S47
 refine W_end (gen_Q fun A48 E48 => ?_)
 have Y48 := szq E48
 have F48 := fsE E48 (cq1 F45 V)
 clear E48 Y45 F45
 have S49 : St w NoX [c47] w47 := S47.sel [0] (by decide) V
 refine tk H46 ?_
 refine wp_ret ?_
 refine ret_in (results_1 Try.results87 (rv_cellA (fg7 F48) (S49.obj 0 V hc47) Try.underlying42 V (by kernel_rfl))) F48.d ?_
 rw [show (if c = 97 then z else a) = a from if_neg (by omega)]
 rw [show (if c = 98 then z else b) = b from if_neg (by omega)]
 rw [show (if c = 102 then z else f) = f from if_neg (by omega)]
 rw [show (if c = 112 then z else p) = p from if_neg (by omega)]
 rw [show (if c = 97 ∨ c = 98 ∨ c = 102 ∨ c = 112 then q else z) = z from if_neg (by omega)]
 exact ⟨rfl, S49.fin0⟩

end Go.Proofs.Ytpgkfndbfocibaa