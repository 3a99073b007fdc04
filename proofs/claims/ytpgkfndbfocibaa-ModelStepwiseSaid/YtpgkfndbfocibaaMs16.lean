import Derived.Test.YtpgkfndbfocibaaProg
import Derived.Test.YtpgkfndbfocibaaSqL
import Derived.Test.YtpgkfndbfocibaaMs14
import Derived.Test.YtpgkfndbfocibaaPl29j
namespace Go.Proofs.Ytpgkfndbfocibaa
open Go.RowKit Go.Own Go.Own.R Go.Own.G Go.Own.Gr Go.Own.Ml


set_option maxHeartbeats 4000000 in
theorem kjd_c {C : Int} {N : Int} {Z : Int} {K : Int} {Q : Int} {lv : Value} {os : List OpC} {av : Value} {ans : List AnC} {w : World} (h_lv : Ro w NoX (rl 7 opC lv os)) (h_av : Ro w NoX (rl 3 anC av ans)) (hvr : ∀ x ∈ ans, 0 ≤ x.v ∧ x.v ≤ 18446744073709551615) :
  Calls Try.prog 19 #[.agg #[.int .i64 C, .int .i64 N, .int .i64 Z, .int .i64 K, .int .i64 Q], lv, av] w fun e w' => (e = .returned (.tuple #[.slice none 0 0, .int .i64 (jdF (cfE C N Z K Q) (lgN C N Z K Q) K os ans).1, .int .i64 (jdF (cfE C N Z K Q) (lgN C N Z K Q) K os ans).2]) ∧ ((jdF (cfE C N Z K Q) (lgN C N Z K Q) K os ans).2 ≠ 0) ∧ St w NoX [] w') ∨ (∃ rw, e = .returned (.tuple #[rw, .int .i64 0, .int .i64 0]) ∧ ((jdF (cfE C N Z K Q) (lgN C N Z K Q) K os ans) = (0, 0)) ∧ St w NoX [io .i64 rw (jdL (cfE C N Z K Q) (lgN C N Z K Q) K os ans)] w') := by
 refine calls_inR 72 Try.func19 V V (by simp) (fun A0 Y0 hdf0 hargs => ?_)
 have l0_0 := hargs 0 (.agg #[.int .i64 C, .int .i64 N, .int .i64 Z, .int .i64 K, .int .i64 Q]) V
 have l1_0 := hargs 1 lv V
 have l2_0 := hargs 2 av V
 clear hargs; replace Y0 : SzN A0 72 := ⟨Y0⟩
 have hS := St.nil w
 have bh_lv := SlN.le (sl_SlN h_lv.at)
 have bh_av := SlN.le (sl_SlN h_av.at)
 refine R_seq (fun _ H1 => R_region (by kernel_rfl) (wB (#[.int .i64 (C), .int .i64 (N), .int .i64 (Z), .int .i64 (K), .int .i64 (Q)]) hS l0_0 (fun g2 w2 c2 hc2 S2 => W_boxS (zs := #[av]) S2 V V V (Sa l2_0) (SlN_cells (sl_SlN h_av.at)) (fun g3 w3 c3 hc3 S3 => wZ (.slice none 0 0) S3 (fun g4 w4 c4 hc4 S4 => wZ (.int .i64 0) S4 (fun g5 w5 c5 hc5 S5 => wZ (.int .i64 0) S5 (fun g6 w6 c6 hc6 S6 => W_end (Qo_normal (en (((ck (ck (ck (ck (ck (FS.n hdf0) V V) V V) V V) V V) V V)).c ((Se l1_0))) fun A7 _ F7 => tk H1 (R_seq (fun _ H8 => R_region (by kernel_rfl) (ra (fg5 F7) (S6.ob 4 hc2) (vm (Sa (fg0 F7)) (W_call V V V Try.func32 (by kernel_rfl) V (args2 (Sa t0) t0) (kbg_c (C := C) (N := N) (Z := Z) (K := K) (Q := Q) (S6.roC h_lv)) ?_))))))))))))))
 rintro _ w9 (⟨rfl, hz_9, hP9⟩ | ⟨gs_9, hv_9, H_9, qv_9, q_9, rfl, hz_9, hg_9, hP9⟩)
 ·refine ⟨_, rfl, ?_⟩
  have S9 := S6.j0 hP9
  refine vm t0 (vx (.pointer none) t0 (vx (.int .i64 ((scE (cfE C N Z K Q) os).1)) (Sa t0) (vx (.int .i64 ((scE (cfE C N Z K Q) os).2)) (Sb t0) (va (Sb t0) (xsC1 (zs' := #[.int .i64 ((scE (cfE C N Z K Q) os).1)]) S9 hc5 V V V (Sh (fg2 F7)) (Sb t0) (by rfl) (fun w10 c10 hc10 S10 => xsC0 (zs' := #[.int .i64 ((scE (cfE C N Z K Q) os).2)]) S10 hc6 V V V (Sh (fg1 F7)) (Sa t0) (by rfl) (fun w11 c11 hc11 S11 => W_end (Qo_normal (en (Ka (Qg F7)) fun A12 _ F12 => ?_)))))))))
  have S13 := S11.se [0, 1, 2, 3] [c11, c10, c4, c3]
  refine tk H8 (R_seq (fun _ H14 => R_block (R_seq (fun _ H15 => R_region (by kernel_rfl) (rL (.int .i64 ((scE (cfE C N Z K Q) os).2)) (fg2 F12) (S13.ob 0 hc11) (vn t0 V (vt (W_end (Qo_normal (en (Ka (Qb F12)) fun A16 Y16 F16 => tk H15 (R_cond_sure (fg0 F16) (by rw [decide_eq_true_eq]; exact hz_9) (R_seq (fun _ H17 => join_R (R := fun A' w' => SzN A' 72 ∧ A'.defers = [] ∧ EV A' (.tmp 6) = EV A16 (.tmp 6) ∧ EV A' (.tmp 7) = EV A16 (.tmp 7) ∧ EV A' (.tmp 8) = EV A16 (.tmp 8) ∧ St w NoX [bx g6 28 #[.int .i64 ((scE (cfE C N Z K Q) os).2)], bx g5 3 #[.int .i64 ((scE (cfE C N Z K Q) os).1)], bx g4 25 #[.slice none 0 0]] w') ?_ ?_)))))))))))))
  ·refine R_any (by kernel_rfl) (by kernel_rfl) 5 V (fun w118 hx118 => ?_)
   have S118 := S13.grow hx118
   refine AX_3 (i := 0) (j := 1) (m := 2) (by kernel_rfl) V V V ?_ ?_ ?_
   ·refine rL (.int .i64 ((scE (cfE C N Z K Q) os).1)) (fg4 F16) (S118.ob 1 hc10) (W_end (kq _ (AX_cast (l2 := #[true, false, false, false, false]) ?_ (by kernel_rfl))))
    refine AX_2 (i := 1) (j := 2) (by kernel_rfl) V V ?_ ?_
    ·refine rL (.int .i64 ((scE (cfE C N Z K Q) os).2)) (Sa (fg3 F16)) (S118.ob 0 hc11) (W_end (kq _ (AX_cast (l2 := #[true, true, false, false, false]) ?_ (by kernel_rfl))))
     refine AX_1 (i := 2) (by kernel_rfl) V (xsC (zs' := #[.slice none 0 0]) 2 S118 V hc4 V V V (Sb (fg5 F16)) V (by rfl) (fun w119 c119 hc119 S119 => ?_))
     replace S119 : St w NoX [c11, c10, c119, c3] w119 := S119
     refine W_end (kq _ (AX_cast (l2 := #[true, true, true, false, false]) ?_ (by kernel_rfl)))
     refine AX_1 (i := 3) (by kernel_rfl) V (xsC1 (zs' := #[.int .i64 ((scE (cfE C N Z K Q) os).1)]) S119 hc10 V V V (Sb (fg4 F16)) (Sa t0) (by rfl) (fun w120 c120 hc120 S120 => W_end (kq _ (AX_cast (l2 := #[true, true, true, true, false]) ?_ (by kernel_rfl)))))
     refine AX_1 (i := 4) (by kernel_rfl) V (xsC0 (zs' := #[.int .i64 ((scE (cfE C N Z K Q) os).2)]) S120 hc11 V V V (Sb (fg3 F16)) t0 (by rfl) (fun w121 c121 hc121 S121 => W_end (kq _ (AX_cast (l2 := #[true, true, true, true, true]) ?_ (by kernel_rfl)))))
     refine AX_end (by kernel_rfl) (Qo_normal ?_)
     have S122 := S121.se [0, 1, 2] [c121, c120, c119]
     exact ⟨inferInstance, (by simp only [df_put]; exact F16.d), ((es2 V (fg5 F16)).trans (fg5 F16).symm), ((es2 V (fg4 F16)).trans (fg4 F16).symm), ((es2 V (fg3 F16)).trans (fg3 F16).symm), (by subst hc121 hc120 hc119; exact S122)⟩
    refine xsC (zs' := #[.slice none 0 0]) 2 S118 V hc4 V V V (Sa (fg5 F16)) V (by rfl) (fun w123 c123 hc123 S123 => ?_)
    replace S123 : St w NoX [c11, c10, c123, c3] w123 := S123
    refine W_end (kq _ (AX_cast (l2 := #[true, false, true, false, false]) ?_ (by kernel_rfl)))
    refine AX_2 (i := 1) (j := 3) (by kernel_rfl) V V ?_ ?_
    ·refine rL (.int .i64 ((scE (cfE C N Z K Q) os).2)) (Sa (fg3 F16)) (S123.ob 0 hc11) (W_end (kq _ (AX_cast (l2 := #[true, true, true, false, false]) ?_ (by kernel_rfl))))
     refine AX_1 (i := 3) (by kernel_rfl) V (xsC1 (zs' := #[.int .i64 ((scE (cfE C N Z K Q) os).1)]) S123 hc10 V V V (Sb (fg4 F16)) (Sa t0) (by rfl) (fun w124 c124 hc124 S124 => W_end (kq _ (AX_cast (l2 := #[true, true, true, true, false]) ?_ (by kernel_rfl)))))
     refine AX_1 (i := 4) (by kernel_rfl) V (xsC0 (zs' := #[.int .i64 ((scE (cfE C N Z K Q) os).2)]) S124 hc11 V V V (Sb (fg3 F16)) t0 (by rfl) (fun w125 c125 hc125 S125 => W_end (kq _ (AX_cast (l2 := #[true, true, true, true, true]) ?_ (by kernel_rfl)))))
     refine AX_end (by kernel_rfl) (Qo_normal ?_)
     have S126 := S125.se [0, 1, 2] [c125, c124, c123]
     exact ⟨inferInstance, (by simp only [df_put]; exact F16.d), ((es2 V (fg5 F16)).trans (fg5 F16).symm), ((es2 V (fg4 F16)).trans (fg4 F16).symm), ((es2 V (fg3 F16)).trans (fg3 F16).symm), (by subst hc125 hc124 hc123; exact S126)⟩
    refine xsC1 (zs' := #[.int .i64 ((scE (cfE C N Z K Q) os).1)]) S123 hc10 V V V (Sa (fg4 F16)) t0 (by rfl) (fun w127 c127 hc127 S127 => W_end (kq _ (AX_cast (l2 := #[true, false, true, true, false]) ?_ (by kernel_rfl))))
    refine AX_1 (i := 1) (by kernel_rfl) V (rL (.int .i64 ((scE (cfE C N Z K Q) os).2)) (Sa (fg3 F16)) (S127.ob 0 hc11) (W_end (kq _ (AX_cast (l2 := #[true, true, true, true, false]) ?_ (by kernel_rfl)))))
    refine AX_1 (i := 4) (by kernel_rfl) V (xsC0 (zs' := #[.int .i64 ((scE (cfE C N Z K Q) os).2)]) S127 hc11 V V V (Sb (fg3 F16)) t0 (by rfl) (fun w128 c128 hc128 S128 => W_end (kq _ (AX_cast (l2 := #[true, true, true, true, true]) ?_ (by kernel_rfl)))))
    refine AX_end (by kernel_rfl) (Qo_normal ?_)
    have S129 := S128.se [0, 1, 2] [c128, c127, c123]
    exact ⟨inferInstance, (by simp only [df_put]; exact F16.d), ((es2 V (fg5 F16)).trans (fg5 F16).symm), ((es2 V (fg4 F16)).trans (fg4 F16).symm), ((es2 V (fg3 F16)).trans (fg3 F16).symm), (by subst hc128 hc127 hc123; exact S129)⟩
   ·refine rL (.int .i64 ((scE (cfE C N Z K Q) os).2)) (fg3 F16) (S118.ob 0 hc11) (W_end (kq _ (AX_cast (l2 := #[false, true, false, false, false]) ?_ (by kernel_rfl))))
    refine AX_2 (i := 0) (j := 2) (by kernel_rfl) V V ?_ ?_
    ·refine rL (.int .i64 ((scE (cfE C N Z K Q) os).1)) (Sa (fg4 F16)) (S118.ob 1 hc10) (W_end (kq _ (AX_cast (l2 := #[true, true, false, false, false]) ?_ (by kernel_rfl))))
     refine AX_1 (i := 2) (by kernel_rfl) V (xsC (zs' := #[.slice none 0 0]) 2 S118 V hc4 V V V (Sb (fg5 F16)) V (by rfl) (fun w130 c130 hc130 S130 => ?_))
     replace S130 : St w NoX [c11, c10, c130, c3] w130 := S130
     refine W_end (kq _ (AX_cast (l2 := #[true, true, true, false, false]) ?_ (by kernel_rfl)))
     refine AX_1 (i := 3) (by kernel_rfl) V (xsC1 (zs' := #[.int .i64 ((scE (cfE C N Z K Q) os).1)]) S130 hc10 V V V (Sb (fg4 F16)) t0 (by rfl) (fun w131 c131 hc131 S131 => W_end (kq _ (AX_cast (l2 := #[true, true, true, true, false]) ?_ (by kernel_rfl)))))
     refine AX_1 (i := 4) (by kernel_rfl) V (xsC0 (zs' := #[.int .i64 ((scE (cfE C N Z K Q) os).2)]) S131 hc11 V V V (Sb (fg3 F16)) (Sa t0) (by rfl) (fun w132 c132 hc132 S132 => W_end (kq _ (AX_cast (l2 := #[true, true, true, true, true]) ?_ (by kernel_rfl)))))
     refine AX_end (by kernel_rfl) (Qo_normal ?_)
     have S133 := S132.se [0, 1, 2] [c132, c131, c130]
     exact ⟨inferInstance, (by simp only [df_put]; exact F16.d), ((es2 V (fg5 F16)).trans (fg5 F16).symm), ((es2 V (fg4 F16)).trans (fg4 F16).symm), ((es2 V (fg3 F16)).trans (fg3 F16).symm), (by subst hc132 hc131 hc130; exact S133)⟩
    refine xsC (zs' := #[.slice none 0 0]) 2 S118 V hc4 V V V (Sa (fg5 F16)) V (by rfl) (fun w134 c134 hc134 S134 => ?_)
    replace S134 : St w NoX [c11, c10, c134, c3] w134 := S134
    refine W_end (kq _ (AX_cast (l2 := #[false, true, true, false, false]) ?_ (by kernel_rfl)))
    refine AX_1 (i := 0) (by kernel_rfl) V (rL (.int .i64 ((scE (cfE C N Z K Q) os).1)) (Sa (fg4 F16)) (S134.ob 1 hc10) (W_end (kq _ (AX_cast (l2 := #[true, true, true, false, false]) ?_ (by kernel_rfl)))))
    refine AX_1 (i := 3) (by kernel_rfl) V (xsC1 (zs' := #[.int .i64 ((scE (cfE C N Z K Q) os).1)]) S134 hc10 V V V (Sb (fg4 F16)) t0 (by rfl) (fun w135 c135 hc135 S135 => W_end (kq _ (AX_cast (l2 := #[true, true, true, true, false]) ?_ (by kernel_rfl)))))
    refine AX_1 (i := 4) (by kernel_rfl) V (xsC0 (zs' := #[.int .i64 ((scE (cfE C N Z K Q) os).2)]) S135 hc11 V V V (Sb (fg3 F16)) (Sa t0) (by rfl) (fun w136 c136 hc136 S136 => W_end (kq _ (AX_cast (l2 := #[true, true, true, true, true]) ?_ (by kernel_rfl)))))
    refine AX_end (by kernel_rfl) (Qo_normal ?_)
    have S137 := S136.se [0, 1, 2] [c136, c135, c134]
    exact ⟨inferInstance, (by simp only [df_put]; exact F16.d), ((es2 V (fg5 F16)).trans (fg5 F16).symm), ((es2 V (fg4 F16)).trans (fg4 F16).symm), ((es2 V (fg3 F16)).trans (fg3 F16).symm), (by subst hc136 hc135 hc134; exact S137)⟩
   refine xsC (zs' := #[.slice none 0 0]) 2 S118 V hc4 V V V (fg5 F16) V (by rfl) (fun w138 c138 hc138 S138 => ?_)
   replace S138 : St w NoX [c11, c10, c138, c3] w138 := S138
   refine W_end (kq _ (AX_cast (l2 := #[false, false, true, false, false]) ?_ (by kernel_rfl)))
   refine AX_2 (i := 0) (j := 1) (by kernel_rfl) V V ?_ ?_
   ·refine rL (.int .i64 ((scE (cfE C N Z K Q) os).1)) (fg4 F16) (S138.ob 1 hc10) (W_end (kq _ (AX_cast (l2 := #[true, false, true, false, false]) ?_ (by kernel_rfl))))
    refine AX_2 (i := 1) (j := 3) (by kernel_rfl) V V ?_ ?_
    ·refine rL (.int .i64 ((scE (cfE C N Z K Q) os).2)) (Sa (fg3 F16)) (S138.ob 0 hc11) (W_end (kq _ (AX_cast (l2 := #[true, true, true, false, false]) ?_ (by kernel_rfl))))
     refine AX_1 (i := 3) (by kernel_rfl) V (xsC1 (zs' := #[.int .i64 ((scE (cfE C N Z K Q) os).1)]) S138 hc10 V V V (Sb (fg4 F16)) (Sa t0) (by rfl) (fun w139 c139 hc139 S139 => W_end (kq _ (AX_cast (l2 := #[true, true, true, true, false]) ?_ (by kernel_rfl)))))
     refine AX_1 (i := 4) (by kernel_rfl) V (xsC0 (zs' := #[.int .i64 ((scE (cfE C N Z K Q) os).2)]) S139 hc11 V V V (Sb (fg3 F16)) t0 (by rfl) (fun w140 c140 hc140 S140 => W_end (kq _ (AX_cast (l2 := #[true, true, true, true, true]) ?_ (by kernel_rfl)))))
     refine AX_end (by kernel_rfl) (Qo_normal ?_)
     have S141 := S140.se [0, 1, 2] [c140, c139, c138]
     exact ⟨inferInstance, (by simp only [df_put]; exact F16.d), ((es2 V (fg5 F16)).trans (fg5 F16).symm), ((es2 V (fg4 F16)).trans (fg4 F16).symm), ((es2 V (fg3 F16)).trans (fg3 F16).symm), (by subst hc140 hc139 hc138; exact S141)⟩
    refine xsC1 (zs' := #[.int .i64 ((scE (cfE C N Z K Q) os).1)]) S138 hc10 V V V (Sa (fg4 F16)) t0 (by rfl) (fun w142 c142 hc142 S142 => W_end (kq _ (AX_cast (l2 := #[true, false, true, true, false]) ?_ (by kernel_rfl))))
    refine AX_1 (i := 1) (by kernel_rfl) V (rL (.int .i64 ((scE (cfE C N Z K Q) os).2)) (Sa (fg3 F16)) (S142.ob 0 hc11) (W_end (kq _ (AX_cast (l2 := #[true, true, true, true, false]) ?_ (by kernel_rfl)))))
    refine AX_1 (i := 4) (by kernel_rfl) V (xsC0 (zs' := #[.int .i64 ((scE (cfE C N Z K Q) os).2)]) S142 hc11 V V V (Sb (fg3 F16)) t0 (by rfl) (fun w143 c143 hc143 S143 => W_end (kq _ (AX_cast (l2 := #[true, true, true, true, true]) ?_ (by kernel_rfl)))))
    refine AX_end (by kernel_rfl) (Qo_normal ?_)
    have S144 := S143.se [0, 1, 2] [c143, c142, c138]
    exact ⟨inferInstance, (by simp only [df_put]; exact F16.d), ((es2 V (fg5 F16)).trans (fg5 F16).symm), ((es2 V (fg4 F16)).trans (fg4 F16).symm), ((es2 V (fg3 F16)).trans (fg3 F16).symm), (by subst hc143 hc142 hc138; exact S144)⟩
   refine rL (.int .i64 ((scE (cfE C N Z K Q) os).2)) (fg3 F16) (S138.ob 0 hc11) (W_end (kq _ (AX_cast (l2 := #[false, true, true, false, false]) ?_ (by kernel_rfl))))
   refine AX_1 (i := 0) (by kernel_rfl) V (rL (.int .i64 ((scE (cfE C N Z K Q) os).1)) (Sa (fg4 F16)) (S138.ob 1 hc10) (W_end (kq _ (AX_cast (l2 := #[true, true, true, false, false]) ?_ (by kernel_rfl)))))
   refine AX_1 (i := 3) (by kernel_rfl) V (xsC1 (zs' := #[.int .i64 ((scE (cfE C N Z K Q) os).1)]) S138 hc10 V V V (Sb (fg4 F16)) t0 (by rfl) (fun w145 c145 hc145 S145 => W_end (kq _ (AX_cast (l2 := #[true, true, true, true, false]) ?_ (by kernel_rfl)))))
   refine AX_1 (i := 4) (by kernel_rfl) V (xsC0 (zs' := #[.int .i64 ((scE (cfE C N Z K Q) os).2)]) S145 hc11 V V V (Sb (fg3 F16)) (Sa t0) (by rfl) (fun w146 c146 hc146 S146 => W_end (kq _ (AX_cast (l2 := #[true, true, true, true, true]) ?_ (by kernel_rfl)))))
   refine AX_end (by kernel_rfl) (Qo_normal ?_)
   have S147 := S146.se [0, 1, 2] [c146, c145, c138]
   exact ⟨inferInstance, (by simp only [df_put]; exact F16.d), ((es2 V (fg5 F16)).trans (fg5 F16).symm), ((es2 V (fg4 F16)).trans (fg4 F16).symm), ((es2 V (fg3 F16)).trans (fg3 F16).symm), (by subst hc146 hc145 hc138; exact S147)⟩
  rintro A148 w148 ⟨Y148, hdf148, u6_148, u7_148, u8_148, S148⟩
  have l6_148 := u6_148.trans (fg5 F16)
  have l7_148 := u7_148.trans (fg4 F16)
  have l8_148 := u8_148.trans (fg3 F16)
  clear Y16 F16 S13
  obtain ⟨c20_148, c19_148, c18_148, hc20_148, hc19_148, hc18_148, S148⟩ := gen3 S148
  refine tk H17 (R_ret (inb_ret (then_ret (ret_inR0 (results_3 Try.results19 (rvC l6_148 (cell_box (S148.ob 2 hc18_148) V)) (rvC l7_148 (cell_box (S148.ob 1 hc19_148) V)) (rvC l8_148 (cell_box (S148.ob 0 hc20_148) V))) hdf148 ?_))))
  have h : (jdF (cfE C N Z K Q) (lgN C N Z K Q) K os ans) = ((scE (cfE C N Z K Q) os).1, (scE (cfE C N Z K Q) os).2) := jd_sc hz_9
  rw [h]
  exact .inl ⟨rfl, hz_9, S148.fin0⟩
 refine ⟨_, rfl, ?_⟩
 obtain ⟨cB_9, cK_9, hcB_9, hcK_9, hP9⟩ := gen2 hP9
 have S9 := S6.j2 hP9
 obtain ⟨hcf, hl2, hops, hsz⟩ := sc_inv (cf := (cfE C N Z K Q)) (l := os) (by rw [hz_9])
 have hsm0 : SM (gab ((hv_9, H_9), (qv_9, q_9))).1 := by rw [hg_9]; exact SM_nil
 have hgK : gab ((hv_9, H_9), (qv_9, q_9)) = g00 K := hg_9
 refine vm t0 (vx (.pointer (some ⟨gs_9, 0, none⟩)) t0 (vx (.int .i64 0) (Sa t0) (vx (.int .i64 0) (Sb t0) (va (Sb t0) (xsC3 (zs' := #[.int .i64 0]) S9 hc5 V V V (Sh (fg2 F7)) (Sb t0) (by rfl) (fun w149 c149 hc149 S149 => xsC2 (zs' := #[.int .i64 0]) S149 hc6 V V V (Sh (fg1 F7)) (Sa t0) (by rfl) (fun w150 c150 hc150 S150 => W_end (Qo_normal (en (Ka (Qg F7)) fun A151 _ F151 => ?_)))))))))
 have S152 := S150.se [0, 1, 2, 3, 4, 5] [cB_9, cK_9, c150, c149, c4, c3]
 refine tk H8 (R_seq (fun _ H153 => R_block (R_seq (fun _ H154 => R_region (by kernel_rfl) (rL (.int .i64 0) (fg2 F151) (S152.ob 2 hc150) (vn t0 V (vt (W_end (Qo_normal (en (Ka (Qb F151)) fun A155 _ F155 => tk H154 (R_cond_not (fg0 F155) (by decide) (R_seq (fun _ H156 => R_region (by kernel_rfl) (rL av (fg6 F155) (S152.ob 5 hc3) (le_ t0 (sl_SlN h_av.at) (vm (Sb (fg2 F155)) (le_ t0 (sl_SlN h_lv.at) (vn (Sb t0) t0 (vt (W_end (Qo_normal (en (Ka (Qe F155)) fun A157 _ F157 => tk H156 (R_cond_dec (fg0 F157) (fun c158 => ?_) (fun c158 => ?_))))))))))))))))))))))))
 ·refine R_seq (fun _ H159 => R_region (by kernel_rfl) (xsC4 (zs' := #[.slice none 0 0]) S152 hc4 V V V (fg6 F157) V (by rfl) (fun w160 c160 hc160 S160 => xsC3 (zs' := #[.int .i64 (-1)]) S160 hc149 V V V (fg5 F157) V (by rfl) (fun w161 c161 hc161 S161 => xsC2 (zs' := #[.int .i64 6]) S161 hc150 V V V (fg4 F157) V (by rfl) (fun w162 c162 hc162 S162 => W_end (Qo_normal (tk H159 (R_ret (inb_ret (then_ret (ret_inR0 (results_3 Try.results19 (rvC (fg6 F157) (cell_box (S162.ob 4 hc160) V)) (rvC (fg5 F157) (cell_box (S162.ob 3 hc161) V)) (rvC (fg4 F157) (cell_box (S162.ob 2 hc162) V))) F157.d ?_)))))))))))
  have h : (jdF (cfE C N Z K Q) (lgN C N Z K Q) K os ans) = ((-1), 6) := jd_len hsz (by omega)
  rw [h]
  exact .inl ⟨rfl, by decide, S162.fin0⟩
 refine R_skip (inb_n (tk H153 (R_seq (fun _ H163 => R_seq (fun _ H164 => R_region (by kernel_rfl) (vm (fg3 F157) (le_ t0 (sl_SlN h_lv.at) (vm V (W_end (Qo_normal (en (Kc F157) fun A165 Y165 F165 => tk H164 (R_block ?_))))))))))))
 -- loop 7
 refine R_loop (fun mz A' w' => SzN A' 72 ∧ A'.defers = [] ∧ (∃ (k : Nat), (mz = os.length - k) ∧ (k ≤ os.length) ∧ (ckA 0 os ans = ckA k (os.drop k) (ans.drop k)) ∧ (EV A' (.tmp 35) = .int .i64 (k : Int)) ∧ (EV A' (.tmp 1) = EV A165 (.tmp 1)) ∧ (EV A' (.tmp 5) = EV A165 (.tmp 5)) ∧ (EV A' (.tmp 6) = EV A165 (.tmp 6)) ∧ (EV A' (.tmp 7) = EV A165 (.tmp 7)) ∧ (EV A' (.tmp 8) = EV A165 (.tmp 8)) ∧ (EV A' (.tmp 9) = EV A165 (.tmp 9)) ∧ (EV A' (.tmp 33) = EV A165 (.tmp 33)) ∧ (EV A' (.tmp 34) = EV A165 (.tmp 34)) ∧ (St w NoX [bx gs_9 75 #[hv_9, qv_9, .int .i64 ((lgN C N Z K Q))], gls [((hv_9, H_9), (qv_9, q_9))], bx g6 28 #[.int .i64 0], bx g5 3 #[.int .i64 0], bx g4 25 #[.slice none 0 0], bx g3 37 #[av]] w'))) (os.length - 0) ⟨Y165, F165.d, 0, rfl, (by omega), rfl, (((fg0 F165)).trans (by first | rfl | (simp; done) | (congr 1; omega))), rfl, rfl, rfl, rfl, rfl, rfl, rfl, rfl, (by subst hcB_9 hcK_9 hc150 hc149 hc4 hc3; exact S152)⟩ ?_
 clear S152 hcB_9 hcK_9 hc150 hc149 hc4 hc3
 rintro n166 A166 w166 ⟨Y166, hdf166, k, hm166, hk, hja, l35_166, u1_166, u5_166, u6_166, u7_166, u8_166, u9_166, u33_166, u34_166, S166⟩
 have l1_166 := u1_166.trans (fg6 F165)
 have l5_166 := u5_166.trans (fg10 F165)
 have l6_166 := u6_166.trans (fg9 F165)
 have l7_166 := u7_166.trans (fg8 F165)
 have l8_166 := u8_166.trans (fg7 F165)
 have l9_166 := u9_166.trans (fg5 F165)
 have l33_166 := u33_166.trans (fg2 F165)
 have l34_166 := u34_166.trans (fg1 F165)
 obtain ⟨cB_166, cK_166, c150_166, c149_166, c4_166, c3_166, hcB_166, hcK_166, hc150_166, hc149_166, hc4_166, hc3_166, S166⟩ := gen6 S166
 refine R_seq (fun _ H167 => R_region (by kernel_rfl) (vl l35_166 l34_166 (W_end (Qo_normal (en (((((((((((ck (FS.n hdf166) V V)).c ((es V l1_166))).c ((es V l5_166))).c ((es V l6_166))).c ((es V l7_166))).c ((es V l8_166))).c ((es V l9_166))).c ((es V l33_166))).c ((es V l34_166))).c ((Sa l35_166))) fun A168 _ F168 => tk H167 (R_seq (fun _ H169 => R_cond_dec (fg9 F168) (fun c170 => ?_) (fun c170 => ?_))))))))
 ·refine R_skip (tk H169 (R_seq (fun _ H171 => R_block (R_seq (fun _ H172 => R_region (by kernel_rfl) (vm (fg0 F168) ?_))))))
  have k173 : k < os.length := by first | omega | (simp only [List.length_cons, List.length_nil]; omega) | (simp only [List.length_set]; omega) | decide
  obtain ⟨y173, hy173⟩ := get_some (xs := os) (k := k) k173
  obtain ⟨B173, O173, C173, hv173⟩ := (SlN.blk (sl_SlN h_lv.at) (by first | omega | (simp only [List.length_cons, List.length_nil]; omega) | (simp only [List.length_set]; omega) | decide))
  refine wv (V_ixS (off := O173 + k * 7) 7 k V (Sa (fg2 F168)) (Sa (fg0 F168)) hv173 (by omega) k173 Try.underlying24 (by kernel_rfl) V) (wr (VR_ldR (ys := opC y173) V t0 (SlN.row opC_len (sl_SlN (S166.ro h_lv)) hv173 hy173 V) Try.underlying42 V (by kernel_rfl)) (wA (#[.int .i64 0, .int .i64 0, .int .i64 0, .int .i64 0, .int .i64 0, .int .i64 0, .int .u64 0]) S166 (fun g174 w174 c174 hc174 S174 => ?_)))
  replace S174 : St w NoX [c174, cB_166, cK_166, c150_166, c149_166, c4_166, c3_166] w174 := S174
  refine va (Sc t0) (xsA0 S174 hc174 V V V (Sa t0) (Sb t0) (fun w175 c175 hc175 S175 => W_end (Qo_normal (en (Kb (Qc F168)) fun A176 _ F176 => tk H172 (R_seq (fun _ H177 => ?_))))))
  have k178 : k < ans.length := by first | omega | (simp only [List.length_cons, List.length_nil]; omega) | (simp only [List.length_set]; omega) | decide
  obtain ⟨y178, hy178⟩ := get_some (xs := ans) (k := k) k178
  have hvr178 := hvr y178 (List.mem_of_getElem? hy178)
  refine R_monoS (by kernel_rfl) 7 7 [none, none, none, none, none, some (SPv [] (fun _ => fun u l' => u = .int .i64 (anE (⟨y173.kd, y173.a, y173.b, y173.f, y173.p, y173.q, y173.u⟩ : OpC) (⟨y178.e, y178.t, y178.v⟩ : AnC)) ∧ l' = []) 5)] (by kernel_rfl) (by kernel_rfl) (dr (fun _ hx _ => (ura (fg1 F176) ((S175.grow hx).ob 0 hc175))) (dr (fun _ hx _ => (urc (Sa (fg9 F176)) (cell_box (v := av) ((S175.grow hx).ob 6 hc3_166) V))) (dm (Sb (fg0 F176)) ?_)))
  obtain ⟨B178, O178, C178, hv178⟩ := (SlN.blk (sl_SlN h_av.at) (by first | omega | (simp only [List.length_cons, List.length_nil]; omega) | (simp only [List.length_set]; omega) | decide))
  refine dv (V_ixS (off := O178 + k * 3) 3 k V (Sa t0) t0 hv178 (by omega) k178 Try.underlying37 (by kernel_rfl) V) (dr (fun sx hx hF => (VR_ldR (ys := anC y178) V t0 (SlN.row anC_len (sl_SlN ((S175.grow hx).ro h_av)) hv178 hy178 V) Try.underlying44 V (by kernel_rfl))) (D_call (ts := []) (vs := []) (C0 := fun _ => fun u l' => u = .int .i64 (anE (⟨y173.kd, y173.a, y173.b, y173.f, y173.p, y173.q, y173.u⟩ : OpC) (⟨y178.e, y178.t, y178.v⟩ : AnC)) ∧ l' = []) (C := fun u l' => u = .int .i64 (anE (⟨y173.kd, y173.a, y173.b, y173.f, y173.p, y173.q, y173.u⟩ : OpC) (⟨y178.e, y178.t, y178.v⟩ : AnC)) ∧ l' = []) V V V Try.func33 (by kernel_rfl) V (args2 (Sd t0) t0) V V V V (fun sx hx hF => ?_) (fun u179 l179 hu179 => ?_)))
  ·refine (kan_c (kd := y173.kd) (a := y173.a) (b := y173.b) (f := y173.f) (p := y173.p) (q := y173.q) (uu := y173.u) (er := y178.e) (ti := y178.t) (v := y178.v)  (by first | with_reducible assumption | omega)).mono ?_
   rintro _ _ ⟨rfl, hz⟩
   exact ⟨_, rfl, _, ⟨rfl, rfl⟩, hz⟩
  obtain ⟨rfl, hl179⟩ := hu179
  refine dv (V_asg V t0) (ZS_none S175 (Nat.le_refl _) (Nat.le_refl _) (fun s180 hJ180 hL180 hF180 => ?_))
  obtain ⟨ll179, ws179, we179, ⟨hq179, hl179r⟩, hm179, k179, e179⟩ := L.all_get hF180; cases hq179; subst hl179r
  replace hJ180 := hJ180.add hL180 (i := 5) V hm179 k179 e179
  have S180 := hJ180.st; clear hF180 hJ180 hL180
  generalize s180.1 = w180 at *
  replace S180 : St w NoX [c175, cB_166, cK_166, c150_166, c149_166, c4_166, c3_166] w180 := S180
  refine en (Ka (Qf F176)) fun A181 _ F181 => ?_
  have S182 := S180.se [1, 2, 3, 4, 5, 6] [cB_166, cK_166, c150_166, c149_166, c4_166, c3_166]
  refine tk H177 (R_seq (fun _ H183 => R_region (by kernel_rfl) (vm (fg0 F181) (vn t0 V (W_end (Qo_normal (en (Ka (Qa F181)) fun A184 _ F184 => tk H183 (R_cond_dec (fg0 F184) (fun c185 => ?_) (fun c185 => ?_)))))))))
  ·refine R_seq (fun _ H186 => R_region (by kernel_rfl) (vm (fg2 F184) (vm (Sa (fg1 F184)) (xsC4 (zs' := #[.slice none 0 0]) S182 hc4_166 V V V (Sb (fg10 F184)) V (by rfl) (fun w187 c187 hc187 S187 => xsC3 (zs' := #[.int .i64 ((k : Int))]) S187 hc149_166 V V V (Sb (fg9 F184)) (Sa t0) (by rfl) (fun w188 c188 hc188 S188 => xsC2 (zs' := #[.int .i64 ((anE (⟨y173.kd, y173.a, y173.b, y173.f, y173.p, y173.q, y173.u⟩ : OpC) (⟨y178.e, y178.t, y178.v⟩ : AnC)))]) S188 hc150_166 V V V (Sb (fg8 F184)) t0 (by rfl) (fun w189 c189 hc189 S189 => W_end (Qo_normal (en (Qb F184) fun A190 _ F190 => ?_)))))))))
   have S191 := S189.se [0, 1, 2, 3, 4] [cB_166, cK_166, c189, c188, c187]
   refine tk H186 (R_ret (inb_ret (then_ret (then_ret (inb_ret (then_ret (ret_inR0 (results_3 Try.results19 (rvC (fg10 F190) (cell_box (S191.ob 4 hc187) V)) (rvC (fg9 F190) (cell_box (S191.ob 3 hc188) V)) (rvC (fg8 F190) (cell_box (S191.ob 2 hc189) V))) F190.d ?_)))))))
   have h : (jdF (cfE C N Z K Q) (lgN C N Z K Q) K os ans) = ((k : Int), (anE (⟨y173.kd, y173.a, y173.b, y173.f, y173.p, y173.q, y173.u⟩ : OpC) (⟨y178.e, y178.t, y178.v⟩ : AnC))) := jd_ck hsz (by omega) (ja_bad hja hy173 hy178 c185) c185
   rw [h]
   exact .inl ⟨rfl, c185, S191.fin0⟩
  refine R_skip (inb_n (tk H171 (R_region (by kernel_rfl) (ad (fg4 F184) V (vm t0 (W_end (Qo_normal (en (Ka (Qa (fx4 F184))) fun A192 Y192 F192 => then_n ⟨os.length - (k + 1), by simp only [hm166]; omega, Y192, F192.d, (k + 1), rfl, (by omega), (ja_step hja hy173 hy178 c185), (((fg0 F192)).trans (by first | rfl | (simp; done) | (congr 1; omega))), (((fg12 F192)).trans (fg6 F165).symm), (((fg11 F192)).trans (fg10 F165).symm), (((fg10 F192)).trans (fg9 F165).symm), (((fg9 F192)).trans (fg8 F165).symm), (((fg8 F192)).trans (fg7 F165).symm), (((fg7 F192)).trans (fg5 F165).symm), (((fg6 F192)).trans (fg2 F165).symm), (((fg5 F192)).trans (fg1 F165).symm), (by subst hcB_166 hcK_166 hc150_166 hc149_166 hc4_166 hc3_166; exact S182)⟩))))))))
 refine R_exit (then_exit (then_exit (inb_hit (tk H163 (R_seq (fun _ H193 => R_seq (fun _ H194 => R_region (by kernel_rfl) (vm (fg3 F168) (vm (Sa (fg8 F168)) (wv (V_mkf V args0 (args1 (Sb (fg7 F168)))) (W_call V V V Try.func34 (by kernel_rfl) V (args3 (Sb t0) (Sa t0) t0) (kmtJ_c (gs := gs_9) (gc := g3) (S166.roC h_lv)) ?_)))))))))))
 rintro _ w195 ⟨g4_195, g3_195, g7_195, g5_195, rfl, hP195⟩
 refine ⟨_, rfl, ?_⟩
 obtain ⟨cb4_195, cb3_195, cb7_195, cb5_195, hcb4_195, hcb3_195, hcb7_195, hcb5_195, hP195⟩ := gen4 hP195
 have S195 := S166.join hP195
 replace S195 : St w NoX [cb4_195, cb3_195, cb7_195, cb5_195, cB_166, cK_166, c150_166, c149_166, c4_166, c3_166] w195 := S195
 refine W_end (Qo_normal (en (Ka (Qc F168)) fun A196 _ F196 => tk H194 (R_block ?_)))
 have hjA := ja_end hja (by omega)
 obtain ⟨c197, hc197, S197⟩ := S195.pnil (s := 1)
 have S199 := S197.se [0, 5, 6, 1, 2, 3, 4, 7, 8, 9, 10] [c197, cB_166, cK_166, cb4_195, cb3_195, cb7_195, cb5_195, c150_166, c149_166, c4_166, c3_166]
 obtain ⟨ct200, hct200, S200⟩ := genS (mT_shut (gs := gs_9) (T := 75) (n := (lgN C N Z K Q)) (G0 := ((hv_9, H_9), (qv_9, q_9))) (pre := []) (hcB_166) hcK_166 S199)
 replace S200 : St w NoX [c197, ct200, cb4_195, cb3_195, cb7_195, cb5_195, c150_166, c149_166, c4_166, c3_166] w195 := S200
 have S201 := S200.se [0, 2, 3, 4, 5, 6, 7, 8, 9, 1] [c197, cb4_195, cb3_195, cb7_195, cb5_195, c150_166, c149_166, c4_166, c3_166, ct200]
 refine R_rangeT (α := ME) (fg0 F196) (fun args w => calls_enter Try.func61 V V args w) (kmoJ_it (gs := gs_9) (g3 := g3_195) (g4 := g4_195) (g5 := g5_195) (g7 := g7_195) (gc := g3) (G0 := ((hv_9, H_9), (qv_9, q_9))) (n := (lgN C N Z K Q)) (lv := lv) (os := os) (av := av) (ans := ans) (Rd := fun W => (bx g4_195 24 #[lv]).at W ∧ (rl 7 opC lv os).at W ∧ (bx g3_195 73 #[.pointer (some ⟨gs_9, 0, none⟩)]).at W ∧ (bx g7_195 76 #[.func (.func 30) #[.pointer (some ⟨gs_9, 0, none⟩)] #[]]).at W ∧ (bx g5_195 85 #[.func (.func 35) #[] #[.pointer (some ⟨g3, 0, none⟩)]]).at W ∧ (bx g3 37 #[av]).at W ∧ (rl 3 anC av ans).at W) (fun _ h => h) hsm0 lg_rng hops hl2 ((by omega))) (fun _ => rfl) (fun pre => pk (fun l => ∃ (rv : Value), (fbJ ans 0 (moJ (lgN C N Z K Q) K os ans) = fbJ ans pre.length ((moJ (lgN C N Z K Q) K os ans).drop pre.length)) ∧ l = [io .i64 rv (reJ pre), bx g4_195 24 #[lv], bx g3_195 73 #[.pointer (some ⟨gs_9, 0, none⟩)], bx g7_195 76 #[.func (.func 30) #[.pointer (some ⟨gs_9, 0, none⟩)] #[]], bx g5_195 85 #[.func (.func 35) #[] #[.pointer (some ⟨g3, 0, none⟩)]], bx g6 28 #[.int .i64 0], bx g5 3 #[.int .i64 0], bx g4 25 #[rv], bx g3 37 #[av]])) (fun cQ pre => pk (fun l => (cQ = .ret ∧ ∃ (rv : Value) (rL : List Int) (a : Int) (er : Int), (fbJ ans 0 (moJ (lgN C N Z K Q) K os ans) = (a, er)) ∧ (er ≠ 0) ∧ l = [io .i64 rv rL, bx g4_195 24 #[lv], bx g3_195 73 #[.pointer (some ⟨gs_9, 0, none⟩)], bx g7_195 76 #[.func (.func 30) #[.pointer (some ⟨gs_9, 0, none⟩)] #[]], bx g5_195 85 #[.func (.func 35) #[] #[.pointer (some ⟨g3, 0, none⟩)]], bx g6 28 #[.int .i64 (er)], bx g5 3 #[.int .i64 (a)], bx g4 25 #[.slice none 0 0], bx g3 37 #[av]]))) (St.pack (l := [io .i64 (.slice none 0 0) (reJ []), bx g4_195 24 #[lv], bx g3_195 73 #[.pointer (some ⟨gs_9, 0, none⟩)], bx g7_195 76 #[.func (.func 30) #[.pointer (some ⟨gs_9, 0, none⟩)] #[]], bx g5_195 85 #[.func (.func 35) #[] #[.pointer (some ⟨g3, 0, none⟩)]], bx g6 28 #[.int .i64 0], bx g5 3 #[.int .i64 0], bx g4 25 #[(.slice none 0 0)], bx g3 37 #[av]]) (fr := (mT gs_9 75 (lgN C N Z K Q) ((hv_9, H_9), (qv_9, q_9)) [] :: [])) (by have q0 : c197 = io .i64 (.slice none 0 0) (reJ []) := hc197; have q1 : cb4_195 = bx g4_195 24 #[lv] := hcb4_195; have q2 : cb3_195 = bx g3_195 73 #[.pointer (some ⟨gs_9, 0, none⟩)] := hcb3_195; have q3 : cb7_195 = bx g7_195 76 #[.func (.func 30) #[.pointer (some ⟨gs_9, 0, none⟩)] #[]] := hcb7_195; have q4 : cb5_195 = bx g5_195 85 #[.func (.func 35) #[] #[.pointer (some ⟨g3, 0, none⟩)]] := hcb5_195; have q5 : c150_166 = bx g6 28 #[.int .i64 0] := hc150_166; have q6 : c149_166 = bx g5 3 #[.int .i64 0] := hc149_166; have q7 : c4_166 = bx g4 25 #[(.slice none 0 0)] := hc4_166; have q8 : c3_166 = bx g3 37 #[av] := hc3_166; have q9 := hct200; subst q0 q1 q2 q3 q4 q5 q6 q7 q8 q9; exact S201) ⟨(.slice none 0 0), rfl, rfl⟩)
  (fun pre W l' hS => by obtain ⟨l, ⟨rv, hz, rfl⟩, hl⟩ := pk_at (hS.ch 0 V); exact ⟨(hl 1 _ V), hS.ro h_lv, (hl 2 _ V), (hl 3 _ V), (hl 4 _ V), (hl 8 _ V), hS.ro h_av⟩)
  (fun x a' cQ => ∃ g205 : Nat, SzN a' 72 ∧ a'.defers = [] ∧ EV a' (.tmp 5) = EV A196 (.tmp 5) ∧ EV a' (.tmp 6) = EV A196 (.tmp 6) ∧ EV a' (.tmp 7) = EV A196 (.tmp 7) ∧ EV a' (.tmp 8) = EV A196 (.tmp 8) ∧ EV a' (.tmp 13) = .int .i64 (x.1) ∧ EV a' (.tmp 14) = .pointer (some ⟨g205, 0, none⟩) ∧ cQ = pk (·= [bx g205 44 #[.int .i64 (x.2.1.e), .bool (x.2.1.t), .int .u64 (x.2.1.v)]])) ?_ ?_ ?_ ?_
 ·intro la198 pre x wa198 fr K hSa198 hK
  simp only [Ml.encM]
  rw [rnd2]
  obtain ⟨A202, E202⟩ : ∃ A, A = (PT (PT { tmps := A196.tmps, defers := [] } 55 (.int .i64 x.1)) 56 (.agg #[.int .i64 x.2.1.e, .bool x.2.1.t, .int .u64 x.2.1.v])) := ⟨_, rfl⟩
  rw [← E202]
  have Y202 := szq E202
  have hdf202 : A202.defers = [] := by rw [E202]; rfl
  have l5_202 := lookE E202 5 (Sb (rnd_l (fg8 F196)))
  have l6_202 := lookE E202 6 (Sb (rnd_l (fg7 F196)))
  have l7_202 := lookE E202 7 (Sb (rnd_l (fg6 F196)))
  have l8_202 := lookE E202 8 (Sb (rnd_l (fg5 F196)))
  have l55_202 := lookE E202 55 (Sa t0)
  have l56_202 := lookE E202 56 t0
  clear E202
  obtain ⟨cI, hcI, hSa198⟩ := gen1 hSa198
  refine R_seq (fun _ H203 => R_region (by kernel_rfl) (va l55_202 (W_end (Qo_normal (en (((((((ck (FS.n hdf202) V V)).c ((es V l5_202))).c ((es V l6_202))).c ((es V l7_202))).c ((es V l8_202))).c ((Sa l56_202))) fun A204 _ F204 => tk H203 (R_region (by kernel_rfl) (wA (#[.int .i64 0, .bool false, .int .u64 0]) hSa198 (fun g205 w205 c205 hc205 S205 => ?_))))))))
  replace S205 : St w NoX (c205 :: cI :: fr) w205 := S205
  refine xsA 0 S205 V hc205 V V V t0 (Sa (fg0 F204)) (fun w206 c206 hc206 S206 => ?_)
  replace S206 : St w NoX (c206 :: cI :: fr) w206 := S206
  refine W_end (Qo_normal (en (Ka F204) fun A207 Y207 F207 => then_n (hK _ _ _ ⟨g205, Y207, F207.d, ((fg5 F207).trans (fg8 F196).symm), ((fg4 F207).trans (fg7 F196).symm), ((fg3 F207).trans (fg6 F196).symm), ((fg2 F207).trans (fg5 F196).symm), (fg6 F207), (fg0 F207), rfl⟩ ?_)))
  subst hc206 hcI; exact S206.asg1
 ·rintro lb208 pre x A208 w208 cQ fr hAx hlr S208 hVd
  obtain ⟨g205, Y208, hdf208, u5_208, u6_208, u7_208, u8_208, l13_208, l14_208, rfl⟩ := hAx
  have l5_208 := u5_208.trans (fg8 F196)
  have l6_208 := u6_208.trans (fg7 F196)
  have l7_208 := u7_208.trans (fg6 F196)
  have l8_208 := u8_208.trans (fg5 F196)
  obtain ⟨_, _, ⟨rv, hz, rfl⟩, rfl, S208⟩ := S208.body2
  replace S208 : St w NoX ((io .i64 rv (reJ pre)) :: (bx g4_195 24 #[lv]) :: (bx g3_195 73 #[.pointer (some ⟨gs_9, 0, none⟩)]) :: (bx g7_195 76 #[.func (.func 30) #[.pointer (some ⟨gs_9, 0, none⟩)] #[]]) :: (bx g5_195 85 #[.func (.func 35) #[] #[.pointer (some ⟨g3, 0, none⟩)]]) :: (bx g6 28 #[.int .i64 0]) :: (bx g5 3 #[.int .i64 0]) :: (bx g4 25 #[rv]) :: (bx g3 37 #[av]) :: (bx g205 44 #[.int .i64 (x.2.1.e), .bool (x.2.1.t), .int .u64 (x.2.1.v)]) :: (mT gs_9 75 (lgN C N Z K Q) ((hv_9, H_9), (qv_9, q_9)) (pre ++ [x])) :: fr) w208 := S208
  obtain ⟨c197_209, cb4_209, cb3_209, cb7_209, cb5_209, c150_209, c149_209, c4_209, c3_209, c206_209, ct_209, hc197_209, hcb4_209, hcb3_209, hcb7_209, hcb5_209, hc150_209, hc149_209, hc4_209, hc3_209, hc206_209, hct_209, S208⟩ := gen11 S208
  have S210 : St w NoX (c197_209 :: ct_209 :: cb4_209 :: cb3_209 :: cb7_209 :: cb5_209 :: c150_209 :: c149_209 :: c4_209 :: c3_209 :: c206_209 :: fr) w208 := St.selR (l := [c197_209, cb4_209, cb3_209, cb7_209, cb5_209, c150_209, c149_209, c4_209, c3_209, c206_209, ct_209]) (l' := [c197_209, ct_209, cb4_209, cb3_209, cb7_209, cb5_209, c150_209, c149_209, c4_209, c3_209, c206_209]) (fr := fr) S208 [0, 10, 1, 2, 3, 4, 5, 6, 7, 8, 9] (by decide) (by rfl) V
  obtain ⟨cb211, ck211, hcb211, hck211, S211⟩ := mT_open (hct_209 ▸ S210)
  rw [lastG_app] at hcb211
  replace S211 : St w NoX (c197_209 :: cb211 :: ck211 :: cb4_209 :: cb3_209 :: cb7_209 :: cb5_209 :: c150_209 :: c149_209 :: c4_209 :: c3_209 :: c206_209 :: fr) w208 := S211
  have hpl : pre.length + 1 ≤ os.length := by have := hVd.len; simpa using this
  have hx1 := (Tr.at hVd).2
  have hrj := reJ_len pre
  refine R_block (R_seq (fun _ H212 => R_seq (fun _ H213 => R_monoS (by kernel_rfl) 6 6 [] (by kernel_rfl) (by kernel_rfl) (dr (fun _ hx _ => (urc l5_208 (cell_box (v := av) ((S211.grow hx).ob 10 hc3_209) V))) (dm (Sa l13_208) ?_)))))
  have k214 : pre.length < ans.length := by first | omega | (simp only [List.length_cons, List.length_nil]; omega) | (simp only [List.length_set]; omega) | decide
  obtain ⟨y214, hy214⟩ := get_some (xs := ans) (k := pre.length) k214
  have hvr214 := hvr y214 (List.mem_of_getElem? hy214)
  obtain ⟨B214, O214, C214, hv214⟩ := (SlN.blk (sl_SlN h_av.at) (by first | omega | (simp only [List.length_cons, List.length_nil]; omega) | (simp only [List.length_set]; omega) | decide))
  refine dv (V_ixS (off := O214 + pre.length * 3) 3 pre.length V (Sa t0) t0 hv214 (by omega) k214 Try.underlying37 (by kernel_rfl) V) (dr (fun sx hx hF => (VR_ldR (ys := anC y214) V t0 (SlN.row anC_len (sl_SlN ((S211.grow hx).ro h_av)) hv214 hy214 V) Try.underlying44 V (by kernel_rfl))) (dr (fun _ hx _ => (ura (Sd l14_208) ((S211.grow hx).ob 11 hc206_209))) (dv (V_neStA V (Sa t0) t0 (by kernel_rfl)) (ZS_none S211 (Nat.le_refl _) (Nat.le_refl _) (fun s215 hJ215 hL215 hF215 => ?_)))))
  have S215 := hJ215.st; clear hF215 hJ215 hL215
  generalize s215.1 = w215 at *
  replace S215 : St w NoX (c197_209 :: cb211 :: ck211 :: cb4_209 :: cb3_209 :: cb7_209 :: cb5_209 :: c150_209 :: c149_209 :: c4_209 :: c3_209 :: c206_209 :: fr) w215 := S215
  refine en (((((((ck (cq5 (FS.n hdf208) V) V V)).c ((es6 V l6_208))).c ((es6 V l7_208))).c ((es6 V l8_208))).c ((es6 V l13_208))).c ((Sf l14_208))) fun A216 _ F216 => tk H213 (R_cond_dec (fg5 F216) (fun c217 => ?_) (fun c217 => ?_))
  ·refine R_seq (fun _ H218 => R_region (by kernel_rfl) (vm (fg1 F216) (xsC (zs' := #[.slice none 0 0]) 9 S215 V hc4_209 V V V (Sa (fg4 F216)) V (by rfl) (fun w219 c219 hc219 S219 => ?_))))
   replace S219 : St w NoX (c197_209 :: cb211 :: ck211 :: cb4_209 :: cb3_209 :: cb7_209 :: cb5_209 :: c150_209 :: c149_209 :: c219 :: c3_209 :: c206_209 :: fr) w219 := S219
   refine xsC (zs' := #[.int .i64 (x.1)]) 8 S219 V hc149_209 V V V (Sa (fg3 F216)) t0 (by rfl) (fun w220 c220 hc220 S220 => ?_)
   replace S220 : St w NoX (c197_209 :: cb211 :: ck211 :: cb4_209 :: cb3_209 :: cb7_209 :: cb5_209 :: c150_209 :: c220 :: c219 :: c3_209 :: c206_209 :: fr) w220 := S220
   refine xsC (zs' := #[.int .i64 4]) 7 S220 V hc150_209 V V V (Sa (fg2 F216)) V (by rfl) (fun w221 c221 hc221 S221 => ?_)
   replace S221 : St w NoX (c197_209 :: cb211 :: ck211 :: cb4_209 :: cb3_209 :: cb7_209 :: cb5_209 :: c221 :: c220 :: c219 :: c3_209 :: c206_209 :: fr) w221 := S221
   refine W_end (Qo_normal (en (Qa F216) fun A222 _ F222 => ?_))
   have S224 := S221.del 11
   replace S224 : St w NoX (c197_209 :: cb211 :: ck211 :: cb4_209 :: cb3_209 :: cb7_209 :: cb5_209 :: c221 :: c220 :: c219 :: c3_209 :: fr) w221 := S224
   refine tk H218 (R_ret (then_ret (inb_ret ?_)))
   obtain ⟨ct225, hct225, S225⟩ := genS (mT_shut (gs := gs_9) (T := 75) (n := (lgN C N Z K Q)) (G0 := ((hv_9, H_9), (qv_9, q_9))) (pre := (pre ++ [x])) (hcb211.trans (by rw [lastG_app])) hck211 S224)
   replace S225 : St w NoX (c197_209 :: ct225 :: cb4_209 :: cb3_209 :: cb7_209 :: cb5_209 :: c221 :: c220 :: c219 :: c3_209 :: fr) w221 := S225
   have S226 : St w NoX (c197_209 :: cb4_209 :: cb3_209 :: cb7_209 :: cb5_209 :: c221 :: c220 :: c219 :: c3_209 :: ct225 :: fr) w221 := St.selR (l := [c197_209, ct225, cb4_209, cb3_209, cb7_209, cb5_209, c221, c220, c219, c3_209]) (l' := [c197_209, cb4_209, cb3_209, cb7_209, cb5_209, c221, c220, c219, c3_209, ct225]) (fr := fr) S225 [0, 2, 3, 4, 5, 6, 7, 8, 9, 1] (by decide) (by rfl) V
   exact (St.pack (l := [io .i64 rv (reJ pre), bx g4_195 24 #[lv], bx g3_195 73 #[.pointer (some ⟨gs_9, 0, none⟩)], bx g7_195 76 #[.func (.func 30) #[.pointer (some ⟨gs_9, 0, none⟩)] #[]], bx g5_195 85 #[.func (.func 35) #[] #[.pointer (some ⟨g3, 0, none⟩)]], bx g6 28 #[.int .i64 (4)], bx g5 3 #[.int .i64 (x.1)], bx g4 25 #[.slice none 0 0], bx g3 37 #[av]]) (fr := (mT gs_9 75 (lgN C N Z K Q) ((hv_9, H_9), (qv_9, q_9)) (pre ++ [x]) :: fr)) (by have q0 : c197_209 = io .i64 rv (reJ pre) := hc197_209; have q1 : cb4_209 = bx g4_195 24 #[lv] := hcb4_209; have q2 : cb3_209 = bx g3_195 73 #[.pointer (some ⟨gs_9, 0, none⟩)] := hcb3_209; have q3 : cb7_209 = bx g7_195 76 #[.func (.func 30) #[.pointer (some ⟨gs_9, 0, none⟩)] #[]] := hcb7_209; have q4 : cb5_209 = bx g5_195 85 #[.func (.func 35) #[] #[.pointer (some ⟨g3, 0, none⟩)]] := hcb5_209; have q5 : c221 = bx g6 28 #[.int .i64 (4)] := hc221; have q6 : c220 = bx g5 3 #[.int .i64 (x.1)] := hc220; have q7 : c219 = bx g4 25 #[.slice none 0 0] := hc219; have q8 : c3_209 = bx g3 37 #[av] := hc3_209; have q9 := hct225; subst q0 q1 q2 q3 q4 q5 q6 q7 q8 q9; exact S226) (⟨rfl, rv, (reJ pre), x.1, 4, (jd_bad hgK hVd hz hy214 (fun q => c217 (anIff.1 q))), (by decide), rfl⟩))
  refine R_skip (tk H212 (R_seq (fun _ H227 => R_region (by kernel_rfl) (fa 0 (fg0 F216) (rL (.int .i64 (x.2.1.e)) t0 (S215.ob 11 hc206_209) (ve t0 V (W_end (Qo_normal (en (Ka (Qb F216)) fun A228 _ F228 => ?_)))))))))
  have S230 := S215.del 11
  replace S230 : St w NoX (c197_209 :: cb211 :: ck211 :: cb4_209 :: cb3_209 :: cb7_209 :: cb5_209 :: c150_209 :: c149_209 :: c4_209 :: c3_209 :: fr) w215 := S230
  refine tk H227 (R_cond_dec (fg0 F228) (fun c231 => ?_) (fun c231 => ?_))
  ·refine R_region (by kernel_rfl) (rL rv (fg5 F228) (S230.ob 9 hc4_209) (vm (Sa (fg2 F228)) ?_))
   have hll232 : [x.1].length = 1 := rfl
   refine xsL (vs := [.int .i64 (x.1)]) (xs := ([x.1].map (Value.int .i64))) 1 S230 V V V (parts1 t0) Try.underlying25 (fun g232 w232 c232 hc232 S232 => ?_)
   replace hc232 : c232 = io .i64 (.slice (some ⟨g232, 0, none⟩) 1 1) [x.1] := hc232
   replace S232 : St w NoX (c232 :: c197_209 :: cb211 :: ck211 :: cb4_209 :: cb3_209 :: cb7_209 :: cb5_209 :: c150_209 :: c149_209 :: c4_209 :: c3_209 :: fr) w232 := S232
   refine W_appS 1 1 S232 V hc197_209 V V V (Sb t0) t0 Try.underlying25 Try.underlying25 (z := .int .i64 0) (bytes := 8) (by kernel_rfl) V (by decide) (ow_at (S232.cq 0 hc232)) ones_i (by first | omega | (simp; done) | (simp; omega)) (by first | omega | (simp; done) | (simp; omega)) (fun v233 w233 c233 hc233 S233 => ?_)
   replace hc233 : c233 = io .i64 v233 ((reJ pre) ++ [x.1]) := hc233.trans (app_eq (by first | (simp; done) | (rw [List.take_of_length_le (l := List.drop _ _) (by rw [List.length_drop]; exact Nat.le_refl _)])))
   replace S233 : St w NoX (c232 :: c233 :: cb211 :: ck211 :: cb4_209 :: cb3_209 :: cb7_209 :: cb5_209 :: c150_209 :: c149_209 :: c4_209 :: c3_209 :: fr) w233 := S233
   refine xsC (zs' := #[v233]) 10 S233 V hc4_209 V V V (Sd (fg5 F228)) t0 (SlN_one (ow_at (S233.cq 1 hc233))) (fun w234 c234 hc234 S234 => ?_)
   replace S234 : St w NoX (c232 :: c233 :: cb211 :: ck211 :: cb4_209 :: cb3_209 :: cb7_209 :: cb5_209 :: c150_209 :: c149_209 :: c234 :: c3_209 :: fr) w234 := S234
   refine W_end (Qo_normal (en (Qd F228) fun A235 _ F235 => ?_))
   have S237 := S234.del 0
   replace S237 : St w NoX (c233 :: cb211 :: ck211 :: cb4_209 :: cb3_209 :: cb7_209 :: cb5_209 :: c150_209 :: c149_209 :: c234 :: c3_209 :: fr) w234 := S237
   refine inb_n ?_
   obtain ⟨ct238, hct238, S238⟩ := genS (mT_shut (gs := gs_9) (T := 75) (n := (lgN C N Z K Q)) (G0 := ((hv_9, H_9), (qv_9, q_9))) (pre := (pre ++ [x])) (hcb211.trans (by rw [lastG_app])) hck211 S237)
   replace S238 : St w NoX (c233 :: ct238 :: cb4_209 :: cb3_209 :: cb7_209 :: cb5_209 :: c150_209 :: c149_209 :: c234 :: c3_209 :: fr) w234 := S238
   have S239 : St w NoX (c233 :: cb4_209 :: cb3_209 :: cb7_209 :: cb5_209 :: c150_209 :: c149_209 :: c234 :: c3_209 :: ct238 :: fr) w234 := St.selR (l := [c233, ct238, cb4_209, cb3_209, cb7_209, cb5_209, c150_209, c149_209, c234, c3_209]) (l' := [c233, cb4_209, cb3_209, cb7_209, cb5_209, c150_209, c149_209, c234, c3_209, ct238]) (fr := fr) S238 [0, 2, 3, 4, 5, 6, 7, 8, 9, 1] (by decide) (by rfl) V
   exact (St.pack (l := [io .i64 v233 (reJ (pre ++ [x])), bx g4_195 24 #[lv], bx g3_195 73 #[.pointer (some ⟨gs_9, 0, none⟩)], bx g7_195 76 #[.func (.func 30) #[.pointer (some ⟨gs_9, 0, none⟩)] #[]], bx g5_195 85 #[.func (.func 35) #[] #[.pointer (some ⟨g3, 0, none⟩)]], bx g6 28 #[.int .i64 0], bx g5 3 #[.int .i64 0], bx g4 25 #[v233], bx g3 37 #[av]]) (fr := (mT gs_9 75 (lgN C N Z K Q) ((hv_9, H_9), (qv_9, q_9)) (pre ++ [x]) :: fr)) (by have q0 : c233 = io .i64 v233 (reJ (pre ++ [x])) := hc233.trans ((congrArg (io .i64 _) (reJ_5 c231).symm)); have q1 : cb4_209 = bx g4_195 24 #[lv] := hcb4_209; have q2 : cb3_209 = bx g3_195 73 #[.pointer (some ⟨gs_9, 0, none⟩)] := hcb3_209; have q3 : cb7_209 = bx g7_195 76 #[.func (.func 30) #[.pointer (some ⟨gs_9, 0, none⟩)] #[]] := hcb7_209; have q4 : cb5_209 = bx g5_195 85 #[.func (.func 35) #[] #[.pointer (some ⟨g3, 0, none⟩)]] := hcb5_209; have q5 : c150_209 = bx g6 28 #[.int .i64 0] := hc150_209; have q6 : c149_209 = bx g5 3 #[.int .i64 0] := hc149_209; have q7 : c234 = bx g4 25 #[v233] := hc234; have q8 : c3_209 = bx g3 37 #[av] := hc3_209; have q9 := hct238; subst q0 q1 q2 q3 q4 q5 q6 q7 q8 q9; exact S239) (⟨v233, (jd_nx hgK hVd hz hy214 (anIff.2 (by simpa using c217))), rfl⟩))
  refine R_skip (inb_n ?_)
  obtain ⟨ct240, hct240, S240⟩ := genS (mT_shut (gs := gs_9) (T := 75) (n := (lgN C N Z K Q)) (G0 := ((hv_9, H_9), (qv_9, q_9))) (pre := (pre ++ [x])) (hcb211.trans (by rw [lastG_app])) hck211 S230)
  replace S240 : St w NoX (c197_209 :: ct240 :: cb4_209 :: cb3_209 :: cb7_209 :: cb5_209 :: c150_209 :: c149_209 :: c4_209 :: c3_209 :: fr) w215 := S240
  have S241 : St w NoX (c197_209 :: cb4_209 :: cb3_209 :: cb7_209 :: cb5_209 :: c150_209 :: c149_209 :: c4_209 :: c3_209 :: ct240 :: fr) w215 := St.selR (l := [c197_209, ct240, cb4_209, cb3_209, cb7_209, cb5_209, c150_209, c149_209, c4_209, c3_209]) (l' := [c197_209, cb4_209, cb3_209, cb7_209, cb5_209, c150_209, c149_209, c4_209, c3_209, ct240]) (fr := fr) S240 [0, 2, 3, 4, 5, 6, 7, 8, 9, 1] (by decide) (by rfl) V
  exact (St.pack (l := [io .i64 rv (reJ (pre ++ [x])), bx g4_195 24 #[lv], bx g3_195 73 #[.pointer (some ⟨gs_9, 0, none⟩)], bx g7_195 76 #[.func (.func 30) #[.pointer (some ⟨gs_9, 0, none⟩)] #[]], bx g5_195 85 #[.func (.func 35) #[] #[.pointer (some ⟨g3, 0, none⟩)]], bx g6 28 #[.int .i64 0], bx g5 3 #[.int .i64 0], bx g4 25 #[rv], bx g3 37 #[av]]) (fr := (mT gs_9 75 (lgN C N Z K Q) ((hv_9, H_9), (qv_9, q_9)) (pre ++ [x]) :: fr)) (by have q0 : c197_209 = io .i64 rv (reJ (pre ++ [x])) := hc197_209.trans ((congrArg (io .i64 _) (reJ_0 c231).symm)); have q1 : cb4_209 = bx g4_195 24 #[lv] := hcb4_209; have q2 : cb3_209 = bx g3_195 73 #[.pointer (some ⟨gs_9, 0, none⟩)] := hcb3_209; have q3 : cb7_209 = bx g7_195 76 #[.func (.func 30) #[.pointer (some ⟨gs_9, 0, none⟩)] #[]] := hcb7_209; have q4 : cb5_209 = bx g5_195 85 #[.func (.func 35) #[] #[.pointer (some ⟨g3, 0, none⟩)]] := hcb5_209; have q5 : c150_209 = bx g6 28 #[.int .i64 0] := hc150_209; have q6 : c149_209 = bx g5 3 #[.int .i64 0] := hc149_209; have q7 : c4_209 = bx g4 25 #[rv] := hc4_209; have q8 : c3_209 = bx g3 37 #[av] := hc3_209; have q9 := hct240; subst q0 q1 q2 q3 q4 q5 q6 q7 q8 q9; exact S241) (⟨rv, (jd_nx hgK hVd hz hy214 (anIff.2 (by simpa using c217))), rfl⟩))
 ·intro D242 xs242 w242 hxs242 S242
  obtain ⟨_, ⟨rv, hz, rfl⟩, S242⟩ := S242.unpack
  replace S242 : St w NoX ((io .i64 rv (reJ xs242)) :: (bx g4_195 24 #[lv]) :: (bx g3_195 73 #[.pointer (some ⟨gs_9, 0, none⟩)]) :: (bx g7_195 76 #[.func (.func 30) #[.pointer (some ⟨gs_9, 0, none⟩)] #[]]) :: (bx g5_195 85 #[.func (.func 35) #[] #[.pointer (some ⟨g3, 0, none⟩)]]) :: (bx g6 28 #[.int .i64 0]) :: (bx g5 3 #[.int .i64 0]) :: (bx g4 25 #[rv]) :: (bx g3 37 #[av]) :: (ob D242 (.deferred (some []))) :: (mT gs_9 75 (lgN C N Z K Q) ((hv_9, H_9), (qv_9, q_9)) xs242) :: []) w242 := S242
  obtain ⟨c197_242, cb4_242, cb3_242, cb7_242, cb5_242, c150_242, c149_242, c4_242, c3_242, cD242, ct_242, hc197_242, hcb4_242, hcb3_242, hcb7_242, hcb5_242, hc150_242, hc149_242, hc4_242, hc3_242, hcD242, hct_242, S242⟩ := gen11 S242
  have S243 := S242.se [0, 10, 1, 2, 3, 4, 5, 6, 7, 8, 9] [c197_242, ct_242, cb4_242, cb3_242, cb7_242, cb5_242, c150_242, c149_242, c4_242, c3_242, cD242]
  obtain ⟨cb244, ck244, hcb244, hck244, S244⟩ := mT_open (hct_242 ▸ S243)
  replace S244 : St w NoX [c197_242, cb244, ck244, cb4_242, cb3_242, cb7_242, cb5_242, c150_242, c149_242, c4_242, c3_242, cD242] w242 := S244
  refine gen_Q (fun A242 E242 => ?_)
  have Y242 := szq E242
  have hdf242 : A242.defers = [{ target := .collected D242, args := #[] }] := by rw [E242, df_mk, F196.d] <;> rfl
  have l6_242 := lookE E242 6 (mk_l (fg7 F196))
  have l7_242 := lookE E242 7 (mk_l (fg6 F196))
  have l8_242 := lookE E242 8 (mk_l (fg5 F196))
  clear E242
  refine inb_n (tk H193 (R_seq (fun _ H245 => R_region (by kernel_rfl) (rL rv l6_242 (S244.ob 9 hc4_242) (xsC9 (zs' := #[rv]) S244 hc4_242 V V V (Sa l6_242) t0 (SlN_one (ow_at (S244.cq 0 hc197_242))) (fun w246 c246 hc246 S246 => xsC8 (zs' := #[.int .i64 0]) S246 hc149_242 V V V (Sa l7_242) V (by rfl) (fun w247 c247 hc247 S247 => xsC7 (zs' := #[.int .i64 0]) S247 hc150_242 V V V (Sa l8_242) V (by rfl) (fun w248 c248 hc248 S248 => W_end (Qo_normal (en (((((cq1 (FS.n hdf242) V)).c ((es V l6_242))).c ((es V l7_242))).c ((Sa l8_242))) fun A249 _ F249 => ?_))))))))))
  have S250 := S248.se [0, 1, 2, 7, 8, 9, 10, 11] [c197_242, cb244, ck244, c248, c247, c246, c3_242, cD242]
  refine tk H245 (R_ret ?_)
  have hD251 := S250.ob 7 hcD242
  have S251 := S250.put (o' := .deferred none) 7 V hcD242
  obtain ⟨w251, hw251⟩ : ∃ w', w' = w248.putObj D242 (.deferred none) := ⟨_, rfl⟩
  rw [← hw251] at S251
  replace S251 : St w NoX [c197_242, cb244, ck244, c248, c247, c246, c3_242, (ob D242 (.deferred none))] w251 := S251
  refine ret_inR1' (D := D242) (w1 := w251) hw251 (results_3 Try.results19 (rvC (fg2 F249) (cell_box (S251.ob 5 hc246) V)) (rvC (fg1 F249) (cell_box (S251.ob 4 hc247) V)) (rvC (fg0 F249) (cell_box (S251.ob 3 hc248) V))) F249.d hD251 ?_
  have hd := jd_done hgK hxs242.1 hxs242.2 hsz (by omega) hjA hz
  exact .inr ⟨_, rfl, hd.1, (S251.fin1 0 V (hc197_242.trans (congrArg (io .i64 _) hd.2)))⟩
 intro D252 cQ pre w252 hpre S252
 obtain ⟨_, hx, S252⟩ := S252.unpack
 rcases hx with ⟨rfl, rv, rL, a, er, hx, hne, rfl⟩
 replace S252 : St w NoX ((io .i64 rv rL) :: (bx g4_195 24 #[lv]) :: (bx g3_195 73 #[.pointer (some ⟨gs_9, 0, none⟩)]) :: (bx g7_195 76 #[.func (.func 30) #[.pointer (some ⟨gs_9, 0, none⟩)] #[]]) :: (bx g5_195 85 #[.func (.func 35) #[] #[.pointer (some ⟨g3, 0, none⟩)]]) :: (bx g6 28 #[.int .i64 (er)]) :: (bx g5 3 #[.int .i64 (a)]) :: (bx g4 25 #[.slice none 0 0]) :: (bx g3 37 #[av]) :: (ob D252 (.deferred (some []))) :: (mT gs_9 75 (lgN C N Z K Q) ((hv_9, H_9), (qv_9, q_9)) pre) :: []) w252 := S252
 obtain ⟨c197_252, cb4_252, cb3_252, cb7_252, cb5_252, c150_252, c149_252, c4_252, c3_252, cD252, ct_252, hc197_252, hcb4_252, hcb3_252, hcb7_252, hcb5_252, hc150_252, hc149_252, hc4_252, hc3_252, hcD252, hct_252, S252⟩ := gen11 S252
 have S253 := S252.se [0, 10, 1, 2, 3, 4, 5, 6, 7, 8, 9] [c197_252, ct_252, cb4_252, cb3_252, cb7_252, cb5_252, c150_252, c149_252, c4_252, c3_252, cD252]
 obtain ⟨cb254, ck254, hcb254, hck254, S254⟩ := mT_open (hct_252 ▸ S253)
 replace S254 : St w NoX [c197_252, cb254, ck254, cb4_252, cb3_252, cb7_252, cb5_252, c150_252, c149_252, c4_252, c3_252, cD252] w252 := S254
 refine gen_w (fun A252 E252 => ?_)
 have Y252 := szq E252
 have hdf252 : A252.defers = [{ target := .collected D252, args := #[] }] := by rw [E252, df_mk, F196.d] <;> rfl
 have l6_252 := lookE E252 6 (mk_l (fg7 F196))
 have l7_252 := lookE E252 7 (mk_l (fg6 F196))
 have l8_252 := lookE E252 8 (mk_l (fg5 F196))
 clear E252
 refine R_ret (inb_ret (then_ret ?_))
 have hD255 := S254.ob 11 hcD252
 have S255 := S254.put (o' := .deferred none) 11 V hcD252
 obtain ⟨w255, hw255⟩ : ∃ w', w' = w252.putObj D252 (.deferred none) := ⟨_, rfl⟩
 rw [← hw255] at S255
 replace S255 : St w NoX [c197_252, cb254, ck254, cb4_252, cb3_252, cb7_252, cb5_252, c150_252, c149_252, c4_252, c3_252, (ob D252 (.deferred none))] w255 := S255
 refine ret_inR1' (D := D252) (w1 := w255) hw255 (results_3 Try.results19 (rvC l6_252 (cell_box (S255.ob 9 hc4_252) V)) (rvC l7_252 (cell_box (S255.ob 8 hc149_252) V)) (rvC l8_252 (cell_box (S255.ob 7 hc150_252) V))) hdf252 hD255 ?_
 have h : (jdF (cfE C N Z K Q) (lgN C N Z K Q) K os ans) = (a, er) := (jd_fb hsz (by omega) hjA).trans hx
 rw [h]
 exact .inl ⟨rfl, hne, S255.fin0⟩

end Go.Proofs.Ytpgkfndbfocibaa
namespace Go.Proofs.Ytpgkfndbfocibaa
open Go.RowKit Go.Own Go.Own.R Go.Own.G Go.Own.Gr Go.Own.Ml


set_option maxHeartbeats 4000000 in
theorem kst_c {C : Int} {N : Int} {Z : Int} {K : Int} {Q : Int} {G : GV} {kd : Int} {a : Int} {b : Int} {f : Int} {p : Int} {q : Int} {uu : Int} {w : World} (hg_G : Ro w NoX (gls [G])) (hsm : SM (G.1.2.map ab)) :
  Calls Try.prog 16 #[.agg #[.int .i64 C, .int .i64 N, .int .i64 Z, .int .i64 K, .int .i64 Q], .agg #[G.1.1, G.2.1], .agg #[.int .i64 kd, .int .i64 a, .int .i64 b, .int .i64 f, .int .i64 p, .int .i64 q, .int .u64 uu]] w fun e w' => ∃ ho1 Ho1 qo1 so1, e = .returned (.tuple #[.agg #[ho1, qo1], .agg #[.int .i64 (stA (cfE C N Z K Q) (lgN C N Z K Q) K (gab G) (⟨kd, a, b, f, p, q, uu⟩ : OpC)).e, .bool (stA (cfE C N Z K Q) (lgN C N Z K Q) K (gab G) (⟨kd, a, b, f, p, q, uu⟩ : OpC)).t, .int .u64 (stA (cfE C N Z K Q) (lgN C N Z K Q) K (gab G) (⟨kd, a, b, f, p, q, uu⟩ : OpC)).v], .int .i64 (stE (cfE C N Z K Q) K (gab G) (⟨kd, a, b, f, p, q, uu⟩ : OpC))]) ∧ (gab ((ho1, Ho1), (qo1, so1)) = (stG (cfE C N Z K Q) (lgN C N Z K Q) K (gab G) (⟨kd, a, b, f, p, q, uu⟩ : OpC))) ∧ St w NoX [gls [((ho1, Ho1), (qo1, so1))]] w' := by
 have Go := gl_o m1 hg_G
 have Gn := gl_n m1 hg_G
 have Gr := gl_r m1 hg_G
 refine calls_in 87 Try.func16 V V (by simp) (fun A0 hsz0 hdf0 hargs => ?_)
 have l0_0 := hargs 0 (.agg #[.int .i64 C, .int .i64 N, .int .i64 Z, .int .i64 K, .int .i64 Q]) V
 have l1_0 := hargs 1 (.agg #[G.1.1, G.2.1]) V
 have l2_0 := hargs 2 (.agg #[.int .i64 kd, .int .i64 a, .int .i64 b, .int .i64 f, .int .i64 p, .int .i64 q, .int .u64 uu]) V
 clear hargs; replace hsz0 : SzN A0 87 := ⟨hsz0⟩
 have hS := St.nil w
 have bGo := SlN.le (sl_SlN Go.at)
 have bGr := SlN.le (sl_SlN Gr.at)
 refine tb fun _ H1 => (wB (#[.int .i64 (C), .int .i64 (N), .int .i64 (Z), .int .i64 (K), .int .i64 (Q)]) hS l0_0 (fun g2 w2 c2 hc2 S2 => wB (#[G.1.1, G.2.1]) S2 (Sa l1_0) (fun g3 w3 c3 hc3 S3 => wB (#[.int .i64 (kd), .int .i64 (a), .int .i64 (b), .int .i64 (f), .int .i64 (p), .int .i64 (q), .int .u64 (uu)]) S3 (Sb l2_0) (fun g4 w4 c4 hc4 S4 => wA (#[.slice none 0 0, .slice none 0 0]) S4 (fun g5 w5 c5 hc5 S5 => wA (#[.int .i64 0, .bool false, .int .u64 0]) S5 (fun g6 w6 c6 hc6 S6 => vc (W_end (en (Qa (Ke (FS.n hdf0))) fun A7 _ F7 => ta H1 fun _ H8 => (ra (fg4 F7) (S6.ob 4 hc2) (W_call V V V Try.func25 (by kernel_rfl) V (args1 t0) (klg_c (C := C) (N := N) (Z := Z) (K := K) (Q := Q)) ?_))))))))))
 rintro _ w9 ⟨rfl, hP9⟩
 refine ⟨_, rfl, ?_⟩
 have S9 := S6.j0 hP9
 refine vm t0 (vx (.int .i64 ((lgN C N Z K Q))) t0 (vx (.int .i64 ((cfE C N Z K Q))) (Sa t0) (va (Sa t0) (va (Sa t0) (W_end (en (Kb (Qe F7)) fun A10 _ F10 => tc H8 fun _ H11 => tb fun _ H12 => (vm (fg0 F10) (vn t0 V (W_end (en (Ka (Qa F10)) fun A13 _ F13 => tk H12 (cd (fg0 F13) (fun c14 => ?_) fun c14 => ?_)))))))))))
 ·refine tb fun _ H15 => (wv (xbS (n := 2) (z := .agg #[.slice none 0 0, .slice none 0 0]) V parts0) (wv (xbS (n := 3) (z := .agg #[.int .i64 0, .bool false, .int .u64 0]) V parts0) (vm (Sb (fg1 F13)) (xsA1 S9 hc5 V V V (Sc (fg4 F13)) (Sb t0) (fun w16 c16 hc16 S16 => xsA0 S16 hc6 V V V (Sc (fg3 F13)) (Sa t0) (fun w17 c17 hc17 S17 => vt (W_end (en (Ka (Qc (fx1 F13))) fun A18 _ F18 => ?_))))))))
  have S19 := S17.se [0, 1] [c17, c16]
  refine tk H15 (wp_ret (then_ret (rt3 F18 (rvA (fg4 F18) (S19.ob 1 hc16)) (rvA (fg3 F18) (S19.ob 0 hc17)) (rv_tmp (fg0 F18)) ?_)))
  obtain ⟨c20, hc20, S20⟩ := gen1 (gl_nl S19)
  have h : (stE (cfE C N Z K Q) K (gab G) (⟨kd, a, b, f, p, q, uu⟩ : OpC)) = (cfE C N Z K Q) := st_cf c14
  have h2 := st_e (cf := (cfE C N Z K Q)) (n := lgN C N Z K Q) (K := K) (g := gab G) (c := (⟨kd, a, b, f, p, q, uu⟩ : OpC)) (by rw [h]; exact c14)
  rw [h2.2, h]
  exact ⟨.slice none 0 0, [], .slice none 0 0, [], rfl, h2.1.symm, (S20.fin1 0 V (hc20))⟩
 refine wp_skip (tc H11 fun _ H21 => tb fun _ H22 => (ra (fg6 F13) (S9.ob 3 hc3) (W_call V V V Try.func26 (by kernel_rfl) V (args1 t0) (kCk_c (S9.roC Go) (S9.roC Gn) (S9.roC Gr)) ?_)))
 rintro _ w23 ⟨rfl, hP23⟩
 refine ⟨_, rfl, ?_⟩
 have S23 := S9.j0 hP23
 refine vm t0 (vx (.int .i64 ((ckG (G.1.2.map ab) G.2.2).1)) t0 (vx (.int .i64 ((ckG (G.1.2.map ab) G.2.2).2)) (Sa t0) (va (Sa t0) (va (Sa t0) (W_end (en (Ka (Qf F13)) fun A24 _ F24 => ta H22 fun _ H25 => (vm (fg0 F24) (vn t0 V (W_end (en (Ka (Qa F24)) fun A26 _ F26 => tk H25 (cd (fg0 F26) (fun c27 => ?_) fun c27 => ?_)))))))))))
 ·refine tb fun _ H28 => (wv (xbS (n := 2) (z := .agg #[.slice none 0 0, .slice none 0 0]) V parts0) (wv (xbS (n := 3) (z := .agg #[.int .i64 0, .bool false, .int .u64 0]) V parts0) (vm (Sb (fg1 F26)) (xsA1 S23 hc5 V V V (Sc (fg6 F26)) (Sb t0) (fun w29 c29 hc29 S29 => xsA0 S29 hc6 V V V (Sc (fg5 F26)) (Sa t0) (fun w30 c30 hc30 S30 => vt (W_end (en (Ka (Qc (fx3 F26))) fun A31 _ F31 => ?_))))))))
  have S32 := S30.se [0, 1] [c30, c29]
  refine tk H28 (wp_ret (then_ret (rt3 F31 (rvA (fg6 F31) (S32.ob 1 hc29)) (rvA (fg5 F31) (S32.ob 0 hc30)) (rv_tmp (fg0 F31)) ?_)))
  obtain ⟨c33, hc33, S33⟩ := gen1 (gl_nl S32)
  have h : (stE (cfE C N Z K Q) K (gab G) (⟨kd, a, b, f, p, q, uu⟩ : OpC)) = (ckG (G.1.2.map ab) G.2.2).2 := st_ck (g := gab G) c14 c27
  have h2 := st_e (cf := (cfE C N Z K Q)) (n := lgN C N Z K Q) (K := K) (g := gab G) (c := (⟨kd, a, b, f, p, q, uu⟩ : OpC)) (by rw [h]; exact c27)
  rw [h2.2, h]
  exact ⟨.slice none 0 0, [], .slice none 0 0, [], rfl, h2.1.symm, (S33.fin1 0 V (hc33))⟩
 have hG := ckG_iff.1 (show (ckG (G.1.2.map ab) G.2.2).2 = 0 by omega)
 have ho4 := hG.o4
 have hr8 := hG.r8
 rw [List.length_map] at ho4
 refine wp_skip (tc H21 fun _ H34 => tb fun _ H35 => (fa 1 (fg8 F26) (rL G.2.1 t0 (S23.ob 3 hc3) (le_ t0 (sl_SlN Gr.at) (fa 3 (Sc (fg9 F26)) (rL (.int .i64 (K)) t0 (S23.ob 4 hc2) (vn (Sb t0) t0 (W_end (en (Ka (Qe F26)) fun A36 _ F36 => ?_)))))))))
 have S37 := S23.se [0, 1, 2, 3] [c6, c5, c4, c3]
 refine tk H35 (cd (fg0 F36) (fun c38 => ?_) fun c38 => ?_)
 ·refine tb fun _ H39 => (wv (xbS (n := 2) (z := .agg #[.slice none 0 0, .slice none 0 0]) V parts0) (wv (xbS (n := 3) (z := .agg #[.int .i64 0, .bool false, .int .u64 0]) V parts0) (xsA1 S37 hc5 V V V (Sb (fg7 F36)) (Sa t0) (fun w40 c40 hc40 S40 => xsA0 S40 hc6 V V V (Sb (fg6 F36)) t0 (fun w41 c41 hc41 S41 => vc (W_end (en (Ka (Qb (fx4 F36))) fun A42 _ F42 => ?_)))))))
  have S43 := S41.se [0, 1] [c41, c40]
  refine tk H39 (wp_ret (then_ret (rt3 F42 (rvA (fg7 F42) (S43.ob 1 hc40)) (rvA (fg6 F42) (S43.ob 0 hc41)) (rv_tmp (fg0 F42)) ?_)))
  obtain ⟨c44, hc44, S44⟩ := gen1 (gl_nl S43)
  have h : (stE (cfE C N Z K Q) K (gab G) (⟨kd, a, b, f, p, q, uu⟩ : OpC)) = 7 := st_7 (g := gab G) c14 c27 c38
  have h2 := st_e (cf := (cfE C N Z K Q)) (n := lgN C N Z K Q) (K := K) (g := gab G) (c := (⟨kd, a, b, f, p, q, uu⟩ : OpC)) (by rw [h]; exact (by decide))
  rw [h2.2, h]
  exact ⟨.slice none 0 0, [], .slice none 0 0, [], rfl, h2.1.symm, (S44.fin1 0 V (hc44))⟩
 refine wp_skip (tc H34 fun _ H45 => tb fun _ H46 => (ra (fg8 F36) (S37.ob 2 hc4) (W_call V V V Try.func27 (by kernel_rfl) V (args1 t0) (kopc_c (kd := kd) (a := a) (b := b) (f := f) (p := p) (q := q) (uu := uu)) ?_)))
 rintro _ w47 ⟨rfl, hP47⟩
 refine ⟨_, rfl, ?_⟩
 have S47 := S37.j0 hP47
 refine vt (W_end (en (Ka (Qb F36)) fun A48 _ F48 => ta H46 fun _ H49 => (vm (fg0 F48) (vn t0 V (W_end (en (Ka (Qa F48)) fun A50 _ F50 => tk H49 (cd (fg0 F50) (fun c51 => ?_) fun c51 => ?_)))))))
 ·refine tb fun _ H52 => (wv (xbS (n := 2) (z := .agg #[.slice none 0 0, .slice none 0 0]) V parts0) (wv (xbS (n := 3) (z := .agg #[.int .i64 0, .bool false, .int .u64 0]) V parts0) (vm (Sb (fg1 F50)) (xsA1 S47 hc5 V V V (Sc (fg9 F50)) (Sb t0) (fun w53 c53 hc53 S53 => xsA0 S53 hc6 V V V (Sc (fg8 F50)) (Sa t0) (fun w54 c54 hc54 S54 => vt (W_end (en (Ka (Qc (fx6 F50))) fun A55 _ F55 => ?_))))))))
  have S56 := S54.se [0, 1] [c54, c53]
  refine tk H52 (wp_ret (then_ret (rt3 F55 (rvA (fg9 F55) (S56.ob 1 hc53)) (rvA (fg8 F55) (S56.ob 0 hc54)) (rv_tmp (fg0 F55)) ?_)))
  obtain ⟨c57, hc57, S57⟩ := gen1 (gl_nl S56)
  have h : (stE (cfE C N Z K Q) K (gab G) (⟨kd, a, b, f, p, q, uu⟩ : OpC)) = (opE (⟨kd, a, b, f, p, q, uu⟩ : OpC)) := st_op (g := gab G) c14 c27 c38
  have h2 := st_e (cf := (cfE C N Z K Q)) (n := lgN C N Z K Q) (K := K) (g := gab G) (c := (⟨kd, a, b, f, p, q, uu⟩ : OpC)) (by rw [h]; exact c51)
  rw [h2.2, h]
  exact ⟨.slice none 0 0, [], .slice none 0 0, [], rfl, h2.1.symm, (S57.fin1 0 V (hc57))⟩
 refine wp_skip (ta H45 fun _ H58 => (fa 1 (fg11 F50) (rL G.2.1 t0 (S47.ob 3 hc3) (W_call V V V Try.func28 (by kernel_rfl) V (args1 t0) (kcl_c (S47.roC Gr) (by first | omega | with_reducible assumption)) ?_))))
 rintro _ w59 ⟨v_59, rfl, hP59⟩
 refine ⟨_, rfl, ?_⟩
 obtain ⟨c_59, hc_59, hP59⟩ := gen1 hP59
 have S59 := S47.j1 hP59
 refine fa 1 (Sc (fg9 F50)) (xsC2 (zs' := #[.slice none 0 0, v_59]) S59 hc5 V V V t0 (Sa t0) (SlN_one (ow_at (S59.cq 0 hc_59))) (fun w60 c60 hc60 S60 => W_end (en (Qd F50) fun A61 _ F61 => tc H58 fun _ H62 => tb fun _ H63 => (fa 0 (fg11 F61) (rL G.1.1 t0 (S60.ob 4 hc3) (le_ t0 (sl_SlN Go.at) (vm V (W_end (en (Kc (Qa F61)) fun A64 hsz64 F64 => ?_)))))))))
 have S65 := S60.se [0, 1, 2, 3] [c_59, c6, c60, c4]
 refine tk H63 (wp_block ?_)
 obtain ⟨c66, hc66, S66⟩ := S65.pnil (s := 2)
 replace hc66 : c66 = ro 2 obC (.slice none 0 0) ([] : List Ob) := hc66
 obtain ⟨c67, cb67, hc67, hcb67, S67⟩ := gen2 (nst_nils S66)
 -- loop 14
 refine loopX (fun mz A' w' => SzN A' 87 ∧ A'.defers = [] ∧ (∃ (k : Nat) (hv : Value) (H : List Ob), (mz = G.1.2.length - k) ∧ (k ≤ G.1.2.length) ∧ (H.map ab = (G.1.2.map ab).take k) ∧ (EV A' (.tmp 58) = .int .i64 (k : Int)) ∧ (EV A' (.tmp 5) = EV A64 (.tmp 5)) ∧ (EV A' (.tmp 6) = EV A64 (.tmp 6)) ∧ (EV A' (.tmp 7) = EV A64 (.tmp 7)) ∧ (EV A' (.tmp 9) = EV A64 (.tmp 9)) ∧ (EV A' (.tmp 56) = EV A64 (.tmp 56)) ∧ (EV A' (.tmp 57) = EV A64 (.tmp 57)) ∧ (St w NoX [owl .i64 (H.map (·.1)), owl .u64 (H.map (·.2)), ro 2 obC hv H, io .i64 v_59 G.2.2, bx g6 44 #[.int .i64 0, .bool false, .int .u64 0], bx g5 36 #[hv, v_59], bx g4 42 #[.int .i64 (kd), .int .i64 (a), .int .i64 (b), .int .i64 (f), .int .i64 (p), .int .i64 (q), .int .u64 (uu)]] w'))) (G.1.2.length - 0) ⟨hsz64, F64.d, 0, (.slice none 0 0), [], rfl, (by omega), rfl, (((fg0 F64)).trans (by first | rfl | (simp; done) | (congr 1; omega))), rfl, rfl, rfl, rfl, rfl, rfl, (by subst hc67 hcb67 hc66 hc_59 hc6 hc60 hc4; exact S67)⟩ ?_
 clear S67 hc67 hcb67 hc66 hc_59 hc6 hc60 hc4
 rintro n68 A68 w68 ⟨hsz68, hdf68, k, hv, H, hm68, hk, hH, l58_68, u5_68, u6_68, u7_68, u9_68, u56_68, u57_68, S68⟩
 have l5_68 := u5_68.trans (fg13 F64)
 have l6_68 := u6_68.trans (fg12 F64)
 have l7_68 := u7_68.trans (fg11 F64)
 have l9_68 := u9_68.trans (fg10 F64)
 have l56_68 := u56_68.trans (fg2 F64)
 have l57_68 := u57_68.trans (fg1 F64)
 obtain ⟨c67_68, cb67_68, c66_68, c_68, c6_68, c60_68, c4_68, hc67_68, hcb67_68, hc66_68, hc_68, hc6_68, hc60_68, hc4_68, S68⟩ := gen7 S68
 refine tb fun _ H69 => (vl l58_68 l57_68 (W_end (en (((((((((ck (FS.n hdf68) V V)).c ((es V l5_68))).c ((es V l6_68))).c ((es V l7_68))).c ((es V l9_68))).c ((es V l56_68))).c ((es V l57_68))).c ((Sa l58_68))) fun A70 _ F70 => tc H69 fun _ H71 => cd (fg7 F70) (fun c72 => ?_) fun c72 => ?_)))
 ·have hHl := mp_len hH hk
  refine wp_skip (tc H71 fun _ H73 => wp_block (tb fun _ H74 => ?_))
  have k75 : k < G.1.2.length := by first | omega | (simp only [List.length_cons, List.length_nil]; omega) | (simp only [List.length_set]; omega) | decide
  obtain ⟨y75, hy75⟩ := get_some (xs := G.1.2) (k := k) k75
  have hsy := hsm.at hy75
  obtain ⟨B75, O75, C75, hv75⟩ := (SlN.blk (sl_SlN Go.at) (by first | omega | (simp only [List.length_cons, List.length_nil]; omega) | (simp only [List.length_set]; omega) | decide))
  refine wv (V_ixS (off := O75 + k * 2) 2 k V (fg2 F70) (fg0 F70) hv75 (by omega) k75 Try.underlying34 (by kernel_rfl) V) ?_
  have fn76 : Ro w NoX (il .i64 y75.1.1 y75.1.2) := nst_ro1 Gn hy75
  have bfn76 := SlN.le (sl_SlN (S68.ro fn76))
  have fn77 : Ro w NoX (il .u64 y75.2.1 y75.2.2) := nst_ro2 Gn hy75
  have bfn77 := SlN.le (sl_SlN (S68.ro fn77))
  refine wr (VR_ldR (ys := obC y75) V t0 (SlN.row obC_len (sl_SlN (S68.ro Go)) hv75 hy75 V) Try.underlying68 V (by kernel_rfl)) (wA (#[.slice none 0 0, .slice none 0 0]) S68 (fun g78 w78 c78 hc78 S78 => ?_))
  replace S78 : St w NoX [c78, c67_68, cb67_68, c66_68, c_68, c6_68, c60_68, c4_68] w78 := S78
  refine xsB0 S78 hc78 V V V t0 (Sa t0) (by simp only [List.all_toArray, List.all_cons, List.all_nil, obC, SlN_one (sl_SlN fn76.at), SlN_one (sl_SlN fn77.at)] <;> rfl) (fun w79 c79 hc79 S79 => W_end (en (Ka (Qb F70)) fun A80 _ F80 => tk H74 (region_monoS 10 11 [none, none, none, none, some (SPv [] (fun _ => fun u l' => ∃ v_s, u = v_s ∧ ∃ c_s, c_s = io .i64 (v_s) y75.1.2 ∧ l' = [c_s]) 4), none, none, some (SPv [] (fun _ => fun u l' => ∃ v_s, u = v_s ∧ ∃ c_s, c_s = io .u64 (v_s) y75.2.2 ∧ l' = [c_s]) 7), none, some (SPv [66, 69] (fun vs => fun u l' => ∃ g_, u = .slice (some ⟨g_, 0, none⟩) 1 1 ∧ ∃ c_, c_ = ro 2 obC (.slice (some ⟨g_, 0, none⟩) 1 1) [(((vs.getD 0 undef), y75.1.2), ((vs.getD 1 undef), y75.2.2))] ∧ l' = [c_]) 9)] (by kernel_rfl) (by kernel_rfl) (df 0 (fg6 F80) (dr (fun _ hx _ => (urc t0 (cell_box (v := hv) ((S79.grow hx).ob 6 hc60_68) V))) (df 0 (Sb (fg0 F80)) (dr (fun _ hx _ => (urc t0 (cell_box (v := y75.1.1) ((S79.grow hx).ob 0 hc79) V))) (D_call (ts := []) (vs := []) (C0 := fun _ => fun u l' => ∃ v_s, u = v_s ∧ ∃ c_s, c_s = io .i64 (v_s) y75.1.2 ∧ l' = [c_s]) (C := fun u l' => ∃ v_s, u = v_s ∧ ∃ c_s, c_s = io .i64 (v_s) y75.1.2 ∧ l' = [c_s]) V V V Try.func28 (by kernel_rfl) V (args1 t0) V V V V (fun sx hx hF => ?_) (fun u81 l81 hu81 => ?_)))))))))
  ·refine (kcl_c ((S79.grow hx).roC fn76) (by first | omega | with_reducible assumption)).mono ?_
   rintro _ _ ⟨v_81, rfl, hz⟩
   exact ⟨_, rfl, _, ⟨_, rfl, _, rfl, rfl⟩, hz⟩
  obtain ⟨v_81, rfl, c_81, hc_81, hl81⟩ := hu81
  refine df 1 (Se (fg0 F80)) (dr (fun _ hx _ => (urc t0 (cell_box (v := y75.2.1) ((S79.grow hx).ob 0 hc79) V))) (D_call (ts := []) (vs := []) (C0 := fun _ => fun u l' => ∃ v_s, u = v_s ∧ ∃ c_s, c_s = io .u64 (v_s) y75.2.2 ∧ l' = [c_s]) (C := fun u l' => ∃ v_s, u = v_s ∧ ∃ c_s, c_s = io .u64 (v_s) y75.2.2 ∧ l' = [c_s]) V V V Try.func29 (by kernel_rfl) V (args1 t0) V V V V (fun sx hx hF => ?_) (fun u82 l82 hu82 => ?_)))
  ·refine (kcu_c ((S79.grow hx).roC fn77) (by first | omega | with_reducible assumption)).mono ?_
   rintro _ _ ⟨v_82, rfl, hz⟩
   exact ⟨_, rfl, _, ⟨_, rfl, _, rfl, rfl⟩, hz⟩
  obtain ⟨v_82, rfl, c_82, hc_82, hl82⟩ := hu82
  refine D_r V V (by kernel_rfl) (fun sx hx hF => by obtain ⟨ll81, ws81, we81, ⟨v_81q, hq81, c_81_, hc_81_, hl81_⟩, hm81, k81, e81⟩ := L.ancF_get (L.ancF_rest hF) (by kernel_rfl); cases hq81; subst hl81_; obtain ⟨ll82, ws82, we82, ⟨v_82q, hq82, c_82_, hc_82_, hl82_⟩, hm82, k82, e82⟩ := L.ancF_get hF (by kernel_rfl); cases hq82; subst hl82_; exact ((V_bldS (n := 2) (z := .agg #[.slice none 0 0, .slice none 0 0]) V (parts2 (es3 V (et V)) (et V)) (by kernel_rfl) (by simp only [List.all_cons, List.all_nil, SlN_one (ow_at ((k81.grow e81).cq 0 hc_81_)), SlN_one (ow_at ((k82.grow e82).cq 0 hc_82_)), Bool.and_true] <;> rfl) (by kernel_rfl) (by simp only [List.foldl_cons, List.foldl_nil, Value.cells, List.setIfInBounds_toArray, List.set_cons_succ, List.set_cons_zero] <;> rfl) : Val _ _ _ _) _)) V V ?_
  have hll83 : [((u81, y75.1.2), (u82, y75.2.2))].length = 1 := rfl
  refine D_lay (ts := [66, 69]) (vs := [u81, u82]) (C0 := fun vs => fun u l' => ∃ g_, u = .slice (some ⟨g_, 0, none⟩) 1 1 ∧ ∃ c_, c_ = ro 2 obC (.slice (some ⟨g_, 0, none⟩) 1 1) [(((vs.getD 0 undef), y75.1.2), ((vs.getD 1 undef), y75.2.2))] ∧ l' = [c_]) (C := fun u l' => ∃ g_, u = .slice (some ⟨g_, 0, none⟩) 1 1 ∧ ∃ c_, c_ = ro 2 obC (.slice (some ⟨g_, 0, none⟩) 1 1) [((u81, y75.1.2), (u82, y75.2.2))] ∧ l' = [c_]) V V V V (ts2 (Sd t0) (Sa t0)) V (fun sx hx hF => lay_lit (vs := [.agg #[u81, u82]]) 2 V (parts1 t0) V Try.underlying34 (by kernel_rfl) (by decide) (by intro v hv; simp only [List.mem_cons, List.not_mem_nil, or_false] at hv; rcases hv with rfl <;> rfl) (by rfl)) (fun u83 l83 hu83 => ?_)
  obtain ⟨g83, rfl, c83, hc83, hl83⟩ := hu83
  refine D_eff V (ZS_eff S79 V V (fun s84 hJ84 hL84 hF84 => ?_))
  obtain ⟨ll81, ws81, we81, ⟨v_81q, hq81, c_81r, hc_81r, hl81r⟩, hm81, k81, e81⟩ := L.all_get (L.all_rest (L.all_rest hF84)); cases hq81; subst hl81r
  replace hJ84 := hJ84.add hL84 (i := 4) V hm81 k81 e81
  obtain ⟨ll82, ws82, we82, ⟨v_82q, hq82, c_82r, hc_82r, hl82r⟩, hm82, k82, e82⟩ := L.all_get (L.all_rest hF84); cases hq82; subst hl82r
  replace hJ84 := hJ84.add hL84 (i := 7) V hm82 k82 e82
  obtain ⟨ll83, ws83, we83, ⟨g83q, hq83, c83r, hc83r, hl83r⟩, hm83, k83, e83⟩ := L.all_get hF84; cases hq83; subst hl83r
  replace hJ84 := hJ84.add hL84 (i := 9) V hm83 k83 e83
  have S84 := hJ84.st; clear hF84 hJ84 hL84
  generalize s84.1 = w84 at *
  replace S84 : St w NoX [c83r, c_82r, c_81r, c79, c67_68, cb67_68, c66_68, c_68, c6_68, c60_68, c4_68] w84 := S84
  refine W_appS 2 6 S84 V hc66_68 V V V (Sh t0) t0 Try.underlying34 Try.underlying34 (z := .agg #[.slice none 0 0, .slice none 0 0]) (bytes := 48) (by kernel_rfl) V (by decide) (ow_at (S84.cq 0 hc83r)) (by intro u hu; simp only [List.flatMap_cons, List.flatMap_nil, obC, List.append_nil, List.cons_append, List.nil_append, List.mem_cons, List.not_mem_nil, or_false] at hu; rcases hu with rfl | rfl <;> first | exact SlN_one (ow_at (S84.cq 2 hc_81r)) | exact SlN_one (ow_at (S84.cq 1 hc_82r))) (by first | omega | (simp; done) | (simp; omega)) (by first | omega | (simp; done) | (simp; omega)) (fun v85 w85 c85 hc85 S85 => ?_)
  replace hc85 : c85 = ro 2 obC v85 (H ++ [((u81, y75.1.2), (u82, y75.2.2))]) := hc85.trans (app_eqR (by first | (simp; done) | (rw [List.take_of_length_le (l := List.drop _ _) (by rw [List.length_drop]; exact Nat.le_refl _)])))
  replace S85 : St w NoX [c83r, c_82r, c_81r, c79, c67_68, cb67_68, c85, c_68, c6_68, c60_68, c4_68] w85 := S85
  have S86 := S85.se [2, 4, 1, 5, 0, 3, 6, 7, 8, 9, 10] [c_81r, c67_68, c_82r, cb67_68, c83r, c79, c85, c_68, c6_68, c60_68, c4_68]
  rw [hc_81r, hc67_68, hc_82r, hcb67_68] at S86
  obtain ⟨c87, cb87, hc87, hcb87, S87⟩ := gen2 (nst_push (pv := u81) (ps := y75.1.2) (qv := u82) (qs := y75.2.2) (O := H) S86)
  replace hc87 : c87 = owl .i64 ((H ++ [((u81, y75.1.2), (u82, y75.2.2))]).map (·.1)) := hc87
  replace hcb87 : cb87 = owl .u64 ((H ++ [((u81, y75.1.2), (u82, y75.2.2))]).map (·.2)) := hcb87
  refine fa 0 (Sh (Sc (fg6 F80))) (xsC7 (zs' := #[v85, v_59]) S87 hc60_68 V V V t0 (Sa t0) (SlN_one (ow_at (S87.cq 4 hc85))) (fun w88 c88 hc88 S88 => W_end (Qo_normal (en (Qd (Qh F80)) fun A89 _ F89 => ?_))))
  have S90 := S88.se [0, 1, 4, 5, 6, 7, 8] [c87, cb87, c85, c_68, c6_68, c88, c4_68]
  refine inb_n (tk H73 (region_in (ad (fg1 F89) V (vm t0 (W_end (en (Ka (Qa (fx1 F89))) fun A91 hsz91 F91 => then_n ⟨G.1.2.length - (k + 1), by simp only [hm68]; omega, hsz91, F91.d, (k + 1), v85, (H ++ [((u81, y75.1.2), (u82, y75.2.2))]), rfl, (by omega), (mp_snoc hH hy75 V), (((fg0 F91)).trans (by first | rfl | (simp; done) | (congr 1; omega))), (((fg7 F91)).trans (fg13 F64).symm), (((fg6 F91)).trans (fg12 F64).symm), (((fg5 F91)).trans (fg11 F64).symm), (((fg4 F91)).trans (fg10 F64).symm), (((fg3 F91)).trans (fg2 F64).symm), (((fg2 F91)).trans (fg1 F64).symm), (by subst hc87 hcb87 hc85 hc_68 hc6_68 hc88 hc4_68; exact S90)⟩))))))
 have hHO := mp_done hH (by omega)
 have hsm : SM (H.map ab) := by rw [hHO]; exact hsm
 have hop : opE (⟨kd, a, b, f, p, q, uu⟩ : OpC) = 0 := by omega
 have hlg := lg_rng (C := C) (N := N) (Z := Z) (K := K) (Q := Q)
 refine wp_exit (then_exit (then_exit (inb_hit (ta H62 fun _ H92 => (ra (fg5 F70) (S68.ob 5 hc60_68) (vm (Sa (fg3 F70)) (wv (V_bld (cs := #[hv, v_59, .int .i64 ((lgN C N Z K Q))]) V (parts2 (Sa t0) t0) (by kernel_rfl)) (wB (#[hv, v_59, .int .i64 ((lgN C N Z K Q))]) S68 t0 (fun g93 w93 c93 hc93 S93 => ?_)))))))))
 replace S93 : St w NoX [c93, c67_68, cb67_68, c66_68, c_68, c6_68, c60_68, c4_68] w93 := S93
 refine vt (W_end (en (Ka (Qd F70)) fun A94 _ F94 => ta H92 fun _ H95 => (vm (fg0 F94) (ra (Sa (fg7 F94)) (S93.ob 7 hc4_68) ?_))))
 have S96 := S93.se [3, 1, 2, 4, 0, 5, 6, 7] [c66_68, c67_68, cb67_68, c_68, c93, c6_68, c60_68, c4_68]
 rw [hc66_68, hc67_68, hcb67_68, hc_68] at S96
 obtain ⟨c97, hc97, S97⟩ := gen1 (gl_of (hv := hv) (H := H) (qv := v_59) (q := G.2.2) S96)
 replace S97 : St w NoX [c97, c93, c6_68, c60_68, c4_68] w93 := S97
 have S98 := S97.se [1, 0, 2, 3, 4] [c93, c97, c6_68, c60_68, c4_68]
 obtain ⟨Y99, hP99, hR99, hF99, hB99⟩ := St.call (pre := [c93]) (fr := [c97, c6_68, c60_68, c4_68]) S98
 rw [hc93] at hP99
 refine W_call V V V Try.func30 (by kernel_rfl) V (args2 (Sa t0) t0) (kdo_c (G := ((hv, H), (v_59, G.2.2))) (kd := kd) (a := a) (b := b) (f := f) (p := p) (q := q) (uu := uu) (gl_mk (gl_oaR m1 (hc97 ▸ hF99 0 _ V)) (gl_naR m1 (hc97 ▸ hF99 0 _ V)) (gl_raR m1 (hc97 ▸ hF99 0 _ V))) hP99 (by first | with_reducible assumption | exact hsm) (by first | with_reducible assumption | omega) (by first | with_reducible assumption)) ?_
 rintro _ w100 ⟨Gx_100, Gn_100, rfl, hg_100, hm_100, hP100⟩
 refine ⟨_, rfl, ?_⟩
 obtain ⟨cB_100, cK_100, hcB_100, hcK_100, hP100⟩ := gen2 hP100
 have S100 := (hB99 _ _ hP100).a2
 have hgab : gab ((hv, H), (v_59, G.2.2)) = gab G := Prod.ext hHO V
 have S101 := S100.se [2, 1, 0, 3, 4, 5] [c97, cK_100, cB_100, c6_68, c60_68, c4_68]
 rw [hc97, hcK_100] at S101
 obtain ⟨c102, hc102, S102⟩ := gen1 (gl_app (L := [((hv, H), (v_59, G.2.2))]) (M := Gn_100) S101)
 replace S102 : St w NoX [c102, cB_100, c6_68, c60_68, c4_68] w100 := S102
 refine xsA2 S102 hc6_68 V V V (Sc (fg5 F94)) t0 (fun w103 c103 hc103 S103 => W_end (en (Qc F94) fun A104 hsz104 F104 => ?_))
 have S105 := S103.se [0, 1, 2, 3] [c102, cB_100, c103, c60_68]
 refine tc H95 fun _ H106 => region_anyQ (by kernel_rfl) 8 V (fun w227 hx227 => ?_)
 have S227 := S105.grow hx227
 refine AX_parL (l0 := [c102, cB_100, c103, c60_68]) (k := 0) [⟨[], [], [82], fun vs => [], fun vs => (vs.getD 0 undef) = .pointer (some ⟨g93, 0, none⟩)⟩, ⟨[], [], [83], fun vs => [], fun vs => (vs.getD 0 undef) = .pointer (some ⟨g93, 0, none⟩)⟩, ⟨[], [], [84], fun vs => [], fun vs => (vs.getD 0 undef) = .pointer (some ⟨g93, 0, none⟩)⟩, ⟨[1], [], [85], fun vs => [], fun vs => (vs.getD 0 undef) = .agg #[Gx_100.1.1, Gx_100.2.1]⟩, ⟨[2], [], [86], fun vs => [], fun vs => (vs.getD 0 undef) = .agg #[.int .i64 ((doG (lgN C N Z K Q) (gab ((hv, H), (v_59, G.2.2))) (⟨kd, a, b, f, p, q, uu⟩ : OpC)).2.e), .bool ((doG (lgN C N Z K Q) (gab ((hv, H), (v_59, G.2.2))) (⟨kd, a, b, f, p, q, uu⟩ : OpC)).2.t), .int .u64 ((doG (lgN C N Z K Q) (gab ((hv, H), (v_59, G.2.2))) (⟨kd, a, b, f, p, q, uu⟩ : OpC)).2.v)]⟩, ⟨[0], [3], [], fun vs => [bx g5 36 #[Gx_100.1.1, Gx_100.2.1]], fun vs => True⟩, ⟨[], [2], [], fun vs => [bx g6 44 #[.int .i64 ((doG (lgN C N Z K Q) (gab ((hv, H), (v_59, G.2.2))) (⟨kd, a, b, f, p, q, uu⟩ : OpC)).2.e), .bool ((doG (lgN C N Z K Q) (gab ((hv, H), (v_59, G.2.2))) (⟨kd, a, b, f, p, q, uu⟩ : OpC)).2.t), .int .u64 ((doG (lgN C N Z K Q) (gab ((hv, H), (v_59, G.2.2))) (⟨kd, a, b, f, p, q, uu⟩ : OpC)).2.v)]], fun vs => True⟩, ⟨[], [], [8], fun vs => [], fun vs => (vs.getD 0 undef) = .int .i64 0⟩] [c102, cB_100, c103, c60_68] S227 V (by kernel_rfl) V ⟨?_, ?_, ?_, ?_, ?_, ?_, ?_, ?_, trivial⟩ ?_
 ·refine stepI [] (fun vs => []) V (fun a => by kernel_rfl) ?_
  intro A228 w228 rst hFr hF S228
  replace S228 : St w NoX [rst] w228 := S228
  have hsz228 : SzN A228 87 := ⟨hFr.sz.trans hsz104.out⟩
  have hdf228 : A228.defers = [] := hFr.df.trans F104.d
  have l15_228 := (oldS hFr 15 (by kernel_rfl)).trans (fg0 F104)
  refine vm l15_228 (W_end (kq _ ?_))
  exact ⟨_, [.pointer (some ⟨g93, 0, none⟩)], rfl, ts1 (et V), rfl, rfl, S228⟩
 ·refine stepI [] (fun vs => []) V (fun a => by kernel_rfl) ?_
  intro A229 w229 rst hFr hF S229
  replace S229 : St w NoX [rst] w229 := S229
  have f82_229 : EV A229 (.tmp 82) = .pointer (some ⟨g93, 0, none⟩) := hF 0 (by kernel_rfl)
  generalize q82_229 : EV A229 (.tmp 82) = us82 at S229 f82_229
  have l82_229 := q82_229.trans f82_229
  have hsz229 : SzN A229 87 := ⟨hFr.sz.trans hsz104.out⟩
  have hdf229 : A229.defers = [] := hFr.df.trans F104.d
  refine ni l82_229 (W_end (kq _ ?_))
  subst q82_229
  exact ⟨_, [.pointer (some ⟨g93, 0, none⟩)], rfl, ts1 (et V), rfl, rfl, S229⟩
 ·refine stepI [] (fun vs => []) V (fun a => by kernel_rfl) ?_
  intro A230 w230 rst hFr hF S230
  replace S230 : St w NoX [rst] w230 := S230
  have f83_230 : EV A230 (.tmp 83) = .pointer (some ⟨g93, 0, none⟩) := hF 1 (by kernel_rfl)
  generalize q83_230 : EV A230 (.tmp 83) = us83 at S230 f83_230
  have l83_230 := q83_230.trans f83_230
  have hsz230 : SzN A230 87 := ⟨hFr.sz.trans hsz104.out⟩
  have hdf230 : A230.defers = [] := hFr.df.trans F104.d
  refine fa 0 l83_230 (W_end (kq _ ?_))
  subst q83_230
  exact ⟨_, [.pointer (some ⟨g93, 0, none⟩)], rfl, ts1 (et V), rfl, rfl, S230⟩
 ·refine stepI [] (fun vs => [cB_100]) V (fun a => by kernel_rfl) ?_
  intro A231 w231 rst hFr hF S231
  replace S231 : St w NoX [cB_100, rst] w231 := S231
  have f84_231 : EV A231 (.tmp 84) = .pointer (some ⟨g93, 0, none⟩) := hF 2 (by kernel_rfl)
  generalize q84_231 : EV A231 (.tmp 84) = us84 at S231 f84_231
  have l84_231 := q84_231.trans f84_231
  have hsz231 : SzN A231 87 := ⟨hFr.sz.trans hsz104.out⟩
  have hdf231 : A231.defers = [] := hFr.df.trans F104.d
  obtain ⟨cB_231, hcB_231, S231⟩ := gen1 S231
  replace hcB_231 := hcB_231.trans hcB_100
  refine wr (VR_ldP (ys := [Gx_100.1.1, Gx_100.2.1]) V l84_231 (S231.ob 0 hcB_231) (ldP_at V) Try.underlying36 V (by kernel_rfl)) (W_end (kq _ ?_))
  subst q84_231
  exact ⟨_, [.agg #[Gx_100.1.1, Gx_100.2.1]], rfl, ts1 (et V), rfl, rfl, by subst hcB_231 hcB_100; exact S231⟩
 ·refine stepI [] (fun vs => [c103]) V (fun a => by kernel_rfl) ?_
  intro A232 w232 rst hFr hF S232
  replace S232 : St w NoX [c103, rst] w232 := S232
  have hsz232 : SzN A232 87 := ⟨hFr.sz.trans hsz104.out⟩
  have hdf232 : A232.defers = [] := hFr.df.trans F104.d
  have l7_232 := (oldS hFr 7 (by kernel_rfl)).trans (fg5 F104)
  obtain ⟨c103_232, hc103_232, S232⟩ := gen1 S232
  replace hc103_232 := hc103_232.trans hc103
  refine ra l7_232 (S232.ob 0 hc103_232) (W_end (kq _ ?_))
  exact ⟨_, [.agg #[.int .i64 ((doG (lgN C N Z K Q) (gab ((hv, H), (v_59, G.2.2))) (⟨kd, a, b, f, p, q, uu⟩ : OpC)).2.e), .bool ((doG (lgN C N Z K Q) (gab ((hv, H), (v_59, G.2.2))) (⟨kd, a, b, f, p, q, uu⟩ : OpC)).2.t), .int .u64 ((doG (lgN C N Z K Q) (gab ((hv, H), (v_59, G.2.2))) (⟨kd, a, b, f, p, q, uu⟩ : OpC)).2.v)]], rfl, ts1 (et V), rfl, rfl, by subst hc103_232 hc103; exact S232⟩
 ·refine stepI [] (fun vs => [c102, c60_68]) V (fun a => by kernel_rfl) ?_
  intro A233 w233 rst hFr hF S233
  replace S233 : St w NoX [c102, c60_68, rst] w233 := S233
  have f85_233 : EV A233 (.tmp 85) = .agg #[Gx_100.1.1, Gx_100.2.1] := hF 3 (by kernel_rfl)
  generalize q85_233 : EV A233 (.tmp 85) = us85 at S233 f85_233
  have l85_233 := q85_233.trans f85_233
  have hsz233 : SzN A233 87 := ⟨hFr.sz.trans hsz104.out⟩
  have hdf233 : A233.defers = [] := hFr.df.trans F104.d
  have l6_233 := (oldS hFr 6 (by kernel_rfl)).trans (fg6 F104)
  obtain ⟨c102_233, c60_233, hc102_233, hc60_233, S233⟩ := gen2 S233
  replace hc102_233 := hc102_233.trans hc102
  replace hc60_233 := hc60_233.trans hc60_68
  refine xsB 1 S233 V hc60_233 V V V l6_233 l85_233 (by simp only [List.all_toArray, List.all_cons, List.all_nil, obC, SlN_one (sl_SlN (gl_oa (gm_mem m1 hm_100) (S233.cq 0 hc102_233))), SlN_one (sl_SlN (gl_ra (gm_mem m1 hm_100) (S233.cq 0 hc102_233)))] <;> rfl) (fun w234 c234 hc234 S234 => ?_)
  replace S234 : St w NoX (c102_233 :: c234 :: [rst]) w234 := S234
  refine W_end (kq _ ?_)
  subst q85_233
  exact ⟨undef, [], rfl, rfl, trivial, rfl, by subst hc102_233 hc234 hc102 hc60_68; exact S234⟩
 ·refine stepI [] (fun vs => [c103]) V (fun a => by kernel_rfl) ?_
  intro A235 w235 rst hFr hF S235
  replace S235 : St w NoX [c103, rst] w235 := S235
  have f86_235 : EV A235 (.tmp 86) = .agg #[.int .i64 ((doG (lgN C N Z K Q) (gab ((hv, H), (v_59, G.2.2))) (⟨kd, a, b, f, p, q, uu⟩ : OpC)).2.e), .bool ((doG (lgN C N Z K Q) (gab ((hv, H), (v_59, G.2.2))) (⟨kd, a, b, f, p, q, uu⟩ : OpC)).2.t), .int .u64 ((doG (lgN C N Z K Q) (gab ((hv, H), (v_59, G.2.2))) (⟨kd, a, b, f, p, q, uu⟩ : OpC)).2.v)] := hF 4 (by kernel_rfl)
  generalize q86_235 : EV A235 (.tmp 86) = us86 at S235 f86_235
  have l86_235 := q86_235.trans f86_235
  have hsz235 : SzN A235 87 := ⟨hFr.sz.trans hsz104.out⟩
  have hdf235 : A235.defers = [] := hFr.df.trans F104.d
  have l7_235 := (oldS hFr 7 (by kernel_rfl)).trans (fg5 F104)
  obtain ⟨c103_235, hc103_235, S235⟩ := gen1 S235
  replace hc103_235 := hc103_235.trans hc103
  refine xsA 0 S235 V hc103_235 V V V l7_235 l86_235 (fun w236 c236 hc236 S236 => ?_)
  replace S236 : St w NoX (c236 :: [rst]) w236 := S236
  refine W_end (kq _ ?_)
  subst q86_235
  exact ⟨undef, [], rfl, rfl, trivial, rfl, by subst hc236 hc103; exact S236⟩
 ·refine stepI [] (fun vs => []) V (fun a => by kernel_rfl) ?_
  intro A237 w237 rst hFr hF S237
  replace S237 : St w NoX [rst] w237 := S237
  have hsz237 : SzN A237 87 := ⟨hFr.sz.trans hsz104.out⟩
  have hdf237 : A237.defers = [] := hFr.df.trans F104.d
  refine vc (W_end (kq _ ?_))
  exact ⟨_, [.int .i64 0], rfl, ts1 (et V), rfl, rfl, S237⟩
 intro A238 w238 hFr hF S238
 replace S238 : St w NoX [c102, cB_100, bx g6 44 #[.int .i64 ((doG (lgN C N Z K Q) (gab ((hv, H), (v_59, G.2.2))) (⟨kd, a, b, f, p, q, uu⟩ : OpC)).2.e), .bool ((doG (lgN C N Z K Q) (gab ((hv, H), (v_59, G.2.2))) (⟨kd, a, b, f, p, q, uu⟩ : OpC)).2.t), .int .u64 ((doG (lgN C N Z K Q) (gab ((hv, H), (v_59, G.2.2))) (⟨kd, a, b, f, p, q, uu⟩ : OpC)).2.v)], bx g5 36 #[Gx_100.1.1, Gx_100.2.1]] w238 := S238.cast (by kernel_rfl)
 have f8_238 : EV A238 (.tmp 8) = .int .i64 0 := hF 7 (by decide)
 generalize q8_238 : EV A238 (.tmp 8) = us8 at S238 f8_238
 have l8_238 := q8_238.trans f8_238
 have hsz238 : SzN A238 87 := ⟨hFr.sz.trans hsz104.out⟩
 have hdf238 : A238.defers = [] := hFr.df.trans F104.d
 obtain ⟨c102_238, cB_238, c168_238, c167_238, hc102_238, hcB_238, hc168_238, hc167_238, S238⟩ := gen4 S238
 replace hc102_238 := hc102_238.trans hc102
 replace hcB_238 := hcB_238.trans hcB_100
 have l6_238 := (oldS hFr 6 (by kernel_rfl)).trans (fg6 F104)
 have l7_238 := (oldS hFr 7 (by kernel_rfl)).trans (fg5 F104)
 clear hsz104 F104 S105
 refine Qo_normal (tk H106 (wp_ret (ret_in (results_3 Try.results16 (rvA l6_238 (S238.ob 3 hc167_238)) (rvA l7_238 (S238.ob 2 hc168_238)) (rv_tmp l8_238)) hdf238 ?_)))
 rw [hc102_238] at S238
 obtain ⟨c239, hc239, S239⟩ := gen1 (gl_subS (M := [Gx_100]) S238 (fun G' hG' => by rw [List.mem_singleton] at hG'; subst hG'; exact gm_mem m1 hm_100))
 replace S239 : St w NoX [c239, cB_238, c168_238, c167_238] w238 := S239
 have h : (stE (cfE C N Z K Q) K (gab G) (⟨kd, a, b, f, p, q, uu⟩ : OpC)) = 0 := (st_op (g := gab G) c14 c27 c38).trans (by omega)
 have h2 := st_k (n := lgN C N Z K Q) h
 rw [h2.2, h]
 exact ⟨Gx_100.1.1, Gx_100.1.2, Gx_100.2.1, Gx_100.2.2, by rw [← hgab], by rw [h2.1, ← hgab]; exact hg_100, (S239.fin1 0 V (hc239))⟩

end Go.Proofs.Ytpgkfndbfocibaa