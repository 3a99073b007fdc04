import Derived.Test.YtpgkfndbfocibaaGreatProg
import Derived.Test.YtpgkfndbfocibaaGreatSqL
import Derived.Test.YtpgkfndbfocibaaGreatMs14
import Derived.Test.YtpgkfndbfocibaaGreatPl29j
namespace Go.Proofs.YtpgkfndbfocibaaGreat
open Go.RowKit Go.Own Go.Own.R Go.Own.G Go.Own.Gr Go.Own.Ml


set_option maxHeartbeats 4000000 in
theorem kjd_c {C N Z K Q : Int} {lv : Value} {os : List OpC} {av : Value} {ans : List AnC} {w : World} (h_lv : Ro w NoX (rl 7 opC lv os)) (h_av : Ro w NoX (rl 3 anC av ans)) (hvr : ∀ x ∈ ans, 0 ≤ x.v ∧ x.v ≤ 18446744073709551615) :
  Calls Tryz.prog 24 #[.agg #[.int .i64 C, .int .i64 N, .int .i64 Z, .int .i64 K, .int .i64 Q], lv, av] w fun e w' => (e = .returned (.tuple #[.slice none 0 0, .int .i64 (jdF (cfE C N Z K Q) (lgN C N Z K Q) K os ans).1, .int .i64 (jdF (cfE C N Z K Q) (lgN C N Z K Q) K os ans).2]) ∧ ((jdF (cfE C N Z K Q) (lgN C N Z K Q) K os ans).2 ≠ 0) ∧ St w NoX [] w') ∨ (∃ rw, e = .returned (.tuple #[rw, .int .i64 0, .int .i64 0]) ∧ ((jdF (cfE C N Z K Q) (lgN C N Z K Q) K os ans) = (0, 0)) ∧ St w NoX [io .i64 rw (jdL (cfE C N Z K Q) (lgN C N Z K Q) K os ans)] w') := by
 refine calls_inR 72 Tryz.func24 V V Zj (fun A0 Y0 hdf0 hargs => ?_)
 have l0_0 := hargs 0 (.agg #[.int .i64 C, .int .i64 N, .int .i64 Z, .int .i64 K, .int .i64 Q]) V
 have l1_0 := hargs 1 lv V
 have l2_0 := hargs 2 av V
 clear hargs; replace Y0 : SzN A0 72 := ⟨Y0⟩
 have hS := St.nil w
 have bh_lv := SlN.le (sl_SlN h_lv.at)
 have bh_av := SlN.le (sl_SlN h_av.at)
 refine R_seq (fun _ H1 => R_region om (wB (#[.int .i64 (C), .int .i64 (N), .int .i64 (Z), .int .i64 (K), .int .i64 (Q)]) hS l0_0 (fun g2 w2 c2 hc2 S2 => W_boxS (zs := #[av]) S2 V V V (Sa l2_0) (SlN_cells (sl_SlN h_av.at)) (fun g3 w3 c3 hc3 S3 => wZ (.slice none 0 0) S3 (fun g4 w4 c4 hc4 S4 => wZ (.int .i64 0) S4 (fun g5 w5 c5 hc5 S5 => wZ (.int .i64 0) S5 (fun g6 w6 c6 hc6 S6 => W_end (Qo_normal (en (((ck (ck (ck (ck (ck (FS.n hdf0) V V) V V) V V) V V) V V)).c (Se l1_0)) fun A7 _ F7 => tk H1 (R_seq (fun _ H8 => R_region om (ra (fg5 F7) (S6.ob 4 hc2) (vm (Sa (fg0 F7)) (wc (args2 (Sa t0) t0) (kbg_c (C := C) (N := N) (Z := Z) (K := K) (Q := Q) (S6.roC h_lv)) ?_))))))))))))))
 rintro _ w9 (⟨rfl, hz_9, hP9⟩ | ⟨gs_9, hv_9, H_9, qv_9, q_9, rfl, hz_9, hg_9, hP9⟩)
 ·refine ⟨_, rfl, ?_⟩
  have S9 := S6.j0 hP9
  refine vm t0 (vx (.pointer none) t0 (vx (.int .i64 ((scE (cfE C N Z K Q) os).1)) (Sa t0) (vx (.int .i64 ((scE (cfE C N Z K Q) os).2)) (Sb t0) (va (Sb t0) (xsC1 (zs' := #[.int .i64 ((scE (cfE C N Z K Q) os).1)]) S9 hc5 V V V (Sh (fg2 F7)) (Sb t0) Zd (fun w10 c10 hc10 S10 => xsC0 (zs' := #[.int .i64 ((scE (cfE C N Z K Q) os).2)]) S10 hc6 V V V (Sh (fg1 F7)) (Sa t0) Zd (fun w11 c11 hc11 S11 => W_end (Qo_normal (en (Ka (Qg F7)) fun A12 _ F12 => ?_)))))))))
  have S13 := S11.se [0, 1, 2, 3] [c11, c10, c4, c3]
  refine tk H8 (R_seq (fun _ H14 => R_block (R_seq (fun _ H15 => R_region om (rL (.int .i64 ((scE (cfE C N Z K Q) os).2)) (fg2 F12) (S13.ob 0 hc11) (vn t0 V (vt (W_end (Qo_normal (en (Ka (Qb F12)) fun A16 Y16 F16 => tk H15 (R_cond_sure (fg0 F16) (by rw [decide_eq_true_eq]; exact hz_9) (R_seq (fun _ H17 => join_R (R := fun A' w' => SzN A' 72 ∧ A'.defers = [] ∧ EV A' (.tmp 6) = EV A16 (.tmp 6) ∧ EV A' (.tmp 7) = EV A16 (.tmp 7) ∧ EV A' (.tmp 8) = EV A16 (.tmp 8) ∧ St w NoX [bx g6 32 #[.int .i64 ((scE (cfE C N Z K Q) os).2)], bx g5 3 #[.int .i64 ((scE (cfE C N Z K Q) os).1)], bx g4 25 #[.slice none 0 0]] w') ?_ ?_)))))))))))))
  ·refine R_any om om 5 V (fun w118 hx118 => ?_)
   have S118 := S13.grow hx118
   refine AX_3 (i := 0) (j := 1) (m := 2) om V V V ?_ ?_ ?_
   ·refine rL (.int .i64 ((scE (cfE C N Z K Q) os).1)) (fg4 F16) (S118.ob 1 hc10) (W_end (kq _ (AX_cast (l2 := #[true, false, false, false, false]) ?_ om)))
    refine AX_2 (i := 1) (j := 2) om V V ?_ ?_
    ·refine rL (.int .i64 ((scE (cfE C N Z K Q) os).2)) (Sa (fg3 F16)) (S118.ob 0 hc11) (W_end (kq _ (AX_cast (l2 := #[true, true, false, false, false]) ?_ om)))
     refine AX_1 (i := 2) om V (xsC (zs' := #[.slice none 0 0]) 2 S118 V hc4 V V V (Sb (fg5 F16)) V Zd (fun w119 c119 hc119 S119 => ?_))
     replace S119 : St w NoX [c11, c10, c119, c3] w119 := S119
     refine W_end (kq _ (AX_cast (l2 := #[true, true, true, false, false]) ?_ om))
     refine AX_1 (i := 3) om V (xsC1 (zs' := #[.int .i64 ((scE (cfE C N Z K Q) os).1)]) S119 hc10 V V V (Sb (fg4 F16)) (Sa t0) Zd (fun w120 c120 hc120 S120 => W_end (kq _ (AX_cast (l2 := #[true, true, true, true, false]) ?_ om))))
     refine AX_1 (i := 4) om V (xsC0 (zs' := #[.int .i64 ((scE (cfE C N Z K Q) os).2)]) S120 hc11 V V V (Sb (fg3 F16)) t0 Zd (fun w121 c121 hc121 S121 => W_end (kq _ (AX_cast (l2 := #[true, true, true, true, true]) ?_ om))))
     refine AX_end om (Qo_normal ?_)
     have S122 := S121.se [0, 1, 2] [c121, c120, c119]
     exact ⟨inferInstance, (by simp only [df_put]; exact F16.d), ((es2 V (fg5 F16)).trans (fg5 F16).symm), ((es2 V (fg4 F16)).trans (fg4 F16).symm), ((es2 V (fg3 F16)).trans (fg3 F16).symm), (by subst hc121 hc120 hc119; exact S122)⟩
    refine xsC (zs' := #[.slice none 0 0]) 2 S118 V hc4 V V V (Sa (fg5 F16)) V Zd (fun w123 c123 hc123 S123 => ?_)
    replace S123 : St w NoX [c11, c10, c123, c3] w123 := S123
    refine W_end (kq _ (AX_cast (l2 := #[true, false, true, false, false]) ?_ om))
    refine AX_2 (i := 1) (j := 3) om V V ?_ ?_
    ·refine rL (.int .i64 ((scE (cfE C N Z K Q) os).2)) (Sa (fg3 F16)) (S123.ob 0 hc11) (W_end (kq _ (AX_cast (l2 := #[true, true, true, false, false]) ?_ om)))
     refine AX_1 (i := 3) om V (xsC1 (zs' := #[.int .i64 ((scE (cfE C N Z K Q) os).1)]) S123 hc10 V V V (Sb (fg4 F16)) (Sa t0) Zd (fun w124 c124 hc124 S124 => W_end (kq _ (AX_cast (l2 := #[true, true, true, true, false]) ?_ om))))
     refine AX_1 (i := 4) om V (xsC0 (zs' := #[.int .i64 ((scE (cfE C N Z K Q) os).2)]) S124 hc11 V V V (Sb (fg3 F16)) t0 Zd (fun w125 c125 hc125 S125 => W_end (kq _ (AX_cast (l2 := #[true, true, true, true, true]) ?_ om))))
     refine AX_end om (Qo_normal ?_)
     have S126 := S125.se [0, 1, 2] [c125, c124, c123]
     exact ⟨inferInstance, (by simp only [df_put]; exact F16.d), ((es2 V (fg5 F16)).trans (fg5 F16).symm), ((es2 V (fg4 F16)).trans (fg4 F16).symm), ((es2 V (fg3 F16)).trans (fg3 F16).symm), (by subst hc125 hc124 hc123; exact S126)⟩
    refine xsC1 (zs' := #[.int .i64 ((scE (cfE C N Z K Q) os).1)]) S123 hc10 V V V (Sa (fg4 F16)) t0 Zd (fun w127 c127 hc127 S127 => W_end (kq _ (AX_cast (l2 := #[true, false, true, true, false]) ?_ om)))
    refine AX_1 (i := 1) om V (rL (.int .i64 ((scE (cfE C N Z K Q) os).2)) (Sa (fg3 F16)) (S127.ob 0 hc11) (W_end (kq _ (AX_cast (l2 := #[true, true, true, true, false]) ?_ om))))
    refine AX_1 (i := 4) om V (xsC0 (zs' := #[.int .i64 ((scE (cfE C N Z K Q) os).2)]) S127 hc11 V V V (Sb (fg3 F16)) t0 Zd (fun w128 c128 hc128 S128 => W_end (kq _ (AX_cast (l2 := #[true, true, true, true, true]) ?_ om))))
    refine AX_end om (Qo_normal ?_)
    have S129 := S128.se [0, 1, 2] [c128, c127, c123]
    exact ⟨inferInstance, (by simp only [df_put]; exact F16.d), ((es2 V (fg5 F16)).trans (fg5 F16).symm), ((es2 V (fg4 F16)).trans (fg4 F16).symm), ((es2 V (fg3 F16)).trans (fg3 F16).symm), (by subst hc128 hc127 hc123; exact S129)⟩
   ·refine rL (.int .i64 ((scE (cfE C N Z K Q) os).2)) (fg3 F16) (S118.ob 0 hc11) (W_end (kq _ (AX_cast (l2 := #[false, true, false, false, false]) ?_ om)))
    refine AX_2 (i := 0) (j := 2) om V V ?_ ?_
    ·refine rL (.int .i64 ((scE (cfE C N Z K Q) os).1)) (Sa (fg4 F16)) (S118.ob 1 hc10) (W_end (kq _ (AX_cast (l2 := #[true, true, false, false, false]) ?_ om)))
     refine AX_1 (i := 2) om V (xsC (zs' := #[.slice none 0 0]) 2 S118 V hc4 V V V (Sb (fg5 F16)) V Zd (fun w130 c130 hc130 S130 => ?_))
     replace S130 : St w NoX [c11, c10, c130, c3] w130 := S130
     refine W_end (kq _ (AX_cast (l2 := #[true, true, true, false, false]) ?_ om))
     refine AX_1 (i := 3) om V (xsC1 (zs' := #[.int .i64 ((scE (cfE C N Z K Q) os).1)]) S130 hc10 V V V (Sb (fg4 F16)) t0 Zd (fun w131 c131 hc131 S131 => W_end (kq _ (AX_cast (l2 := #[true, true, true, true, false]) ?_ om))))
     refine AX_1 (i := 4) om V (xsC0 (zs' := #[.int .i64 ((scE (cfE C N Z K Q) os).2)]) S131 hc11 V V V (Sb (fg3 F16)) (Sa t0) Zd (fun w132 c132 hc132 S132 => W_end (kq _ (AX_cast (l2 := #[true, true, true, true, true]) ?_ om))))
     refine AX_end om (Qo_normal ?_)
     have S133 := S132.se [0, 1, 2] [c132, c131, c130]
     exact ⟨inferInstance, (by simp only [df_put]; exact F16.d), ((es2 V (fg5 F16)).trans (fg5 F16).symm), ((es2 V (fg4 F16)).trans (fg4 F16).symm), ((es2 V (fg3 F16)).trans (fg3 F16).symm), (by subst hc132 hc131 hc130; exact S133)⟩
    refine xsC (zs' := #[.slice none 0 0]) 2 S118 V hc4 V V V (Sa (fg5 F16)) V Zd (fun w134 c134 hc134 S134 => ?_)
    replace S134 : St w NoX [c11, c10, c134, c3] w134 := S134
    refine W_end (kq _ (AX_cast (l2 := #[false, true, true, false, false]) ?_ om))
    refine AX_1 (i := 0) om V (rL (.int .i64 ((scE (cfE C N Z K Q) os).1)) (Sa (fg4 F16)) (S134.ob 1 hc10) (W_end (kq _ (AX_cast (l2 := #[true, true, true, false, false]) ?_ om))))
    refine AX_1 (i := 3) om V (xsC1 (zs' := #[.int .i64 ((scE (cfE C N Z K Q) os).1)]) S134 hc10 V V V (Sb (fg4 F16)) t0 Zd (fun w135 c135 hc135 S135 => W_end (kq _ (AX_cast (l2 := #[true, true, true, true, false]) ?_ om))))
    refine AX_1 (i := 4) om V (xsC0 (zs' := #[.int .i64 ((scE (cfE C N Z K Q) os).2)]) S135 hc11 V V V (Sb (fg3 F16)) (Sa t0) Zd (fun w136 c136 hc136 S136 => W_end (kq _ (AX_cast (l2 := #[true, true, true, true, true]) ?_ om))))
    refine AX_end om (Qo_normal ?_)
    have S137 := S136.se [0, 1, 2] [c136, c135, c134]
    exact ⟨inferInstance, (by simp only [df_put]; exact F16.d), ((es2 V (fg5 F16)).trans (fg5 F16).symm), ((es2 V (fg4 F16)).trans (fg4 F16).symm), ((es2 V (fg3 F16)).trans (fg3 F16).symm), (by subst hc136 hc135 hc134; exact S137)⟩
   refine xsC (zs' := #[.slice none 0 0]) 2 S118 V hc4 V V V (fg5 F16) V Zd (fun w138 c138 hc138 S138 => ?_)
   replace S138 : St w NoX [c11, c10, c138, c3] w138 := S138
   refine W_end (kq _ (AX_cast (l2 := #[false, false, true, false, false]) ?_ om))
   refine AX_2 (i := 0) (j := 1) om V V ?_ ?_
   ·refine rL (.int .i64 ((scE (cfE C N Z K Q) os).1)) (fg4 F16) (S138.ob 1 hc10) (W_end (kq _ (AX_cast (l2 := #[true, false, true, false, false]) ?_ om)))
    refine AX_2 (i := 1) (j := 3) om V V ?_ ?_
    ·refine rL (.int .i64 ((scE (cfE C N Z K Q) os).2)) (Sa (fg3 F16)) (S138.ob 0 hc11) (W_end (kq _ (AX_cast (l2 := #[true, true, true, false, false]) ?_ om)))
     refine AX_1 (i := 3) om V (xsC1 (zs' := #[.int .i64 ((scE (cfE C N Z K Q) os).1)]) S138 hc10 V V V (Sb (fg4 F16)) (Sa t0) Zd (fun w139 c139 hc139 S139 => W_end (kq _ (AX_cast (l2 := #[true, true, true, true, false]) ?_ om))))
     refine AX_1 (i := 4) om V (xsC0 (zs' := #[.int .i64 ((scE (cfE C N Z K Q) os).2)]) S139 hc11 V V V (Sb (fg3 F16)) t0 Zd (fun w140 c140 hc140 S140 => W_end (kq _ (AX_cast (l2 := #[true, true, true, true, true]) ?_ om))))
     refine AX_end om (Qo_normal ?_)
     have S141 := S140.se [0, 1, 2] [c140, c139, c138]
     exact ⟨inferInstance, (by simp only [df_put]; exact F16.d), ((es2 V (fg5 F16)).trans (fg5 F16).symm), ((es2 V (fg4 F16)).trans (fg4 F16).symm), ((es2 V (fg3 F16)).trans (fg3 F16).symm), (by subst hc140 hc139 hc138; exact S141)⟩
    refine xsC1 (zs' := #[.int .i64 ((scE (cfE C N Z K Q) os).1)]) S138 hc10 V V V (Sa (fg4 F16)) t0 Zd (fun w142 c142 hc142 S142 => W_end (kq _ (AX_cast (l2 := #[true, false, true, true, false]) ?_ om)))
    refine AX_1 (i := 1) om V (rL (.int .i64 ((scE (cfE C N Z K Q) os).2)) (Sa (fg3 F16)) (S142.ob 0 hc11) (W_end (kq _ (AX_cast (l2 := #[true, true, true, true, false]) ?_ om))))
    refine AX_1 (i := 4) om V (xsC0 (zs' := #[.int .i64 ((scE (cfE C N Z K Q) os).2)]) S142 hc11 V V V (Sb (fg3 F16)) t0 Zd (fun w143 c143 hc143 S143 => W_end (kq _ (AX_cast (l2 := #[true, true, true, true, true]) ?_ om))))
    refine AX_end om (Qo_normal ?_)
    have S144 := S143.se [0, 1, 2] [c143, c142, c138]
    exact ⟨inferInstance, (by simp only [df_put]; exact F16.d), ((es2 V (fg5 F16)).trans (fg5 F16).symm), ((es2 V (fg4 F16)).trans (fg4 F16).symm), ((es2 V (fg3 F16)).trans (fg3 F16).symm), (by subst hc143 hc142 hc138; exact S144)⟩
   refine rL (.int .i64 ((scE (cfE C N Z K Q) os).2)) (fg3 F16) (S138.ob 0 hc11) (W_end (kq _ (AX_cast (l2 := #[false, true, true, false, false]) ?_ om)))
   refine AX_1 (i := 0) om V (rL (.int .i64 ((scE (cfE C N Z K Q) os).1)) (Sa (fg4 F16)) (S138.ob 1 hc10) (W_end (kq _ (AX_cast (l2 := #[true, true, true, false, false]) ?_ om))))
   refine AX_1 (i := 3) om V (xsC1 (zs' := #[.int .i64 ((scE (cfE C N Z K Q) os).1)]) S138 hc10 V V V (Sb (fg4 F16)) t0 Zd (fun w145 c145 hc145 S145 => W_end (kq _ (AX_cast (l2 := #[true, true, true, true, false]) ?_ om))))
   refine AX_1 (i := 4) om V (xsC0 (zs' := #[.int .i64 ((scE (cfE C N Z K Q) os).2)]) S145 hc11 V V V (Sb (fg3 F16)) (Sa t0) Zd (fun w146 c146 hc146 S146 => W_end (kq _ (AX_cast (l2 := #[true, true, true, true, true]) ?_ om))))
   refine AX_end om (Qo_normal ?_)
   have S147 := S146.se [0, 1, 2] [c146, c145, c138]
   exact ⟨inferInstance, (by simp only [df_put]; exact F16.d), ((es2 V (fg5 F16)).trans (fg5 F16).symm), ((es2 V (fg4 F16)).trans (fg4 F16).symm), ((es2 V (fg3 F16)).trans (fg3 F16).symm), (by subst hc146 hc145 hc138; exact S147)⟩
  rintro A148 w148 ⟨Y148, hdf148, u6_148, u7_148, u8_148, S148⟩
  have l6_148 := u6_148.trans (fg5 F16)
  have l7_148 := u7_148.trans (fg4 F16)
  have l8_148 := u8_148.trans (fg3 F16)
  clear Y16 F16 S13
  obtain ⟨c20_148, c19_148, c18_148, hc20_148, hc19_148, hc18_148, S148⟩ := gen3 S148
  refine tk H17 (R_ret (inb_ret (then_ret (ret_inR0 (results_3 Tryz.results24 (rvC l6_148 (cell_box (S148.ob 2 hc18_148) V)) (rvC l7_148 (cell_box (S148.ob 1 hc19_148) V)) (rvC l8_148 (cell_box (S148.ob 0 hc20_148) V))) hdf148 ?_))))
  have h : (jdF (cfE C N Z K Q) (lgN C N Z K Q) K os ans) = ((scE (cfE C N Z K Q) os).1, (scE (cfE C N Z K Q) os).2) := jd_sc hz_9
  rw [h]
  exact .inl ⟨rfl, hz_9, S148.fin0⟩
 refine ⟨_, rfl, ?_⟩
 obtain ⟨cB_9, cK_9, hcB_9, hcK_9, hP9⟩ := gen2 hP9
 have S9 := S6.j2 hP9
 obtain ⟨hcf, hl2, hops, hsz⟩ := sc_inv (cf := (cfE C N Z K Q)) (l := os) (by rw [hz_9])
 have hsm0 : SM (gab ((hv_9, H_9), (qv_9, q_9))).1 := by rw [hg_9]; exact SM_nil
 have hgK : gab ((hv_9, H_9), (qv_9, q_9)) = g00 K := hg_9
 refine vm t0 (vx (.pointer (some ⟨gs_9, 0, none⟩)) t0 (vx (.int .i64 0) (Sa t0) (vx (.int .i64 0) (Sb t0) (va (Sb t0) (xsC3 (zs' := #[.int .i64 0]) S9 hc5 V V V (Sh (fg2 F7)) (Sb t0) Zd (fun w149 c149 hc149 S149 => xsC2 (zs' := #[.int .i64 0]) S149 hc6 V V V (Sh (fg1 F7)) (Sa t0) Zd (fun w150 c150 hc150 S150 => W_end (Qo_normal (en (Ka (Qg F7)) fun A151 _ F151 => ?_)))))))))
 have S152 := S150.se [0, 1, 2, 3, 4, 5] [cB_9, cK_9, c150, c149, c4, c3]
 refine tk H8 (R_seq (fun _ H153 => R_block (R_seq (fun _ H154 => R_region om (rL (.int .i64 0) (fg2 F151) (S152.ob 2 hc150) (vn t0 V (vt (W_end (Qo_normal (en (Ka (Qb F151)) fun A155 _ F155 => tk H154 (R_cond_not (fg0 F155) Zg (R_seq (fun _ H156 => R_region om (rL av (fg6 F155) (S152.ob 5 hc3) (le_ t0 (sl_SlN h_av.at) (vm (Sb (fg2 F155)) (le_ t0 (sl_SlN h_lv.at) (vn (Sb t0) t0 (vt (W_end (Qo_normal (en (Ka (Qe F155)) fun A157 _ F157 => tk H156 (R_cond_dec (fg0 F157) (fun c158 => ?_) (fun c158 => ?_))))))))))))))))))))))))
 ·refine R_seq (fun _ H159 => R_region om (xsC4 (zs' := #[.slice none 0 0]) S152 hc4 V V V (fg6 F157) V Zd (fun w160 c160 hc160 S160 => xsC3 (zs' := #[.int .i64 (-1)]) S160 hc149 V V V (fg5 F157) V Zd (fun w161 c161 hc161 S161 => xsC2 (zs' := #[.int .i64 6]) S161 hc150 V V V (fg4 F157) V Zd (fun w162 c162 hc162 S162 => W_end (Qo_normal (tk H159 (R_ret (inb_ret (then_ret (ret_inR0 (results_3 Tryz.results24 (rvC (fg6 F157) (cell_box (S162.ob 4 hc160) V)) (rvC (fg5 F157) (cell_box (S162.ob 3 hc161) V)) (rvC (fg4 F157) (cell_box (S162.ob 2 hc162) V))) F157.d ?_)))))))))))
  have h : (jdF (cfE C N Z K Q) (lgN C N Z K Q) K os ans) = ((-1), 6) := jd_len hsz Za
  rw [h]
  exact .inl ⟨rfl, by decide, S162.fin0⟩
 refine R_skip (inb_n (tk H153 (R_seq (fun _ H163 => R_seq (fun _ H164 => R_region om (vm (fg3 F157) (le_ t0 (sl_SlN h_lv.at) (vm V (W_end (Qo_normal (en (Kc F157) fun A165 Y165 F165 => tk H164 (R_block ?_))))))))))))
 -- loop 7
 refine R_loop (fun mz A' w' => SzN A' 72 ∧ A'.defers = [] ∧ (∃ (k : Nat), (mz = os.length - k) ∧ (k ≤ os.length) ∧ (ckA 0 os ans = ckA k (os.drop k) (ans.drop k)) ∧ (EV A' (.tmp 35) = .int .i64 (k : Int)) ∧ (EV A' (.tmp 1) = EV A165 (.tmp 1)) ∧ (EV A' (.tmp 5) = EV A165 (.tmp 5)) ∧ (EV A' (.tmp 6) = EV A165 (.tmp 6)) ∧ (EV A' (.tmp 7) = EV A165 (.tmp 7)) ∧ (EV A' (.tmp 8) = EV A165 (.tmp 8)) ∧ (EV A' (.tmp 9) = EV A165 (.tmp 9)) ∧ (EV A' (.tmp 33) = EV A165 (.tmp 33)) ∧ (EV A' (.tmp 34) = EV A165 (.tmp 34)) ∧ (St w NoX [bx gs_9 77 #[hv_9, qv_9, .int .i64 (lgN C N Z K Q)], gls [((hv_9, H_9), (qv_9, q_9))], bx g6 32 #[.int .i64 0], bx g5 3 #[.int .i64 0], bx g4 25 #[.slice none 0 0], bx g3 31 #[av]] w'))) (os.length - 0) ⟨Y165, F165.d, 0, rfl, Za, rfl, ((fg0 F165).trans (by first | rfl | (simp; done) | (congr 1; omega))), rfl, rfl, rfl, rfl, rfl, rfl, rfl, rfl, (by subst hcB_9 hcK_9 hc150 hc149 hc4 hc3; exact S152)⟩ ?_
 clear S152 hcB_9 hcK_9 hc150 hc149 hc4 hc3
 rintro n166 A166 w166 ⟨Y166, hdf166, k, hm166, hk, hja, l35_166, u1_166, u5_166, u6_166, u7_166, u8_166, u9_166, u33_166, u34_166, S166⟩
 have l1_166 := u1_166.trans (fg6 F165)
 have l5_166 := u5_166.trans (fg10 F165)
 have l6_166 := u6_166.trans (fg9 F165)
 have l7_166 := u7_166.trans (fg8 F165)
 have l8_166 := u8_166.trans (fg7 F165)
 have l9_166 := u9_166.trans (fg5 F165)
 have l33_166 := u33_166.trans (fg2 F165)
 have l34_166 := u34_166.trans (fg1 F165)
 obtain ⟨cB_166, cK_166, c150_166, c149_166, c4_166, c3_166, hcB_166, hcK_166, hc150_166, hc149_166, hc4_166, hc3_166, S166⟩ := gen6 S166
 refine R_seq (fun _ H167 => R_region om (vl l35_166 l34_166 (W_end (Qo_normal (en (((((((((((ck (FS.n hdf166) V V)).c (es V l1_166)).c (es V l5_166)).c (es V l6_166)).c (es V l7_166)).c (es V l8_166)).c (es V l9_166)).c (es V l33_166)).c (es V l34_166)).c (Sa l35_166)) fun A168 _ F168 => tk H167 (R_seq (fun _ H169 => R_cond_dec (fg9 F168) (fun c170 => ?_) (fun c170 => ?_))))))))
 ·refine R_skip (tk H169 (R_seq (fun _ H171 => R_block (R_seq (fun _ H172 => R_region om (vm (fg0 F168) ?_))))))
  have k173 : k < os.length := by first | omega | (simp only [List.length_cons, List.length_nil]; omega) | (simp only [List.length_set]; omega) | decide
  obtain ⟨y173, hy173⟩ := get_some (xs := os) (k := k) k173
  obtain ⟨B173, O173, C173, hv173⟩ := (SlN.blk (sl_SlN h_lv.at) kr)
  refine wv (V_ixS (off := O173 + k * 7) 7 k V (Sa (fg2 F168)) (Sa (fg0 F168)) hv173 Za k173 Tryz.underlying24 om V) (wr (VR_ldR (ys := opC y173) V t0 (SlN.row opC_len (sl_SlN (S166.ro h_lv)) hv173 hy173 V) Tryz.underlying50 V om) (wA (#[.int .i64 0, .int .i64 0, .int .i64 0, .int .i64 0, .int .i64 0, .int .i64 0, .int .u64 0]) S166 (fun g174 w174 c174 hc174 S174 => ?_)))
  replace S174 : St w NoX [c174, cB_166, cK_166, c150_166, c149_166, c4_166, c3_166] w174 := S174
  refine va (Sc t0) (xsA0 S174 hc174 V V V (Sa t0) (Sb t0) (fun w175 c175 hc175 S175 => W_end (Qo_normal (en (Kb (Qc F168)) fun A176 _ F176 => tk H172 (R_seq (fun _ H177 => ?_))))))
  have k178 : k < ans.length := by first | omega | (simp only [List.length_cons, List.length_nil]; omega) | (simp only [List.length_set]; omega) | decide
  obtain ⟨y178, hy178⟩ := get_some (xs := ans) (k := k) k178
  have hvr178 := hvr y178 (List.mem_of_getElem? hy178)
  refine R_monoS om 7 7 [none, none, none, none, none, some (SPv [] (fun _ => fun u l' => u = .int .i64 (anE (⟨y173.kd, y173.a, y173.b, y173.f, y173.p, y173.q, y173.u⟩ : OpC) (⟨y178.e, y178.t, y178.v⟩ : AnC)) ∧ l' = []) 5)] om om (dr (fun _ hx _ => (ura (fg1 F176) ((S175.grow hx).ob 0 hc175))) (dr (fun _ hx _ => (urc (Sa (fg9 F176)) (cell_box (v := av) ((S175.grow hx).ob 6 hc3_166) V))) (dm (Sb (fg0 F176)) ?_)))
  obtain ⟨B178, O178, C178, hv178⟩ := (SlN.blk (sl_SlN h_av.at) kr)
  refine dv (V_ixS (off := O178 + k * 3) 3 k V (Sa t0) t0 hv178 Za k178 Tryz.underlying31 om V) (dr (fun sx hx hF => (VR_ldR (ys := anC y178) V t0 (SlN.row anC_len (sl_SlN ((S175.grow hx).ro h_av)) hv178 hy178 V) Tryz.underlying54 V om)) (D_call (ts := []) (vs := []) (C0 := fun _ => fun u l' => u = .int .i64 (anE (⟨y173.kd, y173.a, y173.b, y173.f, y173.p, y173.q, y173.u⟩ : OpC) (⟨y178.e, y178.t, y178.v⟩ : AnC)) ∧ l' = []) (C := fun u l' => u = .int .i64 (anE (⟨y173.kd, y173.a, y173.b, y173.f, y173.p, y173.q, y173.u⟩ : OpC) (⟨y178.e, y178.t, y178.v⟩ : AnC)) ∧ l' = []) V V V Tryz.func44 om V (args2 (Sd t0) t0) V V V V (fun sx hx hF => ?_) (fun u179 l179 hu179 => ?_)))
  ·refine (kan_c (kd := y173.kd) (a := y173.a) (b := y173.b) (f := y173.f) (p := y173.p) (q := y173.q) (uu := y173.u) (er := y178.e) (ti := y178.t) (v := y178.v)  Ze).mono ?_
   rintro _ _ ⟨rfl, hz⟩
   exact ⟨_, rfl, _, ⟨rfl, rfl⟩, hz⟩
  obtain ⟨rfl, hl179⟩ := hu179
  refine dv (V_asg V t0) (ZS_none S175 (Nat.le_refl _) (Nat.le_refl _) (fun s180 hJ180 hL180 hF180 => ?_))
  obtain ⟨ll179, ws179, we179, ⟨hq179, hl179r⟩, hm179, k179, e179⟩ := L.all_get hF180; cases hq179; subst hl179r
  replace hJ180 := hJ180.add hL180 (i := 5) V hm179 k179 e179
  have S180 := hJ180.st; clear hF180 hJ180 hL180
  generalize s180.1 = w180 at *
  replace S180 : St w NoX [c175, cB_166, cK_166, c150_166, c149_166, c4_166, c3_166] w180 := S180
  refine en (Ka (Qf F176)) fun A181 _ F181 => ?_
  have S182 := S180.se [1, 2, 3, 4, 5, 6] [cB_166, cK_166, c150_166, c149_166, c4_166, c3_166]
  refine tk H177 (R_seq (fun _ H183 => R_region om (vm (fg0 F181) (vn t0 V (W_end (Qo_normal (en (Ka (Qa F181)) fun A184 _ F184 => tk H183 (R_cond_dec (fg0 F184) (fun c185 => ?_) (fun c185 => ?_)))))))))
  ·refine R_seq (fun _ H186 => R_region om (vm (fg2 F184) (vm (Sa (fg1 F184)) (xsC4 (zs' := #[.slice none 0 0]) S182 hc4_166 V V V (Sb (fg10 F184)) V Zd (fun w187 c187 hc187 S187 => xsC3 (zs' := #[.int .i64 (k : Int)]) S187 hc149_166 V V V (Sb (fg9 F184)) (Sa t0) Zd (fun w188 c188 hc188 S188 => xsC2 (zs' := #[.int .i64 ((anE (⟨y173.kd, y173.a, y173.b, y173.f, y173.p, y173.q, y173.u⟩ : OpC) (⟨y178.e, y178.t, y178.v⟩ : AnC)))]) S188 hc150_166 V V V (Sb (fg8 F184)) t0 Zd (fun w189 c189 hc189 S189 => W_end (Qo_normal (en (Qb F184) fun A190 _ F190 => tk H186 (R_ret (inb_ret (then_ret (then_ret (inb_ret (then_ret (ret_inR0 (results_3 Tryz.results24 (rvC (fg10 F190) (cell_box (S189.ob 4 hc187) V)) (rvC (fg9 F190) (cell_box (S189.ob 3 hc188) V)) (rvC (fg8 F190) (cell_box (S189.ob 2 hc189) V))) F190.d ?_))))))))))))))))
   have h : (jdF (cfE C N Z K Q) (lgN C N Z K Q) K os ans) = ((k : Int), (anE (⟨y173.kd, y173.a, y173.b, y173.f, y173.p, y173.q, y173.u⟩ : OpC) (⟨y178.e, y178.t, y178.v⟩ : AnC))) := jd_ck hsz Za (ja_bad hja hy173 hy178 c185) c185
   rw [h]
   exact .inl ⟨rfl, c185, S189.fin0⟩
  refine R_skip (inb_n (tk H171 (R_region om (ad (fg4 F184) V (vm t0 (W_end (Qo_normal (en (Ka (Qa (fx4 F184))) fun A192 Y192 F192 => then_n ⟨os.length - (k + 1), by simp only [hm166]; omega, Y192, F192.d, (k + 1), rfl, Za, (ja_step hja hy173 hy178 c185), ((fg0 F192).trans (by first | rfl | (simp; done) | (congr 1; omega))), ((fg12 F192).trans (fg6 F165).symm), ((fg11 F192).trans (fg10 F165).symm), ((fg10 F192).trans (fg9 F165).symm), ((fg9 F192).trans (fg8 F165).symm), ((fg8 F192).trans (fg7 F165).symm), ((fg7 F192).trans (fg5 F165).symm), ((fg6 F192).trans (fg2 F165).symm), ((fg5 F192).trans (fg1 F165).symm), (by subst hcB_166 hcK_166 hc150_166 hc149_166 hc4_166 hc3_166; exact S182)⟩))))))))
 refine R_exit (then_exit (then_exit (inb_hit (tk H163 (R_seq (fun _ H193 => R_seq (fun _ H194 => R_region om (vm (fg3 F168) (vm (Sa (fg8 F168)) (wv (V_mkf V args0 (args1 (Sb (fg7 F168)))) (wc (args3 (Sb t0) (Sa t0) t0) (kmtJ_c (gs := gs_9) (gc := g3) (S166.roC h_lv)) (fun _ w195 ⟨g4_195, g3_195, g7_195, g5_195, e, hP195⟩ => ⟨_, e, ?_⟩))))))))))))
 obtain ⟨cb4_195, cb3_195, cb7_195, cb5_195, hcb4_195, hcb3_195, hcb7_195, hcb5_195, hP195⟩ := gen4 hP195
 have S195 := S166.join hP195
 replace S195 : St w NoX [cb4_195, cb3_195, cb7_195, cb5_195, cB_166, cK_166, c150_166, c149_166, c4_166, c3_166] w195 := S195
 refine W_end (Qo_normal (en (Ka (Qc F168)) fun A196 _ F196 => tk H194 (R_block ?_)))
 have hjA := ja_end hja Za
 obtain ⟨c197, hc197, S197⟩ := S195.pnil (s := 1)
 have S199 := S197.se [0, 5, 6, 1, 2, 3, 4, 7, 8, 9, 10] [c197, cB_166, cK_166, cb4_195, cb3_195, cb7_195, cb5_195, c150_166, c149_166, c4_166, c3_166]
 obtain ⟨ct200, hct200, S200⟩ := genS (mT_shut (gs := gs_9) (T := 77) (n := (lgN C N Z K Q)) (G0 := ((hv_9, H_9), (qv_9, q_9))) (pre := []) (hcB_166) hcK_166 S199)
 replace S200 : St w NoX [c197, ct200, cb4_195, cb3_195, cb7_195, cb5_195, c150_166, c149_166, c4_166, c3_166] w195 := S200
 have S201 := S200.se [0, 2, 3, 4, 5, 6, 7, 8, 9, 1] [c197, cb4_195, cb3_195, cb7_195, cb5_195, c150_166, c149_166, c4_166, c3_166, ct200]
 refine R_rangeT (α := ME) (fg0 F196) (fun args w => calls_enter Tryz.func90 V V args w) (kmoJ_it (gs := gs_9) (g3 := g3_195) (g4 := g4_195) (g5 := g5_195) (g7 := g7_195) (gc := g3) (G0 := ((hv_9, H_9), (qv_9, q_9))) (n := (lgN C N Z K Q)) (lv := lv) (os := os) (av := av) (ans := ans) (Rd := fun W => (bx g4_195 24 #[lv]).at W ∧ (rl 7 opC lv os).at W ∧ (bx g3_195 75 #[.pointer (some ⟨gs_9, 0, none⟩)]).at W ∧ (bx g7_195 78 #[.func (.func 38) #[.pointer (some ⟨gs_9, 0, none⟩)] #[]]).at W ∧ (bx g5_195 88 #[.func (.func 46) #[] #[.pointer (some ⟨g3, 0, none⟩)]]).at W ∧ (bx g3 31 #[av]).at W ∧ (rl 3 anC av ans).at W) (fun _ h => h) hsm0 lg_rng hops hl2 Za) (fun _ => rfl) (fun pre => pk (fun l => ∃ (rv : Value), (fbJ ans 0 (moJ (lgN C N Z K Q) K os ans) = fbJ ans pre.length ((moJ (lgN C N Z K Q) K os ans).drop pre.length)) ∧ l = [io .i64 rv (reJ pre), bx g4_195 24 #[lv], bx g3_195 75 #[.pointer (some ⟨gs_9, 0, none⟩)], bx g7_195 78 #[.func (.func 38) #[.pointer (some ⟨gs_9, 0, none⟩)] #[]], bx g5_195 88 #[.func (.func 46) #[] #[.pointer (some ⟨g3, 0, none⟩)]], bx g6 32 #[.int .i64 0], bx g5 3 #[.int .i64 0], bx g4 25 #[rv], bx g3 31 #[av]])) (fun cQ pre => pk (fun l => (cQ = .ret ∧ ∃ (rv : Value) (rL : List Int) (a : Int) (er : Int), (fbJ ans 0 (moJ (lgN C N Z K Q) K os ans) = (a, er)) ∧ (er ≠ 0) ∧ l = [io .i64 rv rL, bx g4_195 24 #[lv], bx g3_195 75 #[.pointer (some ⟨gs_9, 0, none⟩)], bx g7_195 78 #[.func (.func 38) #[.pointer (some ⟨gs_9, 0, none⟩)] #[]], bx g5_195 88 #[.func (.func 46) #[] #[.pointer (some ⟨g3, 0, none⟩)]], bx g6 32 #[.int .i64 (er)], bx g5 3 #[.int .i64 (a)], bx g4 25 #[.slice none 0 0], bx g3 31 #[av]]))) (St.pack (l := [io .i64 (.slice none 0 0) (reJ []), bx g4_195 24 #[lv], bx g3_195 75 #[.pointer (some ⟨gs_9, 0, none⟩)], bx g7_195 78 #[.func (.func 38) #[.pointer (some ⟨gs_9, 0, none⟩)] #[]], bx g5_195 88 #[.func (.func 46) #[] #[.pointer (some ⟨g3, 0, none⟩)]], bx g6 32 #[.int .i64 0], bx g5 3 #[.int .i64 0], bx g4 25 #[(.slice none 0 0)], bx g3 31 #[av]]) (fr := (mT gs_9 77 (lgN C N Z K Q) ((hv_9, H_9), (qv_9, q_9)) [] :: [])) (by have q0 : c197 = io .i64 (.slice none 0 0) (reJ []) := hc197; have q1 : cb4_195 = bx g4_195 24 #[lv] := hcb4_195; have q2 : cb3_195 = bx g3_195 75 #[.pointer (some ⟨gs_9, 0, none⟩)] := hcb3_195; have q3 : cb7_195 = bx g7_195 78 #[.func (.func 38) #[.pointer (some ⟨gs_9, 0, none⟩)] #[]] := hcb7_195; have q4 : cb5_195 = bx g5_195 88 #[.func (.func 46) #[] #[.pointer (some ⟨g3, 0, none⟩)]] := hcb5_195; have q5 : c150_166 = bx g6 32 #[.int .i64 0] := hc150_166; have q6 : c149_166 = bx g5 3 #[.int .i64 0] := hc149_166; have q7 : c4_166 = bx g4 25 #[(.slice none 0 0)] := hc4_166; have q8 : c3_166 = bx g3 31 #[av] := hc3_166; have q9 := hct200; subst q0 q1 q2 q3 q4 q5 q6 q7 q8 q9; exact S201) ⟨(.slice none 0 0), rfl, rfl⟩)
  (fun pre W l' hS => by obtain ⟨l, ⟨rv, hz, rfl⟩, hl⟩ := pk_at (hS.ch 0 V); exact ⟨(hl 1 _ V), hS.ro h_lv, (hl 2 _ V), (hl 3 _ V), (hl 4 _ V), (hl 8 _ V), hS.ro h_av⟩)
  (fun x a' cQ => ∃ g205 : Nat, SzN a' 72 ∧ a'.defers = [] ∧ EV a' (.tmp 5) = EV A196 (.tmp 5) ∧ EV a' (.tmp 6) = EV A196 (.tmp 6) ∧ EV a' (.tmp 7) = EV A196 (.tmp 7) ∧ EV a' (.tmp 8) = EV A196 (.tmp 8) ∧ EV a' (.tmp 13) = .int .i64 (x.1) ∧ EV a' (.tmp 14) = .pointer (some ⟨g205, 0, none⟩) ∧ cQ = pk (·= [bx g205 54 #[.int .i64 (x.2.1.e), .bool (x.2.1.t), .int .u64 (x.2.1.v)]])) ?_ ?_ ?_ ?_
 ·intro la198 pre x wa198 fr K hSa198 hK
  simp only [Ml.encM]
  rw [rnd2]
  obtain ⟨A202, E202⟩ : ∃ A, A = (PT (PT { tmps := A196.tmps, defers := [] } 55 (.int .i64 x.1)) 56 (.agg #[.int .i64 x.2.1.e, .bool x.2.1.t, .int .u64 x.2.1.v])) := ⟨_, rfl⟩
  rw [← E202]
  have Y202 := szq E202
  have hdf202 : A202.defers = [] := by rw [E202]; rfl
  have l5_202 := lookE E202 5 (Sb (rnd_l (fg8 F196)))
  have l6_202 := lookE E202 6 (Sb (rnd_l (fg7 F196)))
  have l7_202 := lookE E202 7 (Sb (rnd_l (fg6 F196)))
  have l8_202 := lookE E202 8 (Sb (rnd_l (fg5 F196)))
  have l55_202 := lookE E202 55 (Sa t0)
  have l56_202 := lookE E202 56 t0
  clear E202
  obtain ⟨cI, hcI, hSa198⟩ := gen1 hSa198
  refine R_seq (fun _ H203 => R_region om (va l55_202 (W_end (Qo_normal (en (((((((ck (FS.n hdf202) V V)).c (es V l5_202)).c (es V l6_202)).c (es V l7_202)).c (es V l8_202)).c (Sa l56_202)) fun A204 _ F204 => tk H203 (R_region om (wA (#[.int .i64 0, .bool false, .int .u64 0]) hSa198 (fun g205 w205 c205 hc205 S205 => ?_))))))))
  replace S205 : St w NoX (c205 :: cI :: fr) w205 := S205
  refine xsA 0 S205 V hc205 V V V t0 (Sa (fg0 F204)) (fun w206 c206 hc206 S206 => ?_)
  replace S206 : St w NoX (c206 :: cI :: fr) w206 := S206
  refine W_end (Qo_normal (en (Ka F204) fun A207 Y207 F207 => then_n (hK _ _ _ ⟨g205, Y207, F207.d, ((fg5 F207).trans (fg8 F196).symm), ((fg4 F207).trans (fg7 F196).symm), ((fg3 F207).trans (fg6 F196).symm), ((fg2 F207).trans (fg5 F196).symm), (fg6 F207), (fg0 F207), rfl⟩ ?_)))
  subst hc206 hcI; exact S206.asg1
 ·rintro lb208 pre x A208 w208 cQ fr hAx hlr S208 hVd
  obtain ⟨g205, Y208, hdf208, u5_208, u6_208, u7_208, u8_208, l13_208, l14_208, rfl⟩ := hAx
  have l5_208 := u5_208.trans (fg8 F196)
  have l6_208 := u6_208.trans (fg7 F196)
  have l7_208 := u7_208.trans (fg6 F196)
  have l8_208 := u8_208.trans (fg5 F196)
  obtain ⟨_, _, ⟨rv, hz, rfl⟩, rfl, S208⟩ := S208.body2
  replace S208 : St w NoX ((io .i64 rv (reJ pre)) :: (bx g4_195 24 #[lv]) :: (bx g3_195 75 #[.pointer (some ⟨gs_9, 0, none⟩)]) :: (bx g7_195 78 #[.func (.func 38) #[.pointer (some ⟨gs_9, 0, none⟩)] #[]]) :: (bx g5_195 88 #[.func (.func 46) #[] #[.pointer (some ⟨g3, 0, none⟩)]]) :: (bx g6 32 #[.int .i64 0]) :: (bx g5 3 #[.int .i64 0]) :: (bx g4 25 #[rv]) :: (bx g3 31 #[av]) :: (bx g205 54 #[.int .i64 (x.2.1.e), .bool (x.2.1.t), .int .u64 (x.2.1.v)]) :: (mT gs_9 77 (lgN C N Z K Q) ((hv_9, H_9), (qv_9, q_9)) (pre ++ [x])) :: fr) w208 := S208
  obtain ⟨c197_209, cb4_209, cb3_209, cb7_209, cb5_209, c150_209, c149_209, c4_209, c3_209, c206_209, ct_209, hc197_209, hcb4_209, hcb3_209, hcb7_209, hcb5_209, hc150_209, hc149_209, hc4_209, hc3_209, hc206_209, hct_209, S208⟩ := gen11 S208
  have S210 : St w NoX (c197_209 :: ct_209 :: cb4_209 :: cb3_209 :: cb7_209 :: cb5_209 :: c150_209 :: c149_209 :: c4_209 :: c3_209 :: c206_209 :: fr) w208 := St.selR (l := [c197_209, cb4_209, cb3_209, cb7_209, cb5_209, c150_209, c149_209, c4_209, c3_209, c206_209, ct_209]) (l' := [c197_209, ct_209, cb4_209, cb3_209, cb7_209, cb5_209, c150_209, c149_209, c4_209, c3_209, c206_209]) (fr := fr) S208 [0, 10, 1, 2, 3, 4, 5, 6, 7, 8, 9] Zg Zd V
  obtain ⟨cb211, ck211, hcb211, hck211, S211⟩ := mT_open (hct_209 ▸ S210)
  rw [lastG_app] at hcb211
  replace S211 : St w NoX (c197_209 :: cb211 :: ck211 :: cb4_209 :: cb3_209 :: cb7_209 :: cb5_209 :: c150_209 :: c149_209 :: c4_209 :: c3_209 :: c206_209 :: fr) w208 := S211
  have hpl : pre.length + 1 ≤ os.length := by have := hVd.len; simpa using this
  have hx1 := (Tr.at hVd).2
  have hrj := reJ_len pre
  refine R_block (R_seq (fun _ H212 => R_seq (fun _ H213 => R_monoS om 6 6 [] om om (dr (fun _ hx _ => (urc l5_208 (cell_box (v := av) ((S211.grow hx).ob 10 hc3_209) V))) (dm (Sa l13_208) ?_)))))
  have k214 : pre.length < ans.length := by first | omega | (simp only [List.length_cons, List.length_nil]; omega) | (simp only [List.length_set]; omega) | decide
  obtain ⟨y214, hy214⟩ := get_some (xs := ans) (k := pre.length) k214
  have hvr214 := hvr y214 (List.mem_of_getElem? hy214)
  obtain ⟨B214, O214, C214, hv214⟩ := (SlN.blk (sl_SlN h_av.at) kr)
  refine dv (V_ixS (off := O214 + pre.length * 3) 3 pre.length V (Sa t0) t0 hv214 Za k214 Tryz.underlying31 om V) (dr (fun sx hx hF => (VR_ldR (ys := anC y214) V t0 (SlN.row anC_len (sl_SlN ((S211.grow hx).ro h_av)) hv214 hy214 V) Tryz.underlying54 V om)) (dr (fun _ hx _ => (ura (Sd l14_208) ((S211.grow hx).ob 11 hc206_209))) (dv (V_neStA V (Sa t0) t0 om) (ZS_none S211 (Nat.le_refl _) (Nat.le_refl _) (fun s215 hJ215 hL215 hF215 => ?_)))))
  have S215 := hJ215.st; clear hF215 hJ215 hL215
  generalize s215.1 = w215 at *
  replace S215 : St w NoX (c197_209 :: cb211 :: ck211 :: cb4_209 :: cb3_209 :: cb7_209 :: cb5_209 :: c150_209 :: c149_209 :: c4_209 :: c3_209 :: c206_209 :: fr) w215 := S215
  refine en (((((((ck (cq5 (FS.n hdf208) V) V V)).c (es6 V l6_208)).c (es6 V l7_208)).c (es6 V l8_208)).c (es6 V l13_208)).c (Sf l14_208)) fun A216 _ F216 => tk H213 (R_cond_dec (fg5 F216) (fun c217 => ?_) (fun c217 => ?_))
  ·refine R_seq (fun _ H218 => R_region om (vm (fg1 F216) (xsC (zs' := #[.slice none 0 0]) 9 S215 V hc4_209 V V V (Sa (fg4 F216)) V Zd (fun w219 c219 hc219 S219 => ?_))))
   replace S219 : St w NoX (c197_209 :: cb211 :: ck211 :: cb4_209 :: cb3_209 :: cb7_209 :: cb5_209 :: c150_209 :: c149_209 :: c219 :: c3_209 :: c206_209 :: fr) w219 := S219
   refine xsC (zs' := #[.int .i64 (x.1)]) 8 S219 V hc149_209 V V V (Sa (fg3 F216)) t0 Zd (fun w220 c220 hc220 S220 => ?_)
   replace S220 : St w NoX (c197_209 :: cb211 :: ck211 :: cb4_209 :: cb3_209 :: cb7_209 :: cb5_209 :: c150_209 :: c220 :: c219 :: c3_209 :: c206_209 :: fr) w220 := S220
   refine xsC (zs' := #[.int .i64 4]) 7 S220 V hc150_209 V V V (Sa (fg2 F216)) V Zd (fun w221 c221 hc221 S221 => ?_)
   replace S221 : St w NoX (c197_209 :: cb211 :: ck211 :: cb4_209 :: cb3_209 :: cb7_209 :: cb5_209 :: c221 :: c220 :: c219 :: c3_209 :: c206_209 :: fr) w221 := S221
   refine W_end (Qo_normal (en (Qa F216) fun A222 _ F222 => ?_))
   have S224 := S221.del 11
   replace S224 : St w NoX (c197_209 :: cb211 :: ck211 :: cb4_209 :: cb3_209 :: cb7_209 :: cb5_209 :: c221 :: c220 :: c219 :: c3_209 :: fr) w221 := S224
   refine tk H218 (R_ret (then_ret (inb_ret ?_)))
   obtain ⟨ct225, hct225, S225⟩ := genS (mT_shut (gs := gs_9) (T := 77) (n := (lgN C N Z K Q)) (G0 := ((hv_9, H_9), (qv_9, q_9))) (pre := (pre ++ [x])) (hcb211.trans (by rw [lastG_app])) hck211 S224)
   replace S225 : St w NoX (c197_209 :: ct225 :: cb4_209 :: cb3_209 :: cb7_209 :: cb5_209 :: c221 :: c220 :: c219 :: c3_209 :: fr) w221 := S225
   have S226 : St w NoX (c197_209 :: cb4_209 :: cb3_209 :: cb7_209 :: cb5_209 :: c221 :: c220 :: c219 :: c3_209 :: ct225 :: fr) w221 := St.selR (l := [c197_209, ct225, cb4_209, cb3_209, cb7_209, cb5_209, c221, c220, c219, c3_209]) (l' := [c197_209, cb4_209, cb3_209, cb7_209, cb5_209, c221, c220, c219, c3_209, ct225]) (fr := fr) S225 [0, 2, 3, 4, 5, 6, 7, 8, 9, 1] Zg Zd V
   exact (St.pack (l := [io .i64 rv (reJ pre), bx g4_195 24 #[lv], bx g3_195 75 #[.pointer (some ⟨gs_9, 0, none⟩)], bx g7_195 78 #[.func (.func 38) #[.pointer (some ⟨gs_9, 0, none⟩)] #[]], bx g5_195 88 #[.func (.func 46) #[] #[.pointer (some ⟨g3, 0, none⟩)]], bx g6 32 #[.int .i64 (4)], bx g5 3 #[.int .i64 (x.1)], bx g4 25 #[.slice none 0 0], bx g3 31 #[av]]) (fr := (mT gs_9 77 (lgN C N Z K Q) ((hv_9, H_9), (qv_9, q_9)) (pre ++ [x]) :: fr)) (by have q0 : c197_209 = io .i64 rv (reJ pre) := hc197_209; have q1 : cb4_209 = bx g4_195 24 #[lv] := hcb4_209; have q2 : cb3_209 = bx g3_195 75 #[.pointer (some ⟨gs_9, 0, none⟩)] := hcb3_209; have q3 : cb7_209 = bx g7_195 78 #[.func (.func 38) #[.pointer (some ⟨gs_9, 0, none⟩)] #[]] := hcb7_209; have q4 : cb5_209 = bx g5_195 88 #[.func (.func 46) #[] #[.pointer (some ⟨g3, 0, none⟩)]] := hcb5_209; have q5 : c221 = bx g6 32 #[.int .i64 (4)] := hc221; have q6 : c220 = bx g5 3 #[.int .i64 (x.1)] := hc220; have q7 : c219 = bx g4 25 #[.slice none 0 0] := hc219; have q8 : c3_209 = bx g3 31 #[av] := hc3_209; have q9 := hct225; subst q0 q1 q2 q3 q4 q5 q6 q7 q8 q9; exact S226) (⟨rfl, rv, (reJ pre), x.1, 4, (jd_bad hgK hVd hz hy214 (fun q => c217 (anIff.1 q))), Zg, rfl⟩))
  refine R_skip (tk H212 (R_seq (fun _ H227 => R_region om (fa 0 (fg0 F216) (rL (.int .i64 (x.2.1.e)) t0 (S215.ob 11 hc206_209) (ve t0 V (W_end (Qo_normal (en (Ka (Qb F216)) fun A228 _ F228 => ?_)))))))))
  have S230 := S215.del 11
  replace S230 : St w NoX (c197_209 :: cb211 :: ck211 :: cb4_209 :: cb3_209 :: cb7_209 :: cb5_209 :: c150_209 :: c149_209 :: c4_209 :: c3_209 :: fr) w215 := S230
  refine tk H227 (R_cond_dec (fg0 F228) (fun c231 => ?_) (fun c231 => ?_))
  ·refine R_region om (rL rv (fg5 F228) (S230.ob 9 hc4_209) (vm (Sa (fg2 F228)) ?_))
   have hll232 : [x.1].length = 1 := rfl
   refine xsL (vs := [.int .i64 (x.1)]) (xs := ([x.1].map (Value.int .i64))) 1 S230 V V V (parts1 t0) Tryz.underlying25 (fun g232 w232 c232 hc232 S232 => ?_)
   replace hc232 : c232 = io .i64 (.slice (some ⟨g232, 0, none⟩) 1 1) [x.1] := hc232
   replace S232 : St w NoX (c232 :: c197_209 :: cb211 :: ck211 :: cb4_209 :: cb3_209 :: cb7_209 :: cb5_209 :: c150_209 :: c149_209 :: c4_209 :: c3_209 :: fr) w232 := S232
   refine W_appS 1 1 S232 V hc197_209 V V V (Sb t0) t0 Tryz.underlying25 Tryz.underlying25 (z := .int .i64 0) (bytes := 8) om V Zg (ow_at (S232.cq 0 hc232)) ones_i Zb Zb (fun v233 w233 c233 hc233 S233 => ?_)
   replace hc233 : c233 = io .i64 v233 ((reJ pre) ++ [x.1]) := hc233.trans (app_eq (by first | (simp; done) | (rw [List.take_of_length_le (l := List.drop _ _) (by rw [List.length_drop]; exact Nat.le_refl _)])))
   replace S233 : St w NoX (c232 :: c233 :: cb211 :: ck211 :: cb4_209 :: cb3_209 :: cb7_209 :: cb5_209 :: c150_209 :: c149_209 :: c4_209 :: c3_209 :: fr) w233 := S233
   refine xsC (zs' := #[v233]) 10 S233 V hc4_209 V V V (Sd (fg5 F228)) t0 (SlN_one (ow_at (S233.cq 1 hc233))) (fun w234 c234 hc234 S234 => ?_)
   replace S234 : St w NoX (c232 :: c233 :: cb211 :: ck211 :: cb4_209 :: cb3_209 :: cb7_209 :: cb5_209 :: c150_209 :: c149_209 :: c234 :: c3_209 :: fr) w234 := S234
   refine W_end (Qo_normal (en (Qd F228) fun A235 _ F235 => ?_))
   have S237 := S234.del 0
   replace S237 : St w NoX (c233 :: cb211 :: ck211 :: cb4_209 :: cb3_209 :: cb7_209 :: cb5_209 :: c150_209 :: c149_209 :: c234 :: c3_209 :: fr) w234 := S237
   refine inb_n ?_
   obtain ⟨ct238, hct238, S238⟩ := genS (mT_shut (gs := gs_9) (T := 77) (n := (lgN C N Z K Q)) (G0 := ((hv_9, H_9), (qv_9, q_9))) (pre := (pre ++ [x])) (hcb211.trans (by rw [lastG_app])) hck211 S237)
   replace S238 : St w NoX (c233 :: ct238 :: cb4_209 :: cb3_209 :: cb7_209 :: cb5_209 :: c150_209 :: c149_209 :: c234 :: c3_209 :: fr) w234 := S238
   have S239 : St w NoX (c233 :: cb4_209 :: cb3_209 :: cb7_209 :: cb5_209 :: c150_209 :: c149_209 :: c234 :: c3_209 :: ct238 :: fr) w234 := St.selR (l := [c233, ct238, cb4_209, cb3_209, cb7_209, cb5_209, c150_209, c149_209, c234, c3_209]) (l' := [c233, cb4_209, cb3_209, cb7_209, cb5_209, c150_209, c149_209, c234, c3_209, ct238]) (fr := fr) S238 [0, 2, 3, 4, 5, 6, 7, 8, 9, 1] Zg Zd V
   exact (St.pack (l := [io .i64 v233 (reJ (pre ++ [x])), bx g4_195 24 #[lv], bx g3_195 75 #[.pointer (some ⟨gs_9, 0, none⟩)], bx g7_195 78 #[.func (.func 38) #[.pointer (some ⟨gs_9, 0, none⟩)] #[]], bx g5_195 88 #[.func (.func 46) #[] #[.pointer (some ⟨g3, 0, none⟩)]], bx g6 32 #[.int .i64 0], bx g5 3 #[.int .i64 0], bx g4 25 #[v233], bx g3 31 #[av]]) (fr := (mT gs_9 77 (lgN C N Z K Q) ((hv_9, H_9), (qv_9, q_9)) (pre ++ [x]) :: fr)) (by have q0 : c233 = io .i64 v233 (reJ (pre ++ [x])) := hc233.trans ((congrArg (io .i64 _) (reJ_5 c231).symm)); have q1 : cb4_209 = bx g4_195 24 #[lv] := hcb4_209; have q2 : cb3_209 = bx g3_195 75 #[.pointer (some ⟨gs_9, 0, none⟩)] := hcb3_209; have q3 : cb7_209 = bx g7_195 78 #[.func (.func 38) #[.pointer (some ⟨gs_9, 0, none⟩)] #[]] := hcb7_209; have q4 : cb5_209 = bx g5_195 88 #[.func (.func 46) #[] #[.pointer (some ⟨g3, 0, none⟩)]] := hcb5_209; have q5 : c150_209 = bx g6 32 #[.int .i64 0] := hc150_209; have q6 : c149_209 = bx g5 3 #[.int .i64 0] := hc149_209; have q7 : c234 = bx g4 25 #[v233] := hc234; have q8 : c3_209 = bx g3 31 #[av] := hc3_209; have q9 := hct238; subst q0 q1 q2 q3 q4 q5 q6 q7 q8 q9; exact S239) (⟨v233, (jd_nx hgK hVd hz hy214 (anIff.2 (by simpa using c217))), rfl⟩))
  refine R_skip (inb_n ?_)
  obtain ⟨ct240, hct240, S240⟩ := genS (mT_shut (gs := gs_9) (T := 77) (n := (lgN C N Z K Q)) (G0 := ((hv_9, H_9), (qv_9, q_9))) (pre := (pre ++ [x])) (hcb211.trans (by rw [lastG_app])) hck211 S230)
  replace S240 : St w NoX (c197_209 :: ct240 :: cb4_209 :: cb3_209 :: cb7_209 :: cb5_209 :: c150_209 :: c149_209 :: c4_209 :: c3_209 :: fr) w215 := S240
  have S241 : St w NoX (c197_209 :: cb4_209 :: cb3_209 :: cb7_209 :: cb5_209 :: c150_209 :: c149_209 :: c4_209 :: c3_209 :: ct240 :: fr) w215 := St.selR (l := [c197_209, ct240, cb4_209, cb3_209, cb7_209, cb5_209, c150_209, c149_209, c4_209, c3_209]) (l' := [c197_209, cb4_209, cb3_209, cb7_209, cb5_209, c150_209, c149_209, c4_209, c3_209, ct240]) (fr := fr) S240 [0, 2, 3, 4, 5, 6, 7, 8, 9, 1] Zg Zd V
  exact (St.pack (l := [io .i64 rv (reJ (pre ++ [x])), bx g4_195 24 #[lv], bx g3_195 75 #[.pointer (some ⟨gs_9, 0, none⟩)], bx g7_195 78 #[.func (.func 38) #[.pointer (some ⟨gs_9, 0, none⟩)] #[]], bx g5_195 88 #[.func (.func 46) #[] #[.pointer (some ⟨g3, 0, none⟩)]], bx g6 32 #[.int .i64 0], bx g5 3 #[.int .i64 0], bx g4 25 #[rv], bx g3 31 #[av]]) (fr := (mT gs_9 77 (lgN C N Z K Q) ((hv_9, H_9), (qv_9, q_9)) (pre ++ [x]) :: fr)) (by have q0 : c197_209 = io .i64 rv (reJ (pre ++ [x])) := hc197_209.trans ((congrArg (io .i64 _) (reJ_0 c231).symm)); have q1 : cb4_209 = bx g4_195 24 #[lv] := hcb4_209; have q2 : cb3_209 = bx g3_195 75 #[.pointer (some ⟨gs_9, 0, none⟩)] := hcb3_209; have q3 : cb7_209 = bx g7_195 78 #[.func (.func 38) #[.pointer (some ⟨gs_9, 0, none⟩)] #[]] := hcb7_209; have q4 : cb5_209 = bx g5_195 88 #[.func (.func 46) #[] #[.pointer (some ⟨g3, 0, none⟩)]] := hcb5_209; have q5 : c150_209 = bx g6 32 #[.int .i64 0] := hc150_209; have q6 : c149_209 = bx g5 3 #[.int .i64 0] := hc149_209; have q7 : c4_209 = bx g4 25 #[rv] := hc4_209; have q8 : c3_209 = bx g3 31 #[av] := hc3_209; have q9 := hct240; subst q0 q1 q2 q3 q4 q5 q6 q7 q8 q9; exact S241) (⟨rv, (jd_nx hgK hVd hz hy214 (anIff.2 (by simpa using c217))), rfl⟩))
 ·intro D242 xs242 w242 hxs242 S242
  obtain ⟨_, ⟨rv, hz, rfl⟩, S242⟩ := S242.unpack
  replace S242 : St w NoX ((io .i64 rv (reJ xs242)) :: (bx g4_195 24 #[lv]) :: (bx g3_195 75 #[.pointer (some ⟨gs_9, 0, none⟩)]) :: (bx g7_195 78 #[.func (.func 38) #[.pointer (some ⟨gs_9, 0, none⟩)] #[]]) :: (bx g5_195 88 #[.func (.func 46) #[] #[.pointer (some ⟨g3, 0, none⟩)]]) :: (bx g6 32 #[.int .i64 0]) :: (bx g5 3 #[.int .i64 0]) :: (bx g4 25 #[rv]) :: (bx g3 31 #[av]) :: (ob D242 (.deferred (some []))) :: (mT gs_9 77 (lgN C N Z K Q) ((hv_9, H_9), (qv_9, q_9)) xs242) :: []) w242 := S242
  obtain ⟨c197_242, cb4_242, cb3_242, cb7_242, cb5_242, c150_242, c149_242, c4_242, c3_242, cD242, ct_242, hc197_242, hcb4_242, hcb3_242, hcb7_242, hcb5_242, hc150_242, hc149_242, hc4_242, hc3_242, hcD242, hct_242, S242⟩ := gen11 S242
  have S243 := S242.se [0, 10, 1, 2, 3, 4, 5, 6, 7, 8, 9] [c197_242, ct_242, cb4_242, cb3_242, cb7_242, cb5_242, c150_242, c149_242, c4_242, c3_242, cD242]
  obtain ⟨cb244, ck244, hcb244, hck244, S244⟩ := mT_open (hct_242 ▸ S243)
  replace S244 : St w NoX [c197_242, cb244, ck244, cb4_242, cb3_242, cb7_242, cb5_242, c150_242, c149_242, c4_242, c3_242, cD242] w242 := S244
  refine gen_Q (fun A242 E242 => ?_)
  have Y242 := szq E242
  have hdf242 : A242.defers = [{ target := .collected D242, args := #[] }] := by rw [E242, df_mk, F196.d] <;> rfl
  have l6_242 := lookE E242 6 (mk_l (fg7 F196))
  have l7_242 := lookE E242 7 (mk_l (fg6 F196))
  have l8_242 := lookE E242 8 (mk_l (fg5 F196))
  clear E242
  refine inb_n (tk H193 (R_seq (fun _ H245 => R_region om (rL rv l6_242 (S244.ob 9 hc4_242) (xsC9 (zs' := #[rv]) S244 hc4_242 V V V (Sa l6_242) t0 (SlN_one (ow_at (S244.cq 0 hc197_242))) (fun w246 c246 hc246 S246 => xsC8 (zs' := #[.int .i64 0]) S246 hc149_242 V V V (Sa l7_242) V Zd (fun w247 c247 hc247 S247 => xsC7 (zs' := #[.int .i64 0]) S247 hc150_242 V V V (Sa l8_242) V Zd (fun w248 c248 hc248 S248 => W_end (Qo_normal (en (((((cq1 (FS.n hdf242) V)).c (es V l6_242)).c (es V l7_242)).c (Sa l8_242)) fun A249 _ F249 => ?_))))))))))
  have S250 := S248.se [0, 1, 2, 7, 8, 9, 10, 11] [c197_242, cb244, ck244, c248, c247, c246, c3_242, cD242]
  refine tk H245 (R_ret ?_)
  have hD251 := S250.ob 7 hcD242
  have S251 := S250.put (o' := .deferred none) 7 V hcD242
  obtain ⟨w251, hw251⟩ : ∃ w', w' = w248.putObj D242 (.deferred none) := ⟨_, rfl⟩
  rw [← hw251] at S251
  replace S251 : St w NoX [c197_242, cb244, ck244, c248, c247, c246, c3_242, (ob D242 (.deferred none))] w251 := S251
  refine ret_inR1' (D := D242) (w1 := w251) hw251 (results_3 Tryz.results24 (rvC (fg2 F249) (cell_box (S251.ob 5 hc246) V)) (rvC (fg1 F249) (cell_box (S251.ob 4 hc247) V)) (rvC (fg0 F249) (cell_box (S251.ob 3 hc248) V))) F249.d hD251 ?_
  have hd := jd_done hgK hxs242.1 hxs242.2 hsz Za hjA hz
  exact .inr ⟨_, rfl, hd.1, (S251.f1 0 (hc197_242.trans (congrArg (io .i64 _) hd.2)))⟩
 intro D252 cQ pre w252 hpre S252
 obtain ⟨_, hx, S252⟩ := S252.unpack
 rcases hx with ⟨rfl, rv, rL, a, er, hx, hne, rfl⟩
 replace S252 : St w NoX ((io .i64 rv rL) :: (bx g4_195 24 #[lv]) :: (bx g3_195 75 #[.pointer (some ⟨gs_9, 0, none⟩)]) :: (bx g7_195 78 #[.func (.func 38) #[.pointer (some ⟨gs_9, 0, none⟩)] #[]]) :: (bx g5_195 88 #[.func (.func 46) #[] #[.pointer (some ⟨g3, 0, none⟩)]]) :: (bx g6 32 #[.int .i64 (er)]) :: (bx g5 3 #[.int .i64 (a)]) :: (bx g4 25 #[.slice none 0 0]) :: (bx g3 31 #[av]) :: (ob D252 (.deferred (some []))) :: (mT gs_9 77 (lgN C N Z K Q) ((hv_9, H_9), (qv_9, q_9)) pre) :: []) w252 := S252
 obtain ⟨c197_252, cb4_252, cb3_252, cb7_252, cb5_252, c150_252, c149_252, c4_252, c3_252, cD252, ct_252, hc197_252, hcb4_252, hcb3_252, hcb7_252, hcb5_252, hc150_252, hc149_252, hc4_252, hc3_252, hcD252, hct_252, S252⟩ := gen11 S252
 have S253 := S252.se [0, 10, 1, 2, 3, 4, 5, 6, 7, 8, 9] [c197_252, ct_252, cb4_252, cb3_252, cb7_252, cb5_252, c150_252, c149_252, c4_252, c3_252, cD252]
 obtain ⟨cb254, ck254, hcb254, hck254, S254⟩ := mT_open (hct_252 ▸ S253)
 replace S254 : St w NoX [c197_252, cb254, ck254, cb4_252, cb3_252, cb7_252, cb5_252, c150_252, c149_252, c4_252, c3_252, cD252] w252 := S254
 refine gen_w (fun A252 E252 => ?_)
 have Y252 := szq E252
 have hdf252 : A252.defers = [{ target := .collected D252, args := #[] }] := by rw [E252, df_mk, F196.d] <;> rfl
 have l6_252 := lookE E252 6 (mk_l (fg7 F196))
 have l7_252 := lookE E252 7 (mk_l (fg6 F196))
 have l8_252 := lookE E252 8 (mk_l (fg5 F196))
 clear E252
 refine R_ret (inb_ret (then_ret ?_))
 have hD255 := S254.ob 11 hcD252
 have S255 := S254.put (o' := .deferred none) 11 V hcD252
 obtain ⟨w255, hw255⟩ : ∃ w', w' = w252.putObj D252 (.deferred none) := ⟨_, rfl⟩
 rw [← hw255] at S255
 replace S255 : St w NoX [c197_252, cb254, ck254, cb4_252, cb3_252, cb7_252, cb5_252, c150_252, c149_252, c4_252, c3_252, (ob D252 (.deferred none))] w255 := S255
 refine ret_inR1' (D := D252) (w1 := w255) hw255 (results_3 Tryz.results24 (rvC l6_252 (cell_box (S255.ob 9 hc4_252) V)) (rvC l7_252 (cell_box (S255.ob 8 hc149_252) V)) (rvC l8_252 (cell_box (S255.ob 7 hc150_252) V))) hdf252 hD255 ?_
 have h : (jdF (cfE C N Z K Q) (lgN C N Z K Q) K os ans) = (a, er) := (jd_fb hsz Za hjA).trans hx
 rw [h]
 exact .inl ⟨rfl, hne, S255.fin0⟩

set_option maxHeartbeats 4000000 in
theorem kjd_u {C N Z K Q : Int} {lv : Value} {os : List OpC} {av : Value} {ans : List AnC} {w : World} (h_lv : Ro w NoX (rl 7 opC lv os)) (h_av : Ro w NoX (rl 3 anC av ans)) (hvr : ∀ x ∈ ans, 0 ≤ x.v ∧ x.v ≤ 18446744073709551615) :
  Calls Tryz.prog 24 #[.agg #[.int .i64 C, .int .i64 N, .int .i64 Z, .int .i64 K, .int .i64 Q], lv, av] w fun e w' => ∃ rw, e = .returned (.tuple #[rw, .int .i64 (jdF (cfE C N Z K Q) (lgN C N Z K Q) K os ans).1, .int .i64 (jdF (cfE C N Z K Q) (lgN C N Z K Q) K os ans).2]) ∧ St w NoX [io .i64 rw (jdL (cfE C N Z K Q) (lgN C N Z K Q) K os ans)] w' := by
 refine (kjd_c h_lv h_av hvr).mono ?_
 rintro e w' (⟨rfl, hz, h⟩ | ⟨rw, rfl, hz, h⟩)
 ·obtain ⟨c, hc, h2⟩ := h.pnil (s := 1)
  have e : (jdL (cfE C N Z K Q) (lgN C N Z K Q) K os ans) = [] := by unfold jdL; rw [if_pos hz]
  refine ⟨_, rfl, ?_⟩
  rw [e]; subst hc; exact h2
 exact ⟨rw, by rw [hz], h⟩

end Go.Proofs.YtpgkfndbfocibaaGreat