import Derived.Test.YtpgkfndbfocibaaGreatProg
import Derived.Test.YtpgkfndbfocibaaGreatSqL
import Derived.Test.YtpgkfndbfocibaaGreatMs14
import Derived.Test.YtpgkfndbfocibaaGreatSep29g
import Derived.Test.YtpgkfndbfocibaaGreatMt4
import Derived.Test.YtpgkfndbfocibaaGreatPl29l
namespace Go.Proofs.YtpgkfndbfocibaaGreat
open Go.RowKit Go.Own Go.Own.R Go.Own.G Go.Own.Gr Go.Own.Ml


set_option maxHeartbeats 4000000 in
theorem ModelMoments_c {C N Z K Q : Int} {lv : Value} {os : List OpC} {fv : Value} {full : List Int} {ii jj : Int} {w : World} (h_lv : Ro w NoX (rl 7 opC lv os)) (h_fv : Ro w NoX (il .i64 fv full))  :
  Calls Tryz.prog 4 #[.agg #[.int .i64 C, .int .i64 N, .int .i64 Z, .int .i64 K, .int .i64 Q], lv, .agg #[fv, .int .i64 ii, .int .i64 jj]] w fun e w' => e = .returned (.bool true) ∧ St w NoX [] w' := by
 refine ci3 85 Tryz.func4 V (fun A0 _ F0 => ?_)
 have hS := St.nil w
 have bh_lv := SlN.le (sl_SlN h_lv.at)
 have bh_fv := SlN.le (sl_SlN h_fv.at)
 refine tb fun _ H1 => (wB (#[.int .i64 (C), .int .i64 (N), .int .i64 (Z), .int .i64 (K), .int .i64 (Q)]) hS (fg0 F0) (fun g2 w2 c2 hc2 S2 => wB (#[fv, .int .i64 (ii), .int .i64 (jj)]) S2 (Sa (fg2 F0)) (fun g3 w3 c3 hc3 S3 => vc (W_end (en (Qa (Kb F0)) fun A4 _ F4 => tc H1 fun _ H5 => tb fun _ H6 => (vm (fg3 F4) (fa 0 (Sa (fg0 F4)) (rL fv t0 (S3.ob 0 hc3) (wc (args2 (Sb t0) t0) (kfar_c (S3.roC h_lv) (S3.roC h_fv)) (C0 S3 fun w7 S7 => W_end (en (Ka (Qc F4)) fun A8 _ F8 => tk H6 (cd (fg0 F8) (fun c9 => ?_) fun c9 => ?_))))))))))))
 ·refine tb fun _ H10 => (wc args0 (kshn_c  ) (C0 S7 fun w11 S11 => vt (W_end (en (Ka (Qa F8)) fun A12 _ F12 => tk H10 (wp_ret (then_ret (rt1 F12 (rv_tmp (fg0 F12)) ?_)))))))
  exact ⟨rfl, S11.fin0⟩
 refine wp_skip (ta H5 fun _ H14 => (ra (fg2 F8) (S7.ob 1 hc2) (vm (Sa (fg4 F8)) (fa 0 (Sb (fg1 F8)) (rL fv t0 (S7.ob 0 hc3) (fa 1 (Sd (fg1 F8)) (rL (.int .i64 (ii)) t0 (S7.ob 0 hc3) (wc (args4 (Se t0) (Sd t0) (Sb t0) t0) (kAt_c (C := C) (N := N) (Z := Z) (K := K) (Q := Q) (a := ii) (S7.roC h_lv) (S7.roC h_fv)) (fun _ w15 ⟨G_15, e, hg_15, hP15⟩ => ⟨_, e, ?_⟩)))))))))
 obtain ⟨cK_15, hcK_15, hP15⟩ := gen1 hP15
 have S15 := S7.j1 hP15
 refine vm t0 (vx (.agg #[G_15.1.1, G_15.2.1]) t0 (vx (.int .i64 ((atE (cfE C N Z K Q) (lgN C N Z K Q) K os full ii))) (Sa t0) (wA (#[.slice none 0 0, .slice none 0 0]) S15 (fun g16 w16 c16 hc16 S16 => xsB0 S16 hc16 V V V t0 (Sb t0) (by simp only [List.all_toArray, List.all_cons, List.all_nil, SlN_one (sl_SlN (gl_oa m1 (S16.cq 1 hcK_15))), SlN_one (sl_SlN (gl_ra m1 (S16.cq 1 hcK_15)))] <;> rfl) (fun w17 c17 hc17 S17 => va (Sa t0) (W_end (en (Kb (Qb (Qh F8))) fun A18 _ F18 => ta H14 fun _ H19 => (ra (fg4 F18) (S17.ob 3 hc2) (vm (Sa (fg6 F18)) (fa 0 (Sb (fg3 F18)) (rL fv t0 (S17.ob 2 hc3) (fa 1 (Sd (fg3 F18)) (rL (.int .i64 (ii)) t0 (S17.ob 2 hc3) (wc (args4 (Se t0) (Sd t0) (Sb t0) t0) (qAt_c (C := C) (N := N) (Z := Z) (K := K) (Q := Q) (a := ii) (S17.roC h_lv) (S17.roC h_fv)) (fun _ w20 ⟨G_20, e, hg_20, hP20⟩ => ⟨_, e, ?_⟩)))))))))))))))
 obtain ⟨cK_20, hcK_20, hP20⟩ := gen1 hP20
 have S20 := S17.j1 hP20
 refine vm t0 (vx (.agg #[G_20.1.1, G_20.2.1]) t0 (vx (.int .i64 ((atE (cfE C N Z K Q) (lgN C N Z K Q) K os full ii))) (Sa t0) (wA (#[.slice none 0 0, .slice none 0 0]) S20 (fun g21 w21 c21 hc21 S21 => xsB0 S21 hc21 V V V t0 (Sb t0) (by simp only [List.all_toArray, List.all_cons, List.all_nil, SlN_one (sl_SlN (gl_oa m1 (S21.cq 1 hcK_20))), SlN_one (sl_SlN (gl_ra m1 (S21.cq 1 hcK_20)))] <;> rfl) (fun w22 c22 hc22 S22 => va (Sa t0) (W_end (en (Kb (Qb (Qh F18))) fun A23 _ F23 => ta H19 fun _ H24 => (ra (fg6 F23) (S22.ob 5 hc2) (vm (Sa (fg8 F23)) (fa 0 (Sb (fg5 F23)) (rL fv t0 (S22.ob 4 hc3) (fa 1 (Sd (fg5 F23)) (rL (.int .i64 (ii)) t0 (S22.ob 4 hc3) (fa 2 (Sf (fg5 F23)) (rL (.int .i64 (jj)) t0 (S22.ob 4 hc3) (wc (args5 (Sg t0) (Sf t0) (Sd t0) (Sb t0) t0) (kLf_c (C := C) (N := N) (Z := Z) (K := K) (Q := Q) (a := ii) (b := jj) (S22.roC h_lv) (S22.roC h_fv)) (C0 S22 fun w25 S25 => vm t0 (vx (.int .i64 ((lfF (cfE C N Z K Q) (lgN C N Z K Q) K os full ii jj).1)) t0 (vx (.int .i64 ((lfF (cfE C N Z K Q) (lgN C N Z K Q) K os full ii jj).2)) (Sa t0) (va (Sa t0) (va (Sa t0) (W_end (en (Kb (Qd (Qh F23))) fun A26 _ F26 => ta H24 fun _ H27 => (ra (fg8 F26) (S25.ob 5 hc2) (vm (Sa (fg10 F26)) (fa 0 (Sb (fg7 F26)) (rL fv t0 (S25.ob 4 hc3) (fa 1 (Sd (fg7 F26)) (rL (.int .i64 (ii)) t0 (S25.ob 4 hc3) (fa 2 (Sf (fg7 F26)) (rL (.int .i64 (jj)) t0 (S25.ob 4 hc3) (wc (args5 (Sg t0) (Sf t0) (Sd t0) (Sb t0) t0) (qLf_c (C := C) (N := N) (Z := Z) (K := K) (Q := Q) (a := ii) (b := jj) (S25.roC h_lv) (S25.roC h_fv)) (C0 S25 fun w28 S28 => vm t0 (vx (.int .i64 ((lfF (cfE C N Z K Q) (lgN C N Z K Q) K os full ii jj).1)) t0 (vx (.int .i64 ((lfF (cfE C N Z K Q) (lgN C N Z K Q) K os full ii jj).2)) (Sa t0) (va (Sa t0) (va (Sa t0) (W_end (en (Kb (Qd (Qh F26))) fun A29 _ F29 => ?_)))))))))))))))))))))))))))))))))))))))
 have S30 := S28.se [0, 1, 2, 3] [c22, cK_20, c17, cK_15]
 refine ta H27 fun _ H31 => (ra (fg7 F29) (S30.ob 2 hc17) (ra (Sa (fg5 F29)) (S30.ob 0 hc22) (wc (args2 (Sa t0) t0) (qsm_c (gl_oaR m1 (S30.cC 3 hcK_15)) (gl_naR m1 (S30.cC 3 hcK_15)) (gl_raR m1 (S30.cC 3 hcK_15)) (gl_oaR m1 (S30.cC 1 hcK_20)) (gl_naR m1 (S30.cC 1 hcK_20)) (gl_raR m1 (S30.cC 1 hcK_20))) (C0 S30 fun w32 S32 => W_sure (c' := true) V V (V_mov V t0) (as_sm (G := G_15) (hg_20.trans hg_15.symm)) (wg V t0 (uvm (Sd (fg6 F29))) (wg V (Sa t0) (uvm (Se (fg4 F29))) (wg V (Sb t0) (uve (Sa t0) t0) (vT (Sc t0) t0 (W_sure (c' := true) V V (V_mov V t0) Zo (wg V t0 (uvm (Sh (Sa (fg3 F29)))) (wg V (Sa t0) (uvm (Sh (Sb (fg1 F29)))) (wg V (Sb t0) (uve (Sa t0) t0) (vT (Sc t0) t0 (W_sure (c' := true) V V (V_mov V t0) Zo (wg V t0 (uvm (Sh (Sf (fg2 F29)))) (wg V (Sa t0) (uvm (Sh (Sg (fg0 F29)))) (wg V (Sb t0) (uve (Sa t0) t0) (vT (Sc t0) t0 (W_sure (c' := true) V V (V_mov V t0) Zo (W_call V (xwt V V t0) V Tryz.func8 kr V args0 (kshn_c  ) (C0 S32 fun w33 S33 => vT (Sa t0) t0 (vt (W_end (en (Ka (Qe (Qh (Qh F29)))) fun A34 _ F34 => tk H31 (wp_ret (rt1 F34 (rv_tmp (fg0 F34)) ?_))))))))))))))))))))))))))
 exact ⟨rfl, S33.fin0⟩

end Go.Proofs.YtpgkfndbfocibaaGreat