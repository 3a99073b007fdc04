import Derived.Test.YtpgkfndbfocibaaGreatProg
import Derived.Test.YtpgkfndbfocibaaGreatSqL
import Derived.Test.YtpgkfndbfocibaaGreatMs14
import Derived.Test.YtpgkfndbfocibaaGreatSep29g
import Derived.Test.YtpgkfndbfocibaaGreatMt2
import Derived.Test.YtpgkfndbfocibaaGreatPl29l
namespace Go.Proofs.YtpgkfndbfocibaaGreat
open Go.RowKit Go.Own Go.Own.R Go.Own.G Go.Own.Gr Go.Own.Ml


set_option maxHeartbeats 4000000 in
theorem ModelSteps_c {C N Z K Q : Int} {ov : Value} {O : List Ob} {rv : Value} {rs : List Int} {kd a b f p q uu : Int} {w : World} (h_ov : Ro w NoX (rl 2 obC ov O)) (n_ov : Ro w NoX (nst O)) (h_rv : Ro w NoX (il .i64 rv rs)) (hbulk : ∀ o ∈ (O.map ab), o.1.length ≤ 17592186044416 ∧ o.2.length ≤ 17592186044416) :
  Calls Tryz.prog 5 #[.agg #[.int .i64 C, .int .i64 N, .int .i64 Z, .int .i64 K, .int .i64 Q], .agg #[ov, rv], .agg #[.int .i64 kd, .int .i64 a, .int .i64 b, .int .i64 f, .int .i64 p, .int .i64 q, .int .u64 uu]] w fun e w' => e = .returned (.bool true) ∧ St w NoX [] w' := by
 refine ci3 56 Tryz.func5 V (fun A0 _ F0 => ?_)
 have hS := St.nil w
 have bh_ov := SlN.le (sl_SlN h_ov.at)
 have bh_rv := SlN.le (sl_SlN h_rv.at)
 refine tb fun _ H1 => (wB (#[.int .i64 (C), .int .i64 (N), .int .i64 (Z), .int .i64 (K), .int .i64 (Q)]) hS (fg0 F0) (fun g2 w2 c2 hc2 S2 => wB (#[ov, rv]) S2 (Sa (fg1 F0)) (fun g3 w3 c3 hc3 S3 => wB (#[.int .i64 (kd), .int .i64 (a), .int .i64 (b), .int .i64 (f), .int .i64 (p), .int .i64 (q), .int .u64 (uu)]) S3 (Sb (fg2 F0)) (fun g4 w4 c4 hc4 S4 => vc (W_end (en (Qa (Kc F0)) fun A5 _ F5 => tc H1 fun _ H6 => tb fun _ H7 => (ra (fg1 F5) (S4.ob 1 hc3) (wc (args1 t0) (far_c (S4.roC h_ov) (S4.roC n_ov) (S4.roC h_rv) Zc) (C0 S4 fun w8 S8 => W_end (en (Ka (Qa F5)) fun A9 _ F9 => tk H7 (cond_b (fg0 F9) (fun c10 => ?_) (fun c10 => ?_))))))))))))
 ·refine tb fun _ H11 => (wc args0 (kshn_c  ) (C0 S8 fun w12 S12 => vt (W_end (en (Ka (Qa F9)) fun A13 _ F13 => tk H11 (wp_ret (then_ret (rt1 F13 (rv_tmp (fg0 F13)) ?_)))))))
  exact ⟨rfl, S12.fin0⟩
 have hfar := far_no c10
 have hsm := hfar.2.2.2.1
 have hfr := hfar.1
 have hfo := hfar.2.1
 rw [List.length_map] at hfo
 refine wp_skip (ta H6 fun _ H15 => (ra (fg2 F9) (S8.ob 1 hc3) (wc (args1 t0) ((glC (F := fun a_ b_ => .agg #[a_, b_]) (qCn_c (S8.roC h_ov) (S8.roC n_ov) (S8.roC h_rv) Zc (by first | omega | (have q := hG.r8; omega)) (by first | omega | (have q := hG.o4; rw [List.length_map] at q; omega))))) ?_)))
 rintro _ w16 ⟨hv_16, H_16, qv_16, q_16, rfl, hg_16, hP16⟩
 refine ⟨_, rfl, ?_⟩
 obtain ⟨cK_16, hcK_16, hP16⟩ := gen1 hP16
 have S16 := S8.j1 hP16
 refine wA (#[.slice none 0 0, .slice none 0 0]) S16 (fun g17 w17 c17 hc17 S17 => xsB0 S17 hc17 V V V t0 (Sa t0) (by simp only [List.all_toArray, List.all_cons, List.all_nil, SlN_one (sl_SlN (gl_oa m1 (S17.cq 1 hcK_16))), SlN_one (sl_SlN (gl_ra m1 (S17.cq 1 hcK_16)))] <;> rfl) (fun w18 c18 hc18 S18 => W_end (en (Ka (Qb F9)) fun A19 _ F19 => ta H15 fun _ H20 => (ra (fg4 F19) (S18.ob 4 hc2) (ra (Sa (fg3 F19)) (S18.ob 3 hc3) (ra (Sb (fg2 F19)) (S18.ob 2 hc4) (wc (args3 (Sb t0) (Sa t0) t0) (kst_c (C := C) (N := N) (Z := Z) (K := K) (Q := Q) (G := ((ov, O), (rv, rs))) (kd := kd) (a := a) (b := b) (f := f) (p := p) (q := q) (uu := uu) (gl_mk (S18.roC h_ov) (S18.roC n_ov) (S18.roC h_rv)) (by first | with_reducible assumption | exact hsm)) ?_)))))))
 rintro _ w21 ⟨ho1_21, Ho1_21, qo1_21, so1_21, rfl, hg_21, hP21⟩
 refine ⟨_, rfl, ?_⟩
 obtain ⟨cK_21, hcK_21, hP21⟩ := gen1 hP21
 have S21 := S18.j1 hP21
 refine vm t0 (vx (.agg #[ho1_21, qo1_21]) t0 (vx (.agg #[.int .i64 ((stA (cfE C N Z K Q) (lgN C N Z K Q) K (gab ((ov, O), (rv, rs))) (⟨kd, a, b, f, p, q, uu⟩ : OpC)).e), .bool ((stA (cfE C N Z K Q) (lgN C N Z K Q) K (gab ((ov, O), (rv, rs))) (⟨kd, a, b, f, p, q, uu⟩ : OpC)).t), .int .u64 ((stA (cfE C N Z K Q) (lgN C N Z K Q) K (gab ((ov, O), (rv, rs))) (⟨kd, a, b, f, p, q, uu⟩ : OpC)).v)]) (Sa t0) (vx (.int .i64 ((stE (cfE C N Z K Q) K (gab ((ov, O), (rv, rs))) (⟨kd, a, b, f, p, q, uu⟩ : OpC)))) (Sb t0) (wA (#[.slice none 0 0, .slice none 0 0]) S21 (fun g22 w22 c22 hc22 S22 => wA (#[.int .i64 0, .bool false, .int .u64 0]) S22 (fun g23 w23 c23 hc23 S23 => xsB1 S23 hc22 V V V (Sa t0) (Sd t0) (by simp only [List.all_toArray, List.all_cons, List.all_nil, SlN_one (sl_SlN (gl_oa m1 (S23.cq 2 hcK_21))), SlN_one (sl_SlN (gl_ra m1 (S23.cq 2 hcK_21)))] <;> rfl) (fun w24 c24 hc24 S24 => xsA0 S24 hc23 V V V t0 (Sc t0) (fun w25 c25 hc25 S25 => va (Sb t0) (W_end (en (Kc (Qh F19)) fun A26 _ F26 => ta H20 fun _ H27 => (ra (fg7 F26) (S25.ob 7 hc2) (ra (Sa (fg6 F26)) (S25.ob 6 hc3) (ra (Sb (fg5 F26)) (S25.ob 5 hc4) (wc (args3 (Sb t0) (Sa t0) t0) (qst_c (C := C) (N := N) (Z := Z) (K := K) (Q := Q) (G := ((ov, O), (rv, rs))) (kd := kd) (a := a) (b := b) (f := f) (p := p) (q := q) (uu := uu) (gl_mk (S25.roC h_ov) (S25.roC n_ov) (S25.roC h_rv)) (by first | with_reducible assumption | exact hsm)) ?_))))))))))))))
 rintro _ w28 ⟨ho1_28, Ho1_28, qo1_28, so1_28, rfl, hg_28, hP28⟩
 refine ⟨_, rfl, ?_⟩
 obtain ⟨cK_28, hcK_28, hP28⟩ := gen1 hP28
 have S28 := S25.j1 hP28
 refine vm t0 (vx (.agg #[ho1_28, qo1_28]) t0 (vx (.agg #[.int .i64 ((stA (cfE C N Z K Q) (lgN C N Z K Q) K (gab ((ov, O), (rv, rs))) (⟨kd, a, b, f, p, q, uu⟩ : OpC)).e), .bool ((stA (cfE C N Z K Q) (lgN C N Z K Q) K (gab ((ov, O), (rv, rs))) (⟨kd, a, b, f, p, q, uu⟩ : OpC)).t), .int .u64 ((stA (cfE C N Z K Q) (lgN C N Z K Q) K (gab ((ov, O), (rv, rs))) (⟨kd, a, b, f, p, q, uu⟩ : OpC)).v)]) (Sa t0) (vx (.int .i64 ((stE (cfE C N Z K Q) K (gab ((ov, O), (rv, rs))) (⟨kd, a, b, f, p, q, uu⟩ : OpC)))) (Sb t0) (wA (#[.slice none 0 0, .slice none 0 0]) S28 (fun g29 w29 c29 hc29 S29 => wA (#[.int .i64 0, .bool false, .int .u64 0]) S29 (fun g30 w30 c30 hc30 S30 => xsB1 S30 hc29 V V V (Sa t0) (Sd t0) (by simp only [List.all_toArray, List.all_cons, List.all_nil, SlN_one (sl_SlN (gl_oa m1 (S30.cq 2 hcK_28))), SlN_one (sl_SlN (gl_ra m1 (S30.cq 2 hcK_28)))] <;> rfl) (fun w31 c31 hc31 S31 => xsA0 S31 hc30 V V V t0 (Sc t0) (fun w32 c32 hc32 S32 => va (Sb t0) (W_end (en (Kc (Qh F26)) fun A33 _ F33 => ?_))))))))))
 have S34 := S32.se [0, 1, 2, 3, 4, 5, 6, 7, 9] [c32, c31, cK_28, c25, c24, cK_21, c18, cK_16, c3]
 refine ta H27 fun _ H35 => (ra (fg5 F33) (S34.ob 4 hc24) (ra (Sa (fg2 F33)) (S34.ob 1 hc31) (wc (args2 (Sa t0) t0) (qsm_c (gl_oaR m1 (S34.cC 5 hcK_21)) (gl_naR m1 (S34.cC 5 hcK_21)) (gl_raR m1 (S34.cC 5 hcK_21)) (gl_oaR m1 (S34.cC 2 hcK_28)) (gl_naR m1 (S34.cC 2 hcK_28)) (gl_raR m1 (S34.cC 2 hcK_28))) (C0 S34 fun w36 S36 => W_sure (c' := true) V V (V_mov V t0) (as_sm (G := ((ho1_21, Ho1_21), (qo1_21, so1_21))) (hg_28.trans hg_21.symm)) (wq V t0 (ura (Sd (fg4 F33)) (S36.ob 3 hc25)) (wq V (Sa t0) (ura (Se (fg1 F33)) (S36.ob 0 hc32)) (wg V (Sb t0) (V_eqStA V (Sa t0) t0 kr) (vT (Sc t0) t0 (W_sure (c' := true) V V (V_mov V t0) Zl (wg V t0 (uvm (Sh (Sa (fg3 F33)))) (wg V (Sa t0) (uvm (Sh (Sb (fg0 F33)))) (wg V (Sb t0) (uve (Sa t0) t0) (vT (Sc t0) t0 (W_sure (c' := true) V V (V_mov V t0) Zl (wq V t0 (ura (Sh (Sf (fg9 F33))) (S36.ob 8 hc3)) (wq V (Sa t0) (ura (Sh (Sg (fg6 F33))) (S36.ob 6 hc18)) (W_call V (xwt V V (Sb t0)) V Tryz.func13 kr V (args2 (Sa t0) t0) (qsm_c (S36.roC h_ov) (S36.roC n_ov) (S36.roC h_rv) (gl_oaR m1 (S36.cC 7 hcK_16)) (gl_naR m1 (S36.cC 7 hcK_16)) (gl_raR m1 (S36.cC 7 hcK_16))) (C0 S36 fun w37 S37 => vT (Sc t0) t0 (W_sure (c' := true) V V (V_mov V t0) (as_sm (G := ((ov, O), (rv, rs))) hg_16) (W_call V (xwt V V t0) V Tryz.func8 kr V args0 (kshn_c  ) (C0 S37 fun w38 S38 => vT (Sa t0) t0 (vt (W_end (en (Ka (Qe (Qh (Qh F33)))) fun A39 _ F39 => tk H35 (wp_ret (rt1 F39 (rv_tmp (fg0 F39)) ?_))))))))))))))))))))))))))
 exact ⟨rfl, S38.fin0⟩

end Go.Proofs.YtpgkfndbfocibaaGreat