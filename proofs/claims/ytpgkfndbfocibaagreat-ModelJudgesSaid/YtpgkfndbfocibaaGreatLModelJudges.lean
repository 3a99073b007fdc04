import Derived.Test.YtpgkfndbfocibaaGreatProg
import Derived.Test.YtpgkfndbfocibaaGreatSqL
import Derived.Test.YtpgkfndbfocibaaGreatMs14
import Derived.Test.YtpgkfndbfocibaaGreatSep29g
import Derived.Test.YtpgkfndbfocibaaGreatMt3
namespace Go.Proofs.YtpgkfndbfocibaaGreat
open Go.RowKit Go.Own Go.Own.R Go.Own.G Go.Own.Gr Go.Own.Ml


set_option maxHeartbeats 4000000 in
theorem ModelJudges_c {C N Z K Q : Int} {lv : Value} {os : List OpC} {av : Value} {ans : List AnC} {w : World} (h_lv : Ro w NoX (rl 7 opC lv os)) (h_av : Ro w NoX (rl 3 anC av ans)) (hvr : ∀ x ∈ ans, 0 ≤ x.v ∧ x.v ≤ 18446744073709551615) :
  Calls Tryz.prog 6 #[.agg #[.int .i64 C, .int .i64 N, .int .i64 Z, .int .i64 K, .int .i64 Q], lv, av] w fun e w' => e = .returned (.bool true) ∧ St w NoX [] w' := by
 refine ci3 53 Tryz.func6 V (fun A0 _ F0 => ?_)
 have hS := St.nil w
 have bh_lv := SlN.le (sl_SlN h_lv.at)
 have bh_av := SlN.le (sl_SlN h_av.at)
 refine tb fun _ H1 => (wB (#[.int .i64 (C), .int .i64 (N), .int .i64 (Z), .int .i64 (K), .int .i64 (Q)]) hS (fg0 F0) (fun g2 w2 c2 hc2 S2 => vc (W_end (en (Qa (Ka F0)) fun A3 _ F3 => tc H1 fun _ H4 => tb fun _ H5 => (vm (fg2 F3) (wc (args2 t0 V) (kfar_c (full := []) (fv := .slice none 0 0) (S2.roC h_lv) ro_nil) (C0 S2 fun w6 S6 => W_split V V (V_mov V t0) (fun c7 => ?_) (fun c7 => ?_))))))))
 ·refine xo V t0 (xo V (Sa t0) (xo V (Sb t0) (vT (Sc t0) V (W_end (en (Ka (Qf F3)) fun A8 _ F8 => tk H5 (cond_t (fg0 F8) (tb fun _ H9 => (wc args0 (kshn_c  ) (C0 S6 fun w10 S10 => vt (W_end (en (Ka (Qa F8)) fun A11 _ F11 => tk H9 (wp_ret (then_ret (rt1 F11 (rv_tmp (fg0 F11)) ?_))))))))))))))
  exact ⟨rfl, S10.fin0⟩
 refine wg V t0 (uvm (Sc (fg3 F3))) (wg V (Sa t0) (ule_ t0 (sl_SlN h_av.at)) (wg V (Sb t0) (uvg t0 V) (vF (Sc t0) t0 (W_end (en (Ka (Qf F3)) fun A13 _ F13 => tk H5 (cd (fg0 F13) (fun c14 => ?_) fun c14 => ?_))))))
 ·refine tb fun _ H15 => (wc args0 (kshn_c  ) (C0 S6 fun w16 S16 => vt (W_end (en (Ka (Qa F13)) fun A17 _ F17 => tk H15 (wp_ret (then_ret (rt1 F17 (rv_tmp (fg0 F17)) ?_)))))))
  exact ⟨rfl, S16.fin0⟩
 refine wp_skip (ta H4 fun _ H19 => (ra (fg1 F13) (S6.ob 0 hc2) (vm (Sa (fg3 F13)) (vm (Sb (fg4 F13)) (wc (args3 (Sb t0) (Sa t0) t0) (kjd_u (C := C) (N := N) (Z := Z) (K := K) (Q := Q) (S6.roC h_lv) (S6.roC h_av) Zh) (fun _ w20 ⟨rw_20, e, hP20⟩ => ⟨_, e, ?_⟩))))))
 obtain ⟨cL_20, hcL_20, hP20⟩ := gen1 hP20
 have S20 := S6.j1 hP20
 refine vm t0 (vx rw_20 t0 (vx (.int .i64 ((jdF (cfE C N Z K Q) (lgN C N Z K Q) K os ans).1)) (Sa t0) (vx (.int .i64 ((jdF (cfE C N Z K Q) (lgN C N Z K Q) K os ans).2)) (Sb t0) (va (Sb t0) (va (Sb t0) (va (Sb t0) (W_end (en (Kc (Qh F13)) fun A21 _ F21 => ta H19 fun _ H22 => (ra (fg4 F21) (S20.ob 1 hc2) (vm (Sa (fg6 F21)) (vm (Sb (fg7 F21)) (wc (args3 (Sb t0) (Sa t0) t0) (qjd_c (C := C) (N := N) (Z := Z) (K := K) (Q := Q) (S20.roC h_lv) (S20.roC h_av) Zc) (fun _ w23 ⟨rw_23, e, hP23⟩ => ⟨_, e, ?_⟩)))))))))))))
 obtain ⟨cL_23, hcL_23, hP23⟩ := gen1 hP23
 have S23 := S20.j1 hP23
 refine vm t0 (vx rw_23 t0 (vx (.int .i64 ((jdF (cfE C N Z K Q) (lgN C N Z K Q) K os ans).1)) (Sa t0) (vx (.int .i64 ((jdF (cfE C N Z K Q) (lgN C N Z K Q) K os ans).2)) (Sb t0) (va (Sb t0) (va (Sb t0) (va (Sb t0) (W_end (en (Kc (Qh F21)) fun A24 _ F24 => ?_))))))))
 have S25 := S23.se [0, 1] [cL_23, cL_20]
 refine ta H22 fun _ H26 => (vm (fg5 F24) (vm (Sa (fg2 F24)) (wc (args2 (Sa t0) t0) (qInts_c (S25.cC 1 hcL_20).own (S25.cC 0 hcL_23).own) (C0 S25 fun w27 S27 => W_sure (c' := true) V V (V_mov V t0) Zj (wg V t0 (uvm (Sd (fg4 F24))) (wg V (Sa t0) (uvm (Se (fg1 F24))) (wg V (Sb t0) (uve (Sa t0) t0) (vT (Sc t0) t0 (W_sure (c' := true) V V (V_mov V t0) Zj (wg V t0 (uvm (Sh (Sa (fg3 F24)))) (wg V (Sa t0) (uvm (Sh (Sb (fg0 F24)))) (wg V (Sb t0) (uve (Sa t0) t0) (vT (Sc t0) t0 (W_sure (c' := true) V V (V_mov V t0) Zj (W_call V (xwt V V t0) V Tryz.func8 om V args0 (kshn_c  ) (C0 S27 fun w28 S28 => vT (Sa t0) t0 (vt (W_end (en (Ka (Qh (Qh F24))) fun A29 _ F29 => tk H26 (wp_ret (rt1 F29 (rv_tmp (fg0 F29)) ?_)))))))))))))))))))))
 exact ⟨rfl, S28.fin0⟩

end Go.Proofs.YtpgkfndbfocibaaGreat