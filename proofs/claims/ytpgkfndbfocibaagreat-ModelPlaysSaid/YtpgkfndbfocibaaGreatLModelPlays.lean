import Derived.Test.YtpgkfndbfocibaaGreatProg
import Derived.Test.YtpgkfndbfocibaaGreatSqL
import Derived.Test.YtpgkfndbfocibaaGreatMs14
import Derived.Test.YtpgkfndbfocibaaGreatSep29g
import Derived.Test.YtpgkfndbfocibaaGreatMt4
import Derived.Test.YtpgkfndbfocibaaGreatPl29l
namespace Go.Proofs.YtpgkfndbfocibaaGreat
open Go.RowKit Go.Own Go.Own.R Go.Own.G Go.Own.Gr Go.Own.Ml


set_option maxHeartbeats 4000000 in
theorem ModelPlays_c {C N Z K Q : Int} {lv : Value} {os : List OpC} {fv : Value} {full : List Int} {w : World} (h_lv : Ro w NoX (rl 7 opC lv os)) (h_fv : Ro w NoX (il .i64 fv full))  :
  Calls Tryz.prog 3 #[.agg #[.int .i64 C, .int .i64 N, .int .i64 Z, .int .i64 K, .int .i64 Q], lv, fv] w fun e w' => e = .returned (.bool true) ∧ St w NoX [] w' := by
 refine ci3 86 Tryz.func3 V (fun A0 _ F0 => ?_)
 have hS := St.nil w
 have bh_lv := SlN.le (sl_SlN h_lv.at)
 have bh_fv := SlN.le (sl_SlN h_fv.at)
 refine tb fun _ H1 => (wB (#[.int .i64 (C), .int .i64 (N), .int .i64 (Z), .int .i64 (K), .int .i64 (Q)]) hS (fg0 F0) (fun g2 w2 c2 hc2 S2 => vc (W_end (en (Qa (Ka F0)) fun A3 _ F3 => tc H1 fun _ H4 => tb fun _ H5 => (vm (fg2 F3) (vm (Sa (fg3 F3)) (wc (args2 (Sa t0) t0) (kfar_c (S2.roC h_lv) (S2.roC h_fv)) (C0 S2 fun w6 S6 => W_end (en (Ka (Qb F3)) fun A7 _ F7 => tk H5 (cd (fg0 F7) (fun c8 => ?_) fun c8 => ?_))))))))))
 ·refine tb fun _ H9 => (wc args0 (kshn_c  ) (C0 S6 fun w10 S10 => vt (W_end (en (Ka (Qa F7)) fun A11 _ F11 => tk H9 (wp_ret (then_ret (rt1 F11 (rv_tmp (fg0 F11)) ?_)))))))
  exact ⟨rfl, S10.fin0⟩
 refine wp_skip (ta H4 fun _ H13 => (ra (fg1 F7) (S6.ob 0 hc2) (vm (Sa (fg3 F7)) (vm (Sb (fg4 F7)) (wc (args3 (Sb t0) (Sa t0) t0) (kPl_c (C := C) (N := N) (Z := Z) (K := K) (Q := Q) (S6.roC h_lv) (S6.roC h_fv)) ?_)))))
 rintro _ w14 (⟨rfl, hz_14, hP14⟩ | ⟨G_14, av_14, rfl, hz_14, hg_14, hP14⟩)
 ·refine ⟨_, rfl, ?_⟩
  have S14 := S6.j0 hP14
  refine vm t0 (vx (.agg #[.slice none 0 0, .slice none 0 0]) t0 (vx (.slice none 0 0) (Sa t0) (vx (.int .i64 ((plF (cfE C N Z K Q) (lgN C N Z K Q) K os full).1)) (Sb t0) (vx (.int .i64 ((plF (cfE C N Z K Q) (lgN C N Z K Q) K os full).2)) (Sc t0) (wA (#[.slice none 0 0, .slice none 0 0]) S14 (fun g15 w15 c15 hc15 S15 => xsA0 S15 hc15 V V V t0 (Sd t0) (fun w16 c16 hc16 S16 => va (Sc t0) (va (Sc t0) (va (Sc t0) (W_end (en (Kd (Qa (Qh F7))) fun A17 _ F17 => ta H13 fun _ H18 => (ra (fg5 F17) (S16.ob 1 hc2) (vm (Sa (fg7 F17)) (vm (Sb (fg8 F17)) (wc (args3 (Sb t0) (Sa t0) t0) (qPl_c (C := C) (N := N) (Z := Z) (K := K) (Q := Q) (S16.roC h_lv) (S16.roC h_fv)) ?_)))))))))))))))
  rintro _ w19 (⟨rfl, hz_19, hP19⟩ | ⟨G_19, av_19, rfl, hz_19, hg_19, hP19⟩)
  ·refine ⟨_, rfl, ?_⟩
   have S19 := S16.j0 hP19
   refine vm t0 (vx (.agg #[.slice none 0 0, .slice none 0 0]) t0 (vx (.slice none 0 0) (Sa t0) (vx (.int .i64 ((plF (cfE C N Z K Q) (lgN C N Z K Q) K os full).1)) (Sb t0) (vx (.int .i64 ((plF (cfE C N Z K Q) (lgN C N Z K Q) K os full).2)) (Sc t0) (wA (#[.slice none 0 0, .slice none 0 0]) S19 (fun g20 w20 c20 hc20 S20 => xsA0 S20 hc20 V V V t0 (Sd t0) (fun w21 c21 hc21 S21 => va (Sc t0) (va (Sc t0) (va (Sc t0) (W_end (en (Kd (Qa (Qh F17))) fun A22 _ F22 => ta H18 fun _ H23 => (ra (fg9 F22) (S21.ob 2 hc2) (vm (Sa (fg11 F22)) (vm (Sb (fg12 F22)) (wc (args3 (Sb t0) (Sa t0) t0) (kLi_c (C := C) (N := N) (Z := Z) (K := K) (Q := Q) (S21.roC h_lv) (S21.roC h_fv)) ?_)))))))))))))))
   rintro _ w24 (⟨rfl, hz_24, hP24⟩ | ⟨lw_24, rfl, hz_24, hP24⟩)
   ·refine ⟨_, rfl, ?_⟩
    have S24 := S21.j0 hP24
    refine vm t0 (vx (.slice none 0 0) t0 (vx (.int .i64 ((plF (cfE C N Z K Q) (lgN C N Z K Q) K os full).2)) (Sa t0) (va (Sa t0) (va (Sa t0) (W_end (en (Kb (Qg F22)) fun A25 _ F25 => ta H23 fun _ H26 => (ra (fg11 F25) (S24.ob 2 hc2) (vm (Sa (fg13 F25)) (vm (Sb (fg14 F25)) (wc (args3 (Sb t0) (Sa t0) t0) (qLi_c (C := C) (N := N) (Z := Z) (K := K) (Q := Q) (S24.roC h_lv) (S24.roC h_fv)) ?_))))))))))
    rintro _ w27 (⟨rfl, hz_27, hP27⟩ | ⟨lw_27, rfl, hz_27, hP27⟩)
    ·refine ⟨_, rfl, ?_⟩
     have S27 := S24.j0 hP27
     refine vm t0 (vx (.slice none 0 0) t0 (vx (.int .i64 ((plF (cfE C N Z K Q) (lgN C N Z K Q) K os full).2)) (Sa t0) (va (Sa t0) (va (Sa t0) (W_end (en (Kb (Qg F25)) fun A28 _ F28 => ?_))))))
     have S29 := S27.se [0, 1] [c21, c16]
     refine ta H26 fun _ H30 => (ra (fg11 F28) (S29.ob 1 hc16) (ra (Sa (fg7 F28)) (S29.ob 0 hc21) (wc (args2 (Sa t0) t0) (qsm_c (O := []) (ov := .slice none 0 0) (rs := []) (rv := .slice none 0 0) (O2 := []) (ov2 := .slice none 0 0) (rs2 := []) (rv2 := .slice none 0 0) ro_nil nst_nil ro_nil ro_nil nst_nil ro_nil) (C0 S29 fun w31 S31 => W_sure (c' := true) V V (V_mov V t0) rfl (wg V t0 (uvm (Sd (fg10 F28))) (wg V (Sa t0) (uvm (Se (fg6 F28))) (W_call V (xwt V V (Sb t0)) V Tryz.func14 kr V (args2 (Sa t0) t0) (ksm29_c (xs := []) (xv := .slice none 0 0) (ys := []) (yv := .slice none 0 0) ro_nil ro_nil) (C0 S31 fun w32 S32 => vT (Sc t0) t0 (W_sure (c' := true) V V (V_mov V t0) Zm (wg V t0 (uvm (Sh (Sa (fg9 F28)))) (wg V (Sa t0) (uvm (Sh (Sb (fg5 F28)))) (wg V (Sb t0) (uve (Sa t0) t0) (vT (Sc t0) t0 (W_sure (c' := true) V V (V_mov V t0) Zm (wg V t0 (uvm (Sh (Sf (fg8 F28)))) (wg V (Sa t0) (uvm (Sh (Sg (fg4 F28)))) (wg V (Sb t0) (uve (Sa t0) t0) (vT (Sc t0) t0 (W_sure (c' := true) V V (V_mov V t0) Zm (wg V t0 (uvm (Sh (Sh (Sc (fg3 F28))))) (wg V (Sa t0) (uvm (Sh (Sh (Sd (fg1 F28))))) (W_call V (xwt V V (Sb t0)) V Tryz.func15 kr V (args2 (Sa t0) t0) (qInts_c (xs := []) (xv := .slice none 0 0) (ys := []) (yv := .slice none 0 0) ro_nil ro_nil) (C0 S32 fun w33 S33 => vT (Sc t0) t0 (W_sure (c' := true) V V (V_mov V t0) Zm (wg V t0 (uvm (Sh (Sh (Sh (fg2 F28))))) (wg V (Sa t0) (uvm (Sh (Sh (Sh (Sa (fg0 F28)))))) (wg V (Sb t0) (uve (Sa t0) t0) (vT (Sc t0) t0 (W_sure (c' := true) V V (V_mov V t0) Zm (W_call V (xwt V V t0) V Tryz.func8 kr V args0 (kshn_c  ) (C0 S33 fun w34 S34 => vT (Sa t0) t0 (vt (W_end (en (Ka (Qg (Qh (Qh (Qh F28))))) fun A35 _ F35 => tk H30 (wp_ret (rt1 F35 (rv_tmp (fg0 F35)) ?_))))))))))))))))))))))))))))))))))))
     exact ⟨rfl, S34.fin0⟩
    refine ⟨_, rfl, ?_⟩
    obtain ⟨cL_27, hcL_27, hP27⟩ := gen1 hP27
    have S27 := S24.j1 hP27
    exact absurd (by rw [hz_27]) hz_14
   refine ⟨_, rfl, ?_⟩
   obtain ⟨cL_24, hcL_24, hP24⟩ := gen1 hP24
   have S24 := S21.j1 hP24
   exact absurd (by rw [hz_24]) hz_14
  refine ⟨_, rfl, ?_⟩
  obtain ⟨cK_19, cA_19, hcK_19, hcA_19, hP19⟩ := gen2 hP19
  have S19 := S16.j2 hP19
  exact absurd (by rw [hz_19]) hz_14
 refine ⟨_, rfl, ?_⟩
 obtain ⟨cK_14, cA_14, hcK_14, hcA_14, hP14⟩ := gen2 hP14
 have S14 := S6.j2 hP14
 refine vm t0 (vx (.agg #[G_14.1.1, G_14.2.1]) t0 (vx av_14 (Sa t0) (vx (.int .i64 0) (Sb t0) (vx (.int .i64 0) (Sc t0) (wA (#[.slice none 0 0, .slice none 0 0]) S14 (fun g37 w37 c37 hc37 S37 => xsB0 S37 hc37 V V V t0 (Sd t0) (by simp only [List.all_toArray, List.all_cons, List.all_nil, SlN_one (sl_SlN (gl_oa m1 (S37.cq 1 hcK_14))), SlN_one (sl_SlN (gl_ra m1 (S37.cq 1 hcK_14)))] <;> rfl) (fun w38 c38 hc38 S38 => va (Sc t0) (va (Sc t0) (va (Sc t0) (W_end (en (Kd (Qa (Qh F7))) fun A39 _ F39 => ta H13 fun _ H40 => (ra (fg5 F39) (S38.ob 3 hc2) (vm (Sa (fg7 F39)) (vm (Sb (fg8 F39)) (wc (args3 (Sb t0) (Sa t0) t0) (qPl_c (C := C) (N := N) (Z := Z) (K := K) (Q := Q) (S38.roC h_lv) (S38.roC h_fv)) ?_)))))))))))))))
 rintro _ w41 (⟨rfl, hz_41, hP41⟩ | ⟨G_41, av_41, rfl, hz_41, hg_41, hP41⟩)
 ·refine ⟨_, rfl, ?_⟩
  have S41 := S38.j0 hP41
  exact absurd (by rw [hz_14]) hz_41
 refine ⟨_, rfl, ?_⟩
 obtain ⟨cK_41, cA_41, hcK_41, hcA_41, hP41⟩ := gen2 hP41
 have S41 := S38.j2 hP41
 refine vm t0 (vx (.agg #[G_41.1.1, G_41.2.1]) t0 (vx av_41 (Sa t0) (vx (.int .i64 0) (Sb t0) (vx (.int .i64 0) (Sc t0) (wA (#[.slice none 0 0, .slice none 0 0]) S41 (fun g42 w42 c42 hc42 S42 => xsB0 S42 hc42 V V V t0 (Sd t0) (by simp only [List.all_toArray, List.all_cons, List.all_nil, SlN_one (sl_SlN (gl_oa m1 (S42.cq 1 hcK_41))), SlN_one (sl_SlN (gl_ra m1 (S42.cq 1 hcK_41)))] <;> rfl) (fun w43 c43 hc43 S43 => va (Sc t0) (va (Sc t0) (va (Sc t0) (W_end (en (Kd (Qa (Qh F39))) fun A44 _ F44 => ta H40 fun _ H45 => (ra (fg9 F44) (S43.ob 6 hc2) (vm (Sa (fg11 F44)) (vm (Sb (fg12 F44)) (wc (args3 (Sb t0) (Sa t0) t0) (kLi_c (C := C) (N := N) (Z := Z) (K := K) (Q := Q) (S43.roC h_lv) (S43.roC h_fv)) ?_)))))))))))))))
 rintro _ w46 (⟨rfl, hz_46, hP46⟩ | ⟨lw_46, rfl, hz_46, hP46⟩)
 ·refine ⟨_, rfl, ?_⟩
  have S46 := S43.j0 hP46
  exact absurd (by rw [hz_14]) hz_46
 refine ⟨_, rfl, ?_⟩
 obtain ⟨cL_46, hcL_46, hP46⟩ := gen1 hP46
 have S46 := S43.j1 hP46
 refine vm t0 (vx lw_46 t0 (vx (.int .i64 0) (Sa t0) (va (Sa t0) (va (Sa t0) (W_end (en (Kb (Qg F44)) fun A47 _ F47 => ta H45 fun _ H48 => (ra (fg11 F47) (S46.ob 7 hc2) (vm (Sa (fg13 F47)) (vm (Sb (fg14 F47)) (wc (args3 (Sb t0) (Sa t0) t0) (qLi_c (C := C) (N := N) (Z := Z) (K := K) (Q := Q) (S46.roC h_lv) (S46.roC h_fv)) ?_))))))))))
 rintro _ w49 (⟨rfl, hz_49, hP49⟩ | ⟨lw_49, rfl, hz_49, hP49⟩)
 ·refine ⟨_, rfl, ?_⟩
  have S49 := S46.j0 hP49
  exact absurd (by rw [hz_14]) hz_49
 refine ⟨_, rfl, ?_⟩
 obtain ⟨cL_49, hcL_49, hP49⟩ := gen1 hP49
 have S49 := S46.j1 hP49
 refine vm t0 (vx lw_49 t0 (vx (.int .i64 0) (Sa t0) (va (Sa t0) (va (Sa t0) (W_end (en (Kb (Qg F47)) fun A50 _ F50 => ?_))))))
 have S51 := S49.se [0, 1, 2, 3, 4, 5, 6, 7] [cL_49, cL_46, c43, cK_41, cA_41, c38, cK_14, cA_14]
 refine ta H48 fun _ H52 => (ra (fg11 F50) (S51.ob 5 hc38) (ra (Sa (fg7 F50)) (S51.ob 2 hc43) (wc (args2 (Sa t0) t0) (qsm_c (gl_oaR m1 (S51.cC 6 hcK_14)) (gl_naR m1 (S51.cC 6 hcK_14)) (gl_raR m1 (S51.cC 6 hcK_14)) (gl_oaR m1 (S51.cC 3 hcK_41)) (gl_naR m1 (S51.cC 3 hcK_41)) (gl_raR m1 (S51.cC 3 hcK_41))) (C0 S51 fun w53 S53 => W_sure (c' := true) V V (V_mov V t0) (as_sm (G := G_14) (hg_41.trans hg_14.symm)) (wg V t0 (uvm (Sd (fg10 F50))) (wg V (Sa t0) (uvm (Se (fg6 F50))) (W_call V (xwt V V (Sb t0)) V Tryz.func14 kr V (args2 (Sa t0) t0) (ksm29_c (S53.cC 7 hcA_14).own (S53.cC 4 hcA_41).own) (C0 S53 fun w54 S54 => vT (Sc t0) t0 (W_sure (c' := true) V V (V_mov V t0) Zm (wg V t0 (uvm (Sh (Sa (fg9 F50)))) (wg V (Sa t0) (uvm (Sh (Sb (fg5 F50)))) (wg V (Sb t0) (uve (Sa t0) t0) (vT (Sc t0) t0 (W_sure (c' := true) V V (V_mov V t0) Zm (wg V t0 (uvm (Sh (Sf (fg8 F50)))) (wg V (Sa t0) (uvm (Sh (Sg (fg4 F50)))) (wg V (Sb t0) (uve (Sa t0) t0) (vT (Sc t0) t0 (W_sure (c' := true) V V (V_mov V t0) Zm (wg V t0 (uvm (Sh (Sh (Sc (fg3 F50))))) (wg V (Sa t0) (uvm (Sh (Sh (Sd (fg1 F50))))) (W_call V (xwt V V (Sb t0)) V Tryz.func15 kr V (args2 (Sa t0) t0) (qInts_c (S54.cC 1 hcL_46).own (S54.cC 0 hcL_49).own) (C0 S54 fun w55 S55 => vT (Sc t0) t0 (W_sure (c' := true) V V (V_mov V t0) Zm (wg V t0 (uvm (Sh (Sh (Sh (fg2 F50))))) (wg V (Sa t0) (uvm (Sh (Sh (Sh (Sa (fg0 F50)))))) (wg V (Sb t0) (uve (Sa t0) t0) (vT (Sc t0) t0 (W_sure (c' := true) V V (V_mov V t0) Zm (W_call V (xwt V V t0) V Tryz.func8 kr V args0 (kshn_c  ) (C0 S55 fun w56 S56 => vT (Sa t0) t0 (vt (W_end (en (Ka (Qg (Qh (Qh (Qh F50))))) fun A57 _ F57 => tk H52 (wp_ret (rt1 F57 (rv_tmp (fg0 F57)) ?_))))))))))))))))))))))))))))))))))))
 exact ⟨rfl, S56.fin0⟩

end Go.Proofs.YtpgkfndbfocibaaGreat