import Derived.Test.YtpgkfndbfocibaaProg
import Derived.Test.YtpgkfndbfocibaaMs14
import Derived.Test.YtpgkfndbfocibaaSep29g
import Derived.Test.YtpgkfndbfocibaaMs16
import Derived.Test.YtpgkfndbfocibaaPl29l
namespace Go.Proofs.Ytpgkfndbfocibaa
open Go.RowKit Go.Own Go.Own.R Go.Own.G Go.Own.Gr Go.Own.Ml


set_option maxHeartbeats 4000000 in
theorem ModelAsks_c {C : Int} {N : Int} {Z : Int} {K : Int} {Q : Int} {ov : Value} {O : List Ob} {rv : Value} {rs : List Int} {kd : Int} {a : Int} {b : Int} {f : Int} {p : Int} {q : Int} {uu : Int} {w : World} (h_ov : Ro w NoX (rl 2 obC ov O)) (n_ov : Ro w NoX (nst O)) (h_rv : Ro w NoX (il .i64 rv rs)) (hbulk : ∀ o ∈ (O.map ab), o.1.length ≤ 17592186044416 ∧ o.2.length ≤ 17592186044416) :
  Calls Try.prog 5 #[.agg #[.int .i64 C, .int .i64 N, .int .i64 Z, .int .i64 K, .int .i64 Q], .agg #[ov, rv], .agg #[.int .i64 kd, .int .i64 a, .int .i64 b, .int .i64 f, .int .i64 p, .int .i64 q, .int .u64 uu]] w fun e w' => e = .returned (.bool true) ∧ St w NoX [] w' := by
 refine calls_in 87 Try.func5 V V (by simp) (fun A0 Y0 hdf0 hargs => ?_)
 have l0_0 := hargs 0 (.agg #[.int .i64 C, .int .i64 N, .int .i64 Z, .int .i64 K, .int .i64 Q]) V
 have l1_0 := hargs 1 (.agg #[ov, rv]) V
 have l2_0 := hargs 2 (.agg #[.int .i64 kd, .int .i64 a, .int .i64 b, .int .i64 f, .int .i64 p, .int .i64 q, .int .u64 uu]) V
 clear hargs; replace Y0 : SzN A0 87 := ⟨Y0⟩
 have hS := St.nil w
 have bh_ov := SlN.le (sl_SlN h_ov.at)
 have bh_rv := SlN.le (sl_SlN h_rv.at)
 refine wp_seq_k fun K1 H1 => region_in ?_
 refine W_boxS (zs := #[.int .i64 (C), .int .i64 (N), .int .i64 (Z), .int .i64 (K), .int .i64 (Q)]) hS V V V l0_0 (by rfl) (fun g2 w2 c2 hc2 S2 => ?_)
 replace S2 : St w NoX [c2] w2 := S2
 refine W_boxS (zs := #[ov, rv]) S2 V V V (es V l1_0) (by rfl) (fun g3 w3 c3 hc3 S3 => ?_)
 replace S3 : St w NoX [c3, c2] w3 := S3
 refine W_boxS (zs := #[.int .i64 (kd), .int .i64 (a), .int .i64 (b), .int .i64 (f), .int .i64 (p), .int .i64 (q), .int .u64 (uu)]) S3 V V V (es2 V l2_0) (by rfl) (fun g4 w4 c4 hc4 S4 => ?_)
 replace S4 : St w NoX [c4, c3, c2] w4 := S4
 refine W_v V V (V_asg V V) ?_
 refine W_end (gen_Q fun A5 E5 => ?_)
 have Y5 := szq E5
 have F5 := fsE E5 (cq1 (ck (ck (ck (FS.n hdf0) V V) V V) V V) V)
 clear E5 Y0 hdf0 l0_0 l1_0 l2_0
 refine tk H1 (wp_seq_k fun K6 H6 => ?_)
 refine wp_seq_k fun K7 H7 => region_in ?_
 refine W_r V V (VR_ldA V (fg1 F5) (S4.obj 1 V hc3) Try.underlying36 V (by kernel_rfl)) ?_
 refine W_call V V V Try.func15 (by kernel_rfl) V (args1 (et V)) (far_c (S4.roC h_ov) (S4.roC n_ov) (S4.roC h_rv) (by first | with_reducible assumption)) ?_
 rintro _ w8 ⟨rfl, hP8⟩
 refine ⟨_, rfl, ?_⟩
 have S8 := S4.join hP8
 replace S8 : St w NoX [c4, c3, c2] w8 := S8
 refine W_end (gen_Q fun A9 E9 => ?_)
 have Y9 := szq E9
 have F9 := fsE E9 (ck (cq1 F5 V) V V)
 clear E9 Y5 F5
 refine tk H7 ?_
 refine cond_b (fg0 F9) (fun c10 => ?_) (fun c10 => ?_)
 ·refine wp_seq_k fun K11 H11 => region_in ?_
  refine W_call V V V Try.func9 (by kernel_rfl) V (args0) (kshn_c  ) ?_
  rintro _ w12 ⟨rfl, hP12⟩
  refine ⟨_, rfl, ?_⟩
  have S12 := S8.join hP12
  replace S12 : St w NoX [c4, c3, c2] w12 := S12
  refine W_v V V (V_asg V (et V)) ?_
  refine W_end (gen_Q fun A13 E13 => ?_)
  have Y13 := szq E13
  have F13 := fsE E13 (ck (cq1 F9 V) V V)
  clear E13 Y9 F9
  have S14 : St w NoX [] w12 := S12.sel [] (by decide) V
  refine tk H11 (wp_ret (then_ret ?_))
  refine ret_in (results_1 Try.results5 (rv_tmp (fg0 F13))) F13.d ?_
  exact ⟨rfl, S14.fin0⟩
 have hfar := far_no c10
 have hsm := hfar.2.2.2.1
 have hfr := hfar.1
 have hfo := hfar.2.1
 rw [List.length_map] at hfo
 refine wp_skip ?_
 refine tk H6 (wp_seq_k fun K15 H15 => region_in ?_)
 refine W_r V V (VR_ldA V (fg3 F9) (S8.obj 2 V hc2) Try.underlying23 V (by kernel_rfl)) ?_
 refine W_r V V (VR_ldA V (es V (fg2 F9)) (S8.obj 1 V hc3) Try.underlying36 V (by kernel_rfl)) ?_
 refine W_r V V (VR_ldA V (es2 V (fg1 F9)) (S8.obj 0 V hc4) Try.underlying42 V (by kernel_rfl)) ?_
 refine W_call V V V Try.func16 (by kernel_rfl) V (args3 (es2 V (et V)) (es V (et V)) (et V)) (kst_c (C := C) (N := N) (Z := Z) (K := K) (Q := Q) (G := ((ov, O), (rv, rs))) (kd := kd) (a := a) (b := b) (f := f) (p := p) (q := q) (uu := uu) (gl_mk (S8.roC h_ov) (S8.roC n_ov) (S8.roC h_rv)) (by first | with_reducible assumption | exact hsm)) ?_
 rintro _ w16 ⟨Gt_16, rfl, hg_16, hP16⟩
 refine ⟨_, rfl, ?_⟩
 obtain ⟨cK_16, hcK_16, hP16⟩ := gen1 hP16
 have S16 := S8.join hP16
 replace S16 : St w NoX [cK_16, c4, c3, c2] w16 := S16
 refine W_v V V (V_mov V (et V)) ?_
 refine W_v V V (V_ext (v := .agg #[Gt_16.1.1, Gt_16.2.1]) V (et V) V) ?_
 refine W_v V V (V_ext (v := .agg #[.int .i64 ((stA (cfE C N Z K Q) (lgN C N Z K Q) K (gab ((ov, O), (rv, rs))) (⟨kd, a, b, f, p, q, uu⟩ : OpC)).e), .bool ((stA (cfE C N Z K Q) (lgN C N Z K Q) K (gab ((ov, O), (rv, rs))) (⟨kd, a, b, f, p, q, uu⟩ : OpC)).t), .int .u64 ((stA (cfE C N Z K Q) (lgN C N Z K Q) K (gab ((ov, O), (rv, rs))) (⟨kd, a, b, f, p, q, uu⟩ : OpC)).v)]) V (es V (et V)) V) ?_
 refine W_v V V (V_ext (v := .int .i64 ((stE (cfE C N Z K Q) K (gab ((ov, O), (rv, rs))) (⟨kd, a, b, f, p, q, uu⟩ : OpC)))) V (es2 V (et V)) V) ?_
 refine W_allocS (z := .agg #[.slice none 0 0, .slice none 0 0]) (zs := #[.slice none 0 0, .slice none 0 0]) S16 V V V (by kernel_rfl) (by rfl) (fun g17 w17 c17 hc17 S17 => ?_)
 replace S17 : St w NoX [c17, cK_16, c4, c3, c2] w17 := S17
 refine W_allocS (z := .agg #[.int .i64 0, .bool false, .int .u64 0]) (zs := #[.int .i64 0, .bool false, .int .u64 0]) S17 V V V (by kernel_rfl) (by rfl) (fun g18 w18 c18 hc18 S18 => ?_)
 replace S18 : St w NoX [c18, c17, cK_16, c4, c3, c2] w18 := S18
 refine xsB 1 S18 V hc17 V V V (es V (et V)) (es4 V (et V)) (by simp only [List.all_toArray, List.all_cons, List.all_nil, SlN_one (sl_SlN (gl_oa m1 (S18.chq 2 V hcK_16))), SlN_one (sl_SlN (gl_ra m1 (S18.chq 2 V hcK_16)))] <;> rfl) (fun w19 c19 hc19 S19 => ?_)
 replace S19 : St w NoX [c18, c19, cK_16, c4, c3, c2] w19 := S19
 refine xsA 0 S19 V hc18 V V V (et V) (es3 V (et V)) (fun w20 c20 hc20 S20 => ?_)
 replace S20 : St w NoX [c20, c19, cK_16, c4, c3, c2] w20 := S20
 refine W_v V V (V_asg V (es2 V (et V))) ?_
 refine W_end (gen_Q fun A21 E21 => ?_)
 have Y21 := szq E21
 have F21 := fsE E21 (ck (ck (ck (cq8 F9 V) V V) V V) V V)
 clear E21 Y9 F9
 have S22 : St w NoX [c20, c19, cK_16, c4, c3] w20 := S20.sel [0, 1, 2, 3, 4] (by decide) V
 refine tk H15 (wp_seq_k fun K23 H23 => ?_)
 refine wp_seq_k fun K24 H24 => region_in ?_
 refine W_v V V (V_mov V (fg0 F21)) ?_
 refine W_v V V (V_neq V (et V) V) ?_
 refine W_end (gen_Q fun A25 E25 => ?_)
 have Y25 := szq E25
 have F25 := fsE E25 (ck (cq1 F21 V) V V)
 clear E25 Y21 F21
 refine tk H24 ?_
 refine cond_dec (fg0 F25) (fun c26 => ?_) (fun c26 => ?_)
 ·have hst := st_e (n := lgN C N Z K Q) c26
  refine wp_seq_k fun K27 H27 => region_in ?_
  refine W_v V V (V_fa (off' := 1) V (fg3 F25) Try.underlying36 V (by decide +kernel) V) ?_
  refine W_r V V (xlC (v := Gt_16.2.1) V (et V) (S22.obj 1 V hc19) Try.underlying25) ?_
  refine W_v V V (V_lenS V (et V) (sl_SlN (gl_ra m1 (S22.chq 2 V hcK_16))) Try.underlying25) ?_
  refine W_v V V (V_eql V (et V) V) ?_
  refine W_sure (c' := true) V V (V_mov V (et V)) (by rw [decide_eq_true_eq]; rw [show Gt_16.2.2 = [] from congrArg Prod.snd (hg_16.trans hst.1)]; rfl) ?_
  refine W_r V (xwt V V (et V)) (VR_ldA V (es5 V (fg2 F25)) (S22.obj 0 V hc20) Try.underlying44 V (by kernel_rfl)) ?_
  refine W_v V (xwt V V (es V (et V))) (xbS (n := 3) (z := .agg #[.int .i64 0, .bool false, .int .u64 0]) V (parts0)) ?_
  refine W_v V (xwt V V (es2 V (et V))) (V_eqStA V (es V (et V)) (et V) (by kernel_rfl)) ?_
  refine W_v V V (V_pickT V (es3 V (et V)) (et V)) ?_
  refine W_sure (c' := true) V V (V_mov V (et V)) (by rw [decide_eq_true_eq]; rw [hst.2]; exact ⟨rfl, rfl, rfl⟩) ?_
  refine W_call V (xwt V V (et V)) V Try.func9 (by kernel_rfl) V (args0) (kshn_c  ) ?_
  rintro _ w28 ⟨rfl, hP28⟩
  refine ⟨_, rfl, ?_⟩
  have S28 := S22.join hP28
  replace S28 : St w NoX [c20, c19, cK_16, c4, c3] w28 := S28
  refine W_v V V (V_pickT V (es V (et V)) (et V)) ?_
  refine W_v V V (V_asg V (et V)) ?_
  refine W_end (gen_Q fun A29 E29 => ?_)
  have Y29 := szq E29
  have F29 := fsE E29 (ck (cq4 (cq8 F25 V) V) V V)
  clear E29 Y25 F25
  have S30 : St w NoX [cK_16] w28 := S28.sel [2] (by decide) V
  refine tk H27 (wp_ret (then_ret ?_))
  refine ret_in (results_1 Try.results5 (rv_tmp (fg0 F29))) F29.d ?_
  exact ⟨rfl, S30.fin0⟩
 have hst := st_k (n := lgN C N Z K Q) (show (stE (cfE C N Z K Q) K (gab ((ov, O), (rv, rs))) (⟨kd, a, b, f, p, q, uu⟩ : OpC)) = 0 by omega)
 have hdg := hg_16.trans hst.1
 refine wp_skip ?_
 refine tk H23 (wp_seq_k fun K31 H31 => ?_)
 refine wp_mid (G := fun A' w' => SzN A' 87 ∧ A'.defers = [] ∧ (EV A' (.tmp 4) = EV A25 (.tmp 4)) ∧ (EV A' (.tmp 7) = EV A25 (.tmp 7)) ∧ (EV A' (.tmp 8) = EV A25 (.tmp 8)) ∧ (EV A' (.tmp 10) = .bool (decide ((kd = 4) ∨ (kd = 8) ∨ (kd = 9) ∨ (kd = 10) ∨ (kd = 11)))) ∧ St w NoX [c20, c19, cK_16, c3] w') ?_ ?_
 ·have j4_32 := (fg6 F25)
  have j7_32 := (fg3 F25)
  have j8_32 := (fg2 F25)
  refine region_in ?_
  refine W_v V V (V_fa (off' := 0) V (fg5 F25) Try.underlying42 V (by decide +kernel) V) ?_
  refine W_r V V (xlC (v := .int .i64 (kd)) V (et V) (S22.obj 3 V hc4) Try.underlying3) ?_
  refine W_v V V (V_eql V (et V) V) ?_
  refine W_split V V (V_mov V (et V)) (fun c33 => ?_) (fun c33 => ?_)
  ·refine xof V V V (et V) (xof V V V (es V (et V)) (xof V V V (es2 V (et V)) ?_))
   refine W_v V V (V_pickT V (es3 V (et V)) V) ?_
   refine W_v V V (V_mov V (et V)) (xof V V V (et V) (xof V V V (es V (et V)) (xof V V V (es2 V (et V)) ?_)))
   refine W_v V V (V_pickT V (es3 V (et V)) V) ?_
   refine W_v V V (V_mov V (et V)) (xof V V V (et V) (xof V V V (es V (et V)) (xof V V V (es2 V (et V)) ?_)))
   refine W_v V V (V_pickT V (es3 V (et V)) V) ?_
   refine W_v V V (V_mov V (et V)) (xof V V V (et V) (xof V V V (es V (et V)) (xof V V V (es2 V (et V)) ?_)))
   refine W_v V V (V_pickT V (es3 V (et V)) V) ?_
   refine W_v V V (V_asg V (et V)) ?_
   refine W_end (gen_Q fun A34 E34 => ?_)
   have Y34 := szq E34
   have F34 := fsE E34 (ck (cq7 (cq8 (cq8 F25 V) V) V) V V)
   clear E34 Y25 F25
   have S35 : St w NoX [c20, c19, cK_16, c3] w20 := S22.sel [0, 1, 2, 4] (by decide) V
   exact Mid_n ⟨Y34, F34.d, ((fg7 F34).trans j4_32.symm), ((fg4 F34).trans j7_32.symm), ((fg3 F34).trans j8_32.symm), ((fg0 F34).trans (congrArg Value.bool ((decide_eq_true (.inl c33)).symm))), S35⟩
  refine W_v V (xwt V V (et V)) (V_fa (off' := 0) V (es4 V (fg5 F25)) Try.underlying42 V (by decide +kernel) V) ?_
  refine W_r V (xwt V V (es V (et V))) (xlC (v := .int .i64 (kd)) V (et V) (S22.obj 3 V hc4) Try.underlying3) ?_
  refine W_v V (xwt V V (es2 V (et V))) (V_eql V (et V) V) ?_
  refine W_v V V (V_pickF V (es3 V (et V)) (et V)) ?_
  refine W_split V V (V_mov V (et V)) (fun c36 => ?_) (fun c36 => ?_)
  ·refine xof V V V (et V) (xof V V V (es V (et V)) (xof V V V (es2 V (et V)) ?_))
   refine W_v V V (V_pickT V (es3 V (et V)) V) ?_
   refine W_v V V (V_mov V (et V)) (xof V V V (et V) (xof V V V (es V (et V)) (xof V V V (es2 V (et V)) ?_)))
   refine W_v V V (V_pickT V (es3 V (et V)) V) ?_
   refine W_v V V (V_mov V (et V)) (xof V V V (et V) (xof V V V (es V (et V)) (xof V V V (es2 V (et V)) ?_)))
   refine W_v V V (V_pickT V (es3 V (et V)) V) ?_
   refine W_v V V (V_asg V (et V)) ?_
   refine W_end (gen_Q fun A37 E37 => ?_)
   have Y37 := szq E37
   have F37 := fsE E37 (ck (cq7 (cq8 (cq8 F25 V) V) V) V V)
   clear E37 Y25 F25
   have S38 : St w NoX [c20, c19, cK_16, c3] w20 := S22.sel [0, 1, 2, 4] (by decide) V
   exact Mid_n ⟨Y37, F37.d, ((fg7 F37).trans j4_32.symm), ((fg4 F37).trans j7_32.symm), ((fg3 F37).trans j8_32.symm), ((fg0 F37).trans (congrArg Value.bool ((decide_eq_true (.inr (.inl c36))).symm))), S38⟩
  refine W_v V (xwt V V (et V)) (V_fa (off' := 0) V (es8 V (es V (fg5 F25))) Try.underlying42 V (by decide +kernel) V) ?_
  refine W_r V (xwt V V (es V (et V))) (xlC (v := .int .i64 (kd)) V (et V) (S22.obj 3 V hc4) Try.underlying3) ?_
  refine W_v V (xwt V V (es2 V (et V))) (V_eql V (et V) V) ?_
  refine W_v V V (V_pickF V (es3 V (et V)) (et V)) ?_
  refine W_split V V (V_mov V (et V)) (fun c39 => ?_) (fun c39 => ?_)
  ·refine xof V V V (et V) (xof V V V (es V (et V)) (xof V V V (es2 V (et V)) ?_))
   refine W_v V V (V_pickT V (es3 V (et V)) V) ?_
   refine W_v V V (V_mov V (et V)) (xof V V V (et V) (xof V V V (es V (et V)) (xof V V V (es2 V (et V)) ?_)))
   refine W_v V V (V_pickT V (es3 V (et V)) V) ?_
   refine W_v V V (V_asg V (et V)) ?_
   refine W_end (gen_Q fun A40 E40 => ?_)
   have Y40 := szq E40
   have F40 := fsE E40 (ck (cq7 (cq8 (cq8 F25 V) V) V) V V)
   clear E40 Y25 F25
   have S41 : St w NoX [c20, c19, cK_16, c3] w20 := S22.sel [0, 1, 2, 4] (by decide) V
   exact Mid_n ⟨Y40, F40.d, ((fg7 F40).trans j4_32.symm), ((fg4 F40).trans j7_32.symm), ((fg3 F40).trans j8_32.symm), ((fg0 F40).trans (congrArg Value.bool ((decide_eq_true (.inr (.inr (.inl c39)))).symm))), S41⟩
  refine W_v V (xwt V V (et V)) (V_fa (off' := 0) V (es8 V (es6 V (fg5 F25))) Try.underlying42 V (by decide +kernel) V) ?_
  refine W_r V (xwt V V (es V (et V))) (xlC (v := .int .i64 (kd)) V (et V) (S22.obj 3 V hc4) Try.underlying3) ?_
  refine W_v V (xwt V V (es2 V (et V))) (V_eql V (et V) V) ?_
  refine W_v V V (V_pickF V (es3 V (et V)) (et V)) ?_
  refine W_split V V (V_mov V (et V)) (fun c42 => ?_) (fun c42 => ?_)
  ·refine xof V V V (et V) (xof V V V (es V (et V)) (xof V V V (es2 V (et V)) ?_))
   refine W_v V V (V_pickT V (es3 V (et V)) V) ?_
   refine W_v V V (V_asg V (et V)) ?_
   refine W_end (gen_Q fun A43 E43 => ?_)
   have Y43 := szq E43
   have F43 := fsE E43 (ck (cq7 (cq8 (cq8 F25 V) V) V) V V)
   clear E43 Y25 F25
   have S44 : St w NoX [c20, c19, cK_16, c3] w20 := S22.sel [0, 1, 2, 4] (by decide) V
   exact Mid_n ⟨Y43, F43.d, ((fg7 F43).trans j4_32.symm), ((fg4 F43).trans j7_32.symm), ((fg3 F43).trans j8_32.symm), ((fg0 F43).trans (congrArg Value.bool ((decide_eq_true (.inr (.inr (.inr (.inl c42))))).symm))), S44⟩
  refine W_v V (xwt V V (et V)) (V_fa (off' := 0) V (es8 V (es8 V (es3 V (fg5 F25)))) Try.underlying42 V (by decide +kernel) V) ?_
  refine W_r V (xwt V V (es V (et V))) (xlC (v := .int .i64 (kd)) V (et V) (S22.obj 3 V hc4) Try.underlying3) ?_
  refine W_v V (xwt V V (es2 V (et V))) (V_eql V (et V) V) ?_
  refine W_v V V (V_pickF V (es3 V (et V)) (et V)) ?_
  refine W_v V V (V_asg V (et V)) ?_
  refine W_end (gen_Q fun A45 E45 => ?_)
  have Y45 := szq E45
  have F45 := fsE E45 (ck (cq7 (cq8 (cq8 F25 V) V) V) V V)
  clear E45 Y25 F25
  have S46 : St w NoX [c20, c19, cK_16, c3] w20 := S22.sel [0, 1, 2, 4] (by decide) V
  exact Mid_n ⟨Y45, F45.d, ((fg7 F45).trans j4_32.symm), ((fg4 F45).trans j7_32.symm), ((fg3 F45).trans j8_32.symm), ((fg0 F45).trans (congrArg Value.bool (decide_eq_decide.2 ⟨fun q => (.inr (.inr (.inr (.inr q)))), fun q => ((((q.resolve_left c33).resolve_left c36).resolve_left c39).resolve_left c42)⟩))), S46⟩
 rintro A32 w32 ⟨Y32, hdf32, u4_32, u7_32, u8_32, l10_32, S32⟩
 have l4_32 := u4_32.trans (fg6 F25)
 have l7_32 := u7_32.trans (fg3 F25)
 have l8_32 := u8_32.trans (fg2 F25)
 refine tk H31 (wp_seq_k fun K47 H47 => ?_)
 refine wp_seq_k fun K48 H48 => region_in ?_
 refine W_v V V (V_mov V l10_32) ?_
 refine W_split V V (V_mov V (et V)) (fun c49 => ?_) (fun c49 => ?_)
 ·have hs := hdg.trans (doG_same c49)
  refine xof V V V (et V) (xof V V V (es V (et V)) (xof V V V (es2 V (et V)) ?_))
  refine W_v V V (V_pickT V (es3 V (et V)) V) ?_
  refine W_v V V (V_mov V (et V)) ?_
  refine W_r V (xwt V V (et V)) (VR_ldA V (es7 V l4_32) (S32.obj 3 V hc3) Try.underlying36 V (by kernel_rfl)) ?_
  refine W_r V (xwt V V (es V (et V))) (VR_ldA V (es8 V l7_32) (S32.obj 1 V hc19) Try.underlying36 V (by kernel_rfl)) ?_
  refine W_call V (xwt V V (es2 V (et V))) V Try.func13 (by kernel_rfl) V (args2 (es V (et V)) (et V)) (qsm_c (S32.roC h_ov) (S32.roC n_ov) (S32.roC h_rv) (gl_oaR m1 (S32.chC 2 V hcK_16)) (gl_naR m1 (S32.chC 2 V hcK_16)) (gl_raR m1 (S32.chC 2 V hcK_16)) ) ?_
  rintro _ w50 ⟨rfl, hP50⟩
  refine ⟨_, rfl, ?_⟩
  have S50 := S32.join hP50
  replace S50 : St w NoX [c20, c19, cK_16, c3] w50 := S50
  refine W_v V (xwt V V (es3 V (et V))) (V_not V (et V)) ?_
  refine W_v V V (V_pickT V (es4 V (et V)) (et V)) ?_
  refine W_end (gen_Q fun A51 E51 => ?_)
  have Y51 := szq E51
  have F51 := (fsE E51 (ck (cq3 (cq8 (FS.n hdf32) V) V) V V)).c (lookE E51 8 (es8 V (es4 V l8_32)))
  clear E51 Y32 hdf32 l4_32 l7_32 l8_32 l10_32
  have S52 : St w NoX [c20, cK_16] w50 := S50.sel [0, 2] (by decide) V
  refine tk H48 ?_
  refine cond_not (fg1 F51) (by rw [as_sm (G := ((ov, O), (rv, rs))) hs]; rfl) ?_
  refine wp_skip ?_
  refine tk H47 (wp_seq_k fun K53 H53 => region_in ?_)
  refine W_v V V (V_fa (off' := 0) V (fg0 F51) Try.underlying44 V (by decide +kernel) V) ?_
  refine W_r V V (xlC (v := .int .i64 ((stA (cfE C N Z K Q) (lgN C N Z K Q) K (gab ((ov, O), (rv, rs))) (⟨kd, a, b, f, p, q, uu⟩ : OpC)).e)) V (et V) (S52.obj 0 V hc20) Try.underlying28) ?_
  refine W_v V V (V_eql V (et V) V) ?_
  refine W_split V V (V_mov V (et V)) (fun c54 => ?_) (fun c54 => ?_)
  ·refine xof V V V (et V) (xof V V V (es V (et V)) (xof V V V (es2 V (et V)) (xof V V V (es3 V (et V)) ?_)))
   refine W_off V (wanted_u V V (et V) (ez V)) ?_
   refine W_off V (wanted_u V V (es V (et V)) (ez V)) ?_
   refine W_off V (wanted_u V V (es2 V (et V)) (ez V)) ?_
   refine xof V V V (es7 V (et V)) ?_
   refine W_v V V (V_pickT V (es8 V (et V)) V) ?_
   refine W_v V V (V_mov V (et V)) ?_
   refine W_call V (xwt V V (et V)) V Try.func9 (by kernel_rfl) V (args0) (kshn_c  ) ?_
   rintro _ w55 ⟨rfl, hP55⟩
   refine ⟨_, rfl, ?_⟩
   have S55 := S52.join hP55
   replace S55 : St w NoX [c20, cK_16] w55 := S55
   refine W_v V V (V_pickT V (es V (et V)) (et V)) ?_
   refine W_v V V (V_asg V (et V)) ?_
   refine W_end (gen_Q fun A56 E56 => ?_)
   have Y56 := szq E56
   have F56 := fsE E56 (ck (cq8 (cq8 F51 V) V) V V)
   clear E56 Y51 F51
   have S57 : St w NoX [cK_16] w55 := S55.sel [1] (by decide) V
   refine tk H53 (wp_ret ?_)
   refine ret_in (results_1 Try.results5 (rv_tmp (fg0 F56))) F56.d ?_
   exact ⟨rfl, S57.fin0⟩
  refine W_v V (xwt V V (et V)) (V_fa (off' := 1) V (es4 V (fg0 F51)) Try.underlying44 V (by decide +kernel) V) ?_
  refine W_r V (xwt V V (es V (et V))) (xlC (v := .bool ((stA (cfE C N Z K Q) (lgN C N Z K Q) K (gab ((ov, O), (rv, rs))) (⟨kd, a, b, f, p, q, uu⟩ : OpC)).t)) V (et V) (S52.obj 0 V hc20) Try.underlying4) ?_
  refine W_v V (xwt V V (es2 V (et V))) (V_not V (et V)) ?_
  refine W_sure (c' := true) V (xwt V V (es3 V (et V))) (V_mov V (et V)) (by rw [hst.2, (doG_err (fun q => c54 (by rw [hst.2]; exact q))).2.1]; rfl) ?_
  refine W_v V (xwt V V (et V)) (V_fa (off' := 2) V (es8 V (fg0 F51)) Try.underlying44 V (by decide +kernel) V) ?_
  refine W_r V (xwt V V (es V (et V))) (xlC (v := .int .u64 ((stA (cfE C N Z K Q) (lgN C N Z K Q) K (gab ((ov, O), (rv, rs))) (⟨kd, a, b, f, p, q, uu⟩ : OpC)).v)) V (et V) (S52.obj 0 V hc20) Try.underlying40) ?_
  refine W_v V (xwt V V (es2 V (et V))) (V_eql V (et V) V) ?_
  refine W_v V (xwt V V (es7 V (et V))) (V_pickT V (es3 V (et V)) (et V)) ?_
  refine W_v V V (V_pickF V (es8 V (et V)) (et V)) ?_
  refine W_sure (c' := true) V V (V_mov V (et V)) (by rw [decide_eq_true_eq]; rw [hst.2, (doG_err (fun q => c54 (by rw [hst.2]; exact q))).2.2]) ?_
  refine W_call V (xwt V V (et V)) V Try.func9 (by kernel_rfl) V (args0) (kshn_c  ) ?_
  rintro _ w58 ⟨rfl, hP58⟩
  refine ⟨_, rfl, ?_⟩
  have S58 := S52.join hP58
  replace S58 : St w NoX [c20, cK_16] w58 := S58
  refine W_v V V (V_pickT V (es V (et V)) (et V)) ?_
  refine W_v V V (V_asg V (et V)) ?_
  refine W_end (gen_Q fun A59 E59 => ?_)
  have Y59 := szq E59
  have F59 := fsE E59 (ck (cq8 (cq8 F51 V) V) V V)
  clear E59 Y51 F51
  have S60 : St w NoX [cK_16] w58 := S58.sel [1] (by decide) V
  refine tk H53 (wp_ret ?_)
  refine ret_in (results_1 Try.results5 (rv_tmp (fg0 F59))) F59.d ?_
  exact ⟨rfl, S60.fin0⟩
 refine W_v V (xwt V V (et V)) (V_fa (off' := 0) V (es2 V l8_32) Try.underlying44 V (by decide +kernel) V) ?_
 refine W_r V (xwt V V (es V (et V))) (xlC (v := .int .i64 ((stA (cfE C N Z K Q) (lgN C N Z K Q) K (gab ((ov, O), (rv, rs))) (⟨kd, a, b, f, p, q, uu⟩ : OpC)).e)) V (et V) (S32.obj 0 V hc20) Try.underlying28) ?_
 refine W_v V (xwt V V (es2 V (et V))) (V_neq V (et V) V) ?_
 refine W_v V V (V_pickF V (es3 V (et V)) (et V)) ?_
 refine W_split V V (V_mov V (et V)) (fun c61 => ?_) (fun c61 => ?_)
 ·have hde := doG_err (fun q => c61 (by rw [hst.2]; exact q))
  have hs := hdg.trans hde.1
  refine W_r V (xwt V V (et V)) (VR_ldA V (es7 V l4_32) (S32.obj 3 V hc3) Try.underlying36 V (by kernel_rfl)) ?_
  refine W_r V (xwt V V (es V (et V))) (VR_ldA V (es8 V l7_32) (S32.obj 1 V hc19) Try.underlying36 V (by kernel_rfl)) ?_
  refine W_call V (xwt V V (es2 V (et V))) V Try.func13 (by kernel_rfl) V (args2 (es V (et V)) (et V)) (qsm_c (S32.roC h_ov) (S32.roC n_ov) (S32.roC h_rv) (gl_oaR m1 (S32.chC 2 V hcK_16)) (gl_naR m1 (S32.chC 2 V hcK_16)) (gl_raR m1 (S32.chC 2 V hcK_16)) ) ?_
  rintro _ w62 ⟨rfl, hP62⟩
  refine ⟨_, rfl, ?_⟩
  have S62 := S32.join hP62
  replace S62 : St w NoX [c20, c19, cK_16, c3] w62 := S62
  refine W_v V (xwt V V (es3 V (et V))) (V_not V (et V)) ?_
  refine W_v V V (V_pickT V (es4 V (et V)) (et V)) ?_
  refine W_end (gen_Q fun A63 E63 => ?_)
  have Y63 := szq E63
  have F63 := (fsE E63 (ck (cq3 (cq8 (FS.n hdf32) V) V) V V)).c (lookE E63 8 (es8 V (es4 V l8_32)))
  clear E63 Y32 hdf32 l4_32 l7_32 l8_32 l10_32
  have S64 : St w NoX [c20, cK_16] w62 := S62.sel [0, 2] (by decide) V
  refine tk H48 ?_
  refine cond_not (fg1 F63) (by rw [as_sm (G := ((ov, O), (rv, rs))) hs]; rfl) ?_
  refine wp_skip ?_
  refine tk H47 (wp_seq_k fun K65 H65 => region_in ?_)
  refine W_v V V (V_fa (off' := 0) V (fg0 F63) Try.underlying44 V (by decide +kernel) V) ?_
  refine W_r V V (xlC (v := .int .i64 ((stA (cfE C N Z K Q) (lgN C N Z K Q) K (gab ((ov, O), (rv, rs))) (⟨kd, a, b, f, p, q, uu⟩ : OpC)).e)) V (et V) (S64.obj 0 V hc20) Try.underlying28) ?_
  refine W_v V V (V_eql V (et V) V) ?_
  refine W_sure (c' := false) V V (V_mov V (et V)) (by first | (simp [c61]; done) | exact decide_eq_true (by omega) | exact decide_eq_false (by omega)) ?_
  refine W_v V (xwt V V (et V)) (V_fa (off' := 1) V (es4 V (fg0 F63)) Try.underlying44 V (by decide +kernel) V) ?_
  refine W_r V (xwt V V (es V (et V))) (xlC (v := .bool ((stA (cfE C N Z K Q) (lgN C N Z K Q) K (gab ((ov, O), (rv, rs))) (⟨kd, a, b, f, p, q, uu⟩ : OpC)).t)) V (et V) (S64.obj 0 V hc20) Try.underlying4) ?_
  refine W_v V (xwt V V (es2 V (et V))) (V_not V (et V)) ?_
  refine W_sure (c' := true) V (xwt V V (es3 V (et V))) (V_mov V (et V)) (by rw [hst.2, (doG_err (fun q => c61 (by rw [hst.2]; exact q))).2.1]; rfl) ?_
  refine W_v V (xwt V V (et V)) (V_fa (off' := 2) V (es8 V (fg0 F63)) Try.underlying44 V (by decide +kernel) V) ?_
  refine W_r V (xwt V V (es V (et V))) (xlC (v := .int .u64 ((stA (cfE C N Z K Q) (lgN C N Z K Q) K (gab ((ov, O), (rv, rs))) (⟨kd, a, b, f, p, q, uu⟩ : OpC)).v)) V (et V) (S64.obj 0 V hc20) Try.underlying40) ?_
  refine W_v V (xwt V V (es2 V (et V))) (V_eql V (et V) V) ?_
  refine W_v V (xwt V V (es7 V (et V))) (V_pickT V (es3 V (et V)) (et V)) ?_
  refine W_v V V (V_pickF V (es8 V (et V)) (et V)) ?_
  refine W_sure (c' := true) V V (V_mov V (et V)) (by rw [decide_eq_true_eq]; rw [hst.2, (doG_err (fun q => c61 (by rw [hst.2]; exact q))).2.2]) ?_
  refine W_call V (xwt V V (et V)) V Try.func9 (by kernel_rfl) V (args0) (kshn_c  ) ?_
  rintro _ w66 ⟨rfl, hP66⟩
  refine ⟨_, rfl, ?_⟩
  have S66 := S64.join hP66
  replace S66 : St w NoX [c20, cK_16] w66 := S66
  refine W_v V V (V_pickT V (es V (et V)) (et V)) ?_
  refine W_v V V (V_asg V (et V)) ?_
  refine W_end (gen_Q fun A67 E67 => ?_)
  have Y67 := szq E67
  have F67 := fsE E67 (ck (cq8 (cq8 F63 V) V) V V)
  clear E67 Y63 F63
  have S68 : St w NoX [cK_16] w66 := S66.sel [1] (by decide) V
  refine tk H65 (wp_ret ?_)
  refine ret_in (results_1 Try.results5 (rv_tmp (fg0 F67))) F67.d ?_
  exact ⟨rfl, S68.fin0⟩
 refine xof V V V (et V) (xof V V V (es V (et V)) (xof V V V (es2 V (et V)) (xof V V V (es3 V (et V)) ?_)))
 refine W_v V V (V_pickF V (es4 V (et V)) V) ?_
 refine W_end (gen_Q fun A69 E69 => ?_)
 have Y69 := szq E69
 have F69 := (fsE E69 (ck (cq3 (cq8 (FS.n hdf32) V) V) V V)).c (lookE E69 8 (es8 V (es4 V l8_32)))
 clear E69 Y32 hdf32 l4_32 l7_32 l8_32 l10_32
 have S70 : St w NoX [c20, cK_16] w32 := S32.sel [0, 2] (by decide) V
 refine tk H48 ?_
 refine cond_f (fg1 F69) ?_
 refine wp_skip ?_
 refine tk H47 (wp_seq_k fun K71 H71 => region_in ?_)
 refine W_v V V (V_fa (off' := 0) V (fg0 F69) Try.underlying44 V (by decide +kernel) V) ?_
 refine W_r V V (xlC (v := .int .i64 ((stA (cfE C N Z K Q) (lgN C N Z K Q) K (gab ((ov, O), (rv, rs))) (⟨kd, a, b, f, p, q, uu⟩ : OpC)).e)) V (et V) (S70.obj 0 V hc20) Try.underlying28) ?_
 refine W_v V V (V_eql V (et V) V) ?_
 refine W_sure (c' := true) V V (V_mov V (et V)) (by first | (simp [c61]; done) | exact decide_eq_true (by omega) | exact decide_eq_false (by omega)) ?_
 refine xof V V V (et V) (xof V V V (es V (et V)) (xof V V V (es2 V (et V)) (xof V V V (es3 V (et V)) ?_)))
 refine W_off V (wanted_u V V (et V) (ez V)) ?_
 refine W_off V (wanted_u V V (es V (et V)) (ez V)) ?_
 refine W_off V (wanted_u V V (es2 V (et V)) (ez V)) ?_
 refine xof V V V (es7 V (et V)) ?_
 refine W_v V V (V_pickT V (es8 V (et V)) V) ?_
 refine W_v V V (V_mov V (et V)) ?_
 refine W_call V (xwt V V (et V)) V Try.func9 (by kernel_rfl) V (args0) (kshn_c  ) ?_
 rintro _ w72 ⟨rfl, hP72⟩
 refine ⟨_, rfl, ?_⟩
 have S72 := S70.join hP72
 replace S72 : St w NoX [c20, cK_16] w72 := S72
 refine W_v V V (V_pickT V (es V (et V)) (et V)) ?_
 refine W_v V V (V_asg V (et V)) ?_
 refine W_end (gen_Q fun A73 E73 => ?_)
 have Y73 := szq E73
 have F73 := fsE E73 (ck (cq8 (cq8 F69 V) V) V V)
 clear E73 Y69 F69
 have S74 : St w NoX [cK_16] w72 := S72.sel [1] (by decide) V
 refine tk H71 (wp_ret ?_)
 refine ret_in (results_1 Try.results5 (rv_tmp (fg0 F73))) F73.d ?_
 exact ⟨rfl, S74.fin0⟩

end Go.Proofs.Ytpgkfndbfocibaa