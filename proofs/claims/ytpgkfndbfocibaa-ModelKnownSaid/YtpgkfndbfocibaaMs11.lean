import Derived.Test.YtpgkfndbfocibaaProg
import Derived.Test.YtpgkfndbfocibaaMs9
import Derived.Test.YtpgkfndbfocibaaSep29e
import Derived.Test.YtpgkfndbfocibaaSep29g
namespace Go.Proofs.Ytpgkfndbfocibaa
open Go.RowKit Go.Own Go.Own.R Go.Own.G Go.Own.Gr Go.Own.Ml


set_option maxHeartbeats 4000000 in
theorem kbg_c {C : Int} {N : Int} {Z : Int} {K : Int} {Q : Int} {lv : Value} {l : List OpC} {w : World} (h_lv : Ro w NoX (rl 7 opC lv l))  :
  Calls Try.prog 32 #[.agg #[.int .i64 C, .int .i64 N, .int .i64 Z, .int .i64 K, .int .i64 Q], lv] w fun e w' => (e = .returned (.tuple #[.pointer none, .int .i64 (scE (cfE C N Z K Q) l).1, .int .i64 (scE (cfE C N Z K Q) l).2]) ∧ ((scE (cfE C N Z K Q) l).2 ≠ 0) ∧ St w NoX [] w') ∨ (∃ gs hv H qv q, e = .returned (.tuple #[.pointer (some ⟨gs, 0, none⟩), .int .i64 0, .int .i64 0]) ∧ ((scE (cfE C N Z K Q) l) = (0, 0)) ∧ (gab ((hv, H), (qv, q)) = ([], nwR K)) ∧ St w NoX [bx gs 75 #[hv, qv, .int .i64 (lgN C N Z K Q)], gls [((hv, H), (qv, q))]] w') := by
 refine calls_in 50 Try.func32 V V (by simp) (fun A0 Y0 hdf0 hargs => ?_)
 have l0_0 := hargs 0 (.agg #[.int .i64 C, .int .i64 N, .int .i64 Z, .int .i64 K, .int .i64 Q]) V
 have l1_0 := hargs 1 (lv) V
 clear hargs; replace Y0 : SzN A0 50 := ⟨Y0⟩
 have hS := St.nil w
 have bh_lv := SlN.le (sl_SlN h_lv.at)
 refine wp_seq_k fun K1 H1 => region_in ?_
 refine W_boxS (zs := #[.int .i64 (C), .int .i64 (N), .int .i64 (Z), .int .i64 (K), .int .i64 (Q)]) hS V V V l0_0 (by rfl) (fun g2 w2 c2 hc2 S2 => ?_)
 replace S2 : St w NoX [c2] w2 := S2
 refine W_v V V (V_asg V V) (W_v V V (V_asg V V) (W_v V V (V_asg V V) ?_))
 refine W_end (gen_Q fun A3 E3 => ?_)
 have Y3 := szq E3
 have F3 := (fsE E3 (cq3 (ck (FS.n hdf0) V V) V)).c (lookE E3 1 (es4 V l1_0))
 clear E3 Y0 hdf0 l0_0 l1_0
 refine tk H1 (wp_seq_k fun K4 H4 => region_in ?_)
 refine W_r V V (VR_ldA V (fg1 F3) (S2.obj 0 V hc2) Try.underlying23 V (by kernel_rfl)) ?_
 refine W_call V V V Try.func25 (by kernel_rfl) V (args1 (et V)) (klg_c (C := C) (N := N) (Z := Z) (K := K) (Q := Q)  ) ?_
 rintro _ w5 ⟨rfl, hP5⟩
 refine ⟨_, rfl, ?_⟩
 have S5 := S2.join hP5
 replace S5 : St w NoX [c2] w5 := S5
 refine W_v V V (V_mov V (et V)) ?_
 refine W_v V V (V_ext (v := .int .i64 ((lgN C N Z K Q))) V (et V) V) ?_
 refine W_v V V (V_ext (v := .int .i64 ((cfE C N Z K Q))) V (es V (et V)) V) ?_
 refine W_v V V (V_asg V (es V (et V))) (W_v V V (V_asg V (es V (et V))) ?_)
 refine W_end (gen_Q fun A6 E6 => ?_)
 have Y6 := szq E6
 have F6 := fsE E6 (ck (ck (cq5 F3 V) V V) V V)
 clear E6 Y3 F3
 refine tk H4 (wp_seq_k fun K7 H7 => ?_)
 refine wp_block ?_
 refine wp_seq_k fun K8 H8 => region_in ?_
 refine W_v V V (V_mov V (fg0 F6)) ?_
 refine W_v V V (V_neq V (et V) V) ?_
 refine W_v V V (V_asg V (et V)) ?_
 refine W_end (gen_Q fun A9 E9 => ?_)
 have Y9 := szq E9
 have F9 := fsE E9 (ck (cq2 F6 V) V V)
 clear E9 Y6 F6
 refine tk H8 ?_
 refine cond_dec (fg0 F9) (fun c10 => ?_) (fun c10 => ?_)
 ·refine wp_seq_k fun K11 H11 => region_in ?_
  refine W_v V V (V_mov V (fg1 F9)) (W_v V V (V_asg V V) (W_v V V (V_asg V V) (W_v V V (V_asg V (es2 V (et V))) ?_)))
  refine W_end (gen_Q fun A12 E12 => ?_)
  have Y12 := szq E12
  have F12 := fsE E12 (ck (ck (ck (cq1 (fx1 F9) V) V V) V V) V V)
  clear E12 Y9 F9
  have S13 : St w NoX [] w5 := S5.sel [] (by decide) V
  refine tk H11 (wp_ret (inb_ret (then_ret ?_)))
  refine ret_in (results_3 Try.results32 (rv_tmp (fg2 F12)) (rv_tmp (fg1 F12)) (rv_tmp (fg0 F12))) F12.d ?_
  have h : (scE (cfE C N Z K Q) l) = ((-1), (cfE C N Z K Q)) := sc_cf c10
  rw [h]
  exact .inl ⟨rfl, c10, S13.fin0⟩
 refine wp_seq_k fun K14 H14 => region_in ?_
 refine W_v V V (V_mov V (fg3 F9)) ?_
 refine W_v V V (V_lenS V (et V) (sl_SlN h_lv.at) Try.underlying24) ?_
 refine W_v V V (V_gtr V (et V) V) ?_
 refine W_v V V (V_asg V (et V)) ?_
 refine W_end (gen_Q fun A15 E15 => ?_)
 have Y15 := szq E15
 have F15 := fsE E15 (ck (cq3 F9 V) V V)
 clear E15 Y9 F9
 refine tk H14 ?_
 refine cond_dec (fg0 F15) (fun c16 => ?_) (fun c16 => ?_)
 ·refine wp_seq_k fun K17 H17 => region_in ?_
  refine W_v V V (V_asg V V) (W_v V V (V_asg V V) (W_v V V (V_asg V V) ?_))
  refine W_end (gen_Q fun A18 E18 => ?_)
  have Y18 := szq E18
  have F18 := fsE E18 (ck (ck (ck (fx2 F15) V V) V V) V V)
  clear E18 Y15 F15
  have S19 : St w NoX [] w5 := S5.sel [] (by decide) V
  refine tk H17 (wp_ret (inb_ret (then_ret ?_)))
  refine ret_in (results_3 Try.results32 (rv_tmp (fg2 F18)) (rv_tmp (fg1 F18)) (rv_tmp (fg0 F18))) F18.d ?_
  have h : (scE (cfE C N Z K Q) l) = ((-1), 3) := sc_long c10 c16
  rw [h]
  exact .inl ⟨rfl, by decide, S19.fin0⟩
 refine wp_skip (inb_n ?_)
 refine tk H7 (wp_seq_k fun K20 H20 => ?_)
 refine wp_seq_k fun K21 H21 => region_in ?_
 refine W_v V V (V_mov V (fg4 F15)) ?_
 refine W_v V V (V_lenS V (et V) (sl_SlN h_lv.at) Try.underlying24) ?_
 refine W_v V V (V_mov V V) ?_
 refine W_end (gen_Q fun A22 E22 => ?_)
 have Y22 := szq E22
 have F22 := fsE E22 (ck (ck (ck F15 V V) V V) V V)
 clear E22 Y15 F15
 refine tk H21 (wp_block ?_)
 -- loop 7
 refine loopX (fun mz A' w' => SzN A' 50 ∧ A'.defers = [] ∧ (∃ (k : Nat), (mz = l.length - k) ∧ (k ≤ l.length) ∧ (scF 0 l = scF k (l.drop k)) ∧ (EV A' (.tmp 28) = .int .i64 (k : Int)) ∧ (EV A' (.tmp 2) = EV A22 (.tmp 2)) ∧ (EV A' (.tmp 7) = EV A22 (.tmp 7)) ∧ (EV A' (.tmp 26) = EV A22 (.tmp 26)) ∧ (EV A' (.tmp 27) = EV A22 (.tmp 27)) ∧ (St w NoX [bx g2 23 #[.int .i64 (C), .int .i64 (N), .int .i64 (Z), .int .i64 (K), .int .i64 (Q)]] w'))) (l.length - 0) ⟨Y22, F22.d, 0, rfl, (by omega), rfl, (((fg0 F22)).trans (by first | rfl | (simp; done) | (congr 1; omega))), rfl, rfl, rfl, rfl, (by subst hc2; exact S5)⟩ ?_
 clear S5 hc2
 rintro n23 A23 w23 ⟨Y23, hdf23, k, hm23, hk, hz, l28_23, u2_23, u7_23, u26_23, u27_23, S23⟩
 have l2_23 := u2_23.trans (fg8 F22)
 have l7_23 := u7_23.trans (fg6 F22)
 have l26_23 := u26_23.trans (fg2 F22)
 have l27_23 := u27_23.trans (fg1 F22)
 obtain ⟨c2_23, hc2_23, S23⟩ := gen1 S23
 refine wp_seq_k fun K24 H24 => region_in ?_
 refine W_v V V (V_lss V l28_23 l27_23) ?_
 refine W_end (gen_Q fun A25 E25 => ?_)
 have Y25 := szq E25
 have F25 := (((((fsE E25 (ck (FS.n hdf23) V V)).c (lookE E25 2 (es V l2_23))).c (lookE E25 7 (es V l7_23))).c (lookE E25 26 (es V l26_23))).c (lookE E25 27 (es V l27_23))).c (lookE E25 28 (es V l28_23))
 clear E25 Y23 hdf23 l28_23 l2_23 l7_23 l26_23 l27_23
 refine tk H24 (wp_seq_k fun K26 H26 => ?_)
 refine cond_dec (fg5 F25) (fun c27 => ?_) (fun c27 => ?_)
 ·refine wp_skip ?_
  refine tk H26 (wp_seq_k fun K28 H28 => ?_)
  refine wp_block ?_
  refine wp_seq_k fun K29 H29 => region_in ?_
  refine W_v V V (V_mov V (fg0 F25)) ?_
  have k30 : k < l.length := by first | omega | (simp only [List.length_cons, List.length_nil]; omega) | (simp only [List.length_set]; omega) | decide
  obtain ⟨y30, hy30⟩ := get_some (xs := l) (k := k) k30
  obtain ⟨B30, O30, C30, hv30⟩ := (SlN.blk (sl_SlN h_lv.at) (by first | omega | (simp only [List.length_cons, List.length_nil]; omega) | (simp only [List.length_set]; omega) | decide))
  refine W_v V V (V_ixS (off := O30 + k * 7) 7 (k) V (es V (fg2 F25)) (es V (fg0 F25)) hv30 (by omega) k30 Try.underlying24 (by kernel_rfl) V) ?_
  refine W_r V V (VR_ldR (ys := opC y30) V (et V) (SlN.row opC_len (sl_SlN (S23.ro h_lv)) hv30 hy30 V) Try.underlying42 V (by kernel_rfl)) ?_
  refine W_allocS (z := .agg #[.int .i64 0, .int .i64 0, .int .i64 0, .int .i64 0, .int .i64 0, .int .i64 0, .int .u64 0]) (zs := #[.int .i64 0, .int .i64 0, .int .i64 0, .int .i64 0, .int .i64 0, .int .i64 0, .int .u64 0]) S23 V V V (by kernel_rfl) (by rfl) (fun g31 w31 c31 hc31 S31 => ?_)
  replace S31 : St w NoX [c31, c2_23] w31 := S31
  refine W_v V V (V_asg V (es3 V (et V))) ?_
  refine xsA 0 S31 V hc31 V V V (es V (et V)) (es2 V (et V)) (fun w32 c32 hc32 S32 => ?_)
  replace S32 : St w NoX [c32, c2_23] w32 := S32
  refine W_end (gen_Q fun A33 E33 => ?_)
  have Y33 := szq E33
  have F33 := fsE E33 (ck (ck (cq3 F25 V) V V) V V)
  clear E33 Y25 F25
  refine tk H29 (wp_seq_k fun K34 H34 => region_in ?_)
  refine W_r V V (VR_ldA V (fg1 F33) (S32.obj 0 V hc32) Try.underlying42 V (by kernel_rfl)) ?_
  refine W_call V V V Try.func27 (by kernel_rfl) V (args1 (et V)) (kopc_c (kd := y30.kd) (a := y30.a) (b := y30.b) (f := y30.f) (p := y30.p) (q := y30.q) (uu := y30.u)  ) ?_
  rintro _ w35 ⟨rfl, hP35⟩
  refine ⟨_, rfl, ?_⟩
  have S35 := S32.join hP35
  replace S35 : St w NoX [c32, c2_23] w35 := S35
  refine W_v V V (V_asg V (et V)) ?_
  refine W_end (gen_Q fun A36 E36 => ?_)
  have Y36 := szq E36
  have F36 := fsE E36 (ck (cq2 F33 V) V V)
  clear E36 Y33 F33
  have S37 : St w NoX [c2_23] w35 := S35.sel [1] (by decide) V
  refine tk H34 (wp_seq_k fun K38 H38 => region_in ?_)
  refine W_v V V (V_mov V (fg0 F36)) ?_
  refine W_v V V (V_neq V (et V) V) ?_
  refine W_end (gen_Q fun A39 E39 => ?_)
  have Y39 := szq E39
  have F39 := fsE E39 (ck (cq1 F36 V) V V)
  clear E39 Y36 F36
  refine tk H38 ?_
  refine cond_dec (fg0 F39) (fun c40 => ?_) (fun c40 => ?_)
  ·refine wp_seq_k fun K41 H41 => region_in ?_
   refine W_v V V (V_mov V (fg2 F39)) (W_v V V (V_mov V (es V (fg1 F39))) (W_v V V (V_asg V V) (W_v V V (V_asg V (es2 V (et V))) (W_v V V (V_asg V (es2 V (et V))) ?_))))
   refine W_end (gen_Q fun A42 E42 => ?_)
   have Y42 := szq E42
   have F42 := fsE E42 (ck (ck (ck (cq2 F39 V) V V) V V) V V)
   clear E42 Y39 F39
   have S43 : St w NoX [] w35 := S37.sel [] (by decide) V
   refine tk H41 (wp_ret (inb_ret (then_ret (then_ret (inb_ret (then_ret ?_))))))
   refine ret_in (results_3 Try.results32 (rv_tmp (fg2 F42)) (rv_tmp (fg1 F42)) (rv_tmp (fg0 F42))) F42.d ?_
   have h : (scE (cfE C N Z K Q) l) = ((k : Int), (opE (⟨y30.kd, y30.a, y30.b, y30.f, y30.p, y30.q, y30.u⟩ : OpC))) := sc_op c10 c16 hz hy30 c40
   rw [h]
   exact .inl ⟨rfl, c40, S43.fin0⟩
  refine wp_skip (inb_n (tk H28 ?_))
  refine region_in ?_
  refine W_v V V (V_add V (fg4 F39) V (by omega) (by omega)) ?_
  refine W_v V V (V_mov V (et V)) ?_
  refine W_end (gen_Q fun A44 E44 => ?_)
  have Y44 := szq E44
  have F44 := fsE E44 (ck (cq1 (fx4 F39) V) V V)
  clear E44 Y39 F39
  refine then_n ⟨l.length - (k + 1), by simp only [hm23]; omega, Y44, F44.d, (k + 1), rfl, (by omega), (sc_step hz hy30 c40), (((fg0 F44)).trans (by first | rfl | (simp; done) | (congr 1; omega))), (((fg8 F44)).trans (fg8 F22).symm), (((fg7 F44)).trans (fg6 F22).symm), (((fg6 F44)).trans (fg2 F22).symm), (((fg5 F44)).trans (fg1 F22).symm), (by subst hc2_23; exact S37)⟩
 refine wp_exit (then_exit (then_exit ?_))
 refine inb_hit ?_
 refine tk H20 (wp_seq_k fun K45 H45 => region_in ?_)
 refine W_v V V (V_fa (off' := 3) V (fg4 F25) Try.underlying23 V (by decide +kernel) V) ?_
 refine W_r V V (xlC (v := .int .i64 (K)) V (et V) (S23.obj 0 V hc2_23) Try.underlying3) ?_
 refine W_call V V V Try.func60 (by kernel_rfl) V (args1 (et V)) ((glC (F := fun a_ b_ => .tuple #[.agg #[a_, b_], .int .i64 (nwE K)]) (kNw_c (n := K)  ))) ?_
 rintro _ w46 ⟨hv_46, H_46, qv_46, q_46, rfl, hg_46, hP46⟩
 refine ⟨_, rfl, ?_⟩
 obtain ⟨cK_46, hcK_46, hP46⟩ := gen1 hP46
 have S46 := S23.join hP46
 replace S46 : St w NoX [cK_46, c2_23] w46 := S46
 refine W_v V V (V_mov V (et V)) ?_
 refine W_v V V (V_ext (v := .agg #[hv_46, qv_46]) V (et V) V) ?_
 refine W_v V V (V_ext (v := .int .i64 ((nwE K))) V (es V (et V)) V) ?_
 refine W_allocS (z := .agg #[.slice none 0 0, .slice none 0 0]) (zs := #[.slice none 0 0, .slice none 0 0]) S46 V V V (by kernel_rfl) (by rfl) (fun g47 w47 c47 hc47 S47 => ?_)
 replace S47 : St w NoX [c47, cK_46, c2_23] w47 := S47
 refine xsB 0 S47 V hc47 V V V (et V) (es2 V (et V)) (by simp only [List.all_toArray, List.all_cons, List.all_nil, SlN_one (sl_SlN (gl_oa m1 (S47.chq 1 V hcK_46))), SlN_one (sl_SlN (gl_ra m1 (S47.chq 1 V hcK_46)))] <;> rfl) (fun w48 c48 hc48 S48 => ?_)
 replace S48 : St w NoX [c48, cK_46, c2_23] w48 := S48
 refine W_v V V (V_asg V (es V (et V))) ?_
 refine W_end (gen_Q fun A49 E49 => ?_)
 have Y49 := szq E49
 have F49 := fsE E49 (cq1 (ck (cq6 F25 V) V V) V)
 clear E49 Y25 F25
 have S50 : St w NoX [c48, cK_46] w48 := S48.sel [0, 1] (by decide) V
 refine tk H45 (wp_seq_k fun K51 H51 => region_in ?_)
 refine W_r V V (VR_ldA V (fg0 F49) (S50.obj 0 V hc48) Try.underlying36 V (by kernel_rfl)) ?_
 refine W_v V V (V_mov V (es V (fg4 F49))) ?_
 refine W_v V V (V_bld (cs := #[hv_46, qv_46, .int .i64 ((lgN C N Z K Q))]) V (parts2 (es V (et V)) (et V)) (by kernel_rfl)) ?_
 refine W_boxS (zs := #[hv_46, qv_46, .int .i64 ((lgN C N Z K Q))]) S50 V V V (et V) (by rfl) (fun g52 w52 c52 hc52 S52 => ?_)
 replace S52 : St w NoX [c52, c48, cK_46] w52 := S52
 refine W_v V V (V_asg V (et V)) (W_v V V (V_asg V V) (W_v V V (V_asg V V) ?_))
 refine W_end (gen_Q fun A53 E53 => ?_)
 have Y53 := szq E53
 have F53 := fsE E53 (ck (ck (ck (cq4 F49 V) V V) V V) V V)
 clear E53 Y49 F49
 have S54 : St w NoX [c52, cK_46] w52 := S52.sel [0, 2] (by decide) V
 refine tk H51 (wp_ret ?_)
 refine ret_in (results_3 Try.results32 (rv_tmp (fg2 F53)) (rv_tmp (fg1 F53)) (rv_tmp (fg0 F53))) F53.d ?_
 exact .inr ⟨_, hv_46, H_46, qv_46, q_46, rfl, sc_ok c10 c16 hz (by omega), hg_46, (S54.fin2 0 V (hc52) 1 V (hcK_46) (by decide))⟩

set_option maxHeartbeats 4000000 in
theorem kslinan_c {a : Int} {w : World}   :
  Calls Try.prog 63 #[.int .i64 a] w fun e w' => e = .returned (.bool false) ∧ St w NoX [] w' := by
 refine calls_in 6 Try.func63 V V (by simp) (fun A0 Y0 hdf0 hargs => ?_)
 have l0_0 := hargs 0 (.int .i64 a) V
 clear hargs; replace Y0 : SzN A0 6 := ⟨Y0⟩
 have hS := St.nil w
 refine wp_seq_k fun K1 H1 => region_in ?_
 refine W_v V V (V_asg V V) ?_
 refine W_end (gen_Q fun A2 E2 => ?_)
 have Y2 := szq E2
 have F2 := (fsE E2 (cq1 (FS.n hdf0) V)).c (lookE E2 0 (es V l0_0))
 clear E2 Y0 hdf0 l0_0
 refine tk H1 (wp_seq_k fun K3 H3 => region_in ?_)
 refine W_v V V (V_mov V (fg0 F2)) (W_v V V (V_mov V (es V (fg0 F2))) ?_)
 refine W_v V V (V_neq V (es V (et V)) (et V)) ?_
 refine W_v V V (V_asg V (et V)) ?_
 refine W_end (gen_Q fun A4 E4 => ?_)
 have Y4 := szq E4
 have F4 := fsE E4 (ck (cq3 F2 V) V V)
 clear E4 Y2 F2
 refine tk H3 (wp_ret ?_)
 refine ret_in (results_1 Try.results63 (rv_tmp (fg0 F4))) F4.d ?_
 rw [show false = decide (a ≠ a) by simp]
 exact ⟨rfl, hS.fin0⟩

set_option maxHeartbeats 4000000 in
theorem kcmpnan_c {a : Int} {w : World}   :
  Calls Try.prog 80 #[.int .i64 a] w fun e w' => e = .returned (.bool false) ∧ St w NoX [] w' := by
 refine calls_in 6 Try.func80 V V (by simp) (fun A0 Y0 hdf0 hargs => ?_)
 have l0_0 := hargs 0 (.int .i64 a) V
 clear hargs; replace Y0 : SzN A0 6 := ⟨Y0⟩
 have hS := St.nil w
 refine wp_seq_k fun K1 H1 => region_in ?_
 refine W_v V V (V_asg V V) ?_
 refine W_end (gen_Q fun A2 E2 => ?_)
 have Y2 := szq E2
 have F2 := (fsE E2 (cq1 (FS.n hdf0) V)).c (lookE E2 0 (es V l0_0))
 clear E2 Y0 hdf0 l0_0
 refine tk H1 (wp_seq_k fun K3 H3 => region_in ?_)
 refine W_v V V (V_mov V (fg0 F2)) (W_v V V (V_mov V (es V (fg0 F2))) ?_)
 refine W_v V V (V_neq V (es V (et V)) (et V)) ?_
 refine W_v V V (V_asg V (et V)) ?_
 refine W_end (gen_Q fun A4 E4 => ?_)
 have Y4 := szq E4
 have F4 := fsE E4 (ck (cq3 F2 V) V V)
 clear E4 Y2 F2
 refine tk H3 (wp_ret ?_)
 refine ret_in (results_1 Try.results80 (rv_tmp (fg0 F4))) F4.d ?_
 rw [show false = decide (a ≠ a) by simp]
 exact ⟨rfl, hS.fin0⟩

set_option maxHeartbeats 4000000 in
theorem kls_c {a : Int} {b : Int} {w : World}   :
  Calls Try.prog 62 #[.int .i64 a, .int .i64 b] w fun e w' => e = .returned (.bool (decide (a < b))) ∧ St w NoX [] w' := by
 refine calls_in 17 Try.func62 V V (by simp) (fun A0 Y0 hdf0 hargs => ?_)
 have l0_0 := hargs 0 (.int .i64 a) V
 have l1_0 := hargs 1 (.int .i64 b) V
 clear hargs; replace Y0 : SzN A0 17 := ⟨Y0⟩
 have hS := St.nil w
 refine wp_seq_k fun K1 H1 => region_in ?_
 refine W_v V V (V_asg V V) ?_
 refine W_end (gen_Q fun A2 E2 => ?_)
 have Y2 := szq E2
 have F2 := ((fsE E2 (cq1 (FS.n hdf0) V)).c (lookE E2 0 (es V l0_0))).c (lookE E2 1 (es V l1_0))
 clear E2 Y0 hdf0 l0_0 l1_0
 refine tk H1 (wp_seq_k fun K3 H3 => region_in ?_)
 refine W_v V V (V_mov V (fg1 F2)) ?_
 refine W_call V V V Try.func80 (by kernel_rfl) V (args1 (et V)) (kcmpnan_c (a := a)  ) ?_
 rintro _ w4 ⟨rfl, hP4⟩
 refine ⟨_, rfl, ?_⟩
 have S4 := hS.join hP4
 replace S4 : St w NoX [] w4 := S4
 refine W_v V V (V_mov V (et V)) (xof V V V (et V) (xof V V V (es V (et V)) (xof V V V (es2 V (et V)) ?_)))
 refine W_v V V (V_pickF V (es3 V (et V)) V) ?_
 refine W_v V V (V_mov V (et V)) ?_
 refine W_v V (xwt V V (et V)) (V_mov V (es8 V (fg1 F2))) ?_
 refine W_v V (xwt V V (es V (et V))) (V_mov V (es8 V (es V (fg0 F2)))) ?_
 refine W_v V (xwt V V (es2 V (et V))) (V_lss V (es V (et V)) (et V)) ?_
 refine W_v V V (V_pickF V (es3 V (et V)) (et V)) ?_
 refine W_v V V (V_asg V (et V)) ?_
 refine W_end (gen_Q fun A5 E5 => ?_)
 have Y5 := szq E5
 have F5 := fsE E5 (ck (cq4 (cq8 F2 V) V) V V)
 clear E5 Y2 F2
 refine tk H3 (wp_ret ?_)
 refine ret_in (results_1 Try.results62 (rv_tmp (fg0 F5))) F5.d ?_
 exact ⟨rfl, S4.fin0⟩

set_option maxHeartbeats 4000000 in
theorem kbs_c {lv : Value} {l : List Int} {x : Int} {w : World} (h_lv : Ro w NoX (il .i64 lv l)) (hasc : Asc l) (hl : l.length ≤ 1048576) :
  Calls Try.prog 37 #[lv, .int .i64 x] w fun e w' => ∃ p, e = .returned (.tuple #[.int .i64 p, .bool (decide (x ∈ l))]) ∧ St w NoX [] w' := by
 refine calls_in 54 Try.func37 V V (by simp) (fun A0 Y0 hdf0 hargs => ?_)
 have l0_0 := hargs 0 (lv) V
 have l1_0 := hargs 1 (.int .i64 x) V
 clear hargs; replace Y0 : SzN A0 54 := ⟨Y0⟩
 have hS := St.nil w
 have bh_lv := SlN.le (sl_SlN h_lv.at)
 refine wp_seq_k fun K1 H1 => region_in ?_
 refine W_v V V (V_asg V V) (W_v V V (V_asg V V) ?_)
 refine W_end (gen_Q fun A2 E2 => ?_)
 have Y2 := szq E2
 have F2 := ((fsE E2 (cq2 (FS.n hdf0) V)).c (lookE E2 0 (es2 V l0_0))).c (lookE E2 1 (es2 V l1_0))
 clear E2 Y0 hdf0 l0_0 l1_0
 refine tk H1 (wp_seq_k fun K3 H3 => region_in ?_)
 refine W_v V V (V_mov V (fg1 F2)) ?_
 refine W_v V V (V_lenS V (et V) (sl_SlN h_lv.at) Try.underlying25) ?_
 refine W_v V V (V_asg V (et V)) ?_
 refine W_end (gen_Q fun A4 E4 => ?_)
 have Y4 := szq E4
 have F4 := fsE E4 (ck (cq2 F2 V) V V)
 clear E4 Y2 F2
 refine tk H3 (wp_seq_k fun K5 H5 => region_in ?_)
 refine W_v V V (V_mov V (fg0 F4)) (W_v V V (V_asg V V) (W_v V V (V_asg V (es V (et V))) ?_))
 refine W_end (gen_Q fun A6 E6 => ?_)
 have Y6 := szq E6
 have F6 := fsE E6 (cq3 F4 V)
 have l7_6 := lookE E6 7 (es V (et V))
 have l8_6 := lookE E6 8 (et V)
 clear E6 Y4 F4
 refine tk H5 (wp_seq_k fun K7 H7 => ?_)
 refine wp_block ?_
 -- loop 3
 refine loopX (fun mz A' w' => SzN A' 54 ∧ A'.defers = [] ∧ (∃ (lo : Nat) (hi : Nat), (mz = hi - lo) ∧ (lo ≤ hi ∧ hi ≤ l.length) ∧ (∀ i, i < lo → ∀ z, l[i]? = some z → z < x) ∧ (∀ i, hi ≤ i → ∀ z, l[i]? = some z → x ≤ z) ∧ (EV A' (.tmp 7) = .int .i64 (lo : Int)) ∧ (EV A' (.tmp 8) = .int .i64 (hi : Int)) ∧ (EV A' (.tmp 0) = EV A6 (.tmp 0)) ∧ (EV A' (.tmp 1) = EV A6 (.tmp 1)) ∧ (EV A' (.tmp 6) = EV A6 (.tmp 6)) ∧ (St w NoX [] w'))) (l.length - 0) ⟨Y6, F6.d, 0, l.length, rfl, (by omega), (fun i hi => by omega), (fun i hi z hz => by rw [List.getElem?_eq_none hi] at hz; cases hz), ((l7_6).trans (by first | rfl | (simp; done) | (congr 1; omega))), ((l8_6).trans (by first | rfl | (simp; done) | (congr 1; omega))), rfl, rfl, rfl, hS⟩ ?_
 clear hS
 rintro n8 A8 w8 ⟨Y8, hdf8, lo, hi, hm8, hb, hlo, hhi, l7_8, l8_8, u0_8, u1_8, u6_8, S8⟩
 have l0_8 := u0_8.trans (fg2 F6)
 have l1_8 := u1_8.trans (fg1 F6)
 have l6_8 := u6_8.trans (fg0 F6)
 refine wp_seq_k fun K9 H9 => ?_
 refine wp_seq_k fun K10 H10 => region_in ?_
 refine W_v V V (V_mov V l7_8) (W_v V V (V_mov V (es V l8_8)) ?_)
 refine W_v V V (V_lss V (es V (et V)) (et V)) ?_
 refine W_end (gen_Q fun A11 E11 => ?_)
 have Y11 := szq E11
 have F11 := (((((fsE E11 (ck (cq2 (FS.n hdf8) V) V V)).c (lookE E11 0 (es3 V l0_8))).c (lookE E11 1 (es3 V l1_8))).c (lookE E11 6 (es3 V l6_8))).c (lookE E11 7 (es3 V l7_8))).c (lookE E11 8 (es3 V l8_8))
 clear E11 Y8 hdf8 l7_8 l8_8 l0_8 l1_8 l6_8
 refine tk H10 ?_
 refine cond_dec (fg5 F11) (fun c12 => ?_) (fun c12 => ?_)
 ·refine wp_skip (tk H9 (wp_block ?_))
  refine wp_seq_k fun K13 H13 => region_in ?_
  refine W_v V V (V_mov V (fg1 F11)) (W_v V V (V_mov V (es V (fg0 F11))) ?_)
  refine W_v V V (V_add V (es V (et V)) (et V) (by omega) (by omega)) ?_
  refine W_v V V (V_cvt V (et V) Try.underlying3 Try.underlying122 (wrap_u64 (by omega) (by omega))) ?_
  refine W_v V V (V_shr1 V (et V) V) ?_
  refine W_v V V (V_cvt V (et V) Try.underlying122 Try.underlying3 (wrap_i64 (by omega) (by omega))) ?_
  refine W_v V V (V_asg V (et V)) ?_
  refine W_end (gen_Q fun A14 E14 => ?_)
  have Y14 := szq E14
  have F14 := fsE E14 (ck (cq6 F11 V) V V)
  clear E14 Y11 F11
  refine tk H13 (wp_seq_k fun K15 H15 => region_in ?_)
  refine W_v V V (V_mov V (fg5 F14)) (W_v V V (V_mov V (es V (fg0 F14))) ?_)
  have k16 : ((lo + hi) / 2) < l.length := by first | omega | (simp only [List.length_cons, List.length_nil]; omega) | (simp only [List.length_set]; omega) | decide
  obtain ⟨y16, hy16⟩ := get_some (xs := l) (k := ((lo + hi) / 2)) k16
  obtain ⟨B16, O16, C16, hv16⟩ := (SlN.blk (sl_SlN h_lv.at) (by first | omega | (simp only [List.length_cons, List.length_nil]; omega) | (simp only [List.length_set]; omega) | decide))
  refine W_v V V (V_ixS (off := O16 + ((lo + hi) / 2)) 1 (((lo + hi) / 2)) V (es V (et V)) (et V) hv16 (by omega) k16 Try.underlying25 (by kernel_rfl) (congrArg _ (Nat.mul_one _))) ?_
  refine W_r V V (VR_ldC V (et V) ((sl_SlN (S8.ro h_lv)).cell hv16 (map_get hy16)) Try.underlying3 V) ?_
  refine W_v V V (V_mov V (es4 V (fg4 F14))) ?_
  refine W_call V V V Try.func62 (by kernel_rfl) V (args2 (es V (et V)) (et V)) (kls_c (a := y16) (b := x)  ) ?_
  rintro _ w17 ⟨rfl, hP17⟩
  refine ⟨_, rfl, ?_⟩
  have S17 := S8.join hP17
  replace S17 : St w NoX [] w17 := S17
  refine W_end (gen_Q fun A18 E18 => ?_)
  have Y18 := szq E18
  have F18 := fsE E18 (ck (cq5 F14 V) V V)
  clear E18 Y14 F14
  refine tk H15 ?_
  refine cond_dec (fg0 F18) (fun c19 => ?_) (fun c19 => ?_)
  ·refine region_in ?_
   refine W_v V V (V_mov V (fg1 F18)) ?_
   refine W_v V V (V_add V (et V) V (by omega) (by omega)) ?_
   refine W_v V V (V_asg V (et V)) ?_
   refine W_end (gen_Q fun A20 E20 => ?_)
   have Y20 := szq E20
   have F20 := fsE E20 (ck (cq2 (fx3 F18) V) V V)
   clear E20 Y18 F18
   refine inb_n ?_
   refine then_n ⟨hi - ((lo + hi) / 2 + 1), by simp only [hm8]; omega, Y20, F20.d, ((lo + hi) / 2 + 1), hi, rfl, (by omega), (bs_lo hasc hy16 c19), hhi, (((fg0 F20)).trans (by first | rfl | (simp; done) | (congr 1; omega))), (((fg3 F20)).trans (by first | rfl | (simp; done) | (congr 1; omega))), (((fg6 F20)).trans (fg2 F6).symm), (((fg5 F20)).trans (fg1 F6).symm), (((fg4 F20)).trans (fg0 F6).symm), S17⟩
  refine region_in ?_
  refine W_v V V (V_mov V (fg1 F18)) (W_v V V (V_asg V (et V)) ?_)
  refine W_end (gen_Q fun A21 E21 => ?_)
  have Y21 := szq E21
  have F21 := fsE E21 (ck (cq1 (fx2 F18) V) V V)
  clear E21 Y18 F18
  refine inb_n ?_
  refine then_n ⟨((lo + hi) / 2) - lo, by simp only [hm8]; omega, Y21, F21.d, lo, ((lo + hi) / 2), rfl, (by omega), hlo, (bs_hi hasc hy16 c19), (((fg3 F21)).trans (by first | rfl | (simp; done) | (congr 1; omega))), (((fg0 F21)).trans (by first | rfl | (simp; done) | (congr 1; omega))), (((fg6 F21)).trans (fg2 F6).symm), (((fg5 F21)).trans (fg1 F6).symm), (((fg4 F21)).trans (fg0 F6).symm), S17⟩
 refine wp_exit (then_exit (then_exit ?_))
 refine inb_hit ?_
 refine tk H7 (wp_seq_k fun K22 H22 => region_in ?_)
 refine W_v V V (V_mov V (fg1 F11)) (W_v V V (V_mov V (es V (fg1 F11))) (W_v V V (V_mov V (es2 V (fg2 F11))) ?_))
 refine W_v V V (V_lss V (es V (et V)) (et V)) ?_
 refine W_split V V (V_mov V (et V)) (fun c23 => ?_) (fun c23 => ?_)
 ·refine W_v V (xwt V V (et V)) (V_mov V (es5 V (fg4 F11))) ?_
  refine W_v V (xwt V V (es V (et V))) (V_mov V (es6 V (fg1 F11))) ?_
  have k24 : lo < l.length := by first | omega | (simp only [List.length_cons, List.length_nil]; omega) | (simp only [List.length_set]; omega) | decide
  obtain ⟨y24, hy24⟩ := get_some (xs := l) (k := lo) k24
  obtain ⟨B24, O24, C24, hv24⟩ := (SlN.blk (sl_SlN h_lv.at) (by first | omega | (simp only [List.length_cons, List.length_nil]; omega) | (simp only [List.length_set]; omega) | decide))
  refine W_v V (xwt V V (es2 V (et V))) (V_ixS (off := O24 + lo) 1 (lo) V (es V (et V)) (et V) hv24 (by omega) k24 Try.underlying25 (by kernel_rfl) (congrArg _ (Nat.mul_one _))) ?_
  refine W_r V (xwt V V (es3 V (et V))) (VR_ldC V (et V) ((sl_SlN (S8.ro h_lv)).cell hv24 (map_get hy24)) Try.underlying3 V) ?_
  refine W_v V (xwt V V (es4 V (et V))) (V_mov V (es8 V (es V (fg3 F11)))) ?_
  refine W_v V (xwt V V (es5 V (et V))) (V_eql V (es V (et V)) (et V)) ?_
  refine W_split V (xwt V V (es6 V (et V))) (V_mov V (et V)) (fun c25 => ?_) (fun c25 => ?_)
  ·refine xof V V V (et V) (xof V V V (es V (et V)) (xof V V V (es2 V (et V)) (xof V V V (es3 V (et V)) (xof V V V (es4 V (et V)) (xof V V V (es5 V (et V)) ?_)))))
   refine W_off V (wanted_u V V (et V) (ez V)) ?_
   refine W_off V (wanted_u V V (es V (et V)) (ez V)) ?_
   refine xof V V V (es8 V (et V)) ?_
   refine W_v V (xwt V V (es8 V (es8 V (et V)))) (V_pickT V (es8 V (es V (et V))) V) ?_
   refine W_v V V (V_pickT V (es8 V (es8 V (es V (et V)))) (et V)) ?_
   refine W_v V V (V_asg V (es8 V (es8 V (es6 V (et V))))) (W_v V V (V_asg V (es V (et V))) ?_)
   refine W_end (gen_Q fun A26 E26 => ?_)
   have Y26 := szq E26
   have F26 := fsE E26 (ck (ck (cq7 (cq8 (cq8 F11 V) V) V) V V) V V)
   clear E26 Y11 F11
   refine tk H22 (wp_ret ?_)
   refine ret_in (results_2 Try.results37 (rv_tmp (fg1 F26)) (rv_tmp (fg0 F26))) F26.d ?_
   rw [show decide (x ∈ l) = true from decide_eq_true (show x ∈ l by have e := c25; rw [← e]; exact List.mem_of_getElem? hy24)]
   exact ⟨_, rfl, S8.fin0⟩
  refine W_v V (xwt V V (et V)) (V_mov V (es8 V (es4 V (fg4 F11)))) ?_
  refine W_v V (xwt V V (es V (et V))) (V_mov V (es8 V (es5 V (fg1 F11)))) ?_
  refine W_v V (xwt V V (es2 V (et V))) (V_ixS (off := O24 + lo) 1 (lo) V (es V (et V)) (et V) hv24 (by omega) k24 Try.underlying25 (by kernel_rfl) (congrArg _ (Nat.mul_one _))) ?_
  refine W_r V (xwt V V (es3 V (et V))) (VR_ldC V (et V) ((sl_SlN (S8.ro h_lv)).cell hv24 (map_get hy24)) Try.underlying3 V) ?_
  refine W_call V (xwt V V (es4 V (et V))) V Try.func63 (by kernel_rfl) V (args1 (et V)) (kslinan_c (a := y24)  ) ?_
  rintro _ w28 ⟨rfl, hP28⟩
  refine ⟨_, rfl, ?_⟩
  have S28 := S8.join hP28
  replace S28 : St w NoX [] w28 := S28
  refine W_v V (xwt V V (es5 V (et V))) (V_mov V (et V)) ?_
  refine xof V V V (et V) (xof V V V (es V (et V)) ?_)
  refine W_v V (xwt V V (es8 V (et V))) (V_pickF V (es2 V (et V)) V) ?_
  refine W_v V (xwt V V (es8 V (es8 V (et V)))) (V_pickF V (es8 V (es V (et V))) (et V)) ?_
  refine W_v V V (V_pickT V (es8 V (es8 V (es V (et V)))) (et V)) ?_
  refine W_v V V (V_asg V (es8 V (es8 V (es6 V (et V))))) (W_v V V (V_asg V (es V (et V))) ?_)
  refine W_end (gen_Q fun A29 E29 => ?_)
  have Y29 := szq E29
  have F29 := fsE E29 (ck (ck (cq7 (cq8 (cq8 F11 V) V) V) V V) V V)
  clear E29 Y11 F11
  refine tk H22 (wp_ret ?_)
  refine ret_in (results_2 Try.results37 (rv_tmp (fg1 F29)) (rv_tmp (fg0 F29))) F29.d ?_
  rw [show decide (x ∈ l) = false from decide_eq_false (show ¬ x ∈ l from bs_no2 hasc hlo (by rw [show lo = hi by omega]; exact hhi) hy24 c25)]
  exact ⟨_, rfl, S28.fin0⟩
 refine xof V V V (et V) (xof V V V (es V (et V)) (xof V V V (es2 V (et V)) (xof V V V (es3 V (et V)) (xof V V V (es4 V (et V)) (xof V V V (es5 V (et V)) (xof V V V (es6 V (et V)) ?_))))))
 refine W_off V (wanted_u V V (et V) (ez V)) ?_
 refine W_off V (wanted_u V V (es V (et V)) (ez V)) ?_
 refine W_off V (wanted_u V V (es2 V (et V)) (ez V)) ?_
 refine W_off V (wanted_u V V (es3 V (et V)) (ez V)) ?_
 refine W_off V (wanted_u V V (es4 V (et V)) (ez V)) ?_
 refine W_off V (wanted_u V V (es5 V (et V)) (ez V)) ?_
 refine W_off V (wanted_u V V (et V) (ez V)) ?_
 refine W_off V (wanted_u V V (es V (et V)) (ez V)) ?_
 refine W_off V (wanted_u V V (es8 V (et V)) (ez V)) ?_
 refine xof V V V (es8 V (es8 V (et V))) ?_
 refine W_v V V (V_pickF V (es8 V (es8 V (es V (et V)))) V) ?_
 refine W_v V V (V_asg V (es8 V (es8 V (es6 V (et V))))) (W_v V V (V_asg V (es V (et V))) ?_)
 refine W_end (gen_Q fun A30 E30 => ?_)
 have Y30 := szq E30
 have F30 := fsE E30 (ck (ck (cq7 (cq8 (cq8 F11 V) V) V) V V) V V)
 clear E30 Y11 F11
 refine tk H22 (wp_ret ?_)
 refine ret_in (results_2 Try.results37 (rv_tmp (fg1 F30)) (rv_tmp (fg0 F30))) F30.d ?_
 rw [show decide (x ∈ l) = false from decide_eq_false (show ¬ x ∈ l from bs_no1 hlo (by omega))]
 exact ⟨_, rfl, S8.fin0⟩

set_option maxHeartbeats 4000000 in
theorem kp1_c {i : Int} {fv : Value} {full : List Int} {gfv : Nat} {w : World} (hb_fv : Ro w NoX (bx gfv 25 #[fv])) (h_fv : Ro w NoX (il .i64 fv full)) (hasc : Asc full) (hfl : full.length ≤ 1048576) :
  Calls Try.prog 36 #[.int .i64 i, .pointer (some ⟨gfv, 0, none⟩)] w fun e w' => e = .returned (.bool (decide (i ∈ full))) ∧ St w NoX [] w' := by
 refine calls_in 13 Try.func36 V V (by simp) (fun A0 Y0 hdf0 hargs => ?_)
 have l0_0 := hargs 0 (.int .i64 i) V
 have l1_0 := hargs 1 (.pointer (some ⟨gfv, 0, none⟩)) V
 clear hargs; replace Y0 : SzN A0 13 := ⟨Y0⟩
 have hS := St.nil w
 have bh_fv := SlN.le (sl_SlN h_fv.at)
 refine wp_seq_k fun K1 H1 => region_in ?_
 refine W_v V V (V_asg V V) ?_
 refine W_end (gen_Q fun A2 E2 => ?_)
 have Y2 := szq E2
 have F2 := ((fsE E2 (cq1 (FS.n hdf0) V)).c (lookE E2 0 (es V l0_0))).c (lookE E2 1 (es V l1_0))
 clear E2 Y0 hdf0 l0_0 l1_0
 refine tk H1 (wp_seq_k fun K3 H3 => region_in ?_)
 refine W_r V V (VR_ldC V (fg0 F2) (cell_box (v := fv) (ob_at (hS.ro hb_fv)) V) Try.underlying25 V) ?_
 refine W_v V V (V_mov V (es V (fg1 F2))) ?_
 refine W_call V V V Try.func37 (by kernel_rfl) V (args2 (es V (et V)) (et V)) (kbs_c (x := i) (hS.roC h_fv) (by first | with_reducible assumption) (by first | with_reducible assumption | omega)) ?_
 rintro _ w4 ⟨p_4, rfl, hP4⟩
 refine ⟨_, rfl, ?_⟩
 have S4 := hS.join hP4
 replace S4 : St w NoX [] w4 := S4
 refine W_v V V (V_mov V (et V)) ?_
 refine W_v V V (V_ext (v := .int .i64 (p_4)) V (et V) V) ?_
 refine W_v V V (V_ext (v := .bool (decide (i ∈ full))) V (es V (et V)) V) ?_
 refine W_v V V (V_asg V (es V (et V))) (W_v V V (V_asg V (es V (et V))) ?_)
 refine W_end (gen_Q fun A5 E5 => ?_)
 have Y5 := szq E5
 have F5 := fsE E5 (ck (cq7 F2 V) V V)
 clear E5 Y2 F2
 refine tk H3 (wp_seq_k fun K6 H6 => region_in ?_)
 refine W_v V V (V_mov V (fg0 F5)) (W_v V V (V_asg V (et V)) ?_)
 refine W_end (gen_Q fun A7 E7 => ?_)
 have Y7 := szq E7
 have F7 := fsE E7 (ck (cq1 F5 V) V V)
 clear E7 Y5 F5
 refine tk H6 (wp_ret ?_)
 refine ret_in (results_1 Try.results36 (rv_tmp (fg0 F7))) F7.d ?_
 exact ⟨rfl, S4.fin0⟩

set_option maxHeartbeats 4000000 in
theorem kj1_c {i : Int} {av : Value} {ans : List AnC} {gav : Nat} {w : World} (hb_av : Ro w NoX (bx gav 37 #[av])) (h_av : Ro w NoX (rl 3 anC av ans)) (hi : 0 ≤ i ∧ i < (ans.length : Int)) :
  Calls Try.prog 35 #[.int .i64 i, .pointer (some ⟨gav, 0, none⟩)] w fun e w' => e = .returned (.bool (decide ((ans.getD i.toNat (AnC.mk 0 false 0)).e = 5))) ∧ St w NoX [] w' := by
 refine calls_in 10 Try.func35 V V (by simp) (fun A0 Y0 hdf0 hargs => ?_)
 have l0_0 := hargs 0 (.int .i64 i) V
 have l1_0 := hargs 1 (.pointer (some ⟨gav, 0, none⟩)) V
 clear hargs; replace Y0 : SzN A0 10 := ⟨Y0⟩
 have hS := St.nil w
 have bh_av := SlN.le (sl_SlN h_av.at)
 refine wp_seq_k fun K1 H1 => region_in ?_
 refine W_v V V (V_asg V V) ?_
 refine W_end (gen_Q fun A2 E2 => ?_)
 have Y2 := szq E2
 have F2 := ((fsE E2 (cq1 (FS.n hdf0) V)).c (lookE E2 0 (es V l0_0))).c (lookE E2 1 (es V l1_0))
 clear E2 Y0 hdf0 l0_0 l1_0
 refine tk H1 (wp_seq_k fun K3 H3 => region_in ?_)
 refine W_r V V (VR_ldC V (fg0 F2) (cell_box (v := av) (ob_at (hS.ro hb_av)) V) Try.underlying37 V) ?_
 refine W_v V V (V_mov V (es V (fg1 F2))) ?_
 have k4 : i.toNat < ans.length := by first | omega | (simp only [List.length_cons, List.length_nil]; omega) | (simp only [List.length_set]; omega) | decide
 obtain ⟨y4, hy4⟩ := get_some (xs := ans) (k := i.toNat) k4
 obtain ⟨B4, O4, C4, hv4⟩ := (SlN.blk (sl_SlN h_av.at) (by first | omega | (simp only [List.length_cons, List.length_nil]; omega) | (simp only [List.length_set]; omega) | decide))
 refine W_v V V (V_ixS (off := O4 + i.toNat * 3) 3 (i.toNat) V (es V (et V)) (et V) hv4 (by omega) k4 Try.underlying37 (by kernel_rfl) V) ?_
 refine W_v V V (V_fa (off' := O4 + i.toNat * 3 + 0) V (et V) Try.underlying44 V (by decide +kernel) V) ?_
 refine W_r V V (VR_ldC (v := .int .i64 (y4.e)) V (et V) (SlN.row anC_len (sl_SlN (hS.ro h_av)) hv4 hy4 V 0 _ V) Try.underlying28 V) ?_
 refine W_v V V (V_eql V (et V) V) ?_
 refine W_v V V (V_asg V (et V)) ?_
 refine W_end (gen_Q fun A5 E5 => ?_)
 have Y5 := szq E5
 have F5 := fsE E5 (ck (cq6 F2 V) V V)
 clear E5 Y2 F2
 refine tk H3 (wp_ret ?_)
 refine ret_in (results_1 Try.results35 (rv_tmp (fg0 F5))) F5.d ?_
 rw [show ans.getD i.toNat (AnC.mk 0 false 0) = y4 by rw [List.getD_eq_getElem?_getD, hy4]; rfl]
 exact ⟨rfl, hS.fin0⟩

end Go.Proofs.Ytpgkfndbfocibaa
namespace Go.Proofs.Ytpgkfndbfocibaa
open Go.RowKit Go.Own Go.Own.R Go.Own.G Go.Own.Gr Go.Own.Ml


set_option maxHeartbeats 4000000 in
theorem kmoP_it {gs : Nat} {g3 : Nat} {g4 : Nat} {g5 : Nat} {g7 : Nat} {gc : Nat} {G0 : GV} {n : Int} {lv : Value} {os : List OpC} {fv : Value} {full : List Int} {Rd : World → Prop} (hRd : ∀ W, Rd W → (bx g4 24 #[lv]).at W ∧ (rl 7 opC lv os).at W ∧ (bx g3 73 #[.pointer (some ⟨gs, 0, none⟩)]).at W ∧ (bx g7 76 #[.func (.func 30) #[.pointer (some ⟨gs, 0, none⟩)] #[]]).at W ∧ (bx g5 85 #[.func (.func 36) #[] #[.pointer (some ⟨gc, 0, none⟩)]]).at W ∧ (bx gc 25 #[fv]).at W ∧ (il .i64 fv full).at W) (hsm0 : SM (gab G0).1) (hn : 0 ≤ n ∧ n ≤ 32) (hops : ∀ c ∈ os, opE c = 0) (hol : os.length ≤ 200) (hasc : Asc full) (hfl : full.length ≤ 1048576) :
  IterT (α := ME) Try.prog 61 #[.pointer (some ⟨g4, 0, none⟩), .pointer (some ⟨g3, 0, none⟩), .pointer (some ⟨g7, 0, none⟩), .pointer (some ⟨g5, 0, none⟩)] encM (fun xs => Tr n (fun k : Nat => decide ((k : Int) ∈ full)) G0 os xs ∧ os.length ≤ xs.length) (Tr n (fun k : Nat => decide ((k : Int) ∈ full)) G0 os) (Tr n (fun k : Nat => decide ((k : Int) ∈ full)) G0 os) (mT gs 75 n G0) Rd := by
 intro l wb X fr J Jx w hR hY hS
 obtain ⟨cj, ct, hcj, hct, hS⟩ := gen2 hS
 refine calls_inR 48 Try.func61 V V (by simp) (fun A0 hsz0 hdf0 hargs => ?_)
 have l0_0 := hargs 0 (.func (.yield l) #[] #[]) V
 have l1_0 := hargs 1 (.pointer (some ⟨g4, 0, none⟩)) V
 have l2_0 := hargs 2 (.pointer (some ⟨g3, 0, none⟩)) V
 have l3_0 := hargs 3 (.pointer (some ⟨g7, 0, none⟩)) V
 have l4_0 := hargs 4 (.pointer (some ⟨g5, 0, none⟩)) V
 clear hargs; replace hsz0 : SzN A0 48 := ⟨hsz0⟩
 have bh_lv := SlN.le (sl_SlN (hRd _ (hR _ _ _ 0 hS (congrArg some hcj))).2.1)
 have bh_fv := SlN.le (sl_SlN (hRd _ (hR _ _ _ 0 hS (congrArg some hcj))).2.2.2.2.2.2)
 refine R_seq (fun K1 H1 => ?_)
 refine R_region (by kernel_rfl) ?_
 refine W_r V V (VR_ldC V l1_0 (cell_box (v := lv) (ob_at (hRd _ (hR _ _ _ 0 hS (congrArg some hcj))).1) V) Try.underlying24 V) ?_
 refine W_v V V (V_lenS V (et V) (sl_SlN (hRd _ (hR _ _ _ 0 hS (congrArg some hcj))).2.1) Try.underlying24) ?_
 refine W_v V V (V_mov V V) (W_end (Qo_normal ?_))
 refine gen_Q (fun A2 E2 => ?_)
 have hsz2 := szq E2
 have F2 := ((((fsE E2 (ck (ck (ck (FS.n hdf0) V V) V V) V V)).c (lookE E2 0 (es3 V l0_0))).c (lookE E2 2 (es3 V l2_0))).c (lookE E2 3 (es3 V l3_0))).c (lookE E2 4 (es3 V l4_0))
 clear E2 hsz0 hdf0 l0_0 l1_0 l2_0 l3_0 l4_0
 refine tk H1 (R_block ?_)
 -- loop 1
 refine R_loop (fun mz A' w' => SzN A' 48 ∧ A'.defers = [] ∧ (∃ (pre : List ME), (mz = os.length - pre.length) ∧ (Tr n (fun k : Nat => decide ((k : Int) ∈ full)) G0 os pre) ∧ (EV A' (.tmp 12) = .int .i64 (pre.length : Int)) ∧ (EV A' (.tmp 0) = EV A2 (.tmp 0)) ∧ (EV A' (.tmp 2) = EV A2 (.tmp 2)) ∧ (EV A' (.tmp 3) = EV A2 (.tmp 3)) ∧ (EV A' (.tmp 4) = EV A2 (.tmp 4)) ∧ (EV A' (.tmp 10) = EV A2 (.tmp 10)) ∧ (EV A' (.tmp 11) = EV A2 (.tmp 11)) ∧ (St wb X ((J pre) :: (mT gs 75 n G0 pre) :: fr) w'))) (os.length - [].length) ⟨hsz2, F2.d, [], rfl, (Tr.nil hsm0), (((fg4 F2)).trans (rfl)), rfl, rfl, rfl, rfl, rfl, rfl, (by subst hcj hct; exact hS)⟩ ?_
 clear hS hcj hct
 rintro n3 A3 w3 ⟨hsz3, hdf3, pre, hm3, hT, l12_3, u0_3, u2_3, u3_3, u4_3, u10_3, u11_3, S3⟩
 have l0_3 := u0_3.trans (fg3 F2)
 have l2_3 := u2_3.trans (fg2 F2)
 have l3_3 := u3_3.trans (fg1 F2)
 have l4_3 := u4_3.trans (fg0 F2)
 have l10_3 := u10_3.trans (fg6 F2)
 have l11_3 := u11_3.trans (fg5 F2)
 obtain ⟨cj_3, ct_3, hcj_3, hct_3, S3⟩ := gen2 S3
 refine R_seq (fun K4 H4 => ?_)
 refine R_region (by kernel_rfl) ?_
 refine W_v V V (V_lss V l12_3 l11_3) ?_
 refine W_end (Qo_normal ?_)
 refine gen_Q (fun A5 E5 => ?_)
 have hsz5 := szq E5
 have F5 := (((((((fsE E5 (ck (FS.n hdf3) V V)).c (lookE E5 0 (es V l0_3))).c (lookE E5 2 (es V l2_3))).c (lookE E5 3 (es V l3_3))).c (lookE E5 4 (es V l4_3))).c (lookE E5 10 (es V l10_3))).c (lookE E5 11 (es V l11_3))).c (lookE E5 12 (es V l12_3))
 clear E5 hsz3 hdf3 l12_3 l0_3 l2_3 l3_3 l4_3 l10_3 l11_3
 refine tk H4 ?_
 refine R_seq (fun K6 H6 => ?_)
 refine R_cond_dec (fg7 F5) (fun c7 => ?_) (fun c7 => ?_)
 ·have hsm := hT.sm
  obtain ⟨cb8, ck8, hcb8, hck8, S8⟩ := mT_open (hct_3 ▸ S3)
  replace S8 : St wb X (cj_3 :: cb8 :: ck8 :: fr) w3 := S8
  refine R_skip (tk H6 ?_)
  refine R_seq (fun K9 H9 => ?_)
  refine R_block ?_
  refine R_seq (fun K10 H10 => ?_)
  refine R_region (by kernel_rfl) ?_
  refine W_v V V (V_mov V (fg0 F5)) ?_
  have k11 : pre.length < os.length := by first | omega | (simp only [List.length_cons, List.length_nil]; omega) | (simp only [List.length_set]; omega) | decide
  obtain ⟨y11, hy11⟩ := get_some (xs := os) (k := pre.length) k11
  have hop11 := hops y11 (List.mem_of_getElem? hy11)
  obtain ⟨B11, O11, C11, hv11⟩ := (SlN.blk (sl_SlN (hRd _ (hR _ _ _ 0 S8 (congrArg some hcj_3))).2.1) (by first | omega | (simp only [List.length_cons, List.length_nil]; omega) | (simp only [List.length_set]; omega) | decide))
  refine W_v V V (V_ixS (off := O11 + pre.length * 7) 7 (pre.length) V (es V (fg2 F5)) (es V (fg0 F5)) hv11 (by omega) k11 Try.underlying24 (by kernel_rfl) V) ?_
  refine W_r V V (VR_ldR (ys := opC y11) V (et V) (SlN.row opC_len (sl_SlN (hRd _ (hR _ _ _ 0 S8 (congrArg some hcj_3))).2.1) hv11 hy11 V) Try.underlying42 V (by kernel_rfl)) ?_
  refine W_allocS (z := .agg #[.int .i64 0, .int .i64 0, .int .i64 0, .int .i64 0, .int .i64 0, .int .i64 0, .int .u64 0]) (zs := #[.int .i64 0, .int .i64 0, .int .i64 0, .int .i64 0, .int .i64 0, .int .i64 0, .int .u64 0]) S8 V V V (by kernel_rfl) (by rfl) (fun g12 w12 c12 hc12 S12 => ?_)
  replace S12 : St wb X (c12 :: cj_3 :: cb8 :: ck8 :: fr) w12 := S12
  refine W_v V V (V_asg V (es3 V (et V))) ?_
  refine xsA 0 S12 V hc12 V V V (es V (et V)) (es2 V (et V)) (fun w13 c13 hc13 S13 => ?_)
  replace S13 : St wb X (c13 :: cj_3 :: cb8 :: ck8 :: fr) w13 := S13
  refine W_end (Qo_normal ?_)
  refine gen_Q (fun A14 E14 => ?_)
  have hsz14 := szq E14
  have F14 := fsE E14 (ck (ck (cq3 F5 V) V V) V V)
  clear E14 hsz5 F5
  refine tk H10 ?_
  refine R_seq (fun K15 H15 => ?_)
  refine R_region (by kernel_rfl) ?_
  refine W_r V V (VR_ldC V (fg7 F14) (cell_box (v := .pointer (some ⟨gs, 0, none⟩)) (ob_at (hRd _ (hR _ _ _ 1 S13 (congrArg some hcj_3))).2.2.1) V) Try.underlying73 V) ?_
  refine W_v V V (V_nil V (et V)) ?_
  refine W_v V V (V_fa (off' := 0) V (et V) Try.underlying75 V (by decide +kernel) V) ?_
  refine W_r V V (VR_ldP (ys := [(lastG G0 pre).1.1, (lastG G0 pre).2.1]) V (et V) (S13.obj 2 V hcb8) (ldP_at V) Try.underlying36 V (by kernel_rfl)) ?_
  refine W_allocS (z := .agg #[.slice none 0 0, .slice none 0 0]) (zs := #[.slice none 0 0, .slice none 0 0]) S13 V V V (by kernel_rfl) (by rfl) (fun g16 w16 c16 hc16 S16 => ?_)
  replace S16 : St wb X (c16 :: c13 :: cj_3 :: cb8 :: ck8 :: fr) w16 := S16
  refine xsB 0 S16 V hc16 V V V (et V) (es V (et V)) (by simp only [List.all_toArray, List.all_cons, List.all_nil, SlN_one (sl_SlN (gl_oa (lastG_mem G0 pre) (S16.chq 4 V hck8))), SlN_one (sl_SlN (gl_ra (lastG_mem G0 pre) (S16.chq 4 V hck8)))] <;> rfl) (fun w17 c17 hc17 S17 => ?_)
  replace S17 : St wb X (c17 :: c13 :: cj_3 :: cb8 :: ck8 :: fr) w17 := S17
  refine W_end (Qo_normal ?_)
  refine gen_Q (fun A18 E18 => ?_)
  have hsz18 := szq E18
  have F18 := fsE E18 (ck (cq4 F14 V) V V)
  clear E18 hsz14 F14
  refine tk H15 ?_
  refine R_seq (fun K19 H19 => ?_)
  refine R_region (by kernel_rfl) ?_
  refine W_r V V (VR_ldC V (fg7 F18) (cell_box (v := .func (.func 30) #[.pointer (some ⟨gs, 0, none⟩)] #[]) (ob_at (hRd _ (hR _ _ _ 2 S17 (congrArg some hcj_3))).2.2.2.1) V) Try.underlying76 V) ?_
  refine W_r V V (VR_ldA V (es V (fg2 F18)) (S17.obj 1 V hc13) Try.underlying42 V (by kernel_rfl)) ?_
  have S20 : St wb X (cb8 :: c17 :: c13 :: cj_3 :: ck8 :: fr) w17 := St.selR (l := [c17, c13, cj_3, cb8, ck8]) (l' := [cb8, c17, c13, cj_3, ck8]) (fr := fr) S17 [3, 0, 1, 2, 4] (by decide) (by rfl) V
  obtain ⟨Y21, hP21, hR21, hF21, hB21⟩ := St.call (pre := [cb8]) (fr := (c17 :: c13 :: cj_3 :: ck8 :: fr)) S20
  rw [hcb8] at hP21
  refine W_callB V V V (es V (et V)) Try.func30 (by kernel_rfl) V (args1 (et V)) (kdo_c (G := (lastG G0 pre)) (kd := y11.kd) (a := y11.a) (b := y11.b) (f := y11.f) (p := y11.p) (q := y11.q) (uu := y11.u) (gl_mk (gl_oaR (lastG_mem G0 pre) (hck8 ▸ hF21 3 _ V)) (gl_naR (lastG_mem G0 pre) (hck8 ▸ hF21 3 _ V)) (gl_raR (lastG_mem G0 pre) (hck8 ▸ hF21 3 _ V))) hP21 (by first | with_reducible assumption | exact hsm) (by first | with_reducible assumption | omega) (by first | with_reducible assumption)) ?_
  rintro _ w22 ⟨Gx_22, Gn_22, rfl, hg_22, hm_22, hP22⟩
  refine ⟨_, rfl, ?_⟩
  obtain ⟨cB_22, cK_22, hcB_22, hcK_22, hP22⟩ := gen2 hP22
  have S22 := hB21 _ _ hP22
  replace S22 : St wb X (cB_22 :: cK_22 :: c17 :: c13 :: cj_3 :: ck8 :: fr) w22 := S22
  have S23 : St wb X (ck8 :: cK_22 :: cB_22 :: c17 :: c13 :: cj_3 :: fr) w22 := St.selR (l := [cB_22, cK_22, c17, c13, cj_3, ck8]) (l' := [ck8, cK_22, cB_22, c17, c13, cj_3]) (fr := fr) S22 [5, 1, 0, 2, 3, 4] (by decide) (by rfl) V
  rw [hck8, hcK_22] at S23
  obtain ⟨c24, hc24, S24⟩ := gen1 (gl_app (L := (gsM G0 pre)) (M := Gn_22) S23)
  replace S24 : St wb X (c24 :: cB_22 :: c17 :: c13 :: cj_3 :: fr) w22 := S24
  refine W_allocS (z := .agg #[.int .i64 0, .bool false, .int .u64 0]) (zs := #[.int .i64 0, .bool false, .int .u64 0]) S24 V V V (by kernel_rfl) (by rfl) (fun g25 w25 c25 hc25 S25 => ?_)
  replace S25 : St wb X (c25 :: c24 :: cB_22 :: c17 :: c13 :: cj_3 :: fr) w25 := S25
  refine xsA 0 S25 V hc25 V V V (et V) (es V (et V)) (fun w26 c26 hc26 S26 => ?_)
  replace S26 : St wb X (c26 :: c24 :: cB_22 :: c17 :: c13 :: cj_3 :: fr) w26 := S26
  refine W_end (Qo_normal ?_)
  refine gen_Q (fun A27 E27 => ?_)
  have hsz27 := szq E27
  have F27 := fsE E27 (ck (cq3 F18 V) V V)
  clear E27 hsz18 F18
  refine tk H19 ?_
  refine R_seq (fun K28 H28 => ?_)
  refine R_seq (fun K29 H29 => ?_)
  refine R_mid (G := fun A' w' => SzN A' 48 ∧ A'.defers = [] ∧ (EV A' (.tmp 0) = EV A27 (.tmp 0)) ∧ (EV A' (.tmp 2) = EV A27 (.tmp 2)) ∧ (EV A' (.tmp 3) = EV A27 (.tmp 3)) ∧ (EV A' (.tmp 4) = EV A27 (.tmp 4)) ∧ (EV A' (.tmp 6) = EV A27 (.tmp 6)) ∧ (EV A' (.tmp 8) = EV A27 (.tmp 8)) ∧ (EV A' (.tmp 9) = EV A27 (.tmp 9)) ∧ (EV A' (.tmp 10) = EV A27 (.tmp 10)) ∧ (EV A' (.tmp 11) = EV A27 (.tmp 11)) ∧ (EV A' (.tmp 12) = EV A27 (.tmp 12)) ∧ (EV A' (.tmp 36) = .bool (decide (((pre.length : Int) ∈ full) ∧ (y11.kd = 1) ∧ ((doG n (gab (lastG G0 pre)) (⟨y11.kd, y11.a, y11.b, y11.f, y11.p, y11.q, y11.u⟩ : OpC)).2.e = 0)))) ∧ St wb X (c26 :: c24 :: cB_22 :: c17 :: cj_3 :: fr) w') ?_ ?_
  ·have j0_30 := (fg10 F27)
   have j2_30 := (fg9 F27)
   have j3_30 := (fg8 F27)
   have j4_30 := (fg7 F27)
   have j6_30 := (fg2 F27)
   have j8_30 := (fg1 F27)
   have j9_30 := (fg0 F27)
   have j10_30 := (fg6 F27)
   have j11_30 := (fg5 F27)
   have j12_30 := (fg4 F27)
   refine R_region (by kernel_rfl) ?_
   refine W_r V V (VR_ldC V (fg7 F27) (cell_box (v := .func (.func 36) #[] #[.pointer (some ⟨gc, 0, none⟩)]) (ob_at (hRd _ (hR _ _ _ 5 S26 (congrArg some hcj_3))).2.2.2.2.1) V) Try.underlying85 V) ?_
   refine W_v V V (V_mov V (es V (fg2 F27))) ?_
   refine W_callV V V V (es V (et V)) Try.func36 (by kernel_rfl) V (args1 (et V)) (kp1_c (i := (pre.length : Int)) (gfv := gc) (at_obRo (hRd _ (hR _ _ _ 5 S26 (congrArg some hcj_3))).2.2.2.2.2.1) (SlN.ro (sl_SlN (hRd _ (hR _ _ _ 5 S26 (congrArg some hcj_3))).2.2.2.2.2.2)) (by first | with_reducible assumption) (by first | with_reducible assumption | omega)) ?_
   rintro _ w31 ⟨rfl, hP31⟩
   refine ⟨_, rfl, ?_⟩
   have S31 := S26.join hP31
   replace S31 : St wb X (c26 :: c24 :: cB_22 :: c17 :: c13 :: cj_3 :: fr) w31 := S31
   refine W_split V V (V_mov V (et V)) (fun c32 => ?_) (fun c32 => ?_)
   ·refine W_v V (xwt V V (et V)) (V_fa (off' := 0) V (es4 V (fg3 F27)) Try.underlying42 V (by decide +kernel) V) ?_
    refine W_r V (xwt V V (es V (et V))) (xlC (v := .int .i64 (y11.kd)) V (et V) (S31.obj 4 V hc13) Try.underlying3) ?_
    refine W_v V (xwt V V (es2 V (et V))) (V_eql V (et V) V) ?_
    refine W_v V V (V_pickT V (es3 V (et V)) (et V)) ?_
    refine W_split V V (V_mov V (et V)) (fun c33 => ?_) (fun c33 => ?_)
    ·refine W_v V (xwt V V (et V)) (V_fa (off' := 0) V (es8 V (es V (fg0 F27))) Try.underlying44 V (by decide +kernel) V) ?_
     refine W_r V (xwt V V (es V (et V))) (xlC (v := .int .i64 ((doG n (gab (lastG G0 pre)) (⟨y11.kd, y11.a, y11.b, y11.f, y11.p, y11.q, y11.u⟩ : OpC)).2.e)) V (et V) (S31.obj 0 V hc26) Try.underlying28) ?_
     refine W_v V (xwt V V (es2 V (et V))) (V_eql V (et V) V) ?_
     refine W_v V V (V_pickT V (es3 V (et V)) (et V)) ?_
     refine W_end (Qo_normal ?_)
     refine gen_Q (fun A34 E34 => ?_)
     have hsz34 := szq E34
     have F34 := fsE E34 (ck (ck (ck (ck (cq2 (ck (ck (ck (cq4 F27 V) V V) V V) V V) V) V V) V V) V V) V V)
     clear E34 hsz27 F27
     have S36 := S31.del 4
     replace S36 : St wb X (c26 :: c24 :: cB_22 :: c17 :: cj_3 :: fr) w31 := S36
     exact Mid_n ⟨hsz34, F34.d, ((fg17 F34).trans j0_30.symm), ((fg16 F34).trans j2_30.symm), ((fg15 F34).trans j3_30.symm), ((fg14 F34).trans j4_30.symm), ((fg9 F34).trans j6_30.symm), ((fg8 F34).trans j8_30.symm), ((fg7 F34).trans j9_30.symm), ((fg13 F34).trans j10_30.symm), ((fg12 F34).trans j11_30.symm), ((fg11 F34).trans j12_30.symm), ((fg0 F34).trans (congrArg Value.bool (decide_eq_decide.2 ⟨fun q => ⟨c32, c33, q⟩, fun q => q.2.2⟩))), S36⟩
    refine xof V V V (et V) (xof V V V (es V (et V)) (xof V V V (es2 V (et V)) ?_))
    refine W_v V V (V_pickF V (es3 V (et V)) V) ?_
    refine W_end (Qo_normal ?_)
    refine gen_Q (fun A37 E37 => ?_)
    have hsz37 := szq E37
    have F37 := fsE E37 (ck (ck (ck (ck (cq2 (ck (ck (ck (cq4 F27 V) V V) V V) V V) V) V V) V V) V V) V V)
    clear E37 hsz27 F27
    have S39 := S31.del 4
    replace S39 : St wb X (c26 :: c24 :: cB_22 :: c17 :: cj_3 :: fr) w31 := S39
    exact Mid_n ⟨hsz37, F37.d, ((fg17 F37).trans j0_30.symm), ((fg16 F37).trans j2_30.symm), ((fg15 F37).trans j3_30.symm), ((fg14 F37).trans j4_30.symm), ((fg9 F37).trans j6_30.symm), ((fg8 F37).trans j8_30.symm), ((fg7 F37).trans j9_30.symm), ((fg13 F37).trans j10_30.symm), ((fg12 F37).trans j11_30.symm), ((fg11 F37).trans j12_30.symm), ((fg0 F37).trans (congrArg Value.bool ((decide_eq_false (fun q => c33 q.2.1)).symm))), S39⟩
   refine xof V V V (et V) (xof V V V (es V (et V)) (xof V V V (es2 V (et V)) ?_))
   refine W_v V V (V_pickF V (es3 V (et V)) V) ?_
   refine W_v V V (V_mov V (et V)) (xof V V V (et V) (xof V V V (es V (et V)) (xof V V V (es2 V (et V)) ?_)))
   refine W_v V V (V_pickF V (es3 V (et V)) V) ?_
   refine W_end (Qo_normal ?_)
   refine gen_Q (fun A40 E40 => ?_)
   have hsz40 := szq E40
   have F40 := fsE E40 (ck (ck (ck (ck (cq2 (ck (ck (ck (cq4 F27 V) V V) V V) V V) V) V V) V V) V V) V V)
   clear E40 hsz27 F27
   have S42 := S31.del 4
   replace S42 : St wb X (c26 :: c24 :: cB_22 :: c17 :: cj_3 :: fr) w31 := S42
   exact Mid_n ⟨hsz40, F40.d, ((fg17 F40).trans j0_30.symm), ((fg16 F40).trans j2_30.symm), ((fg15 F40).trans j3_30.symm), ((fg14 F40).trans j4_30.symm), ((fg9 F40).trans j6_30.symm), ((fg8 F40).trans j8_30.symm), ((fg7 F40).trans j9_30.symm), ((fg13 F40).trans j10_30.symm), ((fg12 F40).trans j11_30.symm), ((fg11 F40).trans j12_30.symm), ((fg0 F40).trans (congrArg Value.bool ((decide_eq_false (fun q => c32 q.1)).symm))), S42⟩
  rintro A30 w30 ⟨hsz30, hdf30, u0_30, u2_30, u3_30, u4_30, u6_30, u8_30, u9_30, u10_30, u11_30, u12_30, l36_30, S30⟩
  have l0_30 := u0_30.trans (fg10 F27)
  have l2_30 := u2_30.trans (fg9 F27)
  have l3_30 := u3_30.trans (fg8 F27)
  have l4_30 := u4_30.trans (fg7 F27)
  have l6_30 := u6_30.trans (fg2 F27)
  have l8_30 := u8_30.trans (fg1 F27)
  have l9_30 := u9_30.trans (fg0 F27)
  have l10_30 := u10_30.trans (fg6 F27)
  have l11_30 := u11_30.trans (fg5 F27)
  have l12_30 := u12_30.trans (fg4 F27)
  refine tk H29 ?_
  refine R_cond_dec l36_30 (fun c43 => ?_) (fun c43 => ?_)
  ·refine R_region (by kernel_rfl) ?_
   refine W_r V V (VR_ldC V l2_30 (cell_box (v := .pointer (some ⟨gs, 0, none⟩)) (ob_at (hRd _ (hR _ _ _ 4 S30 (congrArg some hcj_3))).2.2.1) V) Try.underlying73 V) ?_
   refine W_r V V (VR_ldA V (es V l8_30) (S30.obj 3 V hc17) Try.underlying36 V (by kernel_rfl)) ?_
   refine W_v V V (xbS (n := 3) (z := .agg #[.int .i64 0, .bool false, .int .u64 0]) V (parts1 V)) ?_
   refine W_v V V (V_nil V (es2 V (et V))) ?_
   refine W_v V V (V_fa (off' := 0) V (et V) Try.underlying75 V (by decide +kernel) V) ?_
   refine W_stAM (ys := [(lastG G0 pre).1.1, (lastG G0 pre).2.1]) (zs' := #[(lastG G0 pre).1.1, (lastG G0 pre).2.1, .int .i64 (n)]) 2 S30 V hcB_22 V V V (et V) (es3 V (et V)) (by intro u hu; simp only [List.mem_cons, List.not_mem_nil, or_false] at hu; rcases hu with rfl | rfl <;> first | exact SlN_one (sl_SlN (gl_oa (List.mem_append_left _ (lastG_mem G0 pre)) (S30.chq 1 V hc24))) | exact SlN_one (sl_SlN (gl_ra (List.mem_append_left _ (lastG_mem G0 pre)) (S30.chq 1 V hc24)))) (by simp) (by kernel_rfl) V (fun w44 c44 hc44 S44 => ?_)
   replace S44 : St wb X (c26 :: c24 :: c44 :: c17 :: cj_3 :: fr) w44 := S44
   refine xsA 0 S44 V hc26 V V V (es5 V l9_30) (es2 V (et V)) (fun w45 c45 hc45 S45 => ?_)
   replace S45 : St wb X (c45 :: c24 :: c44 :: c17 :: cj_3 :: fr) w45 := S45
   refine W_end (Qo_normal ?_)
   refine gen_Q (fun A46 E46 => ?_)
   have hsz46 := szq E46
   have F46 := (((((((((fsE E46 (cq5 (FS.n hdf30) V)).c (lookE E46 0 (es5 V l0_30))).c (lookE E46 2 (es5 V l2_30))).c (lookE E46 3 (es5 V l3_30))).c (lookE E46 4 (es5 V l4_30))).c (lookE E46 6 (es5 V l6_30))).c (lookE E46 9 (es5 V l9_30))).c (lookE E46 10 (es5 V l10_30))).c (lookE E46 11 (es5 V l11_30))).c (lookE E46 12 (es5 V l12_30))
   clear E46 hsz30 hdf30 l0_30 l2_30 l3_30 l4_30 l6_30 l8_30 l9_30 l10_30 l11_30 l12_30 l36_30
   have S48 := S45.del 3
   replace S48 : St wb X (c45 :: c24 :: c44 :: cj_3 :: fr) w45 := S48
   refine tk H28 ?_
   refine R_seq (fun K49 H49 => ?_)
   refine R_regionI ?_
   refine I_v V V (by rfl) (V_mov V (fg8 F46)) ?_
   refine I_v V V (by rfl) (V_mov V (es V (fg4 F46))) ?_
   refine I_r V V (by rfl) (VR_ldA V (es2 V (fg3 F46)) (S48.obj 0 V hc45) Try.underlying44 V (by kernel_rfl)) ?_
   have hT22 : Tr n (fun k : Nat => decide ((k : Int) ∈ full)) G0 os (pre ++ [((pre.length : Int), AnC.mk 5 false 0, (lastG G0 pre))]) := Tr.step hT hy11 V (by exact (stp_1 (mx := n) (rb := decide ((pre.length : Int) ∈ full)) (g := gab (lastG G0 pre)) (c := y11) ⟨decide_eq_true c43.1, c43.2.1, c43.2.2⟩).symm)
   have S50 : St wb X (c24 :: c45 :: c44 :: cj_3 :: fr) w45 := St.selR (l := [c45, c24, c44, cj_3]) (l' := [c24, c45, c44, cj_3]) (fr := fr) S48 [1, 0, 2, 3] (by decide) (by rfl) V
   rw [hc24] at S50
   obtain ⟨c51, hc51, S51⟩ := gen1 (gl_subS (M := (gsM G0 (pre ++ [((pre.length : Int), AnC.mk 5 false 0, (lastG G0 pre))]))) S50 (gsM_sub (fun G hG => List.mem_append_left _ hG) (List.mem_append_left _ (lastG_mem G0 pre))))
   replace S51 : St wb X (c51 :: c45 :: c44 :: cj_3 :: fr) w45 := S51
   have S52 : St wb X (cj_3 :: c44 :: c51 :: c45 :: fr) w45 := St.selR (l := [c51, c45, c44, cj_3]) (l' := [cj_3, c44, c51, c45]) (fr := fr) S51 [3, 2, 0, 1] (by decide) (by rfl) V
   have S53 := mT_shut (pre := (pre ++ [((pre.length : Int), AnC.mk 5 false 0, (lastG G0 pre))])) (hc44.trans (by rw [lastG_app])) hc51 S52
   rw [hcj_3] at S53
   refine I_yield V V (by rfl) (hY pre ((pre.length : Int), AnC.mk 5 false 0, (lastG G0 pre)) _ _ S53 (hT22)) (fun res hr => run_yield2 V (es2 V (et V)) (es V (et V)) (et V) hr) ?_
   rintro _ w53 (⟨rfl, S53⟩ | ⟨rfl, S53⟩)
   ·refine ⟨_, rfl, ?_⟩
    obtain ⟨cj53, ct53, hcj53, hct53, S53⟩ := gen2 S53
    replace S53 : St wb X (cj53 :: ct53 :: c45 :: fr) w53 := S53
    refine I_up (by kernel_rfl) ?_
    refine W_v V V (V_notT V (et V)) ?_
    refine W_end (Qo_normal ?_)
    refine gen_Q (fun A55 E55 => ?_)
    have hsz55 := szq E55
    have F55 := fsE E55 (ck (cq4 F46 V) V V)
    clear E55 hsz46 F46
    have S57 := S53.del 2
    replace S57 : St wb X (cj53 :: ct53 :: fr) w53 := S57
    refine tk H49 ?_
    refine R_cond_f (fg0 F55) ?_
    refine R_skip (inb_n (tk H9 ?_))
    refine R_region (by kernel_rfl) ?_
    refine W_v V V (V_add V (fg1 F55) V (by omega) (by omega)) ?_
    refine W_v V V (V_mov V (et V)) (W_end (Qo_normal ?_))
    refine gen_Q (fun A58 E58 => ?_)
    have hsz58 := szq E58
    have F58 := fsE E58 (ck (cq1 (fx1 F55) V) V V)
    clear E58 hsz55 F55
    refine then_n ⟨os.length - (pre ++ [((pre.length : Int), AnC.mk 5 false 0, (lastG G0 pre))]).length, by simp only [hm3, List.length_append, List.length_singleton]; omega, hsz58, F58.d, (pre ++ [((pre.length : Int), AnC.mk 5 false 0, (lastG G0 pre))]), rfl, hT22, (((fg0 F58)).trans ((by simp only [List.length_append, List.length_singleton]; congr 1))), (((fg9 F58)).trans (fg3 F2).symm), (((fg8 F58)).trans (fg2 F2).symm), (((fg7 F58)).trans (fg1 F2).symm), (((fg6 F58)).trans (fg0 F2).symm), (((fg3 F58)).trans (fg6 F2).symm), (((fg2 F58)).trans (fg5 F2).symm), (by subst hcj53 hct53; exact S57)⟩
   refine ⟨_, rfl, ?_⟩
   obtain ⟨cj53, ct53, hcj53, hct53, S53⟩ := gen2 S53
   replace S53 : St wb X (cj53 :: ct53 :: c45 :: fr) w53 := S53
   refine I_up (by kernel_rfl) ?_
   refine W_v V V (V_notF V (et V)) ?_
   refine W_end (Qo_normal ?_)
   refine gen_Q (fun A59 E59 => ?_)
   have hsz59 := szq E59
   have F59 := fsE E59 (ck (cq4 F46 V) V V)
   clear E59 hsz46 F46
   have S61 := S53.del 2
   replace S61 : St wb X (cj53 :: ct53 :: fr) w53 := S61
   refine tk H49 ?_
   refine R_cond_t (fg0 F59) ?_
   refine R_ret ?_
   refine inb_ret (then_ret (then_ret (inb_ret ?_)))
   refine ret_inR0 (results_0 Try.results61 ) F59.d ?_
   exact ⟨⟨_, rfl⟩, .inr ⟨_, hT22, by subst hcj53 hct53; exact S61⟩⟩
  refine R_skip (tk H28 ?_)
  refine R_seq (fun K62 H62 => ?_)
  refine R_regionI ?_
  refine I_v V V (by rfl) (V_mov V l0_30) ?_
  refine I_v V V (by rfl) (V_mov V (es V l6_30)) ?_
  refine I_r V V (by rfl) (VR_ldA V (es2 V l9_30) (S30.obj 0 V hc26) Try.underlying44 V (by kernel_rfl)) ?_
  have hT22 : Tr n (fun k : Nat => decide ((k : Int) ∈ full)) G0 os (pre ++ [((pre.length : Int), AnC.mk ((doG n (gab (lastG G0 pre)) (⟨y11.kd, y11.a, y11.b, y11.f, y11.p, y11.q, y11.u⟩ : OpC)).2.e) ((doG n (gab (lastG G0 pre)) (⟨y11.kd, y11.a, y11.b, y11.f, y11.p, y11.q, y11.u⟩ : OpC)).2.t) ((doG n (gab (lastG G0 pre)) (⟨y11.kd, y11.a, y11.b, y11.f, y11.p, y11.q, y11.u⟩ : OpC)).2.v), Gx_22)]) := Tr.step hT hy11 V (by exact (Prod.ext hg_22 V : (gab Gx_22, (doG n (gab (lastG G0 pre)) y11).2) = doG n (gab (lastG G0 pre)) y11).trans (stp_0 (mx := n) (rb := decide ((pre.length : Int) ∈ full)) (g := gab (lastG G0 pre)) (c := y11) (fun q => c43 ⟨of_decide_eq_true q.1, q.2⟩)).symm)
  have S63 : St wb X (c24 :: c26 :: cB_22 :: c17 :: cj_3 :: fr) w30 := St.selR (l := [c26, c24, cB_22, c17, cj_3]) (l' := [c24, c26, cB_22, c17, cj_3]) (fr := fr) S30 [1, 0, 2, 3, 4] (by decide) (by rfl) V
  rw [hc24] at S63
  obtain ⟨c64, hc64, S64⟩ := gen1 (gl_subS (M := (gsM G0 (pre ++ [((pre.length : Int), AnC.mk ((doG n (gab (lastG G0 pre)) (⟨y11.kd, y11.a, y11.b, y11.f, y11.p, y11.q, y11.u⟩ : OpC)).2.e) ((doG n (gab (lastG G0 pre)) (⟨y11.kd, y11.a, y11.b, y11.f, y11.p, y11.q, y11.u⟩ : OpC)).2.t) ((doG n (gab (lastG G0 pre)) (⟨y11.kd, y11.a, y11.b, y11.f, y11.p, y11.q, y11.u⟩ : OpC)).2.v), Gx_22)]))) S63 (gsM_sub (fun G hG => List.mem_append_left _ hG) (gm_mem (lastG_mem G0 pre) hm_22)))
  replace S64 : St wb X (c64 :: c26 :: cB_22 :: c17 :: cj_3 :: fr) w30 := S64
  have S65 : St wb X (cj_3 :: cB_22 :: c64 :: c26 :: c17 :: fr) w30 := St.selR (l := [c64, c26, cB_22, c17, cj_3]) (l' := [cj_3, cB_22, c64, c26, c17]) (fr := fr) S64 [4, 2, 0, 1, 3] (by decide) (by rfl) V
  have S66 := mT_shut (pre := (pre ++ [((pre.length : Int), AnC.mk ((doG n (gab (lastG G0 pre)) (⟨y11.kd, y11.a, y11.b, y11.f, y11.p, y11.q, y11.u⟩ : OpC)).2.e) ((doG n (gab (lastG G0 pre)) (⟨y11.kd, y11.a, y11.b, y11.f, y11.p, y11.q, y11.u⟩ : OpC)).2.t) ((doG n (gab (lastG G0 pre)) (⟨y11.kd, y11.a, y11.b, y11.f, y11.p, y11.q, y11.u⟩ : OpC)).2.v), Gx_22)])) (hcB_22.trans (by rw [lastG_app])) hc64 S65
  rw [hcj_3] at S66
  refine I_yield V V (by rfl) (hY pre ((pre.length : Int), AnC.mk ((doG n (gab (lastG G0 pre)) (⟨y11.kd, y11.a, y11.b, y11.f, y11.p, y11.q, y11.u⟩ : OpC)).2.e) ((doG n (gab (lastG G0 pre)) (⟨y11.kd, y11.a, y11.b, y11.f, y11.p, y11.q, y11.u⟩ : OpC)).2.t) ((doG n (gab (lastG G0 pre)) (⟨y11.kd, y11.a, y11.b, y11.f, y11.p, y11.q, y11.u⟩ : OpC)).2.v), Gx_22) _ _ S66 (hT22)) (fun res hr => run_yield2 V (es2 V (et V)) (es V (et V)) (et V) hr) ?_
  rintro _ w66 (⟨rfl, S66⟩ | ⟨rfl, S66⟩)
  ·refine ⟨_, rfl, ?_⟩
   obtain ⟨cj66, ct66, hcj66, hct66, S66⟩ := gen2 S66
   replace S66 : St wb X (cj66 :: ct66 :: c26 :: c17 :: fr) w66 := S66
   refine I_up (by kernel_rfl) ?_
   refine W_v V V (V_notT V (et V)) ?_
   refine W_end (Qo_normal ?_)
   refine gen_Q (fun A68 E68 => ?_)
   have hsz68 := szq E68
   have F68 := (((((((fsE E68 (ck (cq4 (FS.n hdf30) V) V V)).c (lookE E68 0 (es5 V l0_30))).c (lookE E68 2 (es5 V l2_30))).c (lookE E68 3 (es5 V l3_30))).c (lookE E68 4 (es5 V l4_30))).c (lookE E68 10 (es5 V l10_30))).c (lookE E68 11 (es5 V l11_30))).c (lookE E68 12 (es5 V l12_30))
   clear E68 hsz30 hdf30 l0_30 l2_30 l3_30 l4_30 l6_30 l8_30 l9_30 l10_30 l11_30 l12_30 l36_30
   have S70 := S66.del 2
   replace S70 : St wb X (cj66 :: ct66 :: c17 :: fr) w66 := S70
   have S71 := S70.del 2
   replace S71 : St wb X (cj66 :: ct66 :: fr) w66 := S71
   refine tk H62 ?_
   refine R_cond_f (fg7 F68) ?_
   refine R_skip (inb_n (tk H9 ?_))
   refine R_region (by kernel_rfl) ?_
   refine W_v V V (V_add V (fg0 F68) V (by omega) (by omega)) ?_
   refine W_v V V (V_mov V (et V)) (W_end (Qo_normal ?_))
   refine gen_Q (fun A72 E72 => ?_)
   have hsz72 := szq E72
   have F72 := fsE E72 (ck (cq1 (fx0 F68) V) V V)
   clear E72 hsz68 F68
   refine then_n ⟨os.length - (pre ++ [((pre.length : Int), AnC.mk ((doG n (gab (lastG G0 pre)) (⟨y11.kd, y11.a, y11.b, y11.f, y11.p, y11.q, y11.u⟩ : OpC)).2.e) ((doG n (gab (lastG G0 pre)) (⟨y11.kd, y11.a, y11.b, y11.f, y11.p, y11.q, y11.u⟩ : OpC)).2.t) ((doG n (gab (lastG G0 pre)) (⟨y11.kd, y11.a, y11.b, y11.f, y11.p, y11.q, y11.u⟩ : OpC)).2.v), Gx_22)]).length, by simp only [hm3, List.length_append, List.length_singleton]; omega, hsz72, F72.d, (pre ++ [((pre.length : Int), AnC.mk ((doG n (gab (lastG G0 pre)) (⟨y11.kd, y11.a, y11.b, y11.f, y11.p, y11.q, y11.u⟩ : OpC)).2.e) ((doG n (gab (lastG G0 pre)) (⟨y11.kd, y11.a, y11.b, y11.f, y11.p, y11.q, y11.u⟩ : OpC)).2.t) ((doG n (gab (lastG G0 pre)) (⟨y11.kd, y11.a, y11.b, y11.f, y11.p, y11.q, y11.u⟩ : OpC)).2.v), Gx_22)]), rfl, hT22, (((fg0 F72)).trans ((by simp only [List.length_append, List.length_singleton]; congr 1))), (((fg6 F72)).trans (fg3 F2).symm), (((fg5 F72)).trans (fg2 F2).symm), (((fg4 F72)).trans (fg1 F2).symm), (((fg3 F72)).trans (fg0 F2).symm), (((fg2 F72)).trans (fg6 F2).symm), (((fg1 F72)).trans (fg5 F2).symm), (by subst hcj66 hct66; exact S71)⟩
  refine ⟨_, rfl, ?_⟩
  obtain ⟨cj66, ct66, hcj66, hct66, S66⟩ := gen2 S66
  replace S66 : St wb X (cj66 :: ct66 :: c26 :: c17 :: fr) w66 := S66
  refine I_up (by kernel_rfl) ?_
  refine W_v V V (V_notF V (et V)) ?_
  refine W_end (Qo_normal ?_)
  refine gen_Q (fun A73 E73 => ?_)
  have hsz73 := szq E73
  have F73 := (((((((fsE E73 (ck (cq4 (FS.n hdf30) V) V V)).c (lookE E73 0 (es5 V l0_30))).c (lookE E73 2 (es5 V l2_30))).c (lookE E73 3 (es5 V l3_30))).c (lookE E73 4 (es5 V l4_30))).c (lookE E73 10 (es5 V l10_30))).c (lookE E73 11 (es5 V l11_30))).c (lookE E73 12 (es5 V l12_30))
  clear E73 hsz30 hdf30 l0_30 l2_30 l3_30 l4_30 l6_30 l8_30 l9_30 l10_30 l11_30 l12_30 l36_30
  have S75 := S66.del 2
  replace S75 : St wb X (cj66 :: ct66 :: c17 :: fr) w66 := S75
  have S76 := S75.del 2
  replace S76 : St wb X (cj66 :: ct66 :: fr) w66 := S76
  refine tk H62 ?_
  refine R_cond_t (fg7 F73) ?_
  refine R_ret ?_
  refine inb_ret (then_ret (then_ret (inb_ret ?_)))
  refine ret_inR0 (results_0 Try.results61 ) F73.d ?_
  exact ⟨⟨_, rfl⟩, .inr ⟨_, hT22, by subst hcj66 hct66; exact S76⟩⟩
 refine R_exit ?_
 refine then_exit (then_exit ?_)
 refine inb_hit ?_
 refine ret_inR0 (results_0 Try.results61 ) F5.d ?_
 exact ⟨⟨_, rfl⟩, .inl ⟨_, ⟨hT, by omega⟩, by subst hcj_3 hct_3; exact S3⟩⟩

set_option maxHeartbeats 4000000 in
theorem kmoJ_it {gs : Nat} {g3 : Nat} {g4 : Nat} {g5 : Nat} {g7 : Nat} {gc : Nat} {G0 : GV} {n : Int} {lv : Value} {os : List OpC} {av : Value} {ans : List AnC} {Rd : World → Prop} (hRd : ∀ W, Rd W → (bx g4 24 #[lv]).at W ∧ (rl 7 opC lv os).at W ∧ (bx g3 73 #[.pointer (some ⟨gs, 0, none⟩)]).at W ∧ (bx g7 76 #[.func (.func 30) #[.pointer (some ⟨gs, 0, none⟩)] #[]]).at W ∧ (bx g5 85 #[.func (.func 35) #[] #[.pointer (some ⟨gc, 0, none⟩)]]).at W ∧ (bx gc 37 #[av]).at W ∧ (rl 3 anC av ans).at W) (hsm0 : SM (gab G0).1) (hn : 0 ≤ n ∧ n ≤ 32) (hops : ∀ c ∈ os, opE c = 0) (hol : os.length ≤ 200) (hal : os.length ≤ ans.length) :
  IterT (α := ME) Try.prog 61 #[.pointer (some ⟨g4, 0, none⟩), .pointer (some ⟨g3, 0, none⟩), .pointer (some ⟨g7, 0, none⟩), .pointer (some ⟨g5, 0, none⟩)] encM (fun xs => Tr n (fun k : Nat => decide ((ans.getD k (AnC.mk 0 false 0)).e = 5)) G0 os xs ∧ os.length ≤ xs.length) (Tr n (fun k : Nat => decide ((ans.getD k (AnC.mk 0 false 0)).e = 5)) G0 os) (Tr n (fun k : Nat => decide ((ans.getD k (AnC.mk 0 false 0)).e = 5)) G0 os) (mT gs 75 n G0) Rd := by
 intro l wb X fr J Jx w hR hY hS
 obtain ⟨cj, ct, hcj, hct, hS⟩ := gen2 hS
 refine calls_inR 48 Try.func61 V V (by simp) (fun A0 hsz0 hdf0 hargs => ?_)
 have l0_0 := hargs 0 (.func (.yield l) #[] #[]) V
 have l1_0 := hargs 1 (.pointer (some ⟨g4, 0, none⟩)) V
 have l2_0 := hargs 2 (.pointer (some ⟨g3, 0, none⟩)) V
 have l3_0 := hargs 3 (.pointer (some ⟨g7, 0, none⟩)) V
 have l4_0 := hargs 4 (.pointer (some ⟨g5, 0, none⟩)) V
 clear hargs; replace hsz0 : SzN A0 48 := ⟨hsz0⟩
 have bh_lv := SlN.le (sl_SlN (hRd _ (hR _ _ _ 0 hS (congrArg some hcj))).2.1)
 have bh_av := SlN.le (sl_SlN (hRd _ (hR _ _ _ 0 hS (congrArg some hcj))).2.2.2.2.2.2)
 refine R_seq (fun K1 H1 => ?_)
 refine R_region (by kernel_rfl) ?_
 refine W_r V V (VR_ldC V l1_0 (cell_box (v := lv) (ob_at (hRd _ (hR _ _ _ 0 hS (congrArg some hcj))).1) V) Try.underlying24 V) ?_
 refine W_v V V (V_lenS V (et V) (sl_SlN (hRd _ (hR _ _ _ 0 hS (congrArg some hcj))).2.1) Try.underlying24) ?_
 refine W_v V V (V_mov V V) (W_end (Qo_normal ?_))
 refine gen_Q (fun A2 E2 => ?_)
 have hsz2 := szq E2
 have F2 := ((((fsE E2 (ck (ck (ck (FS.n hdf0) V V) V V) V V)).c (lookE E2 0 (es3 V l0_0))).c (lookE E2 2 (es3 V l2_0))).c (lookE E2 3 (es3 V l3_0))).c (lookE E2 4 (es3 V l4_0))
 clear E2 hsz0 hdf0 l0_0 l1_0 l2_0 l3_0 l4_0
 refine tk H1 (R_block ?_)
 -- loop 1
 refine R_loop (fun mz A' w' => SzN A' 48 ∧ A'.defers = [] ∧ (∃ (pre : List ME), (mz = os.length - pre.length) ∧ (Tr n (fun k : Nat => decide ((ans.getD k (AnC.mk 0 false 0)).e = 5)) G0 os pre) ∧ (EV A' (.tmp 12) = .int .i64 (pre.length : Int)) ∧ (EV A' (.tmp 0) = EV A2 (.tmp 0)) ∧ (EV A' (.tmp 2) = EV A2 (.tmp 2)) ∧ (EV A' (.tmp 3) = EV A2 (.tmp 3)) ∧ (EV A' (.tmp 4) = EV A2 (.tmp 4)) ∧ (EV A' (.tmp 10) = EV A2 (.tmp 10)) ∧ (EV A' (.tmp 11) = EV A2 (.tmp 11)) ∧ (St wb X ((J pre) :: (mT gs 75 n G0 pre) :: fr) w'))) (os.length - [].length) ⟨hsz2, F2.d, [], rfl, (Tr.nil hsm0), (((fg4 F2)).trans (rfl)), rfl, rfl, rfl, rfl, rfl, rfl, (by subst hcj hct; exact hS)⟩ ?_
 clear hS hcj hct
 rintro n3 A3 w3 ⟨hsz3, hdf3, pre, hm3, hT, l12_3, u0_3, u2_3, u3_3, u4_3, u10_3, u11_3, S3⟩
 have l0_3 := u0_3.trans (fg3 F2)
 have l2_3 := u2_3.trans (fg2 F2)
 have l3_3 := u3_3.trans (fg1 F2)
 have l4_3 := u4_3.trans (fg0 F2)
 have l10_3 := u10_3.trans (fg6 F2)
 have l11_3 := u11_3.trans (fg5 F2)
 obtain ⟨cj_3, ct_3, hcj_3, hct_3, S3⟩ := gen2 S3
 refine R_seq (fun K4 H4 => ?_)
 refine R_region (by kernel_rfl) ?_
 refine W_v V V (V_lss V l12_3 l11_3) ?_
 refine W_end (Qo_normal ?_)
 refine gen_Q (fun A5 E5 => ?_)
 have hsz5 := szq E5
 have F5 := (((((((fsE E5 (ck (FS.n hdf3) V V)).c (lookE E5 0 (es V l0_3))).c (lookE E5 2 (es V l2_3))).c (lookE E5 3 (es V l3_3))).c (lookE E5 4 (es V l4_3))).c (lookE E5 10 (es V l10_3))).c (lookE E5 11 (es V l11_3))).c (lookE E5 12 (es V l12_3))
 clear E5 hsz3 hdf3 l12_3 l0_3 l2_3 l3_3 l4_3 l10_3 l11_3
 refine tk H4 ?_
 refine R_seq (fun K6 H6 => ?_)
 refine R_cond_dec (fg7 F5) (fun c7 => ?_) (fun c7 => ?_)
 ·have hsm := hT.sm
  obtain ⟨cb8, ck8, hcb8, hck8, S8⟩ := mT_open (hct_3 ▸ S3)
  replace S8 : St wb X (cj_3 :: cb8 :: ck8 :: fr) w3 := S8
  refine R_skip (tk H6 ?_)
  refine R_seq (fun K9 H9 => ?_)
  refine R_block ?_
  refine R_seq (fun K10 H10 => ?_)
  refine R_region (by kernel_rfl) ?_
  refine W_v V V (V_mov V (fg0 F5)) ?_
  have k11 : pre.length < os.length := by first | omega | (simp only [List.length_cons, List.length_nil]; omega) | (simp only [List.length_set]; omega) | decide
  obtain ⟨y11, hy11⟩ := get_some (xs := os) (k := pre.length) k11
  have hop11 := hops y11 (List.mem_of_getElem? hy11)
  obtain ⟨B11, O11, C11, hv11⟩ := (SlN.blk (sl_SlN (hRd _ (hR _ _ _ 0 S8 (congrArg some hcj_3))).2.1) (by first | omega | (simp only [List.length_cons, List.length_nil]; omega) | (simp only [List.length_set]; omega) | decide))
  refine W_v V V (V_ixS (off := O11 + pre.length * 7) 7 (pre.length) V (es V (fg2 F5)) (es V (fg0 F5)) hv11 (by omega) k11 Try.underlying24 (by kernel_rfl) V) ?_
  refine W_r V V (VR_ldR (ys := opC y11) V (et V) (SlN.row opC_len (sl_SlN (hRd _ (hR _ _ _ 0 S8 (congrArg some hcj_3))).2.1) hv11 hy11 V) Try.underlying42 V (by kernel_rfl)) ?_
  refine W_allocS (z := .agg #[.int .i64 0, .int .i64 0, .int .i64 0, .int .i64 0, .int .i64 0, .int .i64 0, .int .u64 0]) (zs := #[.int .i64 0, .int .i64 0, .int .i64 0, .int .i64 0, .int .i64 0, .int .i64 0, .int .u64 0]) S8 V V V (by kernel_rfl) (by rfl) (fun g12 w12 c12 hc12 S12 => ?_)
  replace S12 : St wb X (c12 :: cj_3 :: cb8 :: ck8 :: fr) w12 := S12
  refine W_v V V (V_asg V (es3 V (et V))) ?_
  refine xsA 0 S12 V hc12 V V V (es V (et V)) (es2 V (et V)) (fun w13 c13 hc13 S13 => ?_)
  replace S13 : St wb X (c13 :: cj_3 :: cb8 :: ck8 :: fr) w13 := S13
  refine W_end (Qo_normal ?_)
  refine gen_Q (fun A14 E14 => ?_)
  have hsz14 := szq E14
  have F14 := fsE E14 (ck (ck (cq3 F5 V) V V) V V)
  clear E14 hsz5 F5
  refine tk H10 ?_
  refine R_seq (fun K15 H15 => ?_)
  refine R_region (by kernel_rfl) ?_
  refine W_r V V (VR_ldC V (fg7 F14) (cell_box (v := .pointer (some ⟨gs, 0, none⟩)) (ob_at (hRd _ (hR _ _ _ 1 S13 (congrArg some hcj_3))).2.2.1) V) Try.underlying73 V) ?_
  refine W_v V V (V_nil V (et V)) ?_
  refine W_v V V (V_fa (off' := 0) V (et V) Try.underlying75 V (by decide +kernel) V) ?_
  refine W_r V V (VR_ldP (ys := [(lastG G0 pre).1.1, (lastG G0 pre).2.1]) V (et V) (S13.obj 2 V hcb8) (ldP_at V) Try.underlying36 V (by kernel_rfl)) ?_
  refine W_allocS (z := .agg #[.slice none 0 0, .slice none 0 0]) (zs := #[.slice none 0 0, .slice none 0 0]) S13 V V V (by kernel_rfl) (by rfl) (fun g16 w16 c16 hc16 S16 => ?_)
  replace S16 : St wb X (c16 :: c13 :: cj_3 :: cb8 :: ck8 :: fr) w16 := S16
  refine xsB 0 S16 V hc16 V V V (et V) (es V (et V)) (by simp only [List.all_toArray, List.all_cons, List.all_nil, SlN_one (sl_SlN (gl_oa (lastG_mem G0 pre) (S16.chq 4 V hck8))), SlN_one (sl_SlN (gl_ra (lastG_mem G0 pre) (S16.chq 4 V hck8)))] <;> rfl) (fun w17 c17 hc17 S17 => ?_)
  replace S17 : St wb X (c17 :: c13 :: cj_3 :: cb8 :: ck8 :: fr) w17 := S17
  refine W_end (Qo_normal ?_)
  refine gen_Q (fun A18 E18 => ?_)
  have hsz18 := szq E18
  have F18 := fsE E18 (ck (cq4 F14 V) V V)
  clear E18 hsz14 F14
  refine tk H15 ?_
  refine R_seq (fun K19 H19 => ?_)
  refine R_region (by kernel_rfl) ?_
  refine W_r V V (VR_ldC V (fg7 F18) (cell_box (v := .func (.func 30) #[.pointer (some ⟨gs, 0, none⟩)] #[]) (ob_at (hRd _ (hR _ _ _ 2 S17 (congrArg some hcj_3))).2.2.2.1) V) Try.underlying76 V) ?_
  refine W_r V V (VR_ldA V (es V (fg2 F18)) (S17.obj 1 V hc13) Try.underlying42 V (by kernel_rfl)) ?_
  have S20 : St wb X (cb8 :: c17 :: c13 :: cj_3 :: ck8 :: fr) w17 := St.selR (l := [c17, c13, cj_3, cb8, ck8]) (l' := [cb8, c17, c13, cj_3, ck8]) (fr := fr) S17 [3, 0, 1, 2, 4] (by decide) (by rfl) V
  obtain ⟨Y21, hP21, hR21, hF21, hB21⟩ := St.call (pre := [cb8]) (fr := (c17 :: c13 :: cj_3 :: ck8 :: fr)) S20
  rw [hcb8] at hP21
  refine W_callB V V V (es V (et V)) Try.func30 (by kernel_rfl) V (args1 (et V)) (kdo_c (G := (lastG G0 pre)) (kd := y11.kd) (a := y11.a) (b := y11.b) (f := y11.f) (p := y11.p) (q := y11.q) (uu := y11.u) (gl_mk (gl_oaR (lastG_mem G0 pre) (hck8 ▸ hF21 3 _ V)) (gl_naR (lastG_mem G0 pre) (hck8 ▸ hF21 3 _ V)) (gl_raR (lastG_mem G0 pre) (hck8 ▸ hF21 3 _ V))) hP21 (by first | with_reducible assumption | exact hsm) (by first | with_reducible assumption | omega) (by first | with_reducible assumption)) ?_
  rintro _ w22 ⟨Gx_22, Gn_22, rfl, hg_22, hm_22, hP22⟩
  refine ⟨_, rfl, ?_⟩
  obtain ⟨cB_22, cK_22, hcB_22, hcK_22, hP22⟩ := gen2 hP22
  have S22 := hB21 _ _ hP22
  replace S22 : St wb X (cB_22 :: cK_22 :: c17 :: c13 :: cj_3 :: ck8 :: fr) w22 := S22
  have S23 : St wb X (ck8 :: cK_22 :: cB_22 :: c17 :: c13 :: cj_3 :: fr) w22 := St.selR (l := [cB_22, cK_22, c17, c13, cj_3, ck8]) (l' := [ck8, cK_22, cB_22, c17, c13, cj_3]) (fr := fr) S22 [5, 1, 0, 2, 3, 4] (by decide) (by rfl) V
  rw [hck8, hcK_22] at S23
  obtain ⟨c24, hc24, S24⟩ := gen1 (gl_app (L := (gsM G0 pre)) (M := Gn_22) S23)
  replace S24 : St wb X (c24 :: cB_22 :: c17 :: c13 :: cj_3 :: fr) w22 := S24
  refine W_allocS (z := .agg #[.int .i64 0, .bool false, .int .u64 0]) (zs := #[.int .i64 0, .bool false, .int .u64 0]) S24 V V V (by kernel_rfl) (by rfl) (fun g25 w25 c25 hc25 S25 => ?_)
  replace S25 : St wb X (c25 :: c24 :: cB_22 :: c17 :: c13 :: cj_3 :: fr) w25 := S25
  refine xsA 0 S25 V hc25 V V V (et V) (es V (et V)) (fun w26 c26 hc26 S26 => ?_)
  replace S26 : St wb X (c26 :: c24 :: cB_22 :: c17 :: c13 :: cj_3 :: fr) w26 := S26
  refine W_end (Qo_normal ?_)
  refine gen_Q (fun A27 E27 => ?_)
  have hsz27 := szq E27
  have F27 := fsE E27 (ck (cq3 F18 V) V V)
  clear E27 hsz18 F18
  refine tk H19 ?_
  refine R_seq (fun K28 H28 => ?_)
  refine R_seq (fun K29 H29 => ?_)
  refine R_mid (G := fun A' w' => SzN A' 48 ∧ A'.defers = [] ∧ (EV A' (.tmp 0) = EV A27 (.tmp 0)) ∧ (EV A' (.tmp 2) = EV A27 (.tmp 2)) ∧ (EV A' (.tmp 3) = EV A27 (.tmp 3)) ∧ (EV A' (.tmp 4) = EV A27 (.tmp 4)) ∧ (EV A' (.tmp 6) = EV A27 (.tmp 6)) ∧ (EV A' (.tmp 8) = EV A27 (.tmp 8)) ∧ (EV A' (.tmp 9) = EV A27 (.tmp 9)) ∧ (EV A' (.tmp 10) = EV A27 (.tmp 10)) ∧ (EV A' (.tmp 11) = EV A27 (.tmp 11)) ∧ (EV A' (.tmp 12) = EV A27 (.tmp 12)) ∧ (EV A' (.tmp 36) = .bool (decide (((ans.getD pre.length (AnC.mk 0 false 0)).e = 5) ∧ (y11.kd = 1) ∧ ((doG n (gab (lastG G0 pre)) (⟨y11.kd, y11.a, y11.b, y11.f, y11.p, y11.q, y11.u⟩ : OpC)).2.e = 0)))) ∧ St wb X (c26 :: c24 :: cB_22 :: c17 :: cj_3 :: fr) w') ?_ ?_
  ·have j0_30 := (fg10 F27)
   have j2_30 := (fg9 F27)
   have j3_30 := (fg8 F27)
   have j4_30 := (fg7 F27)
   have j6_30 := (fg2 F27)
   have j8_30 := (fg1 F27)
   have j9_30 := (fg0 F27)
   have j10_30 := (fg6 F27)
   have j11_30 := (fg5 F27)
   have j12_30 := (fg4 F27)
   refine R_region (by kernel_rfl) ?_
   refine W_r V V (VR_ldC V (fg7 F27) (cell_box (v := .func (.func 35) #[] #[.pointer (some ⟨gc, 0, none⟩)]) (ob_at (hRd _ (hR _ _ _ 5 S26 (congrArg some hcj_3))).2.2.2.2.1) V) Try.underlying85 V) ?_
   refine W_v V V (V_mov V (es V (fg2 F27))) ?_
   refine W_callV V V V (es V (et V)) Try.func35 (by kernel_rfl) V (args1 (et V)) (kj1_c (i := (pre.length : Int)) (gav := gc) (at_obRo (hRd _ (hR _ _ _ 5 S26 (congrArg some hcj_3))).2.2.2.2.2.1) (SlN.ro (sl_SlN (hRd _ (hR _ _ _ 5 S26 (congrArg some hcj_3))).2.2.2.2.2.2)) (by first | with_reducible assumption | omega)) ?_
   rintro _ w31 ⟨rfl, hP31⟩
   refine ⟨_, rfl, ?_⟩
   have S31 := S26.join hP31
   replace S31 : St wb X (c26 :: c24 :: cB_22 :: c17 :: c13 :: cj_3 :: fr) w31 := S31
   refine W_split V V (V_mov V (et V)) (fun c32 => ?_) (fun c32 => ?_)
   ·refine W_v V (xwt V V (et V)) (V_fa (off' := 0) V (es4 V (fg3 F27)) Try.underlying42 V (by decide +kernel) V) ?_
    refine W_r V (xwt V V (es V (et V))) (xlC (v := .int .i64 (y11.kd)) V (et V) (S31.obj 4 V hc13) Try.underlying3) ?_
    refine W_v V (xwt V V (es2 V (et V))) (V_eql V (et V) V) ?_
    refine W_v V V (V_pickT V (es3 V (et V)) (et V)) ?_
    refine W_split V V (V_mov V (et V)) (fun c33 => ?_) (fun c33 => ?_)
    ·refine W_v V (xwt V V (et V)) (V_fa (off' := 0) V (es8 V (es V (fg0 F27))) Try.underlying44 V (by decide +kernel) V) ?_
     refine W_r V (xwt V V (es V (et V))) (xlC (v := .int .i64 ((doG n (gab (lastG G0 pre)) (⟨y11.kd, y11.a, y11.b, y11.f, y11.p, y11.q, y11.u⟩ : OpC)).2.e)) V (et V) (S31.obj 0 V hc26) Try.underlying28) ?_
     refine W_v V (xwt V V (es2 V (et V))) (V_eql V (et V) V) ?_
     refine W_v V V (V_pickT V (es3 V (et V)) (et V)) ?_
     refine W_end (Qo_normal ?_)
     refine gen_Q (fun A34 E34 => ?_)
     have hsz34 := szq E34
     have F34 := fsE E34 (ck (ck (ck (ck (cq2 (ck (ck (ck (cq4 F27 V) V V) V V) V V) V) V V) V V) V V) V V)
     clear E34 hsz27 F27
     have S36 := S31.del 4
     replace S36 : St wb X (c26 :: c24 :: cB_22 :: c17 :: cj_3 :: fr) w31 := S36
     exact Mid_n ⟨hsz34, F34.d, ((fg17 F34).trans j0_30.symm), ((fg16 F34).trans j2_30.symm), ((fg15 F34).trans j3_30.symm), ((fg14 F34).trans j4_30.symm), ((fg9 F34).trans j6_30.symm), ((fg8 F34).trans j8_30.symm), ((fg7 F34).trans j9_30.symm), ((fg13 F34).trans j10_30.symm), ((fg12 F34).trans j11_30.symm), ((fg11 F34).trans j12_30.symm), ((fg0 F34).trans (congrArg Value.bool (decide_eq_decide.2 ⟨fun q => ⟨c32, c33, q⟩, fun q => q.2.2⟩))), S36⟩
    refine xof V V V (et V) (xof V V V (es V (et V)) (xof V V V (es2 V (et V)) ?_))
    refine W_v V V (V_pickF V (es3 V (et V)) V) ?_
    refine W_end (Qo_normal ?_)
    refine gen_Q (fun A37 E37 => ?_)
    have hsz37 := szq E37
    have F37 := fsE E37 (ck (ck (ck (ck (cq2 (ck (ck (ck (cq4 F27 V) V V) V V) V V) V) V V) V V) V V) V V)
    clear E37 hsz27 F27
    have S39 := S31.del 4
    replace S39 : St wb X (c26 :: c24 :: cB_22 :: c17 :: cj_3 :: fr) w31 := S39
    exact Mid_n ⟨hsz37, F37.d, ((fg17 F37).trans j0_30.symm), ((fg16 F37).trans j2_30.symm), ((fg15 F37).trans j3_30.symm), ((fg14 F37).trans j4_30.symm), ((fg9 F37).trans j6_30.symm), ((fg8 F37).trans j8_30.symm), ((fg7 F37).trans j9_30.symm), ((fg13 F37).trans j10_30.symm), ((fg12 F37).trans j11_30.symm), ((fg11 F37).trans j12_30.symm), ((fg0 F37).trans (congrArg Value.bool ((decide_eq_false (fun q => c33 q.2.1)).symm))), S39⟩
   refine xof V V V (et V) (xof V V V (es V (et V)) (xof V V V (es2 V (et V)) ?_))
   refine W_v V V (V_pickF V (es3 V (et V)) V) ?_
   refine W_v V V (V_mov V (et V)) (xof V V V (et V) (xof V V V (es V (et V)) (xof V V V (es2 V (et V)) ?_)))
   refine W_v V V (V_pickF V (es3 V (et V)) V) ?_
   refine W_end (Qo_normal ?_)
   refine gen_Q (fun A40 E40 => ?_)
   have hsz40 := szq E40
   have F40 := fsE E40 (ck (ck (ck (ck (cq2 (ck (ck (ck (cq4 F27 V) V V) V V) V V) V) V V) V V) V V) V V)
   clear E40 hsz27 F27
   have S42 := S31.del 4
   replace S42 : St wb X (c26 :: c24 :: cB_22 :: c17 :: cj_3 :: fr) w31 := S42
   exact Mid_n ⟨hsz40, F40.d, ((fg17 F40).trans j0_30.symm), ((fg16 F40).trans j2_30.symm), ((fg15 F40).trans j3_30.symm), ((fg14 F40).trans j4_30.symm), ((fg9 F40).trans j6_30.symm), ((fg8 F40).trans j8_30.symm), ((fg7 F40).trans j9_30.symm), ((fg13 F40).trans j10_30.symm), ((fg12 F40).trans j11_30.symm), ((fg11 F40).trans j12_30.symm), ((fg0 F40).trans (congrArg Value.bool ((decide_eq_false (fun q => c32 q.1)).symm))), S42⟩
  rintro A30 w30 ⟨hsz30, hdf30, u0_30, u2_30, u3_30, u4_30, u6_30, u8_30, u9_30, u10_30, u11_30, u12_30, l36_30, S30⟩
  have l0_30 := u0_30.trans (fg10 F27)
  have l2_30 := u2_30.trans (fg9 F27)
  have l3_30 := u3_30.trans (fg8 F27)
  have l4_30 := u4_30.trans (fg7 F27)
  have l6_30 := u6_30.trans (fg2 F27)
  have l8_30 := u8_30.trans (fg1 F27)
  have l9_30 := u9_30.trans (fg0 F27)
  have l10_30 := u10_30.trans (fg6 F27)
  have l11_30 := u11_30.trans (fg5 F27)
  have l12_30 := u12_30.trans (fg4 F27)
  refine tk H29 ?_
  refine R_cond_dec l36_30 (fun c43 => ?_) (fun c43 => ?_)
  ·refine R_region (by kernel_rfl) ?_
   refine W_r V V (VR_ldC V l2_30 (cell_box (v := .pointer (some ⟨gs, 0, none⟩)) (ob_at (hRd _ (hR _ _ _ 4 S30 (congrArg some hcj_3))).2.2.1) V) Try.underlying73 V) ?_
   refine W_r V V (VR_ldA V (es V l8_30) (S30.obj 3 V hc17) Try.underlying36 V (by kernel_rfl)) ?_
   refine W_v V V (xbS (n := 3) (z := .agg #[.int .i64 0, .bool false, .int .u64 0]) V (parts1 V)) ?_
   refine W_v V V (V_nil V (es2 V (et V))) ?_
   refine W_v V V (V_fa (off' := 0) V (et V) Try.underlying75 V (by decide +kernel) V) ?_
   refine W_stAM (ys := [(lastG G0 pre).1.1, (lastG G0 pre).2.1]) (zs' := #[(lastG G0 pre).1.1, (lastG G0 pre).2.1, .int .i64 (n)]) 2 S30 V hcB_22 V V V (et V) (es3 V (et V)) (by intro u hu; simp only [List.mem_cons, List.not_mem_nil, or_false] at hu; rcases hu with rfl | rfl <;> first | exact SlN_one (sl_SlN (gl_oa (List.mem_append_left _ (lastG_mem G0 pre)) (S30.chq 1 V hc24))) | exact SlN_one (sl_SlN (gl_ra (List.mem_append_left _ (lastG_mem G0 pre)) (S30.chq 1 V hc24)))) (by simp) (by kernel_rfl) V (fun w44 c44 hc44 S44 => ?_)
   replace S44 : St wb X (c26 :: c24 :: c44 :: c17 :: cj_3 :: fr) w44 := S44
   refine xsA 0 S44 V hc26 V V V (es5 V l9_30) (es2 V (et V)) (fun w45 c45 hc45 S45 => ?_)
   replace S45 : St wb X (c45 :: c24 :: c44 :: c17 :: cj_3 :: fr) w45 := S45
   refine W_end (Qo_normal ?_)
   refine gen_Q (fun A46 E46 => ?_)
   have hsz46 := szq E46
   have F46 := (((((((((fsE E46 (cq5 (FS.n hdf30) V)).c (lookE E46 0 (es5 V l0_30))).c (lookE E46 2 (es5 V l2_30))).c (lookE E46 3 (es5 V l3_30))).c (lookE E46 4 (es5 V l4_30))).c (lookE E46 6 (es5 V l6_30))).c (lookE E46 9 (es5 V l9_30))).c (lookE E46 10 (es5 V l10_30))).c (lookE E46 11 (es5 V l11_30))).c (lookE E46 12 (es5 V l12_30))
   clear E46 hsz30 hdf30 l0_30 l2_30 l3_30 l4_30 l6_30 l8_30 l9_30 l10_30 l11_30 l12_30 l36_30
   have S48 := S45.del 3
   replace S48 : St wb X (c45 :: c24 :: c44 :: cj_3 :: fr) w45 := S48
   refine tk H28 ?_
   refine R_seq (fun K49 H49 => ?_)
   refine R_regionI ?_
   refine I_v V V (by rfl) (V_mov V (fg8 F46)) ?_
   refine I_v V V (by rfl) (V_mov V (es V (fg4 F46))) ?_
   refine I_r V V (by rfl) (VR_ldA V (es2 V (fg3 F46)) (S48.obj 0 V hc45) Try.underlying44 V (by kernel_rfl)) ?_
   have hT22 : Tr n (fun k : Nat => decide ((ans.getD k (AnC.mk 0 false 0)).e = 5)) G0 os (pre ++ [((pre.length : Int), AnC.mk 5 false 0, (lastG G0 pre))]) := Tr.step hT hy11 V (by exact (stp_1 (mx := n) (rb := decide ((ans.getD pre.length (AnC.mk 0 false 0)).e = 5)) (g := gab (lastG G0 pre)) (c := y11) ⟨decide_eq_true c43.1, c43.2.1, c43.2.2⟩).symm)
   have S50 : St wb X (c24 :: c45 :: c44 :: cj_3 :: fr) w45 := St.selR (l := [c45, c24, c44, cj_3]) (l' := [c24, c45, c44, cj_3]) (fr := fr) S48 [1, 0, 2, 3] (by decide) (by rfl) V
   rw [hc24] at S50
   obtain ⟨c51, hc51, S51⟩ := gen1 (gl_subS (M := (gsM G0 (pre ++ [((pre.length : Int), AnC.mk 5 false 0, (lastG G0 pre))]))) S50 (gsM_sub (fun G hG => List.mem_append_left _ hG) (List.mem_append_left _ (lastG_mem G0 pre))))
   replace S51 : St wb X (c51 :: c45 :: c44 :: cj_3 :: fr) w45 := S51
   have S52 : St wb X (cj_3 :: c44 :: c51 :: c45 :: fr) w45 := St.selR (l := [c51, c45, c44, cj_3]) (l' := [cj_3, c44, c51, c45]) (fr := fr) S51 [3, 2, 0, 1] (by decide) (by rfl) V
   have S53 := mT_shut (pre := (pre ++ [((pre.length : Int), AnC.mk 5 false 0, (lastG G0 pre))])) (hc44.trans (by rw [lastG_app])) hc51 S52
   rw [hcj_3] at S53
   refine I_yield V V (by rfl) (hY pre ((pre.length : Int), AnC.mk 5 false 0, (lastG G0 pre)) _ _ S53 (hT22)) (fun res hr => run_yield2 V (es2 V (et V)) (es V (et V)) (et V) hr) ?_
   rintro _ w53 (⟨rfl, S53⟩ | ⟨rfl, S53⟩)
   ·refine ⟨_, rfl, ?_⟩
    obtain ⟨cj53, ct53, hcj53, hct53, S53⟩ := gen2 S53
    replace S53 : St wb X (cj53 :: ct53 :: c45 :: fr) w53 := S53
    refine I_up (by kernel_rfl) ?_
    refine W_v V V (V_notT V (et V)) ?_
    refine W_end (Qo_normal ?_)
    refine gen_Q (fun A55 E55 => ?_)
    have hsz55 := szq E55
    have F55 := fsE E55 (ck (cq4 F46 V) V V)
    clear E55 hsz46 F46
    have S57 := S53.del 2
    replace S57 : St wb X (cj53 :: ct53 :: fr) w53 := S57
    refine tk H49 ?_
    refine R_cond_f (fg0 F55) ?_
    refine R_skip (inb_n (tk H9 ?_))
    refine R_region (by kernel_rfl) ?_
    refine W_v V V (V_add V (fg1 F55) V (by omega) (by omega)) ?_
    refine W_v V V (V_mov V (et V)) (W_end (Qo_normal ?_))
    refine gen_Q (fun A58 E58 => ?_)
    have hsz58 := szq E58
    have F58 := fsE E58 (ck (cq1 (fx1 F55) V) V V)
    clear E58 hsz55 F55
    refine then_n ⟨os.length - (pre ++ [((pre.length : Int), AnC.mk 5 false 0, (lastG G0 pre))]).length, by simp only [hm3, List.length_append, List.length_singleton]; omega, hsz58, F58.d, (pre ++ [((pre.length : Int), AnC.mk 5 false 0, (lastG G0 pre))]), rfl, hT22, (((fg0 F58)).trans ((by simp only [List.length_append, List.length_singleton]; congr 1))), (((fg9 F58)).trans (fg3 F2).symm), (((fg8 F58)).trans (fg2 F2).symm), (((fg7 F58)).trans (fg1 F2).symm), (((fg6 F58)).trans (fg0 F2).symm), (((fg3 F58)).trans (fg6 F2).symm), (((fg2 F58)).trans (fg5 F2).symm), (by subst hcj53 hct53; exact S57)⟩
   refine ⟨_, rfl, ?_⟩
   obtain ⟨cj53, ct53, hcj53, hct53, S53⟩ := gen2 S53
   replace S53 : St wb X (cj53 :: ct53 :: c45 :: fr) w53 := S53
   refine I_up (by kernel_rfl) ?_
   refine W_v V V (V_notF V (et V)) ?_
   refine W_end (Qo_normal ?_)
   refine gen_Q (fun A59 E59 => ?_)
   have hsz59 := szq E59
   have F59 := fsE E59 (ck (cq4 F46 V) V V)
   clear E59 hsz46 F46
   have S61 := S53.del 2
   replace S61 : St wb X (cj53 :: ct53 :: fr) w53 := S61
   refine tk H49 ?_
   refine R_cond_t (fg0 F59) ?_
   refine R_ret ?_
   refine inb_ret (then_ret (then_ret (inb_ret ?_)))
   refine ret_inR0 (results_0 Try.results61 ) F59.d ?_
   exact ⟨⟨_, rfl⟩, .inr ⟨_, hT22, by subst hcj53 hct53; exact S61⟩⟩
  refine R_skip (tk H28 ?_)
  refine R_seq (fun K62 H62 => ?_)
  refine R_regionI ?_
  refine I_v V V (by rfl) (V_mov V l0_30) ?_
  refine I_v V V (by rfl) (V_mov V (es V l6_30)) ?_
  refine I_r V V (by rfl) (VR_ldA V (es2 V l9_30) (S30.obj 0 V hc26) Try.underlying44 V (by kernel_rfl)) ?_
  have hT22 : Tr n (fun k : Nat => decide ((ans.getD k (AnC.mk 0 false 0)).e = 5)) G0 os (pre ++ [((pre.length : Int), AnC.mk ((doG n (gab (lastG G0 pre)) (⟨y11.kd, y11.a, y11.b, y11.f, y11.p, y11.q, y11.u⟩ : OpC)).2.e) ((doG n (gab (lastG G0 pre)) (⟨y11.kd, y11.a, y11.b, y11.f, y11.p, y11.q, y11.u⟩ : OpC)).2.t) ((doG n (gab (lastG G0 pre)) (⟨y11.kd, y11.a, y11.b, y11.f, y11.p, y11.q, y11.u⟩ : OpC)).2.v), Gx_22)]) := Tr.step hT hy11 V (by exact (Prod.ext hg_22 V : (gab Gx_22, (doG n (gab (lastG G0 pre)) y11).2) = doG n (gab (lastG G0 pre)) y11).trans (stp_0 (mx := n) (rb := decide ((ans.getD pre.length (AnC.mk 0 false 0)).e = 5)) (g := gab (lastG G0 pre)) (c := y11) (fun q => c43 ⟨of_decide_eq_true q.1, q.2⟩)).symm)
  have S63 : St wb X (c24 :: c26 :: cB_22 :: c17 :: cj_3 :: fr) w30 := St.selR (l := [c26, c24, cB_22, c17, cj_3]) (l' := [c24, c26, cB_22, c17, cj_3]) (fr := fr) S30 [1, 0, 2, 3, 4] (by decide) (by rfl) V
  rw [hc24] at S63
  obtain ⟨c64, hc64, S64⟩ := gen1 (gl_subS (M := (gsM G0 (pre ++ [((pre.length : Int), AnC.mk ((doG n (gab (lastG G0 pre)) (⟨y11.kd, y11.a, y11.b, y11.f, y11.p, y11.q, y11.u⟩ : OpC)).2.e) ((doG n (gab (lastG G0 pre)) (⟨y11.kd, y11.a, y11.b, y11.f, y11.p, y11.q, y11.u⟩ : OpC)).2.t) ((doG n (gab (lastG G0 pre)) (⟨y11.kd, y11.a, y11.b, y11.f, y11.p, y11.q, y11.u⟩ : OpC)).2.v), Gx_22)]))) S63 (gsM_sub (fun G hG => List.mem_append_left _ hG) (gm_mem (lastG_mem G0 pre) hm_22)))
  replace S64 : St wb X (c64 :: c26 :: cB_22 :: c17 :: cj_3 :: fr) w30 := S64
  have S65 : St wb X (cj_3 :: cB_22 :: c64 :: c26 :: c17 :: fr) w30 := St.selR (l := [c64, c26, cB_22, c17, cj_3]) (l' := [cj_3, cB_22, c64, c26, c17]) (fr := fr) S64 [4, 2, 0, 1, 3] (by decide) (by rfl) V
  have S66 := mT_shut (pre := (pre ++ [((pre.length : Int), AnC.mk ((doG n (gab (lastG G0 pre)) (⟨y11.kd, y11.a, y11.b, y11.f, y11.p, y11.q, y11.u⟩ : OpC)).2.e) ((doG n (gab (lastG G0 pre)) (⟨y11.kd, y11.a, y11.b, y11.f, y11.p, y11.q, y11.u⟩ : OpC)).2.t) ((doG n (gab (lastG G0 pre)) (⟨y11.kd, y11.a, y11.b, y11.f, y11.p, y11.q, y11.u⟩ : OpC)).2.v), Gx_22)])) (hcB_22.trans (by rw [lastG_app])) hc64 S65
  rw [hcj_3] at S66
  refine I_yield V V (by rfl) (hY pre ((pre.length : Int), AnC.mk ((doG n (gab (lastG G0 pre)) (⟨y11.kd, y11.a, y11.b, y11.f, y11.p, y11.q, y11.u⟩ : OpC)).2.e) ((doG n (gab (lastG G0 pre)) (⟨y11.kd, y11.a, y11.b, y11.f, y11.p, y11.q, y11.u⟩ : OpC)).2.t) ((doG n (gab (lastG G0 pre)) (⟨y11.kd, y11.a, y11.b, y11.f, y11.p, y11.q, y11.u⟩ : OpC)).2.v), Gx_22) _ _ S66 (hT22)) (fun res hr => run_yield2 V (es2 V (et V)) (es V (et V)) (et V) hr) ?_
  rintro _ w66 (⟨rfl, S66⟩ | ⟨rfl, S66⟩)
  ·refine ⟨_, rfl, ?_⟩
   obtain ⟨cj66, ct66, hcj66, hct66, S66⟩ := gen2 S66
   replace S66 : St wb X (cj66 :: ct66 :: c26 :: c17 :: fr) w66 := S66
   refine I_up (by kernel_rfl) ?_
   refine W_v V V (V_notT V (et V)) ?_
   refine W_end (Qo_normal ?_)
   refine gen_Q (fun A68 E68 => ?_)
   have hsz68 := szq E68
   have F68 := (((((((fsE E68 (ck (cq4 (FS.n hdf30) V) V V)).c (lookE E68 0 (es5 V l0_30))).c (lookE E68 2 (es5 V l2_30))).c (lookE E68 3 (es5 V l3_30))).c (lookE E68 4 (es5 V l4_30))).c (lookE E68 10 (es5 V l10_30))).c (lookE E68 11 (es5 V l11_30))).c (lookE E68 12 (es5 V l12_30))
   clear E68 hsz30 hdf30 l0_30 l2_30 l3_30 l4_30 l6_30 l8_30 l9_30 l10_30 l11_30 l12_30 l36_30
   have S70 := S66.del 2
   replace S70 : St wb X (cj66 :: ct66 :: c17 :: fr) w66 := S70
   have S71 := S70.del 2
   replace S71 : St wb X (cj66 :: ct66 :: fr) w66 := S71
   refine tk H62 ?_
   refine R_cond_f (fg7 F68) ?_
   refine R_skip (inb_n (tk H9 ?_))
   refine R_region (by kernel_rfl) ?_
   refine W_v V V (V_add V (fg0 F68) V (by omega) (by omega)) ?_
   refine W_v V V (V_mov V (et V)) (W_end (Qo_normal ?_))
   refine gen_Q (fun A72 E72 => ?_)
   have hsz72 := szq E72
   have F72 := fsE E72 (ck (cq1 (fx0 F68) V) V V)
   clear E72 hsz68 F68
   refine then_n ⟨os.length - (pre ++ [((pre.length : Int), AnC.mk ((doG n (gab (lastG G0 pre)) (⟨y11.kd, y11.a, y11.b, y11.f, y11.p, y11.q, y11.u⟩ : OpC)).2.e) ((doG n (gab (lastG G0 pre)) (⟨y11.kd, y11.a, y11.b, y11.f, y11.p, y11.q, y11.u⟩ : OpC)).2.t) ((doG n (gab (lastG G0 pre)) (⟨y11.kd, y11.a, y11.b, y11.f, y11.p, y11.q, y11.u⟩ : OpC)).2.v), Gx_22)]).length, by simp only [hm3, List.length_append, List.length_singleton]; omega, hsz72, F72.d, (pre ++ [((pre.length : Int), AnC.mk ((doG n (gab (lastG G0 pre)) (⟨y11.kd, y11.a, y11.b, y11.f, y11.p, y11.q, y11.u⟩ : OpC)).2.e) ((doG n (gab (lastG G0 pre)) (⟨y11.kd, y11.a, y11.b, y11.f, y11.p, y11.q, y11.u⟩ : OpC)).2.t) ((doG n (gab (lastG G0 pre)) (⟨y11.kd, y11.a, y11.b, y11.f, y11.p, y11.q, y11.u⟩ : OpC)).2.v), Gx_22)]), rfl, hT22, (((fg0 F72)).trans ((by simp only [List.length_append, List.length_singleton]; congr 1))), (((fg6 F72)).trans (fg3 F2).symm), (((fg5 F72)).trans (fg2 F2).symm), (((fg4 F72)).trans (fg1 F2).symm), (((fg3 F72)).trans (fg0 F2).symm), (((fg2 F72)).trans (fg6 F2).symm), (((fg1 F72)).trans (fg5 F2).symm), (by subst hcj66 hct66; exact S71)⟩
  refine ⟨_, rfl, ?_⟩
  obtain ⟨cj66, ct66, hcj66, hct66, S66⟩ := gen2 S66
  replace S66 : St wb X (cj66 :: ct66 :: c26 :: c17 :: fr) w66 := S66
  refine I_up (by kernel_rfl) ?_
  refine W_v V V (V_notF V (et V)) ?_
  refine W_end (Qo_normal ?_)
  refine gen_Q (fun A73 E73 => ?_)
  have hsz73 := szq E73
  have F73 := (((((((fsE E73 (ck (cq4 (FS.n hdf30) V) V V)).c (lookE E73 0 (es5 V l0_30))).c (lookE E73 2 (es5 V l2_30))).c (lookE E73 3 (es5 V l3_30))).c (lookE E73 4 (es5 V l4_30))).c (lookE E73 10 (es5 V l10_30))).c (lookE E73 11 (es5 V l11_30))).c (lookE E73 12 (es5 V l12_30))
  clear E73 hsz30 hdf30 l0_30 l2_30 l3_30 l4_30 l6_30 l8_30 l9_30 l10_30 l11_30 l12_30 l36_30
  have S75 := S66.del 2
  replace S75 : St wb X (cj66 :: ct66 :: c17 :: fr) w66 := S75
  have S76 := S75.del 2
  replace S76 : St wb X (cj66 :: ct66 :: fr) w66 := S76
  refine tk H62 ?_
  refine R_cond_t (fg7 F73) ?_
  refine R_ret ?_
  refine inb_ret (then_ret (then_ret (inb_ret ?_)))
  refine ret_inR0 (results_0 Try.results61 ) F73.d ?_
  exact ⟨⟨_, rfl⟩, .inr ⟨_, hT22, by subst hcj66 hct66; exact S76⟩⟩
 refine R_exit ?_
 refine then_exit (then_exit ?_)
 refine inb_hit ?_
 refine ret_inR0 (results_0 Try.results61 ) F5.d ?_
 exact ⟨⟨_, rfl⟩, .inl ⟨_, ⟨hT, by omega⟩, by subst hcj_3 hct_3; exact S3⟩⟩

set_option maxHeartbeats 4000000 in
theorem kmtP_c {gs : Nat} {lv : Value} {l : List OpC} {gc : Nat} {w : World} (h_lv : Ro w NoX (rl 7 opC lv l))  :
  Calls Try.prog 34 #[.pointer (some ⟨gs, 0, none⟩), lv, .func (.func 36) #[] #[.pointer (some ⟨gc, 0, none⟩)]] w fun e w' => ∃ g4 g3 g7 g5, e = .returned (.func (.func 61) #[] #[.pointer (some ⟨g4, 0, none⟩), .pointer (some ⟨g3, 0, none⟩), .pointer (some ⟨g7, 0, none⟩), .pointer (some ⟨g5, 0, none⟩)]) ∧ St w NoX [bx g4 24 #[lv], bx g3 73 #[.pointer (some ⟨gs, 0, none⟩)], bx g7 76 #[.func (.func 30) #[.pointer (some ⟨gs, 0, none⟩)] #[]], bx g5 85 #[.func (.func 36) #[] #[.pointer (some ⟨gc, 0, none⟩)]]] w' := by
 refine calls_in 11 Try.func34 V V (by simp) (fun A0 Y0 hdf0 hargs => ?_)
 have l0_0 := hargs 0 (.pointer (some ⟨gs, 0, none⟩)) V
 have l1_0 := hargs 1 (lv) V
 have l2_0 := hargs 2 (.func (.func 36) #[] #[.pointer (some ⟨gc, 0, none⟩)]) V
 clear hargs; replace Y0 : SzN A0 11 := ⟨Y0⟩
 have hS := St.nil w
 have bh_lv := SlN.le (sl_SlN h_lv.at)
 refine wp_seq_k fun K1 H1 => region_in ?_
 refine W_boxS (zs := #[.pointer (some ⟨gs, 0, none⟩)]) hS V V V l0_0 (by rfl) (fun g2 w2 c2 hc2 S2 => ?_)
 replace S2 : St w NoX [c2] w2 := S2
 refine W_boxS (zs := #[lv]) S2 V V V (es V l1_0) (SlN_cells (sl_SlN h_lv.at)) (fun g3 w3 c3 hc3 S3 => ?_)
 replace S3 : St w NoX [c3, c2] w3 := S3
 refine W_boxS (zs := #[.func (.func 36) #[] #[.pointer (some ⟨gc, 0, none⟩)]]) S3 V V V (es2 V l2_0) (by rfl) (fun g4 w4 c4 hc4 S4 => ?_)
 replace S4 : St w NoX [c4, c3, c2] w4 := S4
 refine W_v V V (V_asg V V) ?_
 refine W_end (gen_Q fun A5 E5 => ?_)
 have Y5 := szq E5
 have F5 := fsE E5 (cq1 (ck (ck (ck (FS.n hdf0) V V) V V) V V) V)
 clear E5 Y0 hdf0 l0_0 l1_0 l2_0
 refine tk H1 (wp_seq_k fun K6 H6 => region_in ?_)
 refine W_r V V (xlC (v := .pointer (some ⟨gs, 0, none⟩)) V (fg2 F5) (S4.obj 2 V hc2) Try.underlying73) ?_
 refine W_v V V (V_mkf V (args1 (et V)) (args0)) ?_
 refine W_allocS (z := .nilFunc) (zs := #[.nilFunc]) S4 V V V (by kernel_rfl) (by rfl) (fun g7 w7 c7 hc7 S7 => ?_)
 replace S7 : St w NoX [c7, c4, c3, c2] w7 := S7
 refine xsC (zs' := #[.func (.func 30) #[.pointer (some ⟨gs, 0, none⟩)] #[]]) 0 S7 V hc7 V V V (et V) (es V (et V)) (by rfl) (fun w8 c8 hc8 S8 => ?_)
 replace S8 : St w NoX [c8, c4, c3, c2] w8 := S8
 refine W_end (gen_Q fun A9 E9 => ?_)
 have Y9 := szq E9
 have F9 := fsE E9 (ck (cq2 F5 V) V V)
 clear E9 Y5 F5
 refine tk H6 (wp_seq_k fun K10 H10 => region_in ?_)
 refine W_v V V (V_mkf V (args0) (args4 (fg2 F9) (fg3 F9) (fg0 F9) (fg1 F9))) ?_
 refine W_v V V (V_asg V (et V)) ?_
 refine W_end (gen_Q fun A11 E11 => ?_)
 have Y11 := szq E11
 have F11 := fsE E11 (ck (cq1 F9 V) V V)
 clear E11 Y9 F9
 refine tk H10 (wp_ret ?_)
 refine ret_in (results_1 Try.results34 (rv_tmp (fg0 F11))) F11.d ?_
 exact ⟨_, _, _, _, rfl, (S8.fin4 2 V (hc3) 3 V (hc2) 0 V (hc8) 1 V (hc4) (by decide))⟩

set_option maxHeartbeats 4000000 in
theorem kmtJ_c {gs : Nat} {lv : Value} {l : List OpC} {gc : Nat} {w : World} (h_lv : Ro w NoX (rl 7 opC lv l))  :
  Calls Try.prog 34 #[.pointer (some ⟨gs, 0, none⟩), lv, .func (.func 35) #[] #[.pointer (some ⟨gc, 0, none⟩)]] w fun e w' => ∃ g4 g3 g7 g5, e = .returned (.func (.func 61) #[] #[.pointer (some ⟨g4, 0, none⟩), .pointer (some ⟨g3, 0, none⟩), .pointer (some ⟨g7, 0, none⟩), .pointer (some ⟨g5, 0, none⟩)]) ∧ St w NoX [bx g4 24 #[lv], bx g3 73 #[.pointer (some ⟨gs, 0, none⟩)], bx g7 76 #[.func (.func 30) #[.pointer (some ⟨gs, 0, none⟩)] #[]], bx g5 85 #[.func (.func 35) #[] #[.pointer (some ⟨gc, 0, none⟩)]]] w' := by
 refine calls_in 11 Try.func34 V V (by simp) (fun A0 Y0 hdf0 hargs => ?_)
 have l0_0 := hargs 0 (.pointer (some ⟨gs, 0, none⟩)) V
 have l1_0 := hargs 1 (lv) V
 have l2_0 := hargs 2 (.func (.func 35) #[] #[.pointer (some ⟨gc, 0, none⟩)]) V
 clear hargs; replace Y0 : SzN A0 11 := ⟨Y0⟩
 have hS := St.nil w
 have bh_lv := SlN.le (sl_SlN h_lv.at)
 refine wp_seq_k fun K1 H1 => region_in ?_
 refine W_boxS (zs := #[.pointer (some ⟨gs, 0, none⟩)]) hS V V V l0_0 (by rfl) (fun g2 w2 c2 hc2 S2 => ?_)
 replace S2 : St w NoX [c2] w2 := S2
 refine W_boxS (zs := #[lv]) S2 V V V (es V l1_0) (SlN_cells (sl_SlN h_lv.at)) (fun g3 w3 c3 hc3 S3 => ?_)
 replace S3 : St w NoX [c3, c2] w3 := S3
 refine W_boxS (zs := #[.func (.func 35) #[] #[.pointer (some ⟨gc, 0, none⟩)]]) S3 V V V (es2 V l2_0) (by rfl) (fun g4 w4 c4 hc4 S4 => ?_)
 replace S4 : St w NoX [c4, c3, c2] w4 := S4
 refine W_v V V (V_asg V V) ?_
 refine W_end (gen_Q fun A5 E5 => ?_)
 have Y5 := szq E5
 have F5 := fsE E5 (cq1 (ck (ck (ck (FS.n hdf0) V V) V V) V V) V)
 clear E5 Y0 hdf0 l0_0 l1_0 l2_0
 refine tk H1 (wp_seq_k fun K6 H6 => region_in ?_)
 refine W_r V V (xlC (v := .pointer (some ⟨gs, 0, none⟩)) V (fg2 F5) (S4.obj 2 V hc2) Try.underlying73) ?_
 refine W_v V V (V_mkf V (args1 (et V)) (args0)) ?_
 refine W_allocS (z := .nilFunc) (zs := #[.nilFunc]) S4 V V V (by kernel_rfl) (by rfl) (fun g7 w7 c7 hc7 S7 => ?_)
 replace S7 : St w NoX [c7, c4, c3, c2] w7 := S7
 refine xsC (zs' := #[.func (.func 30) #[.pointer (some ⟨gs, 0, none⟩)] #[]]) 0 S7 V hc7 V V V (et V) (es V (et V)) (by rfl) (fun w8 c8 hc8 S8 => ?_)
 replace S8 : St w NoX [c8, c4, c3, c2] w8 := S8
 refine W_end (gen_Q fun A9 E9 => ?_)
 have Y9 := szq E9
 have F9 := fsE E9 (ck (cq2 F5 V) V V)
 clear E9 Y5 F5
 refine tk H6 (wp_seq_k fun K10 H10 => region_in ?_)
 refine W_v V V (V_mkf V (args0) (args4 (fg2 F9) (fg3 F9) (fg0 F9) (fg1 F9))) ?_
 refine W_v V V (V_asg V (et V)) ?_
 refine W_end (gen_Q fun A11 E11 => ?_)
 have Y11 := szq E11
 have F11 := fsE E11 (ck (cq1 F9 V) V V)
 clear E11 Y9 F9
 refine tk H10 (wp_ret ?_)
 refine ret_in (results_1 Try.results34 (rv_tmp (fg0 F11))) F11.d ?_
 exact ⟨_, _, _, _, rfl, (S8.fin4 2 V (hc3) 3 V (hc2) 0 V (hc8) 1 V (hc4) (by decide))⟩

end Go.Proofs.Ytpgkfndbfocibaa